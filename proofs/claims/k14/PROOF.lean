import PyProof.Rows.All
import Wide.All
import OpenK.AllK
import Wide.FinOn
import HandS.ForMost
import HandS.ForExc
import HandS.Zip
import HandS.IsInst
import HandS.Flow
import HandS.Conv
import HandS.ExcOwn
import HandS.HeadHook1
import HandS.Lambda
import HandS.Deep
import HandS.TupAny
import Flt.Ops
import HandS.Strs
import HandS.CallSlots
import KE.DataMinMax
import PyProof.Claim2Refuses
import KE.KStateDown
import HandS.Defaults
import HandS.Head0
import HandS.Head1
import HandS.Head2
import HandS.HeadEnd
import HandS.HeadHook2
import HandS.TryOnly
import HandS.ExcField
import HandS.ExcIs
import KE.KExcIs
import HandS.Dict
import HandS.More
import HandS.SortOrd
import HandS.SortInts
import HandS.SortRule
import HandS.WordsDict
import HandS.DictComp
import HandS.Style
import PySem.Challenge.RW_wallwalk_k14_whole_great_ways
import HandS.HeadWalk
/-! The def of the law that makes lambdas (its name, the lambdas' qualified name). -/
namespace WW
open PySem
def lamName : Str := "law"
def lamQual : Str := "law.<locals>.<lambda>"
end WW
set_option Elab.async false
set_option linter.all false
set_option maxRecDepth 100000
set_option maxHeartbeats 4000000
/-! The data layer: values without a heap, slots that own their lists, readings as plain functions. -/
namespace WW
open PySem PySem.Spec L2

/-! ### data, results, slots -/
inductive D where
  | non | bl (b : Bool) | int (i : Int) | str (x : Str) | tup (l : List D) | lst (l : List D) | ins (c : Str) (ns : List Str) (l : List D) | dct (ks : List Key) (l : List D)
structure Exn where
  cls : Str
  fld : Option (Str × Int)
deriving DecidableEq
inductive R (α : Type) where
  | ok (a : α)
  | exc (x : Exn)
  | bad
def R.bind {α β : Type} : R α → (α → R β) → R β
  | .ok a, f => f a
  | .exc x, _ => .exc x
  | .bad, _ => .bad
@[simp] theorem R.bind_ok {α β : Type} (a : α) (f : α → R β) : (R.ok a).bind f = f a := rfl
@[simp] theorem R.bind_exc {α β : Type} (x : Exn) (f : α → R β) : (R.exc x).bind f = .exc x := rfl
@[simp] theorem R.bind_bad {α β : Type} (f : α → R β) : (R.bad : R α).bind f = .bad := rfl
theorem R.bind_bind {α β γ : Type} (r : R α) (f : α → R β) (g : β → R γ) : (r.bind f).bind g = r.bind fun a => (f a).bind g := by cases r <;> rfl
def R.noX {α : Type} : R α → R α
  | .exc _ => .bad
  | r => r
@[simp] theorem R.noX_ok {α : Type} (a : α) : (R.ok a).noX = .ok a := rfl
/-- a field of an own object: data, an own list, an own dict -/
inductive Fd where
  | v (d : D)
  | l (xs : List D)
  | dc (kvs : List (Key × D))
inductive Sl where
  | v (d : D)
  | l (xs : List D)
  | box (p : Addr) (ns : List Int) (st : Int)
  | obj (b : Bool) (c : Str) (ns : List Str) (xs : List Fd)
  | dc (b : Bool) (kvs : List (Key × D))
  | dob (b : Bool) (ks : List Key) (xs : List Fd)
  | tab
  | exn (a : Addr) (d : Option Addr) (x : Exn)
/-- lent by the caller: it stays where it stood -/
def Sl.isLent : Sl → Bool
  | .obj b _ _ _ => b
  | .dc b _ => b
  | .dob b _ _ => b
  | _ => false
abbrev En := List (Option Sl)
def nth : En → Nat → Option Sl
  | [], _ => none
  | a :: _, 0 => a
  | _ :: r, n + 1 => nth r n
def setE : En → Nat → Option Sl → Option En
  | [], _, _ => none
  | _ :: r, 0, s => some (s :: r)
  | a :: r, n + 1, s => match setE r n s with
    | some q => some (a :: q)
    | none => none
theorem setE_some : ∀ {e e' : En} {i : Nat} {s : Option Sl}, setE e i s = some e' → i < e.length ∧ e'.length = e.length ∧ nth e' i = s ∧ ∀ j, j ≠ i → nth e' j = nth e j
  | [], _, _, _, h => by cases h
  | a :: r, e', 0, s, h => by
    have h2 : some (s :: r) = some e' := h
    injection h2 with h3
    subst h3
    refine ⟨Nat.zero_lt_succ _, rfl, rfl, fun j hj => ?_⟩
    cases j with
    | zero => exact absurd rfl hj
    | succ j => rfl
  | a :: r, e', n + 1, s, h => by
    have h2 : (match setE r n s with
      | some q => some (a :: q)
      | none => none) = some e' := h
    cases q : setE r n s with
    | none => rw [q] at h2; cases h2
    | some q' =>
      rw [q] at h2
      injection h2 with h3
      subst h3
      obtain ⟨h1, h4, h5, h6⟩ := setE_some q
      refine ⟨Nat.succ_lt_succ h1, congrArg (· + 1) h4, h5, fun j hj => ?_⟩
      cases j with
      | zero => rfl
      | succ j => exact h6 j fun z => hj (by rw [z])
theorem nth_some_lt : ∀ {e : En} {i : Nat} {s : Sl}, nth e i = some s → i < e.length
  | [], _, _, h => by cases h
  | _ :: _, 0, _, _ => Nat.zero_lt_succ _
  | _ :: r, n + 1, s, h => Nat.succ_lt_succ (nth_some_lt (show nth r n = some s from h))
theorem nth_app_left : ∀ {e : En} {t : Option Sl} {i : Nat}, i < e.length → nth (e ++ [t]) i = nth e i
  | [], _, _, h => absurd h (Nat.not_lt_zero _)
  | _ :: _, _, 0, _ => rfl
  | _ :: r, t, n + 1, h => nth_app_left (e := r) (t := t) (Nat.lt_of_succ_lt_succ h)
theorem nth_app_last : ∀ {e : En} {t : Option Sl}, nth (e ++ [t]) e.length = t
  | [], _ => rfl
  | _ :: r, t => nth_app_last (e := r) (t := t)

/-! ### how data lies on the heap: F is the part that nobody writes -/
mutual
inductive Rep (K : PySem.W.Frag) (F : Hp) : V → D → Prop
  | non : Rep K F .non .non
  | bl (b : Bool) : Rep K F (.bl b) (.bl b)
  | int (i : Int) : Rep K F (.int i) (.int i)
  | str (x : Str) : Rep K F (.str x) (.str x)
  | tup {a : Addr} {vs : List V} {l : List D} : SqT K F a vs → Reps K F vs l → Rep K F (.ref a) (.tup l)
  | lst {a : Addr} {vs : List V} {l : List D} : F a = some (.lst vs) → Reps K F vs l → Rep K F (.ref a) (.lst l)
  | ins {a dx : Addr} {c : Str} {fs : List (Str × V)} {ns : List Str} {l : List D} : F a = some (.ins (He.ga K c) dx fs) → fs.map (·.1) = ns → Reps K F (fs.map (·.2)) l → Rep K F (.ref a) (.ins c ns l)
  | dct {a : Addr} {kvs : List (Key × V)} {ks : List Key} {l : List D} : F a = some (.dK kvs) → kvs.map (·.1) = ks → Reps K F (kvs.map (·.2)) l → Rep K F (.ref a) (.dct ks l)
inductive Reps (K : PySem.W.Frag) (F : Hp) : List V → List D → Prop
  | nil : Reps K F [] []
  | cons {v : V} {vs : List V} {d : D} {l : List D} : Rep K F v d → Reps K F vs l → Reps K F (v :: vs) (d :: l)
end
theorem same_sqT {K : PySem.W.Frag} {H H' : Hp} {a : Addr} {xs : List V} (e : Same H H') (h : SqT K H a xs) : SqT K H' a xs := by
  rcases h with (h | ⟨o, h⟩) | h
  · exact .inl (.inl (e _ _ h))
  · exact .inl (.inr ⟨o, e _ _ h⟩)
  · exact .inr h
mutual
theorem Rep.mono {K : PySem.W.Frag} {F F' : Hp} (s : Same F F') : ∀ {v : V} {d : D}, Rep K F v d → Rep K F' v d
  | _, _, .non => .non
  | _, _, .bl b => .bl b
  | _, _, .int i => .int i
  | _, _, .str x => .str x
  | _, _, .tup h r => .tup (same_sqT s h) (Reps.mono s r)
  | _, _, .lst h r => .lst (s _ _ h) (Reps.mono s r)
  | _, _, .ins h n r => .ins (s _ _ h) n (Reps.mono s r)
  | _, _, .dct h n r => .dct (s _ _ h) n (Reps.mono s r)
theorem Reps.mono {K : PySem.W.Frag} {F F' : Hp} (s : Same F F') : ∀ {vs : List V} {l : List D}, Reps K F vs l → Reps K F' vs l
  | _, _, .nil => .nil
  | _, _, .cons r t => .cons (Rep.mono s r) (Reps.mono s t)
end
section
variable {K : PySem.W.Frag} {F : Hp}
theorem Reps.length : ∀ {vs : List V} {l : List D}, Reps K F vs l → vs.length = l.length
  | _, _, .nil => rfl
  | _, _, .cons _ t => congrArg (· + 1) (Reps.length t)
theorem Reps.get : ∀ {vs : List V} {l : List D} {i : Nat} {d : D}, Reps K F vs l → l[i]? = some d → ∃ v, vs[i]? = some v ∧ Rep K F v d
  | _, _, _, _, .nil, h => by simp at h
  | _, _, 0, d, .cons r _, h => by simp at h; subst h; exact ⟨_, rfl, r⟩
  | _, _, i + 1, d, .cons _ t, h => by
    obtain ⟨v, h1, h2⟩ := Reps.get (i := i) (d := d) t (by simpa using h)
    exact ⟨v, by simpa using h1, h2⟩
theorem Reps.app : ∀ {vs us : List V} {l m : List D}, Reps K F vs l → Reps K F us m → Reps K F (vs ++ us) (l ++ m)
  | _, _, _, _, .nil, s => s
  | _, _, _, _, .cons r t, s => .cons r (Reps.app t s)
theorem Reps.drop : ∀ {vs : List V} {l : List D} (n : Nat), Reps K F vs l → Reps K F (vs.drop n) (l.drop n)
  | _, _, 0, r => r
  | _, _, _ + 1, .nil => .nil
  | _, _, n + 1, .cons _ t => Reps.drop n t
theorem Reps.take : ∀ {vs : List V} {l : List D} (n : Nat), Reps K F vs l → Reps K F (vs.take n) (l.take n)
  | _, _, 0, _ => .nil
  | _, _, _ + 1, .nil => .nil
  | _, _, n + 1, .cons r t => .cons r (Reps.take n t)
theorem Reps.set : ∀ {vs : List V} {l : List D} {v : V} {d : D} (n : Nat), Rep K F v d → Reps K F vs l → Reps K F (vs.set n v) (l.set n d)
  | _, _, _, _, _, _, .nil => .nil
  | _, _, _, _, 0, q, .cons _ t => .cons q t
  | _, _, _, _, n + 1, q, .cons r t => .cons r (Reps.set n q t)
theorem Reps.erase : ∀ {vs : List V} {l : List D} (n : Nat), Reps K F vs l → Reps K F (vs.eraseIdx n) (l.eraseIdx n)
  | _, _, _, .nil => .nil
  | _, _, 0, .cons _ t => t
  | _, _, n + 1, .cons r t => .cons r (Reps.erase n t)
theorem Reps.rev : ∀ {vs : List V} {l : List D}, Reps K F vs l → Reps K F vs.reverse l.reverse
  | _, _, .nil => .nil
  | _, _, .cons r t => by
    rw [List.reverse_cons, List.reverse_cons]
    exact (Reps.rev t).app (.cons r .nil)
theorem Rep.non_inv {v : V} (r : Rep K F v .non) : v = .non := by cases r; rfl
theorem Rep.bl_inv {v : V} {b : Bool} (r : Rep K F v (.bl b)) : v = .bl b := by cases r; rfl
theorem Rep.int_inv {v : V} {b : Int} (r : Rep K F v (.int b)) : v = .int b := by cases r; rfl
theorem Rep.str_inv {v : V} {b : Str} (r : Rep K F v (.str b)) : v = .str b := by cases r; rfl
theorem Rep.tup_inv {v : V} {l : List D} (r : Rep K F v (.tup l)) : ∃ a vs, v = .ref a ∧ SqT K F a vs ∧ Reps K F vs l := by cases r; exact ⟨_, _, rfl, by assumption, by assumption⟩
theorem Rep.lst_inv {v : V} {l : List D} (r : Rep K F v (.lst l)) : ∃ a vs, v = .ref a ∧ F a = some (.lst vs) ∧ Reps K F vs l := by cases r; exact ⟨_, _, rfl, by assumption, by assumption⟩
theorem Rep.ins_inv {v : V} {c : Str} {ns : List Str} {l : List D} (r : Rep K F v (.ins c ns l)) : ∃ a dx fs, v = .ref a ∧ F a = some (.ins (He.ga K c) dx fs) ∧ fs.map (·.1) = ns ∧ Reps K F (fs.map (·.2)) l := by
  cases r; exact ⟨_, _, _, rfl, by assumption, by assumption, by assumption⟩
theorem Rep.dct_inv {v : V} {ks : List Key} {l : List D} (r : Rep K F v (.dct ks l)) : ∃ a kvs, v = .ref a ∧ F a = some (.dK kvs) ∧ kvs.map (·.1) = ks ∧ Reps K F (kvs.map (·.2)) l := by
  cases r; exact ⟨_, _, rfl, by assumption, by assumption, by assumption⟩
theorem Reps.ints : ∀ {vs : List V} {ns : List Int}, Reps K F vs (ns.map D.int) → vs = ns.map V.int
  | _, [], .nil => rfl
  | _, n :: ns, .cons r t => by
    rw [r.int_inv, Reps.ints (ns := ns) t]
    rfl
theorem Reps.bls : ∀ {vs : List V} {ns : List Bool}, Reps K F vs (ns.map D.bl) → vs = ns.map V.bl
  | _, [], .nil => rfl
  | _, n :: ns, .cons r t => by
    rw [r.bl_inv, Reps.bls (ns := ns) t]
    rfl
theorem Reps.strs : ∀ {vs : List V} {ns : List Str}, Reps K F vs (ns.map D.str) → vs = ns.map V.str
  | _, [], .nil => rfl
  | _, n :: ns, .cons r t => by
    rw [r.str_inv, Reps.strs (ns := ns) t]
    rfl
theorem Reps.ofInts : ∀ ns : List Int, Reps K F (ns.map V.int) (ns.map D.int)
  | [] => .nil
  | n :: ns => .cons (.int n) (Reps.ofInts ns)
theorem Reps.ofStrs : ∀ ns : List Str, Reps K F (ns.map V.str) (ns.map D.str)
  | [] => .nil
  | n :: ns => .cons (.str n) (Reps.ofStrs ns)
end

/-! ### the state against the entry -/
def NoA : Addr → Prop := fun _ => False
/-- no table of code objects, no thing known by its object alone -/
def Calm (o : HO) : Prop := (∀ ps, o ≠ .tbl ps) ∧ (∀ φ, o ≠ .ext φ) ∧ ∀ fs, o ≠ .xd fs
theorem Calm.lst {xs : List V} : Calm (.lst xs) := ⟨fun _ z => (by cases z), fun _ z => (by cases z), fun _ z => (by cases z)⟩
theorem Calm.tup {xs : List V} : Calm (.tup xs) := ⟨fun _ z => (by cases z), fun _ z => (by cases z), fun _ z => (by cases z)⟩
theorem Calm.ins {C dx : Addr} {fs : List (Str × V)} : Calm (.ins C dx fs) := ⟨fun _ z => (by cases z), fun _ z => (by cases z), fun _ z => (by cases z)⟩
theorem Calm.dK {kvs : List (Key × V)} : Calm (.dK kvs) := ⟨fun _ z => (by cases z), fun _ z => (by cases z), fun _ z => (by cases z)⟩
def NT (o : HO) : Prop := ∀ ps, o ≠ .tbl ps
/-- nothing there, or a table -/
def Vac (H : Hp) (a : Addr) : Prop := ∀ o, H a = some o → ¬ NT o
theorem Vac.of {H : Hp} {a : Addr} (h : H a = none) : Vac H a := fun o e => by rw [h] at e; cases e
/-- where the code of the def at f keeps its table -/
def tabA (K : PySem.W.Frag) (f : Addr) : Option (Addr × Addr) := match K.lookup f with
  | some ⟨_, _, .func fd, _⟩ => (match fd.code with
    | .ref c => (match K.lookup c with
      | some ⟨_, _, .fields vs, _⟩ => (match (vs[11]? : Option Value) with
        | some (Value.ref P) => some (c, P)
        | _ => none)
      | _ => none)
    | _ => none)
  | _ => none
def TabP (K : PySem.W.Frag) (P : Addr) (q : Str) : Prop := (∃ c, tabA K (He.ga K lamName) = some (c, P)) ∧ q = lamQual
structure Ext (K : PySem.W.Frag) (A : Addr → Prop) (F H F' H' : Hp) : Prop where
  sub : Same F' H'
  fr : Same F F'
  keep : ∀ a o, H a = some o → ¬ A a → NT o → H' a = some o
  dom : ∀ a o, H a = some o → NT o → ∃ o', H' a = some o' ∧ NT o'
  fresh : ∀ a o, F' a = some o → F a = some o ∨ Vac H a ∨ A a
  nt : (∀ a ps, F a ≠ some (.tbl ps)) → ∀ a ps, F' a ≠ some (.tbl ps)
  tab : ∀ P q, TabP K P q → LamX.TabS H P q → LamX.TabS H' P q
  xd : ∀ a fs, H a = some (.xd fs) → H' a = some (.xd fs)
structure Bs where
  F : Hp
  H : Hp
  A : Addr → Prop
  v : V
def FdOk (K : PySem.W.Frag) (F H : Hp) (v : V) : Fd → (Addr → Prop) → Prop
  | .v d, A => Rep K F v d ∧ ∀ a, ¬ A a
  | .l xs, A => ∃ p vs, v = .ref p ∧ (∀ a, A a ↔ a = p) ∧ H p = some (.lst vs) ∧ Reps K F vs xs
  | .dc kvs, A => ∃ p kv, v = .ref p ∧ (∀ a, A a ↔ a = p) ∧ H p = some (.dK kv) ∧ kv.map (·.1) = kvs.map (·.1) ∧ Reps K F (kv.map (·.2)) (kvs.map (·.2))
inductive FdsOk (K : PySem.W.Frag) (F H : Hp) : List V → List Fd → (Addr → Prop) → Prop
  | nil {A : Addr → Prop} : (∀ a, ¬ A a) → FdsOk K F H [] [] A
  | cons {v : V} {vs : List V} {f : Fd} {fs : List Fd} {A1 A2 A : Addr → Prop} : FdOk K F H v f A1 → FdsOk K F H vs fs A2 → (∀ a, A1 a → ¬ A2 a) → (∀ a, A a ↔ (A1 a ∨ A2 a)) → FdsOk K F H (v :: vs) (f :: fs) A
def SlOk (K : PySem.W.Frag) (F H : Hp) (v : V) : Sl → (Addr → Prop) → Prop
  | .v d, A => Rep K F v d ∧ ∀ a, ¬ A a
  | .l xs, A => ∃ p vs, v = .ref p ∧ (∀ a, A a ↔ a = p) ∧ H p = some (.lst vs) ∧ Reps K F vs xs
  | .obj _ c ns xs, A => ∃ p dx fs A0, v = .ref p ∧ (∀ a, A a ↔ (a = p ∨ A0 a)) ∧ ¬ A0 p ∧ H p = some (.ins (He.ga K c) dx fs) ∧ fs.map (·.1) = ns ∧ FdsOk K F H (fs.map (·.2)) xs A0
  | .box p ns st, A => ∃ q, v = .ref p ∧ p ≠ q ∧ (∀ a, A a ↔ (a = p ∨ a = q)) ∧ H p = some (.lst [.ref q, .int st]) ∧ H q = some (.lst (ns.map V.int))
  | .dc _ kvs, A => ∃ p kv, v = .ref p ∧ (∀ a, A a ↔ a = p) ∧ H p = some (.dK kv) ∧ kv.map (·.1) = kvs.map (·.1) ∧ Reps K F (kv.map (·.2)) (kvs.map (·.2))
  | .dob _ ks xs, A => ∃ p kvs A0, v = .ref p ∧ (∀ a, A a ↔ (a = p ∨ A0 a)) ∧ ¬ A0 p ∧ H p = some (.dK kvs) ∧ kvs.map (·.1) = ks ∧ FdsOk K F H (kvs.map (·.2)) xs A0
  | .tab, A => (∀ a, ¬ A a) ∧ (∀ a ps, F a ≠ some (.tbl ps)) ∧ ∀ P q, TabP K P q → LamX.TabS H P q
  | .exn a d x, A => (∀ b, ¬ A b) ∧ v = .ref a ∧ match x.fld with
    | none => d = none
    | some (f, i) => ∃ dd, d = some dd ∧ H dd = some (.xd [(f, .int i)])
theorem FdOk.there {K : PySem.W.Frag} {F H : Hp} {v : V} {s : Fd} {A : Addr → Prop} (h : FdOk K F H v s A) : ∀ a, A a → ∃ o, H a = some o ∧ Calm o := by
  cases s with
  | v d => exact fun a z => absurd z (h.2 a)
  | l xs =>
    obtain ⟨p, vs, _, hA, hp, _⟩ := h
    intro a z
    rw [(hA a).mp z]
    exact ⟨_, hp, .lst⟩
  | dc kvs =>
    obtain ⟨p, vs, _, hA, hp, _⟩ := h
    intro a z
    rw [(hA a).mp z]
    exact ⟨_, hp, .dK⟩
theorem FdsOk.there {K : PySem.W.Frag} {F H : Hp} {vs : List V} {fs : List Fd} {A : Addr → Prop} (h : FdsOk K F H vs fs A) : ∀ a, A a → ∃ o, H a = some o ∧ Calm o := by
  induction h with
  | nil n => exact fun a z => absurd z (n a)
  | cons h1 _ _ e ih =>
    intro a z
    rcases (e a).mp z with q | q
    · exact h1.there a q
    · exact ih a q
theorem SlOk.there {K : PySem.W.Frag} {F H : Hp} {v : V} {s : Sl} {A : Addr → Prop} (h : SlOk K F H v s A) : ∀ a, A a → ∃ o, H a = some o ∧ Calm o := by
  cases s with
  | v d => exact fun a z => absurd z (h.2 a)
  | l xs =>
    obtain ⟨p, vs, _, hA, hp, _⟩ := h
    intro a z
    rw [(hA a).mp z]
    exact ⟨_, hp, .lst⟩
  | obj b c ns xs =>
    obtain ⟨p, dx, fs, A0, _, hA, _, hp, _, hf⟩ := h
    intro a z
    rcases (hA a).mp z with z | z
    · rw [z]; exact ⟨_, hp, .ins⟩
    · exact hf.there a z
  | box p ns st =>
    obtain ⟨q, _, _, hA, hp, hq⟩ := h
    intro a z
    rcases (hA a).mp z with z | z
    · rw [z]; exact ⟨_, hp, .lst⟩
    · rw [z]; exact ⟨_, hq, .lst⟩
  | dc b kvs =>
    obtain ⟨p, vs, _, hA, hp, _⟩ := h
    intro a z
    rw [(hA a).mp z]
    exact ⟨_, hp, .dK⟩
  | dob b ks xs =>
    obtain ⟨p, fs, A0, _, hA, _, hp, _, hf⟩ := h
    intro a z
    rcases (hA a).mp z with z | z
    · rw [z]; exact ⟨_, hp, .dK⟩
    · exact hf.there a z
  | tab => exact fun a z => absurd z (h.1 a)
  | exn a d x => exact fun a z => absurd z (h.1 a)
theorem FdOk.mono {K : PySem.W.Frag} {F H F' H' : Hp} {v : V} {s : Fd} {A : Addr → Prop} (h : FdOk K F H v s A) (fr : Same F F') (k : ∀ a o, A a → H a = some o → Calm o → H' a = some o) : FdOk K F' H' v s A := by
  cases s with
  | v d => exact ⟨h.1.mono fr, h.2⟩
  | l xs =>
    obtain ⟨p, vs, e, hA, hp, r⟩ := h
    exact ⟨p, vs, e, hA, k _ _ ((hA p).mpr rfl) hp .lst, r.mono fr⟩
  | dc kvs =>
    obtain ⟨p, vs, e, hA, hp, en, r⟩ := h
    exact ⟨p, vs, e, hA, k _ _ ((hA p).mpr rfl) hp .dK, en, r.mono fr⟩
theorem FdsOk.mono {K : PySem.W.Frag} {F H F' H' : Hp} {vs : List V} {fs : List Fd} {A : Addr → Prop} (h : FdsOk K F H vs fs A) (fr : Same F F') (k : ∀ a o, A a → H a = some o → Calm o → H' a = some o) : FdsOk K F' H' vs fs A := by
  induction h with
  | nil n => exact .nil n
  | cons h1 _ d e ih => exact .cons (h1.mono fr fun a o z => k a o ((e a).mpr (.inl z))) (ih fun a o z => k a o ((e a).mpr (.inr z))) d e
theorem SlOk.mono {K : PySem.W.Frag} {F H F' H' : Hp} {v : V} {s : Sl} {A : Addr → Prop} (h : SlOk K F H v s A) (fr : Same F F') (k : ∀ a o, A a → H a = some o → Calm o → H' a = some o)
    (nt : (∀ a ps, F a ≠ some (.tbl ps)) → ∀ a ps, F' a ≠ some (.tbl ps)) (tb : ∀ P q, TabP K P q → LamX.TabS H P q → LamX.TabS H' P q) (kx : ∀ a fs, H a = some (.xd fs) → H' a = some (.xd fs)) : SlOk K F' H' v s A := by
  cases s with
  | v d => exact ⟨h.1.mono fr, h.2⟩
  | l xs =>
    obtain ⟨p, vs, e, hA, hp, r⟩ := h
    exact ⟨p, vs, e, hA, k _ _ ((hA p).mpr rfl) hp .lst, r.mono fr⟩
  | obj b c ns xs =>
    obtain ⟨p, dx, fs, A0, e, hA, n0, hp, en, r⟩ := h
    exact ⟨p, dx, fs, A0, e, hA, n0, k _ _ ((hA p).mpr (.inl rfl)) hp .ins, en, r.mono fr fun a o z => k a o ((hA a).mpr (.inr z))⟩
  | box p ns st =>
    obtain ⟨q, e, ne, hA, hp, hq⟩ := h
    exact ⟨q, e, ne, hA, k _ _ ((hA p).mpr (.inl rfl)) hp .lst, k _ _ ((hA q).mpr (.inr rfl)) hq .lst⟩
  | dc b kvs =>
    obtain ⟨p, vs, e, hA, hp, en, r⟩ := h
    exact ⟨p, vs, e, hA, k _ _ ((hA p).mpr rfl) hp .dK, en, r.mono fr⟩
  | dob b ks xs =>
    obtain ⟨p, fs, A0, e, hA, n0, hp, en, r⟩ := h
    exact ⟨p, fs, A0, e, hA, n0, k _ _ ((hA p).mpr (.inl rfl)) hp .dK, en, r.mono fr fun a o z => k a o ((hA a).mpr (.inr z))⟩
  | tab => exact ⟨h.1, nt h.2.1, fun P q z => tb P q z (h.2.2 P q z)⟩
  | exn a d x =>
    obtain ⟨c, f⟩ := x
    obtain ⟨h1, h2, h3⟩ := h
    refine ⟨h1, h2, ?_⟩
    cases f with
    | none => exact h3
    | some p =>
      obtain ⟨f, i⟩ := p
      obtain ⟨dd, e1, e2⟩ := h3
      exact ⟨dd, e1, kx _ _ e2⟩
theorem FdOk.uniq {K : PySem.W.Frag} {F H : Hp} {v : V} {s : Fd} {A A' : Addr → Prop} (h : FdOk K F H v s A) (h' : FdOk K F H v s A') : ∀ a, A a ↔ A' a := by
  cases s with
  | v d => exact fun a => ⟨fun z => absurd z (h.2 a), fun z => absurd z (h'.2 a)⟩
  | l xs =>
    obtain ⟨p, vs, e, hA, _⟩ := h
    obtain ⟨p', vs', e', hA', _⟩ := h'
    rw [e] at e'
    injection e' with e'
    subst e'
    exact fun a => (hA a).trans (hA' a).symm
  | dc kvs =>
    obtain ⟨p, vs, e, hA, _⟩ := h
    obtain ⟨p', vs', e', hA', _⟩ := h'
    rw [e] at e'
    injection e' with e'
    subst e'
    exact fun a => (hA a).trans (hA' a).symm
theorem FdsOk.uniq {K : PySem.W.Frag} {F H : Hp} {vs : List V} {fs : List Fd} {A A' : Addr → Prop} (h : FdsOk K F H vs fs A) (h' : FdsOk K F H vs fs A') : ∀ a, A a ↔ A' a := by
  induction h generalizing A' with
  | nil n =>
    cases h' with
    | nil n' => exact fun a => ⟨fun z => absurd z (n a), fun z => absurd z (n' a)⟩
  | cons h1 _ _ e ih =>
    cases h' with
    | cons k1 k2 _ e' => exact fun a => by rw [e a, e' a, h1.uniq k1 a, ih k2 a]
theorem SlOk.uniq {K : PySem.W.Frag} {F H : Hp} {v : V} {s : Sl} {A A' : Addr → Prop} (h : SlOk K F H v s A) (h' : SlOk K F H v s A') : A = A' := by
  cases s with
  | v d => exact funext fun a => propext ⟨fun z => absurd z (h.2 a), fun z => absurd z (h'.2 a)⟩
  | l xs =>
    obtain ⟨p, vs, e, hA, _⟩ := h
    obtain ⟨p', vs', e', hA', _⟩ := h'
    rw [e] at e'
    injection e' with e'
    subst e'
    exact funext fun a => propext ((hA a).trans (hA' a).symm)
  | obj b c ns xs =>
    obtain ⟨p, dx, fs, A0, e, hA, _, hp, _, hf⟩ := h
    obtain ⟨p', dx', fs', A0', e', hA', _, hp', _, hf'⟩ := h'
    rw [e] at e'
    injection e' with e'
    subst e'
    rw [hp] at hp'
    injection hp' with hp'
    injection hp' with _ _ hp'
    subst hp'
    exact funext fun a => propext (by rw [hA a, hA' a, hf.uniq hf' a])
  | box p ns st =>
    obtain ⟨q, _, _, hA, hp, _⟩ := h
    obtain ⟨q', _, _, hA', hp', _⟩ := h'
    rw [hp] at hp'
    injection hp' with hp'
    injection hp' with hp'
    injection hp' with hp' _
    injection hp' with hp'
    subst hp'
    exact funext fun a => propext ((hA a).trans (hA' a).symm)
  | dc b kvs =>
    obtain ⟨p, vs, e, hA, _⟩ := h
    obtain ⟨p', vs', e', hA', _⟩ := h'
    rw [e] at e'
    injection e' with e'
    subst e'
    exact funext fun a => propext ((hA a).trans (hA' a).symm)
  | dob b ks xs =>
    obtain ⟨p, fs, A0, e, hA, _, hp, _, hf⟩ := h
    obtain ⟨p', fs', A0', e', hA', _, hp', _, hf'⟩ := h'
    rw [e] at e'
    injection e' with e'
    subst e'
    rw [hp] at hp'
    injection hp' with hp'
    injection hp' with hp'
    subst hp'
    exact funext fun a => propext (by rw [hA a, hA' a, hf.uniq hf' a])
  | tab => exact funext fun a => propext ⟨fun z => absurd z (h.1 a), fun z => absurd z (h'.1 a)⟩
  | exn a d x => exact funext fun a => propext ⟨fun z => absurd z (h.1 a), fun z => absurd z (h'.1 a)⟩
structure Slots (K : PySem.W.Frag) (B : Bs) (F H : Hp) (σ : St) (e : En) (fp : Nat → Addr → Prop) : Prop where
  ok : ∀ i s, nth e i = some s → ∃ v, σ[i]? = some (some v) ∧ SlOk K F H v s (fp i)
  own : ∀ i a, fp i a → F a = none ∧ (B.A a ∨ Vac B.H a) ∧ (∃ o, H a = some o ∧ Calm o) ∧ nth e i ≠ none
  apart : ∀ i j a, fp i a → fp j a → i = j
  lent : ∀ i s v, nth e i = some s → s.isLent = true → σ[i]? = some (some v) → v = B.v
structure Rl (K : PySem.W.Frag) (B : Bs) (F H : Hp) (σ : St) (e : En) : Prop where
  len : e.length = σ.length
  ext : Ext K B.A B.F B.H F H
  slots : ∃ fp, Slots K B F H σ e fp
section
variable {K : PySem.W.Frag} {B : Bs} {F H F' H' : Hp} {σ : St} {e : En}
theorem Ext.refl {A : Addr → Prop} (s : Same F H) : Ext K A F H F H := ⟨s, Same.refl _, fun _ _ h _ _ => h, fun _ o h c => ⟨o, h, c⟩, fun _ _ h => .inl h, fun h => h, fun _ _ _ h => h, fun _ _ h => h⟩
theorem Ext.vac {A : Addr → Prop} {F0 H0 : Hp} (x : Ext K A F0 H0 F H) {a : Addr} (h : Vac H a) : Vac H0 a := fun o e c => by
  obtain ⟨o', e', c'⟩ := x.dom a o e c
  exact h o' e' c'
theorem Ext.trans {A A' : Addr → Prop} {F0 H0 : Hp} (x : Ext K A F0 H0 F H) (y : Ext K A' F H F' H') (hA : ∀ a, A' a → A a ∨ Vac H0 a) : Ext K A F0 H0 F' H' where
  sub := y.sub
  fr := x.fr.trans y.fr
  keep := fun a o h n nt => y.keep a o (x.keep a o h n nt) (fun z => by
    rcases hA a z with q | q
    · exact n q
    · exact q o h nt) nt
  dom := fun a o h c => by
    obtain ⟨o1, h1, c1⟩ := x.dom a o h c
    exact y.dom a o1 h1 c1
  fresh := fun a o h => by
    rcases y.fresh a o h with q | q | q
    · exact x.fresh a o q
    · exact .inr (.inl (x.vac q))
    · rcases hA a q with z | z
      · exact .inr (.inr z)
      · exact .inr (.inl z)
  nt := fun h => y.nt (x.nt h)
  tab := fun P q t h => y.tab P q t (x.tab P q t h)
  xd := fun a fs h => y.xd a fs (x.xd a fs h)
/-- what is owned is written, all else stays -/
theorem Ext.own {A : Addr → Prop} (s : Same F H) (hA : ∀ a, A a → F a = none) (hc : ∀ a, A a → ∃ o, H a = some o ∧ Calm o) (k : ∀ a o, H a = some o → ¬ A a → H' a = some o) (d : ∀ a, A a → ∃ o, H' a = some o ∧ NT o) : Ext K A F H F H' where
  sub := fun a o h => k a o (s a o h) fun z => by rw [hA a z] at h; cases h
  fr := Same.refl _
  keep := fun a o h n _ => k a o h n
  dom := fun a o h c => by
    by_cases z : A a
    · exact d a z
    · exact ⟨o, k a o h z, c⟩
  fresh := fun a o h => .inl h
  nt := fun h => h
  tab := fun P q _ ⟨ps, h1, h2, h3⟩ => by
    refine ⟨ps, k _ _ h1 fun z => ?_, h2, fun pos cv hc2 => ?_⟩
    · obtain ⟨o, e, c⟩ := hc P z
      rw [h1] at e
      exact c.1 ps (Option.some.inj e).symm
    · obtain ⟨c, e1, e2⟩ := h3 pos cv hc2
      refine ⟨c, e1, k _ _ e2 fun z => ?_⟩
      obtain ⟨o, e, cl⟩ := hc c z
      rw [e2] at e
      exact cl.2.1 _ (Option.some.inj e).symm
  xd := fun a fs h => k _ _ h fun z => by
    obtain ⟨o, e, cl⟩ := hc a z
    rw [h] at e
    exact cl.2.2 _ (Option.some.inj e).symm
/-- one thing that is owned is written -/
theorem Ext.own1 {A : Addr → Prop} {p : Addr} {o u : HO} (s : Same F H) (hF : F p = none) (hA : A p) (hp : H p = some o) (c : Calm o) (cu : NT u := by intro _ z; cases z) : Ext K A F H F (upd H p u) where
  sub := fun a v h => by
    have ne : a ≠ p := fun z => by rw [z, hF] at h; cases h
    rw [upd_ne ne]; exact s a v h
  fr := Same.refl _
  keep := fun a v h n _ => by
    have ne : a ≠ p := fun z => n (by rw [z]; exact hA)
    rw [upd_ne ne]; exact h
  dom := fun a v h cv => by
    by_cases z : a = p
    · rw [z]; exact ⟨_, upd_same, cu⟩
    · exact ⟨v, by rw [upd_ne z]; exact h, cv⟩
  fresh := fun a o h => .inl h
  nt := fun h => h
  tab := fun P q _ ⟨ps, h1, h2, h3⟩ => by
    refine ⟨ps, ?_, h2, fun pos cv hc2 => ?_⟩
    · rw [upd_ne fun z => ?_]
      · exact h1
      · rw [z, hp] at h1
        exact c.1 ps (Option.some.inj h1)
    · obtain ⟨d, e1, e2⟩ := h3 pos cv hc2
      refine ⟨d, e1, ?_⟩
      rw [upd_ne fun z => ?_]
      · exact e2
      · rw [z, hp] at e2
        exact c.2.1 _ (Option.some.inj e2)
  xd := fun a fs h => by
    rw [upd_ne fun z => ?_]
    · exact h
    · rw [z, hp] at h
      exact c.2.2 _ (Option.some.inj h)
/-- nothing that is owned changes -/
theorem Slots.step {fp : Nat → Addr → Prop} (S : Slots K B F H σ e fp) (x : Ext K NoA F H F' H') : Slots K B F' H' σ e fp where
  ok := fun i s h => by
    obtain ⟨v, h1, h2⟩ := S.ok i s h
    exact ⟨v, h1, h2.mono x.fr (fun a o _ q c => x.keep a o q (fun z => z) c.1) x.nt x.tab x.xd⟩
  own := fun i a h => by
    obtain ⟨h1, h2, ⟨o, h3, hc⟩, h4⟩ := S.own i a h
    refine ⟨?_, h2, ⟨o, x.keep a o h3 (fun z => z) hc.1, hc⟩, h4⟩
    cases q : F' a with
    | none => rfl
    | some u =>
      rcases x.fresh a u q with z | z | z
      · rw [h1] at z; cases z
      · exact (z _ h3 hc.1).elim
      · exact z.elim
  apart := S.apart
  lent := S.lent
theorem Rl.step (R : Rl K B F H σ e) (x : Ext K NoA F H F' H') : Rl K B F' H' σ e := by
  obtain ⟨l, ex, fp, S⟩ := R
  exact ⟨l, ex.trans x (fun _ z => z.elim), fp, S.step x⟩
theorem Rl.sub (R : Rl K B F H σ e) : Same F H := R.ext.sub
/-- a fresh frozen object -/
theorem ext_new {p : Addr} {o : HO} (s : Same F H) (hp : H p = none) (c : ∀ ps, o ≠ .tbl ps := by intro _ z; cases z) : Ext K NoA F H (upd F p o) (upd H p o) where
  sub := fun b u h => by
    by_cases hb : b = p
    · subst hb; rw [upd_same] at h ⊢; exact h
    · rw [upd_ne hb] at h ⊢; exact s b u h
  fr := fun b u h => by
    have hb : b ≠ p := fun z => by
      subst z
      have := s _ _ h
      rw [hp] at this; cases this
    rw [upd_ne hb]; exact h
  keep := fun b u h _ _ => by rw [upd_ne (ne_of_none h hp)]; exact h
  dom := fun b u h c => ⟨u, by rw [upd_ne (ne_of_none h hp)]; exact h, c⟩
  fresh := fun b u h => by
    by_cases hb : b = p
    · subst hb; exact .inr (.inl (.of hp))
    · rw [upd_ne hb] at h; exact .inl h
  nt := fun h a ps => by
    by_cases hb : a = p
    · rw [hb, upd_same]; exact fun z => c ps (Option.some.inj z)
    · rw [upd_ne hb]; exact h a ps
  tab := fun P q _ t => t.ext fun b u h => by rw [upd_ne (ne_of_none h hp)]; exact h
  xd := fun b u h => by rw [upd_ne (ne_of_none h hp)]; exact h
/-- a fresh object that is not frozen -/
theorem ext_raw {p : Addr} {o : HO} (s : Same F H) (hp : H p = none) : Ext K NoA F H F (upd H p o) where
  sub := fun b u h => by rw [upd_ne (ne_of_none (s b u h) hp)]; exact s b u h
  fr := Same.refl _
  keep := fun b u h _ _ => by rw [upd_ne (ne_of_none h hp)]; exact h
  dom := fun b u h c => ⟨u, by rw [upd_ne (ne_of_none h hp)]; exact h, c⟩
  fresh := fun b u h => .inl h
  nt := fun h => h
  tab := fun P q _ t => t.ext fun b u h => by rw [upd_ne (ne_of_none h hp)]; exact h
  xd := fun b u h => by rw [upd_ne (ne_of_none h hp)]; exact h
/-- what is owned is frozen: nothing is written -/
theorem Ext.frz {A : Addr → Prop} {p : Addr} {o : HO} (s : Same F H) (hF : F p = none) (hA : A p) (hp : H p = some o) (c : Calm o) : Ext K A F H (upd F p o) H where
  sub := fun b u h => by
    by_cases hb : b = p
    · subst hb; rw [upd_same] at h; rw [hp]; exact h
    · rw [upd_ne hb] at h; exact s b u h
  fr := fun b u h => by
    have hb : b ≠ p := fun z => by subst z; rw [hF] at h; cases h
    rw [upd_ne hb]; exact h
  keep := fun _ _ h _ _ => h
  dom := fun _ o h c => ⟨o, h, c⟩
  fresh := fun b o h => by
    by_cases hb : b = p
    · subst hb; exact .inr (.inr hA)
    · rw [upd_ne hb] at h; exact .inl h
  nt := fun h a ps => by
    by_cases hb : a = p
    · rw [hb, upd_same]; exact fun z => c.1 ps (Option.some.inj z)
    · rw [upd_ne hb]; exact h a ps
  tab := fun _ _ _ t => t
  xd := fun _ _ h => h
/-- a slot is stored: plain data -/
theorem Rl.setV {i : Nat} {v : V} {d : D} {e' : En} (R : Rl K B F H σ e) (r : Rep K F v d) (h : setE e i (some (.v d)) = some e') : Rl K B F H (σ.set i (some v)) e' := by
  obtain ⟨l, ex, fp, S⟩ := R
  obtain ⟨h1, h2, h3, h4⟩ := setE_some h
  refine ⟨by rw [h2, List.length_set]; exact l, ex, fun j a => j ≠ i ∧ fp j a, fun j s hs => ?_, fun j a ⟨hj, ha⟩ => ?_, fun j k a ⟨_, ha⟩ ⟨_, hb⟩ => S.apart j k a ha hb, fun j s u hs hl hu => ?_⟩
  · by_cases hj : j = i
    · subst hj
      rw [h3] at hs
      injection hs with hs
      subst hs
      exact ⟨v, List.getElem?_set_self (by rw [← l]; exact h1), r, fun a z => z.1 rfl⟩
    · rw [h4 j hj] at hs
      obtain ⟨u, q1, q2⟩ := S.ok j s hs
      refine ⟨u, by rw [List.getElem?_set_ne (Ne.symm hj)]; exact q1, ?_⟩
      have ea : (fun a => j ≠ i ∧ fp j a) = fp j := funext fun a => propext ⟨fun z => z.2, fun z => ⟨hj, z⟩⟩
      show SlOk K F H u s (fun a => j ≠ i ∧ fp j a)
      rw [ea]
      exact q2
  · obtain ⟨q1, q2, q3, q4⟩ := S.own j a ha
    exact ⟨q1, q2, q3, by rw [h4 j hj]; exact q4⟩
  · by_cases hj : j = i
    · subst hj
      rw [h3] at hs
      injection hs with hs
      subst hs
      cases hl
    · rw [h4 j hj] at hs
      rw [List.getElem?_set_ne (Ne.symm hj)] at hu
      exact S.lent j s u hs hl hu
/-- a slot is forgotten -/
theorem Rl.forget {i : Nat} {e' : En} (R : Rl K B F H σ e) (h : setE e i none = some e') : Rl K B F H σ e' := by
  obtain ⟨l, ex, fp, S⟩ := R
  obtain ⟨h1, h2, h3, h4⟩ := setE_some h
  refine ⟨by rw [h2]; exact l, ex, fun j a => j ≠ i ∧ fp j a, fun j s hs => ?_, fun j a ⟨hj, ha⟩ => ?_, fun j k a ⟨_, ha⟩ ⟨_, hb⟩ => S.apart j k a ha hb, fun j s u hs hl hu => ?_⟩
  · by_cases hj : j = i
    · subst hj
      rw [h3] at hs
      cases hs
    · rw [h4 j hj] at hs
      obtain ⟨u, q1, q2⟩ := S.ok j s hs
      refine ⟨u, q1, ?_⟩
      have ea : (fun a => j ≠ i ∧ fp j a) = fp j := funext fun a => propext ⟨fun z => z.2, fun z => ⟨hj, z⟩⟩
      show SlOk K F H u s (fun a => j ≠ i ∧ fp j a)
      rw [ea]
      exact q2
  · obtain ⟨q1, q2, q3, q4⟩ := S.own j a ha
    exact ⟨q1, q2, q3, by rw [h4 j hj]; exact q4⟩
  · by_cases hj : j = i
    · subst hj
      rw [h3] at hs
      cases hs
    · rw [h4 j hj] at hs
      exact S.lent j s u hs hl hu
/-- a slot's own things change: what it owns behind is what it owned, or new -/
theorem Rl.change {i : Nat} {s s' : Sl} {v : V} {e' : En} (R : Rl K B F H σ e) (hs : nth e i = some s) (hv : σ[i]? = some (some v)) (h : setE e i (some s') = some e')
    (k : ∀ A : Addr → Prop, SlOk K F H v s A → (∀ a, A a → F a = none) → ∃ A' : Addr → Prop, Ext K A F H F' H' ∧ SlOk K F' H' v s' A' ∧ (∀ a, A' a → F' a = none ∧ (A a ∨ Vac H a)))
    (hlt : s'.isLent = true → s.isLent = true := by intro h; first | exact h | cases h) : Rl K B F' H' σ e' := by
  obtain ⟨l, ex, fp, S⟩ := R
  obtain ⟨h1, h2, h3, h4⟩ := setE_some h
  obtain ⟨v1, e1, ok1⟩ := S.ok i s hs
  rw [hv] at e1
  injection e1 with e1
  injection e1 with e1
  subst e1
  obtain ⟨A', x, ok2, hA⟩ := k (fp i) ok1 fun a z => (S.own i a z).1
  have hB : ∀ a, Vac H a → Vac B.H a := fun a z => ex.vac z
  refine ⟨by rw [h2]; exact l, ex.trans x (fun a z => (S.own i a z).2.1), fun j a => if j = i then A' a else fp j a, fun j t ht => ?_, fun j a ha => ?_, fun j k a ha hb => ?_, fun j t u ht hl hu => ?_⟩
  · by_cases hj : j = i
    · subst hj
      rw [h3] at ht
      injection ht with ht
      subst ht
      refine ⟨v, hv, ?_⟩
      have ea : (fun a => if j = j then A' a else fp j a) = A' := funext fun a => if_pos rfl
      show SlOk K F' H' v s' (fun a => if j = j then A' a else fp j a)
      rw [ea]
      exact ok2
    · rw [h4 j hj] at ht
      obtain ⟨u, q1, q2⟩ := S.ok j t ht
      refine ⟨u, q1, ?_⟩
      have ea : (fun a => if j = i then A' a else fp j a) = fp j := funext fun a => if_neg hj
      show SlOk K F' H' u t (fun a => if j = i then A' a else fp j a)
      rw [ea]
      exact q2.mono x.fr (fun a o ha hq c => x.keep a o hq (fun z => hj (S.apart j i a ha z)) c.1) x.nt x.tab x.xd
  · by_cases hj : j = i
    · rw [if_pos hj] at ha
      obtain ⟨q1, q2⟩ := hA a ha
      refine ⟨q1, ?_, ok2.there a ha, by rw [hj, h3]; exact fun z => by cases z⟩
      rcases q2 with q2 | q2
      · exact (S.own i a q2).2.1
      · exact .inr (hB a q2)
    · rw [if_neg hj] at ha
      obtain ⟨q1, q2, ⟨o, q3, qc⟩, q4⟩ := S.own j a ha
      refine ⟨?_, q2, ⟨o, x.keep a o q3 (fun z => hj (S.apart j i a ha z)) qc.1, qc⟩, by rw [h4 j hj]; exact q4⟩
      cases q : F' a with
      | none => rfl
      | some u =>
        rcases x.fresh a u q with z | z | z
        · rw [q1] at z; cases z
        · exact (z _ q3 qc.1).elim
        · exact absurd (S.apart j i a ha z) hj
  · by_cases hj : j = i
    · by_cases hk : k = i
      · rw [hj, hk]
      · rw [if_pos hj] at ha
        rw [if_neg hk] at hb
        obtain ⟨_, q2⟩ := hA a ha
        rcases q2 with q2 | q2
        · exact absurd (S.apart k i a hb q2) hk
        · obtain ⟨_, _, ⟨o, q3, qc⟩, _⟩ := S.own k a hb
          exact (q2 _ q3 qc.1).elim
    · by_cases hk : k = i
      · rw [if_neg hj] at ha
        rw [if_pos hk] at hb
        obtain ⟨_, q2⟩ := hA a hb
        rcases q2 with q2 | q2
        · exact absurd (S.apart j i a ha q2) hj
        · obtain ⟨_, _, ⟨o, q3, qc⟩, _⟩ := S.own j a ha
          exact (q2 _ q3 qc.1).elim
      · rw [if_neg hj] at ha
        rw [if_neg hk] at hb
        exact S.apart j k a ha hb
  · by_cases hj : j = i
    · subst hj
      rw [h3] at ht
      injection ht with ht
      subst ht
      exact S.lent j s u hs (hlt hl) hu
    · rw [h4 j hj] at ht
      exact S.lent j t u ht hl hu
/-- a new own thing, in a place behind the slots -/
theorem Rl.more {v : V} {s : Sl} {A : Addr → Prop} (R : Rl K B F H σ e) (x : Ext K NoA F H F' H') (ok : SlOk K F' H' v s A) (hA : ∀ a, A a → F' a = none ∧ H a = none) (hlt : s.isLent = false := by rfl) : Rl K B F' H' (σ ++ [some v]) (e ++ [some s]) := by
  obtain ⟨l, ex, fp, S⟩ := R
  have S' := S.step x
  have hB : ∀ a, Vac H a → Vac B.H a := fun a z => ex.vac z
  have le : ∀ j a, fp j a → j < e.length := fun j a z => by
    obtain ⟨_, _, _, q⟩ := S.own j a z
    cases h : nth e j with
    | none => exact absurd h q
    | some t => exact nth_some_lt h
  refine ⟨by rw [List.length_append, List.length_append, l]; rfl, ex.trans x (fun _ z => z.elim), fun j a => if j = e.length then A a else fp j a, fun j t ht => ?_, fun j a ha => ?_, fun j k a ha hb => ?_, fun j t u ht hl hu => ?_⟩
  · by_cases hj : j = e.length
    · subst hj
      rw [nth_app_last] at ht
      injection ht with ht
      subst ht
      refine ⟨v, by rw [l, List.getElem?_append_right (Nat.le_refl _)]; simp, ?_⟩
      have ea : (fun a => if e.length = e.length then A a else fp e.length a) = A := funext fun a => if_pos rfl
      show SlOk K F' H' v s (fun a => if e.length = e.length then A a else fp e.length a)
      rw [ea]
      exact ok
    · have hlt : j < e.length := by
        have := nth_some_lt ht
        rw [List.length_append] at this
        simp at this
        omega
      rw [nth_app_left hlt] at ht
      obtain ⟨u, q1, q2⟩ := S'.ok j t ht
      refine ⟨u, by rw [List.getElem?_append_left (by rw [← l]; exact hlt)]; exact q1, ?_⟩
      have ea : (fun a => if j = e.length then A a else fp j a) = fp j := funext fun a => if_neg hj
      show SlOk K F' H' u t (fun a => if j = e.length then A a else fp j a)
      rw [ea]
      exact q2
  · by_cases hj : j = e.length
    · rw [if_pos hj] at ha
      obtain ⟨q1, q2⟩ := hA a ha
      exact ⟨q1, .inr (hB a (.of q2)), ok.there a ha, by rw [hj, nth_app_last]; exact fun z => by cases z⟩
    · rw [if_neg hj] at ha
      obtain ⟨q1, q2, q3, q4⟩ := S'.own j a ha
      exact ⟨q1, q2, q3, by rw [nth_app_left (le j a ha)]; exact q4⟩
  · by_cases hj : j = e.length
    · by_cases hk : k = e.length
      · rw [hj, hk]
      · rw [if_pos hj] at ha
        rw [if_neg hk] at hb
        obtain ⟨_, _, ⟨o, q3, _⟩, _⟩ := S.own k a hb
        rw [(hA a ha).2] at q3; cases q3
    · by_cases hk : k = e.length
      · rw [if_neg hj] at ha
        rw [if_pos hk] at hb
        obtain ⟨_, _, ⟨o, q3, _⟩, _⟩ := S.own j a ha
        rw [(hA a hb).2] at q3; cases q3
      · rw [if_neg hj] at ha
        rw [if_neg hk] at hb
        exact S.apart j k a ha hb
  · by_cases hj : j = e.length
    · subst hj
      rw [nth_app_last] at ht
      injection ht with ht
      subst ht
      rw [hlt] at hl
      cases hl
    · have hlt2 : j < e.length := by
        have := nth_some_lt ht
        rw [List.length_append] at this
        simp at this
        omega
      rw [nth_app_left hlt2] at ht
      rw [List.getElem?_append_left (by rw [← l]; exact hlt2)] at hu
      exact S.lent j t u ht hl hu
/-- the place behind is left -/
theorem Rl.less {v : Option V} {s : Option Sl} (R : Rl K B F H (σ ++ [v]) (e ++ [s])) : Rl K B F H σ e := by
  obtain ⟨l, ex, fp, S⟩ := R
  have l' : e.length = σ.length := by
    rw [List.length_append, List.length_append] at l
    simpa using l
  refine ⟨l', ex, fun j a => j < e.length ∧ fp j a, fun j t ht => ?_, fun j a ⟨hj, ha⟩ => ?_, fun j k a ⟨_, ha⟩ ⟨_, hb⟩ => S.apart j k a ha hb, fun j t u ht hl hu => S.lent j t u (by rw [nth_app_left (nth_some_lt ht)]; exact ht) hl (by rw [List.getElem?_append_left (by rw [← l']; exact nth_some_lt ht)]; exact hu)⟩
  · have hlt := nth_some_lt ht
    obtain ⟨u, q1, q2⟩ := S.ok j t (by rw [nth_app_left hlt]; exact ht)
    refine ⟨u, by rw [List.getElem?_append_left (by rw [← l']; exact hlt)] at q1; exact q1, ?_⟩
    have ea : (fun a => j < e.length ∧ fp j a) = fp j := funext fun a => propext ⟨fun z => z.2, fun z => ⟨hlt, z⟩⟩
    show SlOk K F H u t (fun a => j < e.length ∧ fp j a)
    rw [ea]
    exact q2
  · obtain ⟨q1, q2, q3, q4⟩ := S.own j a ha
    exact ⟨q1, q2, q3, by rw [nth_app_left hj] at q4; exact q4⟩
/-- .. is moved into a slot -/
theorem Rl.move {i : Nat} {v : V} {s : Sl} {e' : En} (R : Rl K B F H (σ ++ [some v]) (e ++ [some s])) (h : setE e i (some s) = some e') : Rl K B F H (σ.set i (some v)) e' := by
  obtain ⟨l, ex, fp, S⟩ := R
  have l' : e.length = σ.length := by
    rw [List.length_append, List.length_append] at l
    simpa using l
  obtain ⟨h1, h2, h3, h4⟩ := setE_some h
  have hlast : (σ ++ [some v])[e.length]? = some (some v) := by rw [l', List.getElem?_append_right (Nat.le_refl _)]; simp
  refine ⟨by rw [h2, List.length_set]; exact l', ex, fun j a => if j = i then fp e.length a else (j < e.length ∧ fp j a), fun j t ht => ?_, fun j a ha => ?_, fun j k a ha hb => ?_, fun j t u ht hl hu => ?_⟩
  · by_cases hj : j = i
    · subst hj
      rw [h3] at ht
      injection ht with ht
      subst ht
      obtain ⟨u, q1, q2⟩ := S.ok e.length s nth_app_last
      rw [hlast] at q1
      injection q1 with q1
      injection q1 with q1
      subst q1
      refine ⟨v, List.getElem?_set_self (by rw [← l']; exact h1), ?_⟩
      have ea : (fun a => if j = j then fp e.length a else (j < e.length ∧ fp j a)) = fp e.length := funext fun a => if_pos rfl
      show SlOk K F H v s (fun a => if j = j then fp e.length a else (j < e.length ∧ fp j a))
      rw [ea]
      exact q2
    · rw [h4 j hj] at ht
      have hlt := nth_some_lt ht
      obtain ⟨u, q1, q2⟩ := S.ok j t (by rw [nth_app_left hlt]; exact ht)
      refine ⟨u, by rw [List.getElem?_set_ne (Ne.symm hj)]; rw [List.getElem?_append_left (by rw [← l']; exact hlt)] at q1; exact q1, ?_⟩
      have ea : (fun a => if j = i then fp e.length a else (j < e.length ∧ fp j a)) = fp j := funext fun a => by
        rw [if_neg hj]
        exact propext ⟨fun z => z.2, fun z => ⟨hlt, z⟩⟩
      show SlOk K F H u t (fun a => if j = i then fp e.length a else (j < e.length ∧ fp j a))
      rw [ea]
      exact q2
  · by_cases hj : j = i
    · rw [if_pos hj] at ha
      obtain ⟨q1, q2, q3, q4⟩ := S.own e.length a ha
      exact ⟨q1, q2, q3, by rw [hj, h3]; exact fun z => by cases z⟩
    · rw [if_neg hj] at ha
      obtain ⟨q1, q2, q3, q4⟩ := S.own j a ha.2
      exact ⟨q1, q2, q3, by rw [h4 j hj]; rw [nth_app_left ha.1] at q4; exact q4⟩
  · by_cases hj : j = i
    · by_cases hk : k = i
      · rw [hj, hk]
      · rw [if_pos hj] at ha
        rw [if_neg hk] at hb
        have := S.apart e.length k a ha hb.2
        have := hb.1
        omega
    · by_cases hk : k = i
      · rw [if_neg hj] at ha
        rw [if_pos hk] at hb
        have := S.apart e.length j a hb ha.2
        have := ha.1
        omega
      · rw [if_neg hj] at ha
        rw [if_neg hk] at hb
        exact S.apart j k a ha.2 hb.2
  · by_cases hj : j = i
    · subst hj
      rw [h3] at ht
      injection ht with ht
      subst ht
      rw [List.getElem?_set_self (by rw [← l']; exact h1)] at hu
      injection hu with hu
      injection hu with hu
      rw [← hu]
      exact S.lent e.length s v nth_app_last hl hlast
    · rw [h4 j hj] at ht
      have hlt := nth_some_lt ht
      rw [List.getElem?_set_ne (Ne.symm hj)] at hu
      exact S.lent j t u (by rw [nth_app_left hlt]; exact ht) hl (by rw [List.getElem?_append_left (by rw [← l']; exact hlt)]; exact hu)
/-- .. its list is frozen -/
theorem Rl.freeze {v : V} {xs : List D} (R : Rl K B F H (σ ++ [some v]) (e ++ [some (.l xs)])) : ∃ F', Same F F' ∧ Rl K B F' H σ e ∧ Rep K F' v (.lst xs) := by
  obtain ⟨l, ex, fp, S⟩ := R
  have l' : e.length = σ.length := by
    rw [List.length_append, List.length_append] at l
    simpa using l
  obtain ⟨u, q1, p, vs, rfl, hA, hp, r⟩ := S.ok e.length (.l xs) nth_app_last
  have hlast : (σ ++ [some v])[e.length]? = some (some v) := by rw [l', List.getElem?_append_right (Nat.le_refl _)]; simp
  rw [hlast] at q1
  injection q1 with q1
  injection q1 with q1
  subst q1
  obtain ⟨fn, fb, _, _⟩ := S.own e.length p ((hA p).mpr rfl)
  have sm : Same F (upd F p (.lst vs)) := fun b o h => by
    have hb : b ≠ p := fun z => by subst z; rw [fn] at h; cases h
    rw [upd_ne hb]; exact h
  have xf : Ext K (fun a => a = p) F H (upd F p (.lst vs)) H := Ext.frz ex.sub fn rfl hp .lst
  refine ⟨upd F p (.lst vs), sm, ⟨l', ex.trans xf (fun a z => by rw [z]; exact fb), fun j a => j < e.length ∧ fp j a, fun j t ht => ?_, fun j a ⟨hj, ha⟩ => ?_, fun j k a ⟨_, ha⟩ ⟨_, hb⟩ => S.apart j k a ha hb, fun j t u ht hl hu => S.lent j t u (by rw [nth_app_left (nth_some_lt ht)]; exact ht) hl (by rw [List.getElem?_append_left (by rw [← l']; exact nth_some_lt ht)]; exact hu)⟩, .lst upd_same (r.mono sm)⟩
  · have hlt := nth_some_lt ht
    obtain ⟨u, q1, q2⟩ := S.ok j t (by rw [nth_app_left hlt]; exact ht)
    refine ⟨u, by rw [List.getElem?_append_left (by rw [← l']; exact hlt)] at q1; exact q1, ?_⟩
    have ea : (fun a => j < e.length ∧ fp j a) = fp j := funext fun a => propext ⟨fun z => z.2, fun z => ⟨hlt, z⟩⟩
    show SlOk K (upd F p (.lst vs)) H u t (fun a => j < e.length ∧ fp j a)
    rw [ea]
    exact q2.mono sm (fun a o _ q _ => q) xf.nt xf.tab xf.xd
  · obtain ⟨q1, q2, q3, q4⟩ := S.own j a ha
    refine ⟨?_, q2, q3, by rw [nth_app_left hj] at q4; exact q4⟩
    have ne : a ≠ p := fun z => by
      subst z
      have := S.apart e.length j a ((hA a).mpr rfl) ha
      omega
    rw [upd_ne ne]
    exact q1
/-- fewer slots, the same values there -/
theorem Rl.sel {σ' : St} {e' : En} (R : Rl K B F H σ e) (hl : e'.length = σ'.length) (h : ∀ i s, nth e' i = some s → nth e i = some s ∧ σ'[i]? = σ[i]?) : Rl K B F H σ' e' := by
  obtain ⟨l, ex, fp, S⟩ := R
  refine ⟨hl, ex, fun j a => nth e' j ≠ none ∧ fp j a, fun j t ht => ?_, fun j a ⟨hj, ha⟩ => ?_, fun j k a ⟨_, ha⟩ ⟨_, hb⟩ => S.apart j k a ha hb, fun j t u ht hl hu => S.lent j t u (h j t ht).1 hl (by rw [← (h j t ht).2]; exact hu)⟩
  · obtain ⟨h1, h2⟩ := h j t ht
    obtain ⟨u, q1, q2⟩ := S.ok j t h1
    refine ⟨u, by rw [h2]; exact q1, ?_⟩
    have ea : (fun a => nth e' j ≠ none ∧ fp j a) = fp j := funext fun a => propext ⟨fun z => z.2, fun z => ⟨(by rw [ht]; exact fun q => (by cases q)), z⟩⟩
    show SlOk K F H u t (fun a => nth e' j ≠ none ∧ fp j a)
    rw [ea]
    exact q2
  · obtain ⟨q1, q2, q3, q4⟩ := S.own j a ha
    exact ⟨q1, q2, q3, hj⟩
/-- seen from here on -/
theorem Rl.rebase (R : Rl K B F H σ e) : ∃ B1 : Bs, B1.F = F ∧ Rl K B1 F H σ e ∧ ∀ F' H' σ' e', Rl K B1 F' H' σ' e' → Rl K B F' H' σ' e' := by
  obtain ⟨l, ex, fp, S⟩ := R
  have hB : ∀ a, Vac H a → Vac B.H a := fun a z => ex.vac z
  refine ⟨⟨F, H, fun a => ∃ i, fp i a, B.v⟩, rfl, ⟨l, Ext.refl ex.sub, fp, S.ok, fun i a h => ?_, S.apart, S.lent⟩, fun F' H' σ' e' R' => ?_⟩
  · obtain ⟨q1, q2, q3, q4⟩ := S.own i a h
    exact ⟨q1, .inl ⟨i, h⟩, q3, q4⟩
  · obtain ⟨l', ex', fp', S'⟩ := R'
    refine ⟨l', ex.trans ex' (fun a ⟨i, z⟩ => (S.own i a z).2.1), fp', S'.ok, fun i a h => ?_, S'.apart, S'.lent⟩
    obtain ⟨q1, q2, q3, q4⟩ := S'.own i a h
    refine ⟨q1, ?_, q3, q4⟩
    rcases q2 with ⟨j, z⟩ | z
    · exact (S.own j a z).2.1
    · exact .inr (hB a z)
/-- the last place stays as it is while the rest goes on -/
theorem Rl.frame {v : Option V} {s : Option Sl} (R : Rl K B F H (σ ++ [v]) (e ++ [s])) : ∃ B1 : Bs, B1.F = F ∧ Rl K B1 F H σ e ∧ ∀ F' H' σ' e', Rl K B1 F' H' σ' e' → Rl K B F' H' (σ' ++ [v]) (e' ++ [s]) := by
  have R0 := R.less
  obtain ⟨l, ex, fp, S⟩ := R
  have l' : e.length = σ.length := R0.len
  have hB : ∀ a, Vac H a → Vac B.H a := fun a z => ex.vac z
  have hlast : (σ ++ [v])[e.length]? = some v := by rw [l', List.getElem?_append_right (Nat.le_refl _)]; simp
  refine ⟨⟨F, H, fun a => ∃ i, i < e.length ∧ fp i a, B.v⟩, rfl, ⟨l', Ext.refl ex.sub, fun j a => j < e.length ∧ fp j a, fun j t ht => ?_, fun j a ⟨hj, ha⟩ => ?_, fun j k a ⟨_, ha⟩ ⟨_, hb⟩ => S.apart j k a ha hb, fun j t u ht hl hu => S.lent j t u (by rw [nth_app_left (nth_some_lt ht)]; exact ht) hl (by rw [List.getElem?_append_left (by rw [← l']; exact nth_some_lt ht)]; exact hu)⟩, fun F' H' σ' e' R' => ?_⟩
  · have hlt := nth_some_lt ht
    obtain ⟨u, q1, q2⟩ := S.ok j t (by rw [nth_app_left hlt]; exact ht)
    refine ⟨u, by rw [List.getElem?_append_left (by rw [← l']; exact hlt)] at q1; exact q1, ?_⟩
    have ea : (fun a => j < e.length ∧ fp j a) = fp j := funext fun a => propext ⟨fun z => z.2, fun z => ⟨hlt, z⟩⟩
    show SlOk K F H u t (fun a => j < e.length ∧ fp j a)
    rw [ea]
    exact q2
  · obtain ⟨q1, q2, q3, q4⟩ := S.own j a ha
    exact ⟨q1, .inl ⟨j, hj, ha⟩, q3, by rw [nth_app_left hj] at q4; exact q4⟩
  · obtain ⟨m', ex', fp', S'⟩ := R'
    have tH : ∀ a, fp e.length a → (∃ o, H a = some o ∧ H' a = some o ∧ Calm o) ∧ F' a = none ∧ ∀ j, ¬ fp' j a := fun a z => by
      obtain ⟨q1, q2, ⟨o, q3, qc⟩, q4⟩ := S.own e.length a z
      have nA : ¬ ∃ i, i < e.length ∧ fp i a := fun ⟨i, hi, y⟩ => by
        have := S.apart i e.length a y z
        omega
      refine ⟨⟨o, q3, ex'.keep a o q3 nA qc.1, qc⟩, ?_, fun j y => ?_⟩
      · cases q : F' a with
        | none => rfl
        | some u =>
          rcases ex'.fresh a u q with y | y | y
          · have y2 : F a = some u := y
            rw [q1] at y2; cases y2
          · exact (y _ q3 qc.1).elim
          · exact absurd y nA
      · rcases (S'.own j a y).2.1 with y | y
        · exact nA y
        · exact (y _ q3 qc.1).elim
    refine ⟨by rw [List.length_append, List.length_append, m']; rfl, ex.trans ex' (fun a ⟨i, _, z⟩ => (S.own i a z).2.1), fun j a => if j = e'.length then fp e.length a else fp' j a, fun j t ht => ?_, fun j a ha => ?_, fun j k a ha hb => ?_, fun j t u ht hl hu => ?_⟩
    · by_cases hj : j = e'.length
      · subst hj
        rw [nth_app_last] at ht
        obtain ⟨u, q1, q2⟩ := S.ok e.length t (by rw [nth_app_last]; exact ht)
        rw [hlast] at q1
        refine ⟨u, by rw [m', List.getElem?_append_right (Nat.le_refl _)]; simpa using q1, ?_⟩
        have ea : (fun a => if e'.length = e'.length then fp e.length a else fp' e'.length a) = fp e.length := funext fun a => if_pos rfl
        show SlOk K F' H' u t (fun a => if e'.length = e'.length then fp e.length a else fp' e'.length a)
        rw [ea]
        refine q2.mono ex'.fr (fun a o z q _ => ?_) ex'.nt ex'.tab ex'.xd
        obtain ⟨⟨o1, h1, h2, _⟩, _⟩ := tH a z
        rw [q] at h1
        injection h1 with h1
        rw [h1]
        exact h2
      · have hlt : j < e'.length := by
          have := nth_some_lt ht
          rw [List.length_append] at this
          simp at this
          omega
        rw [nth_app_left hlt] at ht
        obtain ⟨u, q1, q2⟩ := S'.ok j t ht
        refine ⟨u, by rw [List.getElem?_append_left (by rw [← m']; exact hlt)]; exact q1, ?_⟩
        have ea : (fun a => if j = e'.length then fp e.length a else fp' j a) = fp' j := funext fun a => if_neg hj
        show SlOk K F' H' u t (fun a => if j = e'.length then fp e.length a else fp' j a)
        rw [ea]
        exact q2
    · by_cases hj : j = e'.length
      · rw [if_pos hj] at ha
        obtain ⟨q1, q2, q3, q4⟩ := S.own e.length a ha
        obtain ⟨⟨o, _, h2, hc⟩, h3, _⟩ := tH a ha
        exact ⟨h3, q2, ⟨o, h2, hc⟩, by rw [hj, nth_app_last]; rw [nth_app_last] at q4; exact q4⟩
      · rw [if_neg hj] at ha
        obtain ⟨q1, q2, q3, q4⟩ := S'.own j a ha
        have hlt : j < e'.length := by
          cases z : nth e' j with
          | none => exact absurd z q4
          | some t => exact nth_some_lt z
        refine ⟨q1, ?_, q3, by rw [nth_app_left hlt]; exact q4⟩
        rcases q2 with ⟨i, _, z⟩ | z
        · exact (S.own i a z).2.1
        · exact .inr (hB a z)
    · by_cases hj : j = e'.length
      · by_cases hk : k = e'.length
        · rw [hj, hk]
        · rw [if_pos hj] at ha
          rw [if_neg hk] at hb
          exact absurd hb ((tH a ha).2.2 k)
      · by_cases hk : k = e'.length
        · rw [if_neg hj] at ha
          rw [if_pos hk] at hb
          exact absurd ha ((tH a hb).2.2 j)
        · rw [if_neg hj] at ha
          rw [if_neg hk] at hb
          exact S'.apart j k a ha hb
    · by_cases hj : j = e'.length
      · subst hj
        rw [nth_app_last] at ht
        rw [m', List.getElem?_append_right (Nat.le_refl _)] at hu
        simp at hu
        subst hu
        exact S.lent e.length t u (by rw [nth_app_last]; exact ht) hl hlast
      · have hlt : j < e'.length := by
          have := nth_some_lt ht
          rw [List.length_append] at this
          simp at this
          omega
        rw [nth_app_left hlt] at ht
        rw [List.getElem?_append_left (by rw [← m']; exact hlt)] at hu
        exact S'.lent j t u ht hl hu
end
end WW
set_option Elab.async false
set_option linter.all false
set_option maxRecDepth 100000
set_option maxHeartbeats 4000000
/-! The data layer, part 2: judgements and expressions. -/
namespace WW
open PySem PySem.Spec L2

/-! ### exceptions, outcomes -/
def WF : WX := fun _ _ _ _ => False
def ExOk (K : PySem.W.Frag) (H : Hp) (x : Exn) (c : Value) (dd : Option Addr) : Prop := c = .ref (He.ga K x.cls) ∧ match x.fld with
  | none => dd = none
  | some (f, i) => ∃ a, dd = some a ∧ H a = some (.xd [(f, .int i)])
def ExcOut (K : PySem.W.Frag) (W : WX) (B : Bs) (σ : St) (x : Exn) : Prop := ∀ F' H' c dd e', Rl K B F' H' σ e' → ExOk K H' x c dd → W c dd σ H'
abbrev DE := En → R (D × En)
abbrev DT := En → R (Bool × En)
abbrev DA := En → R (List D × En)
abbrev OE := En → R (Sl × En)
def OutD (K : PySem.W.Frag) (W : WX) (B : Bs) (F : Hp) (σ : St) (Q : VK) : R (D × En) → Prop
  | .ok p => ∀ F' H' v, Rl K B F' H' σ p.2 → Same F F' → Rep K F' v p.1 → Q v H'
  | .exc x => ExcOut K W B σ x
  | .bad => False
def OutT (K : PySem.W.Frag) (W : WX) (B : Bs) (F : Hp) (σ : St) (Q : Bool → Hp → Prop) : R (Bool × En) → Prop
  | .ok p => ∀ F' H', Rl K B F' H' σ p.2 → Same F F' → Q p.1 H'
  | .exc x => ExcOut K W B σ x
  | .bad => False
def OutA (K : PySem.W.Frag) (W : WX) (B : Bs) (F : Hp) (σ : St) (Q : List V → Hp → Prop) : R (List D × En) → Prop
  | .ok p => ∀ F' H' vs, Rl K B F' H' σ p.2 → Same F F' → Reps K F' vs p.1 → Q vs H'
  | .exc x => ExcOut K W B σ x
  | .bad => False
def OutO (K : PySem.W.Frag) (W : WX) (B : Bs) (F : Hp) (σ : St) (Q : VK) : R (Sl × En) → Prop
  | .ok p => ∀ F' H' v, Rl K B F' H' (σ ++ [some v]) (p.2 ++ [some p.1]) → Same F F' → Q v H'
  | .exc x => ExcOut K W B σ x
  | .bad => False
def tD (K : PySem.W.Frag) (W : WX) (den : DE) : TE := fun σ H Q => ∃ B F e, Rl K B F H σ e ∧ OutD K W B F σ Q (den e)
def tT (K : PySem.W.Frag) (W : WX) (den : DT) : TT := fun σ H Q => ∃ B F e, Rl K B F H σ e ∧ OutT K W B F σ Q (den e)
def tA (K : PySem.W.Frag) (W : WX) (den : DA) : TA := fun σ H Q => ∃ B F e, Rl K B F H σ e ∧ OutA K W B F σ Q (den e)
def tO (K : PySem.W.Frag) (W : WX) (den : OE) : TE := fun σ H Q => ∃ B F e, Rl K B F H σ e ∧ OutO K W B F σ Q (den e)
/-- a value alone -/
def OutV (K : PySem.W.Frag) (F H : Hp) (Q : VK) : R D → Prop
  | .ok d => ∀ F' H' v, Ext K NoA F H F' H' → Rep K F' v d → Q v H'
  | _ => False

section
variable {X : Cx} {e : Expr} {t t' : TE}
theorem peI (h : PE X e t) (i : ∀ σ H Q, t' σ H Q → t σ H Q) : PE X e t' := ⟨fun pins s σ H Q I q => h.run pins s σ H Q I (i σ H Q q)⟩
theorem ptI {t t' : TT} (h : PT X e t) (i : ∀ σ H Q, t' σ H Q → t σ H Q) : PT X e t' := ⟨fun pins s σ H Q I q => h.run pins s σ H Q I (i σ H Q q)⟩
theorem pwI {t t' : TT} (h : PW X e t) (i : ∀ σ H Q, t' σ H Q → t σ H Q) : PW X e t' := ⟨fun w pins s σ H Q I q => h.run w pins s σ H Q I (i σ H Q q)⟩
theorem paI {es : List Expr} {t t' : TA} (h : PA X es t) (i : ∀ σ H Q, t' σ H Q → t σ H Q) : PA X es t' := ⟨fun p pins s σ H Q I q => h.run p pins s σ H Q I (i σ H Q q)⟩
end
section
variable {K : PySem.W.Frag} {W : WX} {B : Bs} {F H F' H' : Hp} {σ : St} {e : En} {β : Type}
/-- a value first, then the rest -/
theorem OutD.bind {P : R β → Prop} {r : R (D × En)} {g : D × En → R β} {Q : VK} (hb : ¬ P .bad) (hx : ∀ x, P (.exc x) → ExcOut K W B σ x) (h : P (r.bind g))
    (k : ∀ d e1, P (g (d, e1)) → ∀ F' H' v, Rl K B F' H' σ e1 → Same F F' → Rep K F' v d → Q v H') : OutD K W B F σ Q r := by
  cases r with
  | ok p => exact k p.1 p.2 h
  | exc x => exact hx x h
  | bad => exact hb h
theorem OutT.bind {P : R β → Prop} {r : R (Bool × En)} {g : Bool × En → R β} {Q : Bool → Hp → Prop} (hb : ¬ P .bad) (hx : ∀ x, P (.exc x) → ExcOut K W B σ x) (h : P (r.bind g))
    (k : ∀ d e1, P (g (d, e1)) → ∀ F' H', Rl K B F' H' σ e1 → Same F F' → Q d H') : OutT K W B F σ Q r := by
  cases r with
  | ok p => exact k p.1 p.2 h
  | exc x => exact hx x h
  | bad => exact hb h
theorem OutA.bind {P : R β → Prop} {r : R (List D × En)} {g : List D × En → R β} {Q : List V → Hp → Prop} (hb : ¬ P .bad) (hx : ∀ x, P (.exc x) → ExcOut K W B σ x) (h : P (r.bind g))
    (k : ∀ d e1, P (g (d, e1)) → ∀ F' H' vs, Rl K B F' H' σ e1 → Same F F' → Reps K F' vs d → Q vs H') : OutA K W B F σ Q r := by
  cases r with
  | ok p => exact k p.1 p.2 h
  | exc x => exact hx x h
  | bad => exact hb h
theorem OutO.bind {P : R β → Prop} {r : R (Sl × En)} {g : Sl × En → R β} {Q : VK} (hb : ¬ P .bad) (hx : ∀ x, P (.exc x) → ExcOut K W B σ x) (h : P (r.bind g))
    (k : ∀ d e1, P (g (d, e1)) → ∀ F' H' v, Rl K B F' H' (σ ++ [some v]) (e1 ++ [some d]) → Same F F' → Q v H') : OutO K W B F σ Q r := by
  cases r with
  | ok p => exact k p.1 p.2 h
  | exc x => exact hx x h
  | bad => exact hb h
/-- the start may lie deeper -/
theorem OutD.pre {r : R (D × En)} {Q : VK} (s : Same F F') (h : OutD K W B F σ Q r) : OutD K W B F' σ Q r := by
  cases r with
  | ok p => exact fun F2 H2 v R s2 q => h F2 H2 v R (s.trans s2) q
  | exc x => exact h
  | bad => exact h
theorem OutT.pre {r : R (Bool × En)} {Q : Bool → Hp → Prop} (s : Same F F') (h : OutT K W B F σ Q r) : OutT K W B F' σ Q r := by
  cases r with
  | ok p => exact fun F2 H2 R s2 => h F2 H2 R (s.trans s2)
  | exc x => exact h
  | bad => exact h
theorem OutA.pre {r : R (List D × En)} {Q : List V → Hp → Prop} (s : Same F F') (h : OutA K W B F σ Q r) : OutA K W B F' σ Q r := by
  cases r with
  | ok p => exact fun F2 H2 v R s2 q => h F2 H2 v R (s.trans s2) q
  | exc x => exact h
  | bad => exact h
theorem OutO.pre {r : R (Sl × En)} {Q : VK} (s : Same F F') (h : OutO K W B F σ Q r) : OutO K W B F' σ Q r := by
  cases r with
  | ok p => exact fun F2 H2 v R s2 => h F2 H2 v R (s.trans s2)
  | exc x => exact h
  | bad => exact h
/-- an end by a value's rule -/
theorem OutD.val {r : R D} {Q : VK} (R : Rl K B F H σ e) (h : OutD K W B F σ Q (r.bind fun d => .ok (d, e))) (hx : ∀ x, r ≠ .exc x) : OutV K F H Q r := by
  cases r with
  | ok d => exact fun F' H' v x rp => h F' H' v (R.step x) x.fr rp
  | exc x => exact absurd rfl (hx x)
  | bad => exact h
theorem dBad {Q : VK} : ¬ OutD K W B F σ Q .bad := fun h => h
theorem dExc {Q : VK} : ∀ x, OutD K W B F σ Q (.exc x) → ExcOut K W B σ x := fun _ h => h
theorem tBad {Q : Bool → Hp → Prop} : ¬ OutT K W B F σ Q .bad := fun h => h
theorem tExc {Q : Bool → Hp → Prop} : ∀ x, OutT K W B F σ Q (.exc x) → ExcOut K W B σ x := fun _ h => h
theorem aBad {Q : List V → Hp → Prop} : ¬ OutA K W B F σ Q .bad := fun h => h
theorem aExc {Q : List V → Hp → Prop} : ∀ x, OutA K W B F σ Q (.exc x) → ExcOut K W B σ x := fun _ h => h
theorem oBad {Q : VK} : ¬ OutO K W B F σ Q .bad := fun h => h
theorem oExc {Q : VK} : ∀ x, OutO K W B F σ Q (.exc x) → ExcOut K W B σ x := fun _ h => h
end

/-! ### names, constants -/
/-- a dict as plain data -/
def D.dk (kvs : List (Key × D)) : D := .dct (kvs.map (·.1)) (kvs.map (·.2))
def dVar (i : Nat) : DE := fun e => match nth e i with
  | some (.v d) => .ok (d, e)
  | some (.l xs) => (match setE e i (some (.v (.lst xs))) with
    | some e' => .ok (.lst xs, e')
    | none => .bad)
  | some (.dc false kvs) => (match setE e i (some (.v (.dk kvs))) with
    | some e' => .ok (.dk kvs, e')
    | none => .bad)
  | _ => .bad
def dC (d : D) : DE := fun e => .ok (d, e)
/-- freezing a slot's own list -/
theorem Rl.frz {K : PySem.W.Frag} {B : Bs} {F H : Hp} {σ : St} {e e' : En} {i : Nat} {xs : List D} (R : Rl K B F H σ e) (hs : nth e i = some (.l xs)) (h : setE e i (some (.v (.lst xs))) = some e') :
    ∃ F' v, σ[i]? = some (some v) ∧ Same F F' ∧ Rl K B F' H σ e' ∧ Rep K F' v (.lst xs) := by
  obtain ⟨l, ex, fp, S⟩ := id R
  obtain ⟨v, hv, p, vs, rfl, hA, hp, r⟩ := S.ok i _ hs
  obtain ⟨fn, _⟩ := S.own i p ((hA p).mpr rfl)
  have sm : Same F (upd F p (.lst vs)) := fun b o h => by
    have hb : b ≠ p := fun z => by subst z; rw [fn] at h; cases h
    rw [upd_ne hb]; exact h
  have rp : Rep K (upd F p (.lst vs)) (.ref p) (.lst xs) := .lst upd_same (r.mono sm)
  refine ⟨upd F p (.lst vs), .ref p, hv, sm, R.change hs hv h fun A okA hF => ?_, rp⟩
  obtain ⟨p', vs', e1, hA', hp', _⟩ := okA
  injection e1 with e1
  subst e1
  exact ⟨NoA, Ext.frz R.sub fn ((hA' _).mpr rfl) hp .lst, ⟨rp, fun _ z => z⟩, fun _ z => z.elim⟩
theorem Rl.frzD {K : PySem.W.Frag} {B : Bs} {F H : Hp} {σ : St} {e e' : En} {i : Nat} {b : Bool} {kvs : List (Key × D)} (R : Rl K B F H σ e) (hs : nth e i = some (.dc b kvs)) (h : setE e i (some (.v (.dk kvs))) = some e') :
    ∃ F' v, σ[i]? = some (some v) ∧ Same F F' ∧ Rl K B F' H σ e' ∧ Rep K F' v (.dk kvs) := by
  obtain ⟨l, ex, fp, S⟩ := id R
  obtain ⟨v, hv, p, kv, rfl, hA, hp, en, r⟩ := S.ok i _ hs
  obtain ⟨fn, _⟩ := S.own i p ((hA p).mpr rfl)
  have sm : Same F (upd F p (.dK kv)) := fun b o h => by
    have hb : b ≠ p := fun z => by subst z; rw [fn] at h; cases h
    rw [upd_ne hb]; exact h
  have rp : Rep K (upd F p (.dK kv)) (.ref p) (.dk kvs) := .dct upd_same en (r.mono sm)
  refine ⟨upd F p (.dK kv), .ref p, hv, sm, R.change hs hv h fun A okA hF => ?_, rp⟩
  obtain ⟨p', kv', e1, hA', hp', _⟩ := okA
  injection e1 with e1
  subst e1
  exact ⟨NoA, Ext.frz R.sub fn ((hA' _).mpr rfl) hp .dK, ⟨rp, fun _ z => z⟩, fun _ z => z.elim⟩
section
variable {X : Cx} {W : WX} {pos : Pos}
theorem dx_var (i : Nat) {x : Str} (hN : X.N[i]? = some x := by rfl) (hv : Vis X.env.scope x := by first | exact Or.inl rfl | exact Or.inr (Or.inl rfl) | exact Or.inr (Or.inr rfl)) (hd : (x == ("__debug__" : Str)) = false := by decide)
    (hcd : (x == ("__classdict__" : Str)) = false := by decide) : PE X (.Name x pos) (tD X.K W (dVar i)) := by
  refine peI (pe_var (i := i) hN hv hd hcd) ?_
  rintro σ H Q ⟨B, F, e, R, h⟩
  unfold dVar at h
  cases q : nth e i with
  | none => rw [q] at h; exact h.elim
  | some s =>
    rw [q] at h
    cases s with
    | v d =>
      obtain ⟨l, ex, fp, S⟩ := id R
      obtain ⟨v, hv, r, _⟩ := S.ok i _ q
      exact ⟨v, hv, h F H v R (Same.refl _) r⟩
    | l xs =>
      have h2 : OutD X.K W B F σ Q (match setE e i (some (.v (.lst xs))) with
        | some e' => .ok (.lst xs, e')
        | none => .bad) := h
      cases q2 : setE e i (some (.v (.lst xs))) with
      | none => rw [q2] at h2; exact h2.elim
      | some e' =>
        rw [q2] at h2
        obtain ⟨F', v, hv, sm, R', rp⟩ := R.frz q q2
        exact ⟨v, hv, h2 F' H v R' sm rp⟩
    | dc b kvs =>
      cases b with
      | true => exact h.elim
      | false =>
        have h2 : OutD X.K W B F σ Q (match setE e i (some (.v (.dk kvs))) with
          | some e' => .ok (.dk kvs, e')
          | none => .bad) := h
        cases q2 : setE e i (some (.v (.dk kvs))) with
        | none => rw [q2] at h2; exact h2.elim
        | some e' =>
          rw [q2] at h2
          obtain ⟨F', v, hv, sm, R', rp⟩ := R.frzD q q2
          exact ⟨v, hv, h2 F' H v R' sm rp⟩
    | box p ns st => exact h.elim
    | _ => exact h.elim
theorem dx_c {v : V} {d : D} {ex : Expr} (h : PE X ex (tC v)) (r : ∀ F, Rep X.K F v d) : PE X ex (tD X.K W (dC d)) := by
  refine peI h ?_
  rintro σ H Q ⟨B, F, e, R, h⟩
  exact h F H v R (Same.refl _) (r F)
theorem dx_int {i j} : PE X (.Constant (.int i) j pos) (tD X.K W (dC (.int i))) := dx_c pe_int fun _ => .int i
theorem dx_bl {b j} : PE X (.Constant (.bool b) j pos) (tD X.K W (dC (.bl b))) := dx_c pe_bl fun _ => .bl b
theorem dx_non {j} : PE X (.Constant .none j pos) (tD X.K W (dC .non)) := dx_c pe_non fun _ => .non
theorem dx_str {x j} : PE X (.Constant (.str x) j pos) (tD X.K W (dC (.str x))) := dx_c pe_str fun _ => .str x
/-- a module's constant -/
theorem dx_glob {x : Str} {v : V} {u : Value} {d : D} (hg : Gl X x) (hm : X.mg x = some u) (r : RelV v u) (rp : ∀ F, Rep X.K F v d) (hd : (x == ("__debug__" : Str)) = false := by decide) : PE X (.Name x pos) (tD X.K W (dC d)) := dx_c (pe_glob hg hm r hd) rp
end

/-! ### operators by values -/
def VR2 (K : PySem.W.Frag) (r : R2) (g : D → D → R D) : Prop := ∀ (F H : Hp) (x y : V) (dx dy : D) (Q : VK), Same F H → Rep K F x dx → Rep K F y dy → OutV K F H Q (g dx dy) → r x y H Q
def VR1 (K : PySem.W.Frag) (r : V → Hp → VK → Prop) (g : D → R D) : Prop := ∀ (F H : Hp) (x : V) (dx : D) (Q : VK), Same F H → Rep K F x dx → OutV K F H Q (g dx) → r x H Q
def VRn (K : PySem.W.Frag) (r : List V → Hp → VK → Prop) (g : List D → R D) : Prop := ∀ (F H : Hp) (xs : List V) (ds : List D) (Q : VK), Same F H → Reps K F xs ds → OutV K F H Q (g ds) → r xs H Q
def NoX2 (g : D → D → R D) : Prop := ∀ a b x, g a b ≠ .exc x
def NoX1 (g : D → R D) : Prop := ∀ a x, g a ≠ .exc x
def NoXn (g : List D → R D) : Prop := ∀ a x, g a ≠ .exc x
def dBin (g : D → D → R D) (da db : DE) : DE := fun e => (da e).bind fun p => (db p.2).bind fun q => (g p.1 q.1).bind fun d => .ok (d, q.2)
def dUn (g : D → R D) (da : DE) : DE := fun e => (da e).bind fun p => (g p.1).bind fun d => .ok (d, p.2)
def dNil : DA := fun e => .ok ([], e)
def dCons (da : DE) (dr : DA) : DA := fun e => (da e).bind fun p => (dr p.2).bind fun q => .ok (p.1 :: q.1, q.2)
def dApp (g : List D → R D) (da : DA) : DE := fun e => (da e).bind fun p => (g p.1).bind fun d => .ok (d, p.2)
theorem tD_op {K : PySem.W.Frag} {W : WX} {r : R2} {g : D → D → R D} {da db : DE} (hg : VR2 K r g) (nx : NoX2 g) {σ : St} {H : Hp} {Q : VK} (h : tD K W (dBin g da db) σ H Q) : tOp r (tD K W da) (tD K W db) σ H Q := by
  obtain ⟨B, F, e, R, h⟩ := h
  refine ⟨B, F, e, R, OutD.bind (P := OutD K W B F σ Q) dBad dExc h fun dx e1 h1 F1 H1 x R1 s1 rx => ?_⟩
  refine ⟨B, F1, e1, R1, OutD.bind (P := OutD K W B F1 σ Q) dBad dExc (h1.pre s1) fun dy e2 h2 F2 H2 y R2 s2 ry => ?_⟩
  exact hg F2 H2 x y dx dy Q R2.sub (rx.mono s2) ry (OutD.val R2 (h2.pre s2) (nx _ _))
section
variable {X : Cx} {W : WX} {pos : Pos} {a b c : Expr} {da db dc : DE} {r r' : R2} {g g' : D → D → R D}
theorem dx_op {op : Operator} (ho : OpR X (binaryOp op) r) (hg : VR2 X.K r g) (nx : NoX2 g) (ha : PE X a (tD X.K W da)) (hb : PE X b (tD X.K W db)) : PE X (.BinOp a op b pos) (tD X.K W (dBin g da db)) :=
  peI (pe_op ho ha hb) fun _ _ _ => tD_op hg nx
theorem dx_cmp {op : CmpOp} (ho : OpR X (compareOp op) r) (hg : VR2 X.K r g) (nx : NoX2 g) (ha : PE X a (tD X.K W da)) (hb : PE X b (tD X.K W db)) (hm : behindInMarks op b = false) : PE X (.Compare a [op] [b] pos) (tD X.K W (dBin g da db)) :=
  peI (pe_cmpR ho ha hb hm) fun _ _ _ => tD_op hg nx
/-- a test -/
def asB : D → R Bool
  | .bl b => .ok b
  | _ => .bad
def dTest (da : DE) : DT := fun e => (da e).bind fun p => (asB p.1).bind fun b => .ok (b, p.2)
theorem tD_test {K : PySem.W.Frag} {σ : St} {H : Hp} {Q : Bool → Hp → Prop} (h : tT K W (dTest da) σ H Q) : tD K W da σ H fun x H1 => ∃ k, x = .bl k ∧ Q k H1 := by
  obtain ⟨B, F, e, R, h⟩ := h
  refine ⟨B, F, e, R, OutD.bind (P := OutT K W B F σ Q) tBad tExc h fun dx e1 h1 F1 H1 x R1 s1 rx => ?_⟩
  cases dx with
  | bl k => exact ⟨k, rx.bl_inv, h1 F1 H1 R1 s1⟩
  | _ => exact h1.elim
theorem dt_val (h : PE X a (tD X.K W da)) (he : ∀ whole, isTrue a X.env whole = (do let v ← whole; standAt a.pos; holding [v] (truthy v)) := by intro _; rfl) : PT X a (tT X.K W (dTest da)) :=
  ptI (pt_val h he) fun _ _ _ => tD_test
theorem dt_cmp {op : CmpOp} (ho : OpR X (compareOp op) r) (hg : VR2 X.K r g) (nx : NoX2 g) (ha : PE X a (tD X.K W da)) (hb : PE X b (tD X.K W db)) (hm : behindInMarks op b = false) : PT X (.Compare a [op] [b] pos) (tT X.K W (dTest (dBin g da db))) := by
  refine ptI (pt_cmpR ho ha hb hm) fun σ H Q h => ?_
  have h2 := tD_test h
  exact tD_op hg nx h2
/-- a op b op' c -/
def dChain (g g' : D → D → R D) (da db dc : DE) : DE := fun e => (da e).bind fun p => (db p.2).bind fun q => (g p.1 q.1).bind fun d => (asB d).bind fun k => if k = true then (dc q.2).bind fun z => (g' q.1 z.1).bind fun d => .ok (d, z.2) else .ok (.bl false, q.2)
/-- what a comparison gives: no new object -/
def Pure2 (g : D → D → R D) : Prop := ∀ a b d, g a b = .ok d → ∃ k, d = .bl k
theorem tD_chain {K : PySem.W.Frag} (hg : VR2 K r g) (nx : NoX2 g) (hg' : VR2 K r' g') (nx' : NoX2 g') {σ : St} {H : Hp} {Q : VK} (h : tD K W (dChain g g' da db dc) σ H Q) : tChain r r' (tD K W da) (tD K W db) (tD K W dc) σ H Q := by
  obtain ⟨B, F, e, R, h⟩ := h
  refine ⟨B, F, e, R, OutD.bind (P := OutD K W B F σ Q) dBad dExc h fun dx e1 h1 F1 H1 x R1 s1 rx => ?_⟩
  refine ⟨B, F1, e1, R1, OutD.bind (P := OutD K W B F1 σ Q) dBad dExc (h1.pre s1) fun dy e2 h2 F2 H2 y R2 s2 ry => ?_⟩
  have h3 := h2.pre s2
  refine hg F2 H2 x y dx dy _ R2.sub (rx.mono s2) ry ?_
  cases q : g dx dy with
  | bad => rw [q] at h3; exact h3.elim
  | exc x => exact absurd q (nx _ _ _)
  | ok d =>
    rw [q] at h3
    intro F3 H3 v x3 rv
    cases d with
    | bl k =>
      refine ⟨k, rv.bl_inv, ?_⟩
      cases k with
      | false => exact h3 F3 H3 (.bl false) (R2.step x3) x3.fr (.bl false)
      | true =>
        refine ⟨B, F3, e2, R2.step x3, OutD.bind (P := OutD K W B F3 σ Q) dBad dExc (OutD.pre x3.fr h3) fun dz e4 h4 F4 H4 z R4 s4 rz => ?_⟩
        exact hg' F4 H4 y z dy dz Q R4.sub ((ry.mono x3.fr).mono s4) rz (OutD.val R4 (h4.pre s4) (nx' _ _))
    | _ => exact h3.elim
theorem dx_chain {op op' : CmpOp} (ho : OpR X (compareOp op) r) (ho' : OpR X (compareOp op') r') (hg : VR2 X.K r g) (nx : NoX2 g) (hg' : VR2 X.K r' g') (nx' : NoX2 g') (ha : PE X a (tD X.K W da)) (hb : PE X b (tD X.K W db)) (hc : PE X c (tD X.K W dc))
    (hm : lastMarks [op, op'] [b, c] = false) : PE X (.Compare a [op, op'] [b, c] pos) (tD X.K W (dChain g g' da db dc)) :=
  peI (pe_chain ho ho' ha hb hc hm) fun _ _ _ => tD_chain hg nx hg' nx'
theorem dt_chain {op op' : CmpOp} (ho : OpR X (compareOp op) r) (ho' : OpR X (compareOp op') r') (hg : VR2 X.K r g) (nx : NoX2 g) (hg' : VR2 X.K r' g') (nx' : NoX2 g') (ha : PE X a (tD X.K W da)) (hb : PE X b (tD X.K W db)) (hc : PE X c (tD X.K W dc))
    (hm : lastMarks [op, op'] [b, c] = false) : PT X (.Compare a [op, op'] [b, c] pos) (tT X.K W (dTest (dChain g g' da db dc))) := by
  refine ptI (pt_chain ho ho' ha hb hc hm) fun σ H Q h => ?_
  have h2 := tD_test h
  exact tD_chain hg nx hg' nx' h2
/-! ### not, and, or -/
def dNot (t : DT) : DT := fun e => (t e).bind fun p => .ok (!p.1, p.2)
def dAnd (t u : DT) : DT := fun e => (t e).bind fun p => if p.1 = true then u p.2 else .ok (false, p.2)
def dOr (t u : DT) : DT := fun e => (t e).bind fun p => if p.1 = true then .ok (true, p.2) else u p.2
def dOfT (t : DT) : DE := fun e => (t e).bind fun p => .ok (.bl p.1, p.2)
variable {ta tb : DT} {rest : List Expr}
theorem dt_not (ha : PT X a (tT X.K W ta)) : PT X (.UnaryOp .Not a pos) (tT X.K W (dNot ta)) := by
  refine ptI (pt_not ha) ?_
  rintro σ H Q ⟨B, F, e, R, h⟩
  exact ⟨B, F, e, R, OutT.bind (P := OutT X.K W B F σ Q) tBad tExc h fun k e1 h1 F1 H1 R1 s1 => h1 F1 H1 R1 s1⟩
theorem dw_and1 (ha : PT X a (tT X.K W ta)) : PW X (.BoolOp .And [a] pos) (tT X.K W ta) := pw_and1 ha
theorem dw_or1 (ha : PT X a (tT X.K W ta)) : PW X (.BoolOp .Or [a] pos) (tT X.K W ta) := pw_or1 ha
theorem dw_and (ha : PT X a (tT X.K W ta)) (hb : PW X (.BoolOp .And (b :: rest) pos) (tT X.K W tb)) : PW X (.BoolOp .And (a :: b :: rest) pos) (tT X.K W (dAnd ta tb)) := by
  refine pwI (pw_and ha hb) ?_
  rintro σ H Q ⟨B, F, e, R, h⟩
  refine ⟨B, F, e, R, OutT.bind (P := OutT X.K W B F σ Q) tBad tExc h fun k e1 h1 F1 H1 R1 s1 => ?_⟩
  cases k with
  | true => exact iteT ⟨B, F1, e1, R1, OutT.pre s1 h1⟩
  | false => exact iteF (h1 F1 H1 R1 s1)
theorem dw_or (ha : PT X a (tT X.K W ta)) (hb : PW X (.BoolOp .Or (b :: rest) pos) (tT X.K W tb)) : PW X (.BoolOp .Or (a :: b :: rest) pos) (tT X.K W (dOr ta tb)) := by
  refine pwI (pw_or ha hb) ?_
  rintro σ H Q ⟨B, F, e, R, h⟩
  refine ⟨B, F, e, R, OutT.bind (P := OutT X.K W B F σ Q) tBad tExc h fun k e1 h1 F1 H1 R1 s1 => ?_⟩
  cases k with
  | true => exact iteT (h1 F1 H1 R1 s1)
  | false => exact iteF ⟨B, F1, e1, R1, OutT.pre s1 h1⟩
/-- .. as values -/
def dAndV (da db : DE) : DE := fun e => (da e).bind fun p => (asB p.1).bind fun k => if k = true then db p.2 else .ok (.bl false, p.2)
def dOrV (da db : DE) : DE := fun e => (da e).bind fun p => (asB p.1).bind fun k => if k = true then .ok (.bl true, p.2) else db p.2
def dNotV (da : DE) : DE := fun e => (da e).bind fun p => (asB p.1).bind fun k => .ok (.bl (!k), p.2)
theorem dx_one {op} (h : PE X a (tD X.K W da)) : PE X (.BoolOp op [a] pos) (tD X.K W da) := pe_one h
theorem dx_and (ha : PE X a (tD X.K W da)) (hb : PE X (.BoolOp .And (b :: rest) pos) (tD X.K W db)) : PE X (.BoolOp .And (a :: b :: rest) pos) (tD X.K W (dAndV da db)) := by
  refine peI (pe_and ha hb) ?_
  rintro σ H Q ⟨B, F, e, R, h⟩
  refine ⟨B, F, e, R, OutD.bind (P := OutD X.K W B F σ Q) dBad dExc h fun d e1 h1 F1 H1 x R1 s1 rx => ?_⟩
  cases d with
  | bl k =>
    refine ⟨k, rx.bl_inv, ?_⟩
    cases k with
    | true => exact iteT ⟨B, F1, e1, R1, OutD.pre s1 h1⟩
    | false => exact iteF (h1 F1 H1 _ R1 s1 (.bl false))
  | _ => exact h1.elim
theorem dx_or (ha : PE X a (tD X.K W da)) (hb : PE X (.BoolOp .Or (b :: rest) pos) (tD X.K W db)) : PE X (.BoolOp .Or (a :: b :: rest) pos) (tD X.K W (dOrV da db)) := by
  refine peI (pe_or ha hb) ?_
  rintro σ H Q ⟨B, F, e, R, h⟩
  refine ⟨B, F, e, R, OutD.bind (P := OutD X.K W B F σ Q) dBad dExc h fun d e1 h1 F1 H1 x R1 s1 rx => ?_⟩
  cases d with
  | bl k =>
    refine ⟨k, rx.bl_inv, ?_⟩
    cases k with
    | true => exact iteT (h1 F1 H1 _ R1 s1 (.bl true))
    | false => exact iteF ⟨B, F1, e1, R1, OutD.pre s1 h1⟩
  | _ => exact h1.elim
theorem dx_not (ha : PE X a (tD X.K W da)) : PE X (.UnaryOp .Not a pos) (tD X.K W (dNotV da)) := by
  refine peI (pe_not ha) ?_
  rintro σ H Q ⟨B, F, e, R, h⟩
  refine ⟨B, F, e, R, OutD.bind (P := OutD X.K W B F σ Q) dBad dExc h fun d e1 h1 F1 H1 x R1 s1 rx => ?_⟩
  cases d with
  | bl k => exact ⟨k, rx.bl_inv, h1 F1 H1 _ R1 s1 (.bl _)⟩
  | _ => exact h1.elim
def dIfE (t : DT) (da db : DE) : DE := fun e => (t e).bind fun p => if p.1 = true then da p.2 else db p.2
theorem dx_if (hc : PT X c (tT X.K W ta)) (ha : PE X a (tD X.K W da)) (hb : PE X b (tD X.K W db)) : PE X (.IfExp c a b pos) (tD X.K W (dIfE ta da db)) := by
  refine peI (pe_ifExp hc ha hb) ?_
  rintro σ H Q ⟨B, F, e, R, h⟩
  refine ⟨B, F, e, R, OutT.bind (P := OutD X.K W B F σ Q) dBad dExc h fun k e1 h1 F1 H1 R1 s1 => ?_⟩
  cases k with
  | true => exact iteT ⟨B, F1, e1, R1, OutD.pre s1 h1⟩
  | false => exact iteF ⟨B, F1, e1, R1, OutD.pre s1 h1⟩
/-! ### argument lists, displays -/
variable {es : List Expr} {dr : DA}
theorem da_nil : PA X [] (tA X.K W dNil) := by
  refine paI pa_nil ?_
  rintro σ H Q ⟨B, F, e, R, h⟩
  exact h F H [] R (Same.refl _) .nil
theorem da_cons {ex : Expr} (ha : PE X ex (tD X.K W da)) (hr : PA X es (tA X.K W dr)) (hs : starEach (ex :: es) X.env = (false, eval ex X.env) :: starEach es X.env := by rfl) : PA X (ex :: es) (tA X.K W (dCons da dr)) := by
  refine paI (pa_cons ha hr hs) ?_
  rintro σ H Q ⟨B, F, e, R, h⟩
  refine ⟨B, F, e, R, OutD.bind (P := OutA X.K W B F σ Q) aBad aExc h fun d e1 h1 F1 H1 x R1 s1 rx => ?_⟩
  refine ⟨B, F1, e1, R1, OutA.bind (P := OutA X.K W B F1 σ Q) aBad aExc (h1.pre s1) fun l e2 h2 F2 H2 xs R2 s2 rs => ?_⟩
  exact h2 F2 H2 _ R2 s2 (.cons (rx.mono s2) rs)
def LIM : Nat := 1000000
theorem lim_line {n : Nat} (h : n ≤ LIM) : n ≤ sizeLine := by rw [sizeLine_eq]; unfold LIM at h; omega
theorem lim_line' {n : Nat} (h : n ≤ LIM) : n < sizeLine := by rw [sizeLine_eq]; unfold LIM at h; omega
def mkTup (l : List D) : R D := if l.length ≤ LIM then .ok (.tup l) else .bad
def mkLst (l : List D) : R Sl := if l.length ≤ LIM then .ok (.l l) else .bad
def dTup (da : DA) : DE := dApp mkTup da
def oLst (da : DA) : OE := fun e => (da e).bind fun p => (mkLst p.1).bind fun s => .ok (s, p.2)
theorem dx_tup {x1} (h : PA X es (tA X.K W dr)) : PE X (.Tuple es x1 pos) (tD X.K W (dTup dr)) := by
  refine peI (pe_tup h) ?_
  rintro σ H Q ⟨B, F, e, R, h⟩
  refine ⟨B, F, e, R, OutA.bind (P := OutD X.K W B F σ Q) dBad dExc h fun l e1 h1 F1 H1 xs R1 s1 rs => ?_⟩
  unfold mkTup at h1
  by_cases hl : l.length ≤ LIM
  · rw [if_pos hl] at h1
    refine ⟨by rw [rs.length]; exact lim_line hl, fun p hp => ?_⟩
    have x := ext_new (K := X.K) (o := .tup xs) R1.sub hp
    exact h1 _ _ _ (R1.step x) (s1.trans x.fr) (.tup (.inl (.inl upd_same)) (rs.mono x.fr))
  · rw [if_neg hl] at h1
    exact h1.elim
/-- a new own list at p -/
theorem Rl.newL {K : PySem.W.Frag} {B : Bs} {F H : Hp} {σ : St} {e : En} {p : Addr} {vs : List V} {l : List D} (R : Rl K B F H σ e) (hp : H p = none) (rs : Reps K F vs l) : Rl K B F (upd H p (.lst vs)) (σ ++ [some (.ref p)]) (e ++ [some (.l l)]) := by
  refine R.more (A := fun a => a = p) (ext_raw R.sub hp) ⟨p, vs, rfl, fun _ => Iff.rfl, upd_same, rs⟩ fun a z => ?_
  subst z
  refine ⟨?_, hp⟩
  cases q : F a with
  | none => rfl
  | some o => rw [R.sub _ _ q] at hp; cases hp
theorem ox_lst (h : PA X es (tA X.K W dr)) : PE X (.List es pos) (tO X.K W (oLst dr)) := by
  refine peI (pe_lst h) ?_
  rintro σ H Q ⟨B, F, e, R, h⟩
  refine ⟨B, F, e, R, OutA.bind (P := OutO X.K W B F σ Q) oBad oExc h fun l e1 h1 F1 H1 xs R1 s1 rs => ?_⟩
  unfold mkLst at h1
  by_cases hl : l.length ≤ LIM
  · rw [if_pos hl] at h1
    exact ⟨by rw [rs.length]; exact lim_line hl, fun p hp => h1 _ _ _ (R1.newL hp rs) s1⟩
  · rw [if_neg hl] at h1
    exact h1.elim
/-- a new list as a value -/
def slD : Sl → R D
  | .l xs => .ok (.lst xs)
  | _ => .bad
def dFrz (o : OE) : DE := fun e => (o e).bind fun p => (slD p.1).bind fun d => .ok (d, p.2)
theorem dx_frz {o : OE} {ex : Expr} (h : PE X ex (tO X.K W o)) : PE X ex (tD X.K W (dFrz o)) := by
  refine peI h ?_
  rintro σ H Q ⟨B, F, e, R, h⟩
  refine ⟨B, F, e, R, OutO.bind (P := OutD X.K W B F σ Q) dBad dExc h fun s e1 h1 F1 H1 x R1 s1 => ?_⟩
  cases s with
  | l xs =>
    obtain ⟨F2, s2, R2, rp⟩ := R1.freeze
    exact h1 F2 H1 x R2 (s1.trans s2) rp
  | v d => exact h1.elim
  | box p ns st => exact h1.elim
  | _ => exact h1.elim
end
end WW
set_option Elab.async false
set_option linter.all false
set_option maxRecDepth 100000
set_option maxHeartbeats 4000000
/-! The data layer, part 3: operators and calls, value by value. -/
namespace WW
open PySem PySem.Spec L2

/-! ### plain data as the library's data -/
mutual
def D.py : D → PyData
  | .non => .none
  | .bl b => .bool b
  | .int i => .int i
  | .str x => .str x
  | .tup l => .tuple (pyAll l)
  | .lst l => .list (pyAll l)
  | .ins _ _ _ => .none
  | .dct _ _ => .none
def pyAll : List D → List PyData
  | [] => []
  | d :: l => d.py :: pyAll l
end
mutual
def D.plain : D → Bool
  | .tup l => plainAll l
  | .lst l => plainAll l
  | .ins _ _ _ => false
  | .dct _ _ => false
  | _ => true
def plainAll : List D → Bool
  | [] => true
  | d :: l => d.plain && plainAll l
end
mutual
theorem Rep.dp {K : PySem.W.Frag} {F H : Hp} (s : Same F H) : ∀ (d : D) (v : V), d.plain = true → Rep K F v d → Dp K H v d.py
  | .non, _, _, h => by cases h; exact .non
  | .bl _, _, _, h => by cases h; exact .bl _
  | .int _, _, _, h => by cases h; exact .int _
  | .str _, _, _, h => by cases h; exact .str _
  | .tup l, _, p, h => by
    cases h with
    | tup h1 h2 => exact .tup (same_sqT s h1) (Reps.dp s l _ (by simpa [D.plain] using p) h2)
  | .lst l, _, p, h => by
    cases h with
    | lst h1 h2 => exact .lst (.inl (.inl (s _ _ h1))) (Reps.dp s l _ (by simpa [D.plain] using p) h2)
  | .ins _ _ _, _, p, _ => by simp [D.plain] at p
  | .dct _ _, _, p, _ => by simp [D.plain] at p
theorem Reps.dp {K : PySem.W.Frag} {F H : Hp} (s : Same F H) : ∀ (l : List D) (vs : List V), plainAll l = true → Reps K F vs l → DpAll K H vs (pyAll l)
  | [], _, _, h => by cases h; exact .nil
  | d :: l, _, p, h => by
    cases h with
    | cons h1 h2 =>
      have p2 : d.plain = true ∧ plainAll l = true := by simpa [plainAll] using p
      exact .cons (Rep.dp s d _ p2.1 h1) (Reps.dp s l _ p2.2 h2)
end
def D.fit (d : D) : Bool := d.plain && SeqAt.shaped d.py
theorem D.fit_plain {d : D} (h : d.fit = true) : d.plain = true := (Bool.and_eq_true_iff.mp h).1
theorem D.fit_shaped {d : D} (h : d.fit = true) : SeqAt.shaped d.py = true := (Bool.and_eq_true_iff.mp h).2

section
variable {K : PySem.W.Frag} {F H : Hp} {Q : VK}
theorem OutV.flat {v : V} {d : D} (s : Same F H) (h : OutV K F H Q (.ok d)) (r : ∀ F', Rep K F' v d) : Q v H := h F H v (Ext.refl s) (r F)
theorem OutV.same {v : V} {d : D} (s : Same F H) (h : OutV K F H Q (.ok d)) (r : Rep K F v d) : Q v H := h F H v (Ext.refl s) r
theorem OutV.newT {vs : List V} {l : List D} (s : Same F H) (h : OutV K F H Q (.ok (.tup l))) (r : Reps K F vs l) : ∀ p, H p = none → Q (.ref p) (upd H p (.tup vs)) := fun p hp => by
  have x := ext_new (K := K) (o := .tup vs) s hp
  exact h _ _ _ x (.tup (.inl (.inl upd_same)) (r.mono x.fr))
theorem OutV.newL {vs : List V} {l : List D} (s : Same F H) (h : OutV K F H Q (.ok (.lst l))) (r : Reps K F vs l) : ∀ p, H p = none → Q (.ref p) (upd H p (.lst vs)) := fun p hp => by
  have x := ext_new (K := K) (o := .lst vs) s hp
  exact h _ _ _ x (.lst upd_same (r.mono x.fr))
end

/-! ### arithmetic -/
def gAdd : D → D → R D
  | .int i, .int j => .ok (.int (i + j))
  | .str x, .str y => if x.length + y.length ≤ LIM then .ok (.str (x ++ y)) else .bad
  | .lst l, .lst m => if l.length + m.length ≤ LIM then .ok (.lst (l ++ m)) else .bad
  | .tup l, .tup m => if l.length + m.length ≤ LIM then .ok (.tup (l ++ m)) else .bad
  | _, _ => .bad
def gSub : D → D → R D
  | .int i, .int j => .ok (.int (i - j))
  | _, _ => .bad
def SMALL : Int := 1000000000
def small (i : Int) : Bool := decide (-SMALL < i) && decide (i < SMALL)
theorem small_of {i : Int} (h : small i = true) : -1000000000 < i ∧ i < 1000000000 := by
  unfold small SMALL at h
  simp only [Bool.and_eq_true, decide_eq_true_eq] at h
  exact h
def gMul : D → D → R D
  | .int i, .int j => if (small i || small j) = true then .ok (.int (i * j)) else .bad
  | .str x, .int k => if x.length * k.toNat ≤ LIM ∧ small k = true then .ok (.str (Txt.mul x k)) else .bad
  | .lst l, .int k => if l.length * k.toNat ≤ LIM ∧ small k = true then .ok (.lst (List.replicate k.toNat l).flatten) else .bad
  | _, _ => .bad
def gDiv : D → D → R D
  | .int i, .int j => if 0 < j ∧ j < SMALL then .ok (.int (i / j)) else .bad
  | _, _ => .bad
def gMod : D → D → R D
  | .int i, .int j => if 0 < j then .ok (.int (i % j)) else .bad
  | _, _ => .bad
def rMulS : R2 := fun x y H Q => ∃ z k, x = .str z ∧ y = .int k ∧ z.length * k.toNat ≤ LIM ∧ small k = true ∧ Q (.str (Txt.mul z k)) H
theorem mulOk {z : Str} {k : Int} (h1 : z.length * k.toNat ≤ LIM) (h2 : small k = true) : MulOk z k := by
  obtain ⟨h3, h4⟩ := small_of h2
  refine ⟨?_, fun h5 _ h6 => ?_, fun h5 _ => ?_⟩
  · have e1 : decide (k < -(2 ^ 63 : Int)) = false := decide_eq_false (by omega)
    have e2 : decide (k ≥ 2 ^ 63) = false := decide_eq_false (by omega)
    rw [e1, e2]; rfl
  · have hz : z.length ≤ LIM := by
      have h7 : 1 ≤ k.toNat := by omega
      exact Nat.le_trans (Nat.le_mul_of_pos_right _ h7) h1
    unfold LIM at hz
    have h8 : (1000000 : Int) ≤ (2 ^ 63 - 1) / k := by
      refine Int.le_ediv_of_mul_le (by omega) ?_
      have : (1000000 : Int) * k ≤ 1000000 * 1000000000 := Int.mul_le_mul_of_nonneg_left (by omega) (by omega)
      omega
    omega
  · unfold Builtin.Str.tooLong
    rw [decide_eq_false]
    have := lim_line h1
    omega
section
variable {X : Cx} {K : PySem.W.Frag}
theorem op_mulS : OpR X (binaryOp .Mult) rMulS := by
  intro pins s σ H x y v u Q I rx ry h
  obtain ⟨z, k, rfl, rfl, h1, h2, q⟩ := h
  obtain ⟨t, rfl⟩ := rx
  obtain ⟨t', rfl⟩ := ry
  exact PySem.SB.mul (mulOk h1 h2) fun t2 tk => ⟨.str _, H, I.tok tk, ⟨_, rfl⟩, q⟩
def rAddA (K : PySem.W.Frag) : R2 := fun x y H Q => (∃ i j, x = .int i ∧ y = .int j ∧ Q (.int (i + j)) H) ∨ (∃ i j, x = .str i ∧ y = .str j ∧ i.length + j.length ≤ sizeLine ∧ Q (.str (i ++ j)) H) ∨ rCat x y H Q ∨ rCatA K x y H Q
theorem op_addA : OpR X (binaryOp .Add) (rAddA X.K) := OpR.or op_add (OpR.or op_add_str (OpR.or op_cat op_catA))
theorem vr_add : VR2 K (rAddA K) gAdd := by
  intro F H x y dx dy Q s rx ry h
  unfold gAdd at h
  cases dx with
  | int i =>
    cases dy with
    | int j => exact .inl ⟨i, j, rx.int_inv, ry.int_inv, h.flat s fun _ => .int _⟩
    | _ => exact h.elim
  | str i =>
    cases dy with
    | str j =>
      by_cases c : i.length + j.length ≤ LIM
      · simp only [if_pos c] at h
        exact .inr (.inl ⟨i, j, rx.str_inv, ry.str_inv, lim_line c, h.flat s fun _ => .str _⟩)
      · simp only [if_neg c] at h
        exact h.elim
    | _ => exact h.elim
  | lst l =>
    cases dy with
    | lst m =>
      by_cases c : l.length + m.length ≤ LIM
      · simp only [if_pos c] at h
        obtain ⟨a, vs, rfl, ha, ra⟩ := rx.lst_inv
        obtain ⟨b, us, rfl, hb, rb⟩ := ry.lst_inv
        exact .inr (.inr (.inl ⟨a, b, vs, us, rfl, rfl, s _ _ ha, s _ _ hb, by rw [ra.length, rb.length]; exact lim_line c, h.newL s (ra.app rb)⟩))
      · simp only [if_neg c] at h
        exact h.elim
    | _ => exact h.elim
  | tup l =>
    cases dy with
    | tup m =>
      by_cases c : l.length + m.length ≤ LIM
      · simp only [if_pos c] at h
        obtain ⟨a, vs, rfl, ha, ra⟩ := rx.tup_inv
        obtain ⟨b, us, rfl, hb, rb⟩ := ry.tup_inv
        refine .inr (.inr (.inr ⟨a, b, vs, us, rfl, rfl, same_sqT s ha, same_sqT s hb, by rw [ra.length, rb.length]; exact lim_line c, fun z => ?_, fun _ z => ?_, fun _ _ => h.newT s (ra.app rb)⟩))
        · subst z
          cases ra
          exact h.same s ry
        · subst z
          cases rb
          rw [List.append_nil] at h
          exact h.same s rx
      · simp only [if_neg c] at h
        exact h.elim
    | _ => exact h.elim
  | _ => exact h.elim
theorem nx_add : NoX2 gAdd := by
  intro a b x h
  unfold gAdd at h
  split at h <;> first | cases h | (split at h <;> cases h)
theorem vr_sub : VR2 K (rI0 fun i j => .int (i - j)) gSub := by
  intro F H x y dx dy Q s rx ry h
  unfold gSub at h
  split at h
  · exact ⟨_, _, rx.int_inv, ry.int_inv, h.flat s fun _ => .int _⟩
  · exact h.elim
theorem nx_sub : NoX2 gSub := by
  intro a b x h
  unfold gSub at h
  split at h <;> cases h
def rMulA : R2 := fun x y H Q => rI CMul (fun i j => .int (i * j)) x y H Q ∨ rMulS x y H Q ∨ rRep x y H Q
theorem op_mulA : OpR X (binaryOp .Mult) rMulA := OpR.or op_mul (OpR.or op_mulS op_rep)
theorem reps_rep {F : Hp} {vs : List V} {l : List D} (r : Reps K F vs l) : ∀ n : Nat, Reps K F (List.replicate n vs).flatten (List.replicate n l).flatten
  | 0 => .nil
  | n + 1 => by
    rw [List.replicate_succ, List.replicate_succ, List.flatten_cons, List.flatten_cons]
    exact r.app (reps_rep r n)
theorem vr_mul : VR2 K rMulA gMul := by
  intro F H x y dx dy Q s rx ry h
  unfold gMul at h
  split at h
  · rename_i i j
    by_cases c : (small i || small j) = true
    · rw [if_pos c] at h
      refine .inl ⟨_, _, rx.int_inv, ry.int_inv, ?_, h.flat s fun _ => .int _⟩
      rcases Bool.or_eq_true_iff.mp c with z | z
      · obtain ⟨h1, h2⟩ := small_of z
        exact .inl ⟨by omega, by omega⟩
      · obtain ⟨h1, h2⟩ := small_of z
        exact .inr ⟨by omega, by omega⟩
    · rw [if_neg c] at h
      exact h.elim
  · rename_i z k
    by_cases c : z.length * k.toNat ≤ LIM ∧ small k = true
    · rw [if_pos c] at h
      exact .inr (.inl ⟨_, _, rx.str_inv, ry.int_inv, c.1, c.2, h.flat s fun _ => .str _⟩)
    · rw [if_neg c] at h
      exact h.elim
  · rename_i l k
    by_cases c : l.length * k.toNat ≤ LIM ∧ small k = true
    · rw [if_pos c] at h
      obtain ⟨a, vs, rfl, ha, ra⟩ := rx.lst_inv
      obtain ⟨h1, h2⟩ := small_of c.2
      exact .inr (.inr ⟨a, k, vs, rfl, ry.int_inv, s _ _ ha, by omega, by omega, by rw [ra.length]; exact lim_line c.1, h.newL s (reps_rep ra _)⟩)
    · rw [if_neg c] at h
      exact h.elim
  · exact h.elim
theorem nx_mul : NoX2 gMul := by
  intro a b x h
  unfold gMul at h
  split at h <;> first | cases h | (split at h <;> cases h)
theorem vr_div : VR2 K (rI CDiv fun i j => .int (i / j)) gDiv := by
  intro F H x y dx dy Q s rx ry h
  unfold gDiv at h
  split at h
  · rename_i i j
    by_cases c : 0 < j ∧ j < SMALL
    · rw [if_pos c] at h
      exact ⟨_, _, rx.int_inv, ry.int_inv, ⟨c.1, by have := c.2; unfold SMALL at this; omega⟩, h.flat s fun _ => .int _⟩
    · rw [if_neg c] at h
      exact h.elim
  · exact h.elim
theorem nx_div : NoX2 gDiv := by
  intro a b x h
  unfold gDiv at h
  split at h <;> first | cases h | (split at h <;> cases h)
theorem vr_mod : VR2 K (rI (fun _ j => 0 < j) fun i j => .int (i % j)) gMod := by
  intro F H x y dx dy Q s rx ry h
  unfold gMod at h
  split at h
  · rename_i i j
    by_cases c : 0 < j
    · rw [if_pos c] at h
      exact ⟨_, _, rx.int_inv, ry.int_inv, c, h.flat s fun _ => .int _⟩
    · rw [if_neg c] at h
      exact h.elim
  · exact h.elim
theorem nx_mod : NoX2 gMod := by
  intro a b x h
  unfold gMod at h
  split at h <;> first | cases h | (split at h <;> cases h)

/-! ### comparisons -/
def gEq : D → D → R D
  | .int i, .int j => .ok (.bl (decide (i = j)))
  | .str i, .str j => .ok (.bl (decide (i = j)))
  | .bl i, .bl j => .ok (.bl (decide (i = j)))
  | .lst l, .lst m => if (D.lst l).fit = true ∧ (D.lst m).fit = true then .ok (.bl (PyData.eqv (D.lst l).py (D.lst m).py)) else .bad
  | .tup l, .tup m => if (D.tup l).fit = true ∧ (D.tup m).fit = true then .ok (.bl (PyData.eqv (D.tup l).py (D.tup m).py)) else .bad
  | .non, .str _ => .ok (.bl false)
  | .str _, .non => .ok (.bl false)
  | .non, .int _ => .ok (.bl false)
  | .int _, .non => .ok (.bl false)
  | .non, .non => .ok (.bl true)
  | _, _ => .bad
def gNot : R D → R D
  | .ok (.bl b) => .ok (.bl (!b))
  | .exc x => .exc x
  | _ => .bad
def gNe (a b : D) : R D := gNot (gEq a b)
def rEqA (K : PySem.W.Frag) : R2 := fun x y H Q => rEq x y H Q ∨ rEqD K x y H Q
def rNeA (K : PySem.W.Frag) : R2 := fun x y H Q => rNe x y H Q ∨ rNeD K x y H Q
theorem op_eqA (hu : X.A.units + 64 < cLine) : OpR X (compareOp .Eq) (rEqA X.K) := OpR.or op_eq (op_eqD hu)
theorem op_neA (hu : X.A.units + 64 < cLine) : OpR X (compareOp .NotEq) (rNeA X.K) := OpR.or op_ne (op_neD hu)
theorem eq_cases {F H : Hp} {x y : V} {a b : D} {k : Bool} (s : Same F H) (rx : Rep K F x a) (ry : Rep K F y b) (h : gEq a b = .ok (.bl k)) :
    (scal x y = true ∧ decide (x = y) = k) ∨ ∃ d e, Dp K H x d ∧ Dp K H y e ∧ SeqAt.shaped d = true ∧ SeqAt.shaped e = true ∧ PyData.eqv d e = k := by
  unfold gEq at h
  split at h
  · rename_i i j
    rw [rx.int_inv, ry.int_inv]
    have h2 : decide (i = j) = k := by injection h with h; injection h
    refine .inl ⟨rfl, ?_⟩
    rw [← h2, dec_int]
    by_cases c : i = j <;> simp [c]
  · rename_i i j
    rw [rx.str_inv, ry.str_inv]
    have h2 : decide (i = j) = k := by injection h with h; injection h
    refine .inl ⟨rfl, ?_⟩
    rw [← h2, dec_str]
    by_cases c : i = j <;> simp [c]
  · rename_i i j
    rw [rx.bl_inv, ry.bl_inv]
    have h2 : decide (i = j) = k := by injection h with h; injection h
    refine .inl ⟨rfl, ?_⟩
    rw [← h2, dec_bl]
    by_cases c : i = j <;> simp [c]
  · rename_i l m
    by_cases c : (D.lst l).fit = true ∧ (D.lst m).fit = true
    · rw [if_pos c] at h
      refine .inr ⟨_, _, Rep.dp s _ _ (D.fit_plain c.1) rx, Rep.dp s _ _ (D.fit_plain c.2) ry, D.fit_shaped c.1, D.fit_shaped c.2, ?_⟩
      injection h with h; injection h
    · rw [if_neg c] at h
      cases h
  · rename_i l m
    by_cases c : (D.tup l).fit = true ∧ (D.tup m).fit = true
    · rw [if_pos c] at h
      refine .inr ⟨_, _, Rep.dp s _ _ (D.fit_plain c.1) rx, Rep.dp s _ _ (D.fit_plain c.2) ry, D.fit_shaped c.1, D.fit_shaped c.2, ?_⟩
      injection h with h; injection h
    · rw [if_neg c] at h
      cases h
  · rename_i j
    rw [rx.non_inv, ry.str_inv]
    have h2 : false = k := by injection h with h; injection h
    subst h2
    exact .inl ⟨rfl, by simp⟩
  · rename_i j
    rw [rx.str_inv, ry.non_inv]
    have h2 : false = k := by injection h with h; injection h
    subst h2
    exact .inl ⟨rfl, by simp⟩
  · rename_i j
    rw [rx.non_inv, ry.int_inv]
    have h2 : false = k := by injection h with h; injection h
    subst h2
    exact .inl ⟨rfl, by simp⟩
  · rename_i j
    rw [rx.int_inv, ry.non_inv]
    have h2 : false = k := by injection h with h; injection h
    subst h2
    exact .inl ⟨rfl, by simp⟩
  · rw [rx.non_inv, ry.non_inv]
    have h2 : true = k := by injection h with h; injection h
    subst h2
    exact .inl ⟨rfl, by simp⟩
  · cases h
theorem eq_bl {a b : D} : (∃ k, gEq a b = .ok (.bl k)) ∨ gEq a b = .bad := by
  unfold gEq
  split <;> first | exact .inl ⟨_, rfl⟩ | exact .inr rfl | (split <;> first | exact .inl ⟨_, rfl⟩ | exact .inr rfl)
theorem nx_eq : NoX2 gEq := fun a b x h => by
  rcases eq_bl (a := a) (b := b) with ⟨k, e⟩ | e <;> (rw [e] at h; cases h)
theorem nx_ne : NoX2 gNe := fun a b x h => by
  unfold gNe at h
  rcases eq_bl (a := a) (b := b) with ⟨k, e⟩ | e <;> (rw [e] at h; cases h)
theorem vr_eq : VR2 K (rEqA K) gEq := by
  intro F H x y dx dy Q s rx ry h
  rcases eq_bl (a := dx) (b := dy) with ⟨k, e⟩ | e
  · rw [e] at h
    rcases eq_cases s rx ry e with ⟨h1, h2⟩ | ⟨d, f, h1, h2, h3, h4, h5⟩
    · exact .inl ⟨h1, by rw [h2]; exact h.flat s fun _ => .bl _⟩
    · exact .inr ⟨d, f, h1, h2, h3, h4, by rw [h5]; exact h.flat s fun _ => .bl _⟩
  · rw [e] at h
    exact h.elim
theorem vr_ne : VR2 K (rNeA K) gNe := by
  intro F H x y dx dy Q s rx ry h
  unfold gNe at h
  rcases eq_bl (a := dx) (b := dy) with ⟨k, e⟩ | e
  · rw [e] at h
    rcases eq_cases s rx ry e with ⟨h1, h2⟩ | ⟨d, f, h1, h2, h3, h4, h5⟩
    · exact .inl ⟨h1, by rw [h2]; exact h.flat s fun _ => .bl _⟩
    · exact .inr ⟨d, f, h1, h2, h3, h4, by rw [h5]; exact h.flat s fun _ => .bl _⟩
  · rw [e] at h
    exact h.elim
def gCmp (p : Int → Int → Bool) : D → D → R D
  | .int i, .int j => .ok (.bl (p i j))
  | _, _ => .bad
theorem vr_cmp {p : Int → Int → Bool} : VR2 K (rI0 fun i j => .bl (p i j)) (gCmp p) := by
  intro F H x y dx dy Q s rx ry h
  unfold gCmp at h
  split at h
  · exact ⟨_, _, rx.int_inv, ry.int_inv, h.flat s fun _ => .bl _⟩
  · exact h.elim
theorem nx_cmp {p : Int → Int → Bool} : NoX2 (gCmp p) := by
  intro a b x h
  unfold gCmp at h
  split at h <;> cases h
abbrev gLt := gCmp fun i j => decide (i < j)
abbrev gLe := gCmp fun i j => decide (i ≤ j)
abbrev gGt := gCmp fun i j => decide (j < i)
abbrev gGe := gCmp fun i j => decide (j ≤ i)
def gIsN : D → D → R D
  | .non, .non => .ok (.bl true)
  | _, .non => .ok (.bl false)
  | _, _ => .bad
def gNotN : D → D → R D
  | .non, .non => .ok (.bl false)
  | _, .non => .ok (.bl true)
  | _, _ => .bad
theorem isN_dec {F : Hp} {x : V} {d : D} (r : Rep K F x d) : decide (x = .non) = match d with
    | .non => true
    | _ => false := by
  cases r <;> first | rfl | simp
theorem vr_isN : VR2 K (fun x y H Q => y = .non ∧ Q (.bl (decide (x = .non))) H) gIsN := by
  intro F H x y dx dy Q s rx ry h
  have e := isN_dec rx
  cases dy with
  | non =>
    refine ⟨ry.non_inv, ?_⟩
    rw [e]
    cases dx <;> exact h.flat s fun _ => .bl _
  | _ => cases dx <;> exact h.elim
theorem vr_notN : VR2 K (fun x y H Q => y = .non ∧ Q (.bl (!decide (x = .non))) H) gNotN := by
  intro F H x y dx dy Q s rx ry h
  have e := isN_dec rx
  cases dy with
  | non =>
    refine ⟨ry.non_inv, ?_⟩
    rw [e]
    cases dx <;> exact h.flat s fun _ => .bl _
  | _ => cases dx <;> exact h.elim
theorem nx_isN : NoX2 gIsN := by
  intro a b x h
  unfold gIsN at h
  split at h <;> cases h
theorem nx_notN : NoX2 gNotN := by
  intro a b x h
  unfold gNotN at h
  split at h <;> cases h
/-! ### in -/
def D.flat : D → Bool
  | .non => true
  | .bl _ => true
  | .int _ => true
  | .str _ => true
  | _ => false
def eqFlat : D → D → Bool
  | .non, .non => true
  | .bl a, .bl b => a == b
  | .bl a, .int b => (if a then 1 else 0) == b
  | .int a, .bl b => a == (if b then 1 else 0)
  | .int a, .int b => a == b
  | .str a, .str b => a == b
  | _, _ => false
def inFlat (x : D) (l : List D) : Bool := l.any fun y => eqFlat y x
def gIn : D → D → R D
  | .str x, .str y => if x.cps.size = 1 then .ok (.bl (decide (x.cps.getD 0 0 ∈ y.cps.toList))) else .bad
  | x, .tup l => if (x.flat && l.all D.flat) = true then .ok (.bl (inFlat x l)) else .bad
  | x, .lst l => if (x.flat && l.all D.flat) = true then .ok (.bl (inFlat x l)) else if (x.fit && (D.lst l).fit) = true then .ok (.bl ((pyAll l).any fun z => PyData.eqv z x.py)) else .bad
  | _, _ => .bad
def gNotIn (a b : D) : R D := gNot (gIn a b)
theorem flat_V {F : Hp} {x : V} {d : D} (r : Rep K F x d) : flatV x = d.flat := by cases r <;> rfl
theorem flats_V {F : Hp} : ∀ {vs : List V} {l : List D}, Reps K F vs l → vs.all flatV = l.all D.flat
  | _, _, .nil => rfl
  | _, _, .cons r t => by rw [List.all_cons, List.all_cons, flat_V r, flats_V t]
theorem eqFlat_V {F : Hp} {x y : V} {a b : D} (r : Rep K F x a) (q : Rep K F y b) (fa : a.flat = true) (fb : b.flat = true) : eqV x y = eqFlat a b := by
  cases r <;> cases q <;> first | rfl | exact absurd fa (by simp [D.flat]) | exact absurd fb (by simp [D.flat])
theorem inFlat_V {F : Hp} {x : V} {d : D} (r : Rep K F x d) (fd : d.flat = true) : ∀ {vs : List V} {l : List D}, Reps K F vs l → l.all D.flat = true → inV x vs = inFlat d l
  | _, _, .nil, _ => rfl
  | _, _, .cons q t, h => by
    rw [List.all_cons, Bool.and_eq_true] at h
    have ih := inFlat_V r fd t h.2
    unfold inV inFlat at ih ⊢
    rw [List.any_cons, List.any_cons, ih, eqFlat_V q r h.1 fd]
def rInA (K : PySem.W.Frag) : R2 := fun x y H Q => (∃ (c : Nat) (z : Str), x = .str ⟨#[c]⟩ ∧ y = .str z ∧ Q (.bl (decide (c ∈ z.cps.toList))) H) ∨ rIn K false x y H Q ∨ rInD K x y H Q
def rNotInA (K : PySem.W.Frag) : R2 := fun x y H Q => (∃ (c : Nat) (z : Str), x = .str ⟨#[c]⟩ ∧ y = .str z ∧ Q (.bl (!decide (c ∈ z.cps.toList))) H) ∨ rIn K true x y H Q ∨ rNotInD K x y H Q
theorem op_inA (hu : X.A.units + 65 < cLine) : OpR X (compareOp .In) (rInA X.K) := OpR.or op_in_sign (OpR.or op_in_seq (op_inD hu))
theorem op_notInA (hu : X.A.units + 65 < cLine) : OpR X (compareOp .NotIn) (rNotInA X.K) := OpR.or op_notIn_sign (OpR.or op_notIn_seq (op_notInD hu))
theorem one_sign {x : Str} (h : x.cps.size = 1) : x = ⟨#[x.cps.getD 0 0]⟩ := by
  obtain ⟨⟨l⟩⟩ := x
  have h2 : l.length = 1 := by simpa using h
  match l, h2 with
  | [c], _ => rfl
theorem in_cases {F H : Hp} {x y : V} {a b : D} {k : Bool} (s : Same F H) (rx : Rep K F x a) (ry : Rep K F y b) (h : gIn a b = .ok (.bl k)) :
    (∃ (c : Nat) (z : Str), x = .str ⟨#[c]⟩ ∧ y = .str z ∧ decide (c ∈ z.cps.toList) = k) ∨
    (∃ p xs, y = .ref p ∧ (SqL K H p xs ∨ SqT K H p xs) ∧ flatV x = true ∧ xs.all flatV = true ∧ inV x xs = k) ∨
    (∃ d ds, Dp K H x d ∧ Dp K H y (.list ds) ∧ SeqAt.shaped d = true ∧ SeqAt.shaped (.list ds) = true ∧ (ds.any fun z => PyData.eqv z d) = k) := by
  unfold gIn at h
  split at h
  · rename_i x0 y0
    by_cases c : x0.cps.size = 1
    · rw [if_pos c] at h
      refine .inl ⟨x0.cps.getD 0 0, y0, ?_, ry.str_inv, by injection h with h; injection h⟩
      rw [rx.str_inv, ← one_sign c]
    · rw [if_neg c] at h
      cases h
  · rename_i l
    by_cases c : (a.flat && l.all D.flat) = true
    · rw [if_pos c] at h
      obtain ⟨c1, c2⟩ := Bool.and_eq_true_iff.mp c
      obtain ⟨p, vs, rfl, hp, rs⟩ := ry.tup_inv
      refine .inr (.inl ⟨p, vs, rfl, .inr (same_sqT s hp), by rw [flat_V rx]; exact c1, by rw [flats_V rs]; exact c2, ?_⟩)
      rw [inFlat_V rx c1 rs c2]
      injection h with h; injection h
    · rw [if_neg c] at h
      cases h
  · rename_i l
    by_cases c : (a.flat && l.all D.flat) = true
    · rw [if_pos c] at h
      obtain ⟨c1, c2⟩ := Bool.and_eq_true_iff.mp c
      obtain ⟨p, vs, rfl, hp, rs⟩ := ry.lst_inv
      refine .inr (.inl ⟨p, vs, rfl, .inl (.inl (.inl (s _ _ hp))), by rw [flat_V rx]; exact c1, by rw [flats_V rs]; exact c2, ?_⟩)
      rw [inFlat_V rx c1 rs c2]
      injection h with h; injection h
    · rw [if_neg c] at h
      by_cases c : (a.fit && (D.lst l).fit) = true
      · rw [if_pos c] at h
        obtain ⟨c1, c2⟩ := Bool.and_eq_true_iff.mp c
        refine .inr (.inr ⟨a.py, pyAll l, Rep.dp s _ _ (D.fit_plain c1) rx, Rep.dp s _ _ (D.fit_plain c2) ry, D.fit_shaped c1, D.fit_shaped c2, ?_⟩)
        injection h with h; injection h
      · rw [if_neg c] at h
        cases h
  · cases h
theorem in_bl {a b : D} : (∃ k, gIn a b = .ok (.bl k)) ∨ gIn a b = .bad := by
  unfold gIn
  split
  · split <;> first | exact .inl ⟨_, rfl⟩ | exact .inr rfl
  · split <;> first | exact .inl ⟨_, rfl⟩ | exact .inr rfl
  · split
    · exact .inl ⟨_, rfl⟩
    · split <;> first | exact .inl ⟨_, rfl⟩ | exact .inr rfl
  · exact .inr rfl
theorem nx_in : NoX2 gIn := fun a b x h => by
  rcases in_bl (a := a) (b := b) with ⟨k, e⟩ | e <;> (rw [e] at h; cases h)
theorem nx_notIn : NoX2 gNotIn := fun a b x h => by
  unfold gNotIn at h
  rcases in_bl (a := a) (b := b) with ⟨k, e⟩ | e <;> (rw [e] at h; cases h)
theorem vr_in : VR2 K (rInA K) gIn := by
  intro F H x y dx dy Q s rx ry h
  rcases in_bl (a := dx) (b := dy) with ⟨k, e⟩ | e
  · rw [e] at h
    rcases in_cases s rx ry e with ⟨c, z, h1, h2, h3⟩ | ⟨p, xs, h1, h2, h3, h4, h5⟩ | ⟨d, ds, h1, h2, h3, h4, h5⟩
    · exact .inl ⟨c, z, h1, h2, by rw [h3]; exact h.flat s fun _ => .bl _⟩
    · refine .inr (.inl ⟨p, xs, h1, h2, h3, h4, ?_⟩)
      show Q (.bl (if false = true then !inV x xs else inV x xs)) H
      rw [if_neg Bool.false_ne_true, h5]; exact h.flat s fun _ => .bl _
    · exact .inr (.inr ⟨d, ds, h1, h2, h3, h4, by rw [h5]; exact h.flat s fun _ => .bl _⟩)
  · rw [e] at h
    exact h.elim
theorem vr_notIn : VR2 K (rNotInA K) gNotIn := by
  intro F H x y dx dy Q s rx ry h
  unfold gNotIn at h
  rcases in_bl (a := dx) (b := dy) with ⟨k, e⟩ | e
  · rw [e] at h
    rcases in_cases s rx ry e with ⟨c, z, h1, h2, h3⟩ | ⟨p, xs, h1, h2, h3, h4, h5⟩ | ⟨d, ds, h1, h2, h3, h4, h5⟩
    · exact .inl ⟨c, z, h1, h2, by rw [h3]; exact h.flat s fun _ => .bl _⟩
    · refine .inr (.inl ⟨p, xs, h1, h2, h3, h4, ?_⟩)
      show Q (.bl (if true = true then !inV x xs else inV x xs)) H
      rw [if_pos rfl, h5]; exact h.flat s fun _ => .bl _
    · exact .inr (.inr ⟨d, ds, h1, h2, h3, h4, by rw [h5]; exact h.flat s fun _ => .bl _⟩)
  · rw [e] at h
    exact h.elim
end
end WW
set_option Elab.async false
set_option linter.all false
set_option maxRecDepth 100000
set_option maxHeartbeats 4000000
/-! The data layer, part 4: subscripts, slices, calls. -/
namespace WW
open PySem PySem.Spec L2

/-! ### subscripts -/
theorem Reps.len {K : PySem.W.Frag} {F : Hp} {vs : List V} {l : List D} (r : Reps K F vs l) : vs.length = l.length := r.length
theorem atI_reps {K : PySem.W.Frag} {F : Hp} {vs : List V} {l : List D} {i : Int} {d : D} (r : Reps K F vs l) (h : atI l i = some d) : ∃ v, atI vs i = some v ∧ Rep K F v d := by
  unfold atI at h ⊢
  rw [r.len]
  cases q : ixN l.length i with
  | none => rw [q] at h; cases h
  | some j =>
    rw [q] at h
    exact r.get h
def gIx : D → D → R D
  | .lst l, .int i => (match atI l i with
    | some d => .ok d
    | none => .bad)
  | .tup l, .int i => (match atI l i with
    | some d => .ok d
    | none => .bad)
  | .str z, .int i => if z.length ≤ LIM then (match atI z.cps.toList i with
    | some c => .ok (.str ⟨#[c]⟩)
    | none => .bad) else .bad
  | _, _ => .bad
theorem nx_ix : NoX2 gIx := by
  intro a b x h
  unfold gIx at h
  split at h
  · split at h <;> cases h
  · split at h <;> cases h
  · split at h
    · split at h <;> cases h
    · cases h
  · cases h
section
variable {X : Cx} {W : WX} {pos p p2 : Pos} {a b c ex : Expr} {da db dc : DE} {K : PySem.W.Frag}
theorem vr_ix : VR2 K (rIx K) gIx := by
  intro F H x y dx dy Q s rx ry h
  unfold gIx at h
  split at h
  · rename_i l i
    obtain ⟨q, vs, rfl, hq, rs⟩ := rx.lst_inv
    cases e : atI l i with
    | none => rw [e] at h; exact h.elim
    | some d =>
      rw [e] at h
      obtain ⟨v, h1, h2⟩ := atI_reps rs e
      exact .inl ⟨q, vs, i, v, rfl, ry.int_inv, .inl (.inl (s _ _ hq)), h1, h.same s h2⟩
  · rename_i l i
    obtain ⟨q, vs, rfl, hq, rs⟩ := rx.tup_inv
    cases e : atI l i with
    | none => rw [e] at h; exact h.elim
    | some d =>
      rw [e] at h
      obtain ⟨v, h1, h2⟩ := atI_reps rs e
      exact .inr (.inl ⟨q, vs, i, v, rfl, ry.int_inv, same_sqT s hq, h1, h.same s h2⟩)
  · rename_i z i
    by_cases hz : z.length ≤ LIM
    · rw [if_pos hz] at h
      cases e : atI z.cps.toList i with
      | none => rw [e] at h; exact h.elim
      | some c =>
        rw [e] at h
        exact .inr (.inr ⟨z, i, c, rx.str_inv, ry.int_inv, lim_line hz, e, h.flat s fun _ => .str _⟩)
    · rw [if_neg hz] at h
      exact h.elim
  · exact h.elim
theorem dx_ix (ha : PE X a (tD X.K W da)) (hb : PE X b (tD X.K W db)) (hs : PlainIx b) : PE X (.Subscript a b pos) (tD X.K W (dBin gIx da db)) := peI (pe_ix ix_seq ha hb hs) fun _ _ _ => tD_op vr_ix nx_ix

/-! ### slices -/
abbrev DOp := En → R (Option Int × En)
def OutP (K : PySem.W.Frag) (W : WX) (B : Bs) (F : Hp) (σ : St) (Q : Option Int → Hp → Prop) : R (Option Int × En) → Prop
  | .ok p => ∀ F' H', Rl K B F' H' σ p.2 → Same F F' → Q p.1 H'
  | .exc x => ExcOut K W B σ x
  | .bad => False
def tP (K : PySem.W.Frag) (W : WX) (den : DOp) : TO := fun σ H Q => ∃ B F e, Rl K B F H σ e ∧ OutP K W B F σ Q (den e)
def pNo : DOp := fun e => .ok (none, e)
def asI : D → R Int
  | .int i => .ok i
  | _ => .bad
def pSome (da : DE) : DOp := fun e => (da e).bind fun p => (asI p.1).bind fun i => .ok (some i, p.2)
theorem poI {o : Option Expr} {t t' : TO} (h : PO X o t) (i : ∀ σ H Q, t' σ H Q → t σ H Q) : PO X o t' := ⟨fun pins s σ H Q I q => h.run pins s σ H Q I (i σ H Q q)⟩
theorem OutP.bind {K : PySem.W.Frag} {B : Bs} {F : Hp} {σ : St} {β : Type} {P : R β → Prop} {r : R (Option Int × En)} {g : Option Int × En → R β} {Q : Option Int → Hp → Prop} (hb : ¬ P .bad) (hx : ∀ x, P (.exc x) → ExcOut K W B σ x) (h : P (r.bind g))
    (k : ∀ d e1, P (g (d, e1)) → ∀ F' H', Rl K B F' H' σ e1 → Same F F' → Q d H') : OutP K W B F σ Q r := by
  cases r with
  | ok p => exact k p.1 p.2 h
  | exc x => exact hx x h
  | bad => exact hb h
theorem pBad {K : PySem.W.Frag} {B : Bs} {F : Hp} {σ : St} {Q : Option Int → Hp → Prop} : ¬ OutP K W B F σ Q .bad := fun h => h
theorem pExc {K : PySem.W.Frag} {B : Bs} {F : Hp} {σ : St} {Q : Option Int → Hp → Prop} : ∀ x, OutP K W B F σ Q (.exc x) → ExcOut K W B σ x := fun _ h => h
theorem dp_none : PO X none (tP X.K W pNo) := by
  refine poI po_none ?_
  rintro σ H Q ⟨B, F, e, R, h⟩
  exact h F H R (Same.refl _)
theorem dp_some (h : PE X ex (tD X.K W da)) : PO X (some ex) (tP X.K W (pSome da)) := by
  refine poI (po_some h) ?_
  rintro σ H Q ⟨B, F, e, R, h⟩
  refine ⟨B, F, e, R, OutD.bind (P := OutP X.K W B F σ Q) pBad pExc h fun d e1 h1 F1 H1 x R1 s1 rx => ?_⟩
  cases d with
  | int i => exact ⟨i, rx.int_inv, h1 F1 H1 R1 s1⟩
  | _ => exact h1.elim
def cutD (xs : List D) (lo hi : Option Int) : List D := (xs.drop (HT.sIx xs.length 0 lo)).take (HT.sIx xs.length xs.length hi - HT.sIx xs.length 0 lo)
theorem cut_reps {K : PySem.W.Frag} {F : Hp} {vs : List V} {l : List D} (r : Reps K F vs l) (lo hi : Option Int) : Reps K F (cutV vs lo hi) (cutD l lo hi) := by
  unfold cutV cutD
  rw [r.len]
  exact (r.drop _).take _
def gSl : D → Option Int → Option Int → R D
  | .lst l, lo, hi => .ok (.lst (cutD l lo hi))
  | .tup l, lo, hi => .ok (.tup (cutD l lo hi))
  | .str z, lo, hi => if z.length ≤ LIM then .ok (.str (cutS z lo hi)) else .bad
  | _, _, _ => .bad
def dSl (da : DE) (lo hi : DOp) : DE := fun e => (da e).bind fun p => (lo p.2).bind fun q => (hi q.2).bind fun r => (gSl p.1 q.1 r.1).bind fun d => .ok (d, r.2)
def rSl3 (K : PySem.W.Frag) : V → Option Int → Option Int → Hp → VK → Prop := fun x lo hi H Q => rSlL K x lo hi H Q ∨ rSlA K x lo hi H Q ∨ rSlS x lo hi H Q
theorem cut_whole {xs : List D} {lo hi : Option Int} (h : HT.sIx xs.length 0 lo = 0 ∧ HT.sIx xs.length xs.length hi = xs.length) : cutD xs lo hi = xs := by
  unfold cutD
  rw [h.1, h.2, List.drop_zero, Nat.sub_zero, List.take_length]
theorem dx_slice {lo hi : Option Expr} {dl dh : DOp} (ha : PE X a (tD X.K W da)) (hl : PO X lo (tP X.K W dl)) (hh : PO X hi (tP X.K W dh)) : PE X (.Subscript a (.Slice lo hi none p2) pos) (tD X.K W (dSl da dl dh)) := by
  refine peI (pe_slice (SlR.or sl_list (SlR.or sl_tupA sl_str)) ha hl hh) ?_
  rintro σ H Q ⟨B, F, e, R, h⟩
  refine ⟨B, F, e, R, OutD.bind (P := OutD X.K W B F σ Q) dBad dExc h fun d e1 h1 F1 H1 x R1 s1 rx => ?_⟩
  refine ⟨B, F1, e1, R1, OutP.bind (P := OutD X.K W B F1 σ Q) dBad dExc (OutD.pre s1 h1) fun i e2 h2 F2 H2 R2 s2 => ?_⟩
  refine ⟨B, F2, e2, R2, OutP.bind (P := OutD X.K W B F2 σ Q) dBad dExc (OutD.pre s2 h2) fun j e3 h3 F3 H3 R3 s3 => ?_⟩
  have h4 := OutD.pre s3 h3
  have rx3 := (rx.mono s2).mono s3
  cases d with
  | lst l =>
    obtain ⟨q, vs, rfl, hq, rs⟩ := rx3.lst_inv
    exact .inl ⟨q, vs, rfl, .inl (.inl (R3.sub _ _ hq)), (OutD.val (r := .ok (.lst (cutD l i j))) R3 h4 (fun _ z => by cases z)).newL R3.sub (cut_reps rs i j)⟩
  | tup l =>
    obtain ⟨q, vs, rfl, hq, rs⟩ := rx3.tup_inv
    have h5 := OutD.val (r := .ok (.tup (cutD l i j))) R3 h4 (fun _ z => by cases z)
    refine .inr (.inl ⟨q, vs, rfl, same_sqT R3.sub hq, fun z => ?_, fun _ => h5.newT R3.sub (cut_reps rs i j)⟩)
    rw [rs.len] at z
    rw [cut_whole z] at h5
    exact h5.same R3.sub rx3
  | str z =>
    have h6 : OutD X.K W B F3 σ Q ((if z.length ≤ LIM then WW.R.ok (D.str (cutS z i j)) else WW.R.bad).bind fun d => .ok (d, e3)) := h4
    by_cases hz : z.length ≤ LIM
    · rw [if_pos hz] at h6
      exact .inr (.inr ⟨z, rx3.str_inv, lim_line hz, (OutD.val (r := .ok (.str (cutS z i j))) R3 h6 (fun _ z => by cases z)).flat R3.sub fun _ => .str _⟩)
    · rw [if_neg hz] at h6
      exact h6.elim
  | _ => exact h4.elim

/-! ### calls of what is built in -/
variable {es : List Expr} {dr : DA} {id T : String} {x : Str} {r : List V → Hp → VK → Prop} {g : List D → R D}
theorem tA_app {σ : St} {H : Hp} {Q : VK} (hv : VRn K r g) (nx : NoXn g) (h : tD K W (dApp g dr) σ H Q) : tA K W dr σ H fun vs H1 => r vs H1 Q := by
  obtain ⟨B, F, e, R, h⟩ := h
  refine ⟨B, F, e, R, OutA.bind (P := OutD K W B F σ Q) dBad dExc h fun l e1 h1 F1 H1 xs R1 s1 rs => ?_⟩
  exact hv F1 H1 xs l Q R1.sub rs (OutD.val R1 (OutD.pre s1 h1) (nx _))
theorem dx_callB (hc : CallR X (.builtin id) r) (hv : VRn X.K r g) (nx : NoXn g) (hg : Gl X x) (hm : X.mg x = none) (hb : bootBuiltins x = some (.builtin id)) (ha : PA X (ex :: es) (tA X.K W dr)) (hn : x ≠ "__name__" := by decide) (hdb : (x == ("__debug__" : Str)) = false := by decide)
    (he : starEach (ex :: es) X.env = (false, eval ex X.env) :: starEach es X.env := by rfl) (hpl : (backTo pos (starEach es X.env)).any (·.1) = false := by rfl) : PE X (.Call (.Name x p) (ex :: es) [] pos) (tD X.K W (dApp g dr)) :=
  peI (pe_callB hc hg hm hb ha hn hdb he hpl) fun _ _ _ h => tA_app hv nx h
theorem dx_callTy (hc : CallR X (.type T) r) (hv : VRn X.K r g) (nx : NoXn g) (hg : Gl X x) (hm : X.mg x = none) (hb : bootBuiltins x = some (.type T)) (ha : PA X (ex :: es) (tA X.K W dr)) (hn : x ≠ "__name__" := by decide) (hdb : (x == ("__debug__" : Str)) = false := by decide)
    (he : starEach (ex :: es) X.env = (false, eval ex X.env) :: starEach es X.env := by rfl) (hpl : (backTo pos (starEach es X.env)).any (·.1) = false := by rfl) : PE X (.Call (.Name x p) (ex :: es) [] pos) (tD X.K W (dApp g dr)) :=
  peI (pe_callTy hc hg hm hb ha hn hdb he hpl) fun _ _ _ h => tA_app hv nx h
def gLen : List D → R D
  | [.str z] => if z.length ≤ LIM then .ok (.int z.length) else .bad
  | [.lst l] => .ok (.int l.length)
  | [.tup l] => .ok (.int l.length)
  | _ => .bad
theorem nx_len : NoXn gLen := by
  intro a x h
  unfold gLen at h
  split at h
  · split at h <;> cases h
  · cases h
  · cases h
  · cases h
theorem reps1 {F : Hp} {xs : List V} {d : D} (r : Reps K F xs [d]) : ∃ v, xs = [v] ∧ Rep K F v d := by
  cases r with
  | cons a b => cases b; exact ⟨_, rfl, a⟩
theorem reps2 {F : Hp} {xs : List V} {d d' : D} (r : Reps K F xs [d, d']) : ∃ v v', xs = [v, v'] ∧ Rep K F v d ∧ Rep K F v' d' := by
  cases r with
  | cons a b => 
    cases b with
    | cons b c => cases c; exact ⟨_, _, rfl, a, b⟩
theorem vr_len : VRn K (fun xs H Q => ∃ x n, xs = [x] ∧ LenV K x H n ∧ Q (.int n) H) gLen := by
  intro F H xs ds Q s rs h
  unfold gLen at h
  split at h
  · rename_i z
    obtain ⟨v, rfl, rv⟩ := reps1 rs
    by_cases hz : z.length ≤ LIM
    · rw [if_pos hz] at h
      refine ⟨v, z.length, rfl, ?_, h.flat s fun _ => .int _⟩
      rw [rv.str_inv]
      exact ⟨lim_line hz, rfl⟩
    · rw [if_neg hz] at h
      exact h.elim
  · rename_i l
    obtain ⟨v, rfl, rv⟩ := reps1 rs
    obtain ⟨q, vs, rfl, hq, rs⟩ := rv.lst_inv
    exact ⟨_, l.length, rfl, .inl ⟨vs, .inl (.inl (s _ _ hq)), rs.len.symm⟩, h.flat s fun _ => .int _⟩
  · rename_i l
    obtain ⟨v, rfl, rv⟩ := reps1 rs
    obtain ⟨q, vs, rfl, hq, rs⟩ := rv.tup_inv
    exact ⟨_, l.length, rfl, .inr ⟨vs, same_sqT s hq, rs.len.symm⟩, h.flat s fun _ => .int _⟩
  · exact h.elim
/-- isinstance with a built-in class -/
def D.tyOf : D → String
  | .non => "NoneType"
  | .bl _ => "bool"
  | .int _ => "int"
  | .str _ => "str"
  | .tup _ => "tuple"
  | .lst _ => "list"
  | .ins _ _ _ => "?"
  | .dct _ _ => "?"
theorem sqT_ty {H : Hp} {a : Addr} {vs : List V} (h : SqT K H a vs) : TyX K H (.ref a) (.type "tuple") := by
  rcases h with (h | ⟨o, h⟩) | ⟨o, its, n, h, c, _⟩
  · exact .base (.tup h)
  · exact .fTuple h
  · exact .kTuple h c
theorem tyX_of {F H : Hp} {v : V} {d : D} (s : Same F H) (r : Rep K F v d) (hn : d.tyOf ≠ "?") : TyX K H v (.type d.tyOf) := by
  cases r with
  | non => exact .base .non
  | bl b => exact .base (.bl b)
  | int i => exact .base (.int i)
  | str z => exact .base (.str z)
  | tup h _ => exact sqT_ty (same_sqT s h)
  | lst h _ => exact .base (.lst (s _ _ h))
  | ins _ _ _ => exact absurd rfl hn
  | dct _ _ _ => exact absurd rfl hn
def gIsi (T : String) (d : D) : R D := match kitB d.tyOf T with
  | some b => if d.tyOf = "?" then .bad else .ok (.bl b)
  | none => .bad
def dIsi (T : String) (da : DE) : DE := dUn (gIsi T) da
theorem nx_isi (T : String) (a : D) : ∀ x, gIsi T a ≠ .exc x := by
  intro x h
  unfold gIsi at h
  split at h
  · split at h <;> cases h
  · cases h
theorem dx_isi {y : Str} {py : Pos} (T : String) (hg : Gl X "isinstance") (hm : X.mg "isinstance" = none) (hgT : Gl X y) (hmT : X.mg y = none) (hbT : bootBuiltins y = some (.type T)) (ha : PE X ex (tD X.K W da)) (hbI : bootBuiltins "isinstance" = some (.builtin "isinstance") := by decide +kernel) (hn : y ≠ "__name__" := by decide) (hdb : (y == ("__debug__" : Str)) = false := by decide)
    (he : starEach [ex, .Name y py] X.env = (false, eval ex X.env) :: starEach [.Name y py] X.env := by rfl) (hpl : (backTo pos (starEach [.Name y py] X.env)).any (·.1) = false := by rfl) (he2 : starEach [.Name y py] X.env = (false, eval (.Name y py) X.env) :: starEach [] X.env := by rfl) :
    PE X (.Call (.Name "isinstance" p) [ex, .Name y py] [] pos) (tD X.K W (dIsi T da)) := by
  refine peI (pe_callB call_isi hg hm hbI (pa_cons ha (pa_cons (pe_bltn (v := .ty T) hgT hmT hbT rfl hn hdb) pa_nil he2) he) (by decide) (by decide) he hpl) ?_
  rintro σ H Q ⟨B, F, e, R, h⟩
  refine ⟨B, F, e, R, OutD.bind (P := OutD X.K W B F σ Q) dBad dExc h fun d e1 h1 F1 H1 v R1 s1 rv => ?_⟩
  have h2 := OutD.val R1 (OutD.pre s1 h1) (nx_isi T d)
  unfold gIsi at h2
  cases q : kitB d.tyOf T with
  | none => rw [q] at h2; exact h2.elim
  | some b =>
    rw [q] at h2
    by_cases hq : d.tyOf = "?"
    · simp only [if_pos hq] at h2
      exact h2.elim
    · simp only [if_neg hq] at h2
      exact ⟨v, .ty T, .type d.tyOf, .type T, b, rfl, .ty T, tyX_of R1.sub rv hq, kit_ty q, h2.flat R1.sub fun _ => .bl _⟩
def gInt : List D → R D
  | [.int i] => .ok (.int i)
  | [.bl k] => .ok (.int (if k then 1 else 0))
  | _ => .bad
theorem nx_int : NoXn gInt := by
  intro a x h
  unfold gInt at h
  split at h <;> cases h
theorem vr_int : VRn K (fun xs H Q => (∃ i, xs = [.int i] ∧ Q (.int i) H) ∨ ∃ k, xs = [.bl k] ∧ Q (.int (if k then 1 else 0)) H) gInt := by
  intro F H xs ds Q s rs h
  unfold gInt at h
  split at h
  · obtain ⟨v, rfl, rv⟩ := reps1 rs
    exact .inl ⟨_, by rw [rv.int_inv], h.flat s fun _ => .int _⟩
  · obtain ⟨v, rfl, rv⟩ := reps1 rs
    exact .inr ⟨_, by rw [rv.bl_inv], h.flat s fun _ => .int _⟩
  · exact h.elim
def gAbs : List D → R D
  | [.int i] => .ok (.int (if i < 0 then -i else i))
  | _ => .bad
theorem nx_abs : NoXn gAbs := by
  intro a x h
  unfold gAbs at h
  split at h <;> cases h
theorem vr_abs : VRn K (fun xs H Q => ∃ i, xs = [.int i] ∧ Q (.int (if i < 0 then -i else i)) H) gAbs := by
  intro F H xs ds Q s rs h
  unfold gAbs at h
  split at h
  · obtain ⟨v, rfl, rv⟩ := reps1 rs
    exact ⟨_, by rw [rv.int_inv], h.flat s fun _ => .int _⟩
  · exact h.elim
/-- all, any of a list of truths -/
def asBs : List D → Option (List Bool)
  | [] => some []
  | .bl b :: l => (match asBs l with
    | some bs => some (b :: bs)
    | none => none)
  | _ => none
theorem asBs_eq : ∀ {l : List D} {bs : List Bool}, asBs l = some bs → l = bs.map D.bl
  | [], bs, h => by
    have h2 : some [] = some bs := h
    injection h2 with h2
    subst h2
    rfl
  | .bl b :: l, bs, h => by
    have h2 : (match asBs l with
      | some bs => some (b :: bs)
      | none => none) = some bs := h
    cases q : asBs l with
    | none => rw [q] at h2; cases h2
    | some cs =>
      rw [q] at h2
      injection h2 with h2
      subst h2
      rw [asBs_eq q]
      rfl
  | .non :: _, _, h => by cases h
  | .int _ :: _, _, h => by cases h
  | .str _ :: _, _, h => by cases h
  | .tup _ :: _, _, h => by cases h
  | .lst _ :: _, _, h => by cases h
  | .ins _ _ _ :: _, _, h => by cases h
  | .dct _ _ :: _, _, h => by cases h
theorem asBs_map : ∀ bs : List Bool, asBs (bs.map D.bl) = some bs
  | [] => rfl
  | b :: bs => by
    show (match asBs (bs.map D.bl) with
      | some bs => some (b :: bs)
      | none => none) = some (b :: bs)
    rw [asBs_map bs]
def gAll : List D → R D
  | [.lst l] => (match asBs l with
    | some bs => .ok (.bl (bs.all fun b => b))
    | none => .bad)
  | _ => .bad
def gAny : List D → R D
  | [.lst l] => (match asBs l with
    | some bs => .ok (.bl (bs.any fun b => b))
    | none => .bad)
  | _ => .bad
theorem nx_all : NoXn gAll := by
  intro a x h
  unfold gAll at h
  split at h
  · split at h <;> cases h
  · cases h
theorem nx_any : NoXn gAny := by
  intro a x h
  unfold gAny at h
  split at h
  · split at h <;> cases h
  · cases h
theorem vr_all : VRn K (rAll K) gAll := by
  intro F H xs ds Q s rs h
  unfold gAll at h
  split at h
  · rename_i l
    obtain ⟨v, rfl, rv⟩ := reps1 rs
    obtain ⟨q, vs, rfl, hq, rs⟩ := rv.lst_inv
    cases e : asBs l with
    | none => rw [e] at h; exact h.elim
    | some bs =>
      rw [e] at h
      have el := asBs_eq e
      subst el
      exact ⟨q, bs, rfl, .inl (.inl (by rw [← rs.bls]; exact s _ _ hq)), h.flat s fun _ => .bl _⟩
  · exact h.elim
theorem vr_any : VRn K (rAny K) gAny := by
  intro F H xs ds Q s rs h
  unfold gAny at h
  split at h
  · rename_i l
    obtain ⟨v, rfl, rv⟩ := reps1 rs
    obtain ⟨q, vs, rfl, hq, rs⟩ := rv.lst_inv
    cases e : asBs l with
    | none => rw [e] at h; exact h.elim
    | some bs =>
      rw [e] at h
      have el := asBs_eq e
      subst el
      exact ⟨q, bs, rfl, .inl (.inl (by rw [← rs.bls]; exact s _ _ hq)), h.flat s fun _ => .bl _⟩
  · exact h.elim
/-- tuple(a list), tuple(a tuple) -/
def gTuple : List D → R D
  | [.lst l] => .ok (.tup l)
  | [.tup l] => .ok (.tup l)
  | _ => .bad
theorem nx_tuple : NoXn gTuple := by
  intro a x h
  unfold gTuple at h
  split at h <;> cases h
theorem vr_tuple : VRn K (fun xs H Q => ∃ p ys, xs = [.ref p] ∧ ((SqL K H p ys ∧ ∀ l, H l = none → Q (.ref l) (upd H l (.tup ys))) ∨ (SqT K H p ys ∧ Q (.ref p) H))) gTuple := by
  intro F H xs ds Q s rs h
  unfold gTuple at h
  split at h
  · obtain ⟨v, rfl, rv⟩ := reps1 rs
    obtain ⟨q, vs, rfl, hq, rs⟩ := rv.lst_inv
    exact ⟨q, vs, rfl, .inl ⟨.inl (.inl (s _ _ hq)), h.newT s rs⟩⟩
  · obtain ⟨v, rfl, rv⟩ := reps1 rs
    obtain ⟨q, vs, rfl, hq, _⟩ := id rv.tup_inv
    exact ⟨q, vs, rfl, .inr ⟨same_sqT s hq, h.same s rv⟩⟩
  · exact h.elim
/-! ### max, min of two texts -/
theorem lt_rich {prog : Program} {w : World} {A : Around} {E : Value → Shared → Prop} {s : Shared} {x y : Str} {t u : Tok} {Q : Value → Shared → Prop} (h : Q (.bool (decide (x.cps.toList < y.cps.toList))) s) : wpAny (model prog w) A (richCompare .Lt (.str x t) (.str y u)) Q E s :=
  richCompare_gives (op := .Lt) (typeIs_str s x t) (typeIs_str s y u) PySem.F.slot_str_lt PySem.F.entry_str_lt (PySem.F.args_str_lt_2 _ _) (gives_str_lt x y t u) (fun e => nomatch e) h
theorem gt_rich {prog : Program} {w : World} {A : Around} {E : Value → Shared → Prop} {s : Shared} {x y : Str} {t u : Tok} {Q : Value → Shared → Prop} (h : Q (.bool (decide (y.cps.toList < x.cps.toList))) s) : wpAny (model prog w) A (richCompare .Gt (.str x t) (.str y u)) Q E s :=
  richCompare_gives (op := .Gt) (typeIs_str s x t) (typeIs_str s y u) PySem.F.slot_str_gt PySem.F.entry_str_gt (PySem.F.args_str_gt_2 _ _) (gives_str_gt x y t u) (fun e => nomatch e) h

theorem cmpS_lt {prog : Program} {w : World} {A : Around} (f : Nat → Str) (vs : Array Value) (hn : ∀ i v, vs[i]? = some v → ∃ t : Tok, v = Value.str (f i) t) : CmpOf prog w A .Lt (fun i v => vs[i]? = some v) (fun i j => decide ((f i).cps.toList < (f j).cps.toList)) := fun i j vi vj s Q E hi hj h => by
  obtain ⟨t, rfl⟩ := hn i vi hi
  obtain ⟨u, rfl⟩ := hn j vj hj
  exact lt_rich h
theorem cmpS_gt {prog : Program} {w : World} {A : Around} (f : Nat → Str) (vs : Array Value) (hn : ∀ i v, vs[i]? = some v → ∃ t : Tok, v = Value.str (f i) t) : CmpOf prog w A .Gt (fun i v => vs[i]? = some v) (fun i j => decide ((f j).cps.toList < (f i).cps.toList)) := fun i j vi vj s Q E hi hj h => by
  obtain ⟨t, rfl⟩ := hn i vi hi
  obtain ⟨u, rfl⟩ := hn j vj hj
  exact gt_rich h
def two (a b : Str) : Nat → Str
  | 0 => a
  | _ => b
theorem two_at {a b : Str} {t u : Tok} : ∀ i v, (#[Value.str a t, Value.str b u] : Array Value)[i]? = some v → ∃ t : Tok, v = Value.str (two a b i) t
  | 0, v, h => by simp at h; subst h; exact ⟨_, rfl⟩
  | 1, v, h => by simp at h; subst h; exact ⟨_, rfl⟩
  | n + 2, v, h => by simp at h
theorem max_two_strs {prog : Program} {w : World} {A : Around} {E : Value → Shared → Prop} {s : Shared} {Q : Value → Shared → Prop} {a b : Str} {t u : Tok} (hh : A.handled = none)
    (h : ∀ h' tk, (∀ c o, s.heap.get? c = some o → h'.get? c = some o) → Q (if a.cps.toList < b.cps.toList then .str b u else .str a t) { s with heap := h', toks := tk }) :
    wpAny (model prog w) A (call (.builtin "max") [.str a t, .str b u]) Q E s := by
  have hT : (s.heap.push { cls := .type "tuple", data := .seq #[.str a t, .str b u] }).IsTuple s.heap.objs.size #[.str a t, .str b u] := ⟨_, Heap.get?_push_size _ rfl, rfl, 0, rfl⟩
  refine call_max_two (wpAny_pyIter_tuple hT ?_)
  have hsz : (s.heap.push { cls := .type "tuple", data := .seq #[.str a t, .str b u] }).objs.size = s.heap.objs.size + 1 := Heap.size_push ..
  refine ⟨_, [_, s.heap.objs.size], [_], _, _, _, _, rfl, Walks.tuple (A := A.in1) hh _ s.heap.objs.size (by rw [hsz]; exact Nat.ne_of_lt (Nat.lt_succ_self _)) #[.str a t, .str b u],
    ⟨⟨_, Heap.get?_push_size _ rfl, rfl, rfl⟩, hT.push _⟩, fun c hc => ?_, by simp, cmpS_gt (two a b) #[.str a t, .str b u] two_at, fun v h' tk hP hk => ?_⟩
  · show c < ((s.heap.push _).push _).objs.size
    rw [Heap.size_push, hsz]
    rcases List.mem_cons.mp hc with rfl | hc
    · rw [hsz]; exact Nat.lt_succ_self _
    · rcases List.mem_cons.mp hc with rfl | hc
      · exact Nat.lt_succ_of_lt (Nat.lt_succ_self _)
      · cases hc
  · have hold : ∀ c o, s.heap.get? c = some o → h'.get? c = some o := fun c o e => by
      refine hk c o (fun hm => ?_) (Heap.get?_push_of_some _ (Heap.get?_push_of_some _ e))
      rcases List.mem_cons.mp hm with e1 | hm
      · have := Heap.lt_size e; rw [e1, hsz] at this; exact Nat.lt_irrefl _ (Nat.lt_of_succ_lt this)
      · cases hm
    have := h h' tk hold
    have hv : v = if a.cps.toList < b.cps.toList then .str b u else .str a t := by
      by_cases c : a.cps.toList < b.cps.toList
      · rw [if_pos c]
        have hb : decide (a.cps.toList < b.cps.toList) = true := decide_eq_true c
        simp only [List.size_toArray, List.length_cons, List.length_nil, Nat.zero_add, Nat.add_sub_cancel, argBest, two, hb, if_true, reduceIte] at hP
        simpa using hP.symm
      · rw [if_neg c]
        have hb : decide (a.cps.toList < b.cps.toList) = false := decide_eq_false c
        simp only [List.size_toArray, List.length_cons, List.length_nil, Nat.zero_add, Nat.add_sub_cancel, argBest, two, hb, if_false, reduceIte, Bool.false_eq_true] at hP
        simpa using hP.symm
    rw [hv]; exact this
theorem min_two_strs {prog : Program} {w : World} {A : Around} {E : Value → Shared → Prop} {s : Shared} {Q : Value → Shared → Prop} {a b : Str} {t u : Tok} (hh : A.handled = none)
    (h : ∀ h' tk, (∀ c o, s.heap.get? c = some o → h'.get? c = some o) → Q (if b.cps.toList < a.cps.toList then .str b u else .str a t) { s with heap := h', toks := tk }) :
    wpAny (model prog w) A (call (.builtin "min") [.str a t, .str b u]) Q E s := by
  have hT : (s.heap.push { cls := .type "tuple", data := .seq #[.str a t, .str b u] }).IsTuple s.heap.objs.size #[.str a t, .str b u] := ⟨_, Heap.get?_push_size _ rfl, rfl, 0, rfl⟩
  refine call_min_two (wpAny_pyIter_tuple hT ?_)
  have hsz : (s.heap.push { cls := .type "tuple", data := .seq #[.str a t, .str b u] }).objs.size = s.heap.objs.size + 1 := Heap.size_push ..
  refine ⟨_, [_, s.heap.objs.size], [_], _, _, _, _, rfl, Walks.tuple (A := A.in1) hh _ s.heap.objs.size (by rw [hsz]; exact Nat.ne_of_lt (Nat.lt_succ_self _)) #[.str a t, .str b u],
    ⟨⟨_, Heap.get?_push_size _ rfl, rfl, rfl⟩, hT.push _⟩, fun c hc => ?_, by simp, cmpS_lt (two a b) #[.str a t, .str b u] two_at, fun v h' tk hP hk => ?_⟩
  · show c < ((s.heap.push _).push _).objs.size
    rw [Heap.size_push, hsz]
    rcases List.mem_cons.mp hc with rfl | hc
    · rw [hsz]; exact Nat.lt_succ_self _
    · rcases List.mem_cons.mp hc with rfl | hc
      · exact Nat.lt_succ_of_lt (Nat.lt_succ_self _)
      · cases hc
  · have hold : ∀ c o, s.heap.get? c = some o → h'.get? c = some o := fun c o e => by
      refine hk c o (fun hm => ?_) (Heap.get?_push_of_some _ (Heap.get?_push_of_some _ e))
      rcases List.mem_cons.mp hm with e1 | hm
      · have := Heap.lt_size e; rw [e1, hsz] at this; exact Nat.lt_irrefl _ (Nat.lt_of_succ_lt this)
      · cases hm
    have := h h' tk hold
    have hv : v = if b.cps.toList < a.cps.toList then .str b u else .str a t := by
      by_cases c : b.cps.toList < a.cps.toList
      · rw [if_pos c]
        have hb : decide (b.cps.toList < a.cps.toList) = true := decide_eq_true c
        simp only [List.size_toArray, List.length_cons, List.length_nil, Nat.zero_add, Nat.add_sub_cancel, argBest, two, hb, if_true, reduceIte] at hP
        simpa using hP.symm
      · rw [if_neg c]
        have hb : decide (b.cps.toList < a.cps.toList) = false := decide_eq_false c
        simp only [List.size_toArray, List.length_cons, List.length_nil, Nat.zero_add, Nat.add_sub_cancel, argBest, two, hb, if_false, reduceIte, Bool.false_eq_true] at hP
        simpa using hP.symm
    rw [hv]; exact this
def rMax2 : List V → Hp → VK → Prop := fun xs H Q => (∃ i j, xs = [.int i, .int j] ∧ Q (.int (if j > i then j else i)) H) ∨ ∃ i j, xs = [.str i, .str j] ∧ Q (.str (if i.cps.toList < j.cps.toList then j else i)) H
def rMin2 : List V → Hp → VK → Prop := fun xs H Q => (∃ i j, xs = [.int i, .int j] ∧ Q (.int (if j < i then j else i)) H) ∨ ∃ i j, xs = [.str i, .str j] ∧ Q (.str (if j.cps.toList < i.cps.toList then j else i)) H
theorem cr_max2 (hc : X.calm = true) : CallR X (.builtin "max") rMax2 := by
  intro pins s σ H xs us Q I r h
  rcases h with h | ⟨i, j, rfl, q⟩
  · exact call_max2 hc pins s σ H xs us Q I r h
  · obtain ⟨u, w', rfl, ⟨t, rfl⟩, ⟨t', rfl⟩⟩ := vals2 r
    refine max_two_strs (I.ok.hd hc) fun h' tk k => ⟨_, H, I.kept k, ?_, q⟩
    by_cases hj : i.cps.toList < j.cps.toList
    · rw [if_pos hj, if_pos hj]; exact ⟨_, rfl⟩
    · rw [if_neg hj, if_neg hj]; exact ⟨_, rfl⟩
theorem cr_min2 (hc : X.calm = true) : CallR X (.builtin "min") rMin2 := by
  intro pins s σ H xs us Q I r h
  rcases h with h | ⟨i, j, rfl, q⟩
  · exact call_min2 hc pins s σ H xs us Q I r h
  · obtain ⟨u, w', rfl, ⟨t, rfl⟩, ⟨t', rfl⟩⟩ := vals2 r
    refine min_two_strs (I.ok.hd hc) fun h' tk k => ⟨_, H, I.kept k, ?_, q⟩
    by_cases hj : j.cps.toList < i.cps.toList
    · rw [if_pos hj, if_pos hj]; exact ⟨_, rfl⟩
    · rw [if_neg hj, if_neg hj]; exact ⟨_, rfl⟩
def gMax2 : List D → R D
  | [.int i, .int j] => .ok (.int (if j > i then j else i))
  | [.str i, .str j] => .ok (.str (if i.cps.toList < j.cps.toList then j else i))
  | _ => .bad
def gMin2 : List D → R D
  | [.int i, .int j] => .ok (.int (if j < i then j else i))
  | [.str i, .str j] => .ok (.str (if j.cps.toList < i.cps.toList then j else i))
  | _ => .bad
theorem nx_max2 : NoXn gMax2 := by
  intro a x h
  unfold gMax2 at h
  split at h <;> cases h
theorem nx_min2 : NoXn gMin2 := by
  intro a x h
  unfold gMin2 at h
  split at h <;> cases h
theorem vr_max2 : VRn K rMax2 gMax2 := by
  intro F H xs ds Q s rs h
  unfold gMax2 at h
  split at h
  · obtain ⟨v, v', rfl, r1, r2⟩ := reps2 rs
    exact .inl ⟨_, _, by rw [r1.int_inv, r2.int_inv], h.flat s fun _ => .int _⟩
  · obtain ⟨v, v', rfl, r1, r2⟩ := reps2 rs
    exact .inr ⟨_, _, by rw [r1.str_inv, r2.str_inv], h.flat s fun _ => .str _⟩
  · exact h.elim
theorem vr_min2 : VRn K rMin2 gMin2 := by
  intro F H xs ds Q s rs h
  unfold gMin2 at h
  split at h
  · obtain ⟨v, v', rfl, r1, r2⟩ := reps2 rs
    exact .inl ⟨_, _, by rw [r1.int_inv, r2.int_inv], h.flat s fun _ => .int _⟩
  · obtain ⟨v, v', rfl, r1, r2⟩ := reps2 rs
    exact .inr ⟨_, _, by rw [r1.str_inv, r2.str_inv], h.flat s fun _ => .str _⟩
  · exact h.elim

/-! ### methods of what is built in: o.m(..) -/
def VRm (K : PySem.W.Frag) (T : String) (r : V → List V → Hp → VK → Prop) (g : D → List D → R D) : Prop := ∀ (F H : Hp) (x : V) (dx : D) (xs : List V) (ds : List D) (Q : VK), Same F H → Rep K F x dx → Reps K F xs ds → OutV K F H Q (g dx ds) → r x xs H Q
/-- the receiver's type, told by the data -/
def TyD (K : PySem.W.Frag) (T : String) (ok : D → Bool) : Prop := ∀ (F H : Hp) (x : V) (d : D), Same F H → Rep K F x d → ok d = true → tyV K T x H
def dMth (ok : D → Bool) (g : D → List D → R D) (da : DE) (dr : DA) : DE := fun e => (da e).bind fun p => if ok p.1 = true then (dr p.2).bind fun q => (g p.1 q.1).bind fun d => .ok (d, q.2) else .bad
def isS : D → Bool
  | .str _ => true
  | _ => false
def isL : D → Bool
  | .lst _ => true
  | _ => false
theorem ty_str : TyD K "str" isS := by
  intro F H x d s r h
  cases r <;> first | rfl | exact absurd h (by simp [isS])
theorem ty_lst : TyD K "list" isL := by
  intro F H x d s r h
  cases r with
  | lst h1 _ => exact .inl ⟨rfl, _, .inl (.inl (s _ _ h1))⟩
  | _ => exact absurd h (by simp [isL])
theorem dx_bm {name : Str} {apos cpos : Pos} {o : Expr} {ok : D → Bool} {rm : V → List V → Hp → VK → Prop} {gm : D → List D → R D} (pa : PlainAttrs T) (slot : Slot T name id) (hty : typeOf (.builtin id) = pure (.type "method_descriptor")) (hm : MtR X id rm) (ty : TyD X.K T ok) (hv : VRm X.K T rm gm) (nx : ∀ a b x, gm a b ≠ .exc x) (ho : PE X o (tD X.K W da)) (ha : PA X (ex :: es) (tA X.K W dr))
    (hbase : attributeBase o name X.env (eval o X.env) = eval o X.env := by rfl)
    (hfew : ((backTo cpos (starEach (ex :: es) X.env)).all (fun x => !x.1) && (backToKw cpos (keywordEach [] X.env)).all (fun x => x.1.isSome)
      && decide ((ex :: es).length + ([] : List Keyword).length + (if ([] : List Keyword).isEmpty then 0 else 1) < 30)) = true := by rfl)
    (hline : (apos.endLine == cpos.line) = true := by rfl) (hs : starEach (ex :: es) X.env = (false, eval ex X.env) :: starEach es X.env := by rfl) (hplain : (backTo cpos (starEach es X.env)).any (·.1) = false := by rfl) :
    PE X (.Call (.Attribute o name apos) (ex :: es) [] cpos) (tD X.K W (dMth ok gm da dr)) := by
  refine peI (pe_bm pa slot hty hm ho ha hbase hfew hline hs hplain) ?_
  rintro σ H Q ⟨B, F, e, R, h⟩
  refine ⟨B, F, e, R, OutD.bind (P := OutD X.K W B F σ Q) dBad dExc h fun d e1 h1 F1 H1 x R1 s1 rx => ?_⟩
  by_cases c : ok d = true
  · simp only [if_pos c] at h1
    refine ⟨ty F1 H1 x d R1.sub rx c, B, F1, e1, R1, OutA.bind (P := OutD X.K W B F1 σ Q) dBad dExc (OutD.pre s1 h1) fun l e2 h2 F2 H2 xs R2 s2 rs => ?_⟩
    exact hv F2 H2 x d xs l Q R2.sub (rx.mono s2) rs (OutD.val R2 (OutD.pre s2 h2) (nx _ _))
  · simp only [if_neg c] at h1
    exact h1.elim
def asStrs : List D → Option (List Str)
  | [] => some []
  | .str b :: l => (match asStrs l with
    | some bs => some (b :: bs)
    | none => none)
  | _ => none
theorem asStrs_eq : ∀ {l : List D} {bs : List Str}, asStrs l = some bs → l = bs.map D.str
  | [], bs, h => by
    have h2 : some [] = some bs := h
    injection h2 with h2
    subst h2
    rfl
  | .str b :: l, bs, h => by
    have h2 : (match asStrs l with
      | some bs => some (b :: bs)
      | none => none) = some bs := h
    cases q : asStrs l with
    | none => rw [q] at h2; cases h2
    | some cs =>
      rw [q] at h2
      injection h2 with h2
      subst h2
      rw [asStrs_eq q]
      rfl
  | .non :: _, _, h => by cases h
  | .int _ :: _, _, h => by cases h
  | .bl _ :: _, _, h => by cases h
  | .tup _ :: _, _, h => by cases h
  | .lst _ :: _, _, h => by cases h
  | .ins _ _ _ :: _, _, h => by cases h
  | .dct _ _ :: _, _, h => by cases h
theorem asStrs_map : ∀ bs : List Str, asStrs (bs.map D.str) = some bs
  | [] => rfl
  | b :: bs => by
    show (match asStrs (bs.map D.str) with
      | some bs => some (b :: bs)
      | none => none) = some (b :: bs)
    rw [asStrs_map bs]
def gJoin : D → List D → R D
  | .str a, [.lst l] => (match asStrs l with
    | some ys => if (ys.map (·.length)).sum + ys.length * a.length ≤ LIM then .ok (.str (Txt.join a ys)) else .bad
    | none => .bad)
  | _, _ => .bad
theorem nx_join : ∀ a b x, gJoin a b ≠ .exc x := by
  intro a b x h
  unfold gJoin at h
  split at h
  · split at h
    · split at h <;> cases h
    · cases h
  · cases h
theorem vr_join : VRm K "str" (fun x xs H Q => ∃ a p, ∃ ys : List Str, x = .str a ∧ xs = [.ref p] ∧ (SqL K H p (ys.map V.str) ∨ SqT K H p (ys.map V.str)) ∧ (ys.map (·.length)).sum + ys.length * a.length ≤ 16777216 ∧ Q (.str (Txt.join a ys)) H) gJoin := by
  intro F H x dx xs ds Q s rx rs h
  unfold gJoin at h
  split at h
  · rename_i a l
    obtain ⟨v, rfl, rv⟩ := reps1 rs
    obtain ⟨q, vs, rfl, hq, rs⟩ := rv.lst_inv
    cases e : asStrs l with
    | none => rw [e] at h; exact h.elim
    | some ys =>
      rw [e] at h
      have el := asStrs_eq e
      subst el
      by_cases c : (ys.map (·.length)).sum + ys.length * a.length ≤ LIM
      · simp only [if_pos c] at h
        refine ⟨a, q, ys, rx.str_inv, rfl, .inl (.inl (.inl (by rw [← rs.strs]; exact s _ _ hq))), ?_, h.flat s fun _ => .str _⟩
        unfold LIM at c
        omega
      · simp only [if_neg c] at h
        exact h.elim
  · exact h.elim
/-- list.index, flat items -/
def idxFlat (x : D) : List D → Nat → R D
  | [], _ => .bad
  | d :: l, n => if eqFlat d x = true then .ok (.int n) else idxFlat x l (n + 1)
def gIndex : D → List D → R D
  | .lst l, [x] => if (x.flat && l.all D.flat) = true then idxFlat x l 0 else .bad
  | _, _ => .bad
theorem nx_idx (x : D) (y : Exn) : ∀ (l : List D) (n : Nat), idxFlat x l n ≠ .exc y
  | [], _, h => by cases h
  | d :: l, n, h => by
    unfold idxFlat at h
    split at h
    · cases h
    · exact nx_idx x y l (n + 1) h
theorem nx_index : ∀ a b x, gIndex a b ≠ .exc x := by
  intro a b x h
  unfold gIndex at h
  split at h
  · split at h
    · exact nx_idx _ _ _ _ h
    · cases h
  · cases h
theorem idx_spec (x : D) : ∀ (l : List D) (n : Nat) (r : D), idxFlat x l n = .ok r → ∃ j z, r = .int ((n + j : Nat) : Int) ∧ l[j]? = some z ∧ eqFlat z x = true ∧ ∀ m z', m < j → l[m]? = some z' → eqFlat z' x = false
  | [], _, _, h => by cases h
  | d :: l, n, r, h => by
    unfold idxFlat at h
    by_cases c : eqFlat d x = true
    · rw [if_pos c] at h
      injection h with h
      exact ⟨0, d, h.symm, rfl, c, fun m z' hm => absurd hm (Nat.not_lt_zero _)⟩
    · rw [if_neg c] at h
      obtain ⟨j, z, h1, h2, h3, h4⟩ := idx_spec x l (n + 1) r h
      refine ⟨j + 1, z, by rw [h1]; congr 2; omega, by simpa using h2, h3, fun m z' hm hz => ?_⟩
      cases m with
      | zero =>
        have e : d = z' := by simpa using hz
        rw [← e]
        exact Bool.eq_false_iff.mpr c
      | succ m => exact h4 m z' (by omega) (by simpa using hz)
theorem vr_index : VRm K "list" (rIndex K) gIndex := by
  intro F H x dx xs ds Q s rx rs h
  unfold gIndex at h
  split at h
  · rename_i l y
    obtain ⟨v, rfl, rv⟩ := reps1 rs
    obtain ⟨q, vs, rfl, hq, rl⟩ := rx.lst_inv
    by_cases c : (y.flat && l.all D.flat) = true
    · rw [if_pos c] at h
      obtain ⟨c1, c2⟩ := Bool.and_eq_true_iff.mp c
      cases e : idxFlat y l 0 with
      | bad => rw [e] at h; exact h.elim
      | exc z => exact absurd e (nx_idx _ _ _ _)
      | ok r =>
        rw [e] at h
        obtain ⟨j, z, h1, h2, h3, h4⟩ := idx_spec y l 0 r e
        rw [h1] at h
        obtain ⟨zv, hz1, hz2⟩ := rl.get h2
        have fz : z.flat = true := List.all_eq_true.mp c2 z (List.mem_of_getElem? h2)
        refine ⟨q, vs, v, j, zv, rfl, rfl, .inl (.inl (s _ _ hq)), by rw [flat_V rv]; exact c1, by rw [flats_V rl]; exact c2, hz1, by rw [eqFlat_V hz2 rv fz c1]; exact h3, fun m z' hm hz' => ?_, ?_⟩
        · have hml : m < l.length := by
            have := (List.getElem?_eq_some_iff.mp hz').1
            rw [rl.len] at this
            exact this
          obtain ⟨z2, k1, k2⟩ := rl.get (List.getElem?_eq_getElem hml)
          rw [hz'] at k1
          injection k1 with k1
          subst k1
          have fm : (l[m]).flat = true := List.all_eq_true.mp c2 _ (List.getElem_mem hml)
          rw [eqFlat_V k2 rv fm c1]
          exact h4 m _ hm (List.getElem?_eq_getElem hml)
        · have := h.flat s fun _ => .int _
          simpa using this
    · rw [if_neg c] at h
      exact h.elim
  · exact h.elim
/-- index of a text in a module's tuple of texts -/
def idxStr (x : Str) : List Str → Nat → R D
  | [], _ => .bad
  | d :: l, n => if d = x then .ok (.int n) else idxStr x l (n + 1)
def gTupIx (ys : List Str) : D → R D
  | .str z => idxStr z ys 0
  | _ => .bad
theorem nx_idxS (x : Str) (y : Exn) : ∀ (l : List Str) (n : Nat), idxStr x l n ≠ .exc y
  | [], _, h => by cases h
  | d :: l, n, h => by
    unfold idxStr at h
    split at h
    · cases h
    · exact nx_idxS x y l (n + 1) h
theorem idxS_spec (x : Str) : ∀ (l : List Str) (n : Nat) (r : D), idxStr x l n = .ok r → ∃ j, r = .int ((n + j : Nat) : Int) ∧ l[j]? = some x ∧ ∀ m, m < j → l[m]? ≠ some x
  | [], _, _, h => by cases h
  | d :: l, n, r, h => by
    unfold idxStr at h
    by_cases c : d = x
    · rw [if_pos c] at h
      injection h with h
      exact ⟨0, h.symm, by rw [c]; rfl, fun m hm => absurd hm (Nat.not_lt_zero _)⟩
    · rw [if_neg c] at h
      obtain ⟨j, h1, h2, h4⟩ := idxS_spec x l (n + 1) r h
      refine ⟨j + 1, by rw [h1]; congr 2; omega, by simpa using h2, fun m hm hz => ?_⟩
      cases m with
      | zero =>
        have e : d = x := by simpa using hz
        exact c e
      | succ m => exact h4 m (by omega) (by simpa using hz)
def dTupIx (ys : List Str) (da : DE) : DE := dUn (gTupIx ys) da
/-- NAME.index(e), NAME a tuple of texts of the module's, e one argument -/
theorem dx_tupIx {y : Str} {py apos cpos : Pos} {a0 : Addr} {ys : List Str} (hg : Gl X y) (hm : X.mg y = some (.ref a0)) (hK : ∃ o, X.K.lookup a0 = some o ∧ o.cls = .type "tuple" ∧ o.dict = none) (hS : ∀ H, SqT X.K H a0 (ys.map V.str)) (ha : PE X ex (tD X.K W da)) (hd : (y == ("__debug__" : Str)) = false := by decide)
    (hbase : attributeBase (.Name y py) "index" X.env (eval (.Name y py) X.env) = eval (.Name y py) X.env := by rfl)
    (hfew : ((backTo cpos (starEach [ex] X.env)).all (fun x => !x.1) && (backToKw cpos (keywordEach [] X.env)).all (fun x => x.1.isSome)
      && decide ([ex].length + ([] : List Keyword).length + (if ([] : List Keyword).isEmpty then 0 else 1) < 30)) = true := by rfl)
    (hline : (apos.endLine == cpos.line) = true := by rfl) (hs : starEach [ex] X.env = (false, eval ex X.env) :: starEach [] X.env := by rfl) (hplain : (backTo cpos (starEach [] X.env)).any (·.1) = false := by rfl) :
    PE X (.Call (.Attribute (.Name y py) "index" apos) [ex] [] cpos) (tD X.K W (dTupIx ys da)) := by
  refine peI (pe_bm PySem.F.plainAttrs_tuple PySem.F.slot_tuple_index PySem.F.type_tuple_index mt_tup_index (pe_glob (v := .ref a0) hg hm rfl hd) (pa_cons ha pa_nil hs) hbase hfew hline hs hplain) ?_
  rintro σ H Q ⟨B, F, e, R, h⟩
  refine ⟨.inr (.inl ⟨rfl, hK⟩), B, F, e, R, OutD.bind (P := OutD X.K W B F σ Q) dBad dExc h fun d e1 h1 F1 H1 v R1 s1 rv => ?_⟩
  cases d with
  | str z =>
    have h2 : OutD X.K W B F σ Q ((idxStr z ys 0).bind fun d => .ok (d, e1)) := h1
    cases q : idxStr z ys 0 with
    | bad => rw [q] at h2; exact h2.elim
    | exc x => exact absurd q (nx_idxS _ _ _ _)
    | ok r =>
      rw [q] at h2
      obtain ⟨j, k1, k2, k3⟩ := idxS_spec z ys 0 r q
      have h3 := OutD.val (r := .ok r) R1 (OutD.pre s1 h2) (fun _ z => by cases z)
      rw [k1] at h3
      have h4 := h3.flat R1.sub fun _ => .int _
      exact ⟨a0, ys, z, j, rfl, by rw [rv.str_inv], hS H1, k2, k3, by simpa using h4⟩
  | _ => exact h1.elim
end
end WW
set_option Elab.async false
set_option linter.all false
set_option maxRecDepth 100000
set_option maxHeartbeats 4000000
/-! The data layer, part 5: defs that are called, statements, loops, comprehensions, a def's body. -/
namespace WW
open PySem PySem.Spec L2

/-! ### promises -/
/-- data in, data out -/
def OutF (K : PySem.W.Frag) (F H : Hp) (Q : VK) (E : XK) : R D → Prop
  | .ok d => ∀ F' H' v, Ext K NoA F H F' H' → Rep K F' v d → Q v H'
  | .exc x => ∀ F' H' c dd, Ext K NoA F H F' H' → ExOk K H' x c dd → E c dd H'
  | .bad => False
def spD (K : PySem.W.Frag) (n : Nat) (f : List D → R D) : Sp := fun vs H Q E => ∃ F ds, Same F H ∧ Reps K F vs ds ∧ ds.length = n ∧ OutF K F H Q E (f ds)
/-- the first argument is the box: it is changed -/
abbrev Bx := Addr × List Int × Int
def spB (K : PySem.W.Frag) (n : Nat) (f : Bx → List D → R (D × Bx)) : Sp := fun vs H Q _ => ∃ F v0 vs' b ds A, vs = v0 :: vs' ∧ Same F H ∧ Reps K F vs' ds ∧ ds.length = n ∧ SlOk K F H v0 (.box b.1 b.2.1 b.2.2) A ∧ (∀ a, A a → F a = none) ∧
  ∃ d b', f b ds = .ok (d, b') ∧ ∀ F' H' v A', Ext K A F H F' H' → SlOk K F' H' v0 (.box b'.1 b'.2.1 b'.2.2) A' → (∀ a, A' a → F' a = none ∧ (A a ∨ Vac H a)) → Rep K F' v d → Q v H'
def dCall (f : List D → R D) (da : DA) : DE := dApp f da
def dCallB (f : Bx → List D → R (D × Bx)) (i : Nat) (da : DA) : DE := fun e => match nth e i with
  | some (.box _ _ _) => (da e).bind fun p => (match nth p.2 i with
    | some (.box a ns st) => (f (a, ns, st) p.1).noX.bind fun q => (match setE p.2 i (some (.box q.2.1 q.2.2.1 q.2.2.2)) with
      | some e' => .ok (q.1, e')
      | none => .bad)
    | _ => .bad)
  | _ => .bad
section
variable {X : Cx} {W : WX} {pos p : Pos} {k : Nat} {f : Addr} {fd : FuncData} {ps : List Str} {x : Str} {ex : Expr} {es : List Expr} {dr : DA} {n : Nat}
theorem dx_call {g : List D → R D} (Fn : FnOk X.prog X.w X.K X.mg X.base (L2.CX X.prog X.w) k f fd ps (spD X.K n g)) (hr : Room k X.A) (tk : Takes X W) (hg : Gl X x) (hm : X.mg x = some (.ref f)) (hk : PySem.W.keepIn X.K (.ref f) = true) (hb : Binds X.K fd ps [])
    (ha : PA X (ex :: es) (tA X.K W dr)) (hn : (ex :: es).length = n := by rfl) (hl : ∀ e p, dr e = .ok p → p.1.length = n) (hdb : (x == ("__debug__" : Str)) = false := by decide) (he : starEach (ex :: es) X.env = (false, eval ex X.env) :: starEach es X.env := by rfl) (hpl : (backTo pos (starEach es X.env)).any (·.1) = false := by rfl) :
    PE X (.Call (.Name x p) (ex :: es) [] pos) (tD X.K W (dCall g dr)) := by
  refine peI (pe_callSD (E := WE W) Fn hr hg hm hk hb .nil (fun σ => passAt tk σ) ha hdb he hpl) ?_
  rintro σ H Q ⟨B, F, e, R, h⟩
  refine ⟨B, F, e, R, ?_⟩
  have h0 : OutD X.K W B F σ Q ((dr e).bind fun p => (g p.1).bind fun d => .ok (d, p.2)) := h
  cases q : dr e with
  | bad => rw [q] at h0; exact h0.elim
  | exc z => rw [q] at h0; exact h0
  | ok pr =>
    rw [q] at h0
    obtain ⟨l, e1⟩ := pr
    intro F1 H1 xs R1 s1 rs
    rw [List.append_nil]
    refine ⟨F1, l, R1.sub, rs, hl e _ q, ?_⟩
    have h1 : OutD X.K W B F σ Q ((g l).bind fun d => .ok (d, e1)) := h0
    cases q2 : g l with
    | bad => rw [q2] at h1; exact h1.elim
    | ok d =>
      rw [q2] at h1
      exact fun F2 H2 v x2 rv => h1 F2 H2 v (R1.step x2) (s1.trans x2.fr) rv
    | exc z =>
      rw [q2] at h1
      exact fun F2 H2 c dd x2 ok => h1 F2 H2 c dd e1 (R1.step x2) ok
end

/-! ### the lengths of argument lists -/
theorem len_nil {e : En} {p : List D × En} (h : dNil e = .ok p) : p.1.length = 0 := by
  injection h with h
  subst h
  rfl
theorem len_cons {da : DE} {dr : DA} {n : Nat} (h : ∀ e p, dr e = .ok p → p.1.length = n) : ∀ e p, dCons da dr e = .ok p → p.1.length = n + 1 := by
  intro e p hp
  have h0 : ((da e).bind fun p => (dr p.2).bind fun q => R.ok (p.1 :: q.1, q.2)) = .ok p := hp
  cases q : da e with
  | bad => rw [q] at h0; cases h0
  | exc z => rw [q] at h0; cases h0
  | ok a =>
    rw [q] at h0
    have h1 : ((dr a.2).bind fun q => R.ok (a.1 :: q.1, q.2)) = .ok p := h0
    cases q2 : dr a.2 with
    | bad => rw [q2] at h1; cases h1
    | exc z => rw [q2] at h1; cases h1
    | ok b =>
      rw [q2] at h1
      injection h1 with h1
      subst h1
      exact congrArg (· + 1) (h _ _ q2)
theorem len0 : ∀ e p, dNil e = .ok p → p.1.length = 0 := fun _ _ h => len_nil h

/-! ### statements -/
inductive SR where
  | next (e : En)
  | ret (d : D) (e : En)
  | brk (e : En)
  | cnt (e : En)
  | exc (x : Exn)
  | bad
abbrev DS := En → SR
def OutS (K : PySem.W.Frag) (W : WX) (B : Bs) (D' : Ends) : SR → Prop
  | .next e => ∀ F H σ, Rl K B F H σ e → D'.nx σ H
  | .ret d e => ∀ F H σ v, Rl K B F H σ e → Rep K F v d → D'.rt v H
  | .brk e => ∀ F H σ, Rl K B F H σ e → D'.bk σ H
  | .cnt e => ∀ F H σ, Rl K B F H σ e → D'.ct σ H
  | .exc x => ∀ σ, ExcOut K W B σ x
  | .bad => False
def tS (K : PySem.W.Frag) (W : WX) (den : DS) : TS := fun D' σ H => ∃ B F e, Rl K B F H σ e ∧ OutS K W B D' (den e)
section
variable {X : Cx} {st : Stmt} {t t' : TS}
theorem psI (h : PS X st t) (i : ∀ D σ H, t' D σ H → t D σ H) : PS X st t' := ⟨fun pins s σ H D I q => h.run pins s σ H D I (i D σ H q)⟩
theorem pssI {sts : List Stmt} (h : PSs X sts t) (i : ∀ D σ H, t' D σ H → t D σ H) : PSs X sts t' := ⟨fun pins s σ H D I q => h.run pins s σ H D I (i D σ H q)⟩
end
def sNext : DS := fun e => .next e
def sSeq (a b : DS) : DS := fun e => match a e with
  | .next e' => b e'
  | r => r
def R.toS {α : Type} : R α → (α → SR) → SR
  | .ok a, f => f a
  | .exc x, _ => .exc x
  | .bad, _ => .bad
@[simp] theorem R.toS_ok {α : Type} (a : α) (f : α → SR) : (R.ok a).toS f = f a := rfl
@[simp] theorem R.toS_exc {α : Type} (x : Exn) (f : α → SR) : (R.exc x).toS f = .exc x := rfl
@[simp] theorem R.toS_bad {α : Type} (f : α → SR) : (R.bad : R α).toS f = .bad := rfl
def sIf (c : DT) (a b : DS) : DS := fun e => (c e).toS fun p => if p.1 = true then a p.2 else b p.2
def sRet (d : DE) : DS := fun e => (d e).toS fun p => .ret p.1 p.2
def sRetN : DS := fun e => .ret .non e
def sDrop (d : DE) : DS := fun e => (d e).toS fun p => .next p.2
def sBrk : DS := fun e => .brk e
def sCnt : DS := fun e => .cnt e
def sBad : DS := fun _ => .bad
def setS (e : En) (i : Nat) (s : Sl) : SR := match setE e i (some s) with
  | some e' => .next e'
  | none => .bad
def sAsg (i : Nat) (d : DE) : DS := fun e => (d e).toS fun p => setS p.2 i (.v p.1)
def sAsgO (i : Nat) (o : OE) : DS := fun e => (o e).toS fun p => setS p.2 i p.1
/-- a target's stores -/
abbrev DG := D → En → Option En
def gdName (i : Nat) : DG := fun d e => setE e i (some (.v d))
def gdAll : List Nat → List D → En → Option En
  | [], [], e => some e
  | i :: is, d :: ds, e => (match setE e i (some (.v d)) with
    | some e' => gdAll is ds e'
    | none => none)
  | _, _, _ => none
def gdTup (is : List Nat) : DG := fun d e => match d with
  | .tup l => gdAll is l e
  | _ => none
def Off (is : List Nat) (σ σ' : St) : Prop := σ'.length = σ.length ∧ ∀ j, j ∉ is → σ'[j]? = σ[j]?
def tG (K : PySem.W.Frag) (is : List Nat) (g : DG) : TG := fun v σ H Q => ∃ B F e d e', Rl K B F H σ e ∧ Rep K F v d ∧ g d e = some e' ∧ ∀ σ', Rl K B F H σ' e' → Off is σ σ' → Q σ' H
theorem Off.refl {is : List Nat} {σ : St} : Off is σ σ := ⟨rfl, fun _ _ => rfl⟩
theorem Off.set {is : List Nat} {i : Nat} {σ σ' : St} {v : Option V} (h : Off is (σ.set i v) σ') : Off (i :: is) σ σ' := ⟨by rw [h.1, List.length_set], fun j hj => by
  rw [h.2 j fun z => hj (List.mem_cons_of_mem _ z)]
  exact List.getElem?_set_ne fun z => hj (by rw [z]; exact List.mem_cons_self)⟩
def sTo (g : DG) (d : DE) : DS := fun e => (d e).toS fun p => match g p.1 p.2 with
  | some e' => .next e'
  | none => .bad
section
variable {K : PySem.W.Frag} {W : WX} {B : Bs} {F : Hp} {σ : St} {D' : Ends}
theorem OutD.toS {r : R (D × En)} {g : D × En → SR} {Q : VK} (h : OutS K W B D' (r.toS g)) (k : ∀ d e1, OutS K W B D' (g (d, e1)) → ∀ F' H' v, Rl K B F' H' σ e1 → Same F F' → Rep K F' v d → Q v H') : OutD K W B F σ Q r := by
  cases r with
  | ok p => exact k p.1 p.2 h
  | exc x => exact h σ
  | bad => exact h.elim
theorem OutT.toS {r : R (Bool × En)} {g : Bool × En → SR} {Q : Bool → Hp → Prop} (h : OutS K W B D' (r.toS g)) (k : ∀ d e1, OutS K W B D' (g (d, e1)) → ∀ F' H', Rl K B F' H' σ e1 → Same F F' → Q d H') : OutT K W B F σ Q r := by
  cases r with
  | ok p => exact k p.1 p.2 h
  | exc x => exact h σ
  | bad => exact h.elim
theorem OutA.toS {r : R (List D × En)} {g : List D × En → SR} {Q : List V → Hp → Prop} (h : OutS K W B D' (r.toS g)) (k : ∀ d e1, OutS K W B D' (g (d, e1)) → ∀ F' H' v, Rl K B F' H' σ e1 → Same F F' → Reps K F' v d → Q v H') : OutA K W B F σ Q r := by
  cases r with
  | ok p => exact k p.1 p.2 h
  | exc x => exact h σ
  | bad => exact h.elim
theorem OutO.toS {r : R (Sl × En)} {g : Sl × En → SR} {Q : VK} (h : OutS K W B D' (r.toS g)) (k : ∀ d e1, OutS K W B D' (g (d, e1)) → ∀ F' H' v, Rl K B F' H' (σ ++ [some v]) (e1 ++ [some d]) → Same F F' → Q v H') : OutO K W B F σ Q r := by
  cases r with
  | ok p => exact k p.1 p.2 h
  | exc x => exact h σ
  | bad => exact h.elim
end
section
variable {X : Cx} {W : WX} {st : Stmt} {rest : List Stmt} {a b : DS} {pos : Pos} {ex c : Expr} {da : DE} {tc : DT} {oa : OE}
theorem ds_nil : PSs X [] (tS X.K W sNext) := by
  refine pssI pss_nil ?_
  rintro D' σ H ⟨B, F, e, R, h⟩
  exact h F H σ R
theorem ds_cons (h1 : PS X st (tS X.K W a)) (h2 : PSs X rest (tS X.K W b)) : PSs X (st :: rest) (tS X.K W (sSeq a b)) := by
  refine pssI (pss_cons h1 h2) ?_
  rintro D' σ H ⟨B, F, e, R, h⟩
  refine ⟨B, F, e, R, ?_⟩
  unfold sSeq at h
  cases q : a e with
  | next e' =>
    rw [q] at h
    exact fun F1 H1 σ1 R1 => ⟨B, F1, e', R1, h⟩
  | ret d e' => rw [q] at h; exact h
  | brk e' => rw [q] at h; exact h
  | cnt e' => rw [q] at h; exact h
  | exc z => rw [q] at h; exact h
  | bad => rw [q] at h; exact h
theorem ds_one (h1 : PS X st (tS X.K W a)) : PSs X [st] (tS X.K W a) := pss_one h1
theorem ds_pass : PS X (.Pass pos) (tS X.K W sNext) := by
  refine psI ps_pass ?_
  rintro D' σ H ⟨B, F, e, R, h⟩
  exact h F H σ R
theorem ds_brk : PS X (.Break pos) (tS X.K W sBrk) := by
  refine psI ps_break ?_
  rintro D' σ H ⟨B, F, e, R, h⟩
  exact h F H σ R
theorem ds_cnt : PS X (.Continue pos) (tS X.K W sCnt) := by
  refine psI ps_continue ?_
  rintro D' σ H ⟨B, F, e, R, h⟩
  exact h F H σ R
theorem ds_never : PS X st (tS X.K W sBad) := ⟨fun _ _ _ _ _ _ ⟨_, _, _, _, h⟩ => h.elim⟩
theorem ds_if {p q : List Stmt} (hc : PT X c (tT X.K W tc)) (ha : PSs X p (tS X.K W a)) (hb : PSs X q (tS X.K W b)) : PS X (.If c p q pos) (tS X.K W (sIf tc a b)) := by
  refine psI (ps_if hc ha hb) ?_
  rintro D' σ H ⟨B, F, e, R, h⟩
  refine ⟨B, F, e, R, OutT.toS h fun k e1 h1 F1 H1 R1 s1 => ?_⟩
  cases k with
  | true => exact iteT ⟨B, F1, e1, R1, h1⟩
  | false => exact iteF ⟨B, F1, e1, R1, h1⟩
theorem ds_ret (h : PE X ex (tD X.K W da)) : PS X (.Return (some ex) pos) (tS X.K W (sRet da)) := by
  refine psI (ps_ret h) ?_
  rintro D' σ H ⟨B, F, e, R, h⟩
  exact ⟨B, F, e, R, OutD.toS h fun d e1 h1 F1 H1 v R1 s1 rv => h1 F1 H1 σ v R1 rv⟩
theorem ds_retN : PS X (.Return none pos) (tS X.K W sRetN) := by
  refine psI ps_retN ?_
  rintro D' σ H ⟨B, F, e, R, h⟩
  exact h F H σ _ R .non
theorem ds_expr (h : PE X ex (tD X.K W da)) (hs : swapsWith ex none pos.line X.env = pure false := by rfl) : PS X (.Expr ex pos) (tS X.K W (sDrop da)) := by
  refine psI (ps_expr h hs) ?_
  rintro D' σ H ⟨B, F, e, R, h⟩
  exact ⟨B, F, e, R, OutD.toS h fun d e1 h1 F1 H1 v R1 s1 rv => h1 F1 H1 σ R1⟩
theorem setS_ok {K : PySem.W.Frag} {B : Bs} {D' : Ends} {e : En} {i : Nat} {s : Sl} (h : OutS K W B D' (setS e i s)) : ∃ e', setE e i (some s) = some e' ∧ OutS K W B D' (.next e') := by
  unfold setS at h
  cases q : setE e i (some s) with
  | none => rw [q] at h; exact h.elim
  | some e' => rw [q] at h; exact ⟨e', rfl, h⟩
theorem ds_set {i : Nat} {x : Str} {pos' : Pos} (hN : X.N.Nodup) (hi : X.N[i]? = some x) (hx : Loc X.env.scope x) (h : PE X ex (tD X.K W da)) (hs : swapsWith ex (some (.Name x pos')) pos.line X.env = pure false := by rfl) (hf : X.fn x = true ∨ X.env.scope.names.lookup x = some .local := by first | exact .inl rfl | exact .inr rfl | assumption) :
    PS X (.Assign [.Name x pos'] ex pos) (tS X.K W (sAsg i da)) := by
  refine psI (ps_set hN hi hx h hs hf) ?_
  rintro D' σ H ⟨B, F, e, R, h⟩
  refine ⟨B, F, e, R, OutD.toS h fun d e1 h1 F1 H1 v R1 s1 rv => ?_⟩
  obtain ⟨e', q, h2⟩ := setS_ok h1
  exact h2 F1 H1 _ (R1.setV rv q)
theorem ds_setO {i : Nat} {x : Str} {pos' : Pos} (hN : X.N.Nodup) (hi : X.N[i]? = some x) (hx : Loc X.env.scope x) (h : PE X ex (tO X.K W oa)) (hs : swapsWith ex (some (.Name x pos')) pos.line X.env = pure false := by rfl) (hf : X.fn x = true ∨ X.env.scope.names.lookup x = some .local := by first | exact .inl rfl | exact .inr rfl | assumption) :
    PS X (.Assign [.Name x pos'] ex pos) (tS X.K W (sAsgO i oa)) := by
  refine psI (ps_set hN hi hx h hs hf) ?_
  rintro D' σ H ⟨B, F, e, R, h⟩
  refine ⟨B, F, e, R, OutO.toS h fun d e1 h1 F1 H1 v R1 s1 => ?_⟩
  obtain ⟨e', q, h2⟩ := setS_ok h1
  exact h2 F1 H1 _ (R1.move q)
/-! ### targets -/
theorem dg_name {i : Nat} {x : Str} (hN : X.N.Nodup) (hi : X.N[i]? = some x) (hx : Loc X.env.scope x) (hf : X.fn x = true ∨ X.env.scope.names.lookup x = some .local := by first | exact .inl rfl | exact .inr rfl | assumption) : PG X (.Name x pos) (tG X.K [i] (gdName i)) := by
  refine ⟨fun pins s σ H v u Q I rv h => ?_⟩
  obtain ⟨B, F, e, d, e', R, rd, g, k⟩ := h
  exact (pg_name hN hi hx hf).run pins s σ H v u Q I rv (k _ (R.setV rd g) (Off.set Off.refl))
/-- names one after another -/
def tGs (K : PySem.W.Frag) (is : List Nat) : TGs := fun vs σ H Q => ∃ B F e ds e', Rl K B F H σ e ∧ Reps K F vs ds ∧ gdAll is ds e = some e' ∧ ∀ σ', Rl K B F H σ' e' → Off is σ σ' → Q σ' H
theorem pgsI {ts : List Expr} {t t' : TGs} (h : PGs X ts t) (i : ∀ vs σ H Q, t' vs σ H Q → t vs σ H Q) : PGs X ts t' := ⟨fun pins s σ H vs us Q I r q => h.run pins s σ H vs us Q I r (i vs σ H Q q)⟩
theorem dgs_nil : PGs X [] (tGs X.K []) := by
  refine pgsI pgs_nil ?_
  rintro vs σ H Q ⟨B, F, e, ds, e', R, rs, g, k⟩
  cases rs with
  | nil =>
    have g2 : some e = some e' := g
    injection g2 with g2
    subst g2
    exact ⟨rfl, k σ R Off.refl⟩
  | cons _ _ => cases g
theorem dgs_cons {i : Nat} {x : Str} {es : List Expr} {is : List Nat} (hN : X.N.Nodup) (hi : X.N[i]? = some x) (hx : Loc X.env.scope x) (h2 : PGs X es (tGs X.K is)) (hf : X.fn x = true ∨ X.env.scope.names.lookup x = some .local := by first | exact .inl rfl | exact .inr rfl | assumption)
    (hs : (assignEach (.Name x pos :: es) X.env).map (·.2) = assign (.Name x pos) X.env :: (assignEach es X.env).map (·.2) := by rfl) : PGs X (.Name x pos :: es) (tGs X.K (i :: is)) := by
  refine pgsI (pgs_cons (pg_name (i := i) hN hi hx hf) h2 hs) ?_
  rintro vs σ H Q ⟨B, F, e, ds, e', R, rs, g, k⟩
  cases rs with
  | nil => cases g
  | @cons v vs' d l rv rt =>
    refine ⟨v, vs', rfl, ?_⟩
    have g2 : (match setE e i (some (.v d)) with
      | some e' => gdAll is l e'
      | none => none) = some e' := g
    cases q : setE e i (some (.v d)) with
    | none => rw [q] at g2; cases g2
    | some e1 =>
      rw [q] at g2
      exact ⟨B, F, e1, l, e', R.setV rv q, rt, g2, fun σ' R' o => k σ' R' o.set⟩
theorem gdAll_len : ∀ {is : List Nat} {ds : List D} {e e' : En}, gdAll is ds e = some e' → ds.length = is.length
  | [], [], _, _, _ => rfl
  | i :: is, d :: ds, e, e', h => by
    have g2 : (match setE e i (some (.v d)) with
      | some e' => gdAll is ds e'
      | none => none) = some e' := h
    cases q : setE e i (some (.v d)) with
    | none => rw [q] at g2; cases g2
    | some e1 =>
      rw [q] at g2
      exact congrArg (· + 1) (gdAll_len g2)
  | [], _ :: _, _, _, h => by cases h
  | _ :: _, [], _, _, h => by cases h
theorem dg_tup {es : List Expr} {kk : Nat} {is : List Nat} (hc : X.calm = true) (h : PGs X es (tGs X.K is)) (hn : (assignEach es X.env).length = is.length := by rfl) (hst : (assignEach es X.env).findIdx? (·.1) = none := by rfl) : PG X (.Tuple es kk pos) (tG X.K is (gdTup is)) := by
  refine ⟨fun pins s σ H v u Q I rv q => ?_⟩
  obtain ⟨B, F, e, d, e', R, rd, g, k⟩ := q
  cases rd with
  | @tup a vs l hq rs =>
    have g2 : gdAll is l e = some e' := g
    refine (pg_tup hc h hn hst).run pins s σ H (.ref a) u Q I rv ⟨a, vs, rfl, same_sqT R.sub hq, by rw [rs.len, gdAll_len g2], B, F, e, l, e', R, rs, g2, k⟩
  | _ => cases g
/-- target = e, a tuple of names -/
theorem ds_to {tg : Expr} {g : DG} {is : List Nat} (hg : PG X tg (tG X.K is g)) (h : PE X ex (tD X.K W da)) (hs : swapsWithSole [tg] ex pos.line X.env = pure false := by rfl) (hw : swappedStores [tg] ex X.env = pure none := by rfl)
    (h1 : (assignEach [tg] X.env).map (·.2) = [assign tg X.env] := by rfl) : PS X (.Assign [tg] ex pos) (tS X.K W (sTo g da)) := by
  refine psI (ps_asg h hg hs hw h1) ?_
  rintro D' σ H ⟨B, F, e, R, h⟩
  refine ⟨B, F, e, R, OutD.toS h fun d e1 h1 F1 H1 v R1 s1 rv => ?_⟩
  cases q : g d e1 with
  | none =>
    have h2 : OutS X.K W B D' (match g d e1 with
      | some e' => .next e'
      | none => .bad) := h1
    rw [q] at h2
    exact h2.elim
  | some e' =>
    have h2 : OutS X.K W B D' (match g d e1 with
      | some e' => .next e'
      | none => .bad) := h1
    rw [q] at h2
    exact ⟨B, F1, e1, d, e', R1, rv, q, fun σ' R' _ => h2 F1 H1 σ' R'⟩
end

/-! ### what is walked -/
def Walks (K : PySem.W.Frag) (J : It) (F : Hp) (ds : List D) : Prop := ∀ F' H', Same F F' → Same F' H' → (∀ i, ds.length ≤ i → J.stop i H') ∧ ∀ i d, ds[i]? = some d → J.go i H' ∧ ∀ x H'', J.yld i H' x H'' → ∃ F'', Ext K NoA F' H' F'' H'' ∧ Rep K F'' x d
def OutI (K : PySem.W.Frag) (W : WX) (B : Bs) (F : Hp) (σ : St) (Q : It → Hp → Prop) : R (List D × En) → Prop
  | .ok p => ∀ F' H' J, Rl K B F' H' σ p.2 → Same F F' → Walks K J F' p.1 → Q J H'
  | .exc x => ExcOut K W B σ x
  | .bad => False
def tI (K : PySem.W.Frag) (W : WX) (den : DA) : TI := fun σ H Q => ∃ B F e, Rl K B F H σ e ∧ OutI K W B F σ Q (den e)
def signs (z : Str) : List D := z.cps.toList.map fun c => .str ⟨#[c]⟩
def itemsOf : D → R (List D)
  | .lst l => .ok l
  | .tup l => .ok l
  | .str z => .ok (signs z)
  | _ => .bad
def iVal (da : DE) : DA := fun e => (da e).bind fun p => (itemsOf p.1).bind fun l => .ok (l, p.2)
def intsD (a : Int) (n : Nat) : List D := (List.range n).map fun k => .int (a + (k : Nat))
def wide (i : Int) : Bool := decide (-SMALL ≤ i) && decide (i ≤ SMALL)
def asRange : List D → R (List D)
  | [.int j] => if wide j = true then .ok (intsD 0 j.toNat) else .bad
  | [.int i, .int j] => if (wide i && wide j) = true then .ok (intsD i (j - i).toNat) else .bad
  | _ => .bad
def iRange (da : DA) : DA := fun e => (da e).bind fun p => (asRange p.1).bind fun l => .ok (l, p.2)
def zipD : List D → List D → List D
  | a :: l, b :: m => .tup [a, b] :: zipD l m
  | _, _ => []
def asZip : List D → R (List D)
  | [.lst l, .lst m] => .ok (zipD l m)
  | [.tup l, .tup m] => .ok (zipD l m)
  | _ => .bad
def iZipd (da : DA) : DA := fun e => (da e).bind fun p => (asZip p.1).bind fun l => .ok (l, p.2)
section
variable {X : Cx} {W : WX} {tg iter : Expr} {da : DE} {dr : DA} {pos p tpos : Pos}
theorem piI {wi wi' : TI} (h : PI X tg iter wi) (i : ∀ σ H Q, wi' σ H Q → wi σ H Q) : PI X tg iter wi' := ⟨fun pins s σ H R I q => h.run pins s σ H R I (i σ H R q)⟩
theorem piOr {w1 w2 : TI} (h1 : PI X tg iter w1) (h2 : PI X tg iter w2) : PI X tg iter (fun σ H R => w1 σ H R ∨ w2 σ H R) := ⟨fun pins s σ H R I q => q.elim (h1.run pins s σ H R I) (h2.run pins s σ H R I)⟩
theorem walks_list {K : PySem.W.Frag} {F : Hp} {a : Addr} {vs : List V} {l : List D} (h : F a = some (.lst vs)) (r : Reps K F vs l) : Walks K (Itl K a) F l := by
  intro F' H' s s'
  have hq : SqL K H' a vs := .inl (.inl (s' _ _ (s _ _ h)))
  have uniq : ∀ xs, SqL K H' a xs → True := fun _ _ => trivial
  refine ⟨fun i hi => ⟨vs, hq, by rw [r.len]; exact hi⟩, fun i d hd => ?_⟩
  obtain ⟨v, h1, h2⟩ := r.get hd
  refine ⟨⟨vs, v, hq, h1⟩, fun x H'' hy => ?_⟩
  obtain ⟨rfl, h3⟩ := hy
  have := h3 vs hq
  rw [h1] at this
  injection this with this
  subst this
  exact ⟨F', Ext.refl s', h2.mono s⟩
theorem walks_tup {K : PySem.W.Frag} {F : Hp} {a : Addr} {vs : List V} {l : List D} (h : SqT K F a vs) (r : Reps K F vs l) : Walks K (Itt K a) F l := by
  intro F' H' s s'
  have hq : SqT K H' a vs := same_sqT s' (same_sqT s h)
  refine ⟨fun i hi => ⟨vs, hq, by rw [r.len]; exact hi⟩, fun i d hd => ?_⟩
  obtain ⟨v, h1, h2⟩ := r.get hd
  refine ⟨⟨vs, v, hq, h1⟩, fun x H'' hy => ?_⟩
  obtain ⟨rfl, h3⟩ := hy
  have := h3 vs hq
  rw [h1] at this
  injection this with this
  subst this
  exact ⟨F', Ext.refl s', h2.mono s⟩
theorem walks_str {K : PySem.W.Frag} {F : Hp} {z : Str} : Walks K (Its z) F (signs z) := by
  intro F' H' s s'
  refine ⟨fun i hi => ?_, fun i d hd => ?_⟩
  · show z.cps.size ≤ i
    unfold signs at hi
    rw [List.length_map, Array.length_toList] at hi
    exact hi
  · unfold signs at hd
    rw [List.getElem?_map] at hd
    cases q : z.cps.toList[i]? with
    | none => rw [q] at hd; cases hd
    | some c =>
      rw [q] at hd
      have hd2 : some (D.str ⟨#[c]⟩) = some d := hd
      injection hd2 with hd2
      subst hd2
      have hlt : i < z.cps.size := by
        have := (List.getElem?_eq_some_iff.mp q).1
        rw [Array.length_toList] at this
        exact this
      refine ⟨hlt, fun x H'' hy => ?_⟩
      obtain ⟨rfl, c', h1, rfl⟩ := hy
      have e : c' = c := by
        rw [Array.getElem?_toList] at q
        rw [h1] at q
        injection q
      subst e
      exact ⟨F', Ext.refl s', .str _⟩
theorem di_val (h : PE X iter (tD X.K W da)) : PI X tg iter (tI X.K W (iVal da)) := by
  refine piI (piOr (pi_list h) (piOr (pi_tup h) (pi_str h))) ?_
  rintro σ H Q ⟨B, F, e, R, h⟩
  have h0 : OutI X.K W B F σ Q ((da e).bind fun p => (itemsOf p.1).bind fun l => .ok (l, p.2)) := h
  cases q : da e with
  | bad => rw [q] at h0; exact h0.elim
  | exc z =>
    rw [q] at h0
    exact .inl ⟨B, F, e, R, by rw [q]; exact h0⟩
  | ok pr =>
    rw [q] at h0
    obtain ⟨d, e1⟩ := pr
    cases d with
    | lst l =>
      refine .inl ⟨B, F, e, R, ?_⟩
      rw [q]
      intro F1 H1 v R1 s1 rv
      obtain ⟨a, vs, rfl, ha, rs⟩ := rv.lst_inv
      exact ⟨a, rfl, ⟨vs, .inl (.inl (R1.sub _ _ ha))⟩, h0 F1 H1 _ R1 s1 (walks_list ha rs)⟩
    | tup l =>
      refine .inr (.inl ⟨B, F, e, R, ?_⟩)
      rw [q]
      intro F1 H1 v R1 s1 rv
      obtain ⟨a, vs, rfl, ha, rs⟩ := rv.tup_inv
      exact ⟨a, rfl, ⟨vs, same_sqT R1.sub ha⟩, h0 F1 H1 _ R1 s1 (walks_tup ha rs)⟩
    | str z =>
      refine .inr (.inr ⟨B, F, e, R, ?_⟩)
      rw [q]
      intro F1 H1 v R1 s1 rv
      exact ⟨z, rv.str_inv, h0 F1 H1 _ R1 s1 walks_str⟩
    | _ => exact h0.elim
theorem walks_range {K : PySem.W.Frag} {F : Hp} {a : Int} {n : Nat} : Walks K (Itr a n) F (intsD a n) := by
  intro F' H' s s'
  refine ⟨fun i hi => ?_, fun i d hd => ?_⟩
  · unfold intsD at hi
    rw [List.length_map, List.length_range] at hi
    exact hi
  · unfold intsD at hd
    rw [List.getElem?_map] at hd
    by_cases hlt : i < n
    · rw [List.getElem?_range hlt] at hd
      have hd2 : some (D.int (a + (i : Nat))) = some d := hd
      injection hd2 with hd2
      subst hd2
      refine ⟨hlt, fun x H'' hy => ?_⟩
      obtain ⟨rfl, rfl⟩ := hy
      exact ⟨F', Ext.refl s', .int _⟩
    · rw [List.getElem?_eq_none (by rw [List.length_range]; omega)] at hd
      cases hd
theorem wide_of {i : Int} (h : wide i = true) : -1000000000 ≤ i ∧ i ≤ 1000000000 := by
  unfold wide SMALL at h
  simp only [Bool.and_eq_true, decide_eq_true_eq] at h
  exact h
theorem OutA.toI {K : PySem.W.Frag} {B : Bs} {F : Hp} {σ : St} {Q : It → Hp → Prop} {r : R (List D × En)} {g : List D × En → R (List D × En)} {Q' : List V → Hp → Prop} (h : OutI K W B F σ Q (r.bind g))
    (k : ∀ d e1, OutI K W B F σ Q (g (d, e1)) → ∀ F' H' vs, Rl K B F' H' σ e1 → Same F F' → Reps K F' vs d → Q' vs H') : OutA K W B F σ Q' r := by
  cases r with
  | ok p => exact k p.1 p.2 h
  | exc x => exact h
  | bad => exact h.elim
theorem di_range1 {a : Expr} (hg : Gl X "range") (hm : X.mg "range" = none) (ha : PA X [a] (tA X.K W dr)) (hl : ∀ e p, dr e = .ok p → p.1.length = 1) (hs : starEach [a] X.env = [(false, eval a X.env)] := by rfl) : PI X tg (.Call (.Name "range" p) [a] [] pos) (tI X.K W (iRange dr)) := by
  refine piI (pi_range1 hg hm ha hs) ?_
  rintro σ H Q ⟨B, F, e, R, h⟩
  have h0 : OutI X.K W B F σ Q ((dr e).bind fun p => (asRange p.1).bind fun l => .ok (l, p.2)) := h
  refine ⟨B, F, e, R, ?_⟩
  cases q : dr e with
  | bad => rw [q] at h0; exact h0.elim
  | exc z => rw [q] at h0; exact h0
  | ok pr =>
    have hlen := hl e _ q
    rw [q] at h0
    obtain ⟨l, e1⟩ := pr
    match l, hlen with
    | [d], _ =>
      intro F1 H1 vs R1 s1 rs
      obtain ⟨v, rfl, rv⟩ := reps1 rs
      have h1 : OutI X.K W B F σ Q ((asRange [d]).bind fun l => .ok (l, e1)) := h0
      cases d with
      | int j =>
        have h2 : OutI X.K W B F σ Q ((if wide j = true then WW.R.ok (intsD 0 j.toNat) else WW.R.bad).bind fun l => .ok (l, e1)) := h1
        by_cases c : wide j = true
        · rw [if_pos c] at h2
          obtain ⟨c1, c2⟩ := wide_of c
          exact ⟨j, by rw [rv.int_inv], by omega, by omega, h2 F1 H1 _ R1 s1 walks_range⟩
        · rw [if_neg c] at h2
          exact h2.elim
      | _ => exact h1.elim
theorem di_range2 {a b : Expr} (hg : Gl X "range") (hm : X.mg "range" = none) (ha : PA X [a, b] (tA X.K W dr)) (hl : ∀ e p, dr e = .ok p → p.1.length = 2) (hs : starEach [a, b] X.env = [(false, eval a X.env), (false, eval b X.env)] := by rfl) (hs2 : starEach [b] X.env = [(false, eval b X.env)] := by rfl) :
    PI X tg (.Call (.Name "range" p) [a, b] [] pos) (tI X.K W (iRange dr)) := by
  refine piI (pi_range2 hg hm ha hs hs2) ?_
  rintro σ H Q ⟨B, F, e, R, h⟩
  have h0 : OutI X.K W B F σ Q ((dr e).bind fun p => (asRange p.1).bind fun l => .ok (l, p.2)) := h
  refine ⟨B, F, e, R, ?_⟩
  cases q : dr e with
  | bad => rw [q] at h0; exact h0.elim
  | exc z => rw [q] at h0; exact h0
  | ok pr =>
    have hlen := hl e _ q
    rw [q] at h0
    obtain ⟨l, e1⟩ := pr
    match l, hlen with
    | [d, d'], _ =>
      intro F1 H1 vs R1 s1 rs
      obtain ⟨v, v', rfl, rv, rv'⟩ := reps2 rs
      have h1 : OutI X.K W B F σ Q ((asRange [d, d']).bind fun l => .ok (l, e1)) := h0
      cases d with
      | int i =>
        cases d' with
        | int j =>
          have h2 : OutI X.K W B F σ Q ((if (wide i && wide j) = true then WW.R.ok (intsD i (j - i).toNat) else WW.R.bad).bind fun l => .ok (l, e1)) := h1
          by_cases c : (wide i && wide j) = true
          · rw [if_pos c] at h2
            obtain ⟨c1, c2⟩ := Bool.and_eq_true_iff.mp c
            obtain ⟨c3, c4⟩ := wide_of c1
            obtain ⟨c5, c6⟩ := wide_of c2
            exact ⟨i, j, by rw [rv.int_inv, rv'.int_inv], ⟨by omega, by omega, by omega, by omega⟩, h2 F1 H1 _ R1 s1 walks_range⟩
          · rw [if_neg c] at h2
            exact h2.elim
        | _ => exact h1.elim
      | _ => exact h1.elim
theorem zip_len : ∀ {l m : List D} {i : Nat}, (zipD l m).length ≤ i → l.length ≤ i ∨ m.length ≤ i
  | [], _, _, _ => .inl (Nat.zero_le _)
  | _ :: _, [], _, _ => .inr (Nat.zero_le _)
  | a :: l, b :: m, 0, h => absurd h (by show ¬ (zipD l m).length + 1 ≤ 0; omega)
  | a :: l, b :: m, i + 1, h => by
    have h2 : (zipD l m).length + 1 ≤ i + 1 := h
    rcases zip_len (l := l) (m := m) (i := i) (by omega) with z | z
    · exact .inl (Nat.succ_le_succ z)
    · exact .inr (Nat.succ_le_succ z)
theorem zip_at : ∀ {l m : List D} {i : Nat} {d : D}, (zipD l m)[i]? = some d → ∃ a b, l[i]? = some a ∧ m[i]? = some b ∧ d = .tup [a, b]
  | [], _, _, _, h => by simp [zipD] at h
  | _ :: _, [], _, _, h => by simp [zipD] at h
  | a :: l, b :: m, 0, d, h => by
    have h2 : some (D.tup [a, b]) = some d := h
    injection h2 with h2
    exact ⟨a, b, rfl, rfl, h2.symm⟩
  | a :: l, b :: m, i + 1, d, h => by
    obtain ⟨x, y, h1, h2, h3⟩ := zip_at (l := l) (m := m) (i := i) (show (zipD l m)[i]? = some d by simpa [zipD] using h)
    exact ⟨x, y, by simpa using h1, by simpa using h2, h3⟩
theorem walks_zip {K : PySem.W.Frag} {F : Hp} {a b : Addr} {vs us : List V} {l m : List D} (ha : F a = some (.lst vs)) (hb : F b = some (.lst us)) (ra : Reps K F vs l) (rb : Reps K F us m) : Walks K (Itz K a b) F (zipD l m) := by
  intro F' H' s s'
  have qa : SqL K H' a vs := .inl (.inl (s' _ _ (s _ _ ha)))
  have qb : SqL K H' b us := .inl (.inl (s' _ _ (s _ _ hb)))
  refine ⟨fun i hi => ⟨vs, us, qa, qb, by rw [ra.len, rb.len]; exact zip_len hi⟩, fun i d hd => ?_⟩
  obtain ⟨x, y, h1, h2, rfl⟩ := zip_at hd
  obtain ⟨v, k1, k2⟩ := ra.get h1
  obtain ⟨u, k3, k4⟩ := rb.get h2
  refine ⟨⟨vs, us, v, u, qa, qb, k1, k3⟩, fun w' H'' hy => ?_⟩
  obtain ⟨T, x1, y1, rfl, nT, rfl, f1, f2⟩ := hy
  have e1 := f1 vs qa
  rw [k1] at e1
  injection e1 with e1
  subst e1
  have e2 := f2 us qb
  rw [k3] at e2
  injection e2 with e2
  subst e2
  have x := ext_new (K := K) (o := .tup [v, u]) s' nT
  exact ⟨_, x, .tup (.inl (.inl upd_same)) (.cons ((k2.mono s).mono x.fr) (.cons ((k4.mono s).mono x.fr) .nil))⟩
theorem walks_zipT {K : PySem.W.Frag} {F : Hp} {a b : Addr} {vs us : List V} {l m : List D} (ha : SqT K F a vs) (hb : SqT K F b us) (ra : Reps K F vs l) (rb : Reps K F us m) : Walks K (RZ.ItzT K a b) F (zipD l m) := by
  intro F' H' s s'
  have qa : SqT K H' a vs := same_sqT s' (same_sqT s ha)
  have qb : SqT K H' b us := same_sqT s' (same_sqT s hb)
  refine ⟨fun i hi => ⟨vs, us, qa, qb, by rw [ra.len, rb.len]; exact zip_len hi⟩, fun i d hd => ?_⟩
  obtain ⟨x, y, h1, h2, rfl⟩ := zip_at hd
  obtain ⟨v, k1, k2⟩ := ra.get h1
  obtain ⟨u, k3, k4⟩ := rb.get h2
  refine ⟨⟨vs, us, v, u, qa, qb, k1, k3⟩, fun w' H'' hy => ?_⟩
  obtain ⟨T, x1, y1, rfl, nT, rfl, f1, f2⟩ := hy
  have e1 := f1 vs qa
  rw [k1] at e1
  injection e1 with e1
  subst e1
  have e2 := f2 us qb
  rw [k3] at e2
  injection e2 with e2
  subst e2
  have x := ext_new (K := K) (o := .tup [v, u]) s' nT
  exact ⟨_, x, .tup (.inl (.inl upd_same)) (.cons ((k2.mono s).mono x.fr) (.cons ((k4.mono s).mono x.fr) .nil))⟩
theorem di_zip {a b : Expr} {elts : List Expr} {kk : Nat} (hg : Gl X "zip") (hm : X.mg "zip" = none) (ha : PA X [a, b] (tA X.K W dr)) (hl : ∀ e p, dr e = .ok p → p.1.length = 2)
    (hs : starEach [a, b] X.env = (false, eval a X.env) :: starEach [b] X.env := by rfl) (hpl : (backTo pos (starEach [b] X.env)).any (·.1) = false := by rfl) : PI X (.Tuple elts kk tpos) (.Call (.Name "zip" p) [a, b] [] pos) (tI X.K W (iZipd dr)) := by
  refine piI (RZ.pi_zipA hg hm ha hs hpl) ?_
  rintro σ H Q ⟨B, F, e, R, h⟩
  have h0 : OutI X.K W B F σ Q ((dr e).bind fun p => (asZip p.1).bind fun l => .ok (l, p.2)) := h
  refine ⟨B, F, e, R, ?_⟩
  cases q : dr e with
  | bad => rw [q] at h0; exact h0.elim
  | exc z => rw [q] at h0; exact h0
  | ok pr =>
    have hlen := hl e _ q
    rw [q] at h0
    obtain ⟨l, e1⟩ := pr
    match l, hlen with
    | [d, d'], _ =>
      intro F1 H1 vs R1 s1 rs
      obtain ⟨v, v', rfl, rv, rv'⟩ := reps2 rs
      have h1 : OutI X.K W B F σ Q ((asZip [d, d']).bind fun l => .ok (l, e1)) := h0
      cases d with
      | lst l1 =>
        cases d' with
        | lst l2 =>
          obtain ⟨a1, us, rfl, ha1, ra⟩ := rv.lst_inv
          obtain ⟨b1, ws, rfl, hb1, rb⟩ := rv'.lst_inv
          exact ⟨a1, b1, us, ws, rfl, .inl ⟨.inl (.inl (R1.sub _ _ ha1)), .inl (.inl (R1.sub _ _ hb1)), h1 F1 H1 _ R1 s1 (walks_zip ha1 hb1 ra rb)⟩⟩
        | _ => exact h1.elim
      | tup l1 =>
        cases d' with
        | tup l2 =>
          obtain ⟨a1, us, rfl, ha1, ra⟩ := rv.tup_inv
          obtain ⟨b1, ws, rfl, hb1, rb⟩ := rv'.tup_inv
          exact ⟨a1, b1, us, ws, rfl, .inr ⟨same_sqT R1.sub ha1, same_sqT R1.sub hb1, h1 F1 H1 _ R1 s1 (walks_zipT ha1 hb1 ra rb)⟩⟩
        | _ => exact h1.elim
      | _ => exact h1.elim
end
end WW
set_option Elab.async false
set_option linter.all false
set_option maxRecDepth 100000
set_option maxHeartbeats 4000000
/-! The data layer, part 6: loops, comprehensions, the box, a def's body. -/
namespace WW
open PySem PySem.Spec L2

theorem OutS.imp {K : PySem.W.Frag} {W : WX} {B B1 : Bs} {D' : Ends} {r : SR} (h : ∀ F H σ e, Rl K B1 F H σ e → Rl K B F H σ e) (o : OutS K W B D' r) : OutS K W B1 D' r := by
  cases r with
  | next e => exact fun F H σ R => o F H σ (h _ _ _ _ R)
  | ret d e => exact fun F H σ v R q => o F H σ v (h _ _ _ _ R) q
  | brk e => exact fun F H σ R => o F H σ (h _ _ _ _ R)
  | cnt e => exact fun F H σ R => o F H σ (h _ _ _ _ R)
  | exc x => exact fun σ F H c dd e R => o σ F H c dd e (h _ _ _ _ R)
  | bad => exact o
/-! ### for -/
def forL (g : DG) (b : DS) : List D → En → SR
  | [], e => .next e
  | d :: l, e => match g d e with
    | none => .bad
    | some e1 => match b e1 with
      | .next e2 => forL g b l e2
      | .cnt e2 => forL g b l e2
      | .brk e2 => .next e2
      | r => r
def sFor (src : DA) (g : DG) (b : DS) : DS := fun e => (src e).toS fun p => forL g b p.1 p.2
theorem OutI.toS {K : PySem.W.Frag} {W : WX} {B : Bs} {F : Hp} {σ : St} {D' : Ends} {r : R (List D × En)} {g : List D × En → SR} {Q : It → Hp → Prop} (h : OutS K W B D' (r.toS g)) (k : ∀ d e1, OutS K W B D' (g (d, e1)) → ∀ F' H' J, Rl K B F' H' σ e1 → Same F F' → Walks K J F' d → Q J H') : OutI K W B F σ Q r := by
  cases r with
  | ok p => exact k p.1 p.2 h
  | exc x => exact h σ
  | bad => exact h.elim
section
variable {X : Cx} {W : WX} {tg iter : Expr} {src : DA} {g : DG} {is : List Nat} {b : DS} {body : List Stmt} {pos : Pos}
theorem ds_for (hp : PassesOwn (model X.prog X.w) X.A X.env X.xe) (hc : X.calm = true) (hi : PI X tg iter (tI X.K W src)) (hg : PG X tg (tG X.K is g)) (hb : PSs X body (tS X.K W b))
    (hs : ∀ x, foldedSetIterable iter X.env x = pure x := by intro _; rfl) : PS X (.For tg iter body [] pos) (tS X.K W (sFor src g b)) := by
  refine psI (ps_for hp hc hi hg hb hs) ?_
  rintro D' σ H ⟨B, F, e, R, h⟩
  refine ⟨B, F, e, R, OutI.toS h fun ds e1 h1 F1 H1 J R1 s1 wk => ?_⟩
  obtain ⟨B1, hF1, R2, back⟩ := R1.rebase
  have h2 : OutS X.K W B1 D' (forL g b ds e1) := OutS.imp back h1
  refine ⟨fun i m σ H => m = ds.length - i ∧ i ≤ ds.length ∧ ∃ F2 e2, Rl X.K B1 F2 H σ e2 ∧ OutS X.K W B1 D' (forL g b (ds.drop i) e2), ⟨ds.length, by simp, Nat.zero_le _, F1, e1, R2, h2⟩, ?_⟩
  rintro i m σ2 H2 ⟨rfl, hi, F2, e2, R3, h3⟩
  have s2 : Same F1 F2 := by
    have := R3.ext.fr
    rw [hF1] at this
    exact this
  obtain ⟨stop, go⟩ := wk F2 H2 s2 R3.sub
  by_cases hlt : i < ds.length
  · obtain ⟨d, hd⟩ : ∃ d, ds[i]? = some d := ⟨_, List.getElem?_eq_getElem hlt⟩
    have ed : ds.drop i = d :: ds.drop (i + 1) := by
      rw [List.drop_eq_getElem_cons hlt]
      rw [List.getElem?_eq_getElem hlt] at hd
      injection hd with hd
      rw [hd]
    obtain ⟨g1, g2⟩ := go i d hd
    refine .inr ⟨g1, fun σ' H' => ∃ F' e', Rl X.K B1 F' H' σ' e' ∧ OutS X.K W B1 D' (forL g b (ds.drop (i + 1)) e'), fun σ' H' ⟨F', e', R', h'⟩ => ⟨ds.length - (i + 1), by omega, rfl, hlt, F', e', R', h'⟩, fun x H'' hy => ?_⟩
    obtain ⟨F3, x3, rx⟩ := g2 x H'' hy
    rw [ed] at h3
    unfold forL at h3
    cases q : g d e2 with
    | none => rw [q] at h3; exact h3.elim
    | some e3 =>
      rw [q] at h3
      refine ⟨B1, F3, e2, d, e3, R3.step x3, rx, q, fun σ' R' _ => ⟨B1, F3, e3, R', ?_⟩⟩
      have h4 : OutS X.K W B1 D' (match b e3 with
        | .next e2 => forL g b (ds.drop (i + 1)) e2
        | .cnt e2 => forL g b (ds.drop (i + 1)) e2
        | .brk e2 => .next e2
        | r => r) := h3
      cases z : b e3 with
      | next e4 => rw [z] at h4; exact fun F' H' σ'' R'' => ⟨F', e4, R'', h4⟩
      | cnt e4 => rw [z] at h4; exact fun F' H' σ'' R'' => ⟨F', e4, R'', h4⟩
      | brk e4 => rw [z] at h4; exact fun F' H' σ'' R'' => h4 F' H' σ'' R''
      | ret d4 e4 => rw [z] at h4; exact h4
      | exc x4 => rw [z] at h4; exact h4
      | bad => rw [z] at h4; exact h4.elim
  · have e : i = ds.length := by omega
    subst e
    rw [List.drop_length] at h3
    exact .inl ⟨stop _ (Nat.le_refl _), h3 F2 H2 σ2 R3⟩
/-! ### while -/
def whileL (c : DT) (b : DS) : Nat → En → SR
  | 0, _ => .bad
  | n + 1, e => (c e).toS fun p => if p.1 = true then (match b p.2 with
    | .next e2 => whileL c b n e2
    | .cnt e2 => whileL c b n e2
    | .brk e2 => .next e2
    | r => r) else .next p.2
def FUEL : Nat := 2 ^ 60
def sWhile (c : DT) (b : DS) : DS := fun e => whileL c b FUEL e
theorem whileL_mono (c : DT) (b : DS) : ∀ (n m : Nat) (e : En) (r : SR), n ≤ m → r ≠ .bad → whileL c b n e = r → whileL c b m e = r
  | 0, m, e, r, _, hr, h => absurd h.symm hr
  | n + 1, 0, e, r, hnm, _, _ => absurd hnm (Nat.not_succ_le_zero n)
  | n + 1, m + 1, e, r, hnm, hr, h => by
    unfold whileL at h ⊢
    cases q : c e with
    | bad => rw [q] at h; exact h
    | exc x => rw [q] at h; exact h
    | ok p =>
      rw [q] at h
      simp only [R.toS_ok] at h ⊢
      by_cases k : p.1 = true
      · rw [if_pos k] at h ⊢
        cases z : b p.2 with
        | next e2 => rw [z] at h; exact whileL_mono c b n m e2 r (Nat.le_of_succ_le_succ hnm) hr h
        | cnt e2 => rw [z] at h; exact whileL_mono c b n m e2 r (Nat.le_of_succ_le_succ hnm) hr h
        | brk e2 => rw [z] at h; exact h
        | ret d e2 => rw [z] at h; exact h
        | exc x => rw [z] at h; exact h
        | bad => rw [z] at h; exact h
      · rw [if_neg k] at h ⊢
        exact h
theorem sWhile_of {c : DT} {b : DS} {e : En} {r : SR} (n : Nat) (hn : n ≤ 2 ^ 60) (hr : r ≠ .bad) (h : whileL c b n e = r) : sWhile c b e = r := whileL_mono c b n FUEL e r hn hr h
variable {c : Expr} {tc : DT}
theorem ds_while (hp : PassesOwn (model X.prog X.w) X.A X.env X.xe) (hc : PT X c (tT X.K W tc)) (hb : PSs X body (tS X.K W b)) : PS X (.While c body [] pos) (tS X.K W (sWhile tc b)) := by
  refine psI (ps_while hp hc hb) ?_
  rintro D' σ H ⟨B, F, e, R, h⟩
  refine ⟨fun m σ H => ∃ F e, Rl X.K B F H σ e ∧ OutS X.K W B D' (whileL tc b m e), ⟨FUEL, F, e, R, h⟩, ?_⟩
  rintro m σ1 H1 ⟨F1, e1, R1, h1⟩
  cases m with
  | zero => exact h1.elim
  | succ n =>
    unfold whileL at h1
    refine ⟨B, F1, e1, R1, OutT.toS h1 fun k e2 h2 F2 H2 R2 s2 => ?_⟩
    cases k with
    | true =>
      refine iteT ⟨fun σ' H' => ∃ F' e', Rl X.K B F' H' σ' e' ∧ OutS X.K W B D' (whileL tc b n e'), fun σ' H' w' => ⟨n, Nat.lt_succ_self n, w'⟩, B, F2, e2, R2, ?_⟩
      have h4 : OutS X.K W B D' (match b e2 with
        | .next e2 => whileL tc b n e2
        | .cnt e2 => whileL tc b n e2
        | .brk e2 => .next e2
        | r => r) := h2
      cases z : b e2 with
      | next e4 => rw [z] at h4; exact fun F' H' σ'' R'' => ⟨F', e4, R'', h4⟩
      | cnt e4 => rw [z] at h4; exact fun F' H' σ'' R'' => ⟨F', e4, R'', h4⟩
      | brk e4 => rw [z] at h4; exact fun F' H' σ'' R'' => h4 F' H' σ'' R''
      | ret d4 e4 => rw [z] at h4; exact h4
      | exc x4 => rw [z] at h4; exact h4
      | bad => rw [z] at h4; exact h4.elim
    | false => exact iteF (h2 F2 H2 σ1 R2)
end

/-! ### comprehensions -/
def wipeE (e : En) : List Nat → Option En
  | [] => some e
  | v :: vs => match wipeE e vs with
    | some e1 => setE e1 v none
    | none => none
theorem wipeE_len : ∀ {vs : List Nat} {e e1 : En}, wipeE e vs = some e1 → e1.length = e.length
  | [], e, e1, h => by
    have h2 : some e = some e1 := h
    injection h2 with h2
    rw [h2]
  | v :: vs, e, e1, h => by
    have h2 : (match wipeE e vs with
      | some e1 => setE e1 v none
      | none => none) = some e1 := h
    cases q : wipeE e vs with
    | none => rw [q] at h2; cases h2
    | some e2 =>
      rw [q] at h2
      obtain ⟨_, h3, _⟩ := setE_some h2
      rw [h3, wipeE_len q]
theorem wipeE_at : ∀ {vs : List Nat} {e e1 : En}, wipeE e vs = some e1 → ∀ i s, nth e1 i = some s → nth e i = some s ∧ i ∉ vs
  | [], e, e1, h, i, s, hs => by
    have h2 : some e = some e1 := h
    injection h2 with h2
    rw [h2]
    exact ⟨hs, by simp⟩
  | v :: vs, e, e1, h, i, s, hs => by
    have h2 : (match wipeE e vs with
      | some e1 => setE e1 v none
      | none => none) = some e1 := h
    cases q : wipeE e vs with
    | none => rw [q] at h2; cases h2
    | some e2 =>
      rw [q] at h2
      obtain ⟨_, _, h4, h5⟩ := setE_some h2
      have hiv : i ≠ v := fun z => by
        rw [z, h4] at hs
        cases hs
      rw [h5 i hiv] at hs
      obtain ⟨h6, h7⟩ := wipeE_at q i s hs
      exact ⟨h6, fun z => by
        rcases List.mem_cons.mp z with z | z
        · exact hiv z
        · exact h7 z⟩
def compL (vs : List Nat) (g : DG) (t : DT) (el : DE) : List D → En → R (List D × En)
  | [], e => .ok ([], e)
  | d :: l, e => match g d e with
    | none => .bad
    | some e1 => (t e1).bind fun p => if p.1 = true then (el p.2).bind fun q => (match wipeE q.2 vs with
        | some e4 => (compL vs g t el l e4).bind fun r => .ok (q.1 :: r.1, r.2)
        | none => .bad)
      else (match wipeE p.2 vs with
        | some e4 => compL vs g t el l e4
        | none => .bad)
def noTest : DT := fun e => .ok (true, e)
def oComp (src : DA) (vs : List Nat) (g : DG) (t : DT) (el : DE) : OE := fun e => (src e).bind fun p => if p.1.length ≤ LIM then (match wipeE p.2 vs with
    | some e1 => (compL vs g t el p.1 e1).noX.bind fun q => .ok (.l q.1, q.2)
    | none => .bad) else .bad
theorem wipe_off {vs is : List Nat} {σ σ2 : St} (h : Off is (wipe σ vs) σ2) (hs : ∀ i ∈ is, i ∈ vs) : wipe σ2 vs = wipe σ vs := by
  refine List.ext_getElem? fun j => ?_
  by_cases hj : j ∈ vs
  · have wm : ∀ (τ : St) (ws : List Nat), j ∈ ws → (wipe τ ws)[j]? = (if j < τ.length then some none else none) := by
      intro τ ws
      induction ws with
      | nil => intro z; cases z
      | cons w ws ih =>
        intro z
        show ((wipe τ ws).set w none)[j]? = _
        by_cases hw : w = j
        · subst hw
          by_cases hl : w < (wipe τ ws).length
          · rw [List.getElem?_set_self hl]
            rw [wipe_length] at hl
            rw [if_pos hl]
          · rw [List.getElem?_eq_none (by rw [List.length_set]; omega)]
            rw [wipe_length] at hl
            rw [if_neg hl]
        · rw [List.getElem?_set_ne hw]
          rcases List.mem_cons.mp z with z | z
          · exact absurd z.symm hw
          · exact ih z
    rw [wm σ2 vs hj, wm σ vs hj, h.1, wipe_length]
  · have wo : ∀ (τ : St) (ws : List Nat), j ∉ ws → (wipe τ ws)[j]? = τ[j]? := by
      intro τ ws
      induction ws with
      | nil => intro _; rfl
      | cons w ws ih =>
        intro z
        show ((wipe τ ws).set w none)[j]? = _
        rw [List.getElem?_set_ne (fun q => z (by rw [q]; exact List.mem_cons_self)), ih fun q => z (List.mem_cons_of_mem _ q)]
    rw [wo σ2 vs hj]
    exact h.2 j fun z => hj (hs j z)
theorem wipe_out {σ : St} {vs : List Nat} {j : Nat} (hj : j ∉ vs) : (wipe σ vs)[j]? = σ[j]? := by
  induction vs with
  | nil => rfl
  | cons w ws ih =>
    show ((wipe σ ws).set w none)[j]? = _
    rw [List.getElem?_set_ne (fun q => hj (by rw [q]; exact List.mem_cons_self)), ih fun q => hj (List.mem_cons_of_mem _ q)]
/-- the block's state from the state ahead, and back -/
theorem Rl.wiped {K : PySem.W.Frag} {B : Bs} {F H : Hp} {σ : St} {e e1 : En} {vs : List Nat} {x : Option V} {s : Option Sl} (R : Rl K B F H (σ ++ [x]) (e ++ [s])) (h : wipeE e vs = some e1) : Rl K B F H (wipe σ vs ++ [x]) (e1 ++ [s]) := by
  have l := R.less.len
  refine R.sel (by rw [List.length_append, List.length_append, wipe_length, wipeE_len h, l]; rfl) fun i t ht => ?_
  have hl1 := wipeE_len h
  by_cases hi : i < e1.length
  · rw [nth_app_left hi] at ht
    obtain ⟨h1, h2⟩ := wipeE_at h i t ht
    rw [hl1] at hi
    refine ⟨by rw [nth_app_left hi]; exact h1, ?_⟩
    rw [List.getElem?_append_left (by rw [wipe_length, ← l]; exact hi), List.getElem?_append_left (by rw [← l]; exact hi), wipe_out h2]
  · have hi2 : i = e1.length := by
      have := nth_some_lt ht
      rw [List.length_append] at this
      simp at this
      omega
    subst hi2
    rw [nth_app_last] at ht
    refine ⟨by rw [hl1, nth_app_last]; exact ht, ?_⟩
    rw [hl1, l, List.getElem?_append_right (by rw [wipe_length]; exact Nat.le_refl _), List.getElem?_append_right (Nat.le_refl _), wipe_length]
theorem Rl.unwiped {K : PySem.W.Frag} {B : Bs} {F H : Hp} {σ : St} {e : En} {vs : List Nat} {x : Option V} {s : Option Sl} (R : Rl K B F H (wipe σ vs ++ [x]) (e ++ [s])) (h : ∀ i ∈ vs, nth e i = none) : Rl K B F H (σ ++ [x]) (e ++ [s]) := by
  have l := R.less.len
  rw [wipe_length] at l
  refine R.sel (by rw [List.length_append, List.length_append, l]; rfl) fun i t ht => ⟨ht, ?_⟩
  by_cases hi : i < e.length
  · rw [nth_app_left hi] at ht
    have h2 : i ∉ vs := fun z => by
      rw [h i z] at ht
      cases ht
    rw [List.getElem?_append_left (by rw [← l]; exact hi), List.getElem?_append_left (by rw [wipe_length, ← l]; exact hi), wipe_out h2]
  · have hi2 : i = e.length := by
      have := nth_some_lt ht
      rw [List.length_append] at this
      simp at this
      omega
    subst hi2
    rw [l, List.getElem?_append_right (Nat.le_refl _), List.getElem?_append_right (by rw [wipe_length]; exact Nat.le_refl _), wipe_length]
/-- an item more for the own list in the last place -/
theorem Rl.snoc {K : PySem.W.Frag} {B : Bs} {F H : Hp} {σ : St} {e : En} {p : Addr} {acc : List D} {y : V} {d : D} (R : Rl K B F H (σ ++ [some (.ref p)]) (e ++ [some (.l acc)])) (r : Rep K F y d) :
    ∃ vs, H p = some (.lst vs) ∧ vs.length = acc.length ∧ Rl K B F (upd H p (.lst (vs ++ [y]))) (σ ++ [some (.ref p)]) (e ++ [some (.l (acc ++ [d]))]) := by
  have l := R.less.len
  obtain ⟨_, _, fp, S⟩ := id R
  obtain ⟨u, q1, p', vs, rfl, hA, hp, rs⟩ := S.ok e.length (.l acc) nth_app_last
  have hlast : (σ ++ [some (V.ref p)])[e.length]? = some (some (.ref p)) := by rw [l, List.getElem?_append_right (Nat.le_refl _)]; simp
  rw [hlast] at q1
  injection q1 with q1
  injection q1 with q1
  injection q1 with q1
  subst q1
  have fn := (S.own e.length p ((hA p).mpr rfl)).1
  have hset : setE (e ++ [some (.l acc)]) e.length (some (.l (acc ++ [d]))) = some (e ++ [some (.l (acc ++ [d]))]) := by
    clear R S l hlast fn hA hp rs
    generalize e = e
    induction e with
    | nil => rfl
    | cons a r ih =>
      show (match setE (r ++ [some (.l acc)]) r.length (some (.l (acc ++ [d]))) with
        | some q => some (a :: q)
        | none => none) = _
      rw [ih]
      rfl
  refine ⟨vs, hp, rs.len, R.change (v := .ref p) nth_app_last hlast hset fun A okA hF => ?_⟩
  obtain ⟨p2, vs2, e1, hA2, hp2, _⟩ := okA
  injection e1 with e1
  subst e1
  exact ⟨A, Ext.own1 R.sub fn ((hA2 _).mpr rfl) hp .lst, ⟨p, _, rfl, hA2, upd_same, rs.app (.cons r .nil)⟩, fun a z => ⟨hF a z, .inl z⟩⟩
theorem compL_none {vs : List Nat} {g : DG} {t : DT} {el : DE} : ∀ {l : List D} {e : En} {r : List D × En}, (∀ i ∈ vs, nth e i = none) → compL vs g t el l e = .ok r → ∀ i ∈ vs, nth r.2 i = none
  | [], e, r, h, hr => by
    injection hr with hr
    subst hr
    exact h
  | d :: l, e, r, h, hr => by
    unfold compL at hr
    have fin : ∀ e0 e4, wipeE e0 vs = some e4 → ∀ i ∈ vs, nth e4 i = none := fun e0 e4 hw i hi => by
      cases z : nth e4 i with
      | none => rfl
      | some s => exact absurd hi (wipeE_at hw i s z).2
    cases q : g d e with
    | none => rw [q] at hr; cases hr
    | some e1 =>
      rw [q] at hr
      simp only at hr
      cases q2 : t e1 with
      | bad => rw [q2] at hr; cases hr
      | exc x => rw [q2] at hr; cases hr
      | ok p =>
        rw [q2] at hr
        simp only [WW.R.bind_ok, WW.R.noX_ok] at hr
        by_cases k : p.1 = true
        · rw [if_pos k] at hr
          cases q3 : el p.2 with
          | bad => rw [q3] at hr; cases hr
          | exc x => rw [q3] at hr; cases hr
          | ok z =>
            rw [q3] at hr
            simp only [WW.R.bind_ok, WW.R.noX_ok] at hr
            cases q4 : wipeE z.2 vs with
            | none => rw [q4] at hr; cases hr
            | some e4 =>
              rw [q4] at hr
              simp only at hr
              cases q5 : compL vs g t el l e4 with
              | bad => rw [q5] at hr; cases hr
              | exc x => rw [q5] at hr; cases hr
              | ok r' =>
                rw [q5] at hr
                injection hr with hr
                subst hr
                exact (compL_none (l := l) (r := r') (fin _ _ q4) q5 : ∀ i ∈ vs, nth r'.2 i = none)
        · rw [if_neg k] at hr
          cases q4 : wipeE p.2 vs with
          | none => rw [q4] at hr; cases hr
          | some e4 =>
            rw [q4] at hr
            exact compL_none (fin _ _ q4) hr
section
variable {X : Cx} {W : WX} {pos : Pos} {elt tg iter : Expr} {ifs : List Expr} {scope : Scope} {own : List (Str × Nat)} {src : DA} {g : DG} {is : List Nat} {t : DT} {el : DE}
/-- what the loop's rest must give -/
def OutC (K : PySem.W.Frag) (B : Bs) (σ : St) (x : V) (acc : List D) (Q : Hp → Prop) : R (List D × En) → Prop
  | .ok p => ∀ F' H', Rl K B F' H' (σ ++ [some x]) (p.2 ++ [some (.l (acc ++ p.1))]) → Q H'
  | _ => False
theorem lc_of {K : PySem.W.Frag} (hsub : ∀ i ∈ is, i ∈ own.map (·.2)) {σ : St} {H : Hp} {Q : VK} (h : tO K W (oComp src (own.map (·.2)) g t el) σ H Q) : tLc (tI K W src) (tG K is g) (tT K WF t) (tD K WF el) (own.map (·.2)) σ H Q := by
  obtain ⟨B, F, e, R, h⟩ := h
  refine ⟨B, F, e, R, ?_⟩
  cases q : src e with
  | bad =>
    unfold oComp at h
    rw [q] at h
    exact h.elim
  | exc x =>
    unfold oComp at h
    rw [q] at h
    exact h
  | ok pr =>
    obtain ⟨ds, e1⟩ := pr
    have h0 : (∃ e2 r, ds.length ≤ LIM ∧ wipeE e1 (own.map (·.2)) = some e2 ∧ compL (own.map (·.2)) g t el ds e2 = .ok r ∧ OutO K W B F σ Q (.ok (.l r.1, r.2))) := by
      unfold oComp at h
      rw [q] at h
      simp only [WW.R.bind_ok, WW.R.noX_ok] at h
      by_cases c : ds.length ≤ LIM
      · rw [if_pos c] at h
        cases q2 : wipeE e1 (own.map (·.2)) with
        | none => rw [q2] at h; exact h.elim
        | some e2 =>
          rw [q2] at h
          simp only at h
          cases q3 : compL (own.map (·.2)) g t el ds e2 with
          | bad => rw [q3] at h; exact h.elim
          | exc x => rw [q3] at h; exact h.elim
          | ok r => rw [q3] at h; exact ⟨e2, r, c, rfl, q3, h⟩
      · rw [if_neg c] at h
        exact h.elim
    obtain ⟨e2, r, hlim, hw, hcl, hout⟩ := h0
    intro F1 H1 J R1 s1 wk Dl hD
    have R2 := R1.newL (vs := []) (l := []) hD .nil
    have R3 := R2.wiped hw
    obtain ⟨B1, hF1, R4, back⟩ := R3.rebase
    have noE : ∀ i ∈ own.map (·.2), nth e2 i = none := fun i hi => by
      cases z : nth e2 i with
      | none => rfl
      | some s => exact absurd hi (wipeE_at hw i s z).2
    have hfin : OutC K B1 (wipe σ (own.map (·.2))) (.ref Dl) [] (fun H' => Q (.ref Dl) H') (compL (own.map (·.2)) g t el ds e2) := by
      rw [hcl]
      intro F' H' R'
      have R5 := (back _ _ _ _ R').unwiped (compL_none noE hcl)
      refine hout F' H' (.ref Dl) R5 ?_
      have := R'.ext.fr
      rw [hF1] at this
      exact s1.trans this
    refine ⟨fun i m H => m = ds.length - i ∧ i ≤ ds.length ∧ ∃ F2 e3 acc, acc.length ≤ i ∧ Rl K B1 F2 H (wipe σ (own.map (·.2)) ++ [some (.ref Dl)]) (e3 ++ [some (.l acc)]) ∧ OutC K B1 (wipe σ (own.map (·.2))) (.ref Dl) acc (fun H' => Q (.ref Dl) H') (compL (own.map (·.2)) g t el (ds.drop i) e3),
      ⟨ds.length, by simp, Nat.zero_le _, F1, e2, [], Nat.le_refl _, R4, hfin⟩, ?_⟩
    rintro i m H2 ⟨rfl, hi, F2, e3, acc, hacc, R5, h5⟩
    have s2 : Same F1 F2 := by
      have := R5.ext.fr
      rw [hF1] at this
      exact this
    obtain ⟨stop, go⟩ := wk F2 H2 s2 R5.sub
    by_cases hlt : i < ds.length
    · obtain ⟨d, hd⟩ : ∃ d, ds[i]? = some d := ⟨_, List.getElem?_eq_getElem hlt⟩
      have ed : ds.drop i = d :: ds.drop (i + 1) := by
        rw [List.drop_eq_getElem_cons hlt]
        rw [List.getElem?_eq_getElem hlt] at hd
        injection hd with hd
        rw [hd]
      obtain ⟨g1, g2⟩ := go i d hd
      refine .inr ⟨g1, fun H' => ∃ F2 e3 acc, acc.length ≤ i + 1 ∧ Rl K B1 F2 H' (wipe σ (own.map (·.2)) ++ [some (.ref Dl)]) (e3 ++ [some (.l acc)]) ∧ OutC K B1 (wipe σ (own.map (·.2))) (.ref Dl) acc (fun H' => Q (.ref Dl) H') (compL (own.map (·.2)) g t el (ds.drop (i + 1)) e3),
        fun H' ⟨F', e', acc', h1, h2, h3⟩ => ⟨ds.length - (i + 1), by omega, rfl, hlt, F', e', acc', h1, h2, h3⟩, fun x H'' hy => ?_⟩
      obtain ⟨F3, x3, rx⟩ := g2 x H'' hy
      rw [ed] at h5
      unfold compL at h5
      cases q : g d e3 with
      | none => rw [q] at h5; exact h5.elim
      | some e4 =>
        rw [q] at h5
        simp only at h5
        obtain ⟨B2, hF2, R6, back2⟩ := (R5.step x3).frame
        refine ⟨B2, F3, e3, d, e4, R6, rx, q, fun σ2 R7 off => ⟨wipe_off off hsub, ?_⟩⟩
        -- the test
        refine ⟨B2, F3, e4, R7, ?_⟩
        cases q2 : t e4 with
        | bad => rw [q2] at h5; exact h5.elim
        | exc y => rw [q2] at h5; exact h5.elim
        | ok pr2 =>
          rw [q2] at h5
          obtain ⟨k, e5⟩ := pr2
          simp only [WW.R.bind_ok, WW.R.noX_ok] at h5
          intro F4 H4 R8 s4
          cases k with
          | true =>
            simp only [if_true] at h5
            refine iteT ⟨B2, F4, e5, R8, ?_⟩
            cases q3 : el e5 with
            | bad => rw [q3] at h5; exact h5.elim
            | exc y => rw [q3] at h5; exact h5.elim
            | ok pr3 =>
              rw [q3] at h5
              obtain ⟨dy, e6⟩ := pr3
              simp only [WW.R.bind_ok, WW.R.noX_ok] at h5
              intro F5 H5 y R9 s5 ry
              cases q4 : wipeE e6 (own.map (·.2)) with
              | none => rw [q4] at h5; exact h5.elim
              | some e7 =>
                rw [q4] at h5
                simp only at h5
                obtain ⟨us, hu, hul, R10⟩ := (back2 _ _ _ _ R9).snoc ry
                have R11 := R10.wiped q4
                rw [wipe_off off hsub] at R11
                refine ⟨us, hu, lim_line' (by rw [hul]; exact Nat.le_trans hacc (Nat.le_trans hi hlim)), F5, e7, acc ++ [dy], ?_, R11, ?_⟩
                · rw [List.length_append, List.length_singleton]
                  omega
                · cases q5 : compL (own.map (·.2)) g t el (ds.drop (i + 1)) e7 with
                  | bad => rw [q5] at h5; exact h5.elim
                  | exc y => rw [q5] at h5; exact h5.elim
                  | ok r2 =>
                    rw [q5] at h5
                    intro F' H' R'
                    refine h5 F' H' ?_
                    rw [List.append_assoc] at R'
                    exact R'
          | false =>
            simp only [Bool.false_eq_true, if_false] at h5
            refine iteF ?_
            cases q4 : wipeE e5 (own.map (·.2)) with
            | none => rw [q4] at h5; exact h5.elim
            | some e7 =>
              rw [q4] at h5
              have R11 := (back2 _ _ _ _ R8).wiped q4
              rw [wipe_off off hsub] at R11
              exact ⟨F4, e7, acc, by omega, R11, h5⟩
    · have e : i = ds.length := by omega
      subst e
      rw [List.drop_length] at h5
      refine .inl ⟨stop _ (Nat.le_refl _), h5 F2 H2 ?_⟩
      rw [List.append_nil]
      exact R5

theorem ox_comp (hc : X.calm = true) (hN : X.N.Nodup) (hi : PI X tg iter (tI X.K W src)) (ok : BlkOk X.N X.env.scope scope own)
    (hg : ∀ (s : Shared) (H : Hp) (C : Addr) (cl : List (Str × Addr)) (fp : List Addr), PG (X.blk s H scope (compEnvC scope cl C X.env) fp) tg (tG X.K is g)) (ht : ∀ (s : Shared) (H : Hp) (C : Addr) (cl : List (Str × Addr)) (fp : List Addr), PTs (X.blk s H scope (compEnvC scope cl C X.env) fp) ifs (tT X.K WF t))
    (he : ∀ (s : Shared) (H : Hp) (C : Addr) (cl : List (Str × Addr)) (fp : List Addr), PE (X.blk s H scope (compEnvC scope cl C X.env) fp) elt (tD X.K WF el)) (hsub : ∀ i ∈ is, i ∈ own.map (·.2) := by decide) (hs : ∀ x, foldedSetIterable iter X.env x = pure x := by intro _; rfl) :
    PE X (.ListComp elt [⟨tg, iter, ifs, 0⟩] scope pos) (tO X.K W (oComp src (own.map (·.2)) g t el)) :=
  peI (pe_lc hc hN hi ok hg ht he hs) fun _ _ _ h => lc_of hsub h
theorem ds_setC {i : Nat} {y : Str} {py spos : Pos} (hc : X.calm = true) (hN : X.N.Nodup) (hy : X.N[i]? = some y) (hyl : X.env.scope.names.lookup y = some .local)
    (hsw : swapsWith (.ListComp elt [⟨tg, iter, ifs, 0⟩] scope pos) (some (.Name y py)) spos.line X.env = pure true) (hi : PI X tg iter (tI X.K W src)) (ok : BlkOk X.N X.env.scope scope own)
    (hg : ∀ (s : Shared) (H : Hp) (C : Addr) (cl : List (Str × Addr)) (fp : List Addr), PG (X.blk s H scope (compEnvC scope cl C X.env) fp) tg (tG X.K is g)) (ht : ∀ (s : Shared) (H : Hp) (C : Addr) (cl : List (Str × Addr)) (fp : List Addr), PTs (X.blk s H scope (compEnvC scope cl C X.env) fp) ifs (tT X.K WF t))
    (he : ∀ (s : Shared) (H : Hp) (C : Addr) (cl : List (Str × Addr)) (fp : List Addr), PE (X.blk s H scope (compEnvC scope cl C X.env) fp) elt (tD X.K WF el)) (hsub : ∀ i ∈ is, i ∈ own.map (·.2) := by decide) (hs : ∀ x, foldedSetIterable iter X.env x = pure x := by intro _; rfl) :
    PS X (.Assign [.Name y py] (.ListComp elt [⟨tg, iter, ifs, 0⟩] scope pos) spos) (tS X.K W (sAsgO i (oComp src (own.map (·.2)) g t el))) := by
  refine psI (ps_setLc hc hN hy hyl hsw hi ok hg ht he hs) ?_
  rintro D' σ H ⟨B, F, e, R, h⟩
  refine lc_of (K := X.K) (W := W) hsub ⟨B, F, e, R, OutO.toS h fun d e1 h1 F1 H1 v R1 s1 => ?_⟩
  obtain ⟨e', q, h2⟩ := setS_ok h1
  exact h2 F1 H1 _ (R1.move q)
theorem dt_nil : PTs X [] (tT X.K W noTest) := by
  refine ⟨fun pins s σ H Q I h => pts_nil.run pins s σ H Q I ?_⟩
  obtain ⟨B, F, e, R, h⟩ := h
  exact h F H R (Same.refl _)
theorem dt_one {c : Expr} {tc : DT} (h : PT X c (tT X.K W tc)) : PTs X [c] (tT X.K W tc) := pts_one h
end
end WW
set_option Elab.async false
set_option linter.all false
set_option maxRecDepth 100000
set_option maxHeartbeats 4000000
/-! The data layer, part 7: the box, a def's body. -/
namespace WW
open PySem PySem.Spec L2

section
variable {X : Cx} {W : WX} {pos p : Pos} {k : Nat} {f : Addr} {fd : FuncData} {ps : List Str} {x y : Str} {ex : Expr} {es : List Expr} {dr : DA} {n : Nat}
/-- f(box, e, ..), the box in slot i -/
theorem dx_callB1 {g : Bx → List D → R (D × Bx)} {py : Pos} (i : Nat) (Fn : FnOk X.prog X.w X.K X.mg X.base (L2.CX X.prog X.w) k f fd ps (spB X.K n g)) (hr : Room k X.A) (tk : Takes X W) (hg : Gl X x) (hm : X.mg x = some (.ref f)) (hk : PySem.W.keepIn X.K (.ref f) = true) (hb : Binds X.K fd ps [])
    (ha : PA X es (tA X.K W dr)) (hl : ∀ e p, dr e = .ok p → p.1.length = n) (hN : X.N[i]? = some y := by rfl) (hv : Vis X.env.scope y := by first | exact Or.inl rfl | exact Or.inr (Or.inl rfl) | exact Or.inr (Or.inr rfl)) (hd : (y == ("__debug__" : Str)) = false := by decide) (hcd : (y == ("__classdict__" : Str)) = false := by decide)
    (hdb : (x == ("__debug__" : Str)) = false := by decide) (he : starEach (.Name y py :: es) X.env = (false, eval (.Name y py) X.env) :: starEach es X.env := by rfl) (hpl : (backTo pos (starEach es X.env)).any (·.1) = false := by rfl) :
    PE X (.Call (.Name x p) (.Name y py :: es) [] pos) (tD X.K W (dCallB g i dr)) := by
  refine peI (pe_callSD (E := WE W) Fn hr hg hm hk hb .nil (fun σ => passAt tk σ) (pa_cons (pe_var (i := i) hN hv hd hcd) ha he) hdb he hpl) ?_
  rintro σ H Q ⟨B, F, e, R, h⟩
  unfold dCallB at h
  cases q : nth e i with
  | none => rw [q] at h; exact h.elim
  | some s =>
    rw [q] at h
    cases s with
    | v d => exact h.elim
    | l xs => exact h.elim
    | obj _ _ _ _ => exact h.elim
    | dc _ _ => exact h.elim
    | dob _ _ _ => exact h.elim
    | tab => exact h.elim
    | exn _ _ _ => exact h.elim
    | box a0 ns0 st0 =>
      obtain ⟨_, _, fp0, S0⟩ := id R
      obtain ⟨v0, hv0, ok0⟩ := S0.ok i _ q
      refine ⟨v0, hv0, B, F, e, R, ?_⟩
      simp only at h
      cases qd : dr e with
      | bad => rw [qd] at h; exact h.elim
      | exc z => rw [qd] at h; exact h
      | ok w0 =>
        obtain ⟨l, e1⟩ := w0
        have hlen := hl e _ qd
        rw [qd] at h
        intro F1 H1 xs R1 s1 rs
        have h1 := h
        simp only [WW.R.bind_ok] at h1
        cases q1 : nth e1 i with
        | none => rw [q1] at h1; exact h1.elim
        | some s =>
          rw [q1] at h1
          cases s with
          | v d => exact h1.elim
          | l xs => exact h1.elim
          | obj _ _ _ _ => exact h1.elim
          | dc _ _ => exact h1.elim
          | dob _ _ _ => exact h1.elim
          | tab => exact h1.elim
          | exn _ _ _ => exact h1.elim
          | box a ns st =>
            simp only at h1
            obtain ⟨_, _, fp, S⟩ := id R1
            obtain ⟨v1, hv1, ok1⟩ := S.ok i _ q1
            rw [hv0] at hv1
            injection hv1 with hv1
            injection hv1 with hv1
            subst hv1
            cases q2 : g (a, ns, st) l with
            | bad => rw [q2] at h1; exact h1.elim
            | exc z => rw [q2] at h1; exact h1.elim
            | ok pr =>
              rw [q2] at h1
              obtain ⟨d, b'⟩ := pr
              simp only [WW.R.noX_ok, WW.R.bind_ok] at h1
              cases q3 : setE e1 i (some (.box b'.1 b'.2.1 b'.2.2)) with
              | none => rw [q3] at h1; exact h1.elim
              | some e2 =>
                rw [q3] at h1
                show spB X.K n g (v0 :: xs ++ []) H1 Q (WE W σ)
                rw [List.append_nil]
                refine ⟨F1, v0, xs, (a, ns, st), l, fp i, rfl, R1.sub, rs, hlen, ok1, fun b z => (S.own i b z).1, d, b', q2, fun F' H' v A' x2 ok2 hA' rv => ?_⟩
                refine h1 F' H' v ?_ (s1.trans x2.fr) rv
                refine R1.change q1 hv0 q3 fun A okA hF => ⟨A', ?_, ok2, fun a z => ?_⟩
                · rw [okA.uniq ok1]
                  exact x2
                · rw [okA.uniq ok1]
                  exact hA' a z
end

/-! ### a def's body -/
def initE (n : Nat) (ds : List D) : En := ds.map (fun d => some (.v d)) ++ List.replicate (n - ds.length) none
def endR : SR → R D
  | .next _ => .ok .non
  | .ret d _ => .ok d
  | .exc x => .exc x
  | _ => .bad
def fnD (n : Nat) (den : DS) : List D → R D := fun ds => endR (den (initE n ds))
def initB (n : Nat) (b : Bx) (ds : List D) : En := some (.box b.1 b.2.1 b.2.2) :: (ds.map (fun d => some (.v d)) ++ List.replicate (n - (ds.length + 1)) none)
def endB (a0 : Addr) : SR → R (D × Bx)
  | .ret d e => (match nth e 0 with
    | some (.box a ns st) => if a = a0 then .ok (d, (a, ns, st)) else .bad
    | _ => .bad)
  | _ => .bad
def fnB (n : Nat) (den : DS) : Bx → List D → R (D × Bx) := fun b ds => endB b.1 (den (initB n b ds))
theorem nth_repl : ∀ (n i : Nat), nth (List.replicate n (none : Option Sl)) i = none
  | 0, _ => rfl
  | n + 1, 0 => rfl
  | n + 1, i + 1 => nth_repl n i
theorem nth_init : ∀ (ds : List D) (n i : Nat) (s : Sl), nth (ds.map (fun d => some (Sl.v d)) ++ List.replicate n none) i = some s → ∃ d, s = .v d ∧ ds[i]? = some d
  | [], n, i, s, h => by
    have h2 : nth (List.replicate n (none : Option Sl)) i = some s := h
    rw [nth_repl] at h2
    cases h2
  | d :: ds, n, 0, s, h => by
    have h2 : some (Sl.v d) = some s := h
    injection h2 with h2
    exact ⟨d, h2.symm, rfl⟩
  | d :: ds, n, i + 1, s, h => by
    obtain ⟨d', h1, h2⟩ := nth_init ds n i s h
    exact ⟨d', h1, by simpa using h2⟩
theorem start_at {N : List Str} {vs : List V} {i : Nat} {v : V} (h : vs[i]? = some v) : (L2.start N vs)[i]? = some (some v) := by
  unfold L2.start
  have hl : i < vs.length := (List.getElem?_eq_some_iff.mp h).1
  rw [List.getElem?_append_left (by rw [List.length_map]; exact hl), List.getElem?_map, h]
  rfl
theorem rl_start {u : V} {K : PySem.W.Frag} {F H : Hp} {N : List Str} {vs : List V} {ds : List D} (s : Same F H) (rs : Reps K F vs ds) : Rl K ⟨F, H, NoA, u⟩ F H (L2.start N vs) (initE N.length ds) := by
  refine ⟨?_, Ext.refl s, fun _ _ => False, fun i t ht => ?_, fun _ _ z => z.elim, fun _ _ _ z => z.elim, fun i t u ht hl hu => ?_⟩
  · unfold initE L2.start
    rw [List.length_append, List.length_append, List.length_map, List.length_map, List.length_replicate, List.length_replicate, rs.len]
  · obtain ⟨d, rfl, hd⟩ := nth_init ds _ i t ht
    obtain ⟨v, h1, h2⟩ := rs.get hd
    exact ⟨v, start_at h1, h2, fun _ z => z⟩
  · obtain ⟨d, rfl, hd⟩ := nth_init ds _ i t ht
    cases hl
theorem rl_startB {K : PySem.W.Frag} {F H : Hp} {N : List Str} {v0 : V} {vs : List V} {b : Bx} {ds : List D} {A : Addr → Prop} (s : Same F H) (rs : Reps K F vs ds) (ok : SlOk K F H v0 (.box b.1 b.2.1 b.2.2) A) (hA : ∀ a, A a → F a = none) : Rl K ⟨F, H, A, v0⟩ F H (L2.start N (v0 :: vs)) (initB N.length b ds) := by
  refine ⟨?_, Ext.refl s, fun i a => i = 0 ∧ A a, fun i t ht => ?_, fun i a ⟨hi, ha⟩ => ⟨hA a ha, .inl ha, ok.there a ha, by rw [hi]; exact fun z => by cases z⟩, fun i j a ⟨h1, _⟩ ⟨h2, _⟩ => by rw [h1, h2], fun i t u ht hl hu => ?_⟩
  · unfold initB L2.start
    simp only [List.length_cons, List.length_append, List.length_map, List.length_replicate, rs.len, List.map_cons]
    omega
  · cases i with
    | zero =>
      have h2 : some (Sl.box b.1 b.2.1 b.2.2) = some t := ht
      injection h2 with h2
      subst h2
      refine ⟨v0, start_at rfl, ?_⟩
      have ea : (fun a => (0 : Nat) = 0 ∧ A a) = A := funext fun a => propext ⟨fun z => z.2, fun z => ⟨rfl, z⟩⟩
      show SlOk K F H v0 (.box b.1 b.2.1 b.2.2) (fun a => (0 : Nat) = 0 ∧ A a)
      rw [ea]
      exact ok
    | succ i =>
      obtain ⟨d, rfl, hd⟩ := nth_init ds _ i t ht
      obtain ⟨v, h1, h2⟩ := rs.get hd
      exact ⟨v, start_at (by simpa using h1), h2, fun a z => by cases z.1⟩
  · cases i with
    | zero =>
      have h2 : some (Sl.box b.1 b.2.1 b.2.2) = some t := ht
      injection h2 with h2
      subst h2
      cases hl
    | succ i =>
      obtain ⟨d, rfl, hd⟩ := nth_init ds _ i t ht
      cases hl
section
variable {P : Program} {w : World} {K : PySem.W.Frag} {mg : Str → Option Value} {base : Heap} {x qual : Str} {st : Stmt} {f : Addr} {fd : FuncData} {N ps : List Str} {k : Nat} {den : DS}
/-- a def of data: its body's den -/
theorem okD (Fn : Fun K x qual st f fd) (S : FnScope N ps (defScope st)) (n : Nat) (hn : ps.length = n) (m : Nat) (hm : N.length = m)
    (body : ∀ (cdv : Value) (A : Around) (outer : List Env) (s : Shared) (H : Hp) (E : XK), Room k (A.deeper (PyProof.Rows.envOfC qual (defScope st) s.heap.objs.size f cdv)) →
      PSs (cxOf (L2.CX P w) P w K mg base N qual (defScope st) f cdv A outer s H E) (defBody st) (tS K (fun c d _ H => E c d H) den)) : FnOk P w K mg base (L2.CX P w) (k + 1) f fd ps (spD K n (fnD m den)) := by
  refine Fn.okX S (fun vs H Q E h => ?_) (fun cdv A outer s H vs Q E hr h => ⟨_, body cdv A outer s H E hr, ?_⟩)
  · obtain ⟨F, ds, _, rs, hl, _⟩ := h
    rw [rs.len, hl, hn]
  · obtain ⟨F, ds, sm, rs, hl, o⟩ := h
    refine ⟨⟨F, H, NoA, .non⟩, F, initE N.length ds, rl_start sm rs, ?_⟩
    have o2 : OutF K F H Q E (endR (den (initE m ds))) := o
    rw [hm]
    cases q : den (initE m ds) with
    | next e => rw [q] at o2; exact fun F' H' σ R => o2 F' H' .non R.ext .non
    | ret d e => rw [q] at o2; exact fun F' H' σ v R rv => o2 F' H' v R.ext rv
    | exc z => rw [q] at o2; exact fun σ F' H' c dd e R ok => o2 F' H' c dd R.ext ok
    | brk e => rw [q] at o2; exact o2.elim
    | cnt e => rw [q] at o2; exact o2.elim
    | bad => rw [q] at o2; exact o2.elim
/-- a def whose first argument is the box -/
theorem okB (Fn : Fun K x qual st f fd) (S : FnScope N ps (defScope st)) (n : Nat) (hn : ps.length = n + 1) (m : Nat) (hm : N.length = m)
    (body : ∀ (cdv : Value) (A : Around) (outer : List Env) (s : Shared) (H : Hp) (E : XK), Room k (A.deeper (PyProof.Rows.envOfC qual (defScope st) s.heap.objs.size f cdv)) →
      PSs (cxOf (L2.CX P w) P w K mg base N qual (defScope st) f cdv A outer s H E) (defBody st) (tS K (fun c d _ H => E c d H) den)) : FnOk P w K mg base (L2.CX P w) (k + 1) f fd ps (spB K n (fnB m den)) := by
  refine Fn.okX S (fun vs H Q E h => ?_) (fun cdv A outer s H vs Q E hr h => ⟨_, body cdv A outer s H E hr, ?_⟩)
  · obtain ⟨F, v0, vs', b, ds, A, rfl, _, rs, hl, _⟩ := h
    rw [List.length_cons, rs.len, hl, hn]
  · obtain ⟨F, v0, vs', b, ds, A0, rfl, sm, rs, hl, ok, hA, d, b', o, fin⟩ := h
    refine ⟨⟨F, H, A0, v0⟩, F, initB N.length b ds, rl_startB sm rs ok hA, ?_⟩
    have o2 : endB b.1 (den (initB m b ds)) = .ok (d, b') := o
    rw [hm]
    cases q : den (initB m b ds) with
    | ret d1 e =>
      rw [q] at o2
      unfold endB at o2
      simp only at o2
      cases z : nth e 0 with
      | none => rw [z] at o2; cases o2
      | some t =>
        rw [z] at o2
        cases t with
        | v d => cases o2
        | l xs => cases o2
        | obj _ _ _ _ => cases o2
        | dc _ _ => cases o2
        | dob _ _ _ => cases o2
        | tab => cases o2
        | exn _ _ _ => cases o2
        | box a ns st =>
          simp only at o2
          by_cases c : a = b.1
          · rw [if_pos c] at o2
            injection o2 with o2
            injection o2 with o2 o3
            subst o2 o3
            intro F' H' σ v R rv
            obtain ⟨_, ex, fp, Sl⟩ := id R
            obtain ⟨u, hu, oku⟩ := Sl.ok 0 _ z
            have e0 : v0 = .ref b.1 := by
              obtain ⟨_, e, _⟩ := ok
              exact e
            have e1 : u = .ref a := by
              obtain ⟨_, e, _⟩ := oku
              exact e
            rw [e1] at oku
            rw [e0] at fin
            subst c
            refine fin F' H' v (fp 0) ex oku (fun y hy => ?_) rv
            obtain ⟨h1, h2, _⟩ := Sl.own 0 y hy
            exact ⟨h1, h2⟩
          · rw [if_neg c] at o2
            cases o2
    | next e => rw [q] at o2; cases o2
    | exc z => rw [q] at o2; cases o2
    | brk e => rw [q] at o2; cases o2
    | cnt e => rw [q] at o2; cases o2
    | bad => rw [q] at o2; cases o2
end
end WW
set_option Elab.async false
set_option linter.all false
set_option maxRecDepth 100000
set_option maxHeartbeats 4000000
/-! The data layer, part 8: own lists in slots, two targets at once, sorted. -/
namespace WW
open PySem PySem.Spec L2

/-! ### own lists -/
theorem Rl.ownL {K : PySem.W.Frag} {B : Bs} {F H : Hp} {σ : St} {e : En} {i : Nat} {xs : List D} (R : Rl K B F H σ e) (hs : nth e i = some (.l xs)) :
    ∃ p vs, σ[i]? = some (some (.ref p)) ∧ H p = some (.lst vs) ∧ Reps K F vs xs ∧ ∀ vs' xs' e', Reps K F vs' xs' → setE e i (some (.l xs')) = some e' → Rl K B F (upd H p (.lst vs')) σ e' := by
  obtain ⟨l, ex, fp, S⟩ := id R
  obtain ⟨v, hv, p, vs, rfl, hA, hp, r⟩ := S.ok i _ hs
  obtain ⟨fn, _⟩ := S.own i p ((hA p).mpr rfl)
  refine ⟨p, vs, hv, hp, r, fun vs' xs' e' r' he => R.change hs hv he fun A okA hF => ?_⟩
  obtain ⟨p2, vs2, e1, hA2, hp2, _⟩ := okA
  injection e1 with e1
  subst e1
  exact ⟨A, Ext.own1 R.sub fn ((hA2 _).mpr rfl) hp .lst, ⟨p, _, rfl, hA2, upd_same, r'⟩, fun a z => ⟨hF a z, .inl z⟩⟩
/-- the list in slot i, own or frozen -/
def lstAt (e : En) (i : Nat) : R (List D) := match nth e i with
  | some (.l xs) => .ok xs
  | some (.v (.lst xs)) => .ok xs
  | _ => .bad
def sAppend (i : Nat) (da : DE) : DS := fun e => match nth e i with
  | some (.l _) => (da e).toS fun p => (match nth p.2 i with
    | some (.l xs) => if xs.length < LIM then setS p.2 i (.l (xs ++ [p.1])) else .bad
    | _ => .bad)
  | _ => .bad
def sExtend (i : Nat) (da : DE) : DS := fun e => match nth e i with
  | some (.l _) => (da e).toS fun p => (match nth p.2 i, p.1 with
    | some (.l xs), .lst ys => if xs.length + ys.length ≤ LIM then setS p.2 i (.l (xs ++ ys)) else .bad
    | _, _ => .bad)
  | _ => .bad
def dPop (i : Nat) : DE := fun e => match nth e i with
  | some (.l xs) => (match xs[xs.length - 1]?, setE e i (some (.l xs.dropLast)) with
    | some d, some e' => .ok (d, e')
    | _, _ => .bad)
  | _ => .bad
def dLenO (i : Nat) : DE := fun e => (lstAt e i).bind fun xs => .ok (.int xs.length, e)
def dIxO (i : Nat) (db : DE) : DE := fun e => (lstAt e i).bind fun _ => (db e).bind fun p => (lstAt p.2 i).bind fun xs => (gIx (.lst xs) p.1).bind fun d => .ok (d, p.2)
def dNilO (ne : Bool) (i : Nat) : DE := fun e => (lstAt e i).bind fun xs => if (D.lst xs).fit = true then .ok (.bl (if ne = true then !xs.isEmpty else xs.isEmpty), e) else .bad
def sSetIx (i : Nat) (dk da : DE) : DS := fun e => (da e).toS fun p => (match nth p.2 i with
    | some (.l _) => (dk p.2).toS fun q => (match nth q.2 i, q.1 with
      | some (.l xs), .int k => (match ixN xs.length k with
        | some j => setS q.2 i (.l (xs.set j p.1))
        | none => .bad)
      | _, _ => .bad)
    | _ => .bad)
section
variable {X : Cx} {W : WX} {pos p py apos cpos : Pos} {x y : Str} {ex b : Expr} {da db dk : DE}
theorem lstAt_ok {K : PySem.W.Frag} {B : Bs} {F H : Hp} {σ : St} {e : En} {i : Nat} {xs : List D} (R : Rl K B F H σ e) (h : lstAt e i = .ok xs) : ∃ q vs, σ[i]? = some (some (.ref q)) ∧ H q = some (.lst vs) ∧ Reps K F vs xs := by
  unfold lstAt at h
  split at h
  · rename_i ys hs
    injection h with h
    subst h
    obtain ⟨q, vs, h1, h2, h3, _⟩ := R.ownL hs
    exact ⟨q, vs, h1, h2, h3⟩
  · rename_i ys hs
    injection h with h
    subst h
    obtain ⟨l, ex, fp, S⟩ := id R
    obtain ⟨v, hv, r, _⟩ := S.ok i _ hs
    obtain ⟨q, vs, rfl, hq, rs⟩ := r.lst_inv
    exact ⟨q, vs, hv, R.sub _ _ hq, rs⟩
  · cases h
theorem ds_append (i : Nat) (ha : PE X ex (tD X.K W da)) (hN : X.N[i]? = some y := by rfl) (hv : Vis X.env.scope y := by first | exact Or.inl rfl | exact Or.inr (Or.inl rfl) | exact Or.inr (Or.inr rfl)) (hd : (y == ("__debug__" : Str)) = false := by decide) (hcd : (y == ("__classdict__" : Str)) = false := by decide)
    (hbase : attributeBase (.Name y py) "append" X.env (eval (.Name y py) X.env) = eval (.Name y py) X.env := by rfl)
    (hfew : ((backTo cpos (starEach [ex] X.env)).all (fun x => !x.1) && (backToKw cpos (keywordEach [] X.env)).all (fun x => x.1.isSome)
      && decide ([ex].length + ([] : List Keyword).length + (if ([] : List Keyword).isEmpty then 0 else 1) < 30)) = true := by rfl)
    (hline : (apos.endLine == cpos.line) = true := by rfl) (hs : starEach [ex] X.env = (false, eval ex X.env) :: starEach [] X.env := by rfl) (hplain : (backTo cpos (starEach [] X.env)).any (·.1) = false := by rfl)
    (hsw : swapsWith (.Call (.Attribute (.Name y py) "append" apos) [ex] [] cpos) none pos.line X.env = pure false := by rfl) :
    PS X (.Expr (.Call (.Attribute (.Name y py) "append" apos) [ex] [] cpos) pos) (tS X.K W (sAppend i da)) := by
  refine psI (ps_expr (pe_bm PySem.F.plainAttrs_list PySem.F.slot_list_append PySem.F.type_list_append mt_append (pe_var (i := i) hN hv hd hcd) (pa_cons ha pa_nil hs) hbase hfew hline hs hplain) hsw) ?_
  rintro D' σ H ⟨B, F, e, R, h⟩
  unfold sAppend at h
  cases q : nth e i with
  | none => rw [q] at h; exact h.elim
  | some s =>
    rw [q] at h
    cases s with
    | v d => exact h.elim
    | box a ns st => exact h.elim
    | obj _ _ _ _ => exact h.elim
    | dc _ _ => exact h.elim
    | dob _ _ _ => exact h.elim
    | tab => exact h.elim
    | exn _ _ _ => exact h.elim
    | l xs0 =>
      obtain ⟨q0, vs0, hq0, hH0, _⟩ := R.ownL q
      refine ⟨.ref q0, hq0, .inl ⟨rfl, _, .inl (.inl hH0)⟩, B, F, e, R, OutD.toS h fun d e1 h1 F1 H1 v R1 s1 rv => ?_⟩
      simp only at h1
      cases q1 : nth e1 i with
      | none => rw [q1] at h1; exact h1.elim
      | some s =>
        rw [q1] at h1
        cases s with
        | v d => exact h1.elim
        | box a ns st => exact h1.elim
        | obj _ _ _ _ => exact h1.elim
        | dc _ _ => exact h1.elim
        | dob _ _ _ => exact h1.elim
        | tab => exact h1.elim
        | exn _ _ _ => exact h1.elim
        | l xs =>
          simp only at h1
          obtain ⟨q2, vs, hq2, hH2, rs, up⟩ := R1.ownL q1
          rw [hq0] at hq2
          injection hq2 with hq2
          injection hq2 with hq2
          injection hq2 with hq2
          subst hq2
          by_cases c : xs.length < LIM
          · rw [if_pos c] at h1
            obtain ⟨e', q3, h2⟩ := setS_ok h1
            exact ⟨q0, vs, v, rfl, rfl, hH2, by rw [rs.len]; exact lim_line' (Nat.le_of_lt c), h2 _ _ _ (up _ _ _ (rs.app (.cons rv .nil)) q3)⟩
          · rw [if_neg c] at h1
            exact h1.elim
theorem ds_extend (i : Nat) (ha : PE X ex (tD X.K W da)) (hN : X.N[i]? = some y := by rfl) (hv : Vis X.env.scope y := by first | exact Or.inl rfl | exact Or.inr (Or.inl rfl) | exact Or.inr (Or.inr rfl)) (hd : (y == ("__debug__" : Str)) = false := by decide) (hcd : (y == ("__classdict__" : Str)) = false := by decide)
    (hbase : attributeBase (.Name y py) "extend" X.env (eval (.Name y py) X.env) = eval (.Name y py) X.env := by rfl)
    (hfew : ((backTo cpos (starEach [ex] X.env)).all (fun x => !x.1) && (backToKw cpos (keywordEach [] X.env)).all (fun x => x.1.isSome)
      && decide ([ex].length + ([] : List Keyword).length + (if ([] : List Keyword).isEmpty then 0 else 1) < 30)) = true := by rfl)
    (hline : (apos.endLine == cpos.line) = true := by rfl) (hs : starEach [ex] X.env = (false, eval ex X.env) :: starEach [] X.env := by rfl) (hplain : (backTo cpos (starEach [] X.env)).any (·.1) = false := by rfl)
    (hsw : swapsWith (.Call (.Attribute (.Name y py) "extend" apos) [ex] [] cpos) none pos.line X.env = pure false := by rfl) :
    PS X (.Expr (.Call (.Attribute (.Name y py) "extend" apos) [ex] [] cpos) pos) (tS X.K W (sExtend i da)) := by
  refine psI (ps_expr (pe_bm PySem.F.plainAttrs_list PySem.F.slot_list_extend PySem.F.type_list_extend mt_extend (pe_var (i := i) hN hv hd hcd) (pa_cons ha pa_nil hs) hbase hfew hline hs hplain) hsw) ?_
  rintro D' σ H ⟨B, F, e, R, h⟩
  unfold sExtend at h
  cases q : nth e i with
  | none => rw [q] at h; exact h.elim
  | some s =>
    rw [q] at h
    cases s with
    | v d => exact h.elim
    | box a ns st => exact h.elim
    | obj _ _ _ _ => exact h.elim
    | dc _ _ => exact h.elim
    | dob _ _ _ => exact h.elim
    | tab => exact h.elim
    | exn _ _ _ => exact h.elim
    | l xs0 =>
      obtain ⟨q0, vs0, hq0, hH0, _⟩ := R.ownL q
      refine ⟨.ref q0, hq0, .inl ⟨rfl, _, .inl (.inl hH0)⟩, B, F, e, R, OutD.toS h fun d e1 h1 F1 H1 v R1 s1 rv => ?_⟩
      simp only at h1
      cases q1 : nth e1 i with
      | none => rw [q1] at h1; exact h1.elim
      | some s =>
        rw [q1] at h1
        cases s with
        | v d => cases d <;> exact h1.elim
        | box a ns st => cases d <;> exact h1.elim
        | obj _ _ _ _ => cases d <;> exact h1.elim
        | dc _ _ => cases d <;> exact h1.elim
        | dob _ _ _ => cases d <;> exact h1.elim
        | tab => cases d <;> exact h1.elim
        | exn _ _ _ => cases d <;> exact h1.elim
        | l xs =>
          cases d with
          | lst ys =>
            simp only at h1
            obtain ⟨q2, vs, hq2, hH2, rs, up⟩ := R1.ownL q1
            rw [hq0] at hq2
            injection hq2 with hq2
            injection hq2 with hq2
            injection hq2 with hq2
            subst hq2
            obtain ⟨qb, us, rfl, hqb, ru⟩ := rv.lst_inv
            by_cases c : xs.length + ys.length ≤ LIM
            · rw [if_pos c] at h1
              obtain ⟨e', q3, h2⟩ := setS_ok h1
              exact ⟨q0, qb, vs, us, rfl, rfl, hH2, R1.sub _ _ hqb, by rw [rs.len, ru.len]; exact lim_line c, h2 _ _ _ (up _ _ _ (rs.app ru) q3)⟩
            · rw [if_neg c] at h1
              exact h1.elim
          | _ => exact h1.elim
theorem Reps.last {K : PySem.W.Frag} {F : Hp} {vs : List V} {l : List D} (r : Reps K F vs l) : Reps K F vs.dropLast l.dropLast := by
  rw [List.dropLast_eq_take, List.dropLast_eq_take, r.len]
  exact r.take _
theorem dx_pop (i : Nat) (hN : X.N[i]? = some y := by rfl) (hv : Vis X.env.scope y := by first | exact Or.inl rfl | exact Or.inr (Or.inl rfl) | exact Or.inr (Or.inr rfl)) (hd : (y == ("__debug__" : Str)) = false := by decide) (hcd : (y == ("__classdict__" : Str)) = false := by decide)
    (hbase : attributeBase (.Name y py) "pop" X.env (eval (.Name y py) X.env) = eval (.Name y py) X.env := by rfl) (hline : (apos.endLine == cpos.line) = true := by rfl) :
    PE X (.Call (.Attribute (.Name y py) "pop" apos) [] [] cpos) (tD X.K W (dPop i)) := by
  refine peI (pe_bm0 PySem.F.plainAttrs_list PySem.F.slot_list_pop PySem.F.type_list_pop mt_pop (pe_var (i := i) hN hv hd hcd) hbase hline) ?_
  rintro σ H Q ⟨B, F, e, R, h⟩
  unfold dPop at h
  cases q : nth e i with
  | none => rw [q] at h; exact h.elim
  | some s =>
    rw [q] at h
    cases s with
    | v d => exact h.elim
    | box a ns st => exact h.elim
    | obj _ _ _ _ => exact h.elim
    | dc _ _ => exact h.elim
    | dob _ _ _ => exact h.elim
    | tab => exact h.elim
    | exn _ _ _ => exact h.elim
    | l xs =>
      obtain ⟨q0, vs, hq0, hH0, rs, up⟩ := R.ownL q
      simp only at h
      cases q1 : xs[xs.length - 1]? with
      | none => rw [q1] at h; exact h.elim
      | some d =>
        cases q2 : setE e i (some (.l xs.dropLast)) with
        | none => rw [q1, q2] at h; exact h.elim
        | some e' =>
          rw [q1, q2] at h
          obtain ⟨v, k1, k2⟩ := rs.get q1
          exact ⟨.ref q0, hq0, .inl ⟨rfl, _, .inl (.inl hH0)⟩, q0, vs, v, rfl, rfl, hH0, by rw [rs.len]; exact k1, h F _ v (up _ _ _ rs.last q2) (Same.refl _) k2⟩
theorem dx_lenO (i : Nat) (hg : Gl X "len") (hm : X.mg "len" = none) (hN : X.N[i]? = some y := by rfl) (hv : Vis X.env.scope y := by first | exact Or.inl rfl | exact Or.inr (Or.inl rfl) | exact Or.inr (Or.inr rfl)) (hd : (y == ("__debug__" : Str)) = false := by decide) (hcd : (y == ("__classdict__" : Str)) = false := by decide)
    (he : starEach [.Name y py] X.env = (false, eval (.Name y py) X.env) :: starEach [] X.env := by rfl) (hpl : (backTo pos (starEach [] X.env)).any (·.1) = false := by rfl) : PE X (.Call (.Name "len" p) [.Name y py] [] pos) (tD X.K W (dLenO i)) := by
  refine peI (pe_callB call_len_seq hg hm PySem.boot_len (pa_cons (pe_var (i := i) hN hv hd hcd) pa_nil he) (by decide) (by decide) he hpl) ?_
  rintro σ H Q ⟨B, F, e, R, h⟩
  unfold dLenO at h
  cases q : lstAt e i with
  | bad => rw [q] at h; exact h.elim
  | exc x => unfold lstAt at q; split at q <;> cases q
  | ok xs =>
    rw [q] at h
    obtain ⟨q0, vs, hq0, hH0, rs⟩ := lstAt_ok R q
    exact ⟨.ref q0, hq0, q0, vs, rfl, .inl (.inl (.inl hH0)), by rw [rs.len]; exact h F H _ R (Same.refl _) (.int _)⟩
theorem dx_ixO (i : Nat) (hb : PE X b (tD X.K W db)) (hs : PlainIx b) (hN : X.N[i]? = some y := by rfl) (hv : Vis X.env.scope y := by first | exact Or.inl rfl | exact Or.inr (Or.inl rfl) | exact Or.inr (Or.inr rfl)) (hd : (y == ("__debug__" : Str)) = false := by decide) (hcd : (y == ("__classdict__" : Str)) = false := by decide) :
    PE X (.Subscript (.Name y py) b pos) (tD X.K W (dIxO i db)) := by
  refine peI (pe_ix ix_list (pe_var (i := i) hN hv hd hcd) hb hs) ?_
  rintro σ H Q ⟨B, F, e, R, h⟩
  unfold dIxO at h
  cases q : lstAt e i with
  | bad => rw [q] at h; exact h.elim
  | exc x => unfold lstAt at q; split at q <;> cases q
  | ok xs0 =>
    rw [q] at h
    obtain ⟨q0, vs0, hq0, hH0, rs0⟩ := lstAt_ok R q
    refine ⟨.ref q0, hq0, B, F, e, R, OutD.bind (P := OutD X.K W B F σ Q) dBad dExc h fun d e1 h1 F1 H1 v R1 s1 rv => ?_⟩
    simp only at h1
    cases q1 : lstAt e1 i with
    | bad => rw [q1] at h1; exact h1.elim
    | exc x => unfold lstAt at q1; split at q1 <;> cases q1
    | ok xs =>
      rw [q1] at h1
      obtain ⟨q2, vs, hq2, hH2, rs⟩ := lstAt_ok R1 q1
      rw [hq0] at hq2
      injection hq2 with hq2
      injection hq2 with hq2
      injection hq2 with hq2
      subst hq2
      simp only [WW.R.bind_ok] at h1
      have h2 := OutD.val R1 (OutD.pre s1 h1) (nx_ix _ _)
      cases d with
      | int k =>
        unfold gIx at h2
        simp only at h2
        cases z : atI xs k with
        | none => rw [z] at h2; exact h2.elim
        | some dd =>
          rw [z] at h2
          obtain ⟨w', k1, k2⟩ := atI_reps rs z
          exact ⟨q0, vs, k, w', rfl, rv.int_inv, .inl (.inl hH2), k1, h2.same R1.sub k2⟩
      | _ => exact h2.elim
theorem eqv_nil (l : List D) : PyData.eqv (.list (pyAll l)) (.list []) = l.isEmpty := by
  cases l with
  | nil => rfl
  | cons a r => rfl
theorem dx_nilO {es : List Expr} {ppos : Pos} (i : Nat) (ne : Bool) (hu : X.A.units + 64 < cLine) (hN : X.N[i]? = some y := by rfl) (hv : Vis X.env.scope y := by first | exact Or.inl rfl | exact Or.inr (Or.inl rfl) | exact Or.inr (Or.inr rfl)) (hd : (y == ("__debug__" : Str)) = false := by decide) (hcd : (y == ("__classdict__" : Str)) = false := by decide) :
    PE X (.Compare (.Name y py) [if ne = true then .NotEq else .Eq] [.List [] ppos] pos) (tD X.K W (dNilO ne i)) ∧ PT X (.Compare (.Name y py) [if ne = true then .NotEq else .Eq] [.List [] ppos] pos) (tT X.K W (dTest (dNilO ne i))) := by
  have core : ∀ (σ : St) (H : Hp) (Q : VK), tD X.K W (dNilO ne i) σ H Q → tOp (if ne = true then rNeD X.K else rEqD X.K) (tVar i) (tLst tNil) σ H Q := by
    rintro σ H Q ⟨B, F, e, R, h⟩
    unfold dNilO at h
    cases q : lstAt e i with
    | bad => rw [q] at h; exact h.elim
    | exc x => unfold lstAt at q; split at q <;> cases q
    | ok xs =>
      rw [q] at h
      obtain ⟨q0, vs, hq0, hH0, rs⟩ := lstAt_ok R q
      simp only [WW.R.bind_ok] at h
      by_cases c : (D.lst xs).fit = true
      · rw [if_pos c] at h
        refine ⟨.ref q0, hq0, Nat.zero_le _, fun p2 hp2 => ?_⟩
        have x1 := ext_raw (K := X.K) (o := .lst []) R.sub hp2
        have hpl : plainAll xs = true := by
          have := D.fit_plain c
          simpa [D.plain] using this
        have hD : Dp X.K (upd H p2 (.lst [])) (.ref q0) (.list (pyAll xs)) := .lst (.inl (.inl (by rw [upd_ne (ne_of_none hH0 hp2)]; exact hH0))) (Reps.dp x1.sub xs vs hpl rs)
        have hE : Dp X.K (upd H p2 (.lst [])) (.ref p2) (.list []) := .lst (.inl (.inl upd_same)) .nil
        have fin := h F (upd H p2 (.lst [])) (.bl (if ne = true then !xs.isEmpty else xs.isEmpty)) (R.step x1) (Same.refl _) (.bl _)
        have sh : SeqAt.shaped (PyData.list (pyAll xs)) = true := D.fit_shaped c
        cases ne with
        | true => exact ⟨_, _, hD, hE, sh, by decide, by rw [eqv_nil]; exact fin⟩
        | false => exact ⟨_, _, hD, hE, sh, by decide, by rw [eqv_nil]; exact fin⟩
      · rw [if_neg c] at h
        exact h.elim
  cases ne with
  | true => exact ⟨peI (pe_cmpR (op_neD hu) (pe_var (i := i) hN hv hd hcd) (pe_lst pa_nil) (nomark _)) core, ptI (pt_cmpR (op_neD hu) (pe_var (i := i) hN hv hd hcd) (pe_lst pa_nil) (nomark _)) fun σ H Q h => core _ _ _ (tD_test h)⟩
  | false => exact ⟨peI (pe_cmpR (op_eqD hu) (pe_var (i := i) hN hv hd hcd) (pe_lst pa_nil) (nomark _)) core, ptI (pt_cmpR (op_eqD hu) (pe_var (i := i) hN hv hd hcd) (pe_lst pa_nil) (nomark _)) fun σ H Q h => core _ _ _ (tD_test h)⟩
theorem dt_nilN {ppos : Pos} (i : Nat) (hu : X.A.units + 64 < cLine) (hN : X.N[i]? = some y := by rfl) (hv : Vis X.env.scope y := by first | exact Or.inl rfl | exact Or.inr (Or.inl rfl) | exact Or.inr (Or.inr rfl)) (hd : (y == ("__debug__" : Str)) = false := by decide) (hcd : (y == ("__classdict__" : Str)) = false := by decide) :
    PT X (.Compare (.Name y py) [.NotEq] [.List [] ppos] pos) (tT X.K W (dTest (dNilO true i))) := (dx_nilO (es := []) i true hu hN hv hd hcd).2
theorem dt_nilE {ppos : Pos} (i : Nat) (hu : X.A.units + 64 < cLine) (hN : X.N[i]? = some y := by rfl) (hv : Vis X.env.scope y := by first | exact Or.inl rfl | exact Or.inr (Or.inl rfl) | exact Or.inr (Or.inr rfl)) (hd : (y == ("__debug__" : Str)) = false := by decide) (hcd : (y == ("__classdict__" : Str)) = false := by decide) :
    PT X (.Compare (.Name y py) [.Eq] [.List [] ppos] pos) (tT X.K W (dTest (dNilO false i))) := (dx_nilO (es := []) i false hu hN hv hd hcd).2
theorem dx_nilN {ppos : Pos} (i : Nat) (hu : X.A.units + 64 < cLine) (hN : X.N[i]? = some y := by rfl) (hv : Vis X.env.scope y := by first | exact Or.inl rfl | exact Or.inr (Or.inl rfl) | exact Or.inr (Or.inr rfl)) (hd : (y == ("__debug__" : Str)) = false := by decide) (hcd : (y == ("__classdict__" : Str)) = false := by decide) :
    PE X (.Compare (.Name y py) [.NotEq] [.List [] ppos] pos) (tD X.K W (dNilO true i)) := (dx_nilO (es := []) i true hu hN hv hd hcd).1
theorem dx_nilE {ppos : Pos} (i : Nat) (hu : X.A.units + 64 < cLine) (hN : X.N[i]? = some y := by rfl) (hv : Vis X.env.scope y := by first | exact Or.inl rfl | exact Or.inr (Or.inl rfl) | exact Or.inr (Or.inr rfl)) (hd : (y == ("__debug__" : Str)) = false := by decide) (hcd : (y == ("__classdict__" : Str)) = false := by decide) :
    PE X (.Compare (.Name y py) [.Eq] [.List [] ppos] pos) (tD X.K W (dNilO false i)) := (dx_nilO (es := []) i false hu hN hv hd hcd).1
/-- x[k] = e -/
theorem ds_setIx {k : Expr} (i : Nat) (hk : PE X k (tD X.K W dk)) (ha : PE X ex (tD X.K W da)) (hN : X.N[i]? = some y := by rfl) (hv : Vis X.env.scope y := by first | exact Or.inl rfl | exact Or.inr (Or.inl rfl) | exact Or.inr (Or.inr rfl)) (hd : (y == ("__debug__" : Str)) = false := by decide) (hcd : (y == ("__classdict__" : Str)) = false := by decide)
    (has : ∀ v, assign (.Subscript (.Name y py) k apos) X.env v = (do
      let ov ← holding [v] (eval (.Name y py) X.env)
      let iv ← holding [v, ov] (eval k X.env)
      standAt apos
      holding [v, ov, iv] (setItem ov iv v)
      release [v, ov, iv] []) := by intro _; rfl) (hs : swapsWithSole [.Subscript (.Name y py) k apos] ex pos.line X.env = pure false := by rfl) (hw : swappedStores [.Subscript (.Name y py) k apos] ex X.env = pure none := by rfl)
    (h1 : (assignEach [.Subscript (.Name y py) k apos] X.env).map (·.2) = [assign (.Subscript (.Name y py) k apos) X.env] := by rfl) : PS X (.Assign [.Subscript (.Name y py) k apos] ex pos) (tS X.K W (sSetIx i dk da)) := by
  refine psI (ps_asg ha (pg_sub (pe_var (i := i) hN hv hd hcd) hk set_list has) hs hw h1) ?_
  rintro D' σ H ⟨B, F, e, R, h⟩
  refine ⟨B, F, e, R, OutD.toS h fun d e1 h1 F1 H1 v R1 s1 rv => ?_⟩
  simp only at h1
  cases q : nth e1 i with
  | none => rw [q] at h1; exact h1.elim
  | some s =>
    rw [q] at h1
    cases s with
    | v d => exact h1.elim
    | box a ns st => exact h1.elim
    | obj _ _ _ _ => exact h1.elim
    | dc _ _ => exact h1.elim
    | dob _ _ _ => exact h1.elim
    | tab => exact h1.elim
    | exn _ _ _ => exact h1.elim
    | l xs0 =>
      obtain ⟨q0, vs0, hq0, hH0, _⟩ := R1.ownL q
      refine ⟨.ref q0, hq0, B, F1, e1, R1, OutD.toS h1 fun dk2 e2 h2 F2 H2 kv R2 s2 rk => ?_⟩
      simp only at h2
      cases q1 : nth e2 i with
      | none => rw [q1] at h2; exact h2.elim
      | some s =>
        rw [q1] at h2
        cases s with
        | v d => cases dk2 <;> exact h2.elim
        | box a ns st => cases dk2 <;> exact h2.elim
        | obj _ _ _ _ => cases dk2 <;> exact h2.elim
        | dc _ _ => cases dk2 <;> exact h2.elim
        | dob _ _ _ => cases dk2 <;> exact h2.elim
        | tab => cases dk2 <;> exact h2.elim
        | exn _ _ _ => cases dk2 <;> exact h2.elim
        | l xs =>
          cases dk2 with
          | int kk =>
            simp only at h2
            obtain ⟨q2, vs, hq2, hH2, rs, up⟩ := R2.ownL q1
            rw [hq0] at hq2
            injection hq2 with hq2
            injection hq2 with hq2
            injection hq2 with hq2
            subst hq2
            cases z : ixN xs.length kk with
            | none => rw [z] at h2; exact h2.elim
            | some j =>
              rw [z] at h2
              obtain ⟨e', q3, h3⟩ := setS_ok h2
              exact ⟨q0, vs, kk, j, rfl, rk.int_inv, hH2, by rw [rs.len]; exact z, h3 _ _ _ (up _ _ _ (rs.set j (rv.mono s2)) q3)⟩
          | _ => exact h2.elim
end

/-! ### a, b = x, y -/
def sPar (i j : Nat) (da db : DE) : DS := fun e => (da e).toS fun p => (db p.2).toS fun q => (match setE q.2 i (some (.v p.1)) with
  | some e1 => setS e1 j (.v q.1)
  | none => .bad)
def sParO (i j : Nat) (oa : OE) (db : DE) : DS := fun e => (oa e).toS fun p => (db p.2).toS fun q => (match setE q.2 i (some p.1) with
  | some e1 => setS e1 j (.v q.1)
  | none => .bad)
section
variable {X : Cx} {W : WX} {pos px py pt pt2 : Pos} {x y : Str} {a b : Expr} {da db : DE} {oa : OE} {kt k2 : _}
theorem ds_par (i j : Nat) (hc : X.calm = true) (hN : X.N.Nodup) (hi : X.N[i]? = some x) (hj : X.N[j]? = some y) (hij : i ≠ j) (hx : X.env.scope.names.lookup x = some .local) (hy : X.env.scope.names.lookup y = some .local) (ha : PE X a (tD X.K W da)) (hb : PE X b (tD X.K W db))
    (hw : swappedStores [.Tuple [.Name x px, .Name y py] kt pt] (.Tuple [a, b] k2 pt2) X.env = pure (some [x, y]))
    (hs : swapsWithSole [.Tuple [.Name x px, .Name y py] kt pt] (.Tuple [a, b] k2 pt2) pos.line X.env = pure false := by rfl) (he : starEach [a, b] X.env = (false, eval a X.env) :: starEach [b] X.env := by rfl) (he2 : starEach [b] X.env = (false, eval b X.env) :: starEach [] X.env := by rfl) :
    PS X (.Assign [.Tuple [.Name x px, .Name y py] kt pt] (.Tuple [a, b] k2 pt2) pos) (tS X.K W (sPar i j da db)) := by
  refine psI (ps_par hc hN hi hj hij hx hy (pa_cons ha (pa_cons hb pa_nil he2) he) hw hs) ?_
  rintro D' σ H ⟨B, F, e, R, h⟩
  refine ⟨B, F, e, R, OutD.toS h fun d e1 h1 F1 H1 v R1 s1 rv => ?_⟩
  refine ⟨B, F1, e1, R1, OutD.toS h1 fun d2 e2 h2 F2 H2 w' R2 s2 rw' => ?_⟩
  simp only at h2
  cases q : setE e2 i (some (.v d)) with
  | none => rw [q] at h2; exact h2.elim
  | some e3 =>
    rw [q] at h2
    obtain ⟨e', q3, h3⟩ := setS_ok h2
    exact ⟨v, w', rfl, h3 _ _ _ ((R2.setV (rv.mono s2) q).setV rw' q3)⟩
theorem ds_parO (i j : Nat) (hc : X.calm = true) (hN : X.N.Nodup) (hi : X.N[i]? = some x) (hj : X.N[j]? = some y) (hij : i ≠ j) (hx : X.env.scope.names.lookup x = some .local) (hy : X.env.scope.names.lookup y = some .local) (ha : PE X a (tO X.K W oa)) (hb : PE X b (tD X.K W db))
    (hw : swappedStores [.Tuple [.Name x px, .Name y py] kt pt] (.Tuple [a, b] k2 pt2) X.env = pure (some [x, y]))
    (hs : swapsWithSole [.Tuple [.Name x px, .Name y py] kt pt] (.Tuple [a, b] k2 pt2) pos.line X.env = pure false := by rfl) (he : starEach [a, b] X.env = (false, eval a X.env) :: starEach [b] X.env := by rfl) (he2 : starEach [b] X.env = (false, eval b X.env) :: starEach [] X.env := by rfl) :
    PS X (.Assign [.Tuple [.Name x px, .Name y py] kt pt] (.Tuple [a, b] k2 pt2) pos) (tS X.K W (sParO i j oa db)) := by
  refine psI (ps_par hc hN hi hj hij hx hy (pa_cons ha (pa_cons hb pa_nil he2) he) hw hs) ?_
  rintro D' σ H ⟨B, F, e, R, h⟩
  refine ⟨B, F, e, R, OutO.toS h fun d e1 h1 F1 H1 v R1 s1 => ?_⟩
  obtain ⟨B1, hF1, R2, back⟩ := R1.frame
  have h1' : OutS X.K W B D' ((db e1).toS fun q => (match setE q.2 i (some d) with
    | some e1 => setS e1 j (.v q.1)
    | none => .bad)) := h1
  refine ⟨B1, F1, e1, R2, ?_⟩
  cases qd : db e1 with
  | bad => rw [qd] at h1'; exact h1'.elim
  | exc z =>
    rw [qd] at h1'
    exact fun F' H' c dd e' R' ok => h1' σ F' H' c dd e' (back _ _ _ _ R').less ok
  | ok pr =>
    rw [qd] at h1'
    obtain ⟨d2, e2⟩ := pr
    intro F2 H2 w' R3 s2 rw'
    have h2 := h1'
    simp only [WW.R.toS_ok] at h2
    cases q : setE e2 i (some d) with
    | none => rw [q] at h2; exact h2.elim
    | some e3 =>
      rw [q] at h2
      obtain ⟨e', q3, h3⟩ := setS_ok h2
      exact ⟨v, w', rfl, h3 _ _ _ (((back _ _ _ _ R3).move q).setV rw' q3)⟩
end

/-! ### sorted of a list of texts (fewer than 64) -/
def leS (a b : Str) : Bool := decide (¬ b.cps.toList < a.cps.toList)
def insS (a : Str) : List Str → List Str
  | [] => [a]
  | b :: l => if leS a b = true then a :: b :: l else b :: insS a l
def sortS : List Str → List Str
  | [] => []
  | a :: l => insS a (sortS l)
theorem leS_total (a b : Str) : leS a b = true ∨ leS b a = true := by
  unfold leS
  rcases List.le_total a.cps.toList b.cps.toList with h | h
  · exact .inl (decide_eq_true h)
  · exact .inr (decide_eq_true h)
theorem leS_trans {a b c : Str} (h1 : leS a b = true) (h2 : leS b c = true) : leS a c = true := by
  unfold leS at *
  exact decide_eq_true (List.le_trans (of_decide_eq_true h1) (of_decide_eq_true h2))
theorem leS_anti {a b : Str} (h1 : leS a b = true) (h2 : leS b a = true) : a = b := by
  unfold leS at *
  have h := List.le_antisymm (of_decide_eq_true h1) (of_decide_eq_true h2)
  obtain ⟨⟨x⟩⟩ := a
  obtain ⟨⟨y⟩⟩ := b
  have h' : x = y := h
  rw [h']
theorem insS_perm (a : Str) : ∀ l, (insS a l).Perm (a :: l)
  | [] => List.Perm.refl _
  | b :: l => by
    unfold insS
    by_cases c : leS a b = true
    · rw [if_pos c]
    · rw [if_neg c]
      exact ((insS_perm a l).cons b).trans (List.Perm.swap a b l)
theorem sortS_perm : ∀ l, (sortS l).Perm l
  | [] => List.Perm.refl _
  | a :: l => (insS_perm a (sortS l)).trans ((sortS_perm l).cons a)
def SrtS (l : List Str) : Prop := l.Pairwise fun a b => leS a b = true
theorem insS_srt (a : Str) : ∀ l, SrtS l → SrtS (insS a l)
  | [], _ => List.pairwise_singleton _ _
  | b :: l, h => by
    unfold insS
    have h2 := List.pairwise_cons.mp h
    by_cases c : leS a b = true
    · rw [if_pos c]
      exact List.pairwise_cons.mpr ⟨fun x hx => (List.mem_cons.mp hx).elim (fun z => by rw [z]; exact c) fun z => leS_trans c (h2.1 x z), h⟩
    · rw [if_neg c]
      refine List.pairwise_cons.mpr ⟨fun x hx => ?_, insS_srt a l h2.2⟩
      rcases List.mem_cons.mp ((insS_perm a l).mem_iff.mp hx) with z | z
      · rw [z]
        exact (leS_total a b).resolve_left c
      · exact h2.1 x z
theorem sortS_srt : ∀ l, SrtS (sortS l)
  | [] => .nil
  | a :: l => insS_srt a _ (sortS_srt l)
theorem srt_same : ∀ {l m : List Str}, l.Perm m → SrtS l → SrtS m → l = m
  | [], m, p, _, _ => p.nil_eq
  | a :: l, m, p, h, h' => by
    cases m with
    | nil => exact absurd p.symm.nil_eq (by simp)
    | cons b m =>
      have h2 := List.pairwise_cons.mp h
      have h3 := List.pairwise_cons.mp h'
      have ab : leS a b = true := by
        rcases List.mem_cons.mp (p.symm.mem_iff.mp (List.mem_cons_self : b ∈ b :: m)) with z | z
        · rw [z]; exact (leS_total a a).elim id id
        · exact h2.1 b z
      have ba : leS b a = true := by
        rcases List.mem_cons.mp (p.mem_iff.mp (List.mem_cons_self : a ∈ a :: l)) with z | z
        · rw [z]; exact (leS_total b b).elim id id
        · exact h3.1 a z
      have e := leS_anti ab ba
      subst e
      rw [srt_same (List.Perm.cons_inv p) h2.2 h3.2]
theorem rising_srt : ∀ (p : Str) (l : List Str), PyProof.Rows.risingS p l = true → SrtS l → True := fun _ _ _ _ => trivial
theorem srt_of_sortedS : ∀ (l : List Str), PyProof.Rows.sortedS l = true → SrtS l
  | [], _ => .nil
  | a :: l, h => by
    have key : ∀ (l : List Str) (a : Str), PyProof.Rows.risingS a l = true → SrtS (a :: l) := by
      intro l
      induction l with
      | nil => intro a _; exact List.pairwise_singleton _ _
      | cons b l ih =>
        intro a h
        have h2 : (!PySem.Spec.ltCps b.cps.toList a.cps.toList && PyProof.Rows.risingS b l) = true := h
        obtain ⟨h3, h4⟩ := Bool.and_eq_true_iff.mp h2
        have ab : leS a b = true := by
          unfold leS
          rw [PyProof.Rows.ltCps_eq] at h3
          simpa using h3
        have ih2 := ih b h4
        have q := List.pairwise_cons.mp ih2
        exact List.pairwise_cons.mpr ⟨fun x hx => (List.mem_cons.mp hx).elim (fun z => by rw [z]; exact ab) fun z => leS_trans ab (q.1 x z), ih2⟩
    exact key l a h
def gSorted : List D → R D
  | [.lst l] => (match asStrs l with
    | some xs => if xs.length < 64 then .ok (.lst ((sortS xs).map D.str)) else .bad
    | none => .bad)
  | _ => .bad
theorem nx_sorted : NoXn gSorted := by
  intro a x h
  unfold gSorted at h
  split at h
  · split at h
    · split at h <;> cases h
    · cases h
  · cases h
theorem vr_sorted {K : PySem.W.Frag} : VRn K (rSortedS K) gSorted := by
  intro F H xs ds Q s rs h
  unfold gSorted at h
  split at h
  · rename_i l
    obtain ⟨v, rfl, rv⟩ := reps1 rs
    obtain ⟨q, vs, rfl, hq, rs⟩ := rv.lst_inv
    cases e : asStrs l with
    | none => rw [e] at h; exact h.elim
    | some ys =>
      rw [e] at h
      have el := asStrs_eq e
      subst el
      simp only at h
      by_cases c : ys.length < 64
      · rw [if_pos c] at h
        refine ⟨q, ys, rfl, .inl (.inl (by rw [← rs.strs]; exact s _ _ hq)), c, fun zs p hp hs hn => ?_⟩
        have ez : zs = sortS ys := srt_same (hp.trans (sortS_perm ys).symm) (srt_of_sortedS zs hs) (sortS_srt ys)
        rw [ez]
        exact h.newL s (Reps.ofStrs _) p hn
      · rw [if_neg c] at h
        exact h.elim
  · exact h.elim
end WW
set_option Elab.async false
set_option linter.all false
set_option maxRecDepth 100000
set_option maxHeartbeats 4000000
/-! The data layer, part 9: defs by name, short words for the printed derivations. -/
namespace WW
open PySem PySem.Spec L2

def gNeg : D → R D
  | .int i => .ok (.int (-i))
  | _ => .bad
section
variable {X : Cx} {W : WX} {pos p : Pos} {a : Expr} {da : DE}
theorem dx_neg (ha : PE X a (tD X.K W da)) : PE X (.UnaryOp .USub a pos) (tD X.K W (dUn gNeg da)) := by
  refine peI (pe_un un_neg ha) ?_
  rintro σ H Q ⟨B, F, e, R, h⟩
  refine ⟨B, F, e, R, OutD.bind (P := OutD X.K W B F σ Q) dBad dExc h fun d e1 h1 F1 H1 v R1 s1 rv => ?_⟩
  cases d with
  | int i => exact ⟨i, rv.int_inv, h1 F1 H1 _ R1 s1 (.int _)⟩
  | _ => exact h1.elim
theorem takesF : Takes X WF := fun _ _ ⟨_, _, _, _, _, _, _, _, _, _, _, _, _, _, _, _, w⟩ => w.elim
end
/-- a def by the name that the module has for it -/
structure GFn (P : Program) (w : World) (K : PySem.W.Frag) (mg : Str → Option Value) (base : Heap) (x : Str) (k : Nat) (ps : List Str) (sp : Sp) : Prop where
  ex : ∃ f fd, FnOk P w K mg base (L2.CX P w) k f fd ps sp ∧ mg x = some (.ref f) ∧ PySem.W.keepIn K (.ref f) = true ∧ Binds K fd ps []
section
variable {X : Cx} {W : WX} {pos p : Pos} {k j : Nat} {ps : List Str} {x y : Str} {ex : Expr} {es : List Expr} {dr : DA} {n : Nat}
theorem dx_callG {g : List D → R D} (G : GFn X.prog X.w X.K X.mg X.base x k ps (spD X.K n g)) (hr : Room j X.A) (hj : k ≤ j) (tk : Takes X W) (hg : Gl X x)
    (ha : PA X (ex :: es) (tA X.K W dr)) (hl : ∀ e p, dr e = .ok p → p.1.length = n) (hdb : (x == ("__debug__" : Str)) = false := by decide) (he : starEach (ex :: es) X.env = (false, eval ex X.env) :: starEach es X.env := by rfl) (hpl : (backTo pos (starEach es X.env)).any (·.1) = false := by rfl) :
    PE X (.Call (.Name x p) (ex :: es) [] pos) (tD X.K W (dCall g dr)) := by
  obtain ⟨f, fd, Fn, hm, hk, hb⟩ := G.ex
  refine peI (pe_callSD (E := WE W) Fn (hr.mono hj) hg hm hk hb .nil (fun σ => passAt tk σ) ha hdb he hpl) ?_
  rintro σ H Q ⟨B, F, e, R, h⟩
  refine ⟨B, F, e, R, ?_⟩
  have h0 : OutD X.K W B F σ Q ((dr e).bind fun p => (g p.1).bind fun d => .ok (d, p.2)) := h
  cases q : dr e with
  | bad => rw [q] at h0; exact h0.elim
  | exc z => rw [q] at h0; exact h0
  | ok pr =>
    rw [q] at h0
    obtain ⟨l, e1⟩ := pr
    intro F1 H1 xs R1 s1 rs
    rw [List.append_nil]
    refine ⟨F1, l, R1.sub, rs, hl e _ q, ?_⟩
    have h1 : OutD X.K W B F σ Q ((g l).bind fun d => .ok (d, e1)) := h0
    cases q2 : g l with
    | bad => rw [q2] at h1; exact h1.elim
    | ok d =>
      rw [q2] at h1
      exact fun F2 H2 v x2 rv => h1 F2 H2 v (R1.step x2) (s1.trans x2.fr) rv
    | exc z =>
      rw [q2] at h1
      exact fun F2 H2 c dd x2 ok => h1 F2 H2 c dd e1 (R1.step x2) ok
theorem dx_callBG {g : Bx → List D → R (D × Bx)} {py : Pos} (i : Nat) (G : GFn X.prog X.w X.K X.mg X.base x k ps (spB X.K n g)) (hr : Room j X.A) (hj : k ≤ j) (tk : Takes X W) (hg : Gl X x)
    (ha : PA X es (tA X.K W dr)) (hl : ∀ e p, dr e = .ok p → p.1.length = n) (hN : X.N[i]? = some y := by rfl) (hv : Vis X.env.scope y := by first | exact Or.inl rfl | exact Or.inr (Or.inl rfl) | exact Or.inr (Or.inr rfl)) (hd : (y == ("__debug__" : Str)) = false := by decide) (hcd : (y == ("__classdict__" : Str)) = false := by decide)
    (hdb : (x == ("__debug__" : Str)) = false := by decide) (he : starEach (.Name y py :: es) X.env = (false, eval (.Name y py) X.env) :: starEach es X.env := by rfl) (hpl : (backTo pos (starEach es X.env)).any (·.1) = false := by rfl) :
    PE X (.Call (.Name x p) (.Name y py :: es) [] pos) (tD X.K W (dCallB g i dr)) := by
  obtain ⟨f, fd, Fn, hm, hk, hb⟩ := G.ex
  exact dx_callB1 i Fn (hr.mono hj) tk hg hm hk hb ha hl hN hv hd hcd hdb he hpl
end
/-! ### the module's constants -/
section
variable {X : Cx} {W : WX} {pos : Pos} {x : Str}
theorem dx_gstr {z : Str} (hg : Gl X x) (h : ∃ t, X.mg x = some (.str z t)) (hd : (x == ("__debug__" : Str)) = false := by decide) : PE X (.Name x pos) (tD X.K W (dC (.str z))) := by
  obtain ⟨t, h⟩ := h
  exact dx_glob (v := .str z) hg h ⟨t, rfl⟩ (fun _ => .str z) hd
theorem dx_gint {z : Int} (hg : Gl X x) (h : ∃ t, X.mg x = some (.int z t)) (hd : (x == ("__debug__" : Str)) = false := by decide) : PE X (.Name x pos) (tD X.K W (dC (.int z))) := by
  obtain ⟨t, h⟩ := h
  exact dx_glob (v := .int z) hg h ⟨t, rfl⟩ (fun _ => .int z) hd
/-- a module's tuple of texts -/
structure GTup (K : PySem.W.Frag) (mg : Str → Option Value) (x : Str) (ys : List Str) : Prop where
  ex : ∃ a, mg x = some (.ref a) ∧ (∃ o, K.lookup a = some o ∧ o.cls = .type "tuple" ∧ o.dict = none) ∧ ∀ H, SqT K H a (ys.map V.str)
theorem dx_gtup {ys : List Str} (hg : Gl X x) (h : GTup X.K X.mg x ys) (hd : (x == ("__debug__" : Str)) = false := by decide) : PE X (.Name x pos) (tD X.K W (dC (.tup (ys.map D.str)))) := by
  obtain ⟨a, h1, _, h3⟩ := h.ex
  exact dx_glob (v := .ref a) hg h1 rfl (fun F => .tup (h3 F) (Reps.ofStrs ys)) hd
theorem dx_gtupIx {ys : List Str} {ex : Expr} {da : DE} {py apos cpos : Pos} (hg : Gl X x) (h : GTup X.K X.mg x ys) (ha : PE X ex (tD X.K W da)) (hd : (x == ("__debug__" : Str)) = false := by decide)
    (hbase : attributeBase (.Name x py) "index" X.env (eval (.Name x py) X.env) = eval (.Name x py) X.env := by rfl)
    (hfew : ((backTo cpos (starEach [ex] X.env)).all (fun x => !x.1) && (backToKw cpos (keywordEach [] X.env)).all (fun x => x.1.isSome)
      && decide ([ex].length + ([] : List Keyword).length + (if ([] : List Keyword).isEmpty then 0 else 1) < 30)) = true := by rfl)
    (hline : (apos.endLine == cpos.line) = true := by rfl) (hs : starEach [ex] X.env = (false, eval ex X.env) :: starEach [] X.env := by rfl) (hplain : (backTo cpos (starEach [] X.env)).any (·.1) = false := by rfl) :
    PE X (.Call (.Attribute (.Name x py) "index" apos) [ex] [] cpos) (tD X.K W (dTupIx ys da)) := by
  obtain ⟨a, h1, h2, h3⟩ := h.ex
  exact dx_tupIx hg h1 h2 h3 ha hd hbase hfew hline hs hplain
end
/-! ### where the built-in ones stand -/
theorem bt_len : bootBuiltins "len" = some (.builtin "len") := by decide +kernel
theorem bt_all : bootBuiltins "all" = some (.builtin "all") := by decide +kernel
theorem bt_any : bootBuiltins "any" = some (.builtin "any") := by decide +kernel
theorem bt_abs : bootBuiltins "abs" = some (.builtin "abs") := by decide +kernel
theorem bt_max : bootBuiltins "max" = some (.builtin "max") := by decide +kernel
theorem bt_min : bootBuiltins "min" = some (.builtin "min") := by decide +kernel
theorem bt_sum : bootBuiltins "sum" = some (.builtin "sum") := by decide +kernel
theorem bt_sorted : bootBuiltins "sorted" = some (.builtin "sorted") := by decide +kernel
theorem bt_isinstance : bootBuiltins "isinstance" = some (.builtin "isinstance") := by decide +kernel
theorem bt_int : bootBuiltins "int" = some (.type "int") := by decide +kernel
theorem bt_bool : bootBuiltins "bool" = some (.type "bool") := by decide +kernel
theorem bt_str : bootBuiltins "str" = some (.type "str") := by decide +kernel
theorem bt_tuple : bootBuiltins "tuple" = some (.type "tuple") := by decide +kernel
theorem bt_list : bootBuiltins "list" = some (.type "list") := by decide +kernel
/-! ### short words: X's calm is rfl, hu is told -/
section
variable {X : Cx} {W : WX} {pos p apos cpos : Pos} {a b c ex o : Expr} {es : List Expr} {da db dc : DE} {dr : DA}
theorem x_add (ha : PE X a (tD X.K W da)) (hb : PE X b (tD X.K W db)) : PE X (.BinOp a .Add b pos) (tD X.K W (dBin gAdd da db)) := dx_op op_addA vr_add nx_add ha hb
theorem x_sub (ha : PE X a (tD X.K W da)) (hb : PE X b (tD X.K W db)) : PE X (.BinOp a .Sub b pos) (tD X.K W (dBin gSub da db)) := dx_op op_sub vr_sub nx_sub ha hb
theorem x_mul (ha : PE X a (tD X.K W da)) (hb : PE X b (tD X.K W db)) : PE X (.BinOp a .Mult b pos) (tD X.K W (dBin gMul da db)) := dx_op op_mulA vr_mul nx_mul ha hb
theorem x_div (ha : PE X a (tD X.K W da)) (hb : PE X b (tD X.K W db)) : PE X (.BinOp a .FloorDiv b pos) (tD X.K W (dBin gDiv da db)) := dx_op op_fdiv vr_div nx_div ha hb
theorem x_mod (ha : PE X a (tD X.K W da)) (hb : PE X b (tD X.K W db)) : PE X (.BinOp a .Mod b pos) (tD X.K W (dBin gMod da db)) := dx_op op_mod vr_mod nx_mod ha hb
theorem x_eq (hu : X.A.units + 64 < cLine) (ha : PE X a (tD X.K W da)) (hb : PE X b (tD X.K W db)) : PE X (.Compare a [.Eq] [b] pos) (tD X.K W (dBin gEq da db)) := dx_cmp (op_eqA hu) vr_eq nx_eq ha hb (nomark _)
theorem x_ne (hu : X.A.units + 64 < cLine) (ha : PE X a (tD X.K W da)) (hb : PE X b (tD X.K W db)) : PE X (.Compare a [.NotEq] [b] pos) (tD X.K W (dBin gNe da db)) := dx_cmp (op_neA hu) vr_ne nx_ne ha hb (nomark _)
theorem x_lt (ha : PE X a (tD X.K W da)) (hb : PE X b (tD X.K W db)) : PE X (.Compare a [.Lt] [b] pos) (tD X.K W (dBin gLt da db)) := dx_cmp op_lt vr_cmp nx_cmp ha hb (nomark _)
theorem x_le (ha : PE X a (tD X.K W da)) (hb : PE X b (tD X.K W db)) : PE X (.Compare a [.LtE] [b] pos) (tD X.K W (dBin gLe da db)) := dx_cmp op_le vr_cmp nx_cmp ha hb (nomark _)
theorem x_gt (ha : PE X a (tD X.K W da)) (hb : PE X b (tD X.K W db)) : PE X (.Compare a [.Gt] [b] pos) (tD X.K W (dBin gGt da db)) := dx_cmp op_gt vr_cmp nx_cmp ha hb (nomark _)
theorem x_ge (ha : PE X a (tD X.K W da)) (hb : PE X b (tD X.K W db)) : PE X (.Compare a [.GtE] [b] pos) (tD X.K W (dBin gGe da db)) := dx_cmp op_ge vr_cmp nx_cmp ha hb (nomark _)
theorem x_isN (ha : PE X a (tD X.K W da)) (hb : PE X b (tD X.K W db)) : PE X (.Compare a [.Is] [b] pos) (tD X.K W (dBin gIsN da db)) := dx_cmp op_isN vr_isN nx_isN ha hb (nomark _)
theorem x_notN (ha : PE X a (tD X.K W da)) (hb : PE X b (tD X.K W db)) : PE X (.Compare a [.IsNot] [b] pos) (tD X.K W (dBin gNotN da db)) := dx_cmp op_notN vr_notN nx_notN ha hb (nomark _)
theorem x_in (hu : X.A.units + 65 < cLine) (ha : PE X a (tD X.K W da)) (hb : PE X b (tD X.K W db)) (hm : behindInMarks .In b = false := by rfl) : PE X (.Compare a [.In] [b] pos) (tD X.K W (dBin gIn da db)) := dx_cmp (op_inA hu) vr_in nx_in ha hb hm
theorem x_notIn (hu : X.A.units + 65 < cLine) (ha : PE X a (tD X.K W da)) (hb : PE X b (tD X.K W db)) (hm : behindInMarks .NotIn b = false := by rfl) : PE X (.Compare a [.NotIn] [b] pos) (tD X.K W (dBin gNotIn da db)) := dx_cmp (op_notInA hu) vr_notIn nx_notIn ha hb hm
theorem t_eq (hu : X.A.units + 64 < cLine) (ha : PE X a (tD X.K W da)) (hb : PE X b (tD X.K W db)) : PT X (.Compare a [.Eq] [b] pos) (tT X.K W (dTest (dBin gEq da db))) := dt_cmp (op_eqA hu) vr_eq nx_eq ha hb (nomark _)
theorem t_ne (hu : X.A.units + 64 < cLine) (ha : PE X a (tD X.K W da)) (hb : PE X b (tD X.K W db)) : PT X (.Compare a [.NotEq] [b] pos) (tT X.K W (dTest (dBin gNe da db))) := dt_cmp (op_neA hu) vr_ne nx_ne ha hb (nomark _)
theorem t_lt (ha : PE X a (tD X.K W da)) (hb : PE X b (tD X.K W db)) : PT X (.Compare a [.Lt] [b] pos) (tT X.K W (dTest (dBin gLt da db))) := dt_cmp op_lt vr_cmp nx_cmp ha hb (nomark _)
theorem t_le (ha : PE X a (tD X.K W da)) (hb : PE X b (tD X.K W db)) : PT X (.Compare a [.LtE] [b] pos) (tT X.K W (dTest (dBin gLe da db))) := dt_cmp op_le vr_cmp nx_cmp ha hb (nomark _)
theorem t_gt (ha : PE X a (tD X.K W da)) (hb : PE X b (tD X.K W db)) : PT X (.Compare a [.Gt] [b] pos) (tT X.K W (dTest (dBin gGt da db))) := dt_cmp op_gt vr_cmp nx_cmp ha hb (nomark _)
theorem t_ge (ha : PE X a (tD X.K W da)) (hb : PE X b (tD X.K W db)) : PT X (.Compare a [.GtE] [b] pos) (tT X.K W (dTest (dBin gGe da db))) := dt_cmp op_ge vr_cmp nx_cmp ha hb (nomark _)
theorem t_isN (ha : PE X a (tD X.K W da)) (hb : PE X b (tD X.K W db)) : PT X (.Compare a [.Is] [b] pos) (tT X.K W (dTest (dBin gIsN da db))) := dt_cmp op_isN vr_isN nx_isN ha hb (nomark _)
theorem t_notN (ha : PE X a (tD X.K W da)) (hb : PE X b (tD X.K W db)) : PT X (.Compare a [.IsNot] [b] pos) (tT X.K W (dTest (dBin gNotN da db))) := dt_cmp op_notN vr_notN nx_notN ha hb (nomark _)
theorem t_in (hu : X.A.units + 65 < cLine) (ha : PE X a (tD X.K W da)) (hb : PE X b (tD X.K W db)) (hm : behindInMarks .In b = false := by rfl) : PT X (.Compare a [.In] [b] pos) (tT X.K W (dTest (dBin gIn da db))) := dt_cmp (op_inA hu) vr_in nx_in ha hb hm
theorem t_notIn (hu : X.A.units + 65 < cLine) (ha : PE X a (tD X.K W da)) (hb : PE X b (tD X.K W db)) (hm : behindInMarks .NotIn b = false := by rfl) : PT X (.Compare a [.NotIn] [b] pos) (tT X.K W (dTest (dBin gNotIn da db))) := dt_cmp (op_notInA hu) vr_notIn nx_notIn ha hb hm
theorem x_lele (ha : PE X a (tD X.K W da)) (hb : PE X b (tD X.K W db)) (hc : PE X c (tD X.K W dc)) (hm : lastMarks [.LtE, .LtE] [b, c] = false := by with_unfolding_all rfl) : PE X (.Compare a [.LtE, .LtE] [b, c] pos) (tD X.K W (dChain gLe gLe da db dc)) := dx_chain op_le op_le vr_cmp nx_cmp vr_cmp nx_cmp ha hb hc hm
theorem t_lele (ha : PE X a (tD X.K W da)) (hb : PE X b (tD X.K W db)) (hc : PE X c (tD X.K W dc)) (hm : lastMarks [.LtE, .LtE] [b, c] = false := by with_unfolding_all rfl) : PT X (.Compare a [.LtE, .LtE] [b, c] pos) (tT X.K W (dTest (dChain gLe gLe da db dc))) := dt_chain op_le op_le vr_cmp nx_cmp vr_cmp nx_cmp ha hb hc hm
theorem x_ltlt (ha : PE X a (tD X.K W da)) (hb : PE X b (tD X.K W db)) (hc : PE X c (tD X.K W dc)) (hm : lastMarks [.Lt, .Lt] [b, c] = false := by with_unfolding_all rfl) : PE X (.Compare a [.Lt, .Lt] [b, c] pos) (tD X.K W (dChain gLt gLt da db dc)) := dx_chain op_lt op_lt vr_cmp nx_cmp vr_cmp nx_cmp ha hb hc hm
theorem t_ltlt (ha : PE X a (tD X.K W da)) (hb : PE X b (tD X.K W db)) (hc : PE X c (tD X.K W dc)) (hm : lastMarks [.Lt, .Lt] [b, c] = false := by with_unfolding_all rfl) : PT X (.Compare a [.Lt, .Lt] [b, c] pos) (tT X.K W (dTest (dChain gLt gLt da db dc))) := dt_chain op_lt op_lt vr_cmp nx_cmp vr_cmp nx_cmp ha hb hc hm
end
theorem u65 {A : Around} {k : Nat} (hk : Room k A) : A.units + 65 < cLine := by
  have := hk.un
  omega
end WW
set_option Elab.async false
set_option linter.all false
set_option maxRecDepth 100000
set_option maxHeartbeats 4000000
/-! The data layer, part 11: the least of a list of alike data. -/
namespace WW
open PySem PySem.Spec L2
def notNo : D → Bool
  | .non => false
  | .ins _ _ _ => false
  | .dct _ _ => false
  | _ => true
def minOk (l : List D) : Bool := plainAll l && (((pyAll l).all fun x => (pyAll l).all fun y => PySem.W.alike x y) && (decide (PyData.depthAll (pyAll l) ≤ 60) && l.all notNo))
def minDD (d : D) (l : List D) : D := l.foldl (fun a y => if PySem.W.dataLt y.py a.py then y else a) d
def gMinL : List D → R D
  | [.lst (d :: l)] => if minOk (d :: l) = true then .ok (minDD d l) else .bad
  | _ => .bad
theorem pyAll_map : ∀ l : List D, pyAll l = l.map D.py
  | [] => rfl
  | d :: l => by
    show d.py :: pyAll l = _
    rw [pyAll_map l]
    rfl
theorem minDD_py : ∀ (l : List D) (d : D), (minDD d l).py = PySem.W.minD d.py (pyAll l)
  | [], d => rfl
  | y :: l, d => by
    unfold minDD PySem.W.minD
    rw [List.foldl_cons]
    show (minDD (if PySem.W.dataLt y.py d.py then y else d) l).py = (pyAll l).foldl _ (if PySem.W.dataLt y.py d.py then y.py else d.py)
    rw [minDD_py l]
    unfold PySem.W.minD
    congr 1
    split <;> rfl
theorem minDD_mem : ∀ (l : List D) (d : D), minDD d l ∈ d :: l
  | [], d => List.mem_cons_self
  | y :: l, d => by
    have h := minDD_mem l (if PySem.W.dataLt y.py d.py then y else d)
    show minDD (if PySem.W.dataLt y.py d.py then y else d) l ∈ _
    rcases List.mem_cons.mp h with h | h
    · rw [h]
      by_cases c : PySem.W.dataLt y.py d.py = true
      · rw [if_pos c]; exact List.mem_cons_of_mem _ List.mem_cons_self
      · rw [if_neg c]; exact List.mem_cons_self
    · exact List.mem_cons_of_mem _ (List.mem_cons_of_mem _ h)
mutual
theorem py_inj : ∀ (a b : D), a.plain = true → b.plain = true → a.py = b.py → a = b
  | .non, b, _, hb, h => by
    cases b <;> first | rfl | (cases hb; done) | (cases h; done)
  | .bl x, b, _, hb, h => by
    cases b <;> first | (injection h with h; rw [h]; done) | (cases hb; done) | (cases h; done)
  | .int x, b, _, hb, h => by
    cases b <;> first | (injection h with h; rw [h]; done) | (cases hb; done) | (cases h; done)
  | .str x, b, _, hb, h => by
    cases b <;> first | (injection h with h; rw [h]; done) | (cases hb; done) | (cases h; done)
  | .tup l, b, ha, hb, h => by
    cases b with
    | tup m =>
      injection h with h
      rw [pyAll_inj l m ha hb h]
    | ins _ _ _ => cases hb
    | _ => cases h
  | .lst l, b, ha, hb, h => by
    cases b with
    | lst m =>
      injection h with h
      rw [pyAll_inj l m ha hb h]
    | ins _ _ _ => cases hb
    | _ => cases h
  | .ins _ _ _, _, ha, _, _ => by cases ha
  | .dct _ _, _, ha, _, _ => by cases ha
theorem pyAll_inj : ∀ (l m : List D), plainAll l = true → plainAll m = true → pyAll l = pyAll m → l = m
  | [], [], _, _, _ => rfl
  | [], _ :: _, _, _, h => by cases h
  | _ :: _, [], _, _, h => by cases h
  | a :: l, b :: m, ha, hb, h => by
    obtain ⟨a1, a2⟩ := Bool.and_eq_true_iff.mp (show (a.plain && plainAll l) = true from ha)
    obtain ⟨b1, b2⟩ := Bool.and_eq_true_iff.mp (show (b.plain && plainAll m) = true from hb)
    have h2 : a.py :: pyAll l = b.py :: pyAll m := h
    injection h2 with h3 h4
    rw [py_inj a b a1 b1 h3, pyAll_inj l m a2 b2 h4]
end
theorem plain_mem : ∀ {l : List D} {d : D}, plainAll l = true → d ∈ l → d.plain = true
  | a :: l, d, h, hd => by
    obtain ⟨a1, a2⟩ := Bool.and_eq_true_iff.mp (show (a.plain && plainAll l) = true from h)
    rcases List.mem_cons.mp hd with rfl | hd
    · exact a1
    · exact plain_mem a2 hd
section
variable {X : Cx} {K : PySem.W.Frag}
def rMinDa (K : PySem.W.Frag) : List V → Hp → VK → Prop := fun vs H Q => ∃ p xs x ds, vs = [.ref p] ∧ SqL K H p xs ∧ DpAll K H xs (x :: ds) ∧ PySem.W.AlikeAll (x :: ds) ∧ PyData.depthAll (x :: ds) ≤ 60 ∧ ∀ (i : Nat) (v : V) d, xs[i]? = some v → (x :: ds)[i]? = some d → d = PySem.W.minD x ds → Q v H
theorem cr_minDa (hu : X.A.units + 64 < cLine) (hc : X.calm = true) : CallR X (.builtin "min") (rMinDa X.K) := by
  intro pins s σ H vs us Q I r h
  obtain ⟨p, xs, x, ds, rfl, hs, hd, ha, hdp, q⟩ := h
  obtain ⟨its, rv, hl, _⟩ := I.list hs
  rw [Vals.ref1 r]
  obtain ⟨as, hr⟩ := Dp.readsAll I (x :: ds) xs its hd rv
  refine PySem.W.min_list_data (I.ok.hd hc) hl.isList (by simpa using hr) ha (by show X.A.units + 1 + _ < _; omega) fun i v h' tk bs hv hr2 hk => ?_
  have hr' : ReadsAll s.heap (its.toArray).toList (x :: ds) as := by simpa using hr
  obtain ⟨bs2, hr3, hlt, _, _⟩ := PySem.W.readsAll_atA hr' i v hv
  have e := (Reads.unique (PySem.W.reads_keeps hk hr3) _ _ hr2).1
  obtain ⟨y, hy⟩ : ∃ y, xs[i]? = some y := by
    have hl1 : xs.length = its.length := rv.length
    have hl2 : i < its.length := by
      have := (Array.getElem?_eq_some_iff.mp hv).1
      simpa using this
    exact ⟨_, List.getElem?_eq_getElem (by omega)⟩
  obtain ⟨u, hu1, ru⟩ := Vals.get rv hy
  have e2 : u = v := by
    have : its[i]? = some v := by simpa using hv
    rw [this] at hu1
    exact (Option.some.inj hu1).symm
  subst e2
  refine ⟨y, H, I.kept hk, ru, q i y _ hy (?_ : (x :: ds)[i]? = some ((x :: ds).getD i .none)) e⟩
  rw [List.getElem?_eq_getElem hlt, List.getD_eq_getElem?_getD, List.getElem?_eq_getElem hlt]
  rfl
theorem nx_minL : NoXn gMinL := by
  intro a x h
  unfold gMinL at h
  split at h
  · split at h <;> cases h
  · cases h
theorem vr_minL : VRn K (rMinDa K) gMinL := by
  intro F H xs ds Q s rs h
  unfold gMinL at h
  split at h
  · rename_i d l
    by_cases c : minOk (d :: l) = true
    · rw [if_pos c] at h
      unfold minOk at c
      obtain ⟨c1, c2⟩ := Bool.and_eq_true_iff.mp c
      obtain ⟨c3, c4⟩ := Bool.and_eq_true_iff.mp c2
      obtain ⟨c5, c6⟩ := Bool.and_eq_true_iff.mp c4
      obtain ⟨v, rfl, rv⟩ := reps1 rs
      cases rv with
      | lst hF hrs =>
        rename_i p vs
        refine ⟨p, vs, d.py, pyAll l, rfl, .inl (.inl (s _ _ hF)), Reps.dp s _ _ c1 hrs, ⟨fun x hx y hy => ?_, fun x hx => ?_⟩, of_decide_eq_true c5, fun i y z hy hz e => ?_⟩
        · exact List.all_eq_true.mp (List.all_eq_true.mp c3 x hx) y hy
        · intro e
          have hx2 : x ∈ (d :: l).map D.py := by rw [← pyAll_map]; exact hx
          obtain ⟨w', hw, rfl⟩ := List.mem_map.mp hx2
          have n1 := List.all_eq_true.mp c6 w' hw
          have n2 := plain_mem c1 hw
          cases w' <;> first | (cases n1; done) | (cases e; done)
        · obtain ⟨y2, hy2, ry⟩ : ∃ k, (d :: l)[i]? = some k ∧ Rep K F y k := by
            have hl : i < (d :: l).length := by
              rw [← hrs.len]
              exact (List.getElem?_eq_some_iff.mp hy).1
            obtain ⟨v2, h1, h2⟩ := hrs.get (List.getElem?_eq_getElem hl)
            rw [hy] at h1
            rw [Option.some.inj h1]
            exact ⟨_, List.getElem?_eq_getElem hl, h2⟩
          have e3 : y2.py = z := by
            have : (pyAll (d :: l))[i]? = some y2.py := by rw [pyAll_map, List.getElem?_map, hy2]; rfl
            rw [show pyAll (d :: l) = d.py :: pyAll l from rfl, hz] at this
            exact (Option.some.inj this).symm
          have e4 : y2 = minDD d l := py_inj _ _ (plain_mem c1 (List.mem_of_getElem? hy2)) (plain_mem c1 (minDD_mem l d)) (by rw [e3, e, minDD_py])
          rw [e4] at ry
          exact h.same s ry
    · rw [if_neg c] at h
      exact h.elim
  · exact h.elim
end
end WW
set_option Elab.async false
set_option linter.all false
set_option maxRecDepth 100000
set_option maxHeartbeats 4000000
/-! The head by facts: a Hook of checks and defs. -/
namespace WW
open PySem PySem.Spec L2
abbrev Chk := PySem.W.Frag → Bool
def obsW (cs : List Chk) (fn : List He.DefD) (K : PySem.W.Frag) : He.AlD := ((cs.all fun c => c K) && fn.all fun d => d.ok K, fn.map fun d => He.fnW K d.at_)
def SaysW (cs : List Chk) (fn : List He.DefD) (K : PySem.W.Frag) : Prop := obsW cs fn K = He.valD fn
def obsWG (n : Nat) (cs : List Chk) (fn : List He.DefD) (g : Addr → Option Obj) : He.AlD := obsW cs fn (He.frG g (He.asD g n))
def hookW (n : Nat) (cs : List Chk) (fn : List He.DefD) : PySem.W.Hook where
  α := He.AlD
  obs := fun s => obsWG n cs fn s.heap.get?
  val := fun _ => He.valD fn
  says := fun _ h => ∃ K : PySem.W.Frag, K.In h ∧ SaysW cs fn K
  of := fun _ _ e => ⟨_, He.frG_in, e⟩
  keeps := fun _ _ _ ⟨K, hK, c⟩ k => ⟨K, PySem.W.Frag.In.keeps hK k, c⟩
theorem obsWG_eq {n : Nat} {cs : List Chk} {fn : List He.DefD} {g : Addr → Option Obj} {s : Shared} (h : ∀ a, g a = s.heap.get? a) : obsWG n cs fn g = (hookW n cs fn).obs s := by
  have e : g = s.heap.get? := funext h
  rw [e] <;> rfl
section
variable {cs : List Chk} {fn : List He.DefD} {K : PySem.W.Frag}
theorem SaysW.fact (c : SaysW cs fn K) (i : Nat) {f : Chk} (h : cs[i]? = some f := by rfl) : f K = true := by
  have c1 := (He.ba (show ((cs.all fun f => f K) && fn.all fun d => d.ok K) = true from congrArg (fun z : He.AlD => z.1) c)).1
  exact List.all_eq_true.mp c1 f (List.mem_of_getElem? h)
theorem SaysW.def_ (c : SaysW cs fn K) (i : Nat) {d : He.DefD} (h : fn[i]? = some d := by rfl) : ∃ fd, FunD K d.name d.qual d.params d.body d.scope (d.dvs K) (d.kws K) (He.fAd K d.at_) fd := by
  have c2 := (He.ba (show ((cs.all fun f => f K) && fn.all fun d => d.ok K) = true from congrArg (fun z : He.AlD => z.1) c)).2
  have e : fn.map (fun d => He.fnW K d.at_) = fn.map He.DefD.val := congrArg (fun z : He.AlD => z.2) c
  have e2 : (fn.map fun d => He.fnW K d.at_)[i]? = (fn.map He.DefD.val)[i]? := by rw [e]
  rw [List.getElem?_map, List.getElem?_map, h] at e2
  exact He.DefD.funD (Option.some.inj e2) (List.all_eq_true.mp c2 d (List.mem_of_getElem? h))
end
theorem toFun {K : PySem.W.Frag} {x qual : Str} {st : Stmt} {f : Addr} {fd : FuncData} (F : FunD K x qual (defArgs st) (defBody st) (defScope st) [] [] f fd) : Fun K x qual st f fd := by
  obtain ⟨oc, od, dV, kV, doc, pm, an, cdv, ct, osl, e, lk, hcd, hd, _⟩ := F.ex
  rcases hd with ⟨_, rfl⟩ | ⟨z, _⟩
  · exact ⟨⟨oc, od, kV, doc, pm, an, cdv, ct, osl, e, lk, hcd⟩, F.kp⟩
  · exact absurd rfl z
/-- a module's tuple of texts -/
def cTup (x : Str) (ys : List Str) : Chk := fun K => (He.Fa.glo x).ok K && (match K.lookup (He.ga K x) with
  | some ⟨.type c, none, .seq its _, _⟩ => decide (c = "tuple") && (decide (its.size ≤ sizeLine) && He.relAll (ys.map V.str) its.toList)
  | _ => false)
theorem cTup_ok {K : PySem.W.Frag} {h : Heap} {mg : Str → Option Value} {x : Str} {ys : List Str} (X : K.In h) (G : h.Ns mainGlobals mg) (c : cTup x ys K = true) : GTup K mg x ys := by
  obtain ⟨c1, c2⟩ := He.ba c
  have hg := He.glo_ok X G c1
  cases q : K.lookup (He.ga K x) with
  | none => rw [q] at c2; cases c2
  | some o =>
    obtain ⟨oc, od, dt, osl⟩ := o
    rw [q] at c2
    cases oc with
    | type c =>
      cases od with
      | none =>
        cases dt with
        | seq its n =>
          obtain ⟨h1, h2⟩ := He.ba (show (decide (c = "tuple") && (decide (its.size ≤ sizeLine) && He.relAll (ys.map V.str) its.toList)) = true from c2)
          obtain ⟨h3, h4⟩ := He.ba h2
          have ec : c = "tuple" := of_decide_eq_true h1
          subst ec
          exact ⟨_, hg, ⟨_, q, rfl, rfl⟩, fun H => .inr ⟨_, its, n, q, rfl, rfl, of_decide_eq_true h3, He.relAll_ok h4⟩⟩
        | _ => cases c2
      | some a => cases dt <;> cases c2
    | _ => cases od <;> cases dt <;> cases c2
def cFree (x : Str) : Chk := fun K => (He.Fa.free x).ok K
def cStr (x z : Str) : Chk := fun K => (He.Fa.str x z).ok K
def cInt (x : Str) (i : Int) : Chk := fun K => (He.Fa.int x i).ok K
def cGlo (x : Str) : Chk := fun K => (He.Fa.glo x).ok K
end WW
set_option Elab.async false
set_option linter.all false
set_option maxRecDepth 100000
set_option maxHeartbeats 4000000
/-! The data layer, part 12: sum, op=, enumerate. -/
namespace WW
open PySem PySem.Spec L2
section
variable {K : PySem.W.Frag}
def asInts : List D → Option (List Int)
  | [] => some []
  | .int b :: l => (match asInts l with
    | some bs => some (b :: bs)
    | none => none)
  | _ => none
theorem asInts_eq : ∀ {l : List D} {bs : List Int}, asInts l = some bs → l = bs.map D.int
  | [], bs, h => by
    have h2 : some [] = some bs := h
    injection h2 with h2
    subst h2
    rfl
  | d :: l, bs, h => by
    cases d with
    | int b =>
      have h2 : (match asInts l with
        | some bs => some (b :: bs)
        | none => none) = some bs := h
      cases q : asInts l with
      | none => rw [q] at h2; cases h2
      | some cs =>
        rw [q] at h2
        injection h2 with h2
        subst h2
        rw [List.map_cons, ← asInts_eq q]
    | _ => cases h
theorem asInts_map : ∀ bs : List Int, asInts (bs.map D.int) = some bs
  | [] => rfl
  | b :: bs => by
    rw [List.map_cons]
    unfold asInts
    rw [asInts_map bs]
theorem reps_ints {F : Hp} : ∀ {ns : List Int} {vs : List V}, Reps K F vs (ns.map D.int) → vs = ns.map V.int
  | [], _, h => by cases h; rfl
  | n :: ns, _, h => by
    cases h with
    | cons r t => rw [r.int_inv, reps_ints t]; rfl
def gSum : List D → R D
  | [.lst l] => (match asInts l with
    | some bs => .ok (.int bs.sum)
    | none => .bad)
  | _ => .bad
theorem nx_sum : NoXn gSum := by
  intro a x h
  unfold gSum at h
  split at h
  · split at h <;> cases h
  · cases h
theorem vr_sum : VRn K (rSum K) gSum := by
  intro F H xs ds Q s rs h
  unfold gSum at h
  split at h
  · rename_i l
    cases q : asInts l with
    | none => rw [q] at h; exact h.elim
    | some ns =>
      rw [q] at h
      have e := asInts_eq q
      subst e
      obtain ⟨v, rfl, rv⟩ := reps1 rs
      obtain ⟨a1, us, rfl, ha1, ra⟩ := rv.lst_inv
      have e2 := reps_ints ra
      subst e2
      exact ⟨a1, ns, rfl, .inl (.inl (s _ _ ha1)), h.flat s fun _ => .int _⟩
  · exact h.elim
/-! ### enumerate -/
def enD : Nat → List D → List D
  | _, [] => []
  | n, d :: l => .tup [.int (n : Int), d] :: enD (n + 1) l
theorem enD_len : ∀ (l : List D) (n : Nat), (enD n l).length = l.length
  | [], _ => rfl
  | _ :: l, n => by
    show (enD (n + 1) l).length + 1 = l.length + 1
    rw [enD_len l]
theorem enD_at : ∀ (l : List D) (n i : Nat) (d : D), (enD n l)[i]? = some d → ∃ x, l[i]? = some x ∧ d = .tup [.int ((n + i : Nat) : Int), x]
  | [], _, _, _, h => by simp [enD] at h
  | x :: l, n, 0, d, h => by
    have h2 : some (D.tup [.int (n : Int), x]) = some d := h
    injection h2 with h2
    exact ⟨x, rfl, h2.symm⟩
  | x :: l, n, i + 1, d, h => by
    have h2 : (enD (n + 1) l)[i]? = some d := by simpa [enD] using h
    obtain ⟨y, h3, h4⟩ := enD_at l (n + 1) i d h2
    exact ⟨y, by simpa using h3, by rw [h4, show n + 1 + i = n + (i + 1) by omega]⟩
theorem walks_enum {F : Hp} {a : Addr} {vs : List V} {l : List D} (ha : F a = some (.lst vs)) (ra : Reps K F vs l) : Walks K (Ite K a) F (enD 0 l) := by
  intro F' H' s s'
  have qa : SqL K H' a vs := .inl (.inl (s' _ _ (s _ _ ha)))
  refine ⟨fun i hi => ⟨vs, qa, by rw [ra.len]; rw [enD_len] at hi; exact hi⟩, fun i d hd => ?_⟩
  obtain ⟨x, h1, rfl⟩ := enD_at l 0 i d hd
  obtain ⟨v, k1, k2⟩ := ra.get h1
  refine ⟨⟨vs, v, qa, k1⟩, fun w' H'' hy => ?_⟩
  obtain ⟨T, x1, rfl, nT, rfl, f1⟩ := hy
  have e1 := f1 vs qa
  rw [k1] at e1
  injection e1 with e1
  subst e1
  have x := ext_new (K := K) (o := .tup [.int ((i : Nat) : Int), v]) s' nT
  refine ⟨_, x, .tup (.inl (.inl upd_same)) (.cons ?_ (.cons ((k2.mono s).mono x.fr) .nil))⟩
  rw [Nat.zero_add]
  exact .int _
def asEnum : List D → R (List D)
  | [.lst l] => .ok (enD 0 l)
  | _ => .bad
def iEnumd (da : DA) : DA := fun e => (da e).bind fun p => (asEnum p.1).bind fun l => .ok (l, p.2)
end
section
variable {X : Cx} {W : WX} {dr : DA} {pos p tpos : Pos}
theorem di_enum {a : Expr} {elts : List Expr} {kk : Nat} (hg : Gl X "enumerate") (hm : X.mg "enumerate" = none) (ha : PA X [a] (tA X.K W dr)) (hl : ∀ e p, dr e = .ok p → p.1.length = 1) (hs : starEach [a] X.env = [(false, eval a X.env)] := by rfl) :
    PI X (.Tuple elts kk tpos) (.Call (.Name "enumerate" p) [a] [] pos) (tI X.K W (iEnumd dr)) := by
  refine piI (pi_enum hg hm ha hs) ?_
  rintro σ H Q ⟨B, F, e, R, h⟩
  have h0 : OutI X.K W B F σ Q ((dr e).bind fun p => (asEnum p.1).bind fun l => .ok (l, p.2)) := h
  refine ⟨B, F, e, R, ?_⟩
  cases q : dr e with
  | bad => rw [q] at h0; exact h0.elim
  | exc z => rw [q] at h0; exact h0
  | ok pr =>
    have hlen := hl e _ q
    rw [q] at h0
    obtain ⟨l, e1⟩ := pr
    match l, hlen with
    | [d], _ =>
      intro F1 H1 vs R1 s1 rs
      obtain ⟨v, rfl, rv⟩ := reps1 rs
      have h1 : OutI X.K W B F σ Q ((asEnum [d]).bind fun l => .ok (l, e1)) := h0
      cases d with
      | lst l1 =>
        obtain ⟨a1, us, rfl, ha1, ra⟩ := rv.lst_inv
        exact ⟨a1, us, rfl, .inl (.inl (R1.sub _ _ ha1)), h1 F1 H1 _ R1 s1 (walks_enum ha1 ra)⟩
      | _ => exact h1.elim
/-! ### name op= e, whole numbers -/
def sAugR (i : Nat) (g : Int → Int → Int) (x : Int) (p : D × En) : SR := match p.1 with
  | .int y => setS p.2 i (.v (.int (g x y)))
  | _ => .bad
def sAugI (i : Nat) (g : Int → Int → Int) (da : DE) : DS := fun e => match nth e i with
  | some (.v (.int x)) => (da e).toS (sAugR i g x)
  | _ => .bad
variable {ex : Expr} {da : DE}
theorem ds_aug {i : Nat} {x : Str} {op : Operator} {g : Int → Int → Int} {pos' : Pos} (hN : X.N.Nodup) (hi : X.N[i]? = some x) (hx : Loc X.env.scope x) (he : PE X ex (tD X.K W da)) (ho : PIp X op (ipI g)) (hf : X.fn x = true ∨ X.env.scope.names.lookup x = some .local := by first | exact .inl rfl | exact .inr rfl | assumption) :
    PS X (.AugAssign (.Name x pos') op ex pos) (tS X.K W (sAugI i g da)) := by
  refine psI (ps_aug hN hi hx he ho hf) ?_
  rintro D' σ H ⟨B, F, e, R, h⟩
  unfold sAugI at h
  cases q : nth e i with
  | none => rw [q] at h; exact h.elim
  | some s =>
    rw [q] at h
    cases s with
    | l xs => exact h.elim
    | box a b c => exact h.elim
    | obj _ _ _ _ => exact h.elim
    | dc _ _ => exact h.elim
    | dob _ _ _ => exact h.elim
    | tab => exact h.elim
    | exn _ _ _ => exact h.elim
    | v d =>
      cases d with
      | int k =>
        obtain ⟨l, ex', fp, S⟩ := id R
        obtain ⟨v, hv, r, _⟩ := S.ok i _ q
        have e1 := r.int_inv
        subst e1
        refine ⟨_, hv, B, F, e, R, OutD.toS h fun d e1 h1 F1 H1 y R1 s1 ry => ?_⟩
        unfold sAugR at h1
        cases d with
        | int j =>
          obtain ⟨e', q2, h2⟩ := setS_ok h1
          have e3 := ry.int_inv
          subst e3
          exact ⟨k, j, rfl, rfl, h2 F1 H1 _ (R1.setV (.int _) q2)⟩
        | _ => exact h1.elim
      | _ => exact h.elim
end
end WW
set_option Elab.async false
set_option linter.all false
set_option maxRecDepth 100000
set_option maxHeartbeats 4000000
/-! The data layer, part 13: fields of the program's own objects, read only. -/
namespace WW
open PySem PySem.Spec L2
def fldAt (f : Str) : List Str → List D → R D
  | n :: ns, d :: l => if n = f then .ok d else fldAt f ns l
  | _, _ => .bad
def gFld (c f : Str) : D → R D
  | .ins c' ns l => if c' = c then fldAt f ns l else .bad
  | _ => .bad
theorem fldAt_ok {K : PySem.W.Frag} {F : Hp} {f : Str} : ∀ {fs : List (Str × V)} {l : List D} {d : D}, Reps K F (fs.map (·.2)) l → fldAt f (fs.map (·.1)) l = .ok d → ∃ v, fs.lookup f = some v ∧ Rep K F v d
  | [], _, _, h, h2 => by
    cases h
    cases h2
  | (n, v) :: fs, _, d, h, h2 => by
    cases h with
    | cons r t =>
      rename_i d0 l0
      have h3 : (if n = f then R.ok d0 else fldAt f (fs.map (·.1)) l0) = .ok d := h2
      by_cases c : n = f
      · rw [if_pos c] at h3
        injection h3 with h3
        subst h3
        subst c
        exact ⟨v, by simp [List.lookup], r⟩
      · rw [if_neg c] at h3
        obtain ⟨u, k1, k2⟩ := fldAt_ok t h3
        refine ⟨u, ?_, k2⟩
        rw [List.lookup_cons]
        rw [show (f == n) = false by simp; exact fun z => c z.symm]
        exact k1
theorem fldAt_nx {f : Str} {x : Exn} : ∀ (ns : List Str) (l : List D), fldAt f ns l ≠ .exc x
  | [], _, h => by cases h
  | _ :: _, [], h => by cases h
  | n :: ns, d :: l, h => by
    have h3 : (if n = f then R.ok d else fldAt f ns l) = .exc x := h
    by_cases c : n = f
    · rw [if_pos c] at h3; cases h3
    · rw [if_neg c] at h3; exact fldAt_nx ns l h3
theorem nx_fld (c f : Str) : NoX1 (gFld c f) := by
  intro a x h
  unfold gFld at h
  split at h
  · split at h
    · exact fldAt_nx _ _ h
    · cases h
  · cases h
section
variable {X : Cx} {W : WX} {pos : Pos} {e : Expr} {da : DE} {c f : Str}
theorem dx_fld (c : Str) (hcl : Cls X.K (He.ga X.K c)) (hna : NoAttr X.K (He.ga X.K c) f) (ha : PE X e (tD X.K W da)) (hb : attributeBase e f X.env (eval e X.env) = eval e X.env := by rfl) : PE X (.Attribute e f pos) (tD X.K W (dUn (gFld c f) da)) := by
  refine peI (pe_fld ha hb) ?_
  rintro σ H Q ⟨B, F, e0, R, h⟩
  refine ⟨B, F, e0, R, OutD.bind (P := OutD X.K W B F σ Q) dBad dExc h fun d e1 h1 F1 H1 x R1 s1 rx => ?_⟩
  have h2 : OutD X.K W B F σ Q ((gFld c f d).bind fun d => .ok (d, e1)) := h1
  cases d with
  | ins c' ns l =>
    cases rx with
    | ins hF hn hr =>
      rename_i a dx fs
      by_cases ec : c' = c
      · subst ec
        have h3 : OutD X.K W B F σ Q ((fldAt f ns l).bind fun d => .ok (d, e1)) := by
          have : gFld c' f (.ins c' ns l) = fldAt f ns l := if_pos rfl
          rw [this] at h2
          exact h2
        cases q : fldAt f ns l with
        | bad => rw [q] at h3; exact h3.elim
        | exc z => exact absurd q (fldAt_nx ns l)
        | ok d2 =>
          rw [q] at h3
          subst hn
          obtain ⟨v, k1, k2⟩ := fldAt_ok hr q
          exact ⟨a, _, dx, fs, v, rfl, R1.sub _ _ hF, hcl, hna, k1, h3 F1 H1 v R1 s1 k2⟩
      · have : gFld c f (.ins c' ns l) = .bad := if_neg ec
        rw [this] at h2
        exact h2.elim
  | _ => exact h2.elim
end
end WW
set_option Elab.async false
set_option linter.all false
set_option maxRecDepth 100000
set_option maxHeartbeats 4000000
/-! The data layer, part 15: raising; new lists by operators; list.count; what an except suite asks of its exception. -/
namespace WW
open PySem PySem.Spec L2

/-! ### raising -/
abbrev bmVE : List Value := [.type "ValueError", .type "Exception", .type "BaseException", .type "object"]
/-- an own exception class without a maker of its own -/
structure XCls (K : PySem.W.Frag) (mg : Str → Option Value) (x : Str) : Prop where
  g : mg x = some (.ref (He.ga K x))
  q : PySem.W.excIn K (He.ga K x) bmVE "ValueError.__new__" = true
  k : PySem.W.keepIn K (.ref (He.ga K x)) = true
  s : PySem.W.subIn K (.ref (He.ga K x)) (.type "BaseException") = some true
  t : PySem.W.typeIn K (.ref (He.ga K x)) = some (.type "type")
def sRaise (x : Str) : DS := fun _ => .exc ⟨x, none⟩
section
variable {X : Cx} {W : WX} {pos p p2 p3 : Pos} {x m : Str} {j : Nat}
theorem ds_raise (T : XCls X.K X.mg x) (hc : X.calm = true) (tk : Takes X W) (hg : Gl X x) (hdb : (x == ("__debug__" : Str)) = false := by decide) : PS X (.Raise (some (.Call (.Name x p) [.Constant (.str m) j p2] [] p3)) none pos) (tS X.K W (sRaise x)) := by
  refine psI (ps_raise hc tk (pmk_own PySem.F.excBase_ValueError T.q T.g T.k (raises_own T.s T.t) hg hdb)) ?_
  rintro D' σ H ⟨B, F, e, R, h⟩
  exact h σ F H _ none e R ⟨rfl, rfl⟩
end

/-! ### new lists by operators -/
def slOf : D → R Sl
  | .lst l => .ok (.l l)
  | _ => .bad
def oCat (da db : DE) : OE := fun e => (da e).bind fun p => (db p.2).bind fun q => (gAdd p.1 q.1).bind fun d => (slOf d).bind fun s => .ok (s, q.2)
def oMul (da db : DE) : OE := fun e => (da e).bind fun p => (db p.2).bind fun q => (gMul p.1 q.1).bind fun d => (slOf d).bind fun s => .ok (s, q.2)
section
variable {X : Cx} {W : WX} {pos p : Pos} {a b : Expr} {da db : DE}
theorem ox_cat (ha : PE X a (tD X.K W da)) (hb : PE X b (tD X.K W db)) : PE X (.BinOp a .Add b pos) (tO X.K W (oCat da db)) := by
  refine peI (pe_op op_cat ha hb) ?_
  rintro σ H Q ⟨B, F, e, R, h⟩
  refine ⟨B, F, e, R, OutD.bind (P := OutO X.K W B F σ Q) oBad oExc h fun dx e1 h1 F1 H1 x R1 s1 rx => ?_⟩
  refine ⟨B, F1, e1, R1, OutD.bind (P := OutO X.K W B F1 σ Q) oBad oExc (OutO.pre s1 h1) fun dy e2 h2 F2 H2 y R2 s2 ry => ?_⟩
  have h3 := OutO.pre s2 h2
  have rx2 := rx.mono s2
  unfold gAdd at h3
  cases dx with
  | lst l =>
    cases dy with
    | lst m =>
      by_cases c : l.length + m.length ≤ LIM
      · simp only [if_pos c] at h3
        obtain ⟨a0, vs, rfl, ha0, ra⟩ := rx2.lst_inv
        obtain ⟨b0, us, rfl, hb0, rb⟩ := ry.lst_inv
        exact ⟨a0, b0, vs, us, rfl, rfl, R2.sub _ _ ha0, R2.sub _ _ hb0, by rw [ra.length, rb.length]; exact lim_line c, fun q hq => h3 _ _ _ (R2.newL hq (ra.app rb)) (Same.refl _)⟩
      · simp only [if_neg c] at h3
        exact h3.elim
    | _ => exact h3.elim
  | int i => cases dy <;> exact h3.elim
  | str i =>
    cases dy with
    | str j =>
      by_cases c : i.length + j.length ≤ LIM
      · simp only [if_pos c] at h3; exact h3.elim
      · simp only [if_neg c] at h3; exact h3.elim
    | _ => exact h3.elim
  | tup i =>
    cases dy with
    | tup j =>
      by_cases c : i.length + j.length ≤ LIM
      · simp only [if_pos c] at h3; exact h3.elim
      · simp only [if_neg c] at h3; exact h3.elim
    | _ => exact h3.elim
  | _ => exact h3.elim
theorem ox_mul (ha : PE X a (tD X.K W da)) (hb : PE X b (tD X.K W db)) : PE X (.BinOp a .Mult b pos) (tO X.K W (oMul da db)) := by
  refine peI (pe_op op_rep ha hb) ?_
  rintro σ H Q ⟨B, F, e, R, h⟩
  refine ⟨B, F, e, R, OutD.bind (P := OutO X.K W B F σ Q) oBad oExc h fun dx e1 h1 F1 H1 x R1 s1 rx => ?_⟩
  refine ⟨B, F1, e1, R1, OutD.bind (P := OutO X.K W B F1 σ Q) oBad oExc (OutO.pre s1 h1) fun dy e2 h2 F2 H2 y R2 s2 ry => ?_⟩
  have h3 := OutO.pre s2 h2
  have rx2 := rx.mono s2
  unfold gMul at h3
  cases dx with
  | lst l =>
    cases dy with
    | int k =>
      by_cases c : l.length * k.toNat ≤ LIM ∧ small k = true
      · simp only [if_pos c] at h3
        obtain ⟨a0, vs, rfl, ha0, ra⟩ := rx2.lst_inv
        obtain ⟨c1, c2⟩ := small_of c.2
        exact ⟨a0, k, vs, rfl, ry.int_inv, R2.sub _ _ ha0, by omega, by omega, by rw [ra.length]; exact lim_line c.1, fun q hq => h3 _ _ _ (R2.newL hq (reps_rep ra _)) (Same.refl _)⟩
      · simp only [if_neg c] at h3
        exact h3.elim
    | _ => exact h3.elim
  | int i =>
    cases dy with
    | int j =>
      by_cases c : (small i || small j) = true
      · simp only [if_pos c] at h3; exact h3.elim
      · simp only [if_neg c] at h3; exact h3.elim
    | _ => exact h3.elim
  | str i =>
    cases dy with
    | int j =>
      by_cases c : i.length * j.toNat ≤ LIM ∧ small j = true
      · simp only [if_pos c] at h3; exact h3.elim
      · simp only [if_neg c] at h3; exact h3.elim
    | _ => exact h3.elim
  | _ => exact h3.elim
end
/-! ### list(x): a new list -/
def gListOf : D → R Sl
  | .lst l => .ok (.l l)
  | .tup l => .ok (.l l)
  | _ => .bad
def asOne : List D → R D
  | [d] => .ok d
  | _ => .bad
def oListOf (da : DA) : OE := fun e => (da e).bind fun p => (asOne p.1).bind fun d => (gListOf d).bind fun s => .ok (s, p.2)
section
variable {X : Cx} {W : WX} {pos p : Pos} {a : Expr} {dr : DA}
theorem ox_list (hg : Gl X "list") (hm : X.mg "list" = none) (ha : PA X [a] (tA X.K W dr)) (hbt : bootBuiltins "list" = some (.type "list") := by decide +kernel) (hs : starEach [a] X.env = (false, eval a X.env) :: starEach [] X.env := by rfl) (hpl : (backTo pos (starEach [] X.env)).any (·.1) = false := by rfl) :
    PE X (.Call (.Name "list" p) [a] [] pos) (tO X.K W (oListOf dr)) := by
  refine peI (pe_callTy call_list_of hg hm hbt ha (by decide) (by decide) hs hpl) ?_
  rintro σ H Q ⟨B, F, e, R, h⟩
  refine ⟨B, F, e, R, OutA.bind (P := OutO X.K W B F σ Q) oBad oExc h fun l e1 h1 F1 H1 xs R1 s1 rs => ?_⟩
  match l, rs, h1 with
  | [], _, h1 => exact h1.elim
  | d :: d' :: r, _, h1 => exact h1.elim
  | [d], rs, h1 =>
    obtain ⟨v, rfl, rv⟩ := reps1 rs
    have h2 : OutO X.K W B F σ Q ((gListOf d).bind fun s => .ok (s, e1)) := h1
    cases d with
    | lst l =>
      obtain ⟨a0, vs, rfl, ha0, ra⟩ := rv.lst_inv
      exact ⟨a0, vs, rfl, .inl (.inl (.inl (R1.sub _ _ ha0))), fun q hq => h2 _ _ _ (R1.newL hq ra) s1⟩
    | tup l =>
      obtain ⟨a0, vs, rfl, ha0, ra⟩ := rv.tup_inv
      exact ⟨a0, vs, rfl, .inr (same_sqT R1.sub ha0), fun q hq => h2 _ _ _ (R1.newL hq ra) s1⟩
    | _ => exact h2.elim
end
/-! ### list.count of flat items -/
def rCountF (K : PySem.W.Frag) : V → List V → Hp → VK → Prop := fun x xs H Q => ∃ (a : Addr) (ys : List V) (y : V), x = V.ref a ∧ xs = [y] ∧ SqL K H a ys ∧ flatV y = true ∧ ys.all flatV = true ∧ Q (.int ((ys.countP fun z => eqV z y : Nat) : Int)) H
theorem countP_U {x : V} : ∀ {xs : List V} {us : List Value}, Vals xs us → xs.all flatV = true → us.countP (eqU x) = xs.countP fun y => eqV y x
  | _, _, .nil, _ => rfl
  | y :: xs, u :: us, .cons r t, f => by
    rw [List.all_cons, Bool.and_eq_true] at f
    rw [List.countP_cons, List.countP_cons, countP_U t f.2, eqU_of r f.1]
theorem mt_countF {X : Cx} : MtR X "list.count" (rCountF X.K) := by
  intro pins s σ H x xs v us Q I rx rxs h
  obtain ⟨a, ys, y, rfl, rfl, hs, fy, fys, q⟩ := h
  cases rx
  obtain ⟨u, rfl, ru⟩ := rxs.one
  obtain ⟨its, rv, ⟨⟨cls, dd, data, sl⟩, n, ho, hc, hdn, hd⟩, hlen⟩ := I.list hs
  simp only at hc hd
  subst hc hd
  refine call_meets PySem.F.slot_list_count ⟨_, ho, rfl⟩ PySem.F.entry_list_count (PySem.F.args_list_count_2 _ _)
    (SeqAt.list_countAt a its.toArray n dd sl u (eqU y)) ⟨ho, fun w hw => mem_eqAt ru fy rv fys w (by simpa using hw), ?_⟩
  refine ⟨.int _, H, I.tok _, ⟨s.toks, ?_⟩, q⟩
  rw [← countP_U rv fys]
def gCount : D → List D → R D
  | .lst l, [x] => if (x.flat && l.all D.flat) = true then .ok (.int ((l.countP fun z => eqFlat z x : Nat) : Int)) else .bad
  | _, _ => .bad
theorem nx_count : ∀ a b x, gCount a b ≠ .exc x := by
  intro a b x h
  unfold gCount at h
  split at h
  · split at h <;> cases h
  · cases h
theorem countP_flat {K : PySem.W.Frag} {F : Hp} {y : V} {x : D} (ry : Rep K F y x) (fx : x.flat = true) : ∀ {vs : List V} {l : List D}, Reps K F vs l → l.all D.flat = true → (vs.countP fun z => eqV z y) = l.countP fun z => eqFlat z x
  | _, _, .nil, _ => rfl
  | _, _, .cons r t, f => by
    rw [List.all_cons, Bool.and_eq_true] at f
    rw [List.countP_cons, List.countP_cons, countP_flat ry fx t f.2, eqFlat_V r ry f.1 fx]
theorem vr_count {K : PySem.W.Frag} : VRm K "list" (rCountF K) gCount := by
  intro F H x dx xs ds Q s rx rs h
  unfold gCount at h
  split at h
  · rename_i l y
    by_cases c : (y.flat && l.all D.flat) = true
    · rw [if_pos c] at h
      obtain ⟨c1, c2⟩ := Bool.and_eq_true_iff.mp c
      obtain ⟨v, rfl, rv⟩ := reps1 rs
      obtain ⟨q, vs, rfl, hq, rl⟩ := rx.lst_inv
      refine ⟨q, vs, v, rfl, rfl, .inl (.inl (s _ _ hq)), by rw [flat_V rv]; exact c1, by rw [flats_V rl]; exact c2, ?_⟩
      rw [countP_flat rv c1 rl c2]
      exact h.flat s fun _ => .int _
    · rw [if_neg c] at h
      exact h.elim
  · exact h.elim

/-! ### what the suite asks of the exception that it holds -/
/-- where the exception keeps its field -/
def DictAt (H : Hp) (d : Option Addr) (x : Exn) : Prop := match x.fld with
  | none => d = none
  | some (f, i) => ∃ dd, d = some dd ∧ H dd = some (.xd [(f, .int i)])
structure XAsk (K : PySem.W.Frag) (c : Str) : Prop where
  hc : (PySem.W.clsIn K (He.ga K c)).isSome = true
  hg : PySem.W.findIn K (.ref (He.ga K c)) "__getattribute__" = some (some (.builtin "BaseException.__getattribute__"))
  hk : PySem.W.findIn K (.ref (He.ga K c)) "__getattr__" = some none
  hs : PySem.W.subIn K (.ref (He.ga K c)) (.type "BaseException") = some true
  ha : PySem.W.findIn K (.ref (He.ga K c)) "__class__" = some (some (.builtin "object.__class__"))
  hn : PySem.W.specialIn K (.builtin "object.__class__") "__get__" = some (some (.builtin "getset_descriptor.__get__"))
  ht : PySem.W.takesIn K (.builtin "object.__class__") = some true
  hm : PySem.W.mroIn K (He.ga K c) (.type "object") = some true
  hd : PySem.W.hasDictIn K (He.ga K c) = true
  f1 : PySem.W.findIn K (.ref (He.ga K c)) "part" = some none
  f2 : PySem.W.findIn K (.ref (He.ga K c)) "number" = some none
  f3 : PySem.W.findIn K (.ref (He.ga K c)) "row" = some none
def rIsX (K : PySem.W.Frag) (D a : Addr) (d : Option Addr) (x : Exn) : List V → Hp → VK → Prop := fun xs H Q => ∃ (c : V) (cv : Value) (b : Bool), xs = [.ref a, c] ∧ (∀ u, RelV c u → u = cv) ∧ PySem.W.kitOne K (.ref D) cv = some b ∧ DictAt H d x ∧ Q (.bl b) H
theorem call_isX {X : Cx} {a : Addr} {oe : Obj} {cls : Value} {d : Option Addr} {pn : List (Addr × Obj)} {x : Exn} (C : XAsk X.K x.cls) (hz : Zc cls d oe) (hf : ∃ vs, oe.data = .fields vs) (hcls : cls = .ref (He.ga X.K x.cls)) : CallR (X.suite a ((a, oe) :: pn)) (.builtin "isinstance") (rIsX X.K (He.ga X.K x.cls) a d x) := by
  intro pins s σ H xs us Q I r h
  obtain ⟨c, cv, b, rfl, hcv, e, hD, q⟩ := h
  cases r with
  | cons rx rr =>
    cases rr with
    | cons rt rr =>
      cases rr
      cases rx
      have ec := hcv _ rt
      subst ec
      obtain ⟨hget, _⟩ := I.pin (a, oe) (List.mem_append.mpr (.inl List.mem_cons_self))
      obtain ⟨vs, hv⟩ := hf
      have J : ∃ od, PySem.W.InstAt s.heap a oe (He.ga X.K x.cls) od := by
        obtain ⟨oc, odd, oda, osl⟩ := oe
        obtain ⟨h1, h2⟩ := hz
        dsimp only at h1 h2 hv
        subst h1 h2 hv hcls
        obtain ⟨xc, xf⟩ := x
        cases xf with
        | none =>
          have hD' : odd = none := hD
          subst hD'
          exact ⟨none, hget, rfl, rfl, trivial⟩
        | some p =>
          obtain ⟨f, i⟩ := p
          obtain ⟨dd, e1, e2⟩ := hD
          have e1 : odd = some dd := e1
          subst e1
          have ok := I.hok dd _ e2
          obtain ⟨o, ho⟩ : ∃ o, s.heap.get? dd = some o := by
            obtain ⟨_, ⟨o, _, _, z, _⟩, _⟩ := ok
            exact ⟨o, z⟩
          exact ⟨some o, hget, rfl, rfl, ho⟩
      obtain ⟨od, J⟩ := J
      exact PySem.W.kia_one (PySem.W.kitx_exc C.hc C.hg C.hk C.hs C.ha C.hn C.ht C.hm) I.kIn J e (fun z => nomatch z) fun tk => ⟨.bl b, H, I.kept (t' := tk) fun _ _ z => z, rfl, q⟩
def exAt (i : Nat) (a : Addr) (d : Option Addr) (x : Exn) (e : En) : Bool := match nth e i with
  | some (.exn a' d' x') => decide (a' = a) && (decide (d' = d) && decide (x' = x))
  | _ => false
def dIsE (i : Nat) (a : Addr) (d : Option Addr) (x : Exn) (b : Bool) : DE := fun e => if exAt i a d x e = true then .ok (.bl b, e) else .bad
def dExF (i : Nat) (a : Addr) (d : Option Addr) (x : Exn) (f : Str) : DE := fun e => if exAt i a d x e = true then (match x.fld with
  | some (g, k) => if g = f then .ok (.int k, e) else .bad
  | none => .bad) else .bad
theorem exAt_ok {K : PySem.W.Frag} {B : Bs} {F H : Hp} {σ : St} {e : En} {i : Nat} {a : Addr} {d : Option Addr} {x : Exn} (R : Rl K B F H σ e) (h : exAt i a d x e = true) : σ[i]? = some (some (.ref a)) ∧ DictAt H d x := by
  unfold exAt at h
  split at h
  · rename_i a' d' x' hs
    obtain ⟨h1, h2⟩ := Bool.and_eq_true_iff.mp h
    obtain ⟨h3, h4⟩ := Bool.and_eq_true_iff.mp h2
    have e1 := of_decide_eq_true h1
    have e2 := of_decide_eq_true h3
    have e3 := of_decide_eq_true h4
    subst e1 e2 e3
    obtain ⟨l, ex, fp, S⟩ := id R
    obtain ⟨v, hv, _, rfl, hd⟩ := S.ok i _ hs
    exact ⟨hv, hd⟩
  · cases h
section
variable {X : Cx} {W : WX} {a : Addr} {oe : Obj} {cls : Value} {d : Option Addr} {pn : List (Addr × Obj)} {x : Exn} {n y : Str} {pos p pe py : Pos}
theorem dx_isE (i : Nat) (b : Bool) {cv : V} {u : Value} (C : XAsk X.K x.cls) (hz : Zc cls d oe) (hf : ∃ vs, oe.data = .fields vs) (hcls : cls = .ref (He.ga X.K x.cls)) (hgI : Gl X "isinstance") (hmI : X.mg "isinstance" = none) (hy : PE (X.suite a ((a, oe) :: pn)) (.Name y py) (tC cv)) (hcv : ∀ w, RelV cv w → w = u) (hk : PySem.W.kitOne X.K (.ref (He.ga X.K x.cls)) u = some b)
    (hN : X.N[i]? = some n := by rfl) (hv : Vis X.env.scope n := by first | exact Or.inl rfl | exact Or.inr (Or.inl rfl) | exact Or.inr (Or.inr rfl)) (hd : (n == ("__debug__" : Str)) = false := by decide) (hcd : (n == ("__classdict__" : Str)) = false := by decide)
    (hbI : bootBuiltins "isinstance" = some (.builtin "isinstance") := by decide +kernel) (he : starEach [.Name n pe, .Name y py] X.env = (false, eval (.Name n pe) X.env) :: starEach [.Name y py] X.env := by rfl) (hpl : (backTo pos (starEach [.Name y py] X.env)).any (·.1) = false := by rfl)
    (he2 : starEach [.Name y py] X.env = (false, eval (.Name y py) X.env) :: starEach [] X.env := by rfl) :
    PE (X.suite a ((a, oe) :: pn)) (.Call (.Name "isinstance" p) [.Name n pe, .Name y py] [] pos) (tD X.K W (dIsE i a d x b)) := by
  refine peI (pe_callB (X := X.suite a ((a, oe) :: pn)) (call_isX C hz hf hcls) hgI hmI hbI (pa_cons (pe_var (i := i) hN hv hd hcd) (pa_cons hy pa_nil he2) he) (by decide) (by decide) he hpl) ?_
  rintro σ H Q ⟨B, F, e, R, h⟩
  unfold dIsE at h
  by_cases c : exAt i a d x e = true
  · rw [if_pos c] at h
    obtain ⟨h1, h2⟩ := exAt_ok R c
    exact ⟨.ref a, h1, cv, u, b, rfl, hcv, hk, h2, h F H _ R (Same.refl _) (.bl b)⟩
  · rw [if_neg c] at h
    exact h.elim
theorem dx_exF (i : Nat) (f : Str) (C : XAsk X.K x.cls) (hno : PySem.W.findIn X.K (.ref (He.ga X.K x.cls)) f = some none) (hz : Zc cls d oe) (hf : ∃ vs, oe.data = .fields vs) (hcls : cls = .ref (He.ga X.K x.cls))
    (hN : X.N[i]? = some n := by rfl) (hv : Vis X.env.scope n := by first | exact Or.inl rfl | exact Or.inr (Or.inl rfl) | exact Or.inr (Or.inr rfl)) (hd : (n == ("__debug__" : Str)) = false := by decide) (hcd : (n == ("__classdict__" : Str)) = false := by decide)
    (hb : attributeBase (.Name n pe) f X.env (eval (.Name n pe) X.env) = eval (.Name n pe) X.env := by rfl) : PE (X.suite a ((a, oe) :: pn)) (.Attribute (.Name n pe) f pos) (tD X.K W (dExF i a d x f)) := by
  refine peI (pe_xf ⟨C.hg, C.hk, C.hs, C.hd⟩ hno hz hf (pe_var (X := X.suite a ((a, oe) :: pn)) (i := i) hN hv hd hcd) hb) ?_
  rintro σ H Q ⟨B, F, e, R, h⟩
  unfold dExF at h
  by_cases c : exAt i a d x e = true
  · rw [if_pos c] at h
    obtain ⟨h1, h2⟩ := exAt_ok R c
    obtain ⟨xc, xf⟩ := x
    cases xf with
    | none => exact h.elim
    | some q =>
      obtain ⟨g, k⟩ := q
      simp only at h
      by_cases cg : g = f
      · rw [if_pos cg] at h
        subst cg
        obtain ⟨dd, e1, e2⟩ := h2
        exact ⟨.ref a, h1, rfl, hcls, dd, _, .int k, e1, e2, by simp [List.lookup], h F H _ R (Same.refl _) (.int k)⟩
      · rw [if_neg cg] at h
        exact h.elim
  · rw [if_neg c] at h
    exact h.elim
end
end WW
set_option Elab.async false
set_option linter.all false
set_option maxRecDepth 100000
set_option maxHeartbeats 4000000
/-! The data layer, part 16: what a def tells that calls the lambda it gets, and catches. -/
namespace WW
open PySem PySem.Spec L2

def exNames : List Str := ["BadCells", "BadCount", "BadPlan", "BadText", "BadWay", "BadWish", "NoTurn", "NoWay", "TooMany"]
def exField (c : Str) : Option Str := if c = "BadPlan" then some "part" else if c = "BadWay" then some "number" else if c = "BadText" then some "row" else none
def okX (x : Exn) : Bool := decide (x.cls ∈ exNames) && decide (x.fld.map (·.1) = exField x.cls)
def toldD (x : Exn) : D := .tup [.str x.cls, .int (match x.fld with
  | some (_, i) => i
  | none => 0)]
/-- what the head says of the exception classes -/
structure ExT (K : PySem.W.Frag) (mg : Str → Option Value) : Prop where
  w : mg "WallError" = some (.ref (He.ga K "WallError"))
  glo : ∀ c ∈ exNames, mg c = some (.ref (He.ga K c))
  ex : ∀ c ∈ exNames, PySem.W.exmOne K (.ref (He.ga K c)) (.ref (He.ga K "WallError")) = some true
  ask : ∀ c ∈ exNames, XAsk K c
  kit : ∀ c ∈ exNames, ∀ y ∈ exNames, PySem.W.kitOne K (.ref (He.ga K c)) (.ref (He.ga K y)) = some (decide (c = y))
  kitV : ∀ c ∈ exNames, PySem.W.kitOne K (.ref (He.ga K c)) (.type "ValueError") = some true
  mgV : mg "ValueError" = none
  mgI : mg "isinstance" = none
def TToldW (K : PySem.W.Frag) : (XK → Hp → VK → Prop) → Hp → VK → Prop := fun tl H Q =>
  tl (fun cls d H' => ∃ F x, Same F H' ∧ okX x = true ∧ ExOk K H' x cls d ∧ ∀ F2 H2 v, Ext K NoA F H' F2 H2 → Rep K F2 v (toldD x) → Q v H2) H Q
theorem takes_len {X : Cx} {W W' : WX} (t : Takes X W) (h : ∀ cls d σ H, σ.length = X.N.length → W' cls d σ H → W cls d σ H) : Takes X W' := fun u s' ⟨a, B, sI, pins, σ, H, cls, d, e, I, nb, up, sky, na, os, ag, w⟩ =>
  t u s' ⟨a, B, sI, pins, σ, H, cls, d, e, I, nb, up, sky, na, os, ag, h _ _ _ _ I.len w⟩
/-- the suite's slots -/
def suiteE (n : Nat) (a : Addr) (d : Option Addr) (x : Exn) : En := none :: some (.exn a d x) :: List.replicate n none
theorem rl_suite {K : PySem.W.Frag} {F H : Hp} {σ : St} {n : Nat} {a : Addr} {d : Option Addr} {x : Exn} (s : Same F H) (hl : σ.length = n + 2) (hd : DictAt H d x) : Rl K ⟨F, H, NoA, .non⟩ F H (σ.set 1 (some (.ref a))) (suiteE n a d x) := by
  refine ⟨?_, Ext.refl s, fun _ _ => False, fun i t ht => ?_, fun _ _ z => z.elim, fun _ _ _ z => z.elim, fun i t u ht hl hu => ?_⟩
  · unfold suiteE
    rw [List.length_set, List.length_cons, List.length_cons, List.length_replicate, hl]
  · match i, ht with
    | 0, ht => cases ht
    | 1, ht =>
      have h2 : some (Sl.exn a d x) = some t := ht
      injection h2 with h2
      subst h2
      refine ⟨.ref a, List.getElem?_set_self (by omega), fun _ z => z, rfl, hd⟩
    | i + 2, ht =>
      have h2 : nth (List.replicate n (none : Option Sl)) i = some t := ht
      have : ∀ (m j : Nat), nth (List.replicate m (none : Option Sl)) j = none := by
        intro m
        induction m with
        | zero => intro j; rfl
        | succ m ih =>
          intro j
          cases j with
          | zero => rfl
          | succ j => exact ih j
      rw [this] at h2
      cases h2
  · match i, ht with
    | 0, ht => cases ht
    | 1, ht =>
      have h2 : some (Sl.exn a d x) = some t := ht
      injection h2 with h2
      subst h2
      cases hl
    | i + 2, ht =>
      have h2 : nth (List.replicate n (none : Option Sl)) i = some t := ht
      have : ∀ (m j : Nat), nth (List.replicate m (none : Option Sl)) j = none := by
        intro m
        induction m with
        | zero => intro j; rfl
        | succ m ih =>
          intro j
          cases j with
          | zero => rfl
          | succ j => exact ih j
      rw [this] at h2
      cases h2
/-- try: return work() / except WallError as e: suite -/
theorem told_by {X : Cx} {Ng : List Str} {n : Nat} {x a y en q : Str} {sg : Scope} {g : Addr} {cdg : Value} {b0 : Stmt} {suite : List Stmt} {p1 p2 p3 p4 p6 p8 : Pos} {den : Addr → Option Addr → Exn → DS} (ET : ExT X.K X.mg) (hlen : Ng.length = n + 2) (hN : Ng.Nodup) (hi : Ng[1]? = some en)
    (hln : sg.names.lookup en = some .local) (hge : sg.names.lookup ("WallError" : Str) = some .globalImplicit) (h0 : ∀ f : Addr, (L2.start Ng [V.ref f])[0]? = some (some (V.ref f)))
    (hden : ∀ a d x, okX x = true → ∃ e, den a d x (suiteE n a d x) = .ret (toldD x) e)
    (hsu : ∀ (f : Addr) (s : Shared) (H : Hp) (a : Addr) (oe : Obj) (cls : Value) (d : Option Addr) (pn : List (Addr × Obj)) (x0 : Exn), Zc cls d oe → (∃ vs, oe.data = .fields vs) → okX x0 = true → cls = .ref (He.ga X.K x0.cls) →
      PSs (((cxOf C8.CX0 X.prog X.w X.K X.mg X.base Ng x sg g cdg X.A X.stack s H C8.E0).nox).suite a ((a, oe) :: pn)) (b0 :: suite) (tS X.K WF (den a d x0))) :
    LamX.GivesTo X Ng x sg g cdg [.Try [.Return (some (.Call (.Name a p1) [] [] p2)) p3] [.ExceptHandler (some (.Name "WallError" p4)) (some en) (b0 :: suite) p6] [] [] p8] a q (TToldW X.K) := by
  intro f c' s H Q tl act hc h
  have hgl : Gl (cxOf C8.CX0 X.prog X.w X.K X.mg X.base Ng x sg g cdg X.A X.stack s H C8.E0).nox "WallError" := hge
  refine ⟨_, pss_one (ps_try_as (X := (cxOf C8.CX0 X.prog X.w X.K X.mg X.base Ng x sg g cdg X.A X.stack s H C8.E0).nox) (c := .ref (He.ga X.K "WallError")) (i := 1)
      (tb := fun W D σ H => ∃ Ech : XK, (∀ cls d σ' H', σ'.length = n + 2 → Ech cls d H' → W cls d σ' H') ∧ σ[0]? = some (some (.ref f)) ∧ H c' = some (LamX.CodeO c' q) ∧ tl Ech H D.rt)
      (ts := fun a cls d D' σ H => ∃ x0, okX x0 = true ∧ cls = .ref (He.ga X.K x0.cls) ∧ tS X.K WF (den a d x0) D' σ H)
      rfl rfl hN hi hln ⟨hgl, by decide, .inl ET.w⟩ LamX.takes0 (fun W pn xe tk _ => ?_) (fun a oe cls d pn hz hf => ?_)), ?_⟩
  · refine ⟨fun pins s' σ H' D I h' => ?_⟩
    obtain ⟨Ech, hW, h1, h2, h3⟩ := h'
    have hp := act (fun cls d _ H' => Ech cls d H') pn xe Ech p1 p2 (takes_len tk fun cls d σ2 H2 hl z => hW cls d σ2 H2 (by rw [hl]; exact hlen) z) (fun _ _ _ _ z => z)
    have hq := pss_one (ps_ret (pos := p3) hp)
    exact hq.run pins s' σ H' D I ⟨h1, h2, h3⟩
  · refine ⟨fun pins s' σ H' D I h' => ?_⟩
    obtain ⟨x0, hx, hcls, h2⟩ := h'
    exact (hsu f s H a oe cls d pn x0 hz hf hx hcls).run pins s' σ H' D I h2
  · refine ⟨_, fun cls d σ' H' hl ⟨F, x0, sm, hx, hE, fin⟩ => ?_, h0 f, hc, h⟩
    have hmem : x0.cls ∈ exNames := of_decide_eq_true (Bool.and_eq_true_iff.mp hx).1
    refine ⟨true, by rw [hE.1]; exact ET.ex _ hmem, fun _ a0 _ => ⟨x0, hx, hE.1, ⟨F, H', NoA, .non⟩, F, suiteE n a0 d x0, rl_suite sm hl hE.2, ?_⟩, fun z => by cases z⟩
    obtain ⟨e, he⟩ := hden a0 d x0 hx
    rw [he]
    exact fun F2 H2 σ2 v R rv => fin F2 H2 v R.ext rv

/-! ### the call with a lambda -/
def dToldR (r : R D) (e : En) : R (D × En) := match r with
  | .ok d => .ok (d, e)
  | .exc x => if okX x = true then .ok (toldD x, e) else .bad
  | .bad => .bad
/-- told(lambda: f(..)); slot i stands for the tables -/
def dTold (i : Nat) (f : List D → R D) (da : DA) : DE := fun e => match nth e i with
  | some .tab => (da e).noX.bind fun p => dToldR (f p.1) p.2
  | _ => .bad
/-- the told def, as the head has it -/
structure ToldF (X : Cx) (q : Str) (x : Str) : Prop where
  ex : ∃ (g : Addr) (pg : Arguments) (bg : List Stmt) (sg : Scope) (dV kV doc pm cdv ct oc : Value) (an od : Option Addr) (osl : Array (Option Value)) (Ng : List Str) (a : Str), X.mg x = some (.ref g) ∧ PySem.W.keepIn X.K (.ref g) = true ∧ X.K.lookup g = some ⟨oc, od, .func (PySem.W.fnOf x x pg bg sg dV kV doc pm an cdv ct), osl⟩ ∧ PySem.W.codeIn X.K cdv x = true ∧
    L2.Binds X.K (PySem.W.fnOf x x pg bg sg dV kV doc pm an cdv ct) [a] [] ∧ FnScope Ng [a] sg ∧ Ng[0]? = some a ∧ Vis sg a ∧ (a == ("__debug__" : Str)) = false ∧ (a == ("__classdict__" : Str)) = false ∧ LamX.GivesTo X Ng x sg g cdv bg a q (TToldW X.K)
/-- the tables' place -/
structure TabF (X : Cx) : Prop where
  ex : ∃ c P, tabA X.K (He.ga X.K lamName) = some (c, P) ∧ LamX.TabB X.base X.mg c P ∧ X.env.code = .ref c
  q : X.env.qual ++ "<lambda>" = lamQual
theorem rl_lam {K : PySem.W.Frag} {B : Bs} {F H H1 : Hp} {σ : St} {e : En} {i : Nat} {c P : Addr} (R : Rl K B F H σ e) (hs : nth e i = some .tab) (ht : tabA K (He.ga K lamName) = some (c, P)) (x : LamX.ExtN H H1) (t : LamX.TabS H1 P lamQual) : Rl K B F H1 σ e := by
  obtain ⟨l, ex, fp, S⟩ := id R
  obtain ⟨v, hv, _, nt, tb⟩ := S.ok i _ hs
  refine R.step ⟨fun a o h => x _ _ (R.sub _ _ h) fun ps z => nt a ps (by rw [h, z]), Same.refl _, fun a o h _ n => x _ _ h n, fun a o h c => ⟨o, x _ _ h c, c⟩, fun a o h => .inl h, fun h => h, fun P' q' hP' _ => ?_, fun a fs h => x _ _ h fun ps z => by cases z⟩
  obtain ⟨⟨c', h1⟩, h2⟩ := hP'
  rw [ht] at h1
  injection h1 with h1
  injection h1 with h1 h3
  rw [h2, ← h3]
  exact t
section
variable {X : Cx} {W : WX}
/-- told(lambda: f(e, ..)) -/
theorem dx_told {k kc n i : Nat} {fn : Str} {ps : List Str} {f : List D → R D} {x : Str} {ex : Expr} {es : List Expr} {dr : DA} {params : Arguments} {scope : Scope} {p pf pc lpos pos : Pos} (i : Nat) (ET : TabF X) (TF : ToldF X lamQual x) (G : GFn X.prog X.w X.K X.mg X.base fn kc ps (spD X.K n f)) (hkc : kc ≤ k) (hr : Room (k + 2) X.A) (hg : Gl X x)
    (L : LamX.LamS X.env.scope scope) (hgf : ∀ (A : Around) (outer : List Env) (s : Shared) (H : Hp) (E : XK) (fa c' : Addr), Gl (LamX.lamCx X A outer s H E scope fa c') fn) (hdef : defaultsOf params X.env = ([], []))
    (hbind : ∀ (q : Str) (cl : List (Str × Addr)) (pm cv ctv : Value), bindArgs (PySem.W.kla_fn "<lambda>" q params (.Call (.Name fn pf) (ex :: es) [] pc) scope cl pm cv ctv) ⟨[], []⟩ = pure [])
    (ha : ∀ (A : Around) (outer : List Env) (s : Shared) (H : Hp) (E : XK) (fa c' : Addr), PA (LamX.lamCx X A outer s H E scope fa c') (ex :: es) (tA X.K WF dr)) (hl : ∀ e p, dr e = .ok p → p.1.length = n)
    (he : ∀ (A : Around) (outer : List Env) (s : Shared) (H : Hp) (E : XK) (fa c' : Addr), starEach (ex :: es) (LamX.lamCx X A outer s H E scope fa c').env = (false, eval ex (LamX.lamCx X A outer s H E scope fa c').env) :: starEach es (LamX.lamCx X A outer s H E scope fa c').env := by intro _ _ _ _ _ _ _; rfl)
    (hpl : ∀ (A : Around) (outer : List Env) (s : Shared) (H : Hp) (E : XK) (fa c' : Addr), (backTo pc (starEach es (LamX.lamCx X A outer s H E scope fa c').env)).any (·.1) = false := by intro _ _ _ _ _ _ _; rfl)
    (hdb : (x == ("__debug__" : Str)) = false := by decide) (hdbf : (fn == ("__debug__" : Str)) = false := by decide) :
    PE X (.Call (.Name x p) [.Lambda params (.Call (.Name fn pf) (ex :: es) [] pc) scope lpos] [] pos) (tD X.K W (dTold i f dr)) := by
  obtain ⟨c, P, ht, TB, hcode⟩ := ET.ex
  obtain ⟨g, pg, bg, sg, dV, kV, doc, pm, cdv, ct, oc, an, od, osl, Ng, a, hm, hk, lk, hcg, hb, Sg, hNg, hva, hda, hcda, hG⟩ := TF.ex
  obtain ⟨ff, fd, Fn, hmf, hkf, hbf⟩ := G.ex
  rw [← ET.q] at hG
  refine peI (LamX.pe_lamcall (T := [(P, X.env.qual ++ "<lambda>")]) (t := fun E => tCall (spD X.K n f) [] E (tA X.K WF dr)) hg hm hk lk hcg hb Sg hNg hva hG TB hcode (List.mem_singleton.mpr rfl) (fun q hq _ => by rw [List.mem_singleton.mp hq]) hr L hdef hbind (fun A outer s H E fa c' hr2 => ?_) hdb hda hcda) ?_
  · exact pe_call (X := LamX.lamCx X A outer s H E scope fa c') (CX := L2.CX X.prog X.w) (E := E) Fn (hr2.mono hkc) (hgf A outer s H E fa c') hmf hkf hbf .nil (passes_call (takes_of rfl rfl rfl rfl) fun _ _ _ _ z => z) (ha A outer s H E fa c') hdbf (he A outer s H E fa c') (hpl A outer s H E fa c')
  rintro σ H Q ⟨B, F, e, R, h⟩
  unfold dTold at h
  cases hs : nth e i with
  | none => rw [hs] at h; exact h.elim
  | some s =>
    rw [hs] at h
    cases s with
    | tab =>
      simp only at h
      obtain ⟨_, _, fp, S⟩ := id R
      obtain ⟨v, hv, _, nt, tb⟩ := S.ok i _ hs
      have tP : TabP X.K P lamQual := ⟨⟨c, ht⟩, rfl⟩
      refine ⟨fun q hq => ?_, fun H1 xN t1 => ?_⟩
      · rw [List.mem_singleton.mp hq, ET.q]
        exact tb P lamQual tP
      · have t2 : LamX.TabS H1 P lamQual := by
          have := t1 _ (List.mem_singleton.mpr rfl)
          rw [ET.q] at this
          exact this
        have R1 := rl_lam R hs ht xN t2
        refine ⟨B, F, e, R1, ?_⟩
        cases q : dr e with
        | bad => rw [q] at h; exact h.elim
        | exc z => rw [q] at h; exact h.elim
        | ok pr =>
          rw [q] at h
          obtain ⟨l, e1⟩ := pr
          intro F2 H2 vs R2 s2 rs
          rw [List.append_nil]
          refine ⟨F2, l, R2.sub, rs, hl e _ q, ?_⟩
          have h1 : OutD X.K W B F σ Q (dToldR (f l) e1) := h
          cases q2 : f l with
          | bad => rw [q2] at h1; exact h1.elim
          | ok d =>
            rw [q2] at h1
            exact fun F3 H3 v x3 rv => h1 F3 H3 v (R2.step x3) (s2.trans x3.fr) rv
          | exc z =>
            rw [q2] at h1
            have h2 : OutD X.K W B F σ Q (if okX z = true then .ok (toldD z, e1) else .bad) := h1
            by_cases cz : okX z = true
            · rw [if_pos cz] at h2
              intro F3 H3 cl dd x3 hE
              exact ⟨F3, z, x3.sub, cz, hE, fun F4 H4 v x4 rv => h2 F4 H4 v ((R2.step x3).step x4) ((s2.trans x3.fr).trans x4.fr) rv⟩
            · rw [if_neg cz] at h2
              exact h2.elim
    | _ => exact h.elim
end
end WW
set_option Elab.async false
set_option linter.all false
set_option maxRecDepth 100000
set_option maxHeartbeats 4000000
/-! The data layer, part 17: dicts whose keys are numbers and texts. -/
namespace WW
open PySem PySem.Spec L2

def keyOf : D → Option Key
  | .int i => some (.inl i)
  | .str z => some (.inr z)
  | _ => none
theorem keyOf_V {K : PySem.W.Frag} {F : Hp} {v : V} {d : D} {k : Key} (r : Rep K F v d) (h : keyOf d = some k) : v = kV k := by
  cases r <;> first | cases h | skip
  · rfl
  · rfl
def getK : List (Key × D) → Key → Option D
  | [], _ => none
  | (j, d) :: r, k => if j = k then some d else getK r k
def putD : List (Key × D) → Key → D → List (Key × D)
  | [], k, d => [(k, d)]
  | (j, x) :: r, k, d => if j = k then (j, d) :: r else (j, x) :: putD r k d
def dropD (kvs : List (Key × D)) (k : Key) : List (Key × D) := kvs.filter fun kv => decide (kv.1 ≠ k)
/-- the keys are the same, the values lie as told -/
inductive RepK (K : PySem.W.Frag) (F : Hp) : List (Key × V) → List (Key × D) → Prop
  | nil : RepK K F [] []
  | cons {k : Key} {v : V} {d : D} {kv : List (Key × V)} {kvs : List (Key × D)} : Rep K F v d → RepK K F kv kvs → RepK K F ((k, v) :: kv) ((k, d) :: kvs)
section
variable {K : PySem.W.Frag} {F : Hp}
theorem RepK.of : ∀ {kv : List (Key × V)} {kvs : List (Key × D)}, kv.map (·.1) = kvs.map (·.1) → Reps K F (kv.map (·.2)) (kvs.map (·.2)) → RepK K F kv kvs
  | [], [], _, _ => .nil
  | [], _ :: _, h, _ => by simp at h
  | _ :: _, [], h, _ => by simp at h
  | (k, v) :: kv, (j, d) :: kvs, h, r => by
    rw [List.map_cons, List.map_cons] at h
    injection h with h1 h2
    have h1 : k = j := h1
    subst h1
    cases r with
    | cons r t => exact .cons r (RepK.of h2 t)
theorem RepK.keys : ∀ {kv : List (Key × V)} {kvs : List (Key × D)}, RepK K F kv kvs → kv.map (·.1) = kvs.map (·.1)
  | _, _, .nil => rfl
  | _, _, .cons _ t => by rw [List.map_cons, List.map_cons, t.keys]
theorem RepK.vals : ∀ {kv : List (Key × V)} {kvs : List (Key × D)}, RepK K F kv kvs → Reps K F (kv.map (·.2)) (kvs.map (·.2))
  | _, _, .nil => .nil
  | _, _, .cons r t => .cons r t.vals
theorem RepK.len : ∀ {kv : List (Key × V)} {kvs : List (Key × D)}, RepK K F kv kvs → kv.length = kvs.length
  | _, _, .nil => rfl
  | _, _, .cons _ t => congrArg (· + 1) t.len
theorem RepK.get {k : Key} : ∀ {kv : List (Key × V)} {kvs : List (Key × D)}, RepK K F kv kvs → match getK kvs k with
    | some d => ∃ v, valV kv k = some v ∧ Rep K F v d
    | none => valV kv k = none
  | _, _, .nil => rfl
  | _, _, .cons (k := j) (v := v) (d := d) (kv := kv) (kvs := kvs) r t => by
    show match (if j = k then some d else getK kvs k) with
      | some d => ∃ v', valV ((j, v) :: kv) k = some v' ∧ Rep K F v' d
      | none => valV ((j, v) :: kv) k = none
    by_cases e : j = k
    · rw [if_pos e]
      exact ⟨v, valV_pos (p := (j, v)) e, r⟩
    · rw [if_neg e, valV_neg (p := (j, v)) e]
      exact t.get
theorem RepK.put {k : Key} {v : V} {d : D} (r : Rep K F v d) : ∀ {kv : List (Key × V)} {kvs : List (Key × D)}, (kvs.map (·.1)).Nodup → RepK K F kv kvs → RepK K F (putK kv k v) (putD kvs k d) := by
  intro kv kvs nd q
  have key : ∀ {kv : List (Key × V)} {kvs : List (Key × D)}, (kvs.map (·.1)).Nodup → RepK K F kv kvs → RepK K F (if (valV kv k).isSome = true then kv.map (fun p => if p.1 = k then (p.1, v) else p) else kv ++ [(k, v)]) (putD kvs k d) := by
    intro kv kvs nd q
    induction q with
    | nil => exact .cons r .nil
    | @cons j u x kv kvs r0 t ih =>
      rw [List.map_cons, List.nodup_cons] at nd
      unfold putD
      by_cases e : j = k
      · rw [if_pos e, valV_pos (p := (j, u)) e]
        simp only [Option.isSome_some, if_true, List.map_cons, if_pos e]
        have same : kv.map (fun p => if p.1 = k then (p.1, v) else p) = kv := by
          have nk : ∀ p ∈ kv, p.1 ≠ k := fun p hp z => nd.1 (by
            rw [← t.keys, e, ← z]
            exact List.mem_map.mpr ⟨p, hp, rfl⟩)
          clear ih nd t
          induction kv with
          | nil => rfl
          | cons p kv ih2 =>
            rw [List.map_cons, if_neg (nk p List.mem_cons_self), ih2 fun p hp => nk p (List.mem_cons_of_mem _ hp)]
        rw [same]
        exact .cons r t
      · rw [if_neg e, valV_neg (p := (j, u)) e]
        have ih2 := ih nd.2
        by_cases c : (valV kv k).isSome = true
        · rw [if_pos c] at ih2 ⊢
          rw [List.map_cons]
          simp only [if_neg e]
          exact .cons r0 ih2
        · rw [if_neg c] at ih2 ⊢
          rw [List.cons_append]
          exact .cons r0 ih2
  have h := key nd q
  unfold putK
  rw [valV_any]
  exact h
theorem RepK.drop {k : Key} : ∀ {kv : List (Key × V)} {kvs : List (Key × D)}, RepK K F kv kvs → RepK K F (dropK kv k) (dropD kvs k)
  | _, _, .nil => .nil
  | _, _, .cons (k := j) (v := v) (d := d) (kv := kv) (kvs := kvs) r t => by
    unfold dropK dropD
    rw [List.filter_cons, List.filter_cons]
    by_cases e : j = k
    · have a : ¬ decide (j ≠ k) = true := by simp [e]
      rw [if_neg a, if_neg a]
      exact t.drop
    · have a : decide (j ≠ k) = true := by simp [e]
      rw [if_pos a, if_pos a]
      exact .cons r t.drop
end
theorem Rl.ownD {K : PySem.W.Frag} {B : Bs} {F H : Hp} {σ : St} {e : En} {i : Nat} {b : Bool} {kvs : List (Key × D)} (R : Rl K B F H σ e) (hs : nth e i = some (.dc b kvs)) :
    ∃ p kv, σ[i]? = some (some (.ref p)) ∧ H p = some (.dK kv) ∧ RepK K F kv kvs ∧ ∀ kv' kvs' e', RepK K F kv' kvs' → setE e i (some (.dc b kvs')) = some e' → Rl K B F (upd H p (.dK kv')) σ e' := by
  obtain ⟨l, ex, fp, S⟩ := id R
  obtain ⟨v, hv, p, kv, rfl, hA, hp, en, r⟩ := S.ok i _ hs
  obtain ⟨fn, _⟩ := S.own i p ((hA p).mpr rfl)
  refine ⟨p, kv, hv, hp, .of en r, fun kv' kvs' e' r' he => R.change hs hv he (fun A okA hF => ?_) (fun z => z)⟩
  obtain ⟨p2, kv2, e1, hA2, hp2, _⟩ := okA
  injection e1 with e1
  subst e1
  exact ⟨A, Ext.own1 R.sub fn ((hA2 _).mpr rfl) hp .dK, ⟨p, _, rfl, hA2, upd_same, r'.keys, r'.vals⟩, fun a z => ⟨hF a z, .inl z⟩⟩
/-- the dict in slot i, own or frozen -/
def dcAt (e : En) (i : Nat) : R (List (Key × D)) := match nth e i with
  | some (.dc _ kvs) => .ok kvs
  | some (.v (.dct ks l)) => if ks.length = l.length then .ok (ks.zip l) else .bad
  | _ => .bad
theorem dcAt_nx {e : En} {i : Nat} {x : Exn} : dcAt e i ≠ .exc x := by
  intro h
  unfold dcAt at h
  split at h
  · cases h
  · split at h <;> cases h
  · cases h
theorem dcAt_ok {K : PySem.W.Frag} {B : Bs} {F H : Hp} {σ : St} {e : En} {i : Nat} {kvs : List (Key × D)} (R : Rl K B F H σ e) (h : dcAt e i = .ok kvs) : ∃ q kv, σ[i]? = some (some (.ref q)) ∧ H q = some (.dK kv) ∧ RepK K F kv kvs := by
  unfold dcAt at h
  split at h
  · rename_i b ys hs
    injection h with h
    subst h
    obtain ⟨q, kv, h1, h2, h3, _⟩ := R.ownD hs
    exact ⟨q, kv, h1, h2, h3⟩
  · rename_i ks l hs
    by_cases c : ks.length = l.length
    · rw [if_pos c] at h
      injection h with h
      subst h
      obtain ⟨_, ex, fp, S⟩ := id R
      obtain ⟨v, hv, r, _⟩ := S.ok i _ hs
      obtain ⟨q, kv, rfl, hq, en, rs⟩ := r.dct_inv
      refine ⟨q, kv, hv, R.sub _ _ hq, .of ?_ ?_⟩
      · rw [en, List.map_fst_zip (by omega)]
      · rw [List.map_snd_zip (by omega)]
        exact rs
    · rw [if_neg c] at h
      cases h
  · cases h
def isDc (e : En) (i : Nat) : Bool := match dcAt e i with
  | .ok _ => true
  | _ => false
theorem isDc_ok {K : PySem.W.Frag} {B : Bs} {F H : Hp} {σ : St} {e : En} {i : Nat} (R : Rl K B F H σ e) (h : isDc e i = true) : ∃ q kv, σ[i]? = some (some (.ref q)) ∧ H q = some (.dK kv) := by
  unfold isDc at h
  cases q : dcAt e i with
  | ok kvs =>
    obtain ⟨a, kv, h1, h2, _⟩ := dcAt_ok R q
    exact ⟨a, kv, h1, h2⟩
  | exc x => exact absurd q dcAt_nx
  | bad => rw [q] at h; cases h
def asKey (d : D) : R Key := match keyOf d with
  | some k => .ok k
  | none => .bad
def gGetK (kvs : List (Key × D)) (k : Key) : R D := match getK kvs k with
  | some d => .ok d
  | none => .bad
def dDGet (i : Nat) (dk : DE) : DE := fun e => if isDc e i = true then (dk e).bind fun p => (dcAt p.2 i).bind fun kvs => (asKey p.1).bind fun k => (gGetK kvs k).bind fun d => .ok (d, p.2) else .bad
def dDIn (ne : Bool) (i : Nat) (dk : DE) : DE := fun e => (dk e).bind fun p => (dcAt p.2 i).bind fun kvs => (asKey p.1).bind fun k => .ok (.bl (ne != (getK kvs k).isSome), p.2)
def dDGet2 (i : Nat) (dk dx : DE) : DE := fun e => if isDc e i = true then (dk e).bind fun p => (dx p.2).bind fun q => (dcAt q.2 i).bind fun kvs => (asKey p.1).bind fun k => .ok ((getK kvs k).getD q.1, q.2) else .bad
def popE (i : Nat) (k : Key) (q : D × En) : R (D × En) := match nth q.2 i with
  | some (.dc b kvs) => (match getK kvs k with
    | some d => (match setE q.2 i (some (.dc b (dropD kvs k))) with
      | some e' => .ok (d, e')
      | none => .bad)
    | none => .ok q)
  | _ => .bad
def dDPop2 (i : Nat) (dk dx : DE) : DE := fun e => if isDc e i = true then (dk e).bind fun p => (dx p.2).bind fun q => (asKey p.1).bind fun k => popE i k q else .bad
def putE (i : Nat) (d : D) (k : Key) (e : En) : SR := match nth e i with
  | some (.dc b kvs) => if (kvs.map (·.1)).Nodup ∧ kvs.length < LIM then setS e i (.dc b (putD kvs k d)) else .bad
  | _ => .bad
def sDPut (i : Nat) (dk da : DE) : DS := fun e => (da e).toS fun p => if isDc p.2 i = true then (dk p.2).toS fun q => (asKey q.1).toS fun k => putE i p.1 k q.2 else .bad
section
variable {X : Cx} {W : WX} {pos p py apos cpos : Pos} {x y : Str} {ex b : Expr} {da db dk dd : DE}
theorem asKey_ok {K : PySem.W.Frag} {F : Hp} {v : V} {d : D} {k : Key} (r : Rep K F v d) (h : asKey d = .ok k) : v = kV k := by
  unfold asKey at h
  cases q : keyOf d with
  | none => rw [q] at h; cases h
  | some j =>
    rw [q] at h
    injection h with h
    subst h
    exact keyOf_V r q
theorem asKey_nx {d : D} {z : Exn} : asKey d ≠ .exc z := by
  intro h
  unfold asKey at h
  cases q : keyOf d with
  | none => rw [q] at h; cases h
  | some j => rw [q] at h; cases h
/-- d[k] -/
theorem dx_dget (i : Nat) (hu : X.A.units + 65 < cLine) (hb : PE X b (tD X.K W dk)) (hs : NoSl b) (hN : X.N[i]? = some y := by rfl) (hv : Vis X.env.scope y := by first | exact Or.inl rfl | exact Or.inr (Or.inl rfl) | exact Or.inr (Or.inr rfl)) (hd : (y == ("__debug__" : Str)) = false := by decide) (hcd : (y == ("__classdict__" : Str)) = false := by decide) :
    PE X (.Subscript (.Name y py) b pos) (tD X.K W (dDGet i dk)) := by
  refine peI (pe_dget (by omega) (pe_var (i := i) hN hv hd hcd) hb hs) ?_
  rintro σ H Q ⟨B, F, e, R, h⟩
  unfold dDGet at h
  by_cases c : isDc e i = true
  · rw [if_pos c] at h
    obtain ⟨q0, kv0, hq0, hH0⟩ := isDc_ok R c
    refine ⟨.ref q0, hq0, B, F, e, R, OutD.bind (P := OutD X.K W B F σ Q) dBad dExc h fun d e1 h1 F1 H1 v R1 s1 rv => ?_⟩
    cases q1 : dcAt e1 i with
    | bad => rw [q1] at h1; exact h1.elim
    | exc x => exact absurd q1 dcAt_nx
    | ok kvs =>
      rw [q1] at h1
      obtain ⟨q2, kv, hq2, hH2, rs⟩ := dcAt_ok R1 q1
      rw [hq0] at hq2
      injection hq2 with hq2
      injection hq2 with hq2
      injection hq2 with hq2
      subst hq2
      simp only [WW.R.bind_ok] at h1
      cases q2 : asKey d with
      | bad => rw [q2] at h1; exact h1.elim
      | exc x => exact absurd q2 asKey_nx
      | ok k =>
        rw [q2] at h1
        have ek := asKey_ok rv q2
        have g := rs.get (k := k)
        simp only [WW.R.bind_ok] at h1
        unfold gGetK at h1
        cases q3 : getK kvs k with
        | none => rw [q3] at h1; exact h1.elim
        | some dd =>
          rw [q3] at h1 g
          obtain ⟨w, g1, g2⟩ := g
          subst ek
          exact ⟨q0, w, rfl, by rw [← g1]; exact DGet.k hH2, h1 F1 H1 w R1 s1 g2⟩
  · rw [if_neg c] at h
    exact h.elim
/-- k in d, k not in d -/
theorem core_din {σ : St} {H : Hp} {Q : VK} {ne : Bool} {i : Nat} {K : PySem.W.Frag} {W : WX} {dk : DE} (h : tD K W (dDIn ne i dk) σ H Q) : (if ne = true then tDNotIn (tD K W dk) (tVar i) else tDIn (tD K W dk) (tVar i)) σ H Q := by
  obtain ⟨B, F, e, R, h⟩ := h
  have core : ∀ {Q' : V → Hp → Prop}, (∀ y H1, (∃ q0 o, σ[i]? = some (some (.ref q0)) ∧ DGet H1 q0 y o ∧ Q (.bl (ne != o.isSome)) H1) → Q' y H1) → tD K W dk σ H Q' := by
    intro Q' hQ
    refine ⟨B, F, e, R, OutD.bind (P := OutD K W B F σ Q) dBad dExc h fun d e1 h1 F1 H1 v R1 s1 rv => hQ _ _ ?_⟩
    cases q1 : dcAt e1 i with
    | bad => rw [q1] at h1; exact h1.elim
    | exc x => exact absurd q1 dcAt_nx
    | ok kvs =>
      rw [q1] at h1
      obtain ⟨q2, kv, hq2, hH2, rs⟩ := dcAt_ok R1 q1
      simp only [WW.R.bind_ok] at h1
      cases q2 : asKey d with
      | bad => rw [q2] at h1; exact h1.elim
      | exc x => exact absurd q2 asKey_nx
      | ok k =>
        rw [q2] at h1
        have ek := asKey_ok rv q2
        subst ek
        have g := rs.get (k := k)
        have e2 : (getK kvs k).isSome = (valV kv k).isSome := by
          cases q3 : getK kvs k with
          | none => rw [q3] at g; rw [g]; rfl
          | some dd =>
            rw [q3] at g
            obtain ⟨w, g1, _⟩ := g
            rw [g1]
            rfl
        refine ⟨_, _, hq2, DGet.k hH2, ?_⟩
        rw [← e2]
        exact h1 F1 H1 _ R1 s1 (.bl _)
  cases ne with
  | true =>
    refine core fun y H1 ⟨q0, o, h1, h2, h3⟩ => ?_
    exact ⟨.ref q0, h1, q0, o, rfl, h2, by simpa using h3⟩
  | false =>
    refine core fun y H1 ⟨q0, o, h1, h2, h3⟩ => ?_
    exact ⟨.ref q0, h1, q0, o, rfl, h2, by simpa using h3⟩
theorem dx_din (i : Nat) (hu : X.A.units + 65 < cLine) (hb : PE X b (tD X.K W dk)) (hm : behindInMarks .In (.Name y py) = false := by rfl) (hN : X.N[i]? = some y := by rfl) (hv : Vis X.env.scope y := by first | exact Or.inl rfl | exact Or.inr (Or.inl rfl) | exact Or.inr (Or.inr rfl)) (hd : (y == ("__debug__" : Str)) = false := by decide) (hcd : (y == ("__classdict__" : Str)) = false := by decide) :
    PE X (.Compare b [.In] [.Name y py] pos) (tD X.K W (dDIn false i dk)) := peI (pe_cmp (pc_din (by omega) hb (pe_var (i := i) hN hv hd hcd)) hm) fun _ _ _ h => core_din h
theorem dx_dnin (i : Nat) (hu : X.A.units + 65 < cLine) (hb : PE X b (tD X.K W dk)) (hm : behindInMarks .NotIn (.Name y py) = false := by rfl) (hN : X.N[i]? = some y := by rfl) (hv : Vis X.env.scope y := by first | exact Or.inl rfl | exact Or.inr (Or.inl rfl) | exact Or.inr (Or.inr rfl)) (hd : (y == ("__debug__" : Str)) = false := by decide) (hcd : (y == ("__classdict__" : Str)) = false := by decide) :
    PE X (.Compare b [.NotIn] [.Name y py] pos) (tD X.K W (dDIn true i dk)) := peI (pe_cmp (pc_dnotin (by omega) hb (pe_var (i := i) hN hv hd hcd)) hm) fun _ _ _ h => core_din h
/-- d.get(k, x) -/
theorem dx_dget2 {f : Expr} (i : Nat) (hu : X.A.units + 65 < cLine) (hb : PE X b (tD X.K W dk)) (hf : PE X f (tD X.K W dd)) (m : M2 X (.Name y py) "get" apos b f cpos := by exact ⟨rfl, rfl, rfl, rfl⟩) (hN : X.N[i]? = some y := by rfl) (hv : Vis X.env.scope y := by first | exact Or.inl rfl | exact Or.inr (Or.inl rfl) | exact Or.inr (Or.inr rfl)) (hd : (y == ("__debug__" : Str)) = false := by decide) (hcd : (y == ("__classdict__" : Str)) = false := by decide) :
    PE X (.Call (.Attribute (.Name y py) "get" apos) [b, f] [] cpos) (tD X.K W (dDGet2 i dk dd)) := by
  refine peI (pe_dget2 (by omega) (pe_var (i := i) hN hv hd hcd) hb hf m) ?_
  rintro σ H Q ⟨B, F, e, R, h⟩
  unfold dDGet2 at h
  by_cases c : isDc e i = true
  · rw [if_pos c] at h
    obtain ⟨q0, kv0, hq0, hH0⟩ := isDc_ok R c
    refine ⟨.ref q0, hq0, q0, rfl, .inl ⟨kv0, .inl hH0⟩, B, F, e, R, OutD.bind (P := OutD X.K W B F σ Q) dBad dExc h fun d e1 h1 F1 H1 v R1 s1 rv => ?_⟩
    refine ⟨B, F1, e1, R1, OutD.bind (P := OutD X.K W B F1 σ Q) dBad dExc (OutD.pre s1 h1) fun d2 e2 h2 F2 H2 v2 R2 s2 rv2 => ?_⟩
    cases q1 : dcAt e2 i with
    | bad => rw [q1] at h2; exact h2.elim
    | exc x => exact absurd q1 dcAt_nx
    | ok kvs =>
      rw [q1] at h2
      obtain ⟨q2, kv, hq2, hH2, rs⟩ := dcAt_ok R2 q1
      rw [hq0] at hq2
      injection hq2 with hq2
      injection hq2 with hq2
      injection hq2 with hq2
      subst hq2
      simp only [WW.R.bind_ok] at h2
      cases q2 : asKey d with
      | bad => rw [q2] at h2; exact h2.elim
      | exc x => exact absurd q2 asKey_nx
      | ok k =>
        rw [q2] at h2
        have ek := asKey_ok rv q2
        subst ek
        have g := rs.get (k := k)
        simp only [WW.R.bind_ok] at h2
        refine ⟨_, DGet.k hH2, ?_⟩
        cases q3 : getK kvs k with
        | none =>
          rw [q3] at g h2
          rw [g]
          exact h2 F2 H2 v2 R2 s2 rv2
        | some dd =>
          rw [q3] at g h2
          obtain ⟨w, g1, g2⟩ := g
          rw [g1]
          exact h2 F2 H2 w R2 s2 g2
  · rw [if_neg c] at h
    exact h.elim
/-- d.pop(k, x) -/
theorem dx_dpop2 {f : Expr} (i : Nat) (hb : PE X b (tD X.K W dk)) (hf : PE X f (tD X.K W dd)) (m : M2 X (.Name y py) "pop" apos b f cpos := by exact ⟨rfl, rfl, rfl, rfl⟩) (hN : X.N[i]? = some y := by rfl) (hv : Vis X.env.scope y := by first | exact Or.inl rfl | exact Or.inr (Or.inl rfl) | exact Or.inr (Or.inr rfl)) (hd : (y == ("__debug__" : Str)) = false := by decide) (hcd : (y == ("__classdict__" : Str)) = false := by decide) :
    PE X (.Call (.Attribute (.Name y py) "pop" apos) [b, f] [] cpos) (tD X.K W (dDPop2 i dk dd)) := by
  refine peI (pe_dpop2 (pe_var (i := i) hN hv hd hcd) hb hf m) ?_
  rintro σ H Q ⟨B, F, e, R, h⟩
  unfold dDPop2 at h
  by_cases c : isDc e i = true
  · rw [if_pos c] at h
    obtain ⟨q0, kv0, hq0, hH0⟩ := isDc_ok R c
    refine ⟨.ref q0, hq0, q0, rfl, .inl ⟨kv0, .inl hH0⟩, B, F, e, R, OutD.bind (P := OutD X.K W B F σ Q) dBad dExc h fun d e1 h1 F1 H1 v R1 s1 rv => ?_⟩
    refine ⟨B, F1, e1, R1, OutD.bind (P := OutD X.K W B F1 σ Q) dBad dExc (OutD.pre s1 h1) fun d2 e2 h2 F2 H2 v2 R2 s2 rv2 => ?_⟩
    cases q2 : asKey d with
    | bad => rw [q2] at h2; exact h2.elim
    | exc x => exact absurd q2 asKey_nx
    | ok k =>
      rw [q2] at h2
      have ek := asKey_ok rv q2
      subst ek
      simp only [WW.R.bind_ok] at h2
      unfold popE at h2
      cases q1 : nth e2 i with
      | none => rw [q1] at h2; exact h2.elim
      | some t =>
        rw [q1] at h2
        cases t with
        | dc bb kvs =>
          simp only at h2
          obtain ⟨q3, kv, hq3, hH3, rs, up⟩ := R2.ownD q1
          rw [hq0] at hq3
          injection hq3 with hq3
          injection hq3 with hq3
          injection hq3 with hq3
          subst hq3
          have g := rs.get (k := k)
          refine ⟨kv, k, hH3, rfl, fun w hw => ?_, fun hn => ?_⟩
          · cases q4 : getK kvs k with
            | none => rw [q4] at g; rw [g] at hw; cases hw
            | some d4 =>
              rw [q4] at g h2
              obtain ⟨w', g1, g2⟩ := g
              rw [g1] at hw
              injection hw with hw
              subst hw
              simp only at h2
              cases q5 : setE e2 i (some (.dc bb (dropD kvs k))) with
              | none => rw [q5] at h2; exact h2.elim
              | some e3 =>
                rw [q5] at h2
                exact h2 F2 _ w' (up _ _ _ rs.drop q5) s2 g2
          · cases q4 : getK kvs k with
            | none =>
              rw [q4] at h2
              exact h2 F2 H2 v2 R2 s2 rv2
            | some d4 =>
              rw [q4] at g
              obtain ⟨w', g1, _⟩ := g
              rw [g1] at hn
              cases hn
        | _ => exact h2.elim
  · rw [if_neg c] at h
    exact h.elim
/-- d[k] = v -/
theorem ds_dput (i : Nat) (hu : X.A.units + 65 < cLine) (hk : PE X b (tD X.K W dk)) (ha : PE X ex (tD X.K W da)) (hs : swapsWith ex (some (.Subscript (.Name y py) b p)) pos.line X.env = pure false := by rfl) (hN : X.N[i]? = some y := by rfl) (hv : Vis X.env.scope y := by first | exact Or.inl rfl | exact Or.inr (Or.inl rfl) | exact Or.inr (Or.inr rfl)) (hd : (y == ("__debug__" : Str)) = false := by decide) (hcd : (y == ("__classdict__" : Str)) = false := by decide) :
    PS X (.Assign [.Subscript (.Name y py) b p] ex pos) (tS X.K W (sDPut i dk da)) := by
  refine psI (ps_dput (by omega) (pe_var (i := i) hN hv hd hcd) hk ha hs) ?_
  rintro D' σ H ⟨B, F, e, R, h⟩
  refine ⟨B, F, e, R, OutD.toS h fun d e1 h1 F1 H1 v R1 s1 rv => ?_⟩
  by_cases c : isDc e1 i = true
  · rw [if_pos c] at h1
    obtain ⟨q0, kv0, hq0, hH0⟩ := isDc_ok R1 c
    refine ⟨.ref q0, hq0, B, F1, e1, R1, OutD.toS h1 fun d2 e2 h2 F2 H2 v2 R2 s2 rv2 => ?_⟩
    cases q2 : asKey d2 with
    | bad => rw [q2] at h2; exact h2.elim
    | exc x => exact absurd q2 asKey_nx
    | ok k =>
      rw [q2] at h2
      have ek := asKey_ok rv2 q2
      subst ek
      simp only [WW.R.toS_ok] at h2
      unfold putE at h2
      cases q1 : nth e2 i with
      | none => rw [q1] at h2; exact h2.elim
      | some t =>
        rw [q1] at h2
        cases t with
        | dc bb kvs =>
          simp only at h2
          obtain ⟨q3, kv, hq3, hH3, rs, up⟩ := R2.ownD q1
          rw [hq0] at hq3
          injection hq3 with hq3
          injection hq3 with hq3
          injection hq3 with hq3
          subst hq3
          by_cases cl : (kvs.map (·.1)).Nodup ∧ kvs.length < LIM
          · rw [if_pos cl] at h2
            obtain ⟨e', q5, h3⟩ := setS_ok h2
            exact ⟨q0, _, rfl, DPut.k hH3 (by rw [rs.len]; exact lim_line' (Nat.le_of_lt cl.2)), h3 F2 _ σ (up _ _ _ (RepK.put (rv.mono s2) cl.1 rs) q5)⟩
          · rw [if_neg cl] at h2
            exact h2.elim
        | _ => exact h2.elim
  · rw [if_neg c] at h1
    exact h1.elim
end
/-! ### new dicts -/
def oDNil : OE := fun e => .ok (.dc false [], e)
def oDOne (dk dv : DE) : OE := fun e => (dk e).bind fun p => (dv p.2).bind fun q => (asKey p.1).bind fun k => .ok (.dc false [(k, q.1)], q.2)
theorem Rl.newD {K : PySem.W.Frag} {B : Bs} {F H : Hp} {σ : St} {e : En} {p : Addr} {kv : List (Key × V)} {kvs : List (Key × D)} (R : Rl K B F H σ e) (hp : H p = none) (rs : RepK K F kv kvs) : Rl K B F (upd H p (.dK kv)) (σ ++ [some (.ref p)]) (e ++ [some (.dc false kvs)]) := by
  refine R.more (A := fun a => a = p) (ext_raw R.sub hp) ⟨p, kv, rfl, fun _ => Iff.rfl, upd_same, rs.keys, rs.vals⟩ fun a z => ?_
  subst z
  refine ⟨?_, hp⟩
  cases q : F a with
  | none => rfl
  | some o => rw [R.sub _ _ q] at hp; cases hp
section
variable {X : Cx} {W : WX} {pos : Pos} {a b : Expr} {dk dv : DE}
theorem ox_dnil : PE X (.Dict [] [] pos) (tO X.K W oDNil) := by
  refine peI pe_dnewK ?_
  rintro σ H Q ⟨B, F, e, R, h⟩
  exact fun p hp => h _ _ _ (R.newD hp .nil) (Same.refl _)
theorem ox_done (ha : PE X a (tD X.K W dk)) (hb : PE X b (tD X.K W dv)) : PE X (.Dict [some a] [b] pos) (tO X.K W (oDOne dk dv)) := by
  refine peI (pe_disp (pps_cons ha hb pps_nil) rfl rfl (by simp) (by simp)) ?_
  rintro σ H Q ⟨B, F, e, R, h⟩
  intro p hp
  have R0 := R.newD hp (.nil : RepK X.K F [] [])
  obtain ⟨B1, hF1, R1, back⟩ := R0.frame
  have up : ∀ x, ExcOut X.K W B σ x → ExcOut X.K W B1 σ x := fun x hx F' H' c dd e' R' ok => hx F' H' c dd e' ((back _ _ _ _ R').less) ok
  have h0 : OutO X.K W B F σ Q ((dk e).bind fun p => (dv p.2).bind fun q => (asKey p.1).bind fun k => .ok (.dc false [(k, q.1)], q.2)) := h
  refine ⟨B1, F, e, R1, OutD.bind (P := OutO X.K W B F σ Q) oBad (fun x hx => up x hx) h0 fun d e1 h1 F1 H1 v R2 s1 rv => ?_⟩
  refine ⟨B1, F1, e1, R2, OutD.bind (P := OutO X.K W B F1 σ Q) oBad (fun x hx => up x hx) (OutO.pre s1 h1) fun d2 e2 h2 F2 H2 v2 R3 s2 rv2 => ?_⟩
  have R4 := back _ _ _ _ R3
  cases q2 : asKey d with
  | bad => rw [q2] at h2; exact h2.elim
  | exc x => exact absurd q2 asKey_nx
  | ok k =>
    rw [q2] at h2
    have ek := asKey_ok rv q2
    subst ek
    simp only [WW.R.bind_ok] at h2
    obtain ⟨q3, kv, hq3, hH3, rs, upd'⟩ := R4.ownD nth_app_last
    have l4 := R4.less.len
    rw [l4, List.getElem?_append_right (Nat.le_refl _)] at hq3
    simp at hq3
    subst hq3
    have ekv : kv = [] := by
      cases rs
      rfl
    subst ekv
    refine ⟨hH3, [(k, v2)], rfl, by simp, ?_⟩
    have hset : setE (e2 ++ [some (.dc false [])]) e2.length (some (.dc false [(k, d2)])) = some (e2 ++ [some (.dc false [(k, d2)])]) := by
      clear R4 R3 upd' l4 h2
      generalize e2 = e2
      induction e2 with
      | nil => rfl
      | cons a r ih =>
        show (match setE (r ++ [some (.dc false [])]) r.length (some (.dc false [(k, d2)])) with
          | some q => some (a :: q)
          | none => none) = _
        rw [ih]
        rfl
    exact h2 F2 _ _ (upd' [(k, v2)] _ _ (.cons rv2 .nil) hset) s2
end
end WW
set_option Elab.async false
set_option linter.all false
set_option maxRecDepth 100000
set_option maxHeartbeats 4000000
/-! The data layer, part 14: own objects, their fields. -/
namespace WW
open PySem PySem.Spec L2

/-! ### fields by place -/
def fldIx (f : Str) : List Str → Option Nat
  | [] => none
  | n :: ns => if n = f then some 0 else (fldIx f ns).map (· + 1)
theorem fldIx_lookup {f : Str} : ∀ {fs : List (Str × V)} {j : Nat}, fldIx f (fs.map (·.1)) = some j → ∃ v, fs.lookup f = some v ∧ (fs.map (·.2))[j]? = some v
  | [], _, h => by cases h
  | (n, v) :: fs, j, h => by
    have h2 : (if n = f then some 0 else (fldIx f (fs.map (·.1))).map (· + 1)) = some j := h
    by_cases c : n = f
    · rw [if_pos c] at h2
      injection h2 with h2
      subst h2 c
      exact ⟨v, by simp [List.lookup], rfl⟩
    · rw [if_neg c] at h2
      cases q : fldIx f (fs.map (·.1)) with
      | none => rw [q] at h2; cases h2
      | some k =>
        rw [q] at h2
        have h3 : some (k + 1) = some j := h2
        injection h3 with h3
        subst h3
        obtain ⟨u, h4, h5⟩ := fldIx_lookup q
        refine ⟨u, ?_, by simpa using h5⟩
        rw [List.lookup_cons, show (f == n) = false by simp; exact fun z => c z.symm]
        exact h4
theorem fldIx_none {f : Str} : ∀ {fs : List (Str × V)}, fldIx f (fs.map (·.1)) = none → fs.lookup f = none
  | [], _ => rfl
  | (n, v) :: fs, h => by
    have h2 : (if n = f then some 0 else (fldIx f (fs.map (·.1))).map (· + 1)) = none := h
    by_cases c : n = f
    · rw [if_pos c] at h2; cases h2
    · rw [if_neg c] at h2
      have h3 : fldIx f (fs.map (·.1)) = none := by
        cases q : fldIx f (fs.map (·.1)) with
        | none => rfl
        | some k => rw [q] at h2; cases h2
      rw [List.lookup_cons, show (f == n) = false by simp; exact fun z => c z.symm]
      exact fldIx_none h3
/-- a field stored: the names, the fields -/
def putN (f : Str) : List Str → List Str
  | [] => [f]
  | g :: r => if g = f then g :: r else g :: putN f r
def putX (f : Str) (d : Fd) : List Str → List Fd → List Fd
  | g :: r, x :: l => if g = f then d :: l else x :: putX f d r l
  | _, _ => [d]
theorem putF_ns (f : Str) (v : V) : ∀ fs : List (Str × V), (putF f v fs).map (·.1) = putN f (fs.map (·.1))
  | [] => rfl
  | (g, x) :: r => by
    show ((if g = f then (g, v) :: r else (g, x) :: putF f v r).map (·.1)) = (if g = f then g :: r.map (·.1) else g :: putN f (r.map (·.1)))
    by_cases c : g = f
    · rw [if_pos c, if_pos c]; rfl
    · rw [if_neg c, if_neg c, List.map_cons, putF_ns f v r]
theorem FdsOk.put {K : PySem.W.Frag} {F H : Hp} (f : Str) {v : V} {d : Fd} {A1 : Addr → Prop} (rv : FdOk K F H v d A1) : ∀ {fs : List (Str × V)} {xs : List Fd} {A0 : Addr → Prop}, FdsOk K F H (fs.map (·.2)) xs A0 → (∀ a, A1 a → ¬ A0 a) → ∃ A2, FdsOk K F H ((putF f v fs).map (·.2)) (putX f d (fs.map (·.1)) xs) A2 ∧ ∀ a, A2 a → A0 a ∨ A1 a
  | [], _, A0, h, n => by
    cases h with
    | nil z => exact ⟨A1, .cons rv (.nil (A := NoA) fun _ z => z) (fun _ _ z => z) fun a => ⟨.inl, fun z => z.elim id fun z => z.elim⟩, fun a z => .inr z⟩
  | (g, x) :: r, _, A0, h, n => by
    cases h with
    | @cons _ _ fd fds B1 B2 _ h1 h2 h3 h4 =>
      show ∃ A2, FdsOk K F H ((if g = f then (g, v) :: r else (g, x) :: putF f v r).map (·.2)) (if g = f then d :: fds else fd :: putX f d (r.map (·.1)) fds) A2 ∧ ∀ a, A2 a → A0 a ∨ A1 a
      by_cases c : g = f
      · rw [if_pos c, if_pos c]
        exact ⟨fun a => A1 a ∨ B2 a, .cons rv h2 (fun a z1 z2 => n a z1 ((h4 a).mpr (.inr z2))) (fun a => Iff.rfl), fun a z => z.elim .inr fun z => .inl ((h4 a).mpr (.inr z))⟩
      · rw [if_neg c, if_neg c]
        obtain ⟨A2, k1, k2⟩ := FdsOk.put f rv h2 fun a z1 z2 => n a z1 ((h4 a).mpr (.inr z2))
        refine ⟨fun a => B1 a ∨ A2 a, .cons h1 k1 (fun a z1 z2 => ?_) (fun a => Iff.rfl), fun a z => ?_⟩
        · rcases k2 a z2 with z | z
          · exact h3 a z1 z
          · exact n a z ((h4 a).mpr (.inl z1))
        · rcases z with z | z
          · exact .inl ((h4 a).mpr (.inl z))
          · rcases k2 a z with w | w
            · exact .inl ((h4 a).mpr (.inr w))
            · exact .inr w
/-- one field is changed in its place -/
theorem FdsOk.at {K : PySem.W.Frag} {F H : Hp} : ∀ {vs : List V} {fds : List Fd} {A : Addr → Prop} {j : Nat} {fd : Fd}, FdsOk K F H vs fds A → fds[j]? = some fd →
    ∃ v Aj, vs[j]? = some v ∧ FdOk K F H v fd Aj ∧ (∀ a, Aj a → A a) ∧ ∀ (F' H' : Hp) (fd' : Fd) (A' : Addr → Prop), Same F F' → (∀ a o, A a → ¬ Aj a → H a = some o → Calm o → H' a = some o) → FdOk K F' H' v fd' A' → (∀ a, A' a → Aj a) → ∃ A2, FdsOk K F' H' vs (fds.set j fd') A2 ∧ ∀ a, A2 a → A a
  | _, _, _, j, _, .nil _, h => by simp at h
  | _, _, A, 0, fd, .cons (v := v) (A1 := A1) (A2 := A2) h1 h2 h3 h4, h => by
    have h5 : some _ = some fd := h
    injection h5 with h5
    subst h5
    refine ⟨v, A1, rfl, h1, fun a z => (h4 a).mpr (.inl z), fun F' H' fd' A' sm k ok sub => ⟨fun a => A' a ∨ A2 a, .cons ok (h2.mono sm fun a o z => k a o ((h4 a).mpr (.inr z)) fun z2 => h3 a z2 z) (fun a z1 z2 => h3 a (sub a z1) z2) (fun a => Iff.rfl), fun a z => ?_⟩⟩
    rcases z with z | z
    · exact (h4 a).mpr (.inl (sub a z))
    · exact (h4 a).mpr (.inr z)
  | _, _, A, j + 1, fd, .cons (v := v) (A1 := A1) (A2 := A2) h1 h2 h3 h4, h => by
    obtain ⟨u, Aj, k1, k2, k3, k4⟩ := FdsOk.at (j := j) (fd := fd) h2 (by simpa using h)
    refine ⟨u, Aj, by simpa using k1, k2, fun a z => (h4 a).mpr (.inr (k3 a z)), fun F' H' fd' A' sm k ok sub => ?_⟩
    obtain ⟨A3, m1, m2⟩ := k4 F' H' fd' A' sm (fun a o z n => k a o ((h4 a).mpr (.inr z)) n) ok sub
    refine ⟨fun a => A1 a ∨ A3 a, .cons (h1.mono sm fun a o z => k a o ((h4 a).mpr (.inl z)) fun z2 => h3 a z (k3 a z2)) m1 (fun a z1 z2 => h3 a z1 (m2 a z2)) (fun a => Iff.rfl), fun a z => ?_⟩
    rcases z with z | z
    · exact (h4 a).mpr (.inl z)
    · exact (h4 a).mpr (.inr (m2 a z))
section
variable {K : PySem.W.Frag} {B : Bs} {F H : Hp} {σ : St} {e : En} {i : Nat} {b : Bool} {c : Str} {ns : List Str} {xs : List Fd}
/-- an own object: a field stored, a field changed in its place -/
theorem Rl.ownO (R : Rl K B F H σ e) (hs : nth e i = some (.obj b c ns xs)) :
    ∃ p dx fs, σ[i]? = some (some (.ref p)) ∧ H p = some (.ins (He.ga K c) dx fs) ∧ fs.map (·.1) = ns ∧ xs.length = ns.length ∧
      (∀ f v d e', Rep K F v d → setE e i (some (.obj b c (putN f ns) (putX f (.v d) ns xs))) = some e' → Rl K B F (upd H p (.ins (He.ga K c) dx (putF f v fs))) σ e') ∧
      ∀ j fd, xs[j]? = some fd → ∃ v, (fs.map (·.2))[j]? = some v ∧ (∀ d, fd = .v d → Rep K F v d) ∧
        (∀ ys, fd = .l ys → ∃ q vs, v = .ref q ∧ H q = some (.lst vs) ∧ Reps K F vs ys ∧ ∀ vs' ys' e', Reps K F vs' ys' → setE e i (some (.obj b c ns (xs.set j (.l ys')))) = some e' → Rl K B F (upd H q (.lst vs')) σ e') ∧
        ∀ kvs, fd = .dc kvs → ∃ q kv, v = .ref q ∧ H q = some (.dK kv) ∧ RepK K F kv kvs ∧ ∀ kv' kvs' e', RepK K F kv' kvs' → setE e i (some (.obj b c ns (xs.set j (.dc kvs')))) = some e' → Rl K B F (upd H q (.dK kv')) σ e' := by
  obtain ⟨l, ex, fp, S⟩ := id R
  obtain ⟨v, hv, p, dx, fs, A0, rfl, hA, n0, hp, hn, hf⟩ := S.ok i _ hs
  obtain ⟨fn, _⟩ := S.own i p ((hA p).mpr (.inl rfl))
  have flen : ∀ {vs : List V} {fds : List Fd} {A : Addr → Prop}, FdsOk K F H vs fds A → vs.length = fds.length := by
    intro vs fds A h
    induction h with
    | nil => rfl
    | cons _ _ _ _ ih => exact congrArg (· + 1) ih
  refine ⟨p, dx, fs, hv, hp, hn, by rw [← flen hf, ← hn, List.length_map, List.length_map], fun f v d e' rv he => ?_, fun j fd hj => ?_⟩
  · refine R.change hs hv he (fun A okA hF => ?_) (fun z => z)
    have eA := okA.uniq (show SlOk K F H (.ref p) (.obj b c ns xs) (fp i) from ⟨p, dx, fs, A0, rfl, hA, n0, hp, hn, hf⟩)
    subst eA
    obtain ⟨A2, k1, k2⟩ := FdsOk.put (H := upd H p (.ins (He.ga K c) dx (putF f v fs))) f (show FdOk K F _ v (.v d) NoA from ⟨rv, fun _ z => z⟩) (hf.mono (Same.refl _) fun a o z h _ => by rw [upd_ne (fun w : a = p => n0 (by rw [← w]; exact z))]; exact h) (fun _ z => z.elim)
    have sub : ∀ a, A2 a → A0 a := fun a z => (k2 a z).elim id fun z => z.elim
    refine ⟨fun a => a = p ∨ A2 a, Ext.own1 R.sub fn ((hA p).mpr (.inl rfl)) hp .ins, ⟨p, dx, _, A2, rfl, fun a => Iff.rfl, fun z => n0 (sub p z), upd_same, by rw [putF_ns, hn], ?_⟩, fun a z => ?_⟩
    · rw [← hn]
      exact k1
    · have z2 : fp i a := (hA a).mpr (z.imp id (sub a))
      exact ⟨hF a z2, .inl z2⟩
  · obtain ⟨w, Aj, h1, h2, h3, h4⟩ := hf.at hj
    refine ⟨w, h1, fun d e1 => ?_, fun ys e1 => ?_, fun kvs e1 => ?_⟩
    · subst e1
      exact h2.1
    · subst e1
      obtain ⟨q, vs, rfl, hAq, hq, rq⟩ := h2
      have aq : A0 q := h3 q ((hAq q).mpr rfl)
      have qp : q ≠ p := fun z => n0 (z ▸ aq)
      obtain ⟨fq, _⟩ := S.own i q ((hA q).mpr (.inr aq))
      refine ⟨q, vs, rfl, hq, rq, fun vs' ys' e' r' he => R.change hs hv he (fun A okA hF => ?_) (fun z => z)⟩
      have eA := okA.uniq (show SlOk K F H (.ref p) (.obj b c ns xs) (fp i) from ⟨p, dx, fs, A0, rfl, hA, n0, hp, hn, hf⟩)
      subst eA
      obtain ⟨A2, k1, k2⟩ := h4 F (upd H q (.lst vs')) (.l ys') (fun a => a = q) (Same.refl _) (fun a o _ n h _ => by rw [upd_ne (fun w => n ((hAq a).mpr w))]; exact h) ⟨q, vs', rfl, fun _ => Iff.rfl, upd_same, r'⟩ fun a z => (hAq a).mpr z
      refine ⟨fun a => a = p ∨ A2 a, Ext.own1 R.sub fq ((hA q).mpr (.inr aq)) hq .lst, ⟨p, dx, fs, A2, rfl, fun a => Iff.rfl, fun z => n0 (k2 p z), by rw [upd_ne qp.symm]; exact hp, hn, k1⟩, fun a z => ?_⟩
      have z2 : fp i a := (hA a).mpr (z.imp id (k2 a))
      exact ⟨hF a z2, .inl z2⟩
    · subst e1
      obtain ⟨q, kv, rfl, hAq, hq, en, rq⟩ := h2
      have aq : A0 q := h3 q ((hAq q).mpr rfl)
      have qp : q ≠ p := fun z => n0 (z ▸ aq)
      obtain ⟨fq, _⟩ := S.own i q ((hA q).mpr (.inr aq))
      refine ⟨q, kv, rfl, hq, .of en rq, fun kv' kvs' e' r' he => R.change hs hv he (fun A okA hF => ?_) (fun z => z)⟩
      have eA := okA.uniq (show SlOk K F H (.ref p) (.obj b c ns xs) (fp i) from ⟨p, dx, fs, A0, rfl, hA, n0, hp, hn, hf⟩)
      subst eA
      obtain ⟨A2, k1, k2⟩ := h4 F (upd H q (.dK kv')) (.dc kvs') (fun a => a = q) (Same.refl _) (fun a o _ n h _ => by rw [upd_ne (fun w => n ((hAq a).mpr w))]; exact h) ⟨q, kv', rfl, fun _ => Iff.rfl, upd_same, r'.keys, r'.vals⟩ fun a z => (hAq a).mpr z
      refine ⟨fun a => a = p ∨ A2 a, Ext.own1 R.sub fq ((hA q).mpr (.inr aq)) hq .dK, ⟨p, dx, fs, A2, rfl, fun a => Iff.rfl, fun z => n0 (k2 p z), by rw [upd_ne qp.symm]; exact hp, hn, k1⟩, fun a z => ?_⟩
      have z2 : fp i a := (hA a).mpr (z.imp id (k2 a))
      exact ⟨hF a z2, .inl z2⟩
/-- what is own, as a field -/
def Sl.toFd : Sl → Option Fd
  | .l ys => some (.l ys)
  | .dc false kvs => some (.dc kvs)
  | _ => none
/-- the own thing in the last place becomes a field -/
theorem Rl.absorb {v : V} {s : Sl} {fd : Fd} (R : Rl K B F H (σ ++ [some v]) (e ++ [some s])) (hs : nth e i = some (.obj b c ns xs)) (ht : s.toFd = some fd) :
    ∃ p dx fs, σ[i]? = some (some (.ref p)) ∧ H p = some (.ins (He.ga K c) dx fs) ∧ fs.map (·.1) = ns ∧ ∀ f e', setE e i (some (.obj b c (putN f ns) (putX f fd ns xs))) = some e' → Rl K B F (upd H p (.ins (He.ga K c) dx (putF f v fs))) σ e' := by
  have R0 := R.less
  obtain ⟨l, ex, fp, S⟩ := id R
  have l' : e.length = σ.length := R0.len
  have hi := nth_some_lt hs
  have hlast : (σ ++ [some v])[e.length]? = some (some v) := by rw [l', List.getElem?_append_right (Nat.le_refl _)]; simp
  obtain ⟨w, hw, p, dx, fs, A0, rfl, hA, n0, hp, hn, hf⟩ := S.ok i _ (by rw [nth_app_left hi]; exact hs)
  rw [List.getElem?_append_left (by rw [← l']; exact hi)] at hw
  obtain ⟨fn, _⟩ := S.own i p ((hA p).mpr (.inl rfl))
  obtain ⟨u, hu, okl⟩ := S.ok e.length s nth_app_last
  rw [hlast] at hu
  injection hu with hu
  injection hu with hu
  subst hu
  have fdl : FdOk K F H v fd (fp e.length) := by
    cases s with
    | l ys =>
      injection ht with ht
      subst ht
      exact okl
    | dc bb kvs =>
      cases bb with
      | false =>
        injection ht with ht
        subst ht
        exact okl
      | true => cases ht
    | _ => cases ht
  have dis : ∀ a, fp e.length a → ¬ fp i a := fun a z1 z2 => by
    have := S.apart _ _ a z1 z2
    omega
  refine ⟨p, dx, fs, hw, hp, hn, fun f e' he => ?_⟩
  obtain ⟨h1, h2, h3, h4⟩ := setE_some he
  have pl : ¬ fp e.length p := fun z => dis p z ((hA p).mpr (.inl rfl))
  have ap : ∀ a, fp e.length a → a ≠ p := fun a z w => pl (w ▸ z)
  obtain ⟨A2, k1, k2⟩ := FdsOk.put (H := upd H p (.ins (He.ga K c) dx (putF f v fs))) f (fdl.mono (Same.refl _) fun a o z h _ => by rw [upd_ne (ap a z)]; exact h) (hf.mono (Same.refl _) fun a o z h _ => by rw [upd_ne (fun w : a = p => n0 (by rw [← w]; exact z))]; exact h) (fun a z1 z2 => dis a z1 ((hA a).mpr (.inr z2)))
  have xE : Ext K (fp i) F H F (upd H p (.ins (He.ga K c) dx (putF f v fs))) := Ext.own1 R.sub fn ((hA p).mpr (.inl rfl)) hp .ins
  have own' : ∀ a, (a = p ∨ A2 a) → ∃ j, (j = i ∨ j = e.length) ∧ fp j a := fun a z => by
    rcases z with z | z
    · exact ⟨i, .inl rfl, (hA a).mpr (.inl z)⟩
    · rcases k2 a z with y | y
      · exact ⟨i, .inl rfl, (hA a).mpr (.inr y)⟩
      · exact ⟨_, .inr rfl, y⟩
  refine ⟨by rw [h2]; exact l', ex.trans xE (fun a z => (S.own i a z).2.1), fun j a => if j = i then (a = p ∨ A2 a) else (j < e.length ∧ fp j a), fun j t ht2 => ?_, fun j a ha => ?_, fun j k a ha hb => ?_, fun j t u ht2 hl hu => ?_⟩
  · by_cases hj : j = i
    · subst hj
      rw [h3] at ht2
      injection ht2 with ht2
      subst ht2
      refine ⟨.ref p, hw, ?_⟩
      have ea : (fun a => if j = j then (a = p ∨ A2 a) else (j < e.length ∧ fp j a)) = fun a => (a = p ∨ A2 a) := funext fun a => if_pos rfl
      show SlOk K F _ (.ref p) _ (fun a => if j = j then (a = p ∨ A2 a) else (j < e.length ∧ fp j a))
      rw [ea]
      refine ⟨p, dx, _, A2, rfl, fun a => Iff.rfl, fun z => ?_, upd_same, by rw [putF_ns, hn], by rw [← hn]; exact k1⟩
      rcases k2 p z with y | y
      · exact n0 y
      · exact pl y
    · rw [h4 j hj] at ht2
      have hlt := nth_some_lt ht2
      obtain ⟨u, q1, q2⟩ := S.ok j t (by rw [nth_app_left hlt]; exact ht2)
      rw [List.getElem?_append_left (by rw [← l']; exact hlt)] at q1
      refine ⟨u, q1, ?_⟩
      have ea : (fun a => if j = i then (a = p ∨ A2 a) else (j < e.length ∧ fp j a)) = fp j := funext fun a => by
        rw [if_neg hj]
        exact propext ⟨fun z => z.2, fun z => ⟨hlt, z⟩⟩
      show SlOk K F _ u t (fun a => if j = i then (a = p ∨ A2 a) else (j < e.length ∧ fp j a))
      rw [ea]
      exact q2.mono (Same.refl _) (fun a o ha hq cc => xE.keep a o hq (fun z => hj (S.apart j i a ha z)) cc.1) xE.nt xE.tab xE.xd
  · have key : ∃ j', fp j' a ∧ (j = i ∨ j' = j) := by
      by_cases hj : j = i
      · rw [if_pos hj] at ha
        obtain ⟨j', _, z⟩ := own' a ha
        exact ⟨j', z, .inl hj⟩
      · rw [if_neg hj] at ha
        exact ⟨j, ha.2, .inr rfl⟩
    obtain ⟨j', z, hj'⟩ := key
    obtain ⟨q1, q2, ⟨o, q3, qc⟩, q4⟩ := S.own j' a z
    refine ⟨q1, q2, ?_, ?_⟩
    · by_cases hap : a = p
      · rw [hap]; exact ⟨_, upd_same, .ins⟩
      · exact ⟨o, by rw [upd_ne hap]; exact q3, qc⟩
    · by_cases hj : j = i
      · rw [hj, h3]; exact fun y => by cases y
      · rw [if_neg hj] at ha
        rw [h4 j hj]
        obtain ⟨_, _, _, q5⟩ := S.own j a ha.2
        rw [nth_app_left ha.1] at q5
        exact q5
  · by_cases hj : j = i
    · by_cases hk : k = i
      · rw [hj, hk]
      · rw [if_pos hj] at ha
        rw [if_neg hk] at hb
        obtain ⟨j', e1, z⟩ := own' a ha
        have e2 := S.apart j' k a z hb.2
        rcases e1 with e1 | e1
        · exact absurd (e2.symm.trans e1) hk
        · have := hb.1
          omega
    · by_cases hk : k = i
      · rw [if_neg hj] at ha
        rw [if_pos hk] at hb
        obtain ⟨j', e1, z⟩ := own' a hb
        have e2 := S.apart j' j a z ha.2
        rcases e1 with e1 | e1
        · exact absurd (e2.symm.trans e1) hj
        · have := ha.1
          omega
      · rw [if_neg hj] at ha
        rw [if_neg hk] at hb
        exact S.apart j k a ha.2 hb.2
  · by_cases hj : j = i
    · subst hj
      rw [h3] at ht2
      injection ht2 with ht2
      subst ht2
      exact S.lent j (.obj b c ns xs) u (by rw [nth_app_left hi]; exact hs) hl (by rw [List.getElem?_append_left (by rw [← l']; exact hi)]; exact hu)
    · rw [h4 j hj] at ht2
      have hlt := nth_some_lt ht2
      exact S.lent j t u (by rw [nth_app_left hlt]; exact ht2) hl (by rw [List.getElem?_append_left (by rw [← l']; exact hlt)]; exact hu)
end
/-! ### statements and expressions over an own object in slot i -/
/-- field f of the object in slot i -/
def fdAt (c : Str) (i : Nat) (f : Str) (e : En) : Option (Bool × List Str × List Fd × Nat × Fd) := match nth e i with
  | some (.obj b c' ns xs) => if c' = c then (match fldIx f ns with
    | some j => (match xs[j]? with
      | some fd => some (b, ns, xs, j, fd)
      | none => none)
    | none => none) else none
  | _ => none
theorem fdAt_some {c : Str} {i : Nat} {f : Str} {e : En} {b : Bool} {ns : List Str} {xs : List Fd} {j : Nat} {fd : Fd} (h : fdAt c i f e = some (b, ns, xs, j, fd)) : nth e i = some (.obj b c ns xs) ∧ fldIx f ns = some j ∧ xs[j]? = some fd := by
  unfold fdAt at h
  split at h
  · rename_i b' c' ns' xs' hs
    by_cases k : c' = c
    · rw [if_pos k] at h
      split at h
      · rename_i j' hj
        split at h
        · rename_i fd' hfd
          injection h with h
          injection h with h1 h
          injection h with h2 h
          injection h with h3 h
          injection h with h4 h
          subst h1 h2 h3 h4 h k
          exact ⟨hs, hj, hfd⟩
        · cases h
      · cases h
    · rw [if_neg k] at h
      cases h
  · cases h
def sSetF (c : Str) (i : Nat) (f : Str) (da : DE) : DS := fun e => (da e).toS fun p => (match nth p.2 i with
  | some (.obj b c' ns xs) => if c' = c ∧ ns.length < 1000 then setS p.2 i (.obj b c' (putN f ns) (putX f (.v p.1) ns xs)) else .bad
  | _ => .bad)
/-- a new own thing becomes a field -/
def sSetFO (c : Str) (i : Nat) (f : Str) (o : OE) : DS := fun e => (o e).toS fun p => (match nth p.2 i, p.1.toFd with
  | some (.obj b c' ns xs), some fd => if c' = c ∧ ns.length < 1000 then setS p.2 i (.obj b c' (putN f ns) (putX f fd ns xs)) else .bad
  | _, _ => .bad)
def dFldO (c : Str) (i : Nat) (f : Str) : DE := fun e => match fdAt c i f e with
  | some (_, _, _, _, .v d) => .ok (d, e)
  | _ => .bad
section
variable {X : Cx} {W : WX} {pos py pos' : Pos} {ex : Expr} {da : DE} {y f : Str} {o : OE}
theorem ds_setF (c : Str) (i : Nat) (hcl : Cls X.K (He.ga X.K c)) (hna : NoAttr X.K (He.ga X.K c) f) (hv0 : PE X ex (tD X.K W da)) (hN : X.N[i]? = some y := by rfl) (hv : Vis X.env.scope y := by first | exact Or.inl rfl | exact Or.inr (Or.inl rfl) | exact Or.inr (Or.inr rfl)) (hd : (y == ("__debug__" : Str)) = false := by decide)
    (hcd : (y == ("__classdict__" : Str)) = false := by decide) (hs : swapsWith ex (some (.Attribute (.Name y py) f pos')) pos.line X.env = pure false := by rfl) :
    PS X (.Assign [.Attribute (.Name y py) f pos'] ex pos) (tS X.K W (sSetF c i f da)) := by
  refine psI (ps_fld (pe_var (i := i) hN hv hd hcd) hv0 hs) ?_
  rintro D' σ H ⟨B, F, e, R, h⟩
  refine ⟨B, F, e, R, OutD.toS h fun d e1 h1 F1 H1 v R1 s1 rv => ?_⟩
  simp only at h1
  cases q1 : nth e1 i with
  | none => rw [q1] at h1; exact h1.elim
  | some s =>
    rw [q1] at h1
    cases s with
    | obj b c' ns xs =>
      simp only at h1
      by_cases k : c' = c ∧ ns.length < 1000
      · rw [if_pos k] at h1
        obtain ⟨rfl, hlt⟩ := k
        obtain ⟨p, dx, fs, hp, hH, hn, _, up, _⟩ := R1.ownO q1
        obtain ⟨e', q3, h2⟩ := setS_ok h1
        exact ⟨.ref p, hp, p, _, dx, fs, rfl, hH, hcl, hna, by rw [← hn, List.length_map] at hlt; exact hlt, h2 F1 _ _ (up f v d e' rv q3)⟩
      · rw [if_neg k] at h1
        exact h1.elim
    | _ => exact h1.elim
theorem ds_setFO (c : Str) (i : Nat) (hcl : Cls X.K (He.ga X.K c)) (hna : NoAttr X.K (He.ga X.K c) f) (hv0 : PE X ex (tO X.K W o)) (hN : X.N[i]? = some y := by rfl) (hv : Vis X.env.scope y := by first | exact Or.inl rfl | exact Or.inr (Or.inl rfl) | exact Or.inr (Or.inr rfl)) (hd : (y == ("__debug__" : Str)) = false := by decide)
    (hcd : (y == ("__classdict__" : Str)) = false := by decide) (hs : swapsWith ex (some (.Attribute (.Name y py) f pos')) pos.line X.env = pure false := by rfl) :
    PS X (.Assign [.Attribute (.Name y py) f pos'] ex pos) (tS X.K W (sSetFO c i f o)) := by
  refine psI (ps_fld (pe_var (i := i) hN hv hd hcd) hv0 hs) ?_
  rintro D' σ H ⟨B, F, e, R, h⟩
  refine ⟨B, F, e, R, OutO.toS h fun s e1 h1 F1 H1 v R1 s1 => ?_⟩
  simp only at h1
  cases q1 : nth e1 i with
  | none => rw [q1] at h1; cases q2 : s.toFd <;> (rw [q2] at h1; exact h1.elim)
  | some t =>
    rw [q1] at h1
    cases q2 : s.toFd with
    | none => rw [q2] at h1; cases t <;> exact h1.elim
    | some fd =>
      rw [q2] at h1
      cases t with
      | obj b c' ns xs =>
        simp only at h1
        by_cases k : c' = c ∧ ns.length < 1000
        · rw [if_pos k] at h1
          obtain ⟨rfl, hlt⟩ := k
          obtain ⟨p, dx, fs, hp, hH, hn, up⟩ := R1.absorb q1 q2
          obtain ⟨e', q3, h2⟩ := setS_ok h1
          exact ⟨.ref p, hp, p, _, dx, fs, rfl, hH, hcl, hna, by rw [← hn, List.length_map] at hlt; exact hlt, h2 F1 _ _ (up f e' q3)⟩
        · rw [if_neg k] at h1
          exact h1.elim
      | _ => exact h1.elim
/-- a field read while the object is own -/
theorem dx_fldO (c : Str) (i : Nat) (hcl : Cls X.K (He.ga X.K c)) (hna : NoAttr X.K (He.ga X.K c) f) (hN : X.N[i]? = some y := by rfl) (hv : Vis X.env.scope y := by first | exact Or.inl rfl | exact Or.inr (Or.inl rfl) | exact Or.inr (Or.inr rfl)) (hd : (y == ("__debug__" : Str)) = false := by decide)
    (hcd : (y == ("__classdict__" : Str)) = false := by decide) (hb : attributeBase (.Name y py) f X.env (eval (.Name y py) X.env) = eval (.Name y py) X.env := by rfl) :
    PE X (.Attribute (.Name y py) f pos) (tD X.K W (dFldO c i f)) := by
  refine peI (pe_fld (pe_var (i := i) hN hv hd hcd) hb) ?_
  rintro σ H Q ⟨B, F, e, R, h⟩
  unfold dFldO at h
  cases q : fdAt c i f e with
  | none => rw [q] at h; exact h.elim
  | some r =>
    obtain ⟨b, ns, xs, j, fd⟩ := r
    rw [q] at h
    cases fd with
    | v d =>
      obtain ⟨h1, h2, h3⟩ := fdAt_some q
      obtain ⟨p, dx, fs, hp, hH, hn, _, _, at_⟩ := R.ownO h1
      obtain ⟨v, k1, k2, _⟩ := at_ j _ h3
      subst hn
      obtain ⟨w, k3, k4⟩ := fldIx_lookup h2
      rw [k1] at k4
      injection k4 with k4
      subst k4
      exact ⟨.ref p, hp, p, _, dx, fs, v, rfl, hH, hcl, hna, k3, h F H v R (Same.refl _) (k2 d rfl)⟩
    | _ => exact h.elim
end
end WW
set_option Elab.async false
set_option linter.all false
set_option maxRecDepth 100000
set_option maxHeartbeats 4000000
/-! The data layer, part 18: classes: making, methods. -/
namespace WW
open PySem PySem.Spec L2

/-! ### promises -/
/-- an object's fields -/
abbrev Ob := List Str × List Fd
def OutIn (K : PySem.W.Frag) (F H : Hp) (A : Addr → Prop) (v0 : V) (c : Str) (Q : VK) (E : XK) : R Ob → Prop
  | .ok ob => ∀ F' H' A', Ext K A F H F' H' → SlOk K F' H' v0 (.obj true c ob.1 ob.2) A' → (∀ a, A' a → F' a = none ∧ (A a ∨ Vac H a)) → Q .non H'
  | .exc x => ∀ F' H' cl dd, Ext K A F H F' H' → ExOk K H' x cl dd → E cl dd H'
  | .bad => False
/-- a class's maker: its first argument is the new object -/
def spI (K : PySem.W.Frag) (n : Nat) (c : Str) (f : List D → R Ob) : Sp := fun vs H Q E => ∃ F v0 vs' ds A, vs = v0 :: vs' ∧ Same F H ∧ Reps K F vs' ds ∧ ds.length = n ∧ SlOk K F H v0 (.obj true c [] []) A ∧ (∀ a, A a → F a = none) ∧ OutIn K F H A v0 c Q E (f ds)
def OutOb (K : PySem.W.Frag) (F H : Hp) (A : Addr → Prop) (v0 : V) (c : Str) (Q : VK) (E : XK) : R (D × Ob) → Prop
  | .ok p => ∀ F' H' v A', Ext K A F H F' H' → SlOk K F' H' v0 (.obj true c p.2.1 p.2.2) A' → (∀ a, A' a → F' a = none ∧ (A a ∨ Vac H a)) → Rep K F' v p.1 → Q v H'
  | .exc x => ∀ F' H' cl dd, Ext K A F H F' H' → ExOk K H' x cl dd → E cl dd H'
  | .bad => False
/-- a method that may change its object -/
def spO (K : PySem.W.Frag) (n : Nat) (c : Str) (f : Ob → List D → R (D × Ob)) : Sp := fun vs H Q E => ∃ F v0 vs' ob ds A, vs = v0 :: vs' ∧ Same F H ∧ Reps K F vs' ds ∧ ds.length = n ∧ SlOk K F H v0 (.obj true c ob.1 ob.2) A ∧ (∀ a, A a → F a = none) ∧ OutOb K F H A v0 c Q E (f ob ds)
def initO (n : Nat) (c : Str) (ob : Ob) (ds : List D) : En := some (.obj true c ob.1 ob.2) :: (ds.map (fun d => some (.v d)) ++ List.replicate (n - (ds.length + 1)) none)
def obAt (c : Str) (e : En) : R Ob := match nth e 0 with
  | some (.obj true c' ns xs) => if c' = c then .ok (ns, xs) else .bad
  | _ => .bad
def endI (c : Str) : SR → R Ob
  | .next e => obAt c e
  | .exc x => .exc x
  | _ => .bad
def fnI (n : Nat) (c : Str) (den : DS) : List D → R Ob := fun ds => endI c (den (initO n c ([], []) ds))
def endO (c : Str) : SR → R (D × Ob)
  | .next e => (obAt c e).bind fun ob => .ok (.non, ob)
  | .ret d e => (obAt c e).bind fun ob => .ok (d, ob)
  | .exc x => .exc x
  | _ => .bad
def fnO (n : Nat) (c : Str) (den : DS) : Ob → List D → R (D × Ob) := fun ob ds => endO c (den (initO n c ob ds))
theorem rl_startO {K : PySem.W.Frag} {F H : Hp} {N : List Str} {v0 : V} {vs : List V} {c : Str} {ob : Ob} {ds : List D} {A : Addr → Prop} (s : Same F H) (rs : Reps K F vs ds) (ok : SlOk K F H v0 (.obj true c ob.1 ob.2) A) (hA : ∀ a, A a → F a = none) : Rl K ⟨F, H, A, v0⟩ F H (L2.start N (v0 :: vs)) (initO N.length c ob ds) := by
  refine ⟨?_, Ext.refl s, fun i a => i = 0 ∧ A a, fun i t ht => ?_, fun i a ⟨hi, ha⟩ => ⟨hA a ha, .inl ha, ok.there a ha, by rw [hi]; exact fun z => by cases z⟩, fun i j a ⟨h1, _⟩ ⟨h2, _⟩ => by rw [h1, h2], fun i t u ht hl hu => ?_⟩
  · unfold initO L2.start
    simp only [List.length_cons, List.length_append, List.length_map, List.length_replicate, rs.len, List.map_cons]
    omega
  · cases i with
    | zero =>
      have h2 : some (Sl.obj true c ob.1 ob.2) = some t := ht
      injection h2 with h2
      subst h2
      refine ⟨v0, start_at rfl, ?_⟩
      have ea : (fun a => (0 : Nat) = 0 ∧ A a) = A := funext fun a => propext ⟨fun z => z.2, fun z => ⟨rfl, z⟩⟩
      show SlOk K F H v0 (.obj true c ob.1 ob.2) (fun a => (0 : Nat) = 0 ∧ A a)
      rw [ea]
      exact ok
    | succ i =>
      obtain ⟨d, rfl, hd⟩ := nth_init ds _ i t ht
      obtain ⟨v, h1, h2⟩ := rs.get hd
      exact ⟨v, start_at (by simpa using h1), h2, fun a z => by cases z.1⟩
  · cases i with
    | zero =>
      have hu2 : (L2.start N (v0 :: vs))[0]? = some (some v0) := start_at rfl
      rw [hu2] at hu
      injection hu with hu
      injection hu with hu
      exact hu.symm
    | succ i =>
      obtain ⟨d, rfl, hd⟩ := nth_init ds _ i t ht
      cases hl
theorem obAt_ok {c : Str} {e : En} {ob : Ob} (h : obAt c e = .ok ob) : nth e 0 = some (.obj true c ob.1 ob.2) := by
  unfold obAt at h
  split at h
  · rename_i c' ns xs hs
    by_cases k : c' = c
    · rw [if_pos k] at h
      injection h with h
      rw [← h, ← k]
      exact hs
    · rw [if_neg k] at h
      cases h
  · cases h
theorem obAt_nx {c : Str} {e : En} {x : Exn} : obAt c e ≠ .exc x := by
  intro h
  unfold obAt at h
  split at h
  · split at h <;> cases h
  · cases h
section
variable {P : Program} {w : World} {K : PySem.W.Frag} {mg : Str → Option Value} {base : Heap} {name qual : Str} {params : Arguments} {bd : List Stmt} {sc : Scope} {f : Addr} {fd : FuncData} {N ps : List Str} {k : Nat} {den : DS} {c : Str}
/-- the end of a method's body -/
theorem ob_fin {B : Bs} {F H F' H' : Hp} {σ : St} {e : En} {v0 : V} {A0 : Addr → Prop} {ob : Ob} (R : Rl K ⟨F, H, A0, v0⟩ F' H' σ e) (h : obAt c e = .ok ob) : ∃ A', Ext K A0 F H F' H' ∧ SlOk K F' H' v0 (.obj true c ob.1 ob.2) A' ∧ ∀ a, A' a → F' a = none ∧ (A0 a ∨ Vac H a) := by
  have hs := obAt_ok h
  obtain ⟨_, ex, fp, S⟩ := R
  obtain ⟨u, hu, ok⟩ := S.ok 0 _ hs
  have e0 : u = v0 := S.lent 0 _ u hs rfl hu
  subst e0
  exact ⟨fp 0, ex, ok, fun a z => ⟨(S.own 0 a z).1, (S.own 0 a z).2.1⟩⟩
theorem okI (Fn : FunD K name qual params bd sc [] [] f fd) (S : FnScope N ps sc) (n : Nat) (hn : ps.length = n + 1) (m : Nat) (hm : N.length = m)
    (body : ∀ (cdv : Value) (A : Around) (outer : List Env) (s : Shared) (H : Hp) (E : XK), Room k (A.deeper (PyProof.Rows.envOfC qual sc s.heap.objs.size f cdv)) →
      PSs (cxOf (L2.CX P w) P w K mg base N qual sc f cdv A outer s H E) bd (tS K (fun c d _ H => E c d H) den)) : FnOk P w K mg base (L2.CX P w) (k + 1) f fd ps (spI K n c (fnI m c den)) := by
  refine FunD.ok Fn S (fun vs H Q E h => ?_) (fun cdv A outer s H vs Q E hr h => ⟨_, body cdv A outer s H E hr, ?_⟩)
  · obtain ⟨F, v0, vs', ds, A, rfl, _, rs, hl, _⟩ := h
    rw [List.length_cons, rs.len, hl, hn]
  · obtain ⟨F, v0, vs', ds, A0, rfl, sm, rs, hl, ok, hA, o⟩ := h
    refine ⟨⟨F, H, A0, v0⟩, F, initO N.length c ([], []) ds, rl_startO sm rs ok hA, ?_⟩
    have o2 : OutIn K F H A0 v0 c Q E (endI c (den (initO m c ([], []) ds))) := o
    rw [hm]
    cases q : den (initO m c ([], []) ds) with
    | next e =>
      rw [q] at o2
      have o3 : OutIn K F H A0 v0 c Q E (obAt c e) := o2
      cases z : obAt c e with
      | bad => rw [z] at o3; exact o3.elim
      | exc x => exact absurd z obAt_nx
      | ok ob =>
        rw [z] at o3
        intro F' H' σ R
        obtain ⟨A', h1, h2, h3⟩ := ob_fin (B := ⟨F, H, A0, v0⟩) R z
        exact o3 F' H' A' h1 h2 h3
    | exc z => rw [q] at o2; exact fun σ F' H' cl dd e R ok => o2 F' H' cl dd R.ext ok
    | ret d e => rw [q] at o2; exact o2.elim
    | brk e => rw [q] at o2; exact o2.elim
    | cnt e => rw [q] at o2; exact o2.elim
    | bad => rw [q] at o2; exact o2.elim
theorem okO (Fn : FunD K name qual params bd sc [] [] f fd) (S : FnScope N ps sc) (n : Nat) (hn : ps.length = n + 1) (m : Nat) (hm : N.length = m)
    (body : ∀ (cdv : Value) (A : Around) (outer : List Env) (s : Shared) (H : Hp) (E : XK), Room k (A.deeper (PyProof.Rows.envOfC qual sc s.heap.objs.size f cdv)) →
      PSs (cxOf (L2.CX P w) P w K mg base N qual sc f cdv A outer s H E) bd (tS K (fun c d _ H => E c d H) den)) : FnOk P w K mg base (L2.CX P w) (k + 1) f fd ps (spO K n c (fnO m c den)) := by
  refine FunD.ok Fn S (fun vs H Q E h => ?_) (fun cdv A outer s H vs Q E hr h => ⟨_, body cdv A outer s H E hr, ?_⟩)
  · obtain ⟨F, v0, vs', ob, ds, A, rfl, _, rs, hl, _⟩ := h
    rw [List.length_cons, rs.len, hl, hn]
  · obtain ⟨F, v0, vs', ob, ds, A0, rfl, sm, rs, hl, ok, hA, o⟩ := h
    refine ⟨⟨F, H, A0, v0⟩, F, initO N.length c ob ds, rl_startO sm rs ok hA, ?_⟩
    have o2 : OutOb K F H A0 v0 c Q E (endO c (den (initO m c ob ds))) := o
    rw [hm]
    have fin : ∀ (d : D) (e : En), OutOb K F H A0 v0 c Q E ((obAt c e).bind fun ob => .ok (d, ob)) → ∀ F' H' σ v, Rl K ⟨F, H, A0, v0⟩ F' H' σ e → Rep K F' v d → Q v H' := by
      intro d e o3
      cases z : obAt c e with
      | bad => rw [z] at o3; exact o3.elim
      | exc x => exact absurd z obAt_nx
      | ok ob =>
        rw [z] at o3
        intro F' H' σ v R rv
        obtain ⟨A', h1, h2, h3⟩ := ob_fin (B := ⟨F, H, A0, v0⟩) R z
        exact o3 F' H' v A' h1 h2 h3 rv
    cases q : den (initO m c ob ds) with
    | next e => rw [q] at o2; exact fun F' H' σ R => fin .non e o2 F' H' σ .non R .non
    | ret d e => rw [q] at o2; exact fun F' H' σ v R rv => fin d e o2 F' H' σ v R rv
    | exc z => rw [q] at o2; exact fun σ F' H' cl dd e R ok => o2 F' H' cl dd R.ext ok
    | brk e => rw [q] at o2; exact o2.elim
    | cnt e => rw [q] at o2; exact o2.elim
    | bad => rw [q] at o2; exact o2.elim
/-- a method that only reads its object: a def of data -/
theorem okM (Fn : FunD K name qual params bd sc [] [] f fd) (S : FnScope N ps sc) (n : Nat) (hn : ps.length = n) (m : Nat) (hm : N.length = m)
    (body : ∀ (cdv : Value) (A : Around) (outer : List Env) (s : Shared) (H : Hp) (E : XK), Room k (A.deeper (PyProof.Rows.envOfC qual sc s.heap.objs.size f cdv)) →
      PSs (cxOf (L2.CX P w) P w K mg base N qual sc f cdv A outer s H E) bd (tS K (fun c d _ H => E c d H) den)) : FnOk P w K mg base (L2.CX P w) (k + 1) f fd ps (spD K n (fnD m den)) := by
  refine FunD.ok Fn S (fun vs H Q E h => ?_) (fun cdv A outer s H vs Q E hr h => ⟨_, body cdv A outer s H E hr, ?_⟩)
  · obtain ⟨F, ds, _, rs, hl, _⟩ := h
    rw [rs.len, hl, hn]
  · obtain ⟨F, ds, sm, rs, hl, o⟩ := h
    refine ⟨⟨F, H, NoA, .non⟩, F, initE N.length ds, rl_start sm rs, ?_⟩
    have o2 : OutF K F H Q E (endR (den (initE m ds))) := o
    rw [hm]
    cases q : den (initE m ds) with
    | next e => rw [q] at o2; exact fun F' H' σ R => o2 F' H' .non R.ext .non
    | ret d e => rw [q] at o2; exact fun F' H' σ v R rv => o2 F' H' v R.ext rv
    | exc z => rw [q] at o2; exact fun σ F' H' c dd e R ok => o2 F' H' c dd R.ext ok
    | brk e => rw [q] at o2; exact o2.elim
    | cnt e => rw [q] at o2; exact o2.elim
    | bad => rw [q] at o2; exact o2.elim
end
/-! ### by name -/
/-- a class by the name that the module has for it, its maker -/
structure GMk (P : Program) (w : World) (K : PySem.W.Frag) (mg : Str → Option Value) (base : Heap) (c : Str) (k : Nat) (ps : List Str) (sp : Sp) : Prop where
  ex : ∃ f fd, FnOk P w K mg base (L2.CX P w) k f fd ps sp ∧ Mk K (He.ga K c) f ∧ mg c = some (.ref (He.ga K c)) ∧ Binds K fd ps []
structure GMt (P : Program) (w : World) (K : PySem.W.Frag) (mg : Str → Option Value) (base : Heap) (c m : Str) (k : Nat) (ps : List Str) (sp : Sp) : Prop where
  ex : ∃ f fd, FnOk P w K mg base (L2.CX P w) k f fd ps sp ∧ Meth K (He.ga K c) m f ∧ Cls K (He.ga K c) ∧ Binds K fd ps []
/-! ### making -/
def oMake (c : Str) (f : List D → R Ob) (da : DA) : OE := fun e => (da e).bind fun p => (f p.1).bind fun ob => .ok (.obj false c ob.1 ob.2, p.2)
section
variable {X : Cx} {E : XK} {pos p apos : Pos} {k j n : Nat} {ps : List Str} {c m x : Str} {ex o : Expr} {es : List Expr} {dr : DA} {da : DE}
abbrev WK (E : XK) : WX := fun c d _ H => E c d H
theorem passes_E (tk : Takes X (WK E)) : Passes (L2.CX X.prog X.w) X E := passes_call tk fun _ _ _ _ z => z
/-- the heap with a new object, and back to the caller's slots -/
theorem Rl.made {K : PySem.W.Frag} {B : Bs} {F H F' H' : Hp} {σ : St} {e : En} {x dx : Addr} {C : Addr} {A : Addr → Prop} (R : Rl K B F H σ e) (nx : H x = none) (ndx : H dx = none) (ne : dx ≠ x) (hA : ∀ a, A a → a = x) (xE : Ext K A F (upd (upd H dx (.own x)) x (.ins C dx [])) F' H') : Ext K NoA F H F' H' ∧ Rl K B F' H' σ e := by
  have x1 : Ext K NoA F H F (upd H dx (.own x)) := ext_raw R.sub ndx
  have nx1 : (upd H dx (.own x)) x = none := by rw [upd_ne ne.symm]; exact nx
  have x2 : Ext K NoA F (upd H dx (.own x)) F (upd (upd H dx (.own x)) x (.ins C dx [])) := ext_raw (R.step x1).sub nx1
  have x3 : Ext K NoA F H F' H' := (x1.trans x2 fun _ z => z.elim).trans xE fun a z => .inr (by rw [hA a z]; exact .of nx)
  exact ⟨x3, R.step x3⟩
theorem ox_make {g : List D → R Ob} (G : GMk X.prog X.w X.K X.mg X.base c k ps (spI X.K n c g)) (hr : Room j X.A) (hj : k + 1 ≤ j) (tk : Takes X (WK E)) (hg : Gl X c) (ha : PA X (ex :: es) (tA X.K (WK E) dr)) (hl : ∀ e p, dr e = .ok p → p.1.length = n)
    (hdb : (c == ("__debug__" : Str)) = false := by decide) (he : starEach (ex :: es) X.env = (false, eval ex X.env) :: starEach es X.env := by rfl) (hpl : (backTo pos (starEach es X.env)).any (·.1) = false := by rfl) :
    PE X (.Call (.Name c p) (ex :: es) [] pos) (tO X.K (WK E) (oMake c g dr)) := by
  obtain ⟨f, fd, Fn, M, hm, hb⟩ := G.ex
  refine peI (pe_make M Fn (hr.mono hj) hg hm hb .nil (passes_E tk) ha hdb he hpl) ?_
  rintro σ H Q ⟨B, F, e, R, h⟩
  refine ⟨B, F, e, R, ?_⟩
  have h0 : OutO X.K (WK E) B F σ Q ((dr e).bind fun p => (g p.1).bind fun ob => .ok (.obj false c ob.1 ob.2, p.2)) := h
  cases q : dr e with
  | bad => rw [q] at h0; exact h0.elim
  | exc z => rw [q] at h0; exact h0
  | ok pr =>
    rw [q] at h0
    obtain ⟨l, e1⟩ := pr
    intro F1 H1 xs R1 s1 rs x dx nx ndx ne
    rw [List.append_nil]
    have Fx : F1 x = none := by
      cases z : F1 x with
      | none => rfl
      | some o => rw [R1.sub _ _ z] at nx; cases nx
    have Fdx : F1 dx = none := by
      cases z : F1 dx with
      | none => rfl
      | some o => rw [R1.sub _ _ z] at ndx; cases ndx
    have sub2 : Same F1 (upd (upd H1 dx (.own x)) x (.ins (He.ga X.K c) dx [])) := fun a o h => by
      have h1 : a ≠ x := fun z => by rw [z, Fx] at h; cases h
      have h2 : a ≠ dx := fun z => by rw [z, Fdx] at h; cases h
      rw [upd_ne h1, upd_ne h2]
      exact R1.sub _ _ h
    refine ⟨F1, .ref x, xs, l, fun a => a = x ∨ False, rfl, sub2, rs, hl e _ q, ⟨x, dx, [], fun _ => False, rfl, fun a => Iff.rfl, fun z => z, upd_same, rfl, .nil fun _ z => z⟩, fun a z => by rw [z.elim id False.elim]; exact Fx, ?_⟩
    have hA : ∀ a, (a = x ∨ False) → a = x := fun a z => z.elim id False.elim
    have h1 : OutO X.K (WK E) B F σ Q ((g l).bind fun ob => .ok (.obj false c ob.1 ob.2, e1)) := h0
    cases q2 : g l with
    | bad => rw [q2] at h1; exact h1.elim
    | exc z =>
      rw [q2] at h1
      intro F2 H2 cl dd xE ok
      obtain ⟨x3, R3⟩ := R1.made nx ndx ne hA xE
      exact h1 F2 H2 cl dd e1 R3 ok
    | ok ob =>
      rw [q2] at h1
      intro F2 H2 A' xE ok hA'
      obtain ⟨x3, R3⟩ := R1.made nx ndx ne hA xE
      refine ⟨rfl, h1 F2 H2 (.ref x) ?_ (s1.trans x3.fr)⟩
      -- the object is laid behind the slots
      obtain ⟨l0, ex0, fp, S⟩ := id R1
      have S3 := S.step x3
      have l1 : e1.length = σ.length := l0
      have okf : SlOk X.K F2 H2 (.ref x) (.obj false c ob.1 ob.2) A' := ok
      have new : ∀ a, A' a → Vac H1 a := fun a z => by
        rcases (hA' a z).2 with w | w
        · rw [hA a w]; exact .of nx
        · intro o ho hn
          by_cases h1 : a = x
          · rw [h1, nx] at ho; cases ho
          · by_cases h2 : a = dx
            · rw [h2, ndx] at ho; cases ho
            · exact w o (by rw [upd_ne h1, upd_ne h2]; exact ho) hn
      have le : ∀ j a, fp j a → j < e1.length := fun j a z => by
        obtain ⟨_, _, _, q⟩ := S.own j a z
        cases h : nth e1 j with
        | none => exact absurd h q
        | some t => exact nth_some_lt h
      refine ⟨by rw [List.length_append, List.length_append, l1]; rfl, ex0.trans x3 (fun _ z => z.elim), fun j a => if j = e1.length then A' a else fp j a, fun j t ht => ?_, fun j a ha => ?_, fun j k a ha hb => ?_, fun j t u ht hl hu => ?_⟩
      · by_cases hj : j = e1.length
        · subst hj
          rw [nth_app_last] at ht
          injection ht with ht
          subst ht
          refine ⟨.ref x, by rw [l1, List.getElem?_append_right (Nat.le_refl _)]; simp, ?_⟩
          have ea : (fun a => if e1.length = e1.length then A' a else fp e1.length a) = A' := funext fun a => if_pos rfl
          show SlOk X.K F2 H2 (.ref x) (.obj false c ob.1 ob.2) (fun a => if e1.length = e1.length then A' a else fp e1.length a)
          rw [ea]
          exact okf
        · have hlt : j < e1.length := by
            have := nth_some_lt ht
            rw [List.length_append] at this
            simp at this
            omega
          rw [nth_app_left hlt] at ht
          obtain ⟨u, q1, q2⟩ := S3.ok j t ht
          refine ⟨u, by rw [List.getElem?_append_left (by rw [← l1]; exact hlt)]; exact q1, ?_⟩
          have ea : (fun a => if j = e1.length then A' a else fp j a) = fp j := funext fun a => if_neg hj
          show SlOk X.K F2 H2 u t (fun a => if j = e1.length then A' a else fp j a)
          rw [ea]
          exact q2
      · by_cases hj : j = e1.length
        · rw [if_pos hj] at ha
          exact ⟨(hA' a ha).1, .inr (ex0.vac (new a ha)), okf.there a ha, by rw [hj, nth_app_last]; exact fun z => by cases z⟩
        · rw [if_neg hj] at ha
          obtain ⟨q1, q2, q3, q4⟩ := S3.own j a ha
          exact ⟨q1, q2, q3, by rw [nth_app_left (le j a ha)]; exact q4⟩
      · by_cases hj : j = e1.length
        · by_cases hk : k = e1.length
          · rw [hj, hk]
          · rw [if_pos hj] at ha
            rw [if_neg hk] at hb
            obtain ⟨_, _, ⟨o, q3, qc⟩, _⟩ := S.own k a hb
            exact (new a ha o q3 qc.1).elim
        · by_cases hk : k = e1.length
          · rw [if_neg hj] at ha
            rw [if_pos hk] at hb
            obtain ⟨_, _, ⟨o, q3, qc⟩, _⟩ := S.own j a ha
            exact (new a hb o q3 qc.1).elim
          · rw [if_neg hj] at ha
            rw [if_neg hk] at hb
            exact S.apart j k a ha hb
      · by_cases hj : j = e1.length
        · subst hj
          rw [nth_app_last] at ht
          injection ht with ht
          subst ht
          cases hl
        · have hlt : j < e1.length := by
            have := nth_some_lt ht
            rw [List.length_append] at this
            simp at this
            omega
          rw [nth_app_left hlt] at ht
          rw [List.getElem?_append_left (by rw [← l1]; exact hlt)] at hu
          exact S.lent j t u ht hl hu
end
/-! ### a new object as plain data -/
def fdVs : List Fd → Option (List D)
  | [] => some []
  | .v d :: r => (match fdVs r with
    | some l => some (d :: l)
    | none => none)
  | _ => none
theorem fdVs_ok {K : PySem.W.Frag} {F H : Hp} : ∀ {vs : List V} {fds : List Fd} {A : Addr → Prop} {l : List D}, FdsOk K F H vs fds A → fdVs fds = some l → Reps K F vs l ∧ ∀ a, ¬ A a
  | _, _, _, l, .nil n, h => by
    have h2 : some [] = some l := h
    injection h2 with h2
    subst h2
    exact ⟨.nil, n⟩
  | _, _, _, l, .cons (f := f) h1 h2 h3 h4, h => by
    cases f with
    | v d =>
      have h5 : (match fdVs _ with
        | some l => some (d :: l)
        | none => none) = some l := h
      split at h5
      · rename_i l' q
        injection h5 with h5
        subst h5
        obtain ⟨k1, k2⟩ := fdVs_ok h2 q
        exact ⟨.cons h1.1 k1, fun a z => ((h4 a).mp z).elim (h1.2 a) (k2 a)⟩
      · cases h5
    | l _ => cases h
    | dc _ => cases h
def insOf (c : Str) (ns : List Str) (xs : List Fd) : R D := match fdVs xs with
  | some l => .ok (.ins c ns l)
  | none => .bad
def obD : Sl → R D
  | .obj false c ns xs => insOf c ns xs
  | _ => .bad
def dFrzO (o : OE) : DE := fun e => (o e).bind fun p => (obD p.1).bind fun d => .ok (d, p.2)
theorem Rl.freezeO {K : PySem.W.Frag} {B : Bs} {F H : Hp} {σ : St} {e : En} {v : V} {b : Bool} {c : Str} {ns : List Str} {xs : List Fd} {l : List D} (R : Rl K B F H (σ ++ [some v]) (e ++ [some (.obj b c ns xs)])) (h : fdVs xs = some l) : ∃ F', Same F F' ∧ Rl K B F' H σ e ∧ Rep K F' v (.ins c ns l) := by
  have R0 := R.less
  obtain ⟨_, ex, fp, S⟩ := id R
  have l' : e.length = σ.length := R0.len
  obtain ⟨u, hu, p, dx, fs, A0, rfl, hA, n0, hp, hn, hf⟩ := S.ok e.length _ nth_app_last
  have hlast : (σ ++ [some v])[e.length]? = some (some v) := by rw [l', List.getElem?_append_right (Nat.le_refl _)]; simp
  rw [hlast] at hu
  injection hu with hu
  injection hu with hu
  subst hu
  obtain ⟨rs, nA⟩ := fdVs_ok hf h
  obtain ⟨fn, fb, _, _⟩ := S.own e.length p ((hA p).mpr (.inl rfl))
  have sm : Same F (upd F p (.ins (He.ga K c) dx fs)) := fun b o h => by
    have hb : b ≠ p := fun z => by subst z; rw [fn] at h; cases h
    rw [upd_ne hb]; exact h
  have xf : Ext K (fun a => a = p) F H (upd F p (.ins (He.ga K c) dx fs)) H := Ext.frz ex.sub fn rfl hp .ins
  refine ⟨_, sm, ?_, .ins upd_same hn (rs.mono sm)⟩
  obtain ⟨_, _, fp0, S0⟩ := id R0
  refine ⟨l', ex.trans xf (fun a z => by rw [z]; exact fb), fun j a => j < e.length ∧ fp j a, fun j t ht => ?_, fun j a ⟨hj, ha⟩ => ?_, fun j k a ⟨_, ha⟩ ⟨_, hb⟩ => S.apart j k a ha hb, fun j t u ht hl hu => S.lent j t u (by rw [nth_app_left (nth_some_lt ht)]; exact ht) hl (by rw [List.getElem?_append_left (by rw [← l']; exact nth_some_lt ht)]; exact hu)⟩
  · have hlt := nth_some_lt ht
    obtain ⟨u, q1, q2⟩ := S.ok j t (by rw [nth_app_left hlt]; exact ht)
    refine ⟨u, by rw [List.getElem?_append_left (by rw [← l']; exact hlt)] at q1; exact q1, ?_⟩
    have ea : (fun a => j < e.length ∧ fp j a) = fp j := funext fun a => propext ⟨fun z => z.2, fun z => ⟨hlt, z⟩⟩
    show SlOk K _ H u t (fun a => j < e.length ∧ fp j a)
    rw [ea]
    exact q2.mono sm (fun a o _ q _ => q) xf.nt xf.tab xf.xd
  · obtain ⟨q1, q2, q3, q4⟩ := S.own j a ha
    refine ⟨?_, q2, q3, by rw [nth_app_left hj] at q4; exact q4⟩
    have ne : a ≠ p := fun z => by
      subst z
      have := S.apart e.length j a ((hA a).mpr (.inl rfl)) ha
      omega
    rw [upd_ne ne]
    exact q1
theorem dx_frzO {X : Cx} {W : WX} {o : OE} {ex : Expr} (h : PE X ex (tO X.K W o)) : PE X ex (tD X.K W (dFrzO o)) := by
  refine peI h ?_
  rintro σ H Q ⟨B, F, e, R, h⟩
  refine ⟨B, F, e, R, OutO.bind (P := OutD X.K W B F σ Q) dBad dExc h fun s e1 h1 F1 H1 x R1 s1 => ?_⟩
  cases s with
  | obj b c ns xs =>
    cases b with
    | true => exact h1.elim
    | false =>
      have h2 : OutD X.K W B F σ Q ((insOf c ns xs).bind fun d => .ok (d, e1)) := h1
      unfold insOf at h2
      cases q : fdVs xs with
      | none => rw [q] at h2; exact h2.elim
      | some l =>
        rw [q] at h2
        obtain ⟨F2, s2, R2, rp⟩ := R1.freezeO q
        exact h2 F2 H1 x R2 (s1.trans s2) rp
  | _ => exact h1.elim
end WW
set_option Elab.async false
set_option linter.all false
set_option maxRecDepth 100000
set_option maxHeartbeats 4000000
/-! The data layer, part 19: methods called. -/
namespace WW
open PySem PySem.Spec L2

theorem lookup_nomem {f : Str} : ∀ {fs : List (Str × V)}, f ∉ fs.map (·.1) → fs.lookup f = none
  | [], _ => rfl
  | (n, v) :: fs, h => by
    rw [List.map_cons, List.mem_cons, not_or] at h
    rw [List.lookup_cons, show (f == n) = false by simp; exact h.1]
    exact lookup_nomem h.2
/-- the receiver is plain data -/
def isIns (c m : Str) : D → Bool
  | .ins c' ns _ => decide (c' = c) && decide (m ∉ ns)
  | _ => false
def dMethD (c m : Str) (g : List D → R D) (da : DE) (dr : DA) : DE := fun e => (da e).bind fun p => if isIns c m p.1 = true then (dr p.2).bind fun q => (g (p.1 :: q.1)).bind fun d => .ok (d, q.2) else .bad
section
variable {X : Cx} {E : XK} {pos p apos py : Pos} {k j n : Nat} {ps : List Str} {c m x y : Str} {ex o : Expr} {es : List Expr} {dr : DA} {da : DE}
theorem core_methD {g : List D → R D} {σ : St} {H : Hp} {Q : VK} {t : TA} (ht : ∀ σ H Q, tA X.K (WK E) dr σ H Q → t σ H Q) (hl : ∀ e p, dr e = .ok p → p.1.length = n) (h : tD X.K (WK E) (dMethD c m g da dr) σ H Q) : tMeth (He.ga X.K c) m (spD X.K (n + 1) g) [] E (tD X.K (WK E) da) t σ H Q := by
  obtain ⟨B, F, e, R, h⟩ := h
  refine ⟨B, F, e, R, OutD.bind (P := OutD X.K (WK E) B F σ Q) dBad dExc h fun d e1 h1 F1 H1 v R1 s1 rv => ?_⟩
  by_cases ci : isIns c m d = true
  · simp only [if_pos ci] at h1
    cases d with
    | ins c' ns l =>
      obtain ⟨k1, k2⟩ := Bool.and_eq_true_iff.mp (show (decide (c' = c) && decide (m ∉ ns)) = true from ci)
      have e1' := of_decide_eq_true k1
      subst e1'
      have nm := of_decide_eq_true k2
      obtain ⟨a, dx, fs, rfl, hF, hn, hr⟩ := rv.ins_inv
      refine ⟨a, dx, fs, rfl, R1.sub _ _ hF, lookup_nomem (by rw [hn]; exact nm), ht _ _ _ ⟨B, F1, e1, R1, ?_⟩⟩
      have h2 : OutD X.K (WK E) B F σ Q ((dr e1).bind fun q => (g (D.ins c' ns l :: q.1)).bind fun d => .ok (d, q.2)) := h1
      cases q : dr e1 with
      | bad => rw [q] at h2; exact h2.elim
      | exc z => rw [q] at h2; exact h2
      | ok pr =>
        rw [q] at h2
        obtain ⟨l2, e2⟩ := pr
        intro F2 H2 xs R2 s2 rs
        rw [List.append_nil]
        refine ⟨F2, D.ins c' ns l :: l2, R2.sub, .cons (rv.mono s2) rs, by rw [List.length_cons, hl _ _ q], ?_⟩
        have h3 : OutD X.K (WK E) B F σ Q ((g (D.ins c' ns l :: l2)).bind fun d => .ok (d, e2)) := h2
        cases q2 : g (D.ins c' ns l :: l2) with
        | bad => rw [q2] at h3; exact h3.elim
        | ok d =>
          rw [q2] at h3
          exact fun F3 H3 v x3 rv => h3 F3 H3 v (R2.step x3) ((s1.trans s2).trans x3.fr) rv
        | exc z =>
          rw [q2] at h3
          exact fun F3 H3 c dd x3 ok => h3 F3 H3 c dd e2 (R2.step x3) ok
    | _ => cases ci
  · simp only [if_neg ci] at h1
    exact h1.elim
theorem dx_methD {pl : Sem Bool} {g : List D → R D} (G : GMt X.prog X.w X.K X.mg X.base c m k ps (spD X.K (n + 1) g)) (hr : Room j X.A) (hj : k ≤ j) (tk : Takes X (WK E)) (ho : PE X o (tD X.K (WK E) da)) (ha : PA X (ex :: es) (tA X.K (WK E) dr)) (hl : ∀ e p, dr e = .ok p → p.1.length = n)
    (hst : starEach (ex :: es) X.env = (false, eval ex X.env) :: starEach es X.env := by rfl) (hpl : (backTo pos (starEach es X.env)).any (·.1) = false := by rfl)
    (ht : eval (.Call (.Attribute o m apos) (ex :: es) [] pos) X.env = (do
      let ov ← eval o X.env
      standAt apos.atName
      let (f, first) ← holding [ov] (getMethod ov m pl)
      callWith pos f first (backTo pos (starEach (ex :: es) X.env)) (backToKw pos (keywordEach [] X.env))) := by rfl) :
    PE X (.Call (.Attribute o m apos) (ex :: es) [] pos) (tD X.K (WK E) (dMethD c m g da dr)) := by
  obtain ⟨f, fd, Fn, M, cl, hb⟩ := G.ex
  exact peI (pe_meth (pl := pl) ho cl M Fn (hr.mono hj) hb .nil (passes_E tk) ha hst hpl ht) fun _ _ _ h => core_methD (fun _ _ _ z => z) hl h
theorem dx_methD0 {pl : Sem Bool} {g : List D → R D} (G : GMt X.prog X.w X.K X.mg X.base c m k ps (spD X.K 1 g)) (hr : Room j X.A) (hj : k ≤ j) (tk : Takes X (WK E)) (ho : PE X o (tD X.K (WK E) da))
    (ht : eval (.Call (.Attribute o m apos) [] [] pos) X.env = (do
      let ov ← eval o X.env
      standAt apos.atName
      let (f, first) ← holding [ov] (getMethod ov m pl)
      callWith pos f first (backTo pos (starEach [] X.env)) (backToKw pos (keywordEach [] X.env))) := by rfl) :
    PE X (.Call (.Attribute o m apos) [] [] pos) (tD X.K (WK E) (dMethD c m g da dNil)) := by
  obtain ⟨f, fd, Fn, M, cl, hb⟩ := G.ex
  refine peI (pe_meth0 (pl := pl) ho cl M Fn (hr.mono hj) hb .nil (passes_E tk) ht) fun _ _ _ h => core_methD (dr := dNil) (fun σ H Q z => ?_) (fun _ _ => len_nil) h
  obtain ⟨B, F, e, R, h⟩ := z
  exact h F H [] R (Same.refl _) .nil

/-! ### the receiver is the own object in slot i -/
def objAt (c : Str) (i : Nat) (m : Str) (e : En) : Option (Bool × Ob) := match nth e i with
  | some (.obj b c' ns xs) => if c' = c ∧ m ∉ ns then some (b, ns, xs) else none
  | _ => none
def putOb (c : Str) (i : Nat) (b : Bool) (e : En) (q : D × Ob) : R (D × En) := match setE e i (some (.obj b c q.2.1 q.2.2)) with
  | some e' => .ok (q.1, e')
  | none => .bad
def callOb (c m : Str) (i : Nat) (g : Ob → List D → R (D × Ob)) (p : List D × En) : R (D × En) := match objAt c i m p.2 with
  | some (b, ob) => (g ob p.1).bind (putOb c i b p.2)
  | none => .bad
def dMethO (c m : Str) (i : Nat) (g : Ob → List D → R (D × Ob)) (dr : DA) : DE := fun e => match objAt c i m e with
  | some _ => (dr e).bind (callOb c m i g)
  | none => .bad
theorem objAt_some {c m : Str} {i : Nat} {e : En} {b : Bool} {ob : Ob} (h : objAt c i m e = some (b, ob)) : nth e i = some (.obj b c ob.1 ob.2) ∧ m ∉ ob.1 := by
  unfold objAt at h
  split at h
  · rename_i b' c' ns xs hs
    by_cases k : c' = c ∧ m ∉ ns
    · rw [if_pos k] at h
      injection h with h
      injection h with h1 h
      subst h1 h
      rw [← k.1]
      exact ⟨hs, k.2⟩
    · rw [if_neg k] at h
      cases h
  · cases h
/-- what slot i owned is lost -/
theorem Rl.lose {K : PySem.W.Frag} {B : Bs} {F H F' H' : Hp} {σ : St} {e e' : En} {i : Nat} {s : Sl} {v : V} {A : Addr → Prop} (R : Rl K B F H σ e) (hs : nth e i = some s) (hv : σ[i]? = some (some v)) (ok : SlOk K F H v s A) (he : setE e i none = some e') (x : Ext K A F H F' H') : Rl K B F' H' σ e' := by
  obtain ⟨l, ex, fp, S⟩ := id R
  obtain ⟨h1, h2, h3, h4⟩ := setE_some he
  obtain ⟨v1, e1, ok1⟩ := S.ok i s hs
  rw [hv] at e1
  injection e1 with e1
  injection e1 with e1
  subst e1
  have eA := ok.uniq ok1
  subst eA
  refine ⟨by rw [h2]; exact l, ex.trans x (fun a z => (S.own i a z).2.1), fun j a => j ≠ i ∧ fp j a, fun j t ht => ?_, fun j a ⟨hj, ha⟩ => ?_, fun j k a ⟨_, ha⟩ ⟨_, hb⟩ => S.apart j k a ha hb, fun j t u ht hl hu => ?_⟩
  · by_cases hj : j = i
    · subst hj
      rw [h3] at ht
      cases ht
    · rw [h4 j hj] at ht
      obtain ⟨u, q1, q2⟩ := S.ok j t ht
      refine ⟨u, q1, ?_⟩
      have ea : (fun a => j ≠ i ∧ fp j a) = fp j := funext fun a => propext ⟨fun z => z.2, fun z => ⟨hj, z⟩⟩
      show SlOk K F' H' u t (fun a => j ≠ i ∧ fp j a)
      rw [ea]
      exact q2.mono x.fr (fun a o ha hq c => x.keep a o hq (fun z => hj (S.apart j i a ha z)) c.1) x.nt x.tab x.xd
  · obtain ⟨q1, q2, ⟨o, q3, qc⟩, q4⟩ := S.own j a ha
    refine ⟨?_, q2, ⟨o, x.keep a o q3 (fun z => hj (S.apart j i a ha z)) qc.1, qc⟩, by rw [h4 j hj]; exact q4⟩
    cases q : F' a with
    | none => rfl
    | some u =>
      rcases x.fresh a u q with z | z | z
      · rw [q1] at z; cases z
      · exact (z _ q3 qc.1).elim
      · exact absurd (S.apart j i a ha z) hj
  · by_cases hj : j = i
    · subst hj
      rw [h3] at ht
      cases ht
    · rw [h4 j hj] at ht
      exact S.lent j t u ht hl hu
theorem setE_ex {e : En} {i : Nat} (s : Option Sl) (h : i < e.length) : ∃ e', setE e i s = some e' := by
  induction e generalizing i with
  | nil => exact absurd h (Nat.not_lt_zero _)
  | cons a r ih =>
    cases i with
    | zero => exact ⟨_, rfl⟩
    | succ i =>
      obtain ⟨q, hq⟩ := ih (Nat.lt_of_succ_lt_succ h)
      exact ⟨a :: q, by show (match setE r i s with
        | some q => some (a :: q)
        | none => none) = _; rw [hq]⟩
theorem slOk_lent {K : PySem.W.Frag} {F H : Hp} {v : V} {b b' : Bool} {c : Str} {ns : List Str} {xs : List Fd} {A : Addr → Prop} (h : SlOk K F H v (.obj b c ns xs) A) : SlOk K F H v (.obj b' c ns xs) A := h
theorem core_methO {g : Ob → List D → R (D × Ob)} {σ : St} {H : Hp} {Q : VK} {i : Nat} {t : TA} (ht : ∀ σ H Q, tA X.K (WK E) dr σ H Q → t σ H Q) (hl : ∀ e p, dr e = .ok p → p.1.length = n) (h : tD X.K (WK E) (dMethO c m i g dr) σ H Q) : tMeth (He.ga X.K c) m (spO X.K n c g) [] E (tVar i) t σ H Q := by
  obtain ⟨B, F, e, R, h⟩ := h
  unfold dMethO at h
  cases q0 : objAt c i m e with
  | none => rw [q0] at h; exact h.elim
  | some r0 =>
    obtain ⟨b0, ob0⟩ := r0
    rw [q0] at h
    obtain ⟨hs0, nm0⟩ := objAt_some q0
    obtain ⟨_, _, fp0, S0⟩ := id R
    obtain ⟨v0, hv0, p0, dx0, fs0, A0, e0, _, _, hp0, hn0, _⟩ := S0.ok i _ hs0
    subst e0
    refine ⟨.ref p0, hv0, p0, dx0, fs0, rfl, hp0, lookup_nomem (by rw [hn0]; exact nm0), ht _ _ _ ⟨B, F, e, R, ?_⟩⟩
    have h1 : OutD X.K (WK E) B F σ Q ((dr e).bind (callOb c m i g)) := h
    cases q : dr e with
    | bad => rw [q] at h1; exact h1.elim
    | exc z => rw [q] at h1; exact h1
    | ok pr =>
      rw [q] at h1
      obtain ⟨l, e1⟩ := pr
      intro F1 H1 xs R1 s1 rs
      rw [List.append_nil]
      have h2 : OutD X.K (WK E) B F σ Q (callOb c m i g (l, e1)) := h1
      unfold callOb at h2
      cases q1 : objAt c i m e1 with
      | none => rw [q1] at h2; exact h2.elim
      | some r =>
        obtain ⟨b, ob⟩ := r
        rw [q1] at h2
        obtain ⟨hs, nm⟩ := objAt_some q1
        obtain ⟨_, _, fp, S⟩ := id R1
        obtain ⟨v1, hv1, ok1⟩ := S.ok i _ hs
        rw [hv0] at hv1
        injection hv1 with hv1
        injection hv1 with hv1
        subst hv1
        have ok2 : SlOk X.K F1 H1 (.ref p0) (.obj true c ob.1 ob.2) (fp i) := slOk_lent ok1
        refine ⟨F1, .ref p0, xs, ob, l, fp i, rfl, R1.sub, rs, hl e _ q, ok2, fun a z => (S.own i a z).1, ?_⟩
        have h3 : OutD X.K (WK E) B F σ Q ((g ob l).bind (putOb c i b e1)) := h2
        cases q2 : g ob l with
        | bad => rw [q2] at h3; exact h3.elim
        | exc z =>
          rw [q2] at h3
          intro F2 H2 cl dd x2 okx
          obtain ⟨e', he'⟩ := setE_ex none (nth_some_lt hs)
          exact h3 F2 H2 cl dd e' (R1.lose hs hv0 ok1 he' x2) okx
        | ok pr2 =>
          rw [q2] at h3
          obtain ⟨d, ob'⟩ := pr2
          intro F2 H2 v A' x2 okv hA' rv
          have h4 : OutD X.K (WK E) B F σ Q (match setE e1 i (some (.obj b c ob'.1 ob'.2)) with
            | some e' => .ok (d, e')
            | none => .bad) := h3
          cases q3 : setE e1 i (some (.obj b c ob'.1 ob'.2)) with
          | none => rw [q3] at h4; exact h4.elim
          | some e2 =>
            rw [q3] at h4
            refine h4 F2 H2 v ?_ (s1.trans x2.fr) rv
            refine R1.change hs hv0 q3 (fun A okA hF => ⟨A', ?_, slOk_lent okv, fun a z => ?_⟩) (fun z => z)
            · rw [okA.uniq ok1]
              exact x2
            · rw [okA.uniq ok1]
              exact hA' a z
theorem dx_methO {pl : Sem Bool} {g : Ob → List D → R (D × Ob)} (i : Nat) (G : GMt X.prog X.w X.K X.mg X.base c m k ps (spO X.K n c g)) (hr : Room j X.A) (hj : k ≤ j) (tk : Takes X (WK E)) (ha : PA X (ex :: es) (tA X.K (WK E) dr)) (hl : ∀ e p, dr e = .ok p → p.1.length = n)
    (hN : X.N[i]? = some y := by rfl) (hv : Vis X.env.scope y := by first | exact Or.inl rfl | exact Or.inr (Or.inl rfl) | exact Or.inr (Or.inr rfl)) (hd : (y == ("__debug__" : Str)) = false := by decide) (hcd : (y == ("__classdict__" : Str)) = false := by decide)
    (hst : starEach (ex :: es) X.env = (false, eval ex X.env) :: starEach es X.env := by rfl) (hpl : (backTo pos (starEach es X.env)).any (·.1) = false := by rfl)
    (ht : eval (.Call (.Attribute (.Name y py) m apos) (ex :: es) [] pos) X.env = (do
      let ov ← eval (.Name y py) X.env
      standAt apos.atName
      let (f, first) ← holding [ov] (getMethod ov m pl)
      callWith pos f first (backTo pos (starEach (ex :: es) X.env)) (backToKw pos (keywordEach [] X.env))) := by rfl) :
    PE X (.Call (.Attribute (.Name y py) m apos) (ex :: es) [] pos) (tD X.K (WK E) (dMethO c m i g dr)) := by
  obtain ⟨f, fd, Fn, M, cl, hb⟩ := G.ex
  exact peI (pe_meth (pl := pl) (pe_var (i := i) hN hv hd hcd) cl M Fn (hr.mono hj) hb .nil (passes_E tk) ha hst hpl ht) fun _ _ _ h => core_methO (fun _ _ _ z => z) hl h
theorem dx_methO0 {pl : Sem Bool} {g : Ob → List D → R (D × Ob)} (i : Nat) (G : GMt X.prog X.w X.K X.mg X.base c m k ps (spO X.K 0 c g)) (hr : Room j X.A) (hj : k ≤ j) (tk : Takes X (WK E))
    (hN : X.N[i]? = some y := by rfl) (hv : Vis X.env.scope y := by first | exact Or.inl rfl | exact Or.inr (Or.inl rfl) | exact Or.inr (Or.inr rfl)) (hd : (y == ("__debug__" : Str)) = false := by decide) (hcd : (y == ("__classdict__" : Str)) = false := by decide)
    (ht : eval (.Call (.Attribute (.Name y py) m apos) [] [] pos) X.env = (do
      let ov ← eval (.Name y py) X.env
      standAt apos.atName
      let (f, first) ← holding [ov] (getMethod ov m pl)
      callWith pos f first (backTo pos (starEach [] X.env)) (backToKw pos (keywordEach [] X.env))) := by rfl) :
    PE X (.Call (.Attribute (.Name y py) m apos) [] [] pos) (tD X.K (WK E) (dMethO c m i g dNil)) := by
  obtain ⟨f, fd, Fn, M, cl, hb⟩ := G.ex
  refine peI (pe_meth0 (pl := pl) (pe_var (i := i) hN hv hd hcd) cl M Fn (hr.mono hj) hb .nil (passes_E tk) ht) fun _ _ _ h => core_methO (dr := dNil) (fun σ H Q z => ?_) (fun _ _ => len_nil) h
  obtain ⟨B, F, e, R, h⟩ := z
  exact h F H [] R (Same.refl _) .nil
end
end WW
set_option Elab.async false
set_option linter.all false
set_option maxRecDepth 100000
set_option maxHeartbeats 4000000
/-! The data layer, part 20: several targets at once, sorted of dicts, dicts against {}, the law's own def. -/
namespace WW
open PySem PySem.Spec L2

/-! ### several things at once -/
abbrev DL := En → R (List Sl × En)
def OutL (K : PySem.W.Frag) (W : WX) (B : Bs) (F : Hp) (σ : St) (Q : List V → Hp → Prop) : R (List Sl × En) → Prop
  | .ok p => ∀ F' H' vs, Rl K B F' H' (σ ++ vs.map some) (p.2 ++ p.1.map some) → vs.length = p.1.length → Same F F' → Q vs H'
  | .exc x => ExcOut K W B σ x
  | .bad => False
def tL (K : PySem.W.Frag) (W : WX) (den : DL) : TA := fun σ H Q => ∃ B F e, Rl K B F H σ e ∧ OutL K W B F σ Q (den e)
def lNil : DL := fun e => .ok ([], e)
def lConsD (da : DE) (dr : DL) : DL := fun e => (da e).bind fun p => (dr p.2).bind fun q => .ok (.v p.1 :: q.1, q.2)
def lConsO (oa : OE) (dr : DL) : DL := fun e => (oa e).bind fun p => (dr p.2).bind fun q => .ok (p.1 :: q.1, q.2)
theorem OutL.pre {K : PySem.W.Frag} {W : WX} {B : Bs} {F F' : Hp} {σ : St} {r : R (List Sl × En)} {Q : List V → Hp → Prop} (s : Same F F') (h : OutL K W B F σ Q r) : OutL K W B F' σ Q r := by
  cases r with
  | ok p => exact fun F2 H2 v R hl s2 => h F2 H2 v R hl (s.trans s2)
  | exc x => exact h
  | bad => exact h
/-- data laid behind the slots -/
theorem Rl.push {K : PySem.W.Frag} {B : Bs} {F H : Hp} {σ : St} {e : En} {v : V} {d : D} (R : Rl K B F H σ e) (r : Rep K F v d) : Rl K B F H (σ ++ [some v]) (e ++ [some (.v d)]) :=
  R.more (A := NoA) (Ext.refl R.sub) ⟨r, fun _ z => z⟩ fun _ z => z.elim
/-- the place behind all of these -/
theorem app_swap {α : Type} (a : List α) (x : α) (l : List α) : a ++ x :: l = a ++ [x] ++ l := by simp
section
variable {X : Cx} {W : WX} {ex : Expr} {es : List Expr} {da : DE} {oa : OE} {dr : DL} {pos : Pos}
theorem dl_nil : PA X [] (tL X.K W lNil) := by
  refine paI pa_nil ?_
  rintro σ H Q ⟨B, F, e, R, h⟩
  refine h F H [] ?_ rfl (Same.refl _)
  simpa using R
/-- the slot s, laid in the last place, goes ahead of what comes next -/
theorem Rl.under {K : PySem.W.Frag} {B : Bs} {F H : Hp} {σ : St} {e : En} {v : V} {s : Sl} (R : Rl K B F H (σ ++ [some v]) (e ++ [some s])) : ∃ B1 : Bs, B1.F = F ∧ Rl K B1 F H σ e ∧ ∀ F' H' (vs : List V) (ss : List Sl) e', vs.length = ss.length → Rl K B1 F' H' (σ ++ vs.map some) (e' ++ ss.map some) → e'.length = e.length → Rl K B F' H' (σ ++ (v :: vs).map some) (e' ++ (s :: ss).map some) := by
  obtain ⟨B1, hF, R1, back⟩ := R.frame
  refine ⟨B1, hF, R1, fun F' H' vs ss e' hl R2 he => ?_⟩
  have R3 := back _ _ _ _ R2
  -- σ ++ vs ++ [v]: the last one is brought ahead of vs
  obtain ⟨l, ex, fp, S⟩ := R3
  have le : e'.length = σ.length := by rw [he]; exact R.less.len
  have hlen : (e' ++ ss.map some).length = (σ ++ vs.map some).length := by
    rw [List.length_append, List.length_append, List.length_map, List.length_map, le, hl]
  -- where place j stands in the old row
  let τ : Nat → Nat := fun j => if j < e'.length then j else if j = e'.length then e'.length + ss.length else if j ≤ e'.length + ss.length then j - 1 else j
  have tinj : ∀ i j, i < e'.length + ss.length + 1 → j < e'.length + ss.length + 1 → τ i = τ j → i = j := by
    intro i j hi hj h
    simp only [τ] at h
    split at h <;> split at h <;> (try split at h) <;> (try split at h) <;> (try split at h) <;> (try split at h) <;> omega
  have nthA : ∀ (a b : En) (i : Nat), nth (a ++ b) i = if i < a.length then nth a i else nth b (i - a.length) := by
    intro a b
    induction a with
    | nil => intro i; simp
    | cons x a ih =>
      intro i
      cases i with
      | zero => rfl
      | succ i =>
        show nth (a ++ b) i = _
        rw [ih i]
        by_cases c : i < a.length
        · rw [if_pos c, if_pos (by rw [List.length_cons]; omega)]; rfl
        · rw [if_neg c, if_neg (by rw [List.length_cons]; omega)]
          congr 1
          rw [List.length_cons]
          omega
  have stA : ∀ (a b : St) (i : Nat), (a ++ b)[i]? = if i < a.length then a[i]? else b[i - a.length]? := fun a b i => by
    by_cases c : i < a.length
    · rw [if_pos c, List.getElem?_append_left c]
    · rw [if_neg c, List.getElem?_append_right (by omega)]
  have key : ∀ i t, nth (e' ++ (s :: ss).map some) i = some t → i < e'.length + ss.length + 1 ∧ nth (e' ++ ss.map some ++ [some s]) (τ i) = some t ∧ (σ ++ vs.map some ++ [some v])[τ i]? = (σ ++ (v :: vs).map some)[i]? := by
    intro i t ht
    have hi : i < e'.length + ss.length + 1 := by
      have := nth_some_lt ht
      rw [List.length_append, List.length_map, List.length_cons] at this
      omega
    refine ⟨hi, ?_, ?_⟩
    · rw [nthA] at ht
      simp only [τ]
      by_cases c1 : i < e'.length
      · rw [if_pos c1] at ht ⊢
        rw [nthA, nthA, if_pos (by rw [List.length_append]; omega), if_pos c1]
        exact ht
      · rw [if_neg c1] at ht ⊢
        by_cases c2 : i = e'.length
        · rw [if_pos c2]
          subst c2
          rw [Nat.sub_self] at ht
          rw [nthA, if_neg (by rw [List.length_append, List.length_map]; omega), List.length_append, List.length_map, Nat.sub_self]
          exact ht
        · rw [if_neg c2, if_pos (by omega)]
          rw [nthA, nthA, if_pos (by rw [List.length_append, List.length_map]; omega), if_neg (by omega)]
          have e1 : i - e'.length = (i - 1 - e'.length) + 1 := by omega
          rw [e1] at ht
          exact ht
    · simp only [τ]
      rw [stA (σ ++ vs.map some) [some v], stA σ ((v :: vs).map some)]
      by_cases c1 : i < e'.length
      · have hB : i < σ.length := by omega
        have hA : i < (σ ++ vs.map some).length := by rw [List.length_append]; omega
        simp only [if_pos c1, if_pos hA, if_pos hB, stA σ (vs.map some)]
      · rw [if_neg c1]
        by_cases c2 : i = e'.length
        · rw [if_pos c2]
          subst c2
          rw [if_neg (by rw [List.length_append, List.length_map]; omega), if_neg (by omega), List.length_append, List.length_map]
          rw [show e'.length + ss.length - (σ.length + vs.length) = 0 by omega, show e'.length - σ.length = 0 by omega]
          rfl
        · have hB : ¬ i < σ.length := by omega
          have hC : ¬ i - 1 < σ.length := by omega
          have hD : i ≤ e'.length + ss.length := by omega
          have hA : i - 1 < (σ ++ vs.map some).length := by rw [List.length_append, List.length_map]; omega
          rw [if_neg c2, if_pos hD]
          simp only [if_pos hA, if_neg hB, stA σ (vs.map some), if_neg hC]
          rw [show i - σ.length = (i - 1 - σ.length) + 1 by omega]
          rfl
  refine ⟨by simp only [List.length_append, List.length_map, List.length_cons]; omega, ex, fun i a => i < e'.length + ss.length + 1 ∧ fp (τ i) a, fun i t ht => ?_, fun i a ⟨hi, ha⟩ => ?_, fun i j a ⟨hi, ha⟩ ⟨hj, hb⟩ => tinj i j hi hj (S.apart _ _ a ha hb), fun i t u ht hlt hu => ?_⟩
  · obtain ⟨hi, h1, h2⟩ := key i t ht
    obtain ⟨u, q1, q2⟩ := S.ok (τ i) t h1
    refine ⟨u, by rw [← h2]; exact q1, ?_⟩
    have ea : (fun a => i < e'.length + ss.length + 1 ∧ fp (τ i) a) = fp (τ i) := funext fun a => propext ⟨fun z => z.2, fun z => ⟨hi, z⟩⟩
    show SlOk K F' H' u t (fun a => i < e'.length + ss.length + 1 ∧ fp (τ i) a)
    rw [ea]
    exact q2
  · obtain ⟨q1, q2, q3, q4⟩ := S.own _ a ha
    refine ⟨q1, q2, q3, fun z => q4 ?_⟩
    rw [nthA] at z
    simp only [τ]
    by_cases c1 : i < e'.length
    · rw [if_pos c1] at z ⊢
      rw [nthA, nthA, if_pos (by rw [List.length_append]; omega), if_pos c1]
      exact z
    · rw [if_neg c1] at z ⊢
      by_cases c2 : i = e'.length
      · subst c2
        rw [Nat.sub_self] at z
        cases z
      · rw [if_neg c2, if_pos (by omega)]
        rw [nthA, nthA, if_pos (by rw [List.length_append, List.length_map]; omega), if_neg (by omega)]
        have e1 : i - e'.length = (i - 1 - e'.length) + 1 := by omega
        rw [e1] at z
        exact z
  · obtain ⟨hi, h1, h2⟩ := key i t ht
    exact S.lent (τ i) t u h1 hlt (by rw [h2]; exact hu)
theorem exc_under {K : PySem.W.Frag} {W : WX} {B B1 : Bs} {F H : Hp} {σ : St} {v : V} {s : Sl} (back : ∀ F' H' (vs : List V) (ss : List Sl) (e' : En), vs.length = ss.length → Rl K B1 F' H' (σ ++ vs.map some) (e' ++ ss.map some) → e'.length = σ.length → Rl K B F' H' (σ ++ (v :: vs).map some) (e' ++ (s :: ss).map some)) (x : Exn) (h : ExcOut K W B σ x) : ExcOut K W B1 σ x := by
  intro F' H' c dd e' R ok
  have R1 : Rl K B1 F' H' (σ ++ ([] : List V).map some) (e' ++ ([] : List Sl).map some) := by simpa using R
  have R2 := back F' H' [] [] e' rfl R1 R.len
  exact h F' H' c dd e' R2.less ok
theorem dl_consD (ha : PE X ex (tD X.K W da)) (hr : PA X es (tL X.K W dr)) (hs : starEach (ex :: es) X.env = (false, eval ex X.env) :: starEach es X.env := by rfl) : PA X (ex :: es) (tL X.K W (lConsD da dr)) := by
  refine paI (pa_cons ha hr hs) ?_
  rintro σ H Q ⟨B, F, e, R, h⟩
  have h0 : OutL X.K W B F σ Q ((da e).bind fun p => (dr p.2).bind fun q => .ok (.v p.1 :: q.1, q.2)) := h
  refine ⟨B, F, e, R, ?_⟩
  cases q : da e with
  | bad => rw [q] at h0; exact h0.elim
  | exc z => rw [q] at h0; exact h0
  | ok pr =>
    rw [q] at h0
    obtain ⟨d, e1⟩ := pr
    intro F1 H1 v R1 s1 rv
    have h1 : OutL X.K W B F σ Q ((dr e1).bind fun q => .ok (.v d :: q.1, q.2)) := h0
    obtain ⟨B1, hF, R2, back⟩ := (R1.push rv).under
    have le : e1.length = σ.length := R1.len
    refine ⟨B1, F1, e1, R2, ?_⟩
    cases q2 : dr e1 with
    | bad => rw [q2] at h1; exact h1.elim
    | exc z =>
      rw [q2] at h1
      exact exc_under (F := F1) (H := H1) (fun F' H' vs ss e' hl R he => back F' H' vs ss e' hl R (by rw [he, le])) z h1
    | ok pr2 =>
      rw [q2] at h1
      obtain ⟨ss, e2⟩ := pr2
      intro F2 H2 vs R3 hl s2
      have l3 : e2.length = e1.length := by
        have := R3.len
        simp only [List.length_append, List.length_map] at this
        have hl' : vs.length = ss.length := hl
        omega
      exact h1 F2 H2 (v :: vs) (back F2 H2 vs ss e2 hl R3 l3) (by simp [hl]) (s1.trans s2)
theorem dl_consO (ha : PE X ex (tO X.K W oa)) (hr : PA X es (tL X.K W dr)) (hs : starEach (ex :: es) X.env = (false, eval ex X.env) :: starEach es X.env := by rfl) : PA X (ex :: es) (tL X.K W (lConsO oa dr)) := by
  refine paI (pa_cons ha hr hs) ?_
  rintro σ H Q ⟨B, F, e, R, h⟩
  have h0 : OutL X.K W B F σ Q ((oa e).bind fun p => (dr p.2).bind fun q => .ok (p.1 :: q.1, q.2)) := h
  refine ⟨B, F, e, R, ?_⟩
  cases q : oa e with
  | bad => rw [q] at h0; exact h0.elim
  | exc z => rw [q] at h0; exact h0
  | ok pr =>
    rw [q] at h0
    obtain ⟨s, e1⟩ := pr
    intro F1 H1 v R1 s1
    have h1 : OutL X.K W B F σ Q ((dr e1).bind fun q => .ok (s :: q.1, q.2)) := h0
    obtain ⟨B1, hF, R2, back⟩ := R1.under
    have le : e1.length = σ.length := R1.less.len
    refine ⟨B1, F1, e1, R2, ?_⟩
    cases q2 : dr e1 with
    | bad => rw [q2] at h1; exact h1.elim
    | exc z =>
      rw [q2] at h1
      exact exc_under (F := F1) (H := H1) (fun F' H' vs ss e' hl R he => back F' H' vs ss e' hl R (by rw [he, le])) z h1
    | ok pr2 =>
      rw [q2] at h1
      obtain ⟨ss, e2⟩ := pr2
      intro F2 H2 vs R3 hl s2
      have l3 : e2.length = e1.length := by
        have := R3.len
        simp only [List.length_append, List.length_map] at this
        have hl' : vs.length = ss.length := hl
        omega
      exact h1 F2 H2 (v :: vs) (back F2 H2 vs ss e2 hl R3 l3) (by simp [hl]) (s1.trans s2)
/-- the things go to their slots, the first one first -/
def setAllS : List Nat → List Sl → En → SR
  | [], [], e => .next e
  | i :: is, s :: ss, e => (match setE e i (some s) with
    | some e' => setAllS is ss e'
    | none => .bad)
  | _, _, _ => .bad
def sParL (is : List Nat) (d : DL) : DS := fun e => (d e).toS fun p => setAllS is p.1 p.2
theorem setAll_ok {K : PySem.W.Frag} {B : Bs} {D' : Ends} : ∀ {is : List Nat} {ss : List Sl} {e : En} {vs : List V} {F H : Hp} {σ : St}, OutS K WF B D' (setAllS is ss e) ∨ (∃ W : WX, OutS K W B D' (setAllS is ss e)) → Rl K B F H (σ ++ vs.map some) (e ++ ss.map some) → vs.length = ss.length → is.length = ss.length → D'.nx ((is.zip vs).foldl (fun τ p => τ.set p.1 (some p.2)) σ) H := by
  intro is
  induction is with
  | nil =>
    intro ss e vs F H σ h R hl hi
    cases ss with
    | nil =>
      cases vs with
      | nil =>
        have R' : Rl K B F H σ e := by simpa using R
        rcases h with h | ⟨W, h⟩
        · exact h F H σ R'
        · exact h F H σ R'
      | cons _ _ => cases hl
    | cons _ _ => cases hi
  | cons i is ih =>
    intro ss e vs F H σ h R hl hi
    cases ss with
    | nil => cases hi
    | cons s ss =>
      cases vs with
      | nil => cases hl
      | cons v vs =>
        have h' : ∃ W : WX, OutS K W B D' (match setE e i (some s) with
          | some e' => setAllS is ss e'
          | none => .bad) := by
          rcases h with h | ⟨W, h⟩
          · exact ⟨WF, h⟩
          · exact ⟨W, h⟩
        obtain ⟨W, h'⟩ := h'
        cases q : setE e i (some s) with
        | none => rw [q] at h'; exact h'.elim
        | some e1 =>
          rw [q] at h'
          -- bring v to the end, move it, bring the rest back
          obtain ⟨h1, h2, h3, h4⟩ := setE_some q
          have le : e.length = σ.length := by
            have := R.len
            simp only [List.length_append, List.length_map, List.length_cons] at this hl
            omega
          have hls : vs.length = ss.length := by simpa using hl
          have R2 : Rl K B F H (σ.set i (some v) ++ vs.map some) (e1 ++ ss.map some) := by
            obtain ⟨l, ex, fp, S⟩ := R
            have hlt : i < σ.length := by rw [← le]; exact h1
            let τ : Nat → Nat := fun j => if j = i then e.length else if j < e.length then j else j + 1
            have tinj : ∀ a b, τ a = τ b → a = b := by
              intro a b h
              simp only [τ] at h
              split at h <;> split at h <;> (try split at h) <;> (try split at h) <;> omega
            have nthA : ∀ (a b : En) (i : Nat), nth (a ++ b) i = if i < a.length then nth a i else nth b (i - a.length) := by
              intro a b
              induction a with
              | nil => intro i; simp
              | cons x a ih =>
                intro i
                cases i with
                | zero => rfl
                | succ i =>
                  show nth (a ++ b) i = _
                  rw [ih i]
                  by_cases c : i < a.length
                  · rw [if_pos c, if_pos (by rw [List.length_cons]; omega)]; rfl
                  · rw [if_neg c, if_neg (by rw [List.length_cons]; omega)]
                    congr 1
                    rw [List.length_cons]
                    omega
            have stA : ∀ (a b : St) (i : Nat), (a ++ b)[i]? = if i < a.length then a[i]? else b[i - a.length]? := fun a b i => by
              by_cases c : i < a.length
              · rw [if_pos c, List.getElem?_append_left c]
              · rw [if_neg c, List.getElem?_append_right (by omega)]
            have kn : ∀ j, nth (e1 ++ ss.map some) j = nth (e ++ (s :: ss).map some) (τ j) := by
              intro j
              simp only [τ]
              by_cases c1 : j = i
              · rw [if_pos c1, c1, nthA, if_pos (by rw [h2]; exact h1), h3, nthA, if_neg (by omega), Nat.sub_self]
                rfl
              · rw [if_neg c1]
                by_cases c2 : j < e.length
                · rw [if_pos c2, nthA, if_pos (by rw [h2]; exact c2), h4 j c1, nthA, if_pos c2]
                · rw [if_neg c2, nthA, if_neg (by rw [h2]; exact c2), nthA, if_neg (by omega), h2, show j + 1 - e.length = (j - e.length) + 1 by omega]
                  rfl
            have ks : ∀ j, (σ.set i (some v) ++ vs.map some)[j]? = (σ ++ (v :: vs).map some)[τ j]? := by
              intro j
              simp only [τ]
              by_cases c1 : j = i
              · rw [if_pos c1, c1, stA, if_pos (by rw [List.length_set]; exact hlt), List.getElem?_set_self hlt, stA, if_neg (by omega), show e.length - σ.length = 0 by omega]
                rfl
              · rw [if_neg c1]
                by_cases c2 : j < e.length
                · rw [if_pos c2, stA, if_pos (by rw [List.length_set]; omega), List.getElem?_set_ne (Ne.symm c1), stA, if_pos (by omega)]
                · rw [if_neg c2, stA, if_neg (by rw [List.length_set]; omega), stA, if_neg (by omega), List.length_set, show j + 1 - σ.length = (j - σ.length) + 1 by omega]
                  rfl
            refine ⟨by simp only [List.length_append, List.length_map, List.length_set, h2]; omega, ex, fun j a => fp (τ j) a, fun j t ht => ?_, fun j a ha => ?_, fun j k a ha hb => tinj j k (S.apart _ _ a ha hb), fun j t u ht hlt hu => ?_⟩
            · rw [kn] at ht
              obtain ⟨u, q1, q2⟩ := S.ok _ t ht
              exact ⟨u, by rw [ks]; exact q1, q2⟩
            · obtain ⟨q1, q2, q3, q4⟩ := S.own _ a ha
              exact ⟨q1, q2, q3, by rw [kn]; exact q4⟩
            · rw [kn] at ht
              rw [ks] at hu
              exact S.lent _ t u ht hlt hu
          exact ih (.inr ⟨W, h'⟩) R2 hls (by simpa using hi)
end
section
variable {X : Cx} {W : WX} {pos px py pz pt pt2 : Pos} {x y z : Str} {a b c : Expr} {kt k2 : Nat} {dr : DL}
theorem ds_par2L (i j : Nat) (h : PA X [a, b] (tL X.K W dr)) (hc : X.calm = true) (hN : X.N.Nodup) (hi : X.N[i]? = some x) (hj : X.N[j]? = some y) (hij : i ≠ j) (hx : X.env.scope.names.lookup x = some .local) (hy : X.env.scope.names.lookup y = some .local)
    (hw : swappedStores [.Tuple [.Name x px, .Name y py] kt pt] (.Tuple [a, b] k2 pt2) X.env = pure (some [x, y])) : PS X (.Assign [.Tuple [.Name x px, .Name y py] kt pt] (.Tuple [a, b] k2 pt2) pos) (tS X.K W (sParL [i, j] dr)) := by
  refine psI (ps_par hc hN hi hj hij hx hy h hw) ?_
  rintro D' σ H ⟨B, F, e, R, h⟩
  have h0 : OutS X.K W B D' ((dr e).toS fun p => setAllS [i, j] p.1 p.2) := h
  refine ⟨B, F, e, R, ?_⟩
  cases q : dr e with
  | bad => rw [q] at h0; exact h0.elim
  | exc z => rw [q] at h0; exact h0 σ
  | ok pr =>
    rw [q] at h0
    obtain ⟨ss, e1⟩ := pr
    intro F1 H1 vs R1 hl s1
    have hn : ss.length = 2 := by
      match ss, h0 with
      | [_, _], _ => rfl
      | [], h0 => exact h0.elim
      | [s], h0 =>
        have h1 : OutS X.K W B D' (match setE e1 i (some s) with
          | some e' => setAllS [j] [] e'
          | none => .bad) := h0
        cases q : setE e1 i (some s) with
        | none => rw [q] at h1; exact h1.elim
        | some e' => rw [q] at h1; exact h1.elim
      | s :: s' :: s'' :: r, h0 =>
        have h1 : OutS X.K W B D' (match setE e1 i (some s) with
          | some e' => setAllS [j] (s' :: s'' :: r) e'
          | none => .bad) := h0
        cases q : setE e1 i (some s) with
        | none => rw [q] at h1; exact h1.elim
        | some e' =>
          rw [q] at h1
          have h2 : OutS X.K W B D' (match setE e' j (some s') with
            | some e' => setAllS [] (s'' :: r) e'
            | none => .bad) := h1
          cases q : setE e' j (some s') with
          | none => rw [q] at h2; exact h2.elim
          | some e' => rw [q] at h2; exact h2.elim
    match vs, hl.trans hn with
    | [v, w], _ =>
      have := setAll_ok (.inr ⟨W, h0⟩) R1 hl (by rw [hn]; rfl)
      exact ⟨v, w, rfl, this⟩
theorem ds_par3L (i j l : Nat) (h : PA X [a, b, c] (tL X.K W dr)) (hc : X.calm = true) (hN : X.N.Nodup) (hi : X.N[i]? = some x) (hj : X.N[j]? = some y) (hl : X.N[l]? = some z) (hij : i ≠ j) (hil : i ≠ l) (hjl : j ≠ l) (hx : X.env.scope.names.lookup x = some .local) (hy : X.env.scope.names.lookup y = some .local) (hz : X.env.scope.names.lookup z = some .local)
    (hw : swappedStores [.Tuple [.Name x px, .Name y py, .Name z pz] kt pt] (.Tuple [a, b, c] k2 pt2) X.env = pure (some [x, y, z])) : PS X (.Assign [.Tuple [.Name x px, .Name y py, .Name z pz] kt pt] (.Tuple [a, b, c] k2 pt2) pos) (tS X.K W (sParL [i, j, l] dr)) := by
  refine psI (ps_par3 hc hN hi hj hl hij hil hjl hx hy hz h hw) ?_
  rintro D' σ H ⟨B, F, e, R, h⟩
  have h0 : OutS X.K W B D' ((dr e).toS fun p => setAllS [i, j, l] p.1 p.2) := h
  refine ⟨B, F, e, R, ?_⟩
  cases q : dr e with
  | bad => rw [q] at h0; exact h0.elim
  | exc z => rw [q] at h0; exact h0 σ
  | ok pr =>
    rw [q] at h0
    obtain ⟨ss, e1⟩ := pr
    intro F1 H1 vs R1 hlv s1
    have step : ∀ {k : Nat} {ks : List Nat} {t : Sl} {ts : List Sl} {e2 : En}, OutS X.K W B D' (setAllS (k :: ks) (t :: ts) e2) → ∃ e3, OutS X.K W B D' (setAllS ks ts e3) := by
      intro k ks t ts e2 h
      have h1 : OutS X.K W B D' (match setE e2 k (some t) with
        | some e' => setAllS ks ts e'
        | none => .bad) := h
      cases q : setE e2 k (some t) with
      | none => rw [q] at h1; exact h1.elim
      | some e' => rw [q] at h1; exact ⟨e', h1⟩
    have hn : ss.length = 3 := by
      match ss, h0 with
      | [_, _, _], _ => rfl
      | [], h0 => exact h0.elim
      | [s], h0 =>
        obtain ⟨e3, h1⟩ := step h0
        exact h1.elim
      | [s, s'], h0 =>
        obtain ⟨e3, h1⟩ := step h0
        obtain ⟨e4, h2⟩ := step h1
        exact h2.elim
      | s :: s' :: s'' :: t :: r, h0 =>
        obtain ⟨e3, h1⟩ := step h0
        obtain ⟨e4, h2⟩ := step h1
        obtain ⟨e5, h3⟩ := step h2
        exact h3.elim
    match vs, hlv.trans hn with
    | [u, v, w], _ =>
      have := setAll_ok (.inr ⟨W, h0⟩) R1 hlv (by rw [hn]; rfl)
      exact ⟨u, v, w, rfl, this⟩
end
end WW
set_option Elab.async false
set_option linter.all false
set_option maxRecDepth 100000
set_option maxHeartbeats 4000000
/-! The data layer, part 21: sorted(numbers). -/
namespace WW
open PySem PySem.Spec L2
def insI (a : Int) : List Int → List Int
  | [] => [a]
  | b :: l => if a ≤ b then a :: b :: l else b :: insI a l
def sortI : List Int → List Int
  | [] => []
  | a :: l => insI a (sortI l)
theorem insI_perm (a : Int) : ∀ l, (insI a l).Perm (a :: l)
  | [] => .refl _
  | b :: l => by
    unfold insI
    split
    · exact .refl _
    · exact ((insI_perm a l).cons b).trans (.swap _ _ _)
theorem sortI_perm : ∀ l, (sortI l).Perm l
  | [] => .refl _
  | a :: l => (insI_perm a (sortI l)).trans ((sortI_perm l).cons a)
theorem insI_rise (a : Int) : ∀ l, l.Pairwise (· ≤ ·) → (insI a l).Pairwise (· ≤ ·)
  | [], _ => List.pairwise_singleton _ _
  | b :: l, h => by
    unfold insI
    obtain ⟨h1, h2⟩ := List.pairwise_cons.mp h
    split
    · rename_i c
      exact List.pairwise_cons.mpr ⟨fun x hx => by
        rcases List.mem_cons.mp hx with rfl | hx
        · exact c
        · exact Int.le_trans c (h1 x hx), h⟩
    · rename_i c
      refine List.pairwise_cons.mpr ⟨fun x hx => ?_, insI_rise a l h2⟩
      rcases List.mem_cons.mp ((insI_perm a l).mem_iff.mp hx) with rfl | hx
      · omega
      · exact h1 x hx
theorem sortI_rise : ∀ l, (sortI l).Pairwise (· ≤ ·)
  | [] => .nil
  | a :: l => insI_rise a _ (sortI_rise l)
theorem rise_same : ∀ {l m : List Int}, l.Perm m → l.Pairwise (· ≤ ·) → m.Pairwise (· ≤ ·) → l = m
  | [], m, p, _, _ => (List.nil_perm.mp p).symm
  | a :: l, [], p, _, _ => absurd p.symm (by intro h; exact absurd (List.nil_perm.mp h) (by simp))
  | a :: l, b :: m, p, h, g => by
    have h1 := List.pairwise_cons.mp h
    have g1 := List.pairwise_cons.mp g
    have ab : a = b := by
      have ha : a ∈ b :: m := p.mem_iff.mp List.mem_cons_self
      have hb : b ∈ a :: l := p.mem_iff.mpr List.mem_cons_self
      have x1 : b ≤ a := by
        rcases List.mem_cons.mp ha with z | z
        · omega
        · exact g1.1 a z
      have x2 : a ≤ b := by
        rcases List.mem_cons.mp hb with z | z
        · omega
        · exact h1.1 b z
      omega
    subst ab
    rw [rise_same p.cons_inv h1.2 g1.2]
def gSortedI : List D → R D
  | [.lst l] => (match asInts l with
    | some xs => .ok (.lst ((sortI xs).map D.int))
    | none => .bad)
  | _ => .bad
theorem nx_sortedI : NoXn gSortedI := by
  intro a x h
  unfold gSortedI at h
  split at h
  · split at h <;> cases h
  · cases h
theorem vr_sortedI {K : PySem.W.Frag} : VRn K (rSortedI K) gSortedI := by
  intro F H xs ds Q s rs h
  unfold gSortedI at h
  split at h
  · rename_i l
    obtain ⟨v, rfl, rv⟩ := reps1 rs
    obtain ⟨q, vs, rfl, hq, rs⟩ := rv.lst_inv
    cases e : asInts l with
    | none => rw [e] at h; exact h.elim
    | some ys =>
      rw [e] at h
      have el := asInts_eq e
      subst el
      simp only at h
      refine ⟨q, ys, rfl, .inl (.inl (by rw [← rs.ints]; exact s _ _ hq)), fun zs p hp hs hn => ?_⟩
      have ez : zs = sortI ys := rise_same (hp.trans (sortI_perm ys).symm) hs (sortI_rise ys)
      rw [ez]
      exact h.newL s (Reps.ofInts _) p hn
  · exact h.elim
end WW
set_option Elab.async false
set_option linter.all false
set_option maxRecDepth 100000
set_option maxHeartbeats 4000000
namespace WW
open PySem PySem.Spec L2
/-- law_take: the box's next draw -/
def takeI (b : Bx) (n : Int) : Int × Bx := match b with
  | (a, [], st) => (st * 48271 % 2147483647 / 7 % n, (a, [], st * 48271 % 2147483647))
  | (a, k :: r, st) => (k % n, (a, if k / n = 0 ∨ k / n = -1 then r else (k / n) :: r, st))
def f_law_take (b : Bx) : List D → R (D × Bx)
  | [.int n] => if 0 < n ∧ n < SMALL then .ok (.int (takeI b n).1, (takeI b n).2) else .bad
  | _ => .bad
theorem shaped_ints (ns : List Int) : SeqAt.shaped (.list (ns.map PyData.int)) = true := by
  have h1 : ∀ l : List Int, PyData.canLayAll0 (l.map PyData.int) = true := by
    intro l
    induction l with
    | nil => rfl
    | cons a l ih =>
      show (PyData.canLay0 (.int a) && PyData.canLayAll0 (l.map PyData.int)) = true
      rw [ih]
      rfl
  have h2 : ∀ l : List Int, PyData.depthAll (l.map PyData.int) = 0 := by
    intro l
    induction l with
    | nil => rfl
    | cons a l ih =>
      show max (PyData.depth (.int a)) (PyData.depthAll (l.map PyData.int)) = 0
      rw [ih]
      rfl
  unfold SeqAt.shaped
  have e1 : PyData.canLay0 (.list (ns.map PyData.int)) = true := h1 ns
  have e2 : PyData.depth (.list (ns.map PyData.int)) = 1 := by
    show PyData.depthAll (ns.map PyData.int) + 1 = 1
    rw [h2 ns]
  rw [e1, e2]
  rfl
theorem dp_ints {K : PySem.W.Frag} {H : Hp} {q : Addr} (ns : List Int) (h : H q = some (.lst (ns.map V.int))) : Dp K H (.ref q) (.list (ns.map PyData.int)) := by
  refine .lst (.inl (.inl h)) ?_
  clear h
  induction ns with
  | nil => exact .nil
  | cons a l ih => exact .cons (.int a) ih
theorem eqv_ints_nil (ns : List Int) : PyData.eqv (.list (ns.map PyData.int)) (.list []) = ns.isEmpty := by
  cases ns <;> rfl
/-- law_begun: the numbers stirred -/
def stirI (ns : List Int) : Int := ns.foldl (fun s c => (s * 48271 + c * 69621 + 11) % 2147483647) 0
def begunI (ns : List Int) : Int := stirI ns * (if decide (2 < (ns.length : Int)) = true then 1 else 0)
/-- a def that makes the box out of the script -/
def spBegun (K : PySem.W.Frag) : Sp := fun vs H Q _ => ∃ (a : Addr) (ns : List Int), vs = [.ref a] ∧ SqL K H a (ns.map V.int) ∧ ns.length ≤ 1000 ∧ ∀ H' p A, (∀ b o, H b = some o → H' b = some o) → SlOk K (fun _ => none) H' (.ref p) (.box p ns (begunI ns)) A → (∀ b, A b → H b = none) → Q (.ref p) H'
/-- the law: True at every script -/
def spLaw (K : PySem.W.Frag) : Sp := fun vs H Q _ => ∃ (a : Addr) (ns : List Int), vs = [.ref a] ∧ SqL K H a (ns.map V.int) ∧ ns.length ≤ 63 ∧ ∀ H', Q (.bl true) H'
def initL (s0 : Option Sl) (n : Nat) (p : Addr) (ns : List Int) : En := s0 :: some (.box p ns (begunI ns)) :: List.replicate (n - 2) none
def TrueL : SR → Prop
  | .ret (.bl true) _ => True
  | _ => False

def f_law_alike_den (rec : List D → R D) : DS := sSeq (sIf (dTest (dBin gIsN (dVar 1) (dC .non))) (sRet (dBin gIsN (dVar 0) (dC .non))) (sNext)) (sSeq (sIf (dTest (dIsi "bool" (dVar 1))) (sRet (dAndV (dIsi "bool" (dVar 0)) (dBin gEq (dVar 0) (dVar 1)))) (sNext)) (sSeq (sIf (dTest (dIsi "int" (dVar 1))) (sRet (dAndV (dIsi "int" (dVar 0)) (dAndV (dNotV (dIsi "bool" (dVar 0))) (dBin gEq (dVar 0) (dVar 1))))) (sNext)) (sSeq (sIf (dTest (dIsi "str" (dVar 1))) (sRet (dAndV (dIsi "str" (dVar 0)) (dBin gEq (dVar 0) (dVar 1)))) (sNext)) (sSeq (sIf (dOr (dTest (dBin gNe (dIsi "tuple" (dVar 1)) (dIsi "tuple" (dVar 0)))) (dTest (dBin gNe (dIsi "list" (dVar 1)) (dIsi "list" (dVar 0))))) (sRet (dC (.bl false))) (sNext)) (sSeq (sIf (dTest (dBin gNe (dApp gLen (dCons (dVar 0) (dNil))) (dApp gLen (dCons (dVar 1) (dNil))))) (sRet (dC (.bl false))) (sNext)) (sSeq (sFor (iRange (dCons (dApp gLen (dCons (dVar 1) (dNil))) (dNil))) (gdName 2) (sIf (dNot (dTest (dCall rec (dCons (dBin gIx (dVar 0) (dVar 2)) (dCons (dBin gIx (dVar 1) (dVar 2)) (dNil)))))) (sRet (dC (.bl false))) (sNext))) (sRet (dC (.bl true)))))))))
def f_law_alike : Nat → List D → R D
  | 0 => fun _ => .bad
  | n + 1 => fnD 3 (f_law_alike_den (f_law_alike n))

def p_is_number_den : DS := sRet (dAndV (dIsi "int" (dVar 0)) (dAndV (dNotV (dIsi "bool" (dVar 0))) (dChain gLe gLe (dVar 1) (dVar 0) (dVar 2))))
def p_is_number : List D → R D := fnD 3 p_is_number_den

def p_are_frozen_den : DS := sSeq (sIf (dOr (dNot (dTest (dIsi "tuple" (dVar 0)))) (dNot (dTest (dApp gAll (dCons (dFrz (oComp (iVal (dVar 0)) [2] (gdName 2) (noTest) (dCall p_is_number (dCons (dVar 2) (dCons (dC (.int 0)) (dCons (dBin gSub (dVar 1) (dC (.int 1))) (dNil))))))) (dNil)))))) (sRet (dC (.bl false))) (sNext)) (sRet (dApp gAll (dCons (dFrz (oComp (iZipd (dCons (dVar 0) (dCons (dSl (dVar 0) (pSome (dC (.int 1))) (pNo)) (dNil)))) [3, 4] (gdTup [3, 4]) (noTest) (dBin gLt (dVar 3) (dVar 4)))) (dNil))))
def p_are_frozen : List D → R D := fnD 5 p_are_frozen_den

def p_are_weights_den : DS := sSeq (sIf (dOr (dNot (dTest (dIsi "tuple" (dVar 0)))) (dTest (dBin gNe (dApp gLen (dCons (dVar 0) (dNil))) (dApp gLen (dCons (dC (.tup ((["ab", "ac", "ad", "bc", "bd", "cd"] : List Str).map D.str))) (dNil)))))) (sRet (dC (.bl false))) (sNext)) (sRet (dApp gAll (dCons (dFrz (oComp (iVal (dVar 0)) [1] (gdName 1) (noTest) (dCall p_is_number (dCons (dVar 1) (dCons (dC (.int 1)) (dCons (dC (.int 9)) (dNil))))))) (dNil))))
def p_are_weights : List D → R D := fnD 2 p_are_weights_den

def p_need_plan_den : DS := sSeq (sIf (dOr (dNot (dTest (dIsi "tuple" (dVar 0)))) (dTest (dBin gNe (dApp gLen (dCons (dVar 0) (dNil))) (dC (.int 4))))) (sBad) (sNext)) (sSeq (sTo (gdTup [1, 2, 3, 4]) (dVar 0)) (sSeq (sIf (dNot (dTest (dIsi "bool" (dVar 1)))) (sBad) (sNext)) (sSeq (sIf (dNot (dTest (dCall p_is_number (dCons (dVar 2) (dCons (dC (.int 3)) (dCons (dC (.int 12)) (dNil))))))) (sBad) (sNext)) (sSeq (sIf (dNot (dTest (dCall p_are_frozen (dCons (dVar 3) (dCons (dVar 2) (dNil)))))) (sBad) (sNext)) (sIf (dNot (dTest (dCall p_are_weights (dCons (dVar 4) (dNil))))) (sBad) (sNext))))))
def p_need_plan : List D → R D := fnD 5 p_need_plan_den

def p_need_cells_den : DS := sIf (dOr (dNot (dTest (dIsi "str" (dVar 1)))) (dOr (dTest (dBin gNe (dApp gLen (dCons (dVar 1) (dNil))) (dBin gIx (dVar 0) (dC (.int 1))))) (dNot (dTest (dApp gAll (dCons (dFrz (oComp (iVal (dVar 1)) [2] (gdName 2) (noTest) (dBin gIn (dVar 2) (dC (.str ("abcd" : Str)))))) (dNil))))))) (sBad) (sNext)
def p_need_cells : List D → R D := fnD 3 p_need_cells_den

def p_need_both_den : DS := sSeq (sDrop (dCall p_need_plan (dCons (dVar 0) (dNil)))) (sSeq (sDrop (dCall p_need_cells (dCons (dVar 0) (dCons (dVar 1) (dNil))))) (sDrop (dCall p_need_cells (dCons (dVar 0) (dCons (dVar 2) (dNil))))))
def p_need_both : List D → R D := fnD 3 p_need_both_den

def p_weight_of_den : DS := sRet (dBin gIx (dBin gIx (dVar 0) (dC (.int 3))) (dTupIx (["ab", "ac", "ad", "bc", "bd", "cd"] : List Str) (dBin gAdd (dApp gMin2 (dCons (dVar 1) (dCons (dVar 2) (dNil)))) (dApp gMax2 (dCons (dVar 1) (dCons (dVar 2) (dNil)))))))
def p_weight_of : List D → R D := fnD 3 p_weight_of_den

def p_beside_den : DS := sSeq (sTo (gdTup [3, 4, 5, 6]) (dVar 0)) (sSeq (sIf (dAnd (dNot (dTest (dVar 3))) (dTest (dBin gIn (dVar 2) (dTup (dCons (dC (.int 0)) (dCons (dBin gSub (dVar 4) (dC (.int 1))) (dNil))))))) (sRet (dC .non)) (sNext)) (sRet (dTup (dCons (dBin gIx (dVar 1) (dBin gSub (dVar 2) (dC (.int 1)))) (dCons (dBin gIx (dVar 1) (dBin gMod (dBin gAdd (dVar 2) (dC (.int 1))) (dVar 4))) (dNil))))))
def p_beside : List D → R D := fnD 7 p_beside_den

def p_turned_den : DS := sSeq (sAsg 3 (dCall p_beside (dCons (dVar 0) (dCons (dVar 1) (dCons (dVar 2) (dNil)))))) (sSeq (sIf (dOr (dTest (dBin gIn (dVar 2) (dBin gIx (dVar 0) (dC (.int 2))))) (dOr (dTest (dBin gIsN (dVar 3) (dC .non))) (dOr (dTest (dBin gEq (dBin gIx (dVar 3) (dC (.int 0))) (dBin gIx (dVar 3) (dC (.int 1))))) (dTest (dBin gNotIn (dBin gIx (dVar 1) (dVar 2)) (dVar 3)))))) (sRet (dC .non)) (sNext)) (sRet (dIfE (dTest (dBin gEq (dBin gIx (dVar 1) (dVar 2)) (dBin gIx (dVar 3) (dC (.int 0))))) (dBin gIx (dVar 3) (dC (.int 1))) (dBin gIx (dVar 3) (dC (.int 0))))))
def p_turned : List D → R D := fnD 4 p_turned_den

def p_with_sign_den : DS := sRet (dBin gAdd (dBin gAdd (dSl (dVar 0) (pNo) (pSome (dVar 1))) (dVar 2)) (dSl (dVar 0) (pSome (dBin gAdd (dVar 1) (dC (.int 1)))) (pNo)))
def p_with_sign : List D → R D := fnD 3 p_with_sign_den

def p_turns_of_den : DS := sSeq (sAsgO 2 (oLst (dNil))) (sSeq (sFor (iRange (dCons (dBin gIx (dVar 0) (dC (.int 1))) (dNil))) (gdName 3) (sSeq (sAsg 4 (dCall p_turned (dCons (dVar 0) (dCons (dVar 1) (dCons (dVar 3) (dNil)))))) (sIf (dTest (dBin gNotN (dVar 4) (dC .non))) (sAppend 2 (dTup (dCons (dVar 3) (dCons (dCall p_with_sign (dCons (dVar 1) (dCons (dVar 3) (dCons (dVar 4) (dNil))))) (dCons (dCall p_weight_of (dCons (dVar 0) (dCons (dBin gIx (dVar 1) (dVar 3)) (dCons (dVar 4) (dNil))))) (dNil)))))) (sNext)))) (sRet (dVar 2)))
def p_turns_of : List D → R D := fnD 5 p_turns_of_den

def p_places_of_den : DS := sSeq (sTo (gdTup [2, 3, 4, 5]) (dVar 0)) (sSeq (sAsg 6 (dIfE (dTest (dVar 2)) (dVar 3) (dBin gSub (dVar 3) (dC (.int 1))))) (sRet (dFrz (oComp (iRange (dCons (dVar 6) (dNil))) [7] (gdName 7) (dTest (dBin gNe (dBin gIx (dVar 1) (dVar 7)) (dBin gIx (dVar 1) (dBin gMod (dBin gAdd (dVar 7) (dC (.int 1))) (dVar 3))))) (dVar 7)))))
def p_places_of : List D → R D := fnD 8 p_places_of_den

def p_unrolled_den : DS := sSeq (sAsg 2 (dBin gIx (dBin gIx (dVar 0) (dC (.int 2))) (dC (.int 0)))) (sRet (dBin gAdd (dSl (dVar 1) (pSome (dVar 2)) (pNo)) (dSl (dVar 1) (pNo) (pSome (dBin gAdd (dVar 2) (dC (.int 1)))))))
def p_unrolled : List D → R D := fnD 3 p_unrolled_den

def p_opened_den : DS := sSeq (sTo (gdTup [1, 2, 3, 4]) (dVar 0)) (sSeq (sAsgO 5 (oComp (iVal (dVar 3)) [6] (gdName 6) (noTest) (dBin gMod (dBin gSub (dVar 6) (dBin gIx (dVar 3) (dC (.int 0)))) (dVar 2)))) (sRet (dTup (dCons (dC (.bl false)) (dCons (dBin gAdd (dVar 2) (dC (.int 1))) (dCons (dApp gTuple (dCons (dApp gSortedI (dCons (dVar 5) (dNil))) (dNil))) (dCons (dVar 4) (dNil))))))))
def p_opened : List D → R D := fnD 7 p_opened_den

def p_Match___init___den : DS := sSeq (sSetF ("Match" : Str) 0 ("rows" : Str) (dVar 1)) (sSeq (sSetF ("Match" : Str) 0 ("counts" : Str) (dVar 2)) (sSetF ("Match" : Str) 0 ("shift" : Str) (dVar 3)))
def p_Match___init__ : List D → R Ob := fnI 4 "Match" p_Match___init___den

def p_between_den : DS := sSeq (sTo (gdTup [2, 3, 4]) (dVar 0)) (sRet (dBin gSub (dApp gInt (dCons (dBin gLe (dVar 4) (dVar 1)) (dNil))) (dApp gInt (dCons (dBin gLe (dVar 3) (dVar 1)) (dNil)))))
def p_between : List D → R D := fnD 5 p_between_den

def p_row_match_den : DS := sSeq (sPar 3 4 (dCall p_places_of (dCons (dVar 0) (dCons (dVar 1) (dNil)))) (dCall p_places_of (dCons (dVar 0) (dCons (dVar 2) (dNil))))) (sSeq (sIf (dOr (dTest (dBin gNe (dApp gLen (dCons (dVar 3) (dNil))) (dApp gLen (dCons (dVar 4) (dNil))))) (dTest (dBin gNe (dBin gIx (dVar 1) (dC (.int 0))) (dBin gIx (dVar 2) (dC (.int 0)))))) (sRet (dC .non)) (sNext)) (sSeq (sIf (dTest (dBin gNe (dFrz (oComp (iVal (dVar 3)) [5] (gdName 5) (noTest) (dBin gIx (dVar 1) (dBin gAdd (dVar 5) (dC (.int 1)))))) (dFrz (oComp (iVal (dVar 4)) [5] (gdName 5) (noTest) (dBin gIx (dVar 2) (dBin gAdd (dVar 5) (dC (.int 1)))))))) (sRet (dC .non)) (sNext)) (sSeq (sFor (iVal (dBin gIx (dVar 0) (dC (.int 2)))) (gdName 6) (sIf (dTest (dBin gNe (dApp gLen (dCons (dFrz (oComp (iVal (dVar 3)) [5] (gdName 5) (dTest (dBin gLt (dVar 5) (dVar 6))) (dVar 5))) (dNil))) (dApp gLen (dCons (dFrz (oComp (iVal (dVar 4)) [5] (gdName 5) (dTest (dBin gLt (dVar 5) (dVar 6))) (dVar 5))) (dNil))))) (sRet (dC .non)) (sNext))) (sSeq (sAsgO 7 (oComp (iZipd (dCons (dVar 3) (dCons (dVar 4) (dNil)))) [5, 8] (gdTup [5, 8]) (noTest) (dTup (dCons (dCall p_weight_of (dCons (dVar 0) (dCons (dBin gIx (dVar 1) (dVar 5)) (dCons (dBin gIx (dVar 1) (dBin gAdd (dVar 5) (dC (.int 1)))) (dNil))))) (dCons (dVar 5) (dCons (dVar 8) (dNil))))))) (sRet (dFrzO (oMake ("Match" : Str) p_Match___init__ (dCons (dVar 7) (dCons (dFrz (oComp (iVal (dVar 7)) [9] (gdName 9) (noTest) (dTup (dCons (dBin gIx (dVar 9) (dC (.int 0))) (dCons (dApp gTuple (dCons (dFrz (oComp (iRange (dCons (dBin gIx (dVar 0) (dC (.int 1))) (dNil))) [6] (gdName 6) (noTest) (dCall p_between (dCons (dVar 9) (dCons (dVar 6) (dNil)))))) (dNil))) (dNil)))))) (dCons (dC (.int 0)) (dNil)))))))))))
def p_row_match : List D → R D := fnD 10 p_row_match_den

def p_signs_of_den : DS := sRet (dFrz (oComp (iVal (dVar 2)) [3] (gdName 3) (noTest) (dBin gIx (dVar 1) (dBin gMod (dBin gAdd (dVar 3) (dC (.int 1))) (dBin gIx (dVar 0) (dC (.int 1)))))))
def p_signs_of : List D → R D := fnD 4 p_signs_of_den

def p_period_den : DS := sRet (dBin gIx (dFrz (oComp (iRange (dCons (dC (.int 1)) (dCons (dBin gAdd (dApp gLen (dCons (dVar 0) (dNil))) (dC (.int 1))) (dNil)))) [1] (gdName 1) (dTest (dBin gEq (dBin gAdd (dSl (dVar 0) (pSome (dVar 1)) (pNo)) (dSl (dVar 0) (pNo) (pSome (dVar 1)))) (dVar 0))) (dVar 1))) (dC (.int 0)))
def p_period : List D → R D := fnD 2 p_period_den

def p_far_place_den : DS := sRet (dBin gAdd (dBin gIx (dVar 0) (dBin gMod (dVar 1) (dApp gLen (dCons (dVar 0) (dNil))))) (dBin gMul (dBin gDiv (dVar 1) (dApp gLen (dCons (dVar 0) (dNil)))) (dVar 2)))
def p_far_place : List D → R D := fnD 3 p_far_place_den

def p_Ring___init___den : DS := sSeq (sSetF ("Ring" : Str) 0 ("plan" : Str) (dVar 1)) (sSeq (sSetF ("Ring" : Str) 0 ("one" : Str) (dVar 2)) (sSeq (sSetF ("Ring" : Str) 0 ("starts" : Str) (dCall p_places_of (dCons (dVar 1) (dCons (dVar 2) (dNil))))) (sSeq (sSetF ("Ring" : Str) 0 ("goals" : Str) (dCall p_places_of (dCons (dVar 1) (dCons (dVar 3) (dNil))))) (sSeq (sTo (gdTup [4, 5]) (dTup (dCons (dCall p_signs_of (dCons (dVar 1) (dCons (dVar 2) (dCons (dFldO ("Ring" : Str) 0 ("starts" : Str)) (dNil))))) (dCons (dCall p_signs_of (dCons (dVar 1) (dCons (dVar 3) (dCons (dFldO ("Ring" : Str) 0 ("goals" : Str)) (dNil))))) (dNil))))) (sSeq (sAsgO 6 (oComp (iRange (dCons (dApp gLen (dCons (dVar 5) (dNil))) (dNil))) [7] (gdName 7) (dTest (dBin gEq (dBin gAdd (dSl (dVar 5) (pSome (dVar 7)) (pNo)) (dSl (dVar 5) (pNo) (pSome (dVar 7)))) (dVar 4))) (dVar 7))) (sSeq (sSetF ("Ring" : Str) 0 ("first" : Str) (dIfE (dAnd (dTest (dBin gNe (dVar 6) (dFrz (oLst (dNil))))) (dTest (dBin gEq (dApp gLen (dCons (dVar 4) (dNil))) (dApp gLen (dCons (dVar 5) (dNil)))))) (dBin gIx (dVar 6) (dC (.int 0))) (dC .non))) (sSetF ("Ring" : Str) 0 ("step" : Str) (dIfE (dTest (dBin gNe (dVar 4) (dFrz (oLst (dNil))))) (dCall p_period (dCons (dVar 4) (dNil))) (dC (.int 0))))))))))
def p_Ring___init__ : List D → R Ob := fnI 8 "Ring" p_Ring___init___den

def p_Match_cost_den : DS := sRet (dApp gSum (dCons (dFrz (oComp (iVal (dUn (gFld ("Match" : Str) ("rows" : Str)) (dVar 0))) [1, 2, 3] (gdTup [1, 2, 3]) (noTest) (dBin gMul (dVar 1) (dApp gAbs (dCons (dBin gSub (dVar 3) (dVar 2)) (dNil)))))) (dNil)))
def p_Match_cost : List D → R D := fnD 4 p_Match_cost_den

def p_Ring_by_shift_den : DS := sSeq (sParL [2, 3] (lConsD (dBin gIx (dUn (gFld ("Ring" : Str) ("plan" : Str)) (dVar 0)) (dC (.int 1))) (lConsO (oLst (dNil)) (lNil)))) (sSeq (sFor (iEnumd (dCons (dUn (gFld ("Ring" : Str) ("starts" : Str)) (dVar 0)) (dNil))) (gdTup [4, 5]) (sSeq (sAsg 6 (dCall p_weight_of (dCons (dUn (gFld ("Ring" : Str) ("plan" : Str)) (dVar 0)) (dCons (dBin gIx (dUn (gFld ("Ring" : Str) ("one" : Str)) (dVar 0)) (dVar 5)) (dCons (dBin gIx (dUn (gFld ("Ring" : Str) ("one" : Str)) (dVar 0)) (dBin gMod (dBin gAdd (dVar 5) (dC (.int 1))) (dVar 2))) (dNil)))))) (sAppend 3 (dTup (dCons (dVar 6) (dCons (dVar 5) (dCons (dCall p_far_place (dCons (dUn (gFld ("Ring" : Str) ("goals" : Str)) (dVar 0)) (dCons (dBin gAdd (dBin gAdd (dVar 4) (dUn (gFld ("Ring" : Str) ("first" : Str)) (dVar 0))) (dBin gMul (dVar 1) (dUn (gFld ("Ring" : Str) ("step" : Str)) (dVar 0)))) (dCons (dVar 2) (dNil))))) (dNil)))))))) (sRet (dVar 3)))
def p_Ring_by_shift : List D → R D := fnD 7 p_Ring_by_shift_den

def p_Ring_best_den : DS := sSeq (sAsg 1 (dBin gAdd (dBin gDiv (dBin gMul (dC (.int 2)) (dApp gLen (dCons (dUn (gFld ("Ring" : Str) ("starts" : Str)) (dVar 0)) (dNil)))) (dUn (gFld ("Ring" : Str) ("step" : Str)) (dVar 0))) (dC (.int 1)))) (sSeq (sAsgO 2 (oComp (iRange (dCons (dBin gSub (dC (.int 0)) (dVar 1)) (dCons (dBin gAdd (dVar 1) (dC (.int 1))) (dNil)))) [3] (gdName 3) (noTest) (dTup (dCons (dMethD ("Match" : Str) ("cost" : Str) p_Match_cost (dFrzO (oMake ("Match" : Str) p_Match___init__ (dCons (dMethD ("Ring" : Str) ("by_shift" : Str) p_Ring_by_shift (dVar 0) (dCons (dVar 3) (dNil))) (dCons (dFrz (oLst (dNil))) (dCons (dC (.int 0)) (dNil)))))) (dNil)) (dCons (dVar 3) (dNil)))))) (sRet (dBin gIx (dApp gMinL (dCons (dVar 2) (dNil))) (dC (.int 1)))))
def p_Ring_best : List D → R D := fnD 4 p_Ring_best_den

def p_Ring_last_below_den : DS := sSeq (sAsg 4 (dBin gMul (dC (.int 3)) (dApp gLen (dCons (dVar 1) (dNil))))) (sSeq (sWhile (dTest (dBin gGt (dCall p_far_place (dCons (dVar 1) (dCons (dBin gAdd (dVar 2) (dBin gMul (dVar 4) (dUn (gFld ("Ring" : Str) ("step" : Str)) (dVar 0)))) (dCons (dBin gIx (dUn (gFld ("Ring" : Str) ("plan" : Str)) (dVar 0)) (dC (.int 1))) (dNil))))) (dVar 3))) (sAugI 4 (fun i j => i - j) (dC (.int 1)))) (sRet (dVar 4)))
def p_Ring_last_below : List D → R D := fnD 5 p_Ring_last_below_den

def p_Ring_kinds_den : DS := sSeq (sAsgO 1 (oLst (dNil))) (sSeq (sFor (iRange (dCons (dUn (gFld ("Ring" : Str) ("step" : Str)) (dVar 0)) (dNil))) (gdName 2) (sSeq (sAsg 3 (dBin gIx (dUn (gFld ("Ring" : Str) ("starts" : Str)) (dVar 0)) (dVar 2))) (sSeq (sAsg 4 (dCall p_weight_of (dCons (dUn (gFld ("Ring" : Str) ("plan" : Str)) (dVar 0)) (dCons (dBin gIx (dUn (gFld ("Ring" : Str) ("one" : Str)) (dVar 0)) (dVar 3)) (dCons (dBin gIx (dUn (gFld ("Ring" : Str) ("one" : Str)) (dVar 0)) (dBin gMod (dBin gAdd (dVar 3) (dC (.int 1))) (dBin gIx (dUn (gFld ("Ring" : Str) ("plan" : Str)) (dVar 0)) (dC (.int 1))))) (dNil)))))) (sSeq (sAsgO 5 (oLst (dNil))) (sSeq (sFor (iRange (dCons (dBin gIx (dUn (gFld ("Ring" : Str) ("plan" : Str)) (dVar 0)) (dC (.int 1))) (dNil))) (gdName 6) (sSeq (sAsg 7 (dMethD ("Ring" : Str) ("last_below" : Str) p_Ring_last_below (dVar 0) (dCons (dUn (gFld ("Ring" : Str) ("goals" : Str)) (dVar 0)) (dCons (dBin gAdd (dVar 2) (dUn (gFld ("Ring" : Str) ("first" : Str)) (dVar 0))) (dCons (dVar 6) (dNil)))))) (sAppend 5 (dBin gSub (dVar 7) (dMethD ("Ring" : Str) ("last_below" : Str) p_Ring_last_below (dVar 0) (dCons (dUn (gFld ("Ring" : Str) ("starts" : Str)) (dVar 0)) (dCons (dVar 2) (dCons (dVar 6) (dNil))))))))) (sAppend 1 (dTup (dCons (dVar 4) (dCons (dApp gTuple (dCons (dVar 5) (dNil))) (dNil)))))))))) (sRet (dVar 1)))
def p_Ring_kinds : List D → R D := fnD 8 p_Ring_kinds_den

def p_ring_match_den : DS := sSeq (sAsg 3 (dFrzO (oMake ("Ring" : Str) p_Ring___init__ (dCons (dVar 0) (dCons (dVar 1) (dCons (dVar 2) (dNil))))))) (sSeq (sIf (dOr (dTest (dBin gEq (dUn (gFld ("Ring" : Str) ("starts" : Str)) (dVar 3)) (dFrz (oLst (dNil))))) (dOr (dTest (dBin gEq (dUn (gFld ("Ring" : Str) ("goals" : Str)) (dVar 3)) (dFrz (oLst (dNil))))) (dTest (dBin gEq (dApp gLen (dCons (dUn (gFld ("Ring" : Str) ("starts" : Str)) (dVar 3)) (dNil))) (dBin gIx (dVar 0) (dC (.int 1))))))) (sRet (dIfE (dTest (dBin gEq (dVar 1) (dVar 2))) (dFrzO (oMake ("Match" : Str) p_Match___init__ (dCons (dFrz (oLst (dNil))) (dCons (dFrz (oLst (dNil))) (dCons (dC (.int 0)) (dNil)))))) (dC .non))) (sNext)) (sSeq (sIf (dTest (dBin gIsN (dUn (gFld ("Ring" : Str) ("first" : Str)) (dVar 3)) (dC .non))) (sRet (dC .non)) (sNext)) (sSeq (sAsg 4 (dMethD ("Ring" : Str) ("best" : Str) p_Ring_best (dVar 3) (dNil))) (sRet (dFrzO (oMake ("Match" : Str) p_Match___init__ (dCons (dMethD ("Ring" : Str) ("by_shift" : Str) p_Ring_by_shift (dVar 3) (dCons (dVar 4) (dNil))) (dCons (dMethD ("Ring" : Str) ("kinds" : Str) p_Ring_kinds (dVar 3) (dNil)) (dCons (dVar 4) (dNil))))))))))
def p_ring_match : List D → R D := fnD 5 p_ring_match_den

def p_match_of_den : DS := sSeq (sIf (dNot (dTest (dBin gIx (dVar 0) (dC (.int 0))))) (sRet (dCall p_row_match (dCons (dVar 0) (dCons (dVar 1) (dCons (dVar 2) (dNil)))))) (sNext)) (sSeq (sIf (dTest (dBin gNe (dBin gIx (dVar 0) (dC (.int 2))) (dTup (dNil)))) (sRet (dCall p_row_match (dCons (dCall p_opened (dCons (dVar 0) (dNil))) (dCons (dCall p_unrolled (dCons (dVar 0) (dCons (dVar 1) (dNil)))) (dCons (dCall p_unrolled (dCons (dVar 0) (dCons (dVar 2) (dNil)))) (dNil)))))) (sNext)) (sRet (dCall p_ring_match (dCons (dVar 0) (dCons (dVar 1) (dCons (dVar 2) (dNil)))))))
def p_match_of : List D → R D := fnD 3 p_match_of_den

def p_need_match_den : DS := sSeq (sDrop (dCall p_need_both (dCons (dVar 0) (dCons (dVar 1) (dCons (dVar 2) (dNil)))))) (sSeq (sAsg 3 (dCall p_match_of (dCons (dVar 0) (dCons (dVar 1) (dCons (dVar 2) (dNil)))))) (sSeq (sIf (dTest (dBin gIsN (dVar 3) (dC .non))) (sBad) (sNext)) (sRet (dVar 3))))
def p_need_match : List D → R D := fnD 4 p_need_match_den

def p_least_den : DS := sRet (dMethD ("Match" : Str) ("cost" : Str) p_Match_cost (dCall p_need_match (dCons (dVar 0) (dCons (dVar 1) (dCons (dVar 2) (dNil))))) (dNil))
def p_least : List D → R D := fnD 3 p_least_den

def p_way_of_den : DS := sSeq (sParO 3 4 (oLst (dNil)) (dVar 1)) (sSeq (sAsg 5 (dMethD ("Match" : Str) ("cost" : Str) p_Match_cost (dCall p_match_of (dCons (dVar 0) (dCons (dVar 1) (dCons (dVar 2) (dNil))))) (dNil))) (sSeq (sWhile (dTest (dBin gGt (dVar 5) (dC (.int 0)))) (sSeq (sFor (iVal (dCall p_turns_of (dCons (dVar 0) (dCons (dVar 4) (dNil))))) (gdTup [6, 7, 8]) (sSeq (sAsg 9 (dCall p_match_of (dCons (dVar 0) (dCons (dVar 7) (dCons (dVar 2) (dNil)))))) (sIf (dTest (dBin gEq (dMethD ("Match" : Str) ("cost" : Str) p_Match_cost (dVar 9) (dNil)) (dBin gSub (dVar 5) (dVar 8)))) (sBrk) (sNext)))) (sSeq (sAppend 3 (dVar 6)) (sSeq (sAsg 4 (dVar 7)) (sAugI 5 (fun i j => i - j) (dVar 8)))))) (sRet (dVar 3))))
def p_way_of : List D → R D := fnD 10 p_way_of_den

def p_way_den : DS := sSeq (sDrop (dCall p_need_match (dCons (dVar 0) (dCons (dVar 1) (dCons (dVar 2) (dNil)))))) (sRet (dCall p_way_of (dCons (dVar 0) (dCons (dVar 1) (dCons (dVar 2) (dNil))))))
def p_way : List D → R D := fnD 3 p_way_den

def p_judged_den : DS := sSeq (sDrop (dCall p_need_both (dCons (dVar 0) (dCons (dVar 1) (dCons (dVar 2) (dNil)))))) (sSeq (sIf (dNot (dTest (dIsi "list" (dVar 3)))) (sBad) (sNext)) (sSeq (sPar 4 5 (dC (.int 0)) (dVar 1)) (sSeq (sFor (iEnumd (dCons (dVar 3) (dNil))) (gdTup [6, 7]) (sSeq (sAsg 8 (dIfE (dTest (dCall p_is_number (dCons (dVar 7) (dCons (dC (.int 0)) (dCons (dBin gSub (dBin gIx (dVar 0) (dC (.int 1))) (dC (.int 1))) (dNil)))))) (dCall p_turned (dCons (dVar 0) (dCons (dVar 5) (dCons (dVar 7) (dNil))))) (dC .non))) (sSeq (sIf (dTest (dBin gIsN (dVar 8) (dC .non))) (sBad) (sNext)) (sSeq (sAugI 4 (fun i j => i + j) (dCall p_weight_of (dCons (dVar 0) (dCons (dBin gIx (dVar 5) (dVar 7)) (dCons (dVar 8) (dNil)))))) (sAsg 5 (dCall p_with_sign (dCons (dVar 5) (dCons (dVar 7) (dCons (dVar 8) (dNil)))))))))) (sRet (dIfE (dTest (dBin gEq (dVar 5) (dVar 2))) (dVar 4) (dC .non))))))
def p_judged : List D → R D := fnD 9 p_judged_den

def f_law_plan_den : DS := sSeq (sAsg 2 (dBin gAdd (dC (.int 3)) (dCallB f_law_take 0 (dCons (dBin gSub (dVar 1) (dC (.int 2))) (dNil))))) (sSeq (sAsg 3 (dApp gTuple (dCons (dFrz (oComp (iRange (dCons (dVar 2) (dNil))) [4] (gdName 4) (dTest (dBin gEq (dCallB f_law_take 0 (dCons (dBin gIx (dFrz (oLst (dCons (dC (.int 2)) (dCons (dC (.int 9)) (dCons (dC (.int 30)) (dNil)))))) (dCallB f_law_take 0 (dCons (dC (.int 3)) (dNil)))) (dNil))) (dC (.int 1)))) (dVar 4))) (dNil)))) (sSeq (sAsg 3 (dIfE (dTest (dBin gEq (dCallB f_law_take 0 (dCons (dC (.int 2)) (dNil))) (dC (.int 0)))) (dVar 3) (dTup (dNil)))) (sSeq (sAsg 5 (dApp gTuple (dCons (dFrz (oComp (iRange (dCons (dC (.int 6)) (dNil))) [4] (gdName 4) (noTest) (dBin gAdd (dC (.int 1)) (dCallB f_law_take 0 (dCons (dBin gIx (dFrz (oLst (dCons (dC (.int 2)) (dCons (dC (.int 9)) (dNil))))) (dCallB f_law_take 0 (dCons (dC (.int 2)) (dNil)))) (dNil)))))) (dNil)))) (sRet (dTup (dCons (dBin gGt (dCallB f_law_take 0 (dCons (dC (.int 3)) (dNil))) (dC (.int 0))) (dCons (dVar 2) (dCons (dVar 3) (dCons (dVar 5) (dNil))))))))))
def f_law_plan : Bx → List D → R (D × Bx) := fnB 6 f_law_plan_den

def f_law_cells_den : DS := sSeq (sPar 2 3 (dC (.str ("" : Str))) (dSl (dC (.str ("abcd" : Str))) (pNo) (pSome (dBin gAdd (dC (.int 2)) (dCallB f_law_take 0 (dCons (dC (.int 3)) (dNil))))))) (sSeq (sWhile (dTest (dBin gLt (dApp gLen (dCons (dVar 2) (dNil))) (dBin gIx (dVar 1) (dC (.int 1))))) (sAsg 2 (dBin gAdd (dVar 2) (dBin gMul (dBin gIx (dVar 3) (dCallB f_law_take 0 (dCons (dApp gLen (dCons (dVar 3) (dNil))) (dNil)))) (dBin gAdd (dC (.int 1)) (dCallB f_law_take 0 (dCons (dC (.int 3)) (dNil)))))))) (sRet (dSl (dVar 2) (pNo) (pSome (dBin gIx (dVar 1) (dC (.int 1)))))))
def f_law_cells : Bx → List D → R (D × Bx) := fnB 4 f_law_cells_den

def f_law_turns_den : DS := sSeq (sAsgO 2 (oLst (dNil))) (sSeq (sFor (iRange (dCons (dBin gIx (dVar 0) (dC (.int 1))) (dNil))) (gdName 3) (sIf (dAnd (dTest (dBin gNotIn (dVar 3) (dBin gIx (dVar 0) (dC (.int 2))))) (dOr (dTest (dBin gIx (dVar 0) (dC (.int 0)))) (dTest (dChain gLt gLt (dC (.int 0)) (dVar 3) (dBin gSub (dBin gIx (dVar 0) (dC (.int 1))) (dC (.int 1))))))) (sSeq (sPar 4 5 (dBin gIx (dVar 1) (dBin gSub (dVar 3) (dC (.int 1)))) (dBin gIx (dVar 1) (dBin gMod (dBin gAdd (dVar 3) (dC (.int 1))) (dBin gIx (dVar 0) (dC (.int 1)))))) (sIf (dAnd (dTest (dBin gNe (dVar 4) (dVar 5))) (dTest (dBin gIn (dBin gIx (dVar 1) (dVar 3)) (dTup (dCons (dVar 4) (dCons (dVar 5) (dNil))))))) (sSeq (sAsg 6 (dIfE (dTest (dBin gEq (dBin gIx (dVar 1) (dVar 3)) (dVar 4))) (dVar 5) (dVar 4))) (sSeq (sAsg 7 (dMth isL gIndex (dFrz (oLst (dCons (dC (.str ("ab" : Str))) (dCons (dC (.str ("ac" : Str))) (dCons (dC (.str ("ad" : Str))) (dCons (dC (.str ("bc" : Str))) (dCons (dC (.str ("bd" : Str))) (dCons (dC (.str ("cd" : Str))) (dNil))))))))) (dCons (dMth isS gJoin (dC (.str ("" : Str))) (dCons (dApp gSorted (dCons (dFrz (oLst (dCons (dVar 4) (dCons (dVar 5) (dNil))))) (dNil))) (dNil))) (dNil)))) (sAppend 2 (dTup (dCons (dVar 3) (dCons (dBin gAdd (dBin gAdd (dSl (dVar 1) (pNo) (pSome (dVar 3))) (dVar 6)) (dSl (dVar 1) (pSome (dBin gAdd (dVar 3) (dC (.int 1)))) (pNo))) (dCons (dBin gIx (dBin gIx (dVar 0) (dC (.int 3))) (dVar 7)) (dNil)))))))) (sNext))) (sNext))) (sRet (dVar 2)))
def f_law_turns : List D → R D := fnD 8 f_law_turns_den

def f_law_walk_den : DS := sSeq (sAsgO 4 (oLst (dNil))) (sSeq (sFor (iRange (dCons (dCallB f_law_take 0 (dCons (dVar 3) (dNil))) (dNil))) (gdName 5) (sSeq (sAsg 6 (dCall f_law_turns (dCons (dVar 1) (dCons (dVar 2) (dNil))))) (sIf (dTest (dBin gNe (dVar 6) (dFrz (oLst (dNil))))) (sSeq (sTo (gdTup [7, 2, 8]) (dBin gIx (dVar 6) (dCallB f_law_take 0 (dCons (dApp gLen (dCons (dVar 6) (dNil))) (dNil))))) (sAppend 4 (dVar 7))) (sNext)))) (sRet (dTup (dCons (dVar 2) (dCons (dVar 4) (dNil))))))
def f_law_walk : Bx → List D → R (D × Bx) := fnB 9 f_law_walk_den

def f_law_behind_den : DS := sSeq (sAsgO 3 (oComp (iVal (dCall f_law_turns (dCons (dVar 0) (dCons (dVar 1) (dNil))))) [4, 5, 6] (gdTup [4, 5, 6]) (dTest (dBin gEq (dVar 4) (dVar 2))) (dTup (dCons (dVar 5) (dCons (dVar 6) (dNil)))))) (sRet (dIfE (dTest (dBin gNe (dVar 3) (dFrz (oLst (dNil))))) (dBin gIx (dVar 3) (dC (.int 0))) (dC .non)))
def f_law_behind : List D → R D := fnD 7 f_law_behind_den

def law_den : DS := sSeq (sFor (iRange (dCons (dC (.int 3)) (dNil))) (gdName 2) (sSeq (sAsg 3 (dCallB f_law_plan 1 (dCons (dC (.int 12)) (dNil)))) (sSeq (sAsg 4 (dCallB f_law_cells 1 (dCons (dVar 3) (dNil)))) (sSeq (sAsg 5 (dBin gIx (dCallB f_law_walk 1 (dCons (dVar 3) (dCons (dVar 4) (dCons (dC (.int 40)) (dNil))))) (dC (.int 0)))) (sSeq (sParL [6, 7, 8] (lConsD (dCall p_way (dCons (dVar 3) (dCons (dVar 4) (dCons (dVar 5) (dNil))))) (lConsD (dVar 4) (lConsD (dCall p_least (dCons (dVar 3) (dCons (dVar 4) (dCons (dVar 5) (dNil))))) (lNil))))) (sSeq (sIf (dNot (dTest (dCall (f_law_alike 8) (dCons (dCall p_judged (dCons (dVar 3) (dCons (dVar 4) (dCons (dVar 5) (dCons (dVar 6) (dNil)))))) (dCons (dVar 8) (dNil)))))) (sRet (dC (.bl false))) (sNext)) (sSeq (sFor (iRange (dCons (dApp gLen (dCons (dVar 6) (dNil))) (dNil))) (gdName 9) (sSeq (sAsg 10 (dCall f_law_behind (dCons (dVar 3) (dCons (dVar 7) (dCons (dBin gIx (dVar 6) (dVar 9)) (dNil)))))) (sSeq (sIf (dTest (dBin gIsN (dVar 10) (dC .non))) (sRet (dC (.bl false))) (sNext)) (sSeq (sPar 7 8 (dBin gIx (dVar 10) (dC (.int 0))) (dBin gSub (dVar 8) (dBin gIx (dVar 10) (dC (.int 1))))) (sSeq (sIf (dNot (dTest (dCall (f_law_alike 8) (dCons (dCall p_least (dCons (dVar 3) (dCons (dVar 7) (dCons (dVar 5) (dNil))))) (dCons (dVar 8) (dNil)))))) (sRet (dC (.bl false))) (sNext)) (sIf (dNot (dTest (dCall (f_law_alike 8) (dCons (dCall p_judged (dCons (dVar 3) (dCons (dVar 7) (dCons (dVar 5) (dCons (dSl (dVar 6) (pSome (dBin gAdd (dVar 9) (dC (.int 1)))) (pNo)) (dNil)))))) (dCons (dVar 8) (dNil)))))) (sRet (dC (.bl false))) (sNext))))))) (sIf (dOr (dTest (dBin gNe (dVar 7) (dVar 5))) (dTest (dBin gNe (dVar 8) (dC (.int 0))))) (sRet (dC (.bl false))) (sNext))))))))) (sRet (dC (.bl true)))

end WW
set_option Elab.async false
set_option linter.all false
set_option maxRecDepth 100000
set_option maxHeartbeats 4000000
namespace WW
namespace K14
open PySem PySem.Spec L2
def top (i : Nat) : Stmt := PySem.Challenge.pw_wallwalk_k14_whole_great_ways.main.body.getD i (.Pass ⟨0, 0, 0, 0⟩)
structure Txt (K : PySem.W.Frag) (mg : Str → Option Value) : Prop where
  abs : mg "abs" = none
  all : mg "all" = none
  tbool : mg "bool" = none
  enumerate : mg "enumerate" = none
  tint : mg "int" = none
  isinstance : mg "isinstance" = none
  len : mg "len" = none
  tlist : mg "list" = none
  bmax : mg "max" = none
  bmin : mg "min" = none
  range : mg "range" = none
  sorted : mg "sorted" = none
  tstr : mg "str" = none
  sum : mg "sum" = none
  ttuple : mg "tuple" = none
  zip : mg "zip" = none
  SIGNS : ∃ t, mg "SIGNS" = some (.str ("abcd" : Str) t)
  LEAST_CELLS : ∃ t, mg "LEAST_CELLS" = some (.int 3 t)
  MOST_CELLS : ∃ t, mg "MOST_CELLS" = some (.int 12 t)
  MOST_WEIGHT : ∃ t, mg "MOST_WEIGHT" = some (.int 9 t)
  PAIRS : GTup K mg "PAIRS" (["ab", "ac", "ad", "bc", "bd", "cd"] : List Str)
  cls_Match : Cls K (He.ga K "Match")
  cls_Ring : Cls K (He.ga K "Ring")
  na_Match_counts : NoAttr K (He.ga K "Match") "counts"
  na_Match_rows : NoAttr K (He.ga K "Match") "rows"
  na_Match_shift : NoAttr K (He.ga K "Match") "shift"
  na_Ring_first : NoAttr K (He.ga K "Ring") "first"
  na_Ring_goals : NoAttr K (He.ga K "Ring") "goals"
  na_Ring_one : NoAttr K (He.ga K "Ring") "one"
  na_Ring_plan : NoAttr K (He.ga K "Ring") "plan"
  na_Ring_starts : NoAttr K (He.ga K "Ring") "starts"
  na_Ring_step : NoAttr K (He.ga K "Ring") "step"
section
variable {P : Program} {w : World} {K : PySem.W.Frag} {mg : Str → Option Value} {base : Heap}
abbrev s_law_take : Stmt := top 45
theorem sc_law_take : FnScope (["_law_box", "_law_size", "_law_figure"] : List Str) (["_law_box", "_law_size"] : List Str) (defScope s_law_take) := ⟨rfl, rfl, rfl, by decide +kernel, rfl, by decide +kernel, by decide +kernel⟩
theorem ok_law_take {f : Addr} {fd : FuncData} (T : Txt K mg) (Fn : Fun K "_law_take" "_law_take" s_law_take f fd) : FnOk P w K mg base (L2.CX P w) 1 f fd (["_law_box", "_law_size"] : List Str) (spB K 1 f_law_take) := by
  refine Fn.okX (k := 0) sc_law_take (fun vs H Q E h => ?_) (fun cdv A outer s H vs Q E hr h => ?_)
  · obtain ⟨F, v0, vs', b, ds, A, rfl, _, rs, hl, _⟩ := h
    rw [List.length_cons, rs.len, hl]
    rfl
  · have u4 := hr.units
    refine ⟨_, pss_cons (ps_if (pt_cmpR (op_eqD u4) (pe_ix ix_list (pv 0) pe_int (fun _ _ => rfl)) (pe_lst pa_nil) (nomark _))
        (pss_cons (ps_asg (pe_op op_mod (pe_callTy call_int1 (by rfl) T.tint bt_int (pa_cons (pe_op op_mul (pe_ix ix_list (pv 0) pe_int (fun _ _ => rfl)) pe_int) pa_nil)) pe_int) (pg_sub (pv 0) pe_int set_list))
        (pss_one (ps_ret (pe_op op_mod (pe_callTy call_int1 (by rfl) T.tint bt_int (pa_cons (pe_op op_fdiv (pe_ix ix_list (pv 0) pe_int (fun _ _ => rfl)) pe_int) pa_nil)) (pv 1))))) pss_nil)
      (pss_cons (ps_set (i := 2) sc_law_take.nd rfl (by first | exact Or.inl rfl | exact Or.inr rfl) (pe_ix ix_list (pe_ix ix_list (pv 0) pe_int (fun _ _ => rfl)) pe_int (fun _ _ => rfl)))
      (pss_cons (ps_asg (pe_op op_fdiv (pv 2) (pv 1)) (pg_sub (pe_ix ix_list (pv 0) pe_int (fun _ _ => rfl)) pe_int set_list))
      (pss_cons (ps_if (PW.pt (pw_or (pt_cmpR op_eq (pe_ix ix_list (pe_ix ix_list (pv 0) pe_int (fun _ _ => rfl)) pe_int (fun _ _ => rfl)) pe_int (nomark _))
          (pw_or1 (pt_cmpR op_eq (pe_ix ix_list (pe_ix ix_list (pv 0) pe_int (fun _ _ => rfl)) pe_int (fun _ _ => rfl)) (pe_un un_neg pe_int) (nomark _)))))
          (pss_one (ps_expr (pe_bm PySem.F.plainAttrs_list PySem.F.slot_list_pop PySem.F.type_list_pop mt_popAt (pe_ix ix_list (pv 0) pe_int (fun _ _ => rfl)) (pa_cons pe_int pa_nil)))) pss_nil)
      (pss_one (ps_ret (pe_op op_mod (pe_callTy call_int1 (by rfl) T.tint bt_int (pa_cons (pv 2) pa_nil)) (pv 1))))))), ?_⟩
    obtain ⟨F, v0, vs', b, ds, A0, rfl, sm, rs, hl, ok, hA, d, b', o, fin⟩ := h
    obtain ⟨p, ns, st⟩ := b
    obtain ⟨q, rfl, npq, hAi, hp, hq⟩ := ok
    have hn : ∃ n, ds = [.int n] ∧ 0 < n ∧ n < SMALL ∧ d = .int (takeI (p, ns, st) n).1 ∧ b' = (takeI (p, ns, st) n).2 := by
      unfold f_law_take at o
      split at o
      · rename_i n
        by_cases c : 0 < n ∧ n < SMALL
        · rw [if_pos c] at o
          injection o with o
          injection o with o1 o2
          exact ⟨n, rfl, c.1, c.2, o1.symm, o2.symm⟩
        · rw [if_neg c] at o
          cases o
      · cases o
    obtain ⟨n, rfl, n0, n1, rfl, rfl⟩ := hn
    have n2 : n < 1073741824 := by
      unfold SMALL at n1
      omega
    obtain ⟨v, rfl, rv⟩ := reps1 rs
    rw [rv.int_inv]
    have fp : F p = none := hA p ((hAi p).mpr (.inl rfl))
    have fq : F q = none := hA q ((hAi q).mpr (.inr rfl))
    -- if box[0] == []
    refine ⟨.ref p, rfl, p, _, 0, .ref q, rfl, rfl, .inl (.inl hp), rfl, Nat.zero_le _, fun l hl0 => ?_⟩
    have npl : p ≠ l := ne_of_none hp hl0
    have nql : q ≠ l := ne_of_none hq hl0
    have hp1 : (upd H l (.lst [])) p = some (.lst [.ref q, .int st]) := by rw [upd_ne npl]; exact hp
    have hq1 : (upd H l (.lst [])) q = some (.lst (ns.map V.int)) := by rw [upd_ne nql]; exact hq
    refine ⟨_, _, dp_ints ns hq1, .lst (.inl (.inl upd_same)) .nil, shaped_ints ns, by decide, _, rfl, ?_⟩
    rw [eqv_ints_nil]
    have ext : ∀ (H' : Hp), (∀ a, ¬ A0 a → H' a = (upd H l (.lst [])) a) → (∀ a, A0 a → ∃ o, H' a = some o ∧ NT o) → Ext K A0 F H F H' := fun H' h1 h2 =>
      Ext.own sm hA (fun a z => by
        rcases (hAi a).mp z with w | w
        · rw [w]; exact ⟨_, hp, .lst⟩
        · rw [w]; exact ⟨_, hq, .lst⟩) (fun a o ha na => by rw [h1 a na, upd_ne (ne_of_none ha hl0)]; exact ha) h2
    cases ns with
    | nil =>
      refine iteT ?_
      refine ⟨.ref p, rfl, p, _, 1, .int st, rfl, rfl, .inl (.inl hp1), rfl, st, 48271, rfl, rfl, .inr ⟨by decide, by decide⟩, .inl ⟨_, rfl, _, 2147483647, rfl, rfl, (by show (0 : Int) < 2147483647; decide), .ref p, rfl, p, _, 1, 1, rfl, rfl, hp1, rfl, ?_⟩⟩
      refine ⟨.ref p, rfl, p, _, 1, .int (st * 48271 % 2147483647), rfl, rfl, .inl (.inl upd_same), rfl, _, 7, rfl, rfl, ⟨by decide, by decide⟩, .inl ⟨_, rfl, .int n, rfl, _, n, rfl, rfl, n0, ?_⟩⟩
      refine fin F _ _ A0 (ext _ (fun a na => upd_ne fun z => na ((hAi a).mpr (.inl z))) fun a ha => ?_) ⟨q, rfl, npq, hAi, upd_same, by rw [upd_ne npq.symm]; exact hq1⟩ (fun a ha => ⟨hA a ha, .inl ha⟩) (.int _)
      rcases (hAi a).mp ha with z | z
      · rw [z]; exact ⟨_, upd_same, fun _ z => by cases z⟩
      · rw [z]; exact ⟨_, by rw [upd_ne npq.symm]; exact hq1, fun _ z => by cases z⟩
    | cons k r =>
      refine iteF ?_
      refine ⟨.ref p, rfl, p, _, 0, .ref q, rfl, rfl, .inl (.inl hp1), rfl, q, _, 0, .int k, rfl, rfl, .inl (.inl hq1), atI_nat (j := 0) rfl, ?_⟩
      refine ⟨.int k, rfl, .int n, rfl, k, n, rfl, rfl, ⟨n0, n2⟩, .ref p, rfl, p, _, 0, .ref q, rfl, rfl, .inl (.inl hp1), rfl, q, _, 0, 0, rfl, rfl, hq1, ?_, ?_⟩
      · unfold ixN
        rw [if_pos (by decide), if_pos (by rw [List.length_map, List.length_cons]; omega)]
        rfl
      have hp2 : (upd (upd H l (.lst [])) q (.lst (((k :: r).map V.int).set 0 (.int (k / n))))) p = some (.lst [.ref q, .int st]) := by rw [upd_ne npq]; exact hp1
      have hend : ∀ (r' : List Int) (H2 : Hp), (∀ a, ¬ A0 a → H2 a = (upd H l (.lst [])) a) → H2 p = some (.lst [.ref q, .int st]) → H2 q = some (.lst (r'.map V.int)) → (if k / n = 0 ∨ k / n = -1 then r else (k / n) :: r) = r' → Q (.int (k % n)) H2 := fun r' H2 h1 h2 h3 h4 => by
        refine fin F H2 _ A0 (ext _ h1 fun a ha => ?_) ⟨q, rfl, npq, hAi, h2, ?_⟩ (fun a ha => ⟨hA a ha, .inl ha⟩) (.int _)
        · rcases (hAi a).mp ha with z | z
          · rw [z]; exact ⟨_, h2, fun _ z => by cases z⟩
          · rw [z]; exact ⟨_, h3, fun _ z => by cases z⟩
        · show H2 q = some (.lst ((if k / n = 0 ∨ k / n = -1 then r else (k / n) :: r).map V.int))
          rw [h4]
          exact h3
      have hoff : ∀ a, ¬ A0 a → a ≠ q := fun a na z => na ((hAi a).mpr (.inr z))
      refine ⟨.ref p, rfl, p, _, 0, .ref q, rfl, rfl, .inl (.inl hp2), rfl, q, _, 0, .int (k / n), rfl, rfl, .inl (.inl upd_same), atI_nat (j := 0) rfl, rfl, _, rfl, ite2 (fun c => ?_) (fun c => ?_)⟩
      · have c0 : k / n = 0 := V.int.inj (of_decide_eq_true c)
        refine iteT ⟨.ref p, rfl, p, _, 0, .ref q, rfl, rfl, .inl (.inl hp2), rfl, .inl ⟨rfl, _, .inl (.inl upd_same)⟩, q, _, 0, 0, .int (k / n), rfl, rfl, upd_same, by decide, by decide, ?_, rfl, ?_⟩
        · rw [show (((k :: r).map V.int).set 0 (.int (k / n))).length = r.length + 1 by simp]
          unfold seqIndex?
          simp
        · refine ⟨.int k, rfl, .inl ⟨_, rfl, .int n, rfl, k, n, rfl, rfl, n0, hend r _ (fun a na => by rw [upd_ne (hoff a na), upd_ne (hoff a na)]) (by rw [upd_ne npq]; exact hp2) upd_same (if_pos (.inl c0))⟩⟩
      · have c0 : ¬ k / n = 0 := fun z => c (decide_eq_true (by rw [z]))
        refine ⟨.ref p, rfl, p, _, 0, .ref q, rfl, rfl, .inl (.inl hp2), rfl, q, _, 0, .int (k / n), rfl, rfl, .inl (.inl upd_same), atI_nat (j := 0) rfl, _, rfl, rfl, _, rfl, ite2 (fun c2 => ?_) (fun c2 => ?_)⟩
        · have c1 : k / n = -1 := V.int.inj (of_decide_eq_true c2)
          refine ⟨.ref p, rfl, p, _, 0, .ref q, rfl, rfl, .inl (.inl hp2), rfl, .inl ⟨rfl, _, .inl (.inl upd_same)⟩, q, _, 0, 0, .int (k / n), rfl, rfl, upd_same, by decide, by decide, ?_, rfl, ?_⟩
          · rw [show (((k :: r).map V.int).set 0 (.int (k / n))).length = r.length + 1 by simp]
            unfold seqIndex?
            simp
          · refine ⟨.int k, rfl, .inl ⟨_, rfl, .int n, rfl, k, n, rfl, rfl, n0, hend r _ (fun a na => by rw [upd_ne (hoff a na), upd_ne (hoff a na)]) (by rw [upd_ne npq]; exact hp2) upd_same (if_pos (.inr c1))⟩⟩
        · have c1 : ¬ k / n = -1 := fun z => c2 (decide_eq_true (by rw [z]))
          refine ⟨.int k, rfl, .inl ⟨_, rfl, .int n, rfl, k, n, rfl, rfl, n0, hend ((k / n) :: r) _ (fun a na => upd_ne (hoff a na)) hp2 upd_same (if_neg (by simp [c0, c1]))⟩⟩

abbrev s_law_begun : Stmt := top 44
theorem sc_law_begun : FnScope (["_law_script", "_law_stirred", "_law_cell"] : List Str) (["_law_script"] : List Str) (defScope s_law_begun) := ⟨rfl, rfl, rfl, by decide +kernel, rfl, by decide +kernel, by decide +kernel⟩
theorem ok_law_begun {f : Addr} {fd : FuncData} (T : Txt K mg) (Fn : Fun K "_law_begun" "_law_begun" s_law_begun f fd) : FnOk P w K mg base (L2.CX P w) 1 f fd (["_law_script"] : List Str) (spBegun K) := by
  refine Fn.okX (k := 0) sc_law_begun (fun vs H Q E h => ?_) (fun cdv A outer s H vs Q E hr h => ?_)
  · obtain ⟨a, ns, rfl, _⟩ := h
    rfl
  · refine ⟨_, pss_cons (ps_set (i := 1) sc_law_begun.nd rfl (by first | exact Or.inl rfl | exact Or.inr rfl) pe_int)
      (pss_cons (ps_for (passes_of rfl) rfl (pi_list (pv 0)) (pg_name (i := 2) sc_law_begun.nd rfl (by first | exact Or.inl rfl | exact Or.inr rfl))
        (pss_one (ps_set (i := 1) sc_law_begun.nd rfl (by first | exact Or.inl rfl | exact Or.inr rfl) (pe_op op_mod (pe_callTy call_int1 (by rfl) T.tint bt_int (pa_cons (pe_op op_add (pe_op op_add (pe_op op_mul (pv 1) pe_int) (pe_op op_mul (pv 2) pe_int)) pe_int) pa_nil)) pe_int))))
      (pss_one (ps_ret (pe_lst (pa_cons (pe_callTy call_list_of (by rfl) T.tlist bt_list (pa_cons (pv 0) pa_nil))
        (pa_cons (pe_op op_mul (pv 1) (pe_callTy call_int1 (by rfl) T.tint bt_int (pa_cons (pe_cmpR op_gt (pe_callB call_len_seq (by rfl) T.len bt_len (pa_cons (pv 0) pa_nil)) pe_int (nomark _)) pa_nil))) pa_nil)))))), ?_⟩
    obtain ⟨a, ns, rfl, hS, hlen, fin⟩ := h
    refine ⟨.ref a, rfl, a, rfl, ⟨_, hS⟩, for_list (K := K) (a := a) (xs := ns.map V.int) (fun i σ H' => H' = H ∧ ∃ v, σ = [some (.ref a), some (.int (stirI (ns.take i))), v]) ⟨rfl, none, rfl⟩ (fun i σ H' _ ⟨e, _⟩ => by rw [e]; exact hS) ?_ ?_⟩
    · rintro i y σ H' hi ⟨rfl, v, rfl⟩
      obtain ⟨z, hz, rfl⟩ : ∃ z, ns[i]? = some z ∧ y = V.int z := by
        rw [List.getElem?_map] at hi
        cases e : ns[i]? with
        | none => rw [e] at hi; cases hi
        | some z => rw [e] at hi; exact ⟨z, rfl, (Option.some.inj hi).symm⟩
      refine ⟨.int (stirI (ns.take i)), rfl, _, 48271, rfl, rfl, .inr ⟨by decide, by decide⟩, .int z, rfl, z, 69621, rfl, rfl, .inr ⟨by decide, by decide⟩, _, _, rfl, rfl, _, 11, rfl, rfl, .inl ⟨_, rfl, _, 2147483647, rfl, rfl, (by show (0 : Int) < 2147483647; decide), rfl, some (.int z), ?_⟩⟩
      have e : stirI (ns.take (i + 1)) = (stirI (ns.take i) * 48271 + z * 69621 + 11) % 2147483647 := by
        unfold stirI
        rw [List.take_add_one, hz, List.foldl_append]
        rfl
      rw [e]
      rfl
    · rintro σ H' ⟨rfl, v, rfl⟩
      rw [List.length_map, List.take_length]
      refine ⟨.ref a, rfl, a, _, rfl, .inl hS, fun q hq => ?_⟩
      have hS' : SqL K (upd H' q (.lst (ns.map V.int))) a (ns.map V.int) := by
        rcases hS with (h | ⟨o, h⟩) | h
        · exact .inl (.inl (by rw [upd_ne (ne_of_none h hq)]; exact h))
        · exact .inl (.inr ⟨o, by rw [upd_ne (ne_of_none h hq)]; exact h⟩)
        · exact .inr h
      refine ⟨.int (stirI ns), rfl, .ref a, rfl, a, _, rfl, .inl hS', _, 2, rfl, rfl, .inr ⟨_, rfl, ?_⟩⟩
      refine ⟨_, _, rfl, rfl, ?_, (by show 2 ≤ sizeLine; decide), fun p hp => ?_⟩
      · refine .inr ?_
        rw [List.length_map]
        by_cases c : (2 : Int) < (ns.length : Int)
        · rw [decide_eq_true c]
          exact ⟨by decide, by decide⟩
        · rw [decide_eq_false c]
          exact ⟨by decide, by decide⟩
      · have npq : p ≠ q := fun z => by
          rw [z, upd_same] at hp
          cases hp
        have hpH : H' p = none := by
          rw [upd_ne npq] at hp
          exact hp
        refine fin _ p (fun b => b = p ∨ b = q) (fun b o hb => ?_) ⟨q, rfl, npq, fun b => Iff.rfl, ?_, ?_⟩ (fun b hb => ?_)
        · rw [upd_ne (ne_of_none hb hpH), upd_ne (ne_of_none hb hq)]
          exact hb
        · rw [upd_same]
          unfold begunI
          rw [List.length_map]
        · rw [upd_ne npq.symm, upd_same]
        · rcases hb with z | z
          · rw [z]; exact hpH
          · rw [z]; exact hq

abbrev s_law_alike : Stmt := top 46
theorem sc_law_alike : FnScope (["_law_found", "_law_due", "_law_k"] : List Str) (["_law_found", "_law_due"] : List Str) (defScope s_law_alike) := ⟨rfl, rfl, rfl, by decide +kernel, rfl, by decide +kernel, by decide +kernel⟩
theorem ok_law_alike {f : Addr} {fd : FuncData} (T : Txt K mg) (Fn : Fun K "_law_alike" "_law_alike" s_law_alike f fd) (hm : mg "_law_alike" = some (.ref f)) (hb : Binds K fd (["_law_found", "_law_due"] : List Str) []) : ∀ n : Nat, FnOk P w K mg base (L2.CX P w) n f fd (["_law_found", "_law_due"] : List Str) (spD K 2 (f_law_alike n))
  | 0 => ⟨fun _ _ _ _ ⟨_, _, _, _, _, h⟩ => h.elim, fun _ _ _ _ _ _ _ _ _ _ _ _ _ ⟨_, _, _, _, _, h⟩ => h.elim⟩
  | n + 1 => by
    have ih := ok_law_alike T Fn hm hb n
    have Gself : GFn P w K mg base "_law_alike" n (["_law_found", "_law_due"] : List Str) (spD K 2 (f_law_alike n)) := ⟨f, fd, ih, hm, Fn.kp, hb⟩
    exact okD (k := n) Fn sc_law_alike 2 rfl 3 rfl fun cdv A outer s H E hr => by
      have tk : Takes (cxOf (L2.CX P w) P w K mg base (["_law_found", "_law_due", "_law_k"] : List Str) "_law_alike" (defScope s_law_alike) f cdv A outer s H E) (fun c d _ H => E c d H) := takes_of rfl rfl rfl rfl
      have u4 := hr.units
      have u5 := u65 hr
      exact ds_cons (ds_if (t_isN (dx_var 1) (dx_non)) (ds_one (ds_ret (x_isN (dx_var 0) (dx_non)))) (ds_nil)) (ds_cons (ds_if (dt_val (dx_isi "bool" (by rfl) T.isinstance (by rfl) T.tbool bt_bool (dx_var 1))) (ds_one (ds_ret (dx_and (dx_isi "bool" (by rfl) T.isinstance (by rfl) T.tbool bt_bool (dx_var 0)) (dx_one (x_eq u4 (dx_var 0) (dx_var 1)))))) (ds_nil)) (ds_cons (ds_if (dt_val (dx_isi "int" (by rfl) T.isinstance (by rfl) T.tint bt_int (dx_var 1))) (ds_one (ds_ret (dx_and (dx_isi "int" (by rfl) T.isinstance (by rfl) T.tint bt_int (dx_var 0)) (dx_and (dx_not (dx_isi "bool" (by rfl) T.isinstance (by rfl) T.tbool bt_bool (dx_var 0))) (dx_one (x_eq u4 (dx_var 0) (dx_var 1))))))) (ds_nil)) (ds_cons (ds_if (dt_val (dx_isi "str" (by rfl) T.isinstance (by rfl) T.tstr bt_str (dx_var 1))) (ds_one (ds_ret (dx_and (dx_isi "str" (by rfl) T.isinstance (by rfl) T.tstr bt_str (dx_var 0)) (dx_one (x_eq u4 (dx_var 0) (dx_var 1)))))) (ds_nil)) (ds_cons (ds_if (PW.pt (dw_or (t_ne u4 (dx_isi "tuple" (by rfl) T.isinstance (by rfl) T.ttuple bt_tuple (dx_var 1)) (dx_isi "tuple" (by rfl) T.isinstance (by rfl) T.ttuple bt_tuple (dx_var 0))) (dw_or1 (t_ne u4 (dx_isi "list" (by rfl) T.isinstance (by rfl) T.tlist bt_list (dx_var 1)) (dx_isi "list" (by rfl) T.isinstance (by rfl) T.tlist bt_list (dx_var 0)))))) (ds_one (ds_ret (dx_bl))) (ds_nil)) (ds_cons (ds_if (t_ne u4 (dx_callB call_len vr_len nx_len (by rfl) T.len bt_len (da_cons (dx_var 0) (da_nil))) (dx_callB call_len vr_len nx_len (by rfl) T.len bt_len (da_cons (dx_var 1) (da_nil)))) (ds_one (ds_ret (dx_bl))) (ds_nil)) (ds_cons (ds_for (passes_of rfl) rfl (di_range1 (by rfl) T.range (da_cons (dx_callB call_len vr_len nx_len (by rfl) T.len bt_len (da_cons (dx_var 1) (da_nil))) (da_nil)) (len_cons len0)) (dg_name (i := 2) sc_law_alike.nd rfl (by first | exact Or.inl rfl | exact Or.inr rfl)) (ds_one (ds_if (dt_not (dt_val (dx_callG Gself hr (Nat.le_refl _) tk (by rfl) (da_cons (dx_ix (dx_var 0) (dx_var 2) (fun _ _ => rfl)) (da_cons (dx_ix (dx_var 1) (dx_var 2) (fun _ _ => rfl)) (da_nil))) (len_cons (len_cons len0))))) (ds_one (ds_ret (dx_bl))) (ds_nil)))) (ds_one (ds_ret (dx_bl)))))))))

abbrev sis_number : Stmt := top 12
theorem scis_number : FnScope (["part", "low", "high"] : List Str) (["part", "low", "high"] : List Str) (defScope sis_number) := ⟨rfl, rfl, rfl, by decide +kernel, rfl, by decide +kernel, by decide +kernel⟩
theorem okis_number {f : Addr} {fd : FuncData} (T : Txt K mg) (Fn : Fun K "is_number" "is_number" sis_number f fd)  : FnOk P w K mg base (L2.CX P w) 1 f fd (["part", "low", "high"] : List Str) (spD K 3 p_is_number) :=
  okD (k := 0) Fn scis_number 3 rfl 3 rfl fun cdv A outer s H E hr => by
    have tk : Takes (cxOf (L2.CX P w) P w K mg base (["part", "low", "high"] : List Str) "is_number" (defScope sis_number) f cdv A outer s H E) (fun c d _ H => E c d H) := takes_of rfl rfl rfl rfl
    have u4 := hr.units
    have u5 := u65 hr
    exact ds_one (ds_ret (dx_and (dx_isi "int" (by rfl) T.isinstance (by rfl) T.tint bt_int (dx_var 0)) (dx_and (dx_not (dx_isi "bool" (by rfl) T.isinstance (by rfl) T.tbool bt_bool (dx_var 0))) (dx_one (x_lele (dx_var 1) (dx_var 0) (dx_var 2))))))

abbrev sare_frozen : Stmt := top 13
theorem scare_frozen : FnScope (["frozen", "many", "cell", "one", "other"] : List Str) (["frozen", "many"] : List Str) (defScope sare_frozen) := ⟨rfl, rfl, rfl, by decide +kernel, rfl, by decide +kernel, by decide +kernel⟩
theorem okare_frozen {f : Addr} {fd : FuncData} (T : Txt K mg) (Fn : Fun K "are_frozen" "are_frozen" sare_frozen f fd) (Gis_number : GFn P w K mg base "is_number" 1 (["part", "low", "high"] : List Str) (spD K 3 p_is_number)) : FnOk P w K mg base (L2.CX P w) 2 f fd (["frozen", "many"] : List Str) (spD K 2 p_are_frozen) :=
  okD (k := 1) Fn scare_frozen 2 rfl 5 rfl fun cdv A outer s H E hr => by
    have tk : Takes (cxOf (L2.CX P w) P w K mg base (["frozen", "many", "cell", "one", "other"] : List Str) "are_frozen" (defScope sare_frozen) f cdv A outer s H E) (fun c d _ H => E c d H) := takes_of rfl rfl rfl rfl
    have u4 := hr.units
    have u5 := u65 hr
    exact ds_cons (ds_if (PW.pt (dw_or (dt_not (dt_val (dx_isi "tuple" (by rfl) T.isinstance (by rfl) T.ttuple bt_tuple (dx_var 0)))) (dw_or1 (dt_not (dt_val (dx_callB (cr_all rfl) vr_all nx_all (by rfl) T.all bt_all (da_cons (dx_frz (ox_comp (own := [(("cell" : Str), 2)]) (is := [2]) rfl scare_frozen.nd (di_val (dx_var 0)) (blkOk_by (N := (["frozen", "many", "cell", "one", "other"] : List Str)) (sc := defScope sare_frozen) (by decide +kernel)) (fun _ _ _ _ _ => dg_name (i := 2) scare_frozen.nd rfl (by first | exact Or.inl rfl | exact Or.inr rfl)) (fun _ _ _ _ _ => dt_nil) (fun _ _ _ _ _ => dx_callG Gis_number hr (by decide) takesF (by rfl) (da_cons (dx_var 2) (da_cons (dx_int) (da_cons (x_sub (dx_var 1) (dx_int)) (da_nil)))) (len_cons (len_cons (len_cons len0)))))) (da_nil)))))))) (ds_one (ds_ret (dx_bl))) (ds_nil)) (ds_one (ds_ret (dx_callB (cr_all rfl) vr_all nx_all (by rfl) T.all bt_all (da_cons (dx_frz (ox_comp (own := [(("one" : Str), 3), (("other" : Str), 4)]) (is := [3, 4]) rfl scare_frozen.nd (di_zip (by rfl) T.zip (da_cons (dx_var 0) (da_cons (dx_slice (dx_var 0) (dp_some (dx_int)) (dp_none)) (da_nil))) (len_cons (len_cons len0))) (blkOk_by (N := (["frozen", "many", "cell", "one", "other"] : List Str)) (sc := defScope sare_frozen) (by decide +kernel)) (fun _ _ _ _ _ => dg_tup rfl (dgs_cons (i := 3) scare_frozen.nd rfl (by first | exact Or.inl rfl | exact Or.inr rfl) (dgs_cons (i := 4) scare_frozen.nd rfl (by first | exact Or.inl rfl | exact Or.inr rfl) (dgs_nil)))) (fun _ _ _ _ _ => dt_nil) (fun _ _ _ _ _ => x_lt (dx_var 3) (dx_var 4)))) (da_nil)))))

abbrev sare_weights : Stmt := top 14
theorem scare_weights : FnScope (["weights", "weight"] : List Str) (["weights"] : List Str) (defScope sare_weights) := ⟨rfl, rfl, rfl, by decide +kernel, rfl, by decide +kernel, by decide +kernel⟩
theorem okare_weights {f : Addr} {fd : FuncData} (T : Txt K mg) (Fn : Fun K "are_weights" "are_weights" sare_weights f fd) (Gis_number : GFn P w K mg base "is_number" 1 (["part", "low", "high"] : List Str) (spD K 3 p_is_number)) : FnOk P w K mg base (L2.CX P w) 2 f fd (["weights"] : List Str) (spD K 1 p_are_weights) :=
  okD (k := 1) Fn scare_weights 1 rfl 2 rfl fun cdv A outer s H E hr => by
    have tk : Takes (cxOf (L2.CX P w) P w K mg base (["weights", "weight"] : List Str) "are_weights" (defScope sare_weights) f cdv A outer s H E) (fun c d _ H => E c d H) := takes_of rfl rfl rfl rfl
    have u4 := hr.units
    have u5 := u65 hr
    exact ds_cons (ds_if (PW.pt (dw_or (dt_not (dt_val (dx_isi "tuple" (by rfl) T.isinstance (by rfl) T.ttuple bt_tuple (dx_var 0)))) (dw_or1 (t_ne u4 (dx_callB call_len vr_len nx_len (by rfl) T.len bt_len (da_cons (dx_var 0) (da_nil))) (dx_callB call_len vr_len nx_len (by rfl) T.len bt_len (da_cons (dx_gtup (by rfl) T.PAIRS) (da_nil))))))) (ds_one (ds_ret (dx_bl))) (ds_nil)) (ds_one (ds_ret (dx_callB (cr_all rfl) vr_all nx_all (by rfl) T.all bt_all (da_cons (dx_frz (ox_comp (own := [(("weight" : Str), 1)]) (is := [1]) rfl scare_weights.nd (di_val (dx_var 0)) (blkOk_by (N := (["weights", "weight"] : List Str)) (sc := defScope sare_weights) (by decide +kernel)) (fun _ _ _ _ _ => dg_name (i := 1) scare_weights.nd rfl (by first | exact Or.inl rfl | exact Or.inr rfl)) (fun _ _ _ _ _ => dt_nil) (fun _ _ _ _ _ => dx_callG Gis_number hr (by decide) takesF (by rfl) (da_cons (dx_var 1) (da_cons (dx_int) (da_cons (dx_gint (by rfl) T.MOST_WEIGHT) (da_nil)))) (len_cons (len_cons (len_cons len0)))))) (da_nil)))))

abbrev sneed_plan : Stmt := top 15
theorem scneed_plan : FnScope (["plan", "is_round", "many", "frozen", "weights"] : List Str) (["plan"] : List Str) (defScope sneed_plan) := ⟨rfl, rfl, rfl, by decide +kernel, rfl, by decide +kernel, by decide +kernel⟩
theorem okneed_plan {f : Addr} {fd : FuncData} (T : Txt K mg) (Fn : Fun K "need_plan" "need_plan" sneed_plan f fd) (Gare_frozen : GFn P w K mg base "are_frozen" 2 (["frozen", "many"] : List Str) (spD K 2 p_are_frozen)) (Gare_weights : GFn P w K mg base "are_weights" 2 (["weights"] : List Str) (spD K 1 p_are_weights)) (Gis_number : GFn P w K mg base "is_number" 1 (["part", "low", "high"] : List Str) (spD K 3 p_is_number)) : FnOk P w K mg base (L2.CX P w) 3 f fd (["plan"] : List Str) (spD K 1 p_need_plan) :=
  okD (k := 2) Fn scneed_plan 1 rfl 5 rfl fun cdv A outer s H E hr => by
    have tk : Takes (cxOf (L2.CX P w) P w K mg base (["plan", "is_round", "many", "frozen", "weights"] : List Str) "need_plan" (defScope sneed_plan) f cdv A outer s H E) (fun c d _ H => E c d H) := takes_of rfl rfl rfl rfl
    have u4 := hr.units
    have u5 := u65 hr
    exact ds_cons (ds_if (PW.pt (dw_or (dt_not (dt_val (dx_isi "tuple" (by rfl) T.isinstance (by rfl) T.ttuple bt_tuple (dx_var 0)))) (dw_or1 (t_ne u4 (dx_callB call_len vr_len nx_len (by rfl) T.len bt_len (da_cons (dx_var 0) (da_nil))) (dx_int))))) (ds_one (ds_never)) (ds_nil)) (ds_cons (ds_to (is := [1, 2, 3, 4]) (dg_tup rfl (dgs_cons (i := 1) scneed_plan.nd rfl (by first | exact Or.inl rfl | exact Or.inr rfl) (dgs_cons (i := 2) scneed_plan.nd rfl (by first | exact Or.inl rfl | exact Or.inr rfl) (dgs_cons (i := 3) scneed_plan.nd rfl (by first | exact Or.inl rfl | exact Or.inr rfl) (dgs_cons (i := 4) scneed_plan.nd rfl (by first | exact Or.inl rfl | exact Or.inr rfl) (dgs_nil)))))) (dx_var 0)) (ds_cons (ds_if (dt_not (dt_val (dx_isi "bool" (by rfl) T.isinstance (by rfl) T.tbool bt_bool (dx_var 1)))) (ds_one (ds_never)) (ds_nil)) (ds_cons (ds_if (dt_not (dt_val (dx_callG Gis_number hr (by decide) tk (by rfl) (da_cons (dx_var 2) (da_cons (dx_gint (by rfl) T.LEAST_CELLS) (da_cons (dx_gint (by rfl) T.MOST_CELLS) (da_nil)))) (len_cons (len_cons (len_cons len0)))))) (ds_one (ds_never)) (ds_nil)) (ds_cons (ds_if (dt_not (dt_val (dx_callG Gare_frozen hr (by decide) tk (by rfl) (da_cons (dx_var 3) (da_cons (dx_var 2) (da_nil))) (len_cons (len_cons len0))))) (ds_one (ds_never)) (ds_nil)) (ds_one (ds_if (dt_not (dt_val (dx_callG Gare_weights hr (by decide) tk (by rfl) (da_cons (dx_var 4) (da_nil)) (len_cons len0)))) (ds_one (ds_never)) (ds_nil)))))))

abbrev sneed_cells : Stmt := top 16
theorem scneed_cells : FnScope (["plan", "cells", "sign"] : List Str) (["plan", "cells"] : List Str) (defScope sneed_cells) := ⟨rfl, rfl, rfl, by decide +kernel, rfl, by decide +kernel, by decide +kernel⟩
theorem okneed_cells {f : Addr} {fd : FuncData} (T : Txt K mg) (Fn : Fun K "need_cells" "need_cells" sneed_cells f fd)  : FnOk P w K mg base (L2.CX P w) 1 f fd (["plan", "cells"] : List Str) (spD K 2 p_need_cells) :=
  okD (k := 0) Fn scneed_cells 2 rfl 3 rfl fun cdv A outer s H E hr => by
    have tk : Takes (cxOf (L2.CX P w) P w K mg base (["plan", "cells", "sign"] : List Str) "need_cells" (defScope sneed_cells) f cdv A outer s H E) (fun c d _ H => E c d H) := takes_of rfl rfl rfl rfl
    have u4 := hr.units
    have u5 := u65 hr
    exact ds_one (ds_if (PW.pt (dw_or (dt_not (dt_val (dx_isi "str" (by rfl) T.isinstance (by rfl) T.tstr bt_str (dx_var 1)))) (dw_or (t_ne u4 (dx_callB call_len vr_len nx_len (by rfl) T.len bt_len (da_cons (dx_var 1) (da_nil))) (dx_ix (dx_var 0) (dx_int) (fun _ _ => rfl))) (dw_or1 (dt_not (dt_val (dx_callB (cr_all rfl) vr_all nx_all (by rfl) T.all bt_all (da_cons (dx_frz (ox_comp (own := [(("sign" : Str), 2)]) (is := [2]) rfl scneed_cells.nd (di_val (dx_var 1)) (blkOk_by (N := (["plan", "cells", "sign"] : List Str)) (sc := defScope sneed_cells) (by decide +kernel)) (fun _ _ _ _ _ => dg_name (i := 2) scneed_cells.nd rfl (by first | exact Or.inl rfl | exact Or.inr rfl)) (fun _ _ _ _ _ => dt_nil) (fun _ _ _ _ _ => x_in u5 (dx_var 2) (dx_gstr (by rfl) T.SIGNS)))) (da_nil))))))))) (ds_one (ds_never)) (ds_nil))

abbrev sneed_both : Stmt := top 17
theorem scneed_both : FnScope (["plan", "one", "other"] : List Str) (["plan", "one", "other"] : List Str) (defScope sneed_both) := ⟨rfl, rfl, rfl, by decide +kernel, rfl, by decide +kernel, by decide +kernel⟩
theorem okneed_both {f : Addr} {fd : FuncData} (T : Txt K mg) (Fn : Fun K "need_both" "need_both" sneed_both f fd) (Gneed_cells : GFn P w K mg base "need_cells" 1 (["plan", "cells"] : List Str) (spD K 2 p_need_cells)) (Gneed_plan : GFn P w K mg base "need_plan" 3 (["plan"] : List Str) (spD K 1 p_need_plan)) : FnOk P w K mg base (L2.CX P w) 4 f fd (["plan", "one", "other"] : List Str) (spD K 3 p_need_both) :=
  okD (k := 3) Fn scneed_both 3 rfl 3 rfl fun cdv A outer s H E hr => by
    have tk : Takes (cxOf (L2.CX P w) P w K mg base (["plan", "one", "other"] : List Str) "need_both" (defScope sneed_both) f cdv A outer s H E) (fun c d _ H => E c d H) := takes_of rfl rfl rfl rfl
    have u4 := hr.units
    have u5 := u65 hr
    exact ds_cons (ds_expr (dx_callG Gneed_plan hr (by decide) tk (by rfl) (da_cons (dx_var 0) (da_nil)) (len_cons len0))) (ds_cons (ds_expr (dx_callG Gneed_cells hr (by decide) tk (by rfl) (da_cons (dx_var 0) (da_cons (dx_var 1) (da_nil))) (len_cons (len_cons len0)))) (ds_one (ds_expr (dx_callG Gneed_cells hr (by decide) tk (by rfl) (da_cons (dx_var 0) (da_cons (dx_var 2) (da_nil))) (len_cons (len_cons len0))))))

abbrev sweight_of : Stmt := top 18
theorem scweight_of : FnScope (["plan", "one", "other"] : List Str) (["plan", "one", "other"] : List Str) (defScope sweight_of) := ⟨rfl, rfl, rfl, by decide +kernel, rfl, by decide +kernel, by decide +kernel⟩
theorem okweight_of {f : Addr} {fd : FuncData} (T : Txt K mg) (Fn : Fun K "weight_of" "weight_of" sweight_of f fd)  : FnOk P w K mg base (L2.CX P w) 1 f fd (["plan", "one", "other"] : List Str) (spD K 3 p_weight_of) :=
  okD (k := 0) Fn scweight_of 3 rfl 3 rfl fun cdv A outer s H E hr => by
    have tk : Takes (cxOf (L2.CX P w) P w K mg base (["plan", "one", "other"] : List Str) "weight_of" (defScope sweight_of) f cdv A outer s H E) (fun c d _ H => E c d H) := takes_of rfl rfl rfl rfl
    have u4 := hr.units
    have u5 := u65 hr
    exact ds_one (ds_ret (dx_ix (dx_ix (dx_var 0) (dx_int) (fun _ _ => rfl)) (dx_gtupIx (by rfl) T.PAIRS (x_add (dx_callB (cr_min2 rfl) vr_min2 nx_min2 (by rfl) T.bmin bt_min (da_cons (dx_var 1) (da_cons (dx_var 2) (da_nil)))) (dx_callB (cr_max2 rfl) vr_max2 nx_max2 (by rfl) T.bmax bt_max (da_cons (dx_var 1) (da_cons (dx_var 2) (da_nil)))))) (fun _ _ => rfl)))

abbrev sbeside : Stmt := top 19
theorem scbeside : FnScope (["plan", "cells", "cell", "is_round", "many", "frozen", "weights"] : List Str) (["plan", "cells", "cell"] : List Str) (defScope sbeside) := ⟨rfl, rfl, rfl, by decide +kernel, rfl, by decide +kernel, by decide +kernel⟩
theorem okbeside {f : Addr} {fd : FuncData} (T : Txt K mg) (Fn : Fun K "beside" "beside" sbeside f fd)  : FnOk P w K mg base (L2.CX P w) 1 f fd (["plan", "cells", "cell"] : List Str) (spD K 3 p_beside) :=
  okD (k := 0) Fn scbeside 3 rfl 7 rfl fun cdv A outer s H E hr => by
    have tk : Takes (cxOf (L2.CX P w) P w K mg base (["plan", "cells", "cell", "is_round", "many", "frozen", "weights"] : List Str) "beside" (defScope sbeside) f cdv A outer s H E) (fun c d _ H => E c d H) := takes_of rfl rfl rfl rfl
    have u4 := hr.units
    have u5 := u65 hr
    exact ds_cons (ds_to (is := [3, 4, 5, 6]) (dg_tup rfl (dgs_cons (i := 3) scbeside.nd rfl (by first | exact Or.inl rfl | exact Or.inr rfl) (dgs_cons (i := 4) scbeside.nd rfl (by first | exact Or.inl rfl | exact Or.inr rfl) (dgs_cons (i := 5) scbeside.nd rfl (by first | exact Or.inl rfl | exact Or.inr rfl) (dgs_cons (i := 6) scbeside.nd rfl (by first | exact Or.inl rfl | exact Or.inr rfl) (dgs_nil)))))) (dx_var 0)) (ds_cons (ds_if (PW.pt (dw_and (dt_not (dt_val (dx_var 3))) (dw_and1 (t_in u5 (dx_var 2) (dx_tup (da_cons (dx_int) (da_cons (x_sub (dx_var 4) (dx_int)) (da_nil)))))))) (ds_one (ds_ret (dx_non))) (ds_nil)) (ds_one (ds_ret (dx_tup (da_cons (dx_ix (dx_var 1) (x_sub (dx_var 2) (dx_int)) (fun _ _ => rfl)) (da_cons (dx_ix (dx_var 1) (x_mod (x_add (dx_var 2) (dx_int)) (dx_var 4)) (fun _ _ => rfl)) (da_nil)))))))

abbrev sturned : Stmt := top 20
theorem scturned : FnScope (["plan", "cells", "cell", "pair"] : List Str) (["plan", "cells", "cell"] : List Str) (defScope sturned) := ⟨rfl, rfl, rfl, by decide +kernel, rfl, by decide +kernel, by decide +kernel⟩
theorem okturned {f : Addr} {fd : FuncData} (T : Txt K mg) (Fn : Fun K "turned" "turned" sturned f fd) (Gbeside : GFn P w K mg base "beside" 1 (["plan", "cells", "cell"] : List Str) (spD K 3 p_beside)) : FnOk P w K mg base (L2.CX P w) 2 f fd (["plan", "cells", "cell"] : List Str) (spD K 3 p_turned) :=
  okD (k := 1) Fn scturned 3 rfl 4 rfl fun cdv A outer s H E hr => by
    have tk : Takes (cxOf (L2.CX P w) P w K mg base (["plan", "cells", "cell", "pair"] : List Str) "turned" (defScope sturned) f cdv A outer s H E) (fun c d _ H => E c d H) := takes_of rfl rfl rfl rfl
    have u4 := hr.units
    have u5 := u65 hr
    exact ds_cons (ds_set (i := 3) scturned.nd rfl (by first | exact Or.inl rfl | exact Or.inr rfl) (dx_callG Gbeside hr (by decide) tk (by rfl) (da_cons (dx_var 0) (da_cons (dx_var 1) (da_cons (dx_var 2) (da_nil)))) (len_cons (len_cons (len_cons len0))))) (ds_cons (ds_if (PW.pt (dw_or (t_in u5 (dx_var 2) (dx_ix (dx_var 0) (dx_int) (fun _ _ => rfl))) (dw_or (t_isN (dx_var 3) (dx_non)) (dw_or (t_eq u4 (dx_ix (dx_var 3) (dx_int) (fun _ _ => rfl)) (dx_ix (dx_var 3) (dx_int) (fun _ _ => rfl))) (dw_or1 (t_notIn u5 (dx_ix (dx_var 1) (dx_var 2) (fun _ _ => rfl)) (dx_var 3))))))) (ds_one (ds_ret (dx_non))) (ds_nil)) (ds_one (ds_ret (dx_if (t_eq u4 (dx_ix (dx_var 1) (dx_var 2) (fun _ _ => rfl)) (dx_ix (dx_var 3) (dx_int) (fun _ _ => rfl))) (dx_ix (dx_var 3) (dx_int) (fun _ _ => rfl)) (dx_ix (dx_var 3) (dx_int) (fun _ _ => rfl))))))

abbrev swith_sign : Stmt := top 21
theorem scwith_sign : FnScope (["cells", "cell", "sign"] : List Str) (["cells", "cell", "sign"] : List Str) (defScope swith_sign) := ⟨rfl, rfl, rfl, by decide +kernel, rfl, by decide +kernel, by decide +kernel⟩
theorem okwith_sign {f : Addr} {fd : FuncData} (T : Txt K mg) (Fn : Fun K "with_sign" "with_sign" swith_sign f fd)  : FnOk P w K mg base (L2.CX P w) 1 f fd (["cells", "cell", "sign"] : List Str) (spD K 3 p_with_sign) :=
  okD (k := 0) Fn scwith_sign 3 rfl 3 rfl fun cdv A outer s H E hr => by
    have tk : Takes (cxOf (L2.CX P w) P w K mg base (["cells", "cell", "sign"] : List Str) "with_sign" (defScope swith_sign) f cdv A outer s H E) (fun c d _ H => E c d H) := takes_of rfl rfl rfl rfl
    have u4 := hr.units
    have u5 := u65 hr
    exact ds_one (ds_ret (x_add (x_add (dx_slice (dx_var 0) (dp_none) (dp_some (dx_var 1))) (dx_var 2)) (dx_slice (dx_var 0) (dp_some (x_add (dx_var 1) (dx_int))) (dp_none))))

abbrev sturns_of : Stmt := top 22
theorem scturns_of : FnScope (["plan", "cells", "found", "cell", "sign"] : List Str) (["plan", "cells"] : List Str) (defScope sturns_of) := ⟨rfl, rfl, rfl, by decide +kernel, rfl, by decide +kernel, by decide +kernel⟩
theorem okturns_of {f : Addr} {fd : FuncData} (T : Txt K mg) (Fn : Fun K "turns_of" "turns_of" sturns_of f fd) (Gturned : GFn P w K mg base "turned" 2 (["plan", "cells", "cell"] : List Str) (spD K 3 p_turned)) (Gweight_of : GFn P w K mg base "weight_of" 1 (["plan", "one", "other"] : List Str) (spD K 3 p_weight_of)) (Gwith_sign : GFn P w K mg base "with_sign" 1 (["cells", "cell", "sign"] : List Str) (spD K 3 p_with_sign)) : FnOk P w K mg base (L2.CX P w) 3 f fd (["plan", "cells"] : List Str) (spD K 2 p_turns_of) :=
  okD (k := 2) Fn scturns_of 2 rfl 5 rfl fun cdv A outer s H E hr => by
    have tk : Takes (cxOf (L2.CX P w) P w K mg base (["plan", "cells", "found", "cell", "sign"] : List Str) "turns_of" (defScope sturns_of) f cdv A outer s H E) (fun c d _ H => E c d H) := takes_of rfl rfl rfl rfl
    have u4 := hr.units
    have u5 := u65 hr
    exact ds_cons (ds_setO (i := 2) scturns_of.nd rfl (by first | exact Or.inl rfl | exact Or.inr rfl) (ox_lst (da_nil))) (ds_cons (ds_for (passes_of rfl) rfl (di_range1 (by rfl) T.range (da_cons (dx_ix (dx_var 0) (dx_int) (fun _ _ => rfl)) (da_nil)) (len_cons len0)) (dg_name (i := 3) scturns_of.nd rfl (by first | exact Or.inl rfl | exact Or.inr rfl)) (ds_cons (ds_set (i := 4) scturns_of.nd rfl (by first | exact Or.inl rfl | exact Or.inr rfl) (dx_callG Gturned hr (by decide) tk (by rfl) (da_cons (dx_var 0) (da_cons (dx_var 1) (da_cons (dx_var 3) (da_nil)))) (len_cons (len_cons (len_cons len0))))) (ds_one (ds_if (t_notN (dx_var 4) (dx_non)) (ds_one (ds_append 2 (dx_tup (da_cons (dx_var 3) (da_cons (dx_callG Gwith_sign hr (by decide) tk (by rfl) (da_cons (dx_var 1) (da_cons (dx_var 3) (da_cons (dx_var 4) (da_nil)))) (len_cons (len_cons (len_cons len0)))) (da_cons (dx_callG Gweight_of hr (by decide) tk (by rfl) (da_cons (dx_var 0) (da_cons (dx_ix (dx_var 1) (dx_var 3) (fun _ _ => rfl)) (da_cons (dx_var 4) (da_nil)))) (len_cons (len_cons (len_cons len0)))) (da_nil))))))) (ds_nil))))) (ds_one (ds_ret (dx_var 2))))

abbrev splaces_of : Stmt := top 24
theorem scplaces_of : FnScope (["plan", "cells", "is_round", "many", "frozen", "weights", "last", "place"] : List Str) (["plan", "cells"] : List Str) (defScope splaces_of) := ⟨rfl, rfl, rfl, by decide +kernel, rfl, by decide +kernel, by decide +kernel⟩
theorem okplaces_of {f : Addr} {fd : FuncData} (T : Txt K mg) (Fn : Fun K "places_of" "places_of" splaces_of f fd)  : FnOk P w K mg base (L2.CX P w) 1 f fd (["plan", "cells"] : List Str) (spD K 2 p_places_of) :=
  okD (k := 0) Fn scplaces_of 2 rfl 8 rfl fun cdv A outer s H E hr => by
    have tk : Takes (cxOf (L2.CX P w) P w K mg base (["plan", "cells", "is_round", "many", "frozen", "weights", "last", "place"] : List Str) "places_of" (defScope splaces_of) f cdv A outer s H E) (fun c d _ H => E c d H) := takes_of rfl rfl rfl rfl
    have u4 := hr.units
    have u5 := u65 hr
    exact ds_cons (ds_to (is := [2, 3, 4, 5]) (dg_tup rfl (dgs_cons (i := 2) scplaces_of.nd rfl (by first | exact Or.inl rfl | exact Or.inr rfl) (dgs_cons (i := 3) scplaces_of.nd rfl (by first | exact Or.inl rfl | exact Or.inr rfl) (dgs_cons (i := 4) scplaces_of.nd rfl (by first | exact Or.inl rfl | exact Or.inr rfl) (dgs_cons (i := 5) scplaces_of.nd rfl (by first | exact Or.inl rfl | exact Or.inr rfl) (dgs_nil)))))) (dx_var 0)) (ds_cons (ds_set (i := 6) scplaces_of.nd rfl (by first | exact Or.inl rfl | exact Or.inr rfl) (dx_if (dt_val (dx_var 2)) (dx_var 3) (x_sub (dx_var 3) (dx_int)))) (ds_one (ds_ret (dx_frz (ox_comp (own := [(("place" : Str), 7)]) (is := [7]) rfl scplaces_of.nd (di_range1 (by rfl) T.range (da_cons (dx_var 6) (da_nil)) (len_cons len0)) (blkOk_by (N := (["plan", "cells", "is_round", "many", "frozen", "weights", "last", "place"] : List Str)) (sc := defScope splaces_of) (by decide +kernel)) (fun _ _ _ _ _ => dg_name (i := 7) scplaces_of.nd rfl (by first | exact Or.inl rfl | exact Or.inr rfl)) (fun _ _ _ _ _ => dt_one (t_ne u4 (dx_ix (dx_var 1) (dx_var 7) (fun _ _ => rfl)) (dx_ix (dx_var 1) (x_mod (x_add (dx_var 7) (dx_int)) (dx_var 3)) (fun _ _ => rfl)))) (fun _ _ _ _ _ => dx_var 7))))))

abbrev sunrolled : Stmt := top 25
theorem scunrolled : FnScope (["plan", "cells", "first"] : List Str) (["plan", "cells"] : List Str) (defScope sunrolled) := ⟨rfl, rfl, rfl, by decide +kernel, rfl, by decide +kernel, by decide +kernel⟩
theorem okunrolled {f : Addr} {fd : FuncData} (T : Txt K mg) (Fn : Fun K "unrolled" "unrolled" sunrolled f fd)  : FnOk P w K mg base (L2.CX P w) 1 f fd (["plan", "cells"] : List Str) (spD K 2 p_unrolled) :=
  okD (k := 0) Fn scunrolled 2 rfl 3 rfl fun cdv A outer s H E hr => by
    have tk : Takes (cxOf (L2.CX P w) P w K mg base (["plan", "cells", "first"] : List Str) "unrolled" (defScope sunrolled) f cdv A outer s H E) (fun c d _ H => E c d H) := takes_of rfl rfl rfl rfl
    have u4 := hr.units
    have u5 := u65 hr
    exact ds_cons (ds_set (i := 2) scunrolled.nd rfl (by first | exact Or.inl rfl | exact Or.inr rfl) (dx_ix (dx_ix (dx_var 0) (dx_int) (fun _ _ => rfl)) (dx_int) (fun _ _ => rfl))) (ds_one (ds_ret (x_add (dx_slice (dx_var 1) (dp_some (dx_var 2)) (dp_none)) (dx_slice (dx_var 1) (dp_none) (dp_some (x_add (dx_var 2) (dx_int)))))))

abbrev sopened : Stmt := top 26
theorem scopened : FnScope (["plan", "is_round", "many", "frozen", "weights", "rest", "cell"] : List Str) (["plan"] : List Str) (defScope sopened) := ⟨rfl, rfl, rfl, by decide +kernel, rfl, by decide +kernel, by decide +kernel⟩
theorem okopened {f : Addr} {fd : FuncData} (T : Txt K mg) (Fn : Fun K "opened" "opened" sopened f fd)  : FnOk P w K mg base (L2.CX P w) 1 f fd (["plan"] : List Str) (spD K 1 p_opened) :=
  okD (k := 0) Fn scopened 1 rfl 7 rfl fun cdv A outer s H E hr => by
    have tk : Takes (cxOf (L2.CX P w) P w K mg base (["plan", "is_round", "many", "frozen", "weights", "rest", "cell"] : List Str) "opened" (defScope sopened) f cdv A outer s H E) (fun c d _ H => E c d H) := takes_of rfl rfl rfl rfl
    have u4 := hr.units
    have u5 := u65 hr
    exact ds_cons (ds_to (is := [1, 2, 3, 4]) (dg_tup rfl (dgs_cons (i := 1) scopened.nd rfl (by first | exact Or.inl rfl | exact Or.inr rfl) (dgs_cons (i := 2) scopened.nd rfl (by first | exact Or.inl rfl | exact Or.inr rfl) (dgs_cons (i := 3) scopened.nd rfl (by first | exact Or.inl rfl | exact Or.inr rfl) (dgs_cons (i := 4) scopened.nd rfl (by first | exact Or.inl rfl | exact Or.inr rfl) (dgs_nil)))))) (dx_var 0)) (ds_cons (ds_setC (i := 5) (own := [(("cell" : Str), 6)]) (is := [6]) rfl scopened.nd rfl rfl (sw_true rfl rfl rfl (by decide +kernel)) (di_val (dx_var 3)) (blkOk_by (N := (["plan", "is_round", "many", "frozen", "weights", "rest", "cell"] : List Str)) (sc := defScope sopened) (by decide +kernel)) (fun _ _ _ _ _ => dg_name (i := 6) scopened.nd rfl (by first | exact Or.inl rfl | exact Or.inr rfl)) (fun _ _ _ _ _ => dt_nil) (fun _ _ _ _ _ => x_mod (x_sub (dx_var 6) (dx_ix (dx_var 3) (dx_int) (fun _ _ => rfl))) (dx_var 2))) (ds_one (ds_ret (dx_tup (da_cons (dx_bl) (da_cons (x_add (dx_var 2) (dx_int)) (da_cons (dx_callTy call_tuple_of vr_tuple nx_tuple (by rfl) T.ttuple bt_tuple (da_cons (dx_callB cr_sortedI vr_sortedI nx_sortedI (by rfl) T.sorted bt_sorted (da_cons (dx_var 5) (da_nil))) (da_nil))) (da_cons (dx_var 4) (da_nil)))))))))

abbrev sMatch___init__ : Stmt := inClass (top 28) 0
theorem scMatch___init__ : FnScope (["self", "rows", "counts", "shift"] : List Str) (["self", "rows", "counts", "shift"] : List Str) (defScope sMatch___init__) := ⟨rfl, rfl, rfl, by decide +kernel, rfl, by decide +kernel, by decide +kernel⟩
theorem okMatch___init__ {f : Addr} {fd : FuncData} (T : Txt K mg) (Fn : FunD K "__init__" "Match.__init__" (defArgs sMatch___init__) (defBody sMatch___init__) (defScope sMatch___init__) [] [] f fd)  : FnOk P w K mg base (L2.CX P w) 1 f fd (["self", "rows", "counts", "shift"] : List Str) (spI K 3 "Match" p_Match___init__) :=
  okI (k := 0) Fn scMatch___init__ 3 rfl 4 rfl fun cdv A outer s H E hr => by
    have tk : Takes (cxOf (L2.CX P w) P w K mg base (["self", "rows", "counts", "shift"] : List Str) "Match.__init__" (defScope sMatch___init__) f cdv A outer s H E) (fun c d _ H => E c d H) := takes_of rfl rfl rfl rfl
    have u4 := hr.units
    have u5 := u65 hr
    exact ds_cons (ds_setF ("Match" : Str) 0 T.cls_Match T.na_Match_rows (dx_var 1)) (ds_cons (ds_setF ("Match" : Str) 0 T.cls_Match T.na_Match_counts (dx_var 2)) (ds_one (ds_setF ("Match" : Str) 0 T.cls_Match T.na_Match_shift (dx_var 3))))

abbrev sbetween : Stmt := top 30
theorem scbetween : FnScope (["row", "cell", "weight", "place", "goal"] : List Str) (["row", "cell"] : List Str) (defScope sbetween) := ⟨rfl, rfl, rfl, by decide +kernel, rfl, by decide +kernel, by decide +kernel⟩
theorem okbetween {f : Addr} {fd : FuncData} (T : Txt K mg) (Fn : Fun K "between" "between" sbetween f fd)  : FnOk P w K mg base (L2.CX P w) 1 f fd (["row", "cell"] : List Str) (spD K 2 p_between) :=
  okD (k := 0) Fn scbetween 2 rfl 5 rfl fun cdv A outer s H E hr => by
    have tk : Takes (cxOf (L2.CX P w) P w K mg base (["row", "cell", "weight", "place", "goal"] : List Str) "between" (defScope sbetween) f cdv A outer s H E) (fun c d _ H => E c d H) := takes_of rfl rfl rfl rfl
    have u4 := hr.units
    have u5 := u65 hr
    exact ds_cons (ds_to (is := [2, 3, 4]) (dg_tup rfl (dgs_cons (i := 2) scbetween.nd rfl (by first | exact Or.inl rfl | exact Or.inr rfl) (dgs_cons (i := 3) scbetween.nd rfl (by first | exact Or.inl rfl | exact Or.inr rfl) (dgs_cons (i := 4) scbetween.nd rfl (by first | exact Or.inl rfl | exact Or.inr rfl) (dgs_nil))))) (dx_var 0)) (ds_one (ds_ret (x_sub (dx_callTy call_int1 vr_int nx_int (by rfl) T.tint bt_int (da_cons (x_le (dx_var 4) (dx_var 1)) (da_nil))) (dx_callTy call_int1 vr_int nx_int (by rfl) T.tint bt_int (da_cons (x_le (dx_var 3) (dx_var 1)) (da_nil))))))

abbrev srow_match : Stmt := top 29
theorem scrow_match : FnScope (["plan", "one", "other", "starts", "goals", "place", "cell", "rows", "goal", "row"] : List Str) (["plan", "one", "other"] : List Str) (defScope srow_match) := ⟨rfl, rfl, rfl, by decide +kernel, rfl, by decide +kernel, by decide +kernel⟩
theorem okrow_match {f : Addr} {fd : FuncData} (T : Txt K mg) (Fn : Fun K "row_match" "row_match" srow_match f fd) (GMatch___init__ : GMk P w K mg base "Match" 1 (["self", "rows", "counts", "shift"] : List Str) (spI K 3 "Match" p_Match___init__)) (Gbetween : GFn P w K mg base "between" 1 (["row", "cell"] : List Str) (spD K 2 p_between)) (Gplaces_of : GFn P w K mg base "places_of" 1 (["plan", "cells"] : List Str) (spD K 2 p_places_of)) (Gweight_of : GFn P w K mg base "weight_of" 1 (["plan", "one", "other"] : List Str) (spD K 3 p_weight_of)) : FnOk P w K mg base (L2.CX P w) 3 f fd (["plan", "one", "other"] : List Str) (spD K 3 p_row_match) :=
  okD (k := 2) Fn scrow_match 3 rfl 10 rfl fun cdv A outer s H E hr => by
    have tk : Takes (cxOf (L2.CX P w) P w K mg base (["plan", "one", "other", "starts", "goals", "place", "cell", "rows", "goal", "row"] : List Str) "row_match" (defScope srow_match) f cdv A outer s H E) (fun c d _ H => E c d H) := takes_of rfl rfl rfl rfl
    have u4 := hr.units
    have u5 := u65 hr
    exact ds_cons (ds_par 3 4 rfl scrow_match.nd rfl rfl (by decide) rfl rfl (dx_callG Gplaces_of hr (by decide) tk (by rfl) (da_cons (dx_var 0) (da_cons (dx_var 1) (da_nil))) (len_cons (len_cons len0))) (dx_callG Gplaces_of hr (by decide) tk (by rfl) (da_cons (dx_var 0) (da_cons (dx_var 2) (da_nil))) (len_cons (len_cons len0))) (by rfl)) (ds_cons (ds_if (PW.pt (dw_or (t_ne u4 (dx_callB call_len vr_len nx_len (by rfl) T.len bt_len (da_cons (dx_var 3) (da_nil))) (dx_callB call_len vr_len nx_len (by rfl) T.len bt_len (da_cons (dx_var 4) (da_nil)))) (dw_or1 (t_ne u4 (dx_ix (dx_var 1) (dx_int) (fun _ _ => rfl)) (dx_ix (dx_var 2) (dx_int) (fun _ _ => rfl)))))) (ds_one (ds_ret (dx_non))) (ds_nil)) (ds_cons (ds_if (t_ne u4 (dx_frz (ox_comp (own := [(("place" : Str), 5)]) (is := [5]) rfl scrow_match.nd (di_val (dx_var 3)) (blkOk_by (N := (["plan", "one", "other", "starts", "goals", "place", "cell", "rows", "goal", "row"] : List Str)) (sc := defScope srow_match) (by decide +kernel)) (fun _ _ _ _ _ => dg_name (i := 5) scrow_match.nd rfl (by first | exact Or.inl rfl | exact Or.inr rfl)) (fun _ _ _ _ _ => dt_nil) (fun _ _ _ _ _ => dx_ix (dx_var 1) (x_add (dx_var 5) (dx_int)) (fun _ _ => rfl)))) (dx_frz (ox_comp (own := [(("place" : Str), 5)]) (is := [5]) rfl scrow_match.nd (di_val (dx_var 4)) (blkOk_by (N := (["plan", "one", "other", "starts", "goals", "place", "cell", "rows", "goal", "row"] : List Str)) (sc := defScope srow_match) (by decide +kernel)) (fun _ _ _ _ _ => dg_name (i := 5) scrow_match.nd rfl (by first | exact Or.inl rfl | exact Or.inr rfl)) (fun _ _ _ _ _ => dt_nil) (fun _ _ _ _ _ => dx_ix (dx_var 2) (x_add (dx_var 5) (dx_int)) (fun _ _ => rfl))))) (ds_one (ds_ret (dx_non))) (ds_nil)) (ds_cons (ds_for (passes_of rfl) rfl (di_val (dx_ix (dx_var 0) (dx_int) (fun _ _ => rfl))) (dg_name (i := 6) scrow_match.nd rfl (by first | exact Or.inl rfl | exact Or.inr rfl)) (ds_one (ds_if (t_ne u4 (dx_callB call_len vr_len nx_len (by rfl) T.len bt_len (da_cons (dx_frz (ox_comp (own := [(("place" : Str), 5)]) (is := [5]) rfl scrow_match.nd (di_val (dx_var 3)) (blkOk_by (N := (["plan", "one", "other", "starts", "goals", "place", "cell", "rows", "goal", "row"] : List Str)) (sc := defScope srow_match) (by decide +kernel)) (fun _ _ _ _ _ => dg_name (i := 5) scrow_match.nd rfl (by first | exact Or.inl rfl | exact Or.inr rfl)) (fun _ _ _ _ _ => dt_one (t_lt (dx_var 5) (dx_var 6))) (fun _ _ _ _ _ => dx_var 5))) (da_nil))) (dx_callB call_len vr_len nx_len (by rfl) T.len bt_len (da_cons (dx_frz (ox_comp (own := [(("place" : Str), 5)]) (is := [5]) rfl scrow_match.nd (di_val (dx_var 4)) (blkOk_by (N := (["plan", "one", "other", "starts", "goals", "place", "cell", "rows", "goal", "row"] : List Str)) (sc := defScope srow_match) (by decide +kernel)) (fun _ _ _ _ _ => dg_name (i := 5) scrow_match.nd rfl (by first | exact Or.inl rfl | exact Or.inr rfl)) (fun _ _ _ _ _ => dt_one (t_lt (dx_var 5) (dx_var 6))) (fun _ _ _ _ _ => dx_var 5))) (da_nil)))) (ds_one (ds_ret (dx_non))) (ds_nil)))) (ds_cons (ds_setC (i := 7) (own := [(("place" : Str), 5), (("goal" : Str), 8)]) (is := [5, 8]) rfl scrow_match.nd rfl rfl (sw_true rfl rfl rfl (by decide +kernel)) (di_zip (by rfl) T.zip (da_cons (dx_var 3) (da_cons (dx_var 4) (da_nil))) (len_cons (len_cons len0))) (blkOk_by (N := (["plan", "one", "other", "starts", "goals", "place", "cell", "rows", "goal", "row"] : List Str)) (sc := defScope srow_match) (by decide +kernel)) (fun _ _ _ _ _ => dg_tup rfl (dgs_cons (i := 5) scrow_match.nd rfl (by first | exact Or.inl rfl | exact Or.inr rfl) (dgs_cons (i := 8) scrow_match.nd rfl (by first | exact Or.inl rfl | exact Or.inr rfl) (dgs_nil)))) (fun _ _ _ _ _ => dt_nil) (fun _ _ _ _ _ => dx_tup (da_cons (dx_callG Gweight_of hr (by decide) takesF (by rfl) (da_cons (dx_var 0) (da_cons (dx_ix (dx_var 1) (dx_var 5) (fun _ _ => rfl)) (da_cons (dx_ix (dx_var 1) (x_add (dx_var 5) (dx_int)) (fun _ _ => rfl)) (da_nil)))) (len_cons (len_cons (len_cons len0)))) (da_cons (dx_var 5) (da_cons (dx_var 8) (da_nil)))))) (ds_one (ds_ret (dx_frzO (ox_make GMatch___init__ hr (by decide) tk (by rfl) (da_cons (dx_var 7) (da_cons (dx_frz (ox_comp (own := [(("row" : Str), 9)]) (is := [9]) rfl scrow_match.nd (di_val (dx_var 7)) (blkOk_by (N := (["plan", "one", "other", "starts", "goals", "place", "cell", "rows", "goal", "row"] : List Str)) (sc := defScope srow_match) (by decide +kernel)) (fun _ _ _ _ _ => dg_name (i := 9) scrow_match.nd rfl (by first | exact Or.inl rfl | exact Or.inr rfl)) (fun _ _ _ _ _ => dt_nil) (fun _ _ _ _ _ => dx_tup (da_cons (dx_ix (dx_var 9) (dx_int) (fun _ _ => rfl)) (da_cons (dx_callTy call_tuple_of vr_tuple nx_tuple (by rfl) T.ttuple bt_tuple (da_cons (dx_frz (ox_comp (own := [(("cell" : Str), 6)]) (is := [6]) rfl scrow_match.nd (di_range1 (by rfl) T.range (da_cons (dx_ix (dx_var 0) (dx_int) (fun _ _ => rfl)) (da_nil)) (len_cons len0)) (blkOk_by (N := (["plan", "one", "other", "starts", "goals", "place", "cell", "rows", "goal", "row"] : List Str)) (by kernel_rfl)) (fun _ _ _ _ _ => dg_name (i := 6) scrow_match.nd rfl (by first | exact Or.inl rfl | exact Or.inr rfl)) (fun _ _ _ _ _ => dt_nil) (fun _ _ _ _ _ => dx_callG Gbetween hr (by decide) takesF (by rfl) (da_cons (dx_var 9) (da_cons (dx_var 6) (da_nil))) (len_cons (len_cons len0))))) (da_nil))) (da_nil)))))) (da_cons (dx_int) (da_nil)))) (len_cons (len_cons (len_cons len0)))))))))))

abbrev ssigns_of : Stmt := top 31
theorem scsigns_of : FnScope (["plan", "cells", "places", "place"] : List Str) (["plan", "cells", "places"] : List Str) (defScope ssigns_of) := ⟨rfl, rfl, rfl, by decide +kernel, rfl, by decide +kernel, by decide +kernel⟩
theorem oksigns_of {f : Addr} {fd : FuncData} (T : Txt K mg) (Fn : Fun K "signs_of" "signs_of" ssigns_of f fd)  : FnOk P w K mg base (L2.CX P w) 1 f fd (["plan", "cells", "places"] : List Str) (spD K 3 p_signs_of) :=
  okD (k := 0) Fn scsigns_of 3 rfl 4 rfl fun cdv A outer s H E hr => by
    have tk : Takes (cxOf (L2.CX P w) P w K mg base (["plan", "cells", "places", "place"] : List Str) "signs_of" (defScope ssigns_of) f cdv A outer s H E) (fun c d _ H => E c d H) := takes_of rfl rfl rfl rfl
    have u4 := hr.units
    have u5 := u65 hr
    exact ds_one (ds_ret (dx_frz (ox_comp (own := [(("place" : Str), 3)]) (is := [3]) rfl scsigns_of.nd (di_val (dx_var 2)) (blkOk_by (N := (["plan", "cells", "places", "place"] : List Str)) (sc := defScope ssigns_of) (by decide +kernel)) (fun _ _ _ _ _ => dg_name (i := 3) scsigns_of.nd rfl (by first | exact Or.inl rfl | exact Or.inr rfl)) (fun _ _ _ _ _ => dt_nil) (fun _ _ _ _ _ => dx_ix (dx_var 1) (x_mod (x_add (dx_var 3) (dx_int)) (dx_ix (dx_var 0) (dx_int) (fun _ _ => rfl))) (fun _ _ => rfl)))))

abbrev speriod : Stmt := top 32
theorem scperiod : FnScope (["signs", "many"] : List Str) (["signs"] : List Str) (defScope speriod) := ⟨rfl, rfl, rfl, by decide +kernel, rfl, by decide +kernel, by decide +kernel⟩
theorem okperiod {f : Addr} {fd : FuncData} (T : Txt K mg) (Fn : Fun K "period" "period" speriod f fd)  : FnOk P w K mg base (L2.CX P w) 1 f fd (["signs"] : List Str) (spD K 1 p_period) :=
  okD (k := 0) Fn scperiod 1 rfl 2 rfl fun cdv A outer s H E hr => by
    have tk : Takes (cxOf (L2.CX P w) P w K mg base (["signs", "many"] : List Str) "period" (defScope speriod) f cdv A outer s H E) (fun c d _ H => E c d H) := takes_of rfl rfl rfl rfl
    have u4 := hr.units
    have u5 := u65 hr
    exact ds_one (ds_ret (dx_ix (dx_frz (ox_comp (own := [(("many" : Str), 1)]) (is := [1]) rfl scperiod.nd (di_range2 (by rfl) T.range (da_cons (dx_int) (da_cons (x_add (dx_callB call_len vr_len nx_len (by rfl) T.len bt_len (da_cons (dx_var 0) (da_nil))) (dx_int)) (da_nil))) (len_cons (len_cons len0))) (blkOk_by (N := (["signs", "many"] : List Str)) (sc := defScope speriod) (by decide +kernel)) (fun _ _ _ _ _ => dg_name (i := 1) scperiod.nd rfl (by first | exact Or.inl rfl | exact Or.inr rfl)) (fun _ _ _ _ _ => dt_one (t_eq u4 (x_add (dx_slice (dx_var 0) (dp_some (dx_var 1)) (dp_none)) (dx_slice (dx_var 0) (dp_none) (dp_some (dx_var 1)))) (dx_var 0))) (fun _ _ _ _ _ => dx_var 1))) (dx_int) (fun _ _ => rfl)))

abbrev sfar_place : Stmt := top 33
theorem scfar_place : FnScope (["places", "number", "many"] : List Str) (["places", "number", "many"] : List Str) (defScope sfar_place) := ⟨rfl, rfl, rfl, by decide +kernel, rfl, by decide +kernel, by decide +kernel⟩
theorem okfar_place {f : Addr} {fd : FuncData} (T : Txt K mg) (Fn : Fun K "far_place" "far_place" sfar_place f fd)  : FnOk P w K mg base (L2.CX P w) 1 f fd (["places", "number", "many"] : List Str) (spD K 3 p_far_place) :=
  okD (k := 0) Fn scfar_place 3 rfl 3 rfl fun cdv A outer s H E hr => by
    have tk : Takes (cxOf (L2.CX P w) P w K mg base (["places", "number", "many"] : List Str) "far_place" (defScope sfar_place) f cdv A outer s H E) (fun c d _ H => E c d H) := takes_of rfl rfl rfl rfl
    have u4 := hr.units
    have u5 := u65 hr
    exact ds_one (ds_ret (x_add (dx_ix (dx_var 0) (x_mod (dx_var 1) (dx_callB call_len vr_len nx_len (by rfl) T.len bt_len (da_cons (dx_var 0) (da_nil)))) (fun _ _ => rfl)) (x_mul (x_div (dx_var 1) (dx_callB call_len vr_len nx_len (by rfl) T.len bt_len (da_cons (dx_var 0) (da_nil)))) (dx_var 2))))

abbrev sRing___init__ : Stmt := inClass (top 34) 0
theorem scRing___init__ : FnScope (["self", "plan", "one", "other", "mine", "theirs", "some", "many"] : List Str) (["self", "plan", "one", "other"] : List Str) (defScope sRing___init__) := ⟨rfl, rfl, rfl, by decide +kernel, rfl, by decide +kernel, by decide +kernel⟩
theorem okRing___init__ {f : Addr} {fd : FuncData} (T : Txt K mg) (Fn : FunD K "__init__" "Ring.__init__" (defArgs sRing___init__) (defBody sRing___init__) (defScope sRing___init__) [] [] f fd) (Gperiod : GFn P w K mg base "period" 1 (["signs"] : List Str) (spD K 1 p_period)) (Gplaces_of : GFn P w K mg base "places_of" 1 (["plan", "cells"] : List Str) (spD K 2 p_places_of)) (Gsigns_of : GFn P w K mg base "signs_of" 1 (["plan", "cells", "places"] : List Str) (spD K 3 p_signs_of)) : FnOk P w K mg base (L2.CX P w) 2 f fd (["self", "plan", "one", "other"] : List Str) (spI K 3 "Ring" p_Ring___init__) :=
  okI (k := 1) Fn scRing___init__ 3 rfl 8 rfl fun cdv A outer s H E hr => by
    have tk : Takes (cxOf (L2.CX P w) P w K mg base (["self", "plan", "one", "other", "mine", "theirs", "some", "many"] : List Str) "Ring.__init__" (defScope sRing___init__) f cdv A outer s H E) (fun c d _ H => E c d H) := takes_of rfl rfl rfl rfl
    have u4 := hr.units
    have u5 := u65 hr
    exact ds_cons (ds_setF ("Ring" : Str) 0 T.cls_Ring T.na_Ring_plan (dx_var 1)) (ds_cons (ds_setF ("Ring" : Str) 0 T.cls_Ring T.na_Ring_one (dx_var 2)) (ds_cons (ds_setF ("Ring" : Str) 0 T.cls_Ring T.na_Ring_starts (dx_callG Gplaces_of hr (by decide) tk (by rfl) (da_cons (dx_var 1) (da_cons (dx_var 2) (da_nil))) (len_cons (len_cons len0)))) (ds_cons (ds_setF ("Ring" : Str) 0 T.cls_Ring T.na_Ring_goals (dx_callG Gplaces_of hr (by decide) tk (by rfl) (da_cons (dx_var 1) (da_cons (dx_var 3) (da_nil))) (len_cons (len_cons len0)))) (ds_cons (ds_to (is := [4, 5]) (dg_tup rfl (dgs_cons (i := 4) scRing___init__.nd rfl (by first | exact Or.inl rfl | exact Or.inr rfl) (dgs_cons (i := 5) scRing___init__.nd rfl (by first | exact Or.inl rfl | exact Or.inr rfl) (dgs_nil)))) (dx_tup (da_cons (dx_callG Gsigns_of hr (by decide) tk (by rfl) (da_cons (dx_var 1) (da_cons (dx_var 2) (da_cons (dx_fldO ("Ring" : Str) 0 T.cls_Ring T.na_Ring_starts) (da_nil)))) (len_cons (len_cons (len_cons len0)))) (da_cons (dx_callG Gsigns_of hr (by decide) tk (by rfl) (da_cons (dx_var 1) (da_cons (dx_var 3) (da_cons (dx_fldO ("Ring" : Str) 0 T.cls_Ring T.na_Ring_goals) (da_nil)))) (len_cons (len_cons (len_cons len0)))) (da_nil))))) (ds_cons (ds_setC (i := 6) (own := [(("many" : Str), 7)]) (is := [7]) rfl scRing___init__.nd rfl rfl (sw_true rfl rfl rfl (by decide +kernel)) (di_range1 (by rfl) T.range (da_cons (dx_callB call_len vr_len nx_len (by rfl) T.len bt_len (da_cons (dx_var 5) (da_nil))) (da_nil)) (len_cons len0)) (blkOk_by (N := (["self", "plan", "one", "other", "mine", "theirs", "some", "many"] : List Str)) (sc := defScope sRing___init__) (by decide +kernel)) (fun _ _ _ _ _ => dg_name (i := 7) scRing___init__.nd rfl (by first | exact Or.inl rfl | exact Or.inr rfl)) (fun _ _ _ _ _ => dt_one (t_eq u4 (x_add (dx_slice (dx_var 5) (dp_some (dx_var 7)) (dp_none)) (dx_slice (dx_var 5) (dp_none) (dp_some (dx_var 7)))) (dx_var 4))) (fun _ _ _ _ _ => dx_var 7)) (ds_cons (ds_setF ("Ring" : Str) 0 T.cls_Ring T.na_Ring_first (dx_if (PW.pt (dw_and (t_ne u4 (dx_var 6) (dx_frz (ox_lst (da_nil)))) (dw_and1 (t_eq u4 (dx_callB call_len vr_len nx_len (by rfl) T.len bt_len (da_cons (dx_var 4) (da_nil))) (dx_callB call_len vr_len nx_len (by rfl) T.len bt_len (da_cons (dx_var 5) (da_nil))))))) (dx_ix (dx_var 6) (dx_int) (fun _ _ => rfl)) (dx_non))) (ds_one (ds_setF ("Ring" : Str) 0 T.cls_Ring T.na_Ring_step (dx_if (t_ne u4 (dx_var 4) (dx_frz (ox_lst (da_nil)))) (dx_callG Gperiod hr (by decide) tk (by rfl) (da_cons (dx_var 4) (da_nil)) (len_cons len0)) (dx_int))))))))))

abbrev sMatch_cost : Stmt := inClass (top 28) 1
theorem scMatch_cost : FnScope (["self", "weight", "place", "goal"] : List Str) (["self"] : List Str) (defScope sMatch_cost) := ⟨rfl, rfl, rfl, by decide +kernel, rfl, by decide +kernel, by decide +kernel⟩
theorem okMatch_cost {f : Addr} {fd : FuncData} (T : Txt K mg) (Fn : FunD K "cost" "Match.cost" (defArgs sMatch_cost) (defBody sMatch_cost) (defScope sMatch_cost) [] [] f fd)  : FnOk P w K mg base (L2.CX P w) 1 f fd (["self"] : List Str) (spD K 1 p_Match_cost) :=
  okM (k := 0) Fn scMatch_cost 1 rfl 4 rfl fun cdv A outer s H E hr => by
    have tk : Takes (cxOf (L2.CX P w) P w K mg base (["self", "weight", "place", "goal"] : List Str) "Match.cost" (defScope sMatch_cost) f cdv A outer s H E) (fun c d _ H => E c d H) := takes_of rfl rfl rfl rfl
    have u4 := hr.units
    have u5 := u65 hr
    exact ds_one (ds_ret (dx_callB (cr_sum rfl) vr_sum nx_sum (by rfl) T.sum bt_sum (da_cons (dx_frz (ox_comp (own := [(("weight" : Str), 1), (("place" : Str), 2), (("goal" : Str), 3)]) (is := [1, 2, 3]) rfl scMatch_cost.nd (di_val (dx_fld ("Match" : Str) T.cls_Match T.na_Match_rows (dx_var 0))) (blkOk_by (N := (["self", "weight", "place", "goal"] : List Str)) (sc := defScope sMatch_cost) (by decide +kernel)) (fun _ _ _ _ _ => dg_tup rfl (dgs_cons (i := 1) scMatch_cost.nd rfl (by first | exact Or.inl rfl | exact Or.inr rfl) (dgs_cons (i := 2) scMatch_cost.nd rfl (by first | exact Or.inl rfl | exact Or.inr rfl) (dgs_cons (i := 3) scMatch_cost.nd rfl (by first | exact Or.inl rfl | exact Or.inr rfl) (dgs_nil))))) (fun _ _ _ _ _ => dt_nil) (fun _ _ _ _ _ => x_mul (dx_var 1) (dx_callB call_abs vr_abs nx_abs (by rfl) T.abs bt_abs (da_cons (x_sub (dx_var 3) (dx_var 2)) (da_nil)))))) (da_nil))))

abbrev sRing_by_shift : Stmt := inClass (top 34) 1
theorem scRing_by_shift : FnScope (["self", "shift", "many", "found", "number", "place", "weight"] : List Str) (["self", "shift"] : List Str) (defScope sRing_by_shift) := ⟨rfl, rfl, rfl, by decide +kernel, rfl, by decide +kernel, by decide +kernel⟩
theorem okRing_by_shift {f : Addr} {fd : FuncData} (T : Txt K mg) (Fn : FunD K "by_shift" "Ring.by_shift" (defArgs sRing_by_shift) (defBody sRing_by_shift) (defScope sRing_by_shift) [] [] f fd) (Gfar_place : GFn P w K mg base "far_place" 1 (["places", "number", "many"] : List Str) (spD K 3 p_far_place)) (Gweight_of : GFn P w K mg base "weight_of" 1 (["plan", "one", "other"] : List Str) (spD K 3 p_weight_of)) : FnOk P w K mg base (L2.CX P w) 2 f fd (["self", "shift"] : List Str) (spD K 2 p_Ring_by_shift) :=
  okM (k := 1) Fn scRing_by_shift 2 rfl 7 rfl fun cdv A outer s H E hr => by
    have tk : Takes (cxOf (L2.CX P w) P w K mg base (["self", "shift", "many", "found", "number", "place", "weight"] : List Str) "Ring.by_shift" (defScope sRing_by_shift) f cdv A outer s H E) (fun c d _ H => E c d H) := takes_of rfl rfl rfl rfl
    have u4 := hr.units
    have u5 := u65 hr
    exact ds_cons (ds_par2L 2 3 (dl_consD (dx_ix (dx_fld ("Ring" : Str) T.cls_Ring T.na_Ring_plan (dx_var 0)) (dx_int) (fun _ _ => rfl)) (dl_consO (ox_lst (da_nil)) (dl_nil))) rfl scRing_by_shift.nd rfl rfl (by decide) rfl rfl (by rfl)) (ds_cons (ds_for (passes_of rfl) rfl (di_enum (by rfl) T.enumerate (da_cons (dx_fld ("Ring" : Str) T.cls_Ring T.na_Ring_starts (dx_var 0)) (da_nil)) (len_cons len0)) (dg_tup rfl (dgs_cons (i := 4) scRing_by_shift.nd rfl (by first | exact Or.inl rfl | exact Or.inr rfl) (dgs_cons (i := 5) scRing_by_shift.nd rfl (by first | exact Or.inl rfl | exact Or.inr rfl) (dgs_nil)))) (ds_cons (ds_set (i := 6) scRing_by_shift.nd rfl (by first | exact Or.inl rfl | exact Or.inr rfl) (dx_callG Gweight_of hr (by decide) tk (by rfl) (da_cons (dx_fld ("Ring" : Str) T.cls_Ring T.na_Ring_plan (dx_var 0)) (da_cons (dx_ix (dx_fld ("Ring" : Str) T.cls_Ring T.na_Ring_one (dx_var 0)) (dx_var 5) (fun _ _ => rfl)) (da_cons (dx_ix (dx_fld ("Ring" : Str) T.cls_Ring T.na_Ring_one (dx_var 0)) (x_mod (x_add (dx_var 5) (dx_int)) (dx_var 2)) (fun _ _ => rfl)) (da_nil)))) (len_cons (len_cons (len_cons len0))))) (ds_one (ds_append 3 (dx_tup (da_cons (dx_var 6) (da_cons (dx_var 5) (da_cons (dx_callG Gfar_place hr (by decide) tk (by rfl) (da_cons (dx_fld ("Ring" : Str) T.cls_Ring T.na_Ring_goals (dx_var 0)) (da_cons (x_add (x_add (dx_var 4) (dx_fld ("Ring" : Str) T.cls_Ring T.na_Ring_first (dx_var 0))) (x_mul (dx_var 1) (dx_fld ("Ring" : Str) T.cls_Ring T.na_Ring_step (dx_var 0)))) (da_cons (dx_var 2) (da_nil)))) (len_cons (len_cons (len_cons len0)))) (da_nil))))))))) (ds_one (ds_ret (dx_var 3))))

abbrev sRing_best : Stmt := inClass (top 34) 2
theorem scRing_best : FnScope (["self", "far", "some", "shift"] : List Str) (["self"] : List Str) (defScope sRing_best) := ⟨rfl, rfl, rfl, by decide +kernel, rfl, by decide +kernel, by decide +kernel⟩
theorem okRing_best {f : Addr} {fd : FuncData} (T : Txt K mg) (Fn : FunD K "best" "Ring.best" (defArgs sRing_best) (defBody sRing_best) (defScope sRing_best) [] [] f fd) (GMatch___init__ : GMk P w K mg base "Match" 1 (["self", "rows", "counts", "shift"] : List Str) (spI K 3 "Match" p_Match___init__)) (GMatch_cost : GMt P w K mg base "Match" "cost" 1 (["self"] : List Str) (spD K 1 p_Match_cost)) (GRing_by_shift : GMt P w K mg base "Ring" "by_shift" 2 (["self", "shift"] : List Str) (spD K 2 p_Ring_by_shift)) : FnOk P w K mg base (L2.CX P w) 3 f fd (["self"] : List Str) (spD K 1 p_Ring_best) :=
  okM (k := 2) Fn scRing_best 1 rfl 4 rfl fun cdv A outer s H E hr => by
    have tk : Takes (cxOf (L2.CX P w) P w K mg base (["self", "far", "some", "shift"] : List Str) "Ring.best" (defScope sRing_best) f cdv A outer s H E) (fun c d _ H => E c d H) := takes_of rfl rfl rfl rfl
    have u4 := hr.units
    have u5 := u65 hr
    exact ds_cons (ds_set (i := 1) scRing_best.nd rfl (by first | exact Or.inl rfl | exact Or.inr rfl) (x_add (x_div (x_mul (dx_int) (dx_callB call_len vr_len nx_len (by rfl) T.len bt_len (da_cons (dx_fld ("Ring" : Str) T.cls_Ring T.na_Ring_starts (dx_var 0)) (da_nil)))) (dx_fld ("Ring" : Str) T.cls_Ring T.na_Ring_step (dx_var 0))) (dx_int))) (ds_cons (ds_setC (i := 2) (own := [(("shift" : Str), 3)]) (is := [3]) rfl scRing_best.nd rfl rfl (sw_true rfl rfl rfl (by decide +kernel)) (di_range2 (by rfl) T.range (da_cons (x_sub (dx_int) (dx_var 1)) (da_cons (x_add (dx_var 1) (dx_int)) (da_nil))) (len_cons (len_cons len0))) (blkOk_by (N := (["self", "far", "some", "shift"] : List Str)) (sc := defScope sRing_best) (by decide +kernel)) (fun _ _ _ _ _ => dg_name (i := 3) scRing_best.nd rfl (by first | exact Or.inl rfl | exact Or.inr rfl)) (fun _ _ _ _ _ => dt_nil) (fun _ _ _ _ _ => dx_tup (da_cons (dx_methD0 GMatch_cost hr (by decide) takesF (dx_frzO (ox_make GMatch___init__ hr (by decide) takesF (by rfl) (da_cons (dx_methD GRing_by_shift hr (by decide) takesF (dx_var 0) (da_cons (dx_var 3) (da_nil)) (len_cons len0)) (da_cons (dx_frz (ox_lst (da_nil))) (da_cons (dx_int) (da_nil)))) (len_cons (len_cons (len_cons len0)))))) (da_cons (dx_var 3) (da_nil))))) (ds_one (ds_ret (dx_ix (dx_callB (cr_minDa u4 rfl) vr_minL nx_minL (by rfl) T.bmin bt_min (da_cons (dx_var 2) (da_nil))) (dx_int) (fun _ _ => rfl)))))

abbrev sRing_last_below : Stmt := inClass (top 34) 3
theorem scRing_last_below : FnScope (["self", "places", "kind", "cell", "number"] : List Str) (["self", "places", "kind", "cell"] : List Str) (defScope sRing_last_below) := ⟨rfl, rfl, rfl, by decide +kernel, rfl, by decide +kernel, by decide +kernel⟩
theorem okRing_last_below {f : Addr} {fd : FuncData} (T : Txt K mg) (Fn : FunD K "last_below" "Ring.last_below" (defArgs sRing_last_below) (defBody sRing_last_below) (defScope sRing_last_below) [] [] f fd) (Gfar_place : GFn P w K mg base "far_place" 1 (["places", "number", "many"] : List Str) (spD K 3 p_far_place)) : FnOk P w K mg base (L2.CX P w) 2 f fd (["self", "places", "kind", "cell"] : List Str) (spD K 4 p_Ring_last_below) :=
  okM (k := 1) Fn scRing_last_below 4 rfl 5 rfl fun cdv A outer s H E hr => by
    have tk : Takes (cxOf (L2.CX P w) P w K mg base (["self", "places", "kind", "cell", "number"] : List Str) "Ring.last_below" (defScope sRing_last_below) f cdv A outer s H E) (fun c d _ H => E c d H) := takes_of rfl rfl rfl rfl
    have u4 := hr.units
    have u5 := u65 hr
    exact ds_cons (ds_set (i := 4) scRing_last_below.nd rfl (by first | exact Or.inl rfl | exact Or.inr rfl) (x_mul (dx_int) (dx_callB call_len vr_len nx_len (by rfl) T.len bt_len (da_cons (dx_var 1) (da_nil))))) (ds_cons (ds_while (passes_of rfl) (t_gt (dx_callG Gfar_place hr (by decide) tk (by rfl) (da_cons (dx_var 1) (da_cons (x_add (dx_var 2) (x_mul (dx_var 4) (dx_fld ("Ring" : Str) T.cls_Ring T.na_Ring_step (dx_var 0)))) (da_cons (dx_ix (dx_fld ("Ring" : Str) T.cls_Ring T.na_Ring_plan (dx_var 0)) (dx_int) (fun _ _ => rfl)) (da_nil)))) (len_cons (len_cons (len_cons len0)))) (dx_var 3)) (ds_one (ds_aug (i := 4) scRing_last_below.nd rfl (Or.inl rfl) (dx_int) ip_sub))) (ds_one (ds_ret (dx_var 4))))

abbrev sRing_kinds : Stmt := inClass (top 34) 4
theorem scRing_kinds : FnScope (["self", "found", "kind", "place", "weight", "some", "cell", "there"] : List Str) (["self"] : List Str) (defScope sRing_kinds) := ⟨rfl, rfl, rfl, by decide +kernel, rfl, by decide +kernel, by decide +kernel⟩
theorem okRing_kinds {f : Addr} {fd : FuncData} (T : Txt K mg) (Fn : FunD K "kinds" "Ring.kinds" (defArgs sRing_kinds) (defBody sRing_kinds) (defScope sRing_kinds) [] [] f fd) (GRing_last_below : GMt P w K mg base "Ring" "last_below" 2 (["self", "places", "kind", "cell"] : List Str) (spD K 4 p_Ring_last_below)) (Gweight_of : GFn P w K mg base "weight_of" 1 (["plan", "one", "other"] : List Str) (spD K 3 p_weight_of)) : FnOk P w K mg base (L2.CX P w) 3 f fd (["self"] : List Str) (spD K 1 p_Ring_kinds) :=
  okM (k := 2) Fn scRing_kinds 1 rfl 8 rfl fun cdv A outer s H E hr => by
    have tk : Takes (cxOf (L2.CX P w) P w K mg base (["self", "found", "kind", "place", "weight", "some", "cell", "there"] : List Str) "Ring.kinds" (defScope sRing_kinds) f cdv A outer s H E) (fun c d _ H => E c d H) := takes_of rfl rfl rfl rfl
    have u4 := hr.units
    have u5 := u65 hr
    exact ds_cons (ds_setO (i := 1) scRing_kinds.nd rfl (by first | exact Or.inl rfl | exact Or.inr rfl) (ox_lst (da_nil))) (ds_cons (ds_for (passes_of rfl) rfl (di_range1 (by rfl) T.range (da_cons (dx_fld ("Ring" : Str) T.cls_Ring T.na_Ring_step (dx_var 0)) (da_nil)) (len_cons len0)) (dg_name (i := 2) scRing_kinds.nd rfl (by first | exact Or.inl rfl | exact Or.inr rfl)) (ds_cons (ds_set (i := 3) scRing_kinds.nd rfl (by first | exact Or.inl rfl | exact Or.inr rfl) (dx_ix (dx_fld ("Ring" : Str) T.cls_Ring T.na_Ring_starts (dx_var 0)) (dx_var 2) (fun _ _ => rfl))) (ds_cons (ds_set (i := 4) scRing_kinds.nd rfl (by first | exact Or.inl rfl | exact Or.inr rfl) (dx_callG Gweight_of hr (by decide) tk (by rfl) (da_cons (dx_fld ("Ring" : Str) T.cls_Ring T.na_Ring_plan (dx_var 0)) (da_cons (dx_ix (dx_fld ("Ring" : Str) T.cls_Ring T.na_Ring_one (dx_var 0)) (dx_var 3) (fun _ _ => rfl)) (da_cons (dx_ix (dx_fld ("Ring" : Str) T.cls_Ring T.na_Ring_one (dx_var 0)) (x_mod (x_add (dx_var 3) (dx_int)) (dx_ix (dx_fld ("Ring" : Str) T.cls_Ring T.na_Ring_plan (dx_var 0)) (dx_int) (fun _ _ => rfl))) (fun _ _ => rfl)) (da_nil)))) (len_cons (len_cons (len_cons len0))))) (ds_cons (ds_setO (i := 5) scRing_kinds.nd rfl (by first | exact Or.inl rfl | exact Or.inr rfl) (ox_lst (da_nil))) (ds_cons (ds_for (passes_of rfl) rfl (di_range1 (by rfl) T.range (da_cons (dx_ix (dx_fld ("Ring" : Str) T.cls_Ring T.na_Ring_plan (dx_var 0)) (dx_int) (fun _ _ => rfl)) (da_nil)) (len_cons len0)) (dg_name (i := 6) scRing_kinds.nd rfl (by first | exact Or.inl rfl | exact Or.inr rfl)) (ds_cons (ds_set (i := 7) scRing_kinds.nd rfl (by first | exact Or.inl rfl | exact Or.inr rfl) (dx_methD GRing_last_below hr (by decide) tk (dx_var 0) (da_cons (dx_fld ("Ring" : Str) T.cls_Ring T.na_Ring_goals (dx_var 0)) (da_cons (x_add (dx_var 2) (dx_fld ("Ring" : Str) T.cls_Ring T.na_Ring_first (dx_var 0))) (da_cons (dx_var 6) (da_nil)))) (len_cons (len_cons (len_cons len0))))) (ds_one (ds_append 5 (x_sub (dx_var 7) (dx_methD GRing_last_below hr (by decide) tk (dx_var 0) (da_cons (dx_fld ("Ring" : Str) T.cls_Ring T.na_Ring_starts (dx_var 0)) (da_cons (dx_var 2) (da_cons (dx_var 6) (da_nil)))) (len_cons (len_cons (len_cons len0))))))))) (ds_one (ds_append 1 (dx_tup (da_cons (dx_var 4) (da_cons (dx_callTy call_tuple_of vr_tuple nx_tuple (by rfl) T.ttuple bt_tuple (da_cons (dx_var 5) (da_nil))) (da_nil))))))))))) (ds_one (ds_ret (dx_var 1))))

abbrev sring_match : Stmt := top 35
theorem scring_match : FnScope (["plan", "one", "other", "ring", "shift"] : List Str) (["plan", "one", "other"] : List Str) (defScope sring_match) := ⟨rfl, rfl, rfl, by decide +kernel, rfl, by decide +kernel, by decide +kernel⟩
theorem okring_match {f : Addr} {fd : FuncData} (T : Txt K mg) (Fn : Fun K "ring_match" "ring_match" sring_match f fd) (GMatch___init__ : GMk P w K mg base "Match" 1 (["self", "rows", "counts", "shift"] : List Str) (spI K 3 "Match" p_Match___init__)) (GRing___init__ : GMk P w K mg base "Ring" 2 (["self", "plan", "one", "other"] : List Str) (spI K 3 "Ring" p_Ring___init__)) (GRing_best : GMt P w K mg base "Ring" "best" 3 (["self"] : List Str) (spD K 1 p_Ring_best)) (GRing_by_shift : GMt P w K mg base "Ring" "by_shift" 2 (["self", "shift"] : List Str) (spD K 2 p_Ring_by_shift)) (GRing_kinds : GMt P w K mg base "Ring" "kinds" 3 (["self"] : List Str) (spD K 1 p_Ring_kinds)) : FnOk P w K mg base (L2.CX P w) 4 f fd (["plan", "one", "other"] : List Str) (spD K 3 p_ring_match) :=
  okD (k := 3) Fn scring_match 3 rfl 5 rfl fun cdv A outer s H E hr => by
    have tk : Takes (cxOf (L2.CX P w) P w K mg base (["plan", "one", "other", "ring", "shift"] : List Str) "ring_match" (defScope sring_match) f cdv A outer s H E) (fun c d _ H => E c d H) := takes_of rfl rfl rfl rfl
    have u4 := hr.units
    have u5 := u65 hr
    exact ds_cons (ds_set (i := 3) scring_match.nd rfl (by first | exact Or.inl rfl | exact Or.inr rfl) (dx_frzO (ox_make GRing___init__ hr (by decide) tk (by rfl) (da_cons (dx_var 0) (da_cons (dx_var 1) (da_cons (dx_var 2) (da_nil)))) (len_cons (len_cons (len_cons len0)))))) (ds_cons (ds_if (PW.pt (dw_or (t_eq u4 (dx_fld ("Ring" : Str) T.cls_Ring T.na_Ring_starts (dx_var 3)) (dx_frz (ox_lst (da_nil)))) (dw_or (t_eq u4 (dx_fld ("Ring" : Str) T.cls_Ring T.na_Ring_goals (dx_var 3)) (dx_frz (ox_lst (da_nil)))) (dw_or1 (t_eq u4 (dx_callB call_len vr_len nx_len (by rfl) T.len bt_len (da_cons (dx_fld ("Ring" : Str) T.cls_Ring T.na_Ring_starts (dx_var 3)) (da_nil))) (dx_ix (dx_var 0) (dx_int) (fun _ _ => rfl))))))) (ds_one (ds_ret (dx_if (t_eq u4 (dx_var 1) (dx_var 2)) (dx_frzO (ox_make GMatch___init__ hr (by decide) tk (by rfl) (da_cons (dx_frz (ox_lst (da_nil))) (da_cons (dx_frz (ox_lst (da_nil))) (da_cons (dx_int) (da_nil)))) (len_cons (len_cons (len_cons len0))))) (dx_non)))) (ds_nil)) (ds_cons (ds_if (t_isN (dx_fld ("Ring" : Str) T.cls_Ring T.na_Ring_first (dx_var 3)) (dx_non)) (ds_one (ds_ret (dx_non))) (ds_nil)) (ds_cons (ds_set (i := 4) scring_match.nd rfl (by first | exact Or.inl rfl | exact Or.inr rfl) (dx_methD0 GRing_best hr (by decide) tk (dx_var 3))) (ds_one (ds_ret (dx_frzO (ox_make GMatch___init__ hr (by decide) tk (by rfl) (da_cons (dx_methD GRing_by_shift hr (by decide) tk (dx_var 3) (da_cons (dx_var 4) (da_nil)) (len_cons len0)) (da_cons (dx_methD0 GRing_kinds hr (by decide) tk (dx_var 3)) (da_cons (dx_var 4) (da_nil)))) (len_cons (len_cons (len_cons len0))))))))))

abbrev smatch_of : Stmt := top 36
theorem scmatch_of : FnScope (["plan", "one", "other"] : List Str) (["plan", "one", "other"] : List Str) (defScope smatch_of) := ⟨rfl, rfl, rfl, by decide +kernel, rfl, by decide +kernel, by decide +kernel⟩
theorem okmatch_of {f : Addr} {fd : FuncData} (T : Txt K mg) (Fn : Fun K "match_of" "match_of" smatch_of f fd) (Gopened : GFn P w K mg base "opened" 1 (["plan"] : List Str) (spD K 1 p_opened)) (Gring_match : GFn P w K mg base "ring_match" 4 (["plan", "one", "other"] : List Str) (spD K 3 p_ring_match)) (Grow_match : GFn P w K mg base "row_match" 3 (["plan", "one", "other"] : List Str) (spD K 3 p_row_match)) (Gunrolled : GFn P w K mg base "unrolled" 1 (["plan", "cells"] : List Str) (spD K 2 p_unrolled)) : FnOk P w K mg base (L2.CX P w) 5 f fd (["plan", "one", "other"] : List Str) (spD K 3 p_match_of) :=
  okD (k := 4) Fn scmatch_of 3 rfl 3 rfl fun cdv A outer s H E hr => by
    have tk : Takes (cxOf (L2.CX P w) P w K mg base (["plan", "one", "other"] : List Str) "match_of" (defScope smatch_of) f cdv A outer s H E) (fun c d _ H => E c d H) := takes_of rfl rfl rfl rfl
    have u4 := hr.units
    have u5 := u65 hr
    exact ds_cons (ds_if (dt_not (dt_val (dx_ix (dx_var 0) (dx_int) (fun _ _ => rfl)))) (ds_one (ds_ret (dx_callG Grow_match hr (by decide) tk (by rfl) (da_cons (dx_var 0) (da_cons (dx_var 1) (da_cons (dx_var 2) (da_nil)))) (len_cons (len_cons (len_cons len0)))))) (ds_nil)) (ds_cons (ds_if (t_ne u4 (dx_ix (dx_var 0) (dx_int) (fun _ _ => rfl)) (dx_tup (da_nil))) (ds_one (ds_ret (dx_callG Grow_match hr (by decide) tk (by rfl) (da_cons (dx_callG Gopened hr (by decide) tk (by rfl) (da_cons (dx_var 0) (da_nil)) (len_cons len0)) (da_cons (dx_callG Gunrolled hr (by decide) tk (by rfl) (da_cons (dx_var 0) (da_cons (dx_var 1) (da_nil))) (len_cons (len_cons len0))) (da_cons (dx_callG Gunrolled hr (by decide) tk (by rfl) (da_cons (dx_var 0) (da_cons (dx_var 2) (da_nil))) (len_cons (len_cons len0))) (da_nil)))) (len_cons (len_cons (len_cons len0)))))) (ds_nil)) (ds_one (ds_ret (dx_callG Gring_match hr (by decide) tk (by rfl) (da_cons (dx_var 0) (da_cons (dx_var 1) (da_cons (dx_var 2) (da_nil)))) (len_cons (len_cons (len_cons len0)))))))

abbrev sneed_match : Stmt := top 37
theorem scneed_match : FnScope (["plan", "one", "other", "found"] : List Str) (["plan", "one", "other"] : List Str) (defScope sneed_match) := ⟨rfl, rfl, rfl, by decide +kernel, rfl, by decide +kernel, by decide +kernel⟩
theorem okneed_match {f : Addr} {fd : FuncData} (T : Txt K mg) (Fn : Fun K "need_match" "need_match" sneed_match f fd) (Gmatch_of : GFn P w K mg base "match_of" 5 (["plan", "one", "other"] : List Str) (spD K 3 p_match_of)) (Gneed_both : GFn P w K mg base "need_both" 4 (["plan", "one", "other"] : List Str) (spD K 3 p_need_both)) : FnOk P w K mg base (L2.CX P w) 6 f fd (["plan", "one", "other"] : List Str) (spD K 3 p_need_match) :=
  okD (k := 5) Fn scneed_match 3 rfl 4 rfl fun cdv A outer s H E hr => by
    have tk : Takes (cxOf (L2.CX P w) P w K mg base (["plan", "one", "other", "found"] : List Str) "need_match" (defScope sneed_match) f cdv A outer s H E) (fun c d _ H => E c d H) := takes_of rfl rfl rfl rfl
    have u4 := hr.units
    have u5 := u65 hr
    exact ds_cons (ds_expr (dx_callG Gneed_both hr (by decide) tk (by rfl) (da_cons (dx_var 0) (da_cons (dx_var 1) (da_cons (dx_var 2) (da_nil)))) (len_cons (len_cons (len_cons len0))))) (ds_cons (ds_set (i := 3) scneed_match.nd rfl (by first | exact Or.inl rfl | exact Or.inr rfl) (dx_callG Gmatch_of hr (by decide) tk (by rfl) (da_cons (dx_var 0) (da_cons (dx_var 1) (da_cons (dx_var 2) (da_nil)))) (len_cons (len_cons (len_cons len0))))) (ds_cons (ds_if (t_isN (dx_var 3) (dx_non)) (ds_one (ds_never)) (ds_nil)) (ds_one (ds_ret (dx_var 3)))))

abbrev sleast : Stmt := top 38
theorem scleast : FnScope (["plan", "one", "other"] : List Str) (["plan", "one", "other"] : List Str) (defScope sleast) := ⟨rfl, rfl, rfl, by decide +kernel, rfl, by decide +kernel, by decide +kernel⟩
theorem okleast {f : Addr} {fd : FuncData} (T : Txt K mg) (Fn : Fun K "least" "least" sleast f fd) (GMatch_cost : GMt P w K mg base "Match" "cost" 1 (["self"] : List Str) (spD K 1 p_Match_cost)) (Gneed_match : GFn P w K mg base "need_match" 6 (["plan", "one", "other"] : List Str) (spD K 3 p_need_match)) : FnOk P w K mg base (L2.CX P w) 7 f fd (["plan", "one", "other"] : List Str) (spD K 3 p_least) :=
  okD (k := 6) Fn scleast 3 rfl 3 rfl fun cdv A outer s H E hr => by
    have tk : Takes (cxOf (L2.CX P w) P w K mg base (["plan", "one", "other"] : List Str) "least" (defScope sleast) f cdv A outer s H E) (fun c d _ H => E c d H) := takes_of rfl rfl rfl rfl
    have u4 := hr.units
    have u5 := u65 hr
    exact ds_one (ds_ret (dx_methD0 GMatch_cost hr (by decide) tk (dx_callG Gneed_match hr (by decide) tk (by rfl) (da_cons (dx_var 0) (da_cons (dx_var 1) (da_cons (dx_var 2) (da_nil)))) (len_cons (len_cons (len_cons len0))))))

abbrev sway_of : Stmt := top 40
theorem scway_of : FnScope (["plan", "one", "other", "found", "here", "left", "cell", "behind", "cost", "match"] : List Str) (["plan", "one", "other"] : List Str) (defScope sway_of) := ⟨rfl, rfl, rfl, by decide +kernel, rfl, by decide +kernel, by decide +kernel⟩
theorem okway_of {f : Addr} {fd : FuncData} (T : Txt K mg) (Fn : Fun K "way_of" "way_of" sway_of f fd) (GMatch_cost : GMt P w K mg base "Match" "cost" 1 (["self"] : List Str) (spD K 1 p_Match_cost)) (Gmatch_of : GFn P w K mg base "match_of" 5 (["plan", "one", "other"] : List Str) (spD K 3 p_match_of)) (Gturns_of : GFn P w K mg base "turns_of" 3 (["plan", "cells"] : List Str) (spD K 2 p_turns_of)) : FnOk P w K mg base (L2.CX P w) 6 f fd (["plan", "one", "other"] : List Str) (spD K 3 p_way_of) :=
  okD (k := 5) Fn scway_of 3 rfl 10 rfl fun cdv A outer s H E hr => by
    have tk : Takes (cxOf (L2.CX P w) P w K mg base (["plan", "one", "other", "found", "here", "left", "cell", "behind", "cost", "match"] : List Str) "way_of" (defScope sway_of) f cdv A outer s H E) (fun c d _ H => E c d H) := takes_of rfl rfl rfl rfl
    have u4 := hr.units
    have u5 := u65 hr
    exact ds_cons (ds_parO 3 4 rfl scway_of.nd rfl rfl (by decide) rfl rfl (ox_lst (da_nil)) (dx_var 1) (by rfl)) (ds_cons (ds_set (i := 5) scway_of.nd rfl (by first | exact Or.inl rfl | exact Or.inr rfl) (dx_methD0 GMatch_cost hr (by decide) tk (dx_callG Gmatch_of hr (by decide) tk (by rfl) (da_cons (dx_var 0) (da_cons (dx_var 1) (da_cons (dx_var 2) (da_nil)))) (len_cons (len_cons (len_cons len0)))))) (ds_cons (ds_while (passes_of rfl) (t_gt (dx_var 5) (dx_int)) (ds_cons (ds_for (passes_of rfl) rfl (di_val (dx_callG Gturns_of hr (by decide) tk (by rfl) (da_cons (dx_var 0) (da_cons (dx_var 4) (da_nil))) (len_cons (len_cons len0)))) (dg_tup rfl (dgs_cons (i := 6) scway_of.nd rfl (by first | exact Or.inl rfl | exact Or.inr rfl) (dgs_cons (i := 7) scway_of.nd rfl (by first | exact Or.inl rfl | exact Or.inr rfl) (dgs_cons (i := 8) scway_of.nd rfl (by first | exact Or.inl rfl | exact Or.inr rfl) (dgs_nil))))) (ds_cons (ds_set (i := 9) scway_of.nd rfl (by first | exact Or.inl rfl | exact Or.inr rfl) (dx_callG Gmatch_of hr (by decide) tk (by rfl) (da_cons (dx_var 0) (da_cons (dx_var 7) (da_cons (dx_var 2) (da_nil)))) (len_cons (len_cons (len_cons len0))))) (ds_one (ds_if (t_eq u4 (dx_methD0 GMatch_cost hr (by decide) tk (dx_var 9)) (x_sub (dx_var 5) (dx_var 8))) (ds_one (ds_brk)) (ds_nil))))) (ds_cons (ds_append 3 (dx_var 6)) (ds_cons (ds_set (i := 4) scway_of.nd rfl (by first | exact Or.inl rfl | exact Or.inr rfl) (dx_var 7)) (ds_one (ds_aug (i := 5) scway_of.nd rfl (Or.inl rfl) (dx_var 8) ip_sub)))))) (ds_one (ds_ret (dx_var 3)))))

abbrev sway : Stmt := top 41
theorem scway : FnScope (["plan", "one", "other"] : List Str) (["plan", "one", "other"] : List Str) (defScope sway) := ⟨rfl, rfl, rfl, by decide +kernel, rfl, by decide +kernel, by decide +kernel⟩
theorem okway {f : Addr} {fd : FuncData} (T : Txt K mg) (Fn : Fun K "way" "way" sway f fd) (Gneed_match : GFn P w K mg base "need_match" 6 (["plan", "one", "other"] : List Str) (spD K 3 p_need_match)) (Gway_of : GFn P w K mg base "way_of" 6 (["plan", "one", "other"] : List Str) (spD K 3 p_way_of)) : FnOk P w K mg base (L2.CX P w) 7 f fd (["plan", "one", "other"] : List Str) (spD K 3 p_way) :=
  okD (k := 6) Fn scway 3 rfl 3 rfl fun cdv A outer s H E hr => by
    have tk : Takes (cxOf (L2.CX P w) P w K mg base (["plan", "one", "other"] : List Str) "way" (defScope sway) f cdv A outer s H E) (fun c d _ H => E c d H) := takes_of rfl rfl rfl rfl
    have u4 := hr.units
    have u5 := u65 hr
    exact ds_cons (ds_expr (dx_callG Gneed_match hr (by decide) tk (by rfl) (da_cons (dx_var 0) (da_cons (dx_var 1) (da_cons (dx_var 2) (da_nil)))) (len_cons (len_cons (len_cons len0))))) (ds_one (ds_ret (dx_callG Gway_of hr (by decide) tk (by rfl) (da_cons (dx_var 0) (da_cons (dx_var 1) (da_cons (dx_var 2) (da_nil)))) (len_cons (len_cons (len_cons len0))))))

abbrev sjudged : Stmt := top 42
theorem scjudged : FnScope (["plan", "one", "other", "told", "cost", "here", "number", "cell", "sign"] : List Str) (["plan", "one", "other", "told"] : List Str) (defScope sjudged) := ⟨rfl, rfl, rfl, by decide +kernel, rfl, by decide +kernel, by decide +kernel⟩
theorem okjudged {f : Addr} {fd : FuncData} (T : Txt K mg) (Fn : Fun K "judged" "judged" sjudged f fd) (Gis_number : GFn P w K mg base "is_number" 1 (["part", "low", "high"] : List Str) (spD K 3 p_is_number)) (Gneed_both : GFn P w K mg base "need_both" 4 (["plan", "one", "other"] : List Str) (spD K 3 p_need_both)) (Gturned : GFn P w K mg base "turned" 2 (["plan", "cells", "cell"] : List Str) (spD K 3 p_turned)) (Gweight_of : GFn P w K mg base "weight_of" 1 (["plan", "one", "other"] : List Str) (spD K 3 p_weight_of)) (Gwith_sign : GFn P w K mg base "with_sign" 1 (["cells", "cell", "sign"] : List Str) (spD K 3 p_with_sign)) : FnOk P w K mg base (L2.CX P w) 5 f fd (["plan", "one", "other", "told"] : List Str) (spD K 4 p_judged) :=
  okD (k := 4) Fn scjudged 4 rfl 9 rfl fun cdv A outer s H E hr => by
    have tk : Takes (cxOf (L2.CX P w) P w K mg base (["plan", "one", "other", "told", "cost", "here", "number", "cell", "sign"] : List Str) "judged" (defScope sjudged) f cdv A outer s H E) (fun c d _ H => E c d H) := takes_of rfl rfl rfl rfl
    have u4 := hr.units
    have u5 := u65 hr
    exact ds_cons (ds_expr (dx_callG Gneed_both hr (by decide) tk (by rfl) (da_cons (dx_var 0) (da_cons (dx_var 1) (da_cons (dx_var 2) (da_nil)))) (len_cons (len_cons (len_cons len0))))) (ds_cons (ds_if (dt_not (dt_val (dx_isi "list" (by rfl) T.isinstance (by rfl) T.tlist bt_list (dx_var 3)))) (ds_one (ds_never)) (ds_nil)) (ds_cons (ds_par 4 5 rfl scjudged.nd rfl rfl (by decide) rfl rfl (dx_int) (dx_var 1) (by rfl)) (ds_cons (ds_for (passes_of rfl) rfl (di_enum (by rfl) T.enumerate (da_cons (dx_var 3) (da_nil)) (len_cons len0)) (dg_tup rfl (dgs_cons (i := 6) scjudged.nd rfl (by first | exact Or.inl rfl | exact Or.inr rfl) (dgs_cons (i := 7) scjudged.nd rfl (by first | exact Or.inl rfl | exact Or.inr rfl) (dgs_nil)))) (ds_cons (ds_set (i := 8) scjudged.nd rfl (by first | exact Or.inl rfl | exact Or.inr rfl) (dx_if (dt_val (dx_callG Gis_number hr (by decide) tk (by rfl) (da_cons (dx_var 7) (da_cons (dx_int) (da_cons (x_sub (dx_ix (dx_var 0) (dx_int) (fun _ _ => rfl)) (dx_int)) (da_nil)))) (len_cons (len_cons (len_cons len0))))) (dx_callG Gturned hr (by decide) tk (by rfl) (da_cons (dx_var 0) (da_cons (dx_var 5) (da_cons (dx_var 7) (da_nil)))) (len_cons (len_cons (len_cons len0)))) (dx_non))) (ds_cons (ds_if (t_isN (dx_var 8) (dx_non)) (ds_one (ds_never)) (ds_nil)) (ds_cons (ds_aug (i := 4) scjudged.nd rfl (Or.inl rfl) (dx_callG Gweight_of hr (by decide) tk (by rfl) (da_cons (dx_var 0) (da_cons (dx_ix (dx_var 5) (dx_var 7) (fun _ _ => rfl)) (da_cons (dx_var 8) (da_nil)))) (len_cons (len_cons (len_cons len0)))) ip_add) (ds_one (ds_set (i := 5) scjudged.nd rfl (by first | exact Or.inl rfl | exact Or.inr rfl) (dx_callG Gwith_sign hr (by decide) tk (by rfl) (da_cons (dx_var 5) (da_cons (dx_var 7) (da_cons (dx_var 8) (da_nil)))) (len_cons (len_cons (len_cons len0)))))))))) (ds_one (ds_ret (dx_if (t_eq u4 (dx_var 5) (dx_var 2)) (dx_var 4) (dx_non)))))))

abbrev s_law_plan : Stmt := top 47
theorem sc_law_plan : FnScope (["_law_box", "_law_most", "_law_count", "_law_frozen", "_law_k", "_law_weights"] : List Str) (["_law_box", "_law_most"] : List Str) (defScope s_law_plan) := ⟨rfl, rfl, rfl, by decide +kernel, rfl, by decide +kernel, by decide +kernel⟩
theorem ok_law_plan {f : Addr} {fd : FuncData} (T : Txt K mg) (Fn : Fun K "_law_plan" "_law_plan" s_law_plan f fd) (G_law_take : GFn P w K mg base "_law_take" 1 (["_law_box", "_law_size"] : List Str) (spB K 1 f_law_take)) : FnOk P w K mg base (L2.CX P w) 2 f fd (["_law_box", "_law_most"] : List Str) (spB K 1 f_law_plan) :=
  okB (k := 1) Fn sc_law_plan 1 rfl 6 rfl fun cdv A outer s H E hr => by
    have tk : Takes (cxOf (L2.CX P w) P w K mg base (["_law_box", "_law_most", "_law_count", "_law_frozen", "_law_k", "_law_weights"] : List Str) "_law_plan" (defScope s_law_plan) f cdv A outer s H E) (fun c d _ H => E c d H) := takes_of rfl rfl rfl rfl
    have u4 := hr.units
    have u5 := u65 hr
    exact ds_cons (ds_set (i := 2) sc_law_plan.nd rfl (by first | exact Or.inl rfl | exact Or.inr rfl) (x_add (dx_int) (dx_callBG 0 G_law_take hr (by decide) tk (by rfl) (da_cons (x_sub (dx_var 1) (dx_int)) (da_nil)) (len_cons len0)))) (ds_cons (ds_set (i := 3) sc_law_plan.nd rfl (by first | exact Or.inl rfl | exact Or.inr rfl) (dx_callTy call_tuple_of vr_tuple nx_tuple (by rfl) T.ttuple bt_tuple (da_cons (dx_frz (ox_comp (own := [(("_law_k" : Str), 4)]) (is := [4]) rfl sc_law_plan.nd (di_range1 (by rfl) T.range (da_cons (dx_var 2) (da_nil)) (len_cons len0)) (blkOk_by (N := (["_law_box", "_law_most", "_law_count", "_law_frozen", "_law_k", "_law_weights"] : List Str)) (sc := defScope s_law_plan) (by decide +kernel)) (fun _ _ _ _ _ => dg_name (i := 4) sc_law_plan.nd rfl (by first | exact Or.inl rfl | exact Or.inr rfl)) (fun _ _ _ _ _ => dt_one (t_eq u4 (dx_callBG 0 G_law_take hr (by decide) takesF (by rfl) (da_cons (dx_ix (dx_frz (ox_lst (da_cons (dx_int) (da_cons (dx_int) (da_cons (dx_int) (da_nil)))))) (dx_callBG 0 G_law_take hr (by decide) takesF (by rfl) (da_cons (dx_int) (da_nil)) (len_cons len0)) (fun _ _ => rfl)) (da_nil)) (len_cons len0)) (dx_int))) (fun _ _ _ _ _ => dx_var 4))) (da_nil)))) (ds_cons (ds_set (i := 3) sc_law_plan.nd rfl (by first | exact Or.inl rfl | exact Or.inr rfl) (dx_if (t_eq u4 (dx_callBG 0 G_law_take hr (by decide) tk (by rfl) (da_cons (dx_int) (da_nil)) (len_cons len0)) (dx_int)) (dx_var 3) (dx_tup (da_nil)))) (ds_cons (ds_set (i := 5) sc_law_plan.nd rfl (by first | exact Or.inl rfl | exact Or.inr rfl) (dx_callTy call_tuple_of vr_tuple nx_tuple (by rfl) T.ttuple bt_tuple (da_cons (dx_frz (ox_comp (own := [(("_law_k" : Str), 4)]) (is := [4]) rfl sc_law_plan.nd (di_range1 (by rfl) T.range (da_cons (dx_int) (da_nil)) (len_cons len0)) (blkOk_by (N := (["_law_box", "_law_most", "_law_count", "_law_frozen", "_law_k", "_law_weights"] : List Str)) (sc := defScope s_law_plan) (by decide +kernel)) (fun _ _ _ _ _ => dg_name (i := 4) sc_law_plan.nd rfl (by first | exact Or.inl rfl | exact Or.inr rfl)) (fun _ _ _ _ _ => dt_nil) (fun _ _ _ _ _ => x_add (dx_int) (dx_callBG 0 G_law_take hr (by decide) takesF (by rfl) (da_cons (dx_ix (dx_frz (ox_lst (da_cons (dx_int) (da_cons (dx_int) (da_nil))))) (dx_callBG 0 G_law_take hr (by decide) takesF (by rfl) (da_cons (dx_int) (da_nil)) (len_cons len0)) (fun _ _ => rfl)) (da_nil)) (len_cons len0))))) (da_nil)))) (ds_one (ds_ret (dx_tup (da_cons (x_gt (dx_callBG 0 G_law_take hr (by decide) tk (by rfl) (da_cons (dx_int) (da_nil)) (len_cons len0)) (dx_int)) (da_cons (dx_var 2) (da_cons (dx_var 3) (da_cons (dx_var 5) (da_nil)))))))))))

abbrev s_law_cells : Stmt := top 48
theorem sc_law_cells : FnScope (["_law_box", "_law_plan_here", "_law_found", "_law_signs"] : List Str) (["_law_box", "_law_plan_here"] : List Str) (defScope s_law_cells) := ⟨rfl, rfl, rfl, by decide +kernel, rfl, by decide +kernel, by decide +kernel⟩
theorem ok_law_cells {f : Addr} {fd : FuncData} (T : Txt K mg) (Fn : Fun K "_law_cells" "_law_cells" s_law_cells f fd) (G_law_take : GFn P w K mg base "_law_take" 1 (["_law_box", "_law_size"] : List Str) (spB K 1 f_law_take)) : FnOk P w K mg base (L2.CX P w) 2 f fd (["_law_box", "_law_plan_here"] : List Str) (spB K 1 f_law_cells) :=
  okB (k := 1) Fn sc_law_cells 1 rfl 4 rfl fun cdv A outer s H E hr => by
    have tk : Takes (cxOf (L2.CX P w) P w K mg base (["_law_box", "_law_plan_here", "_law_found", "_law_signs"] : List Str) "_law_cells" (defScope s_law_cells) f cdv A outer s H E) (fun c d _ H => E c d H) := takes_of rfl rfl rfl rfl
    have u4 := hr.units
    have u5 := u65 hr
    exact ds_cons (ds_par 2 3 rfl sc_law_cells.nd rfl rfl (by decide) rfl rfl (dx_str) (dx_slice (dx_str) (dp_none) (dp_some (x_add (dx_int) (dx_callBG 0 G_law_take hr (by decide) tk (by rfl) (da_cons (dx_int) (da_nil)) (len_cons len0))))) (by rfl)) (ds_cons (ds_while (passes_of rfl) (t_lt (dx_callB call_len vr_len nx_len (by rfl) T.len bt_len (da_cons (dx_var 2) (da_nil))) (dx_ix (dx_var 1) (dx_int) (fun _ _ => rfl))) (ds_one (ds_set (i := 2) sc_law_cells.nd rfl (by first | exact Or.inl rfl | exact Or.inr rfl) (x_add (dx_var 2) (x_mul (dx_ix (dx_var 3) (dx_callBG 0 G_law_take hr (by decide) tk (by rfl) (da_cons (dx_callB call_len vr_len nx_len (by rfl) T.len bt_len (da_cons (dx_var 3) (da_nil))) (da_nil)) (len_cons len0)) (fun _ _ => rfl)) (x_add (dx_int) (dx_callBG 0 G_law_take hr (by decide) tk (by rfl) (da_cons (dx_int) (da_nil)) (len_cons len0)))))))) (ds_one (ds_ret (dx_slice (dx_var 2) (dp_none) (dp_some (dx_ix (dx_var 1) (dx_int) (fun _ _ => rfl)))))))

abbrev s_law_turns : Stmt := top 49
theorem sc_law_turns : FnScope (["_law_plan_here", "_law_cells_here", "_law_found", "_law_k", "_law_low", "_law_high", "_law_sign", "_law_place"] : List Str) (["_law_plan_here", "_law_cells_here"] : List Str) (defScope s_law_turns) := ⟨rfl, rfl, rfl, by decide +kernel, rfl, by decide +kernel, by decide +kernel⟩
theorem ok_law_turns {f : Addr} {fd : FuncData} (T : Txt K mg) (Fn : Fun K "_law_turns" "_law_turns" s_law_turns f fd)  : FnOk P w K mg base (L2.CX P w) 1 f fd (["_law_plan_here", "_law_cells_here"] : List Str) (spD K 2 f_law_turns) :=
  okD (k := 0) Fn sc_law_turns 2 rfl 8 rfl fun cdv A outer s H E hr => by
    have tk : Takes (cxOf (L2.CX P w) P w K mg base (["_law_plan_here", "_law_cells_here", "_law_found", "_law_k", "_law_low", "_law_high", "_law_sign", "_law_place"] : List Str) "_law_turns" (defScope s_law_turns) f cdv A outer s H E) (fun c d _ H => E c d H) := takes_of rfl rfl rfl rfl
    have u4 := hr.units
    have u5 := u65 hr
    exact ds_cons (ds_setO (i := 2) sc_law_turns.nd rfl (by first | exact Or.inl rfl | exact Or.inr rfl) (ox_lst (da_nil))) (ds_cons (ds_for (passes_of rfl) rfl (di_range1 (by rfl) T.range (da_cons (dx_ix (dx_var 0) (dx_int) (fun _ _ => rfl)) (da_nil)) (len_cons len0)) (dg_name (i := 3) sc_law_turns.nd rfl (by first | exact Or.inl rfl | exact Or.inr rfl)) (ds_one (ds_if (PW.pt (dw_and (t_notIn u5 (dx_var 3) (dx_ix (dx_var 0) (dx_int) (fun _ _ => rfl))) (dw_and1 (PW.pt (dw_or (dt_val (dx_ix (dx_var 0) (dx_int) (fun _ _ => rfl))) (dw_or1 (t_ltlt (dx_int) (dx_var 3) (x_sub (dx_ix (dx_var 0) (dx_int) (fun _ _ => rfl)) (dx_int))))))))) (ds_cons (ds_par 4 5 rfl sc_law_turns.nd rfl rfl (by decide) rfl rfl (dx_ix (dx_var 1) (x_sub (dx_var 3) (dx_int)) (fun _ _ => rfl)) (dx_ix (dx_var 1) (x_mod (x_add (dx_var 3) (dx_int)) (dx_ix (dx_var 0) (dx_int) (fun _ _ => rfl))) (fun _ _ => rfl)) (by rfl)) (ds_one (ds_if (PW.pt (dw_and (t_ne u4 (dx_var 4) (dx_var 5)) (dw_and1 (t_in u5 (dx_ix (dx_var 1) (dx_var 3) (fun _ _ => rfl)) (dx_tup (da_cons (dx_var 4) (da_cons (dx_var 5) (da_nil)))))))) (ds_cons (ds_set (i := 6) sc_law_turns.nd rfl (by first | exact Or.inl rfl | exact Or.inr rfl) (dx_if (t_eq u4 (dx_ix (dx_var 1) (dx_var 3) (fun _ _ => rfl)) (dx_var 4)) (dx_var 5) (dx_var 4))) (ds_cons (ds_set (i := 7) sc_law_turns.nd rfl (by first | exact Or.inl rfl | exact Or.inr rfl) (dx_bm PySem.F.plainAttrs_list PySem.F.slot_list_index PySem.F.type_list_index mt_index ty_lst vr_index nx_index (dx_frz (ox_lst (da_cons (dx_str) (da_cons (dx_str) (da_cons (dx_str) (da_cons (dx_str) (da_cons (dx_str) (da_cons (dx_str) (da_nil))))))))) (da_cons (dx_bm PySem.F.plainAttrs_str PySem.F.slot_str_join PySem.F.type_str_join mt_join ty_str vr_join nx_join (dx_str) (da_cons (dx_callB cr_sortedS vr_sorted nx_sorted (by rfl) T.sorted bt_sorted (da_cons (dx_frz (ox_lst (da_cons (dx_var 4) (da_cons (dx_var 5) (da_nil))))) (da_nil))) (da_nil))) (da_nil)))) (ds_one (ds_append 2 (dx_tup (da_cons (dx_var 3) (da_cons (x_add (x_add (dx_slice (dx_var 1) (dp_none) (dp_some (dx_var 3))) (dx_var 6)) (dx_slice (dx_var 1) (dp_some (x_add (dx_var 3) (dx_int))) (dp_none))) (da_cons (dx_ix (dx_ix (dx_var 0) (dx_int) (fun _ _ => rfl)) (dx_var 7) (fun _ _ => rfl)) (da_nil))))))))) (ds_nil)))) (ds_nil)))) (ds_one (ds_ret (dx_var 2))))

abbrev s_law_walk : Stmt := top 50
theorem sc_law_walk : FnScope (["_law_box", "_law_plan_here", "_law_cells_here", "_law_most", "_law_done", "_law_turn", "_law_some", "_law_k", "_law_cost"] : List Str) (["_law_box", "_law_plan_here", "_law_cells_here", "_law_most"] : List Str) (defScope s_law_walk) := ⟨rfl, rfl, rfl, by decide +kernel, rfl, by decide +kernel, by decide +kernel⟩
theorem ok_law_walk {f : Addr} {fd : FuncData} (T : Txt K mg) (Fn : Fun K "_law_walk" "_law_walk" s_law_walk f fd) (G_law_take : GFn P w K mg base "_law_take" 1 (["_law_box", "_law_size"] : List Str) (spB K 1 f_law_take)) (G_law_turns : GFn P w K mg base "_law_turns" 1 (["_law_plan_here", "_law_cells_here"] : List Str) (spD K 2 f_law_turns)) : FnOk P w K mg base (L2.CX P w) 2 f fd (["_law_box", "_law_plan_here", "_law_cells_here", "_law_most"] : List Str) (spB K 3 f_law_walk) :=
  okB (k := 1) Fn sc_law_walk 3 rfl 9 rfl fun cdv A outer s H E hr => by
    have tk : Takes (cxOf (L2.CX P w) P w K mg base (["_law_box", "_law_plan_here", "_law_cells_here", "_law_most", "_law_done", "_law_turn", "_law_some", "_law_k", "_law_cost"] : List Str) "_law_walk" (defScope s_law_walk) f cdv A outer s H E) (fun c d _ H => E c d H) := takes_of rfl rfl rfl rfl
    have u4 := hr.units
    have u5 := u65 hr
    exact ds_cons (ds_setO (i := 4) sc_law_walk.nd rfl (by first | exact Or.inl rfl | exact Or.inr rfl) (ox_lst (da_nil))) (ds_cons (ds_for (passes_of rfl) rfl (di_range1 (by rfl) T.range (da_cons (dx_callBG 0 G_law_take hr (by decide) tk (by rfl) (da_cons (dx_var 3) (da_nil)) (len_cons len0)) (da_nil)) (len_cons len0)) (dg_name (i := 5) sc_law_walk.nd rfl (by first | exact Or.inl rfl | exact Or.inr rfl)) (ds_cons (ds_set (i := 6) sc_law_walk.nd rfl (by first | exact Or.inl rfl | exact Or.inr rfl) (dx_callG G_law_turns hr (by decide) tk (by rfl) (da_cons (dx_var 1) (da_cons (dx_var 2) (da_nil))) (len_cons (len_cons len0)))) (ds_one (ds_if (t_ne u4 (dx_var 6) (dx_frz (ox_lst (da_nil)))) (ds_cons (ds_to (is := [7, 2, 8]) (dg_tup rfl (dgs_cons (i := 7) sc_law_walk.nd rfl (by first | exact Or.inl rfl | exact Or.inr rfl) (dgs_cons (i := 2) sc_law_walk.nd rfl (by first | exact Or.inl rfl | exact Or.inr rfl) (dgs_cons (i := 8) sc_law_walk.nd rfl (by first | exact Or.inl rfl | exact Or.inr rfl) (dgs_nil))))) (dx_ix (dx_var 6) (dx_callBG 0 G_law_take hr (by decide) tk (by rfl) (da_cons (dx_callB call_len vr_len nx_len (by rfl) T.len bt_len (da_cons (dx_var 6) (da_nil))) (da_nil)) (len_cons len0)) (fun _ _ => rfl))) (ds_one (ds_append 4 (dx_var 7)))) (ds_nil))))) (ds_one (ds_ret (dx_tup (da_cons (dx_var 2) (da_cons (dx_var 4) (da_nil)))))))

abbrev s_law_behind : Stmt := top 51
theorem sc_law_behind : FnScope (["_law_plan_here", "_law_cells_here", "_law_k", "_law_some", "_law_place", "_law_behind_here", "_law_cost"] : List Str) (["_law_plan_here", "_law_cells_here", "_law_k"] : List Str) (defScope s_law_behind) := ⟨rfl, rfl, rfl, by decide +kernel, rfl, by decide +kernel, by decide +kernel⟩
theorem ok_law_behind {f : Addr} {fd : FuncData} (T : Txt K mg) (Fn : Fun K "_law_behind" "_law_behind" s_law_behind f fd) (G_law_turns : GFn P w K mg base "_law_turns" 1 (["_law_plan_here", "_law_cells_here"] : List Str) (spD K 2 f_law_turns)) : FnOk P w K mg base (L2.CX P w) 2 f fd (["_law_plan_here", "_law_cells_here", "_law_k"] : List Str) (spD K 3 f_law_behind) :=
  okD (k := 1) Fn sc_law_behind 3 rfl 7 rfl fun cdv A outer s H E hr => by
    have tk : Takes (cxOf (L2.CX P w) P w K mg base (["_law_plan_here", "_law_cells_here", "_law_k", "_law_some", "_law_place", "_law_behind_here", "_law_cost"] : List Str) "_law_behind" (defScope s_law_behind) f cdv A outer s H E) (fun c d _ H => E c d H) := takes_of rfl rfl rfl rfl
    have u4 := hr.units
    have u5 := u65 hr
    exact ds_cons (ds_setC (i := 3) (own := [(("_law_place" : Str), 4), (("_law_behind_here" : Str), 5), (("_law_cost" : Str), 6)]) (is := [4, 5, 6]) rfl sc_law_behind.nd rfl rfl (sw_true rfl rfl rfl (by decide +kernel)) (di_val (dx_callG G_law_turns hr (by decide) tk (by rfl) (da_cons (dx_var 0) (da_cons (dx_var 1) (da_nil))) (len_cons (len_cons len0)))) (blkOk_by (N := (["_law_plan_here", "_law_cells_here", "_law_k", "_law_some", "_law_place", "_law_behind_here", "_law_cost"] : List Str)) (sc := defScope s_law_behind) (by decide +kernel)) (fun _ _ _ _ _ => dg_tup rfl (dgs_cons (i := 4) sc_law_behind.nd rfl (by first | exact Or.inl rfl | exact Or.inr rfl) (dgs_cons (i := 5) sc_law_behind.nd rfl (by first | exact Or.inl rfl | exact Or.inr rfl) (dgs_cons (i := 6) sc_law_behind.nd rfl (by first | exact Or.inl rfl | exact Or.inr rfl) (dgs_nil))))) (fun _ _ _ _ _ => dt_one (t_eq u4 (dx_var 4) (dx_var 2))) (fun _ _ _ _ _ => dx_tup (da_cons (dx_var 5) (da_cons (dx_var 6) (da_nil))))) (ds_one (ds_ret (dx_if (t_ne u4 (dx_var 3) (dx_frz (ox_lst (da_nil)))) (dx_ix (dx_var 3) (dx_int) (fun _ _ => rfl)) (dx_non))))

abbrev s_law : Stmt := top 52
theorem sc_law : FnScope (["_law_script", "_law_box", "_law_turn", "_law_plan_here", "_law_one", "_law_other", "_law_told", "_law_cells_here", "_law_left", "_law_number", "_law_found"] : List Str) (["_law_script"] : List Str) (defScope s_law) := ⟨rfl, rfl, rfl, by decide +kernel, rfl, by decide +kernel, by decide +kernel⟩
theorem ok_law {f fB : Addr} {fd fdB : FuncData} (T : Txt K mg) (Fn : Fun K "law" "law" s_law f fd) (GB : FnOk P w K mg base (L2.CX P w) 1 fB fdB (["_law_script"] : List Str) (spBegun K)) (gB : mg "_law_begun" = some (.ref fB)) (kB : PySem.W.keepIn K (.ref fB) = true) (bB : Binds K fdB (["_law_script"] : List Str) [])
    (G_law_alike : GFn P w K mg base "_law_alike" 8 (["_law_found", "_law_due"] : List Str) (spD K 2 (f_law_alike 8))) (G_law_behind : GFn P w K mg base "_law_behind" 2 (["_law_plan_here", "_law_cells_here", "_law_k"] : List Str) (spD K 3 f_law_behind)) (G_law_cells : GFn P w K mg base "_law_cells" 2 (["_law_box", "_law_plan_here"] : List Str) (spB K 1 f_law_cells)) (G_law_plan : GFn P w K mg base "_law_plan" 2 (["_law_box", "_law_most"] : List Str) (spB K 1 f_law_plan)) (G_law_walk : GFn P w K mg base "_law_walk" 2 (["_law_box", "_law_plan_here", "_law_cells_here", "_law_most"] : List Str) (spB K 3 f_law_walk)) (Gjudged : GFn P w K mg base "judged" 5 (["plan", "one", "other", "told"] : List Str) (spD K 4 p_judged)) (Gleast : GFn P w K mg base "least" 7 (["plan", "one", "other"] : List Str) (spD K 3 p_least)) (Gway : GFn P w K mg base "way" 7 (["plan", "one", "other"] : List Str) (spD K 3 p_way)) (good : ∀ p ns, TrueL (law_den (initL none 11 p ns))) : FnOk P w K mg base (L2.CX P w) 9 f fd (["_law_script"] : List Str) (spLaw K) := by
  refine Fn.okX (k := 8) sc_law (fun vs H Q E h => ?_) (fun cdv A outer s H vs Q E hr h => ?_)
  · obtain ⟨a, ns, rfl, _⟩ := h
    rfl
  · have tk : Takes (cxOf (L2.CX P w) P w K mg base (["_law_script", "_law_box", "_law_turn", "_law_plan_here", "_law_one", "_law_other", "_law_told", "_law_cells_here", "_law_left", "_law_number", "_law_found"] : List Str) "law" (defScope s_law) f cdv A outer s H E) (fun c d _ H => E c d H) := takes_of rfl rfl rfl rfl
    have u4 := hr.units
    have u5 := u65 hr
    have hder : PSs (cxOf (L2.CX P w) P w K mg base (["_law_script", "_law_box", "_law_turn", "_law_plan_here", "_law_one", "_law_other", "_law_told", "_law_cells_here", "_law_left", "_law_number", "_law_found"] : List Str) "law" (defScope s_law) f cdv A outer s H E) ((defBody s_law).drop 1) (tS K (fun c d _ H => E c d H) law_den) := (ds_cons (ds_for (passes_of rfl) rfl (di_range1 (by rfl) T.range (da_cons (dx_int) (da_nil)) (len_cons len0)) (dg_name (i := 2) sc_law.nd rfl (by first | exact Or.inl rfl | exact Or.inr rfl)) (ds_cons (ds_set (i := 3) sc_law.nd rfl (by first | exact Or.inl rfl | exact Or.inr rfl) (dx_callBG 1 G_law_plan hr (by decide) tk (by rfl) (da_cons (dx_int) (da_nil)) (len_cons len0))) (ds_cons (ds_set (i := 4) sc_law.nd rfl (by first | exact Or.inl rfl | exact Or.inr rfl) (dx_callBG 1 G_law_cells hr (by decide) tk (by rfl) (da_cons (dx_var 3) (da_nil)) (len_cons len0))) (ds_cons (ds_set (i := 5) sc_law.nd rfl (by first | exact Or.inl rfl | exact Or.inr rfl) (dx_ix (dx_callBG 1 G_law_walk hr (by decide) tk (by rfl) (da_cons (dx_var 3) (da_cons (dx_var 4) (da_cons (dx_int) (da_nil)))) (len_cons (len_cons (len_cons len0)))) (dx_int) (fun _ _ => rfl))) (ds_cons (ds_par3L 6 7 8 (dl_consD (dx_callG Gway hr (by decide) tk (by rfl) (da_cons (dx_var 3) (da_cons (dx_var 4) (da_cons (dx_var 5) (da_nil)))) (len_cons (len_cons (len_cons len0)))) (dl_consD (dx_var 4) (dl_consD (dx_callG Gleast hr (by decide) tk (by rfl) (da_cons (dx_var 3) (da_cons (dx_var 4) (da_cons (dx_var 5) (da_nil)))) (len_cons (len_cons (len_cons len0)))) (dl_nil)))) rfl sc_law.nd rfl rfl rfl (by decide) (by decide) (by decide) rfl rfl rfl (by rfl)) (ds_cons (ds_if (dt_not (dt_val (dx_callG G_law_alike hr (by decide) tk (by rfl) (da_cons (dx_callG Gjudged hr (by decide) tk (by rfl) (da_cons (dx_var 3) (da_cons (dx_var 4) (da_cons (dx_var 5) (da_cons (dx_var 6) (da_nil))))) (len_cons (len_cons (len_cons (len_cons len0))))) (da_cons (dx_var 8) (da_nil))) (len_cons (len_cons len0))))) (ds_one (ds_ret (dx_bl))) (ds_nil)) (ds_cons (ds_for (passes_of rfl) rfl (di_range1 (by rfl) T.range (da_cons (dx_callB call_len vr_len nx_len (by rfl) T.len bt_len (da_cons (dx_var 6) (da_nil))) (da_nil)) (len_cons len0)) (dg_name (i := 9) sc_law.nd rfl (by first | exact Or.inl rfl | exact Or.inr rfl)) (ds_cons (ds_set (i := 10) sc_law.nd rfl (by first | exact Or.inl rfl | exact Or.inr rfl) (dx_callG G_law_behind hr (by decide) tk (by rfl) (da_cons (dx_var 3) (da_cons (dx_var 7) (da_cons (dx_ix (dx_var 6) (dx_var 9) (fun _ _ => rfl)) (da_nil)))) (len_cons (len_cons (len_cons len0))))) (ds_cons (ds_if (t_isN (dx_var 10) (dx_non)) (ds_one (ds_ret (dx_bl))) (ds_nil)) (ds_cons (ds_par 7 8 rfl sc_law.nd rfl rfl (by decide) rfl rfl (dx_ix (dx_var 10) (dx_int) (fun _ _ => rfl)) (x_sub (dx_var 8) (dx_ix (dx_var 10) (dx_int) (fun _ _ => rfl))) (by rfl)) (ds_cons (ds_if (dt_not (dt_val (dx_callG G_law_alike hr (by decide) tk (by rfl) (da_cons (dx_callG Gleast hr (by decide) tk (by rfl) (da_cons (dx_var 3) (da_cons (dx_var 7) (da_cons (dx_var 5) (da_nil)))) (len_cons (len_cons (len_cons len0)))) (da_cons (dx_var 8) (da_nil))) (len_cons (len_cons len0))))) (ds_one (ds_ret (dx_bl))) (ds_nil)) (ds_one (ds_if (dt_not (dt_val (dx_callG G_law_alike hr (by decide) tk (by rfl) (da_cons (dx_callG Gjudged hr (by decide) tk (by rfl) (da_cons (dx_var 3) (da_cons (dx_var 7) (da_cons (dx_var 5) (da_cons (dx_slice (dx_var 6) (dp_some (x_add (dx_var 9) (dx_int))) (dp_none)) (da_nil))))) (len_cons (len_cons (len_cons (len_cons len0))))) (da_cons (dx_var 8) (da_nil))) (len_cons (len_cons len0))))) (ds_one (ds_ret (dx_bl))) (ds_nil)))))))) (ds_one (ds_if (PW.pt (dw_or (t_ne u4 (dx_var 7) (dx_var 5)) (dw_or1 (t_ne u4 (dx_var 8) (dx_int))))) (ds_one (ds_ret (dx_bl))) (ds_nil)))))))))) (ds_one (ds_ret (dx_bl))))
    refine ⟨_, pss_cons (ps_set (i := 1) sc_law.nd rfl (by first | exact Or.inl rfl | exact Or.inr rfl) (pe_call (E := fun c d H => E c d H) GB (hr.mono (by decide)) (by rfl) gB kB bB .nil (passes_call tk fun _ _ _ _ z => z) (pa_cons (pv 0) pa_nil)))
      hder, ?_⟩
    obtain ⟨a, ns, rfl, hS, hlen, fin⟩ := h
    refine ⟨.ref a, rfl, a, ns, rfl, hS, by omega, fun H1 p B0 keep ok1 hB0 => ?_⟩
    refine ⟨⟨fun _ => none, H, fun _ => False, .ref p⟩, fun _ => none, initL none 11 p ns, ⟨rfl, ⟨fun _ _ z => (by cases z), Same.refl _, fun b o hb _ _ => keep b o hb, fun b o hb c => ⟨o, keep b o hb, c⟩, fun _ _ z => (by cases z), fun h => h, fun P0 q0 _ ⟨ps, z1, z2, z3⟩ => ⟨ps, keep _ _ z1, z2, fun pos cv z => (let ⟨c, e1, e2⟩ := z3 pos cv z; ⟨c, e1, keep _ _ e2⟩)⟩, fun b fs hb => keep _ _ hb⟩, fun j b => j = 1 ∧ B0 b, fun j t ht => ?_, fun j b ⟨hj, hb⟩ => ⟨rfl, .inr (Vac.of (hB0 b hb)), ok1.there b hb, by rw [hj]; exact fun z => by cases z⟩, fun j j' b ⟨h1, _⟩ ⟨h2, _⟩ => by rw [h1, h2], fun j t u ht hl hu => ?_⟩, ?_⟩
    · match j, ht with
      | 0, ht => cases ht
      | 1, ht =>
        have h2 : some (Sl.box p ns (begunI ns)) = some t := ht
        injection h2 with h2
        subst h2
        refine ⟨.ref p, rfl, ?_⟩
        have ea : (fun b => (1 : Nat) = 1 ∧ B0 b) = B0 := funext fun b => propext ⟨fun z => z.2, fun z => ⟨rfl, z⟩⟩
        show SlOk K (fun _ => none) H1 (.ref p) (.box p ns (begunI ns)) (fun b => (1 : Nat) = 1 ∧ B0 b)
        rw [ea]
        exact ok1
      | j + 2, ht =>
        have h2 : nth (List.replicate (11 - 2) (none : Option Sl)) j = some t := ht
        rw [nth_repl] at h2
        cases h2
    · match j, ht with
      | 0, ht => cases ht
      | 1, ht =>
        have h2 : some (Sl.box p ns (begunI ns)) = some t := ht
        injection h2 with h2
        subst h2
        cases hl
      | j + 2, ht =>
        have h2 : nth (List.replicate (11 - 2) (none : Option Sl)) j = some t := ht
        rw [nth_repl] at h2
        cases h2
    · have g := good p ns
      cases z : law_den (initL none 11 p ns) with
      | ret d e =>
        rw [z] at g
        cases d with
        | bl k =>
          cases k with
          | true => exact fun F' H' σ v R rv => by rw [rv.bl_inv]; exact fin H'
          | false => exact g.elim
        | _ => exact g.elim
      | _ => rw [z] at g; exact g.elim

end
end K14
end WW
set_option Elab.async false
set_option linter.all false
set_option maxRecDepth 100000
set_option maxHeartbeats 0
namespace WW
namespace K14
open PySem PySem.Spec L2
def fn : List He.DefD := [⟨("_law_take", none), "_law_take", "_law_take", defArgs s_law_take, defBody s_law_take, defScope s_law_take, [], []⟩,
  ⟨("_law_begun", none), "_law_begun", "_law_begun", defArgs s_law_begun, defBody s_law_begun, defScope s_law_begun, [], []⟩,
  ⟨("_law_alike", none), "_law_alike", "_law_alike", defArgs s_law_alike, defBody s_law_alike, defScope s_law_alike, [], []⟩,
  ⟨("is_number", none), "is_number", "is_number", defArgs sis_number, defBody sis_number, defScope sis_number, [], []⟩,
  ⟨("are_frozen", none), "are_frozen", "are_frozen", defArgs sare_frozen, defBody sare_frozen, defScope sare_frozen, [], []⟩,
  ⟨("are_weights", none), "are_weights", "are_weights", defArgs sare_weights, defBody sare_weights, defScope sare_weights, [], []⟩,
  ⟨("need_plan", none), "need_plan", "need_plan", defArgs sneed_plan, defBody sneed_plan, defScope sneed_plan, [], []⟩,
  ⟨("need_cells", none), "need_cells", "need_cells", defArgs sneed_cells, defBody sneed_cells, defScope sneed_cells, [], []⟩,
  ⟨("need_both", none), "need_both", "need_both", defArgs sneed_both, defBody sneed_both, defScope sneed_both, [], []⟩,
  ⟨("weight_of", none), "weight_of", "weight_of", defArgs sweight_of, defBody sweight_of, defScope sweight_of, [], []⟩,
  ⟨("beside", none), "beside", "beside", defArgs sbeside, defBody sbeside, defScope sbeside, [], []⟩,
  ⟨("turned", none), "turned", "turned", defArgs sturned, defBody sturned, defScope sturned, [], []⟩,
  ⟨("with_sign", none), "with_sign", "with_sign", defArgs swith_sign, defBody swith_sign, defScope swith_sign, [], []⟩,
  ⟨("turns_of", none), "turns_of", "turns_of", defArgs sturns_of, defBody sturns_of, defScope sturns_of, [], []⟩,
  ⟨("places_of", none), "places_of", "places_of", defArgs splaces_of, defBody splaces_of, defScope splaces_of, [], []⟩,
  ⟨("unrolled", none), "unrolled", "unrolled", defArgs sunrolled, defBody sunrolled, defScope sunrolled, [], []⟩,
  ⟨("opened", none), "opened", "opened", defArgs sopened, defBody sopened, defScope sopened, [], []⟩,
  ⟨("Match", some "__init__"), "__init__", "Match.__init__", defArgs sMatch___init__, defBody sMatch___init__, defScope sMatch___init__, [], []⟩,
  ⟨("between", none), "between", "between", defArgs sbetween, defBody sbetween, defScope sbetween, [], []⟩,
  ⟨("row_match", none), "row_match", "row_match", defArgs srow_match, defBody srow_match, defScope srow_match, [], []⟩,
  ⟨("signs_of", none), "signs_of", "signs_of", defArgs ssigns_of, defBody ssigns_of, defScope ssigns_of, [], []⟩,
  ⟨("period", none), "period", "period", defArgs speriod, defBody speriod, defScope speriod, [], []⟩,
  ⟨("far_place", none), "far_place", "far_place", defArgs sfar_place, defBody sfar_place, defScope sfar_place, [], []⟩,
  ⟨("Ring", some "__init__"), "__init__", "Ring.__init__", defArgs sRing___init__, defBody sRing___init__, defScope sRing___init__, [], []⟩,
  ⟨("Match", some "cost"), "cost", "Match.cost", defArgs sMatch_cost, defBody sMatch_cost, defScope sMatch_cost, [], []⟩,
  ⟨("Ring", some "by_shift"), "by_shift", "Ring.by_shift", defArgs sRing_by_shift, defBody sRing_by_shift, defScope sRing_by_shift, [], []⟩,
  ⟨("Ring", some "best"), "best", "Ring.best", defArgs sRing_best, defBody sRing_best, defScope sRing_best, [], []⟩,
  ⟨("Ring", some "last_below"), "last_below", "Ring.last_below", defArgs sRing_last_below, defBody sRing_last_below, defScope sRing_last_below, [], []⟩,
  ⟨("Ring", some "kinds"), "kinds", "Ring.kinds", defArgs sRing_kinds, defBody sRing_kinds, defScope sRing_kinds, [], []⟩,
  ⟨("ring_match", none), "ring_match", "ring_match", defArgs sring_match, defBody sring_match, defScope sring_match, [], []⟩,
  ⟨("match_of", none), "match_of", "match_of", defArgs smatch_of, defBody smatch_of, defScope smatch_of, [], []⟩,
  ⟨("need_match", none), "need_match", "need_match", defArgs sneed_match, defBody sneed_match, defScope sneed_match, [], []⟩,
  ⟨("least", none), "least", "least", defArgs sleast, defBody sleast, defScope sleast, [], []⟩,
  ⟨("way_of", none), "way_of", "way_of", defArgs sway_of, defBody sway_of, defScope sway_of, [], []⟩,
  ⟨("way", none), "way", "way", defArgs sway, defBody sway, defScope sway, [], []⟩,
  ⟨("judged", none), "judged", "judged", defArgs sjudged, defBody sjudged, defScope sjudged, [], []⟩,
  ⟨("_law_plan", none), "_law_plan", "_law_plan", defArgs s_law_plan, defBody s_law_plan, defScope s_law_plan, [], []⟩,
  ⟨("_law_cells", none), "_law_cells", "_law_cells", defArgs s_law_cells, defBody s_law_cells, defScope s_law_cells, [], []⟩,
  ⟨("_law_turns", none), "_law_turns", "_law_turns", defArgs s_law_turns, defBody s_law_turns, defScope s_law_turns, [], []⟩,
  ⟨("_law_walk", none), "_law_walk", "_law_walk", defArgs s_law_walk, defBody s_law_walk, defScope s_law_walk, [], []⟩,
  ⟨("_law_behind", none), "_law_behind", "_law_behind", defArgs s_law_behind, defBody s_law_behind, defScope s_law_behind, [], []⟩,
  ⟨("law", none), "law", "law", defArgs s_law, defBody s_law, defScope s_law, [], []⟩]
def cs : List Chk := [cFree "abs", cFree "all", cFree "bool", cFree "enumerate", cFree "int", cFree "isinstance", cFree "len", cFree "list", cFree "max", cFree "min", cFree "range", cFree "sorted", cFree "str", cFree "sum", cFree "tuple", cFree "zip", cStr "SIGNS" ("abcd" : Str), cInt "LEAST_CELLS" 3, cInt "MOST_CELLS" 12, cInt "MOST_WEIGHT" 9, cTup "PAIRS" (["ab", "ac", "ad", "bc", "bd", "cd"] : List Str), fun K => (He.Fa.cls "Match").ok K, fun K => (He.Fa.cls "Ring").ok K, fun K => (He.Fa.noat "Match" "counts").ok K, fun K => (He.Fa.noat "Match" "rows").ok K, fun K => (He.Fa.noat "Match" "shift").ok K, fun K => (He.Fa.noat "Ring" "first").ok K, fun K => (He.Fa.noat "Ring" "goals").ok K, fun K => (He.Fa.noat "Ring" "one").ok K, fun K => (He.Fa.noat "Ring" "plan").ok K, fun K => (He.Fa.noat "Ring" "starts").ok K, fun K => (He.Fa.noat "Ring" "step").ok K, cGlo "_law_take", cGlo "_law_begun", cGlo "_law_alike", cGlo "is_number", cGlo "are_frozen", cGlo "are_weights", cGlo "need_plan", cGlo "need_cells", cGlo "need_both", cGlo "weight_of", cGlo "beside", cGlo "turned", cGlo "with_sign", cGlo "turns_of", cGlo "places_of", cGlo "unrolled", cGlo "opened", cGlo "between", cGlo "row_match", cGlo "signs_of", cGlo "period", cGlo "far_place", cGlo "ring_match", cGlo "match_of", cGlo "need_match", cGlo "least", cGlo "way_of", cGlo "way", cGlo "judged", cGlo "_law_plan", cGlo "_law_cells", cGlo "_law_turns", cGlo "_law_walk", cGlo "_law_behind", cGlo "law", fun K => (He.Fa.mkr "Match").ok K, cGlo "Match", fun K => (He.Fa.mkr "Ring").ok K, cGlo "Ring", fun K => (He.Fa.meth "Match" "cost").ok K, fun K => (He.Fa.meth "Ring" "by_shift").ok K, fun K => (He.Fa.meth "Ring" "best").ok K, fun K => (He.Fa.meth "Ring" "last_below").ok K, fun K => (He.Fa.meth "Ring" "kinds").ok K]
abbrev Rw : PySem.W.OpenRow := PySem.W.OpenLaw.row PySem.Challenge.rw_wallwalk_k14_whole_great_ways
abbrev hk : PySem.W.Hook := hookW 5 cs fn
def ob (s : PySem.W.SharedT) : He.AlD := obsWG 5 cs fn (HandSHeadRun.getT s)
theorem ob_eq (s : PySem.W.SharedT) : ob s = hk.obs s.abs := obsWG_eq (HandSHeadRun.getT_eq s)
def loose : List PySem.Str := (["WallError", "BadPlan", "BadWay", "BadCells", "NoWay", "SIGNS", "LEAST_CELLS", "MOST_CELLS", "MOST_WEIGHT", "PAIRS", "is_number", "are_frozen", "are_weights", "need_plan", "need_cells", "need_both", "weight_of", "beside", "turned", "with_sign", "turns_of", "places_of", "unrolled", "opened", "Match", "row_match", "between", "signs_of", "period", "far_place"] : List PySem.Str) ++ (["Ring", "ring_match", "match_of", "need_match", "least", "way_of", "way", "judged", "_law_begun", "_law_take", "_law_alike", "_law_plan", "_law_cells", "_law_turns", "_law_walk", "_law_behind"] : List PySem.Str)
theorem run (w : World) : HandSHeadRun.RunEq Rw (PySem.W.view Rw.prog [52]) hk ob 20000 loose w := by
  intro os
  kernel_rfl
theorem facts {P : Program} {w : World} {K : PySem.W.Frag} {h : Heap} {mg : Str → Option Value} {fa : Addr} (X : K.In h) (G : h.Ns mainGlobals mg) (hfa : mg ("law" : Str) = some (.ref fa)) (c : SaysW cs fn K) (good : ∀ p ns, TrueL (law_den (initL none 11 p ns))) :
    ∃ fd : FuncData, (∀ (s : Shared) (v : Value), BindsTo s fd ⟨[v], []⟩ [("_law_script", v)]) ∧ ∀ base : Heap, K.In base → base.Ns mainGlobals mg → FnOk P w K mg base (L2.CX P w) 9 fa fd (["_law_script"] : List Str) (spLaw K) := by
  have T : Txt K mg := ⟨He.free_ok X G (c.fact 0 (f := cFree "abs") rfl), He.free_ok X G (c.fact 1 (f := cFree "all") rfl), He.free_ok X G (c.fact 2 (f := cFree "bool") rfl), He.free_ok X G (c.fact 3 (f := cFree "enumerate") rfl), He.free_ok X G (c.fact 4 (f := cFree "int") rfl), He.free_ok X G (c.fact 5 (f := cFree "isinstance") rfl), He.free_ok X G (c.fact 6 (f := cFree "len") rfl), He.free_ok X G (c.fact 7 (f := cFree "list") rfl), He.free_ok X G (c.fact 8 (f := cFree "max") rfl), He.free_ok X G (c.fact 9 (f := cFree "min") rfl), He.free_ok X G (c.fact 10 (f := cFree "range") rfl), He.free_ok X G (c.fact 11 (f := cFree "sorted") rfl), He.free_ok X G (c.fact 12 (f := cFree "str") rfl), He.free_ok X G (c.fact 13 (f := cFree "sum") rfl), He.free_ok X G (c.fact 14 (f := cFree "tuple") rfl), He.free_ok X G (c.fact 15 (f := cFree "zip") rfl), He.str_ok X G (c.fact 16 (f := cStr "SIGNS" ("abcd" : Str)) rfl), He.int_ok X G (c.fact 17 (f := cInt "LEAST_CELLS" 3) rfl), He.int_ok X G (c.fact 18 (f := cInt "MOST_CELLS" 12) rfl), He.int_ok X G (c.fact 19 (f := cInt "MOST_WEIGHT" 9) rfl), cTup_ok X G (c.fact 20 (f := cTup "PAIRS" (["ab", "ac", "ad", "bc", "bd", "cd"] : List Str)) rfl), He.cls_ok (c.fact 21 (f := fun K => (He.Fa.cls "Match").ok K) rfl), He.cls_ok (c.fact 22 (f := fun K => (He.Fa.cls "Ring").ok K) rfl), He.noat_ok (c.fact 23 (f := fun K => (He.Fa.noat "Match" "counts").ok K) rfl), He.noat_ok (c.fact 24 (f := fun K => (He.Fa.noat "Match" "rows").ok K) rfl), He.noat_ok (c.fact 25 (f := fun K => (He.Fa.noat "Match" "shift").ok K) rfl), He.noat_ok (c.fact 26 (f := fun K => (He.Fa.noat "Ring" "first").ok K) rfl), He.noat_ok (c.fact 27 (f := fun K => (He.Fa.noat "Ring" "goals").ok K) rfl), He.noat_ok (c.fact 28 (f := fun K => (He.Fa.noat "Ring" "one").ok K) rfl), He.noat_ok (c.fact 29 (f := fun K => (He.Fa.noat "Ring" "plan").ok K) rfl), He.noat_ok (c.fact 30 (f := fun K => (He.Fa.noat "Ring" "starts").ok K) rfl), He.noat_ok (c.fact 31 (f := fun K => (He.Fa.noat "Ring" "step").ok K) rfl)⟩
  obtain ⟨fd_law_take, D_law_take⟩ := c.def_ 0 (d := ⟨("_law_take", none), "_law_take", "_law_take", defArgs s_law_take, defBody s_law_take, defScope s_law_take, [], []⟩) rfl
  have F_law_take := toFun (st := s_law_take) D_law_take
  have g_law_take : mg "_law_take" = some (.ref (He.ga K "_law_take")) := He.glo_ok X G (c.fact 32 (f := cGlo "_law_take") rfl)
  have b_law_take : Binds K fd_law_take (["_law_box", "_law_size"] : List Str) [] := FunD.bindsN D_law_take fun _ _ _ _ _ _ us hl => match us, hl with | [_, _], _ => rfl
  have k_law_take := F_law_take.kp
  obtain ⟨fd_law_begun, D_law_begun⟩ := c.def_ 1 (d := ⟨("_law_begun", none), "_law_begun", "_law_begun", defArgs s_law_begun, defBody s_law_begun, defScope s_law_begun, [], []⟩) rfl
  have F_law_begun := toFun (st := s_law_begun) D_law_begun
  have g_law_begun : mg "_law_begun" = some (.ref (He.ga K "_law_begun")) := He.glo_ok X G (c.fact 33 (f := cGlo "_law_begun") rfl)
  have b_law_begun : Binds K fd_law_begun (["_law_script"] : List Str) [] := FunD.bindsN D_law_begun fun _ _ _ _ _ _ us hl => match us, hl with | [_], _ => rfl
  have k_law_begun := F_law_begun.kp
  obtain ⟨fd_law_alike, D_law_alike⟩ := c.def_ 2 (d := ⟨("_law_alike", none), "_law_alike", "_law_alike", defArgs s_law_alike, defBody s_law_alike, defScope s_law_alike, [], []⟩) rfl
  have F_law_alike := toFun (st := s_law_alike) D_law_alike
  have g_law_alike : mg "_law_alike" = some (.ref (He.ga K "_law_alike")) := He.glo_ok X G (c.fact 34 (f := cGlo "_law_alike") rfl)
  have b_law_alike : Binds K fd_law_alike (["_law_found", "_law_due"] : List Str) [] := FunD.bindsN D_law_alike fun _ _ _ _ _ _ us hl => match us, hl with | [_, _], _ => rfl
  have k_law_alike := F_law_alike.kp
  obtain ⟨fdis_number, Dis_number⟩ := c.def_ 3 (d := ⟨("is_number", none), "is_number", "is_number", defArgs sis_number, defBody sis_number, defScope sis_number, [], []⟩) rfl
  have Fis_number := toFun (st := sis_number) Dis_number
  have gis_number : mg "is_number" = some (.ref (He.ga K "is_number")) := He.glo_ok X G (c.fact 35 (f := cGlo "is_number") rfl)
  have bis_number : Binds K fdis_number (["part", "low", "high"] : List Str) [] := FunD.bindsN Dis_number fun _ _ _ _ _ _ us hl => match us, hl with | [_, _, _], _ => rfl
  have kis_number := Fis_number.kp
  obtain ⟨fdare_frozen, Dare_frozen⟩ := c.def_ 4 (d := ⟨("are_frozen", none), "are_frozen", "are_frozen", defArgs sare_frozen, defBody sare_frozen, defScope sare_frozen, [], []⟩) rfl
  have Fare_frozen := toFun (st := sare_frozen) Dare_frozen
  have gare_frozen : mg "are_frozen" = some (.ref (He.ga K "are_frozen")) := He.glo_ok X G (c.fact 36 (f := cGlo "are_frozen") rfl)
  have bare_frozen : Binds K fdare_frozen (["frozen", "many"] : List Str) [] := FunD.bindsN Dare_frozen fun _ _ _ _ _ _ us hl => match us, hl with | [_, _], _ => rfl
  have kare_frozen := Fare_frozen.kp
  obtain ⟨fdare_weights, Dare_weights⟩ := c.def_ 5 (d := ⟨("are_weights", none), "are_weights", "are_weights", defArgs sare_weights, defBody sare_weights, defScope sare_weights, [], []⟩) rfl
  have Fare_weights := toFun (st := sare_weights) Dare_weights
  have gare_weights : mg "are_weights" = some (.ref (He.ga K "are_weights")) := He.glo_ok X G (c.fact 37 (f := cGlo "are_weights") rfl)
  have bare_weights : Binds K fdare_weights (["weights"] : List Str) [] := FunD.bindsN Dare_weights fun _ _ _ _ _ _ us hl => match us, hl with | [_], _ => rfl
  have kare_weights := Fare_weights.kp
  obtain ⟨fdneed_plan, Dneed_plan⟩ := c.def_ 6 (d := ⟨("need_plan", none), "need_plan", "need_plan", defArgs sneed_plan, defBody sneed_plan, defScope sneed_plan, [], []⟩) rfl
  have Fneed_plan := toFun (st := sneed_plan) Dneed_plan
  have gneed_plan : mg "need_plan" = some (.ref (He.ga K "need_plan")) := He.glo_ok X G (c.fact 38 (f := cGlo "need_plan") rfl)
  have bneed_plan : Binds K fdneed_plan (["plan"] : List Str) [] := FunD.bindsN Dneed_plan fun _ _ _ _ _ _ us hl => match us, hl with | [_], _ => rfl
  have kneed_plan := Fneed_plan.kp
  obtain ⟨fdneed_cells, Dneed_cells⟩ := c.def_ 7 (d := ⟨("need_cells", none), "need_cells", "need_cells", defArgs sneed_cells, defBody sneed_cells, defScope sneed_cells, [], []⟩) rfl
  have Fneed_cells := toFun (st := sneed_cells) Dneed_cells
  have gneed_cells : mg "need_cells" = some (.ref (He.ga K "need_cells")) := He.glo_ok X G (c.fact 39 (f := cGlo "need_cells") rfl)
  have bneed_cells : Binds K fdneed_cells (["plan", "cells"] : List Str) [] := FunD.bindsN Dneed_cells fun _ _ _ _ _ _ us hl => match us, hl with | [_, _], _ => rfl
  have kneed_cells := Fneed_cells.kp
  obtain ⟨fdneed_both, Dneed_both⟩ := c.def_ 8 (d := ⟨("need_both", none), "need_both", "need_both", defArgs sneed_both, defBody sneed_both, defScope sneed_both, [], []⟩) rfl
  have Fneed_both := toFun (st := sneed_both) Dneed_both
  have gneed_both : mg "need_both" = some (.ref (He.ga K "need_both")) := He.glo_ok X G (c.fact 40 (f := cGlo "need_both") rfl)
  have bneed_both : Binds K fdneed_both (["plan", "one", "other"] : List Str) [] := FunD.bindsN Dneed_both fun _ _ _ _ _ _ us hl => match us, hl with | [_, _, _], _ => rfl
  have kneed_both := Fneed_both.kp
  obtain ⟨fdweight_of, Dweight_of⟩ := c.def_ 9 (d := ⟨("weight_of", none), "weight_of", "weight_of", defArgs sweight_of, defBody sweight_of, defScope sweight_of, [], []⟩) rfl
  have Fweight_of := toFun (st := sweight_of) Dweight_of
  have gweight_of : mg "weight_of" = some (.ref (He.ga K "weight_of")) := He.glo_ok X G (c.fact 41 (f := cGlo "weight_of") rfl)
  have bweight_of : Binds K fdweight_of (["plan", "one", "other"] : List Str) [] := FunD.bindsN Dweight_of fun _ _ _ _ _ _ us hl => match us, hl with | [_, _, _], _ => rfl
  have kweight_of := Fweight_of.kp
  obtain ⟨fdbeside, Dbeside⟩ := c.def_ 10 (d := ⟨("beside", none), "beside", "beside", defArgs sbeside, defBody sbeside, defScope sbeside, [], []⟩) rfl
  have Fbeside := toFun (st := sbeside) Dbeside
  have gbeside : mg "beside" = some (.ref (He.ga K "beside")) := He.glo_ok X G (c.fact 42 (f := cGlo "beside") rfl)
  have bbeside : Binds K fdbeside (["plan", "cells", "cell"] : List Str) [] := FunD.bindsN Dbeside fun _ _ _ _ _ _ us hl => match us, hl with | [_, _, _], _ => rfl
  have kbeside := Fbeside.kp
  obtain ⟨fdturned, Dturned⟩ := c.def_ 11 (d := ⟨("turned", none), "turned", "turned", defArgs sturned, defBody sturned, defScope sturned, [], []⟩) rfl
  have Fturned := toFun (st := sturned) Dturned
  have gturned : mg "turned" = some (.ref (He.ga K "turned")) := He.glo_ok X G (c.fact 43 (f := cGlo "turned") rfl)
  have bturned : Binds K fdturned (["plan", "cells", "cell"] : List Str) [] := FunD.bindsN Dturned fun _ _ _ _ _ _ us hl => match us, hl with | [_, _, _], _ => rfl
  have kturned := Fturned.kp
  obtain ⟨fdwith_sign, Dwith_sign⟩ := c.def_ 12 (d := ⟨("with_sign", none), "with_sign", "with_sign", defArgs swith_sign, defBody swith_sign, defScope swith_sign, [], []⟩) rfl
  have Fwith_sign := toFun (st := swith_sign) Dwith_sign
  have gwith_sign : mg "with_sign" = some (.ref (He.ga K "with_sign")) := He.glo_ok X G (c.fact 44 (f := cGlo "with_sign") rfl)
  have bwith_sign : Binds K fdwith_sign (["cells", "cell", "sign"] : List Str) [] := FunD.bindsN Dwith_sign fun _ _ _ _ _ _ us hl => match us, hl with | [_, _, _], _ => rfl
  have kwith_sign := Fwith_sign.kp
  obtain ⟨fdturns_of, Dturns_of⟩ := c.def_ 13 (d := ⟨("turns_of", none), "turns_of", "turns_of", defArgs sturns_of, defBody sturns_of, defScope sturns_of, [], []⟩) rfl
  have Fturns_of := toFun (st := sturns_of) Dturns_of
  have gturns_of : mg "turns_of" = some (.ref (He.ga K "turns_of")) := He.glo_ok X G (c.fact 45 (f := cGlo "turns_of") rfl)
  have bturns_of : Binds K fdturns_of (["plan", "cells"] : List Str) [] := FunD.bindsN Dturns_of fun _ _ _ _ _ _ us hl => match us, hl with | [_, _], _ => rfl
  have kturns_of := Fturns_of.kp
  obtain ⟨fdplaces_of, Dplaces_of⟩ := c.def_ 14 (d := ⟨("places_of", none), "places_of", "places_of", defArgs splaces_of, defBody splaces_of, defScope splaces_of, [], []⟩) rfl
  have Fplaces_of := toFun (st := splaces_of) Dplaces_of
  have gplaces_of : mg "places_of" = some (.ref (He.ga K "places_of")) := He.glo_ok X G (c.fact 46 (f := cGlo "places_of") rfl)
  have bplaces_of : Binds K fdplaces_of (["plan", "cells"] : List Str) [] := FunD.bindsN Dplaces_of fun _ _ _ _ _ _ us hl => match us, hl with | [_, _], _ => rfl
  have kplaces_of := Fplaces_of.kp
  obtain ⟨fdunrolled, Dunrolled⟩ := c.def_ 15 (d := ⟨("unrolled", none), "unrolled", "unrolled", defArgs sunrolled, defBody sunrolled, defScope sunrolled, [], []⟩) rfl
  have Funrolled := toFun (st := sunrolled) Dunrolled
  have gunrolled : mg "unrolled" = some (.ref (He.ga K "unrolled")) := He.glo_ok X G (c.fact 47 (f := cGlo "unrolled") rfl)
  have bunrolled : Binds K fdunrolled (["plan", "cells"] : List Str) [] := FunD.bindsN Dunrolled fun _ _ _ _ _ _ us hl => match us, hl with | [_, _], _ => rfl
  have kunrolled := Funrolled.kp
  obtain ⟨fdopened, Dopened⟩ := c.def_ 16 (d := ⟨("opened", none), "opened", "opened", defArgs sopened, defBody sopened, defScope sopened, [], []⟩) rfl
  have Fopened := toFun (st := sopened) Dopened
  have gopened : mg "opened" = some (.ref (He.ga K "opened")) := He.glo_ok X G (c.fact 48 (f := cGlo "opened") rfl)
  have bopened : Binds K fdopened (["plan"] : List Str) [] := FunD.bindsN Dopened fun _ _ _ _ _ _ us hl => match us, hl with | [_], _ => rfl
  have kopened := Fopened.kp
  obtain ⟨fdMatch___init__, DMatch___init__⟩ := c.def_ 17 (d := ⟨("Match", some "__init__"), "__init__", "Match.__init__", defArgs sMatch___init__, defBody sMatch___init__, defScope sMatch___init__, [], []⟩) rfl
  have bMatch___init__ : Binds K fdMatch___init__ (["self", "rows", "counts", "shift"] : List Str) [] := FunD.bindsN DMatch___init__ fun _ _ _ _ _ _ us hl => match us, hl with | [_, _, _, _], _ => rfl
  obtain ⟨fdbetween, Dbetween⟩ := c.def_ 18 (d := ⟨("between", none), "between", "between", defArgs sbetween, defBody sbetween, defScope sbetween, [], []⟩) rfl
  have Fbetween := toFun (st := sbetween) Dbetween
  have gbetween : mg "between" = some (.ref (He.ga K "between")) := He.glo_ok X G (c.fact 49 (f := cGlo "between") rfl)
  have bbetween : Binds K fdbetween (["row", "cell"] : List Str) [] := FunD.bindsN Dbetween fun _ _ _ _ _ _ us hl => match us, hl with | [_, _], _ => rfl
  have kbetween := Fbetween.kp
  obtain ⟨fdrow_match, Drow_match⟩ := c.def_ 19 (d := ⟨("row_match", none), "row_match", "row_match", defArgs srow_match, defBody srow_match, defScope srow_match, [], []⟩) rfl
  have Frow_match := toFun (st := srow_match) Drow_match
  have grow_match : mg "row_match" = some (.ref (He.ga K "row_match")) := He.glo_ok X G (c.fact 50 (f := cGlo "row_match") rfl)
  have brow_match : Binds K fdrow_match (["plan", "one", "other"] : List Str) [] := FunD.bindsN Drow_match fun _ _ _ _ _ _ us hl => match us, hl with | [_, _, _], _ => rfl
  have krow_match := Frow_match.kp
  obtain ⟨fdsigns_of, Dsigns_of⟩ := c.def_ 20 (d := ⟨("signs_of", none), "signs_of", "signs_of", defArgs ssigns_of, defBody ssigns_of, defScope ssigns_of, [], []⟩) rfl
  have Fsigns_of := toFun (st := ssigns_of) Dsigns_of
  have gsigns_of : mg "signs_of" = some (.ref (He.ga K "signs_of")) := He.glo_ok X G (c.fact 51 (f := cGlo "signs_of") rfl)
  have bsigns_of : Binds K fdsigns_of (["plan", "cells", "places"] : List Str) [] := FunD.bindsN Dsigns_of fun _ _ _ _ _ _ us hl => match us, hl with | [_, _, _], _ => rfl
  have ksigns_of := Fsigns_of.kp
  obtain ⟨fdperiod, Dperiod⟩ := c.def_ 21 (d := ⟨("period", none), "period", "period", defArgs speriod, defBody speriod, defScope speriod, [], []⟩) rfl
  have Fperiod := toFun (st := speriod) Dperiod
  have gperiod : mg "period" = some (.ref (He.ga K "period")) := He.glo_ok X G (c.fact 52 (f := cGlo "period") rfl)
  have bperiod : Binds K fdperiod (["signs"] : List Str) [] := FunD.bindsN Dperiod fun _ _ _ _ _ _ us hl => match us, hl with | [_], _ => rfl
  have kperiod := Fperiod.kp
  obtain ⟨fdfar_place, Dfar_place⟩ := c.def_ 22 (d := ⟨("far_place", none), "far_place", "far_place", defArgs sfar_place, defBody sfar_place, defScope sfar_place, [], []⟩) rfl
  have Ffar_place := toFun (st := sfar_place) Dfar_place
  have gfar_place : mg "far_place" = some (.ref (He.ga K "far_place")) := He.glo_ok X G (c.fact 53 (f := cGlo "far_place") rfl)
  have bfar_place : Binds K fdfar_place (["places", "number", "many"] : List Str) [] := FunD.bindsN Dfar_place fun _ _ _ _ _ _ us hl => match us, hl with | [_, _, _], _ => rfl
  have kfar_place := Ffar_place.kp
  obtain ⟨fdRing___init__, DRing___init__⟩ := c.def_ 23 (d := ⟨("Ring", some "__init__"), "__init__", "Ring.__init__", defArgs sRing___init__, defBody sRing___init__, defScope sRing___init__, [], []⟩) rfl
  have bRing___init__ : Binds K fdRing___init__ (["self", "plan", "one", "other"] : List Str) [] := FunD.bindsN DRing___init__ fun _ _ _ _ _ _ us hl => match us, hl with | [_, _, _, _], _ => rfl
  obtain ⟨fdMatch_cost, DMatch_cost⟩ := c.def_ 24 (d := ⟨("Match", some "cost"), "cost", "Match.cost", defArgs sMatch_cost, defBody sMatch_cost, defScope sMatch_cost, [], []⟩) rfl
  have bMatch_cost : Binds K fdMatch_cost (["self"] : List Str) [] := FunD.bindsN DMatch_cost fun _ _ _ _ _ _ us hl => match us, hl with | [_], _ => rfl
  obtain ⟨fdRing_by_shift, DRing_by_shift⟩ := c.def_ 25 (d := ⟨("Ring", some "by_shift"), "by_shift", "Ring.by_shift", defArgs sRing_by_shift, defBody sRing_by_shift, defScope sRing_by_shift, [], []⟩) rfl
  have bRing_by_shift : Binds K fdRing_by_shift (["self", "shift"] : List Str) [] := FunD.bindsN DRing_by_shift fun _ _ _ _ _ _ us hl => match us, hl with | [_, _], _ => rfl
  obtain ⟨fdRing_best, DRing_best⟩ := c.def_ 26 (d := ⟨("Ring", some "best"), "best", "Ring.best", defArgs sRing_best, defBody sRing_best, defScope sRing_best, [], []⟩) rfl
  have bRing_best : Binds K fdRing_best (["self"] : List Str) [] := FunD.bindsN DRing_best fun _ _ _ _ _ _ us hl => match us, hl with | [_], _ => rfl
  obtain ⟨fdRing_last_below, DRing_last_below⟩ := c.def_ 27 (d := ⟨("Ring", some "last_below"), "last_below", "Ring.last_below", defArgs sRing_last_below, defBody sRing_last_below, defScope sRing_last_below, [], []⟩) rfl
  have bRing_last_below : Binds K fdRing_last_below (["self", "places", "kind", "cell"] : List Str) [] := FunD.bindsN DRing_last_below fun _ _ _ _ _ _ us hl => match us, hl with | [_, _, _, _], _ => rfl
  obtain ⟨fdRing_kinds, DRing_kinds⟩ := c.def_ 28 (d := ⟨("Ring", some "kinds"), "kinds", "Ring.kinds", defArgs sRing_kinds, defBody sRing_kinds, defScope sRing_kinds, [], []⟩) rfl
  have bRing_kinds : Binds K fdRing_kinds (["self"] : List Str) [] := FunD.bindsN DRing_kinds fun _ _ _ _ _ _ us hl => match us, hl with | [_], _ => rfl
  obtain ⟨fdring_match, Dring_match⟩ := c.def_ 29 (d := ⟨("ring_match", none), "ring_match", "ring_match", defArgs sring_match, defBody sring_match, defScope sring_match, [], []⟩) rfl
  have Fring_match := toFun (st := sring_match) Dring_match
  have gring_match : mg "ring_match" = some (.ref (He.ga K "ring_match")) := He.glo_ok X G (c.fact 54 (f := cGlo "ring_match") rfl)
  have bring_match : Binds K fdring_match (["plan", "one", "other"] : List Str) [] := FunD.bindsN Dring_match fun _ _ _ _ _ _ us hl => match us, hl with | [_, _, _], _ => rfl
  have kring_match := Fring_match.kp
  obtain ⟨fdmatch_of, Dmatch_of⟩ := c.def_ 30 (d := ⟨("match_of", none), "match_of", "match_of", defArgs smatch_of, defBody smatch_of, defScope smatch_of, [], []⟩) rfl
  have Fmatch_of := toFun (st := smatch_of) Dmatch_of
  have gmatch_of : mg "match_of" = some (.ref (He.ga K "match_of")) := He.glo_ok X G (c.fact 55 (f := cGlo "match_of") rfl)
  have bmatch_of : Binds K fdmatch_of (["plan", "one", "other"] : List Str) [] := FunD.bindsN Dmatch_of fun _ _ _ _ _ _ us hl => match us, hl with | [_, _, _], _ => rfl
  have kmatch_of := Fmatch_of.kp
  obtain ⟨fdneed_match, Dneed_match⟩ := c.def_ 31 (d := ⟨("need_match", none), "need_match", "need_match", defArgs sneed_match, defBody sneed_match, defScope sneed_match, [], []⟩) rfl
  have Fneed_match := toFun (st := sneed_match) Dneed_match
  have gneed_match : mg "need_match" = some (.ref (He.ga K "need_match")) := He.glo_ok X G (c.fact 56 (f := cGlo "need_match") rfl)
  have bneed_match : Binds K fdneed_match (["plan", "one", "other"] : List Str) [] := FunD.bindsN Dneed_match fun _ _ _ _ _ _ us hl => match us, hl with | [_, _, _], _ => rfl
  have kneed_match := Fneed_match.kp
  obtain ⟨fdleast, Dleast⟩ := c.def_ 32 (d := ⟨("least", none), "least", "least", defArgs sleast, defBody sleast, defScope sleast, [], []⟩) rfl
  have Fleast := toFun (st := sleast) Dleast
  have gleast : mg "least" = some (.ref (He.ga K "least")) := He.glo_ok X G (c.fact 57 (f := cGlo "least") rfl)
  have bleast : Binds K fdleast (["plan", "one", "other"] : List Str) [] := FunD.bindsN Dleast fun _ _ _ _ _ _ us hl => match us, hl with | [_, _, _], _ => rfl
  have kleast := Fleast.kp
  obtain ⟨fdway_of, Dway_of⟩ := c.def_ 33 (d := ⟨("way_of", none), "way_of", "way_of", defArgs sway_of, defBody sway_of, defScope sway_of, [], []⟩) rfl
  have Fway_of := toFun (st := sway_of) Dway_of
  have gway_of : mg "way_of" = some (.ref (He.ga K "way_of")) := He.glo_ok X G (c.fact 58 (f := cGlo "way_of") rfl)
  have bway_of : Binds K fdway_of (["plan", "one", "other"] : List Str) [] := FunD.bindsN Dway_of fun _ _ _ _ _ _ us hl => match us, hl with | [_, _, _], _ => rfl
  have kway_of := Fway_of.kp
  obtain ⟨fdway, Dway⟩ := c.def_ 34 (d := ⟨("way", none), "way", "way", defArgs sway, defBody sway, defScope sway, [], []⟩) rfl
  have Fway := toFun (st := sway) Dway
  have gway : mg "way" = some (.ref (He.ga K "way")) := He.glo_ok X G (c.fact 59 (f := cGlo "way") rfl)
  have bway : Binds K fdway (["plan", "one", "other"] : List Str) [] := FunD.bindsN Dway fun _ _ _ _ _ _ us hl => match us, hl with | [_, _, _], _ => rfl
  have kway := Fway.kp
  obtain ⟨fdjudged, Djudged⟩ := c.def_ 35 (d := ⟨("judged", none), "judged", "judged", defArgs sjudged, defBody sjudged, defScope sjudged, [], []⟩) rfl
  have Fjudged := toFun (st := sjudged) Djudged
  have gjudged : mg "judged" = some (.ref (He.ga K "judged")) := He.glo_ok X G (c.fact 60 (f := cGlo "judged") rfl)
  have bjudged : Binds K fdjudged (["plan", "one", "other", "told"] : List Str) [] := FunD.bindsN Djudged fun _ _ _ _ _ _ us hl => match us, hl with | [_, _, _, _], _ => rfl
  have kjudged := Fjudged.kp
  obtain ⟨fd_law_plan, D_law_plan⟩ := c.def_ 36 (d := ⟨("_law_plan", none), "_law_plan", "_law_plan", defArgs s_law_plan, defBody s_law_plan, defScope s_law_plan, [], []⟩) rfl
  have F_law_plan := toFun (st := s_law_plan) D_law_plan
  have g_law_plan : mg "_law_plan" = some (.ref (He.ga K "_law_plan")) := He.glo_ok X G (c.fact 61 (f := cGlo "_law_plan") rfl)
  have b_law_plan : Binds K fd_law_plan (["_law_box", "_law_most"] : List Str) [] := FunD.bindsN D_law_plan fun _ _ _ _ _ _ us hl => match us, hl with | [_, _], _ => rfl
  have k_law_plan := F_law_plan.kp
  obtain ⟨fd_law_cells, D_law_cells⟩ := c.def_ 37 (d := ⟨("_law_cells", none), "_law_cells", "_law_cells", defArgs s_law_cells, defBody s_law_cells, defScope s_law_cells, [], []⟩) rfl
  have F_law_cells := toFun (st := s_law_cells) D_law_cells
  have g_law_cells : mg "_law_cells" = some (.ref (He.ga K "_law_cells")) := He.glo_ok X G (c.fact 62 (f := cGlo "_law_cells") rfl)
  have b_law_cells : Binds K fd_law_cells (["_law_box", "_law_plan_here"] : List Str) [] := FunD.bindsN D_law_cells fun _ _ _ _ _ _ us hl => match us, hl with | [_, _], _ => rfl
  have k_law_cells := F_law_cells.kp
  obtain ⟨fd_law_turns, D_law_turns⟩ := c.def_ 38 (d := ⟨("_law_turns", none), "_law_turns", "_law_turns", defArgs s_law_turns, defBody s_law_turns, defScope s_law_turns, [], []⟩) rfl
  have F_law_turns := toFun (st := s_law_turns) D_law_turns
  have g_law_turns : mg "_law_turns" = some (.ref (He.ga K "_law_turns")) := He.glo_ok X G (c.fact 63 (f := cGlo "_law_turns") rfl)
  have b_law_turns : Binds K fd_law_turns (["_law_plan_here", "_law_cells_here"] : List Str) [] := FunD.bindsN D_law_turns fun _ _ _ _ _ _ us hl => match us, hl with | [_, _], _ => rfl
  have k_law_turns := F_law_turns.kp
  obtain ⟨fd_law_walk, D_law_walk⟩ := c.def_ 39 (d := ⟨("_law_walk", none), "_law_walk", "_law_walk", defArgs s_law_walk, defBody s_law_walk, defScope s_law_walk, [], []⟩) rfl
  have F_law_walk := toFun (st := s_law_walk) D_law_walk
  have g_law_walk : mg "_law_walk" = some (.ref (He.ga K "_law_walk")) := He.glo_ok X G (c.fact 64 (f := cGlo "_law_walk") rfl)
  have b_law_walk : Binds K fd_law_walk (["_law_box", "_law_plan_here", "_law_cells_here", "_law_most"] : List Str) [] := FunD.bindsN D_law_walk fun _ _ _ _ _ _ us hl => match us, hl with | [_, _, _, _], _ => rfl
  have k_law_walk := F_law_walk.kp
  obtain ⟨fd_law_behind, D_law_behind⟩ := c.def_ 40 (d := ⟨("_law_behind", none), "_law_behind", "_law_behind", defArgs s_law_behind, defBody s_law_behind, defScope s_law_behind, [], []⟩) rfl
  have F_law_behind := toFun (st := s_law_behind) D_law_behind
  have g_law_behind : mg "_law_behind" = some (.ref (He.ga K "_law_behind")) := He.glo_ok X G (c.fact 65 (f := cGlo "_law_behind") rfl)
  have b_law_behind : Binds K fd_law_behind (["_law_plan_here", "_law_cells_here", "_law_k"] : List Str) [] := FunD.bindsN D_law_behind fun _ _ _ _ _ _ us hl => match us, hl with | [_, _, _], _ => rfl
  have k_law_behind := F_law_behind.kp
  obtain ⟨fd_law, D_law⟩ := c.def_ 41 (d := ⟨("law", none), "law", "law", defArgs s_law, defBody s_law, defScope s_law, [], []⟩) rfl
  have F_law := toFun (st := s_law) D_law
  have g_law : mg "law" = some (.ref (He.ga K "law")) := He.glo_ok X G (c.fact 66 (f := cGlo "law") rfl)
  have b_law : Binds K fd_law (["_law_script"] : List Str) [] := FunD.bindsN D_law fun _ _ _ _ _ _ us hl => match us, hl with | [_], _ => rfl
  have k_law := F_law.kp
  have e := hfa.symm.trans g_law
  cases e
  refine ⟨fd_law, fun s v => ?_, fun base _ _ => ?_⟩
  · have b := FunD.bindsA (ps := (["_law_script"] : List Str)) D_law fun _ _ _ _ _ _ us hl => match us, hl with | [_], _ => rfl
    exact b s [v] rfl
  have G_law_take : GFn P w K mg base "_law_take" 1 (["_law_box", "_law_size"] : List Str) (spB K 1 f_law_take) := ⟨_, _, ok_law_take T F_law_take, g_law_take, k_law_take, b_law_take⟩
  have G_law_alike : GFn P w K mg base "_law_alike" 8 (["_law_found", "_law_due"] : List Str) (spD K 2 (f_law_alike 8)) := ⟨_, _, ok_law_alike T F_law_alike g_law_alike b_law_alike 8, g_law_alike, k_law_alike, b_law_alike⟩
  have Gis_number : GFn P w K mg base "is_number" 1 (["part", "low", "high"] : List Str) (spD K 3 p_is_number) := ⟨_, _, okis_number T Fis_number , gis_number, kis_number, bis_number⟩
  have Gare_frozen : GFn P w K mg base "are_frozen" 2 (["frozen", "many"] : List Str) (spD K 2 p_are_frozen) := ⟨_, _, okare_frozen T Fare_frozen Gis_number, gare_frozen, kare_frozen, bare_frozen⟩
  have Gare_weights : GFn P w K mg base "are_weights" 2 (["weights"] : List Str) (spD K 1 p_are_weights) := ⟨_, _, okare_weights T Fare_weights Gis_number, gare_weights, kare_weights, bare_weights⟩
  have Gneed_plan : GFn P w K mg base "need_plan" 3 (["plan"] : List Str) (spD K 1 p_need_plan) := ⟨_, _, okneed_plan T Fneed_plan Gare_frozen Gare_weights Gis_number, gneed_plan, kneed_plan, bneed_plan⟩
  have Gneed_cells : GFn P w K mg base "need_cells" 1 (["plan", "cells"] : List Str) (spD K 2 p_need_cells) := ⟨_, _, okneed_cells T Fneed_cells , gneed_cells, kneed_cells, bneed_cells⟩
  have Gneed_both : GFn P w K mg base "need_both" 4 (["plan", "one", "other"] : List Str) (spD K 3 p_need_both) := ⟨_, _, okneed_both T Fneed_both Gneed_cells Gneed_plan, gneed_both, kneed_both, bneed_both⟩
  have Gweight_of : GFn P w K mg base "weight_of" 1 (["plan", "one", "other"] : List Str) (spD K 3 p_weight_of) := ⟨_, _, okweight_of T Fweight_of , gweight_of, kweight_of, bweight_of⟩
  have Gbeside : GFn P w K mg base "beside" 1 (["plan", "cells", "cell"] : List Str) (spD K 3 p_beside) := ⟨_, _, okbeside T Fbeside , gbeside, kbeside, bbeside⟩
  have Gturned : GFn P w K mg base "turned" 2 (["plan", "cells", "cell"] : List Str) (spD K 3 p_turned) := ⟨_, _, okturned T Fturned Gbeside, gturned, kturned, bturned⟩
  have Gwith_sign : GFn P w K mg base "with_sign" 1 (["cells", "cell", "sign"] : List Str) (spD K 3 p_with_sign) := ⟨_, _, okwith_sign T Fwith_sign , gwith_sign, kwith_sign, bwith_sign⟩
  have Gturns_of : GFn P w K mg base "turns_of" 3 (["plan", "cells"] : List Str) (spD K 2 p_turns_of) := ⟨_, _, okturns_of T Fturns_of Gturned Gweight_of Gwith_sign, gturns_of, kturns_of, bturns_of⟩
  have Gplaces_of : GFn P w K mg base "places_of" 1 (["plan", "cells"] : List Str) (spD K 2 p_places_of) := ⟨_, _, okplaces_of T Fplaces_of , gplaces_of, kplaces_of, bplaces_of⟩
  have Gunrolled : GFn P w K mg base "unrolled" 1 (["plan", "cells"] : List Str) (spD K 2 p_unrolled) := ⟨_, _, okunrolled T Funrolled , gunrolled, kunrolled, bunrolled⟩
  have Gopened : GFn P w K mg base "opened" 1 (["plan"] : List Str) (spD K 1 p_opened) := ⟨_, _, okopened T Fopened , gopened, kopened, bopened⟩
  have GMatch___init__ : GMk P w K mg base "Match" 1 (["self", "rows", "counts", "shift"] : List Str) (spI K 3 "Match" p_Match___init__) := ⟨_, _, okMatch___init__ T DMatch___init__ , He.mkr_ok (c.fact 67 (f := fun K => (He.Fa.mkr "Match").ok K) rfl), He.glo_ok X G (c.fact 68 (f := cGlo "Match") rfl), bMatch___init__⟩
  have Gbetween : GFn P w K mg base "between" 1 (["row", "cell"] : List Str) (spD K 2 p_between) := ⟨_, _, okbetween T Fbetween , gbetween, kbetween, bbetween⟩
  have Grow_match : GFn P w K mg base "row_match" 3 (["plan", "one", "other"] : List Str) (spD K 3 p_row_match) := ⟨_, _, okrow_match T Frow_match GMatch___init__ Gbetween Gplaces_of Gweight_of, grow_match, krow_match, brow_match⟩
  have Gsigns_of : GFn P w K mg base "signs_of" 1 (["plan", "cells", "places"] : List Str) (spD K 3 p_signs_of) := ⟨_, _, oksigns_of T Fsigns_of , gsigns_of, ksigns_of, bsigns_of⟩
  have Gperiod : GFn P w K mg base "period" 1 (["signs"] : List Str) (spD K 1 p_period) := ⟨_, _, okperiod T Fperiod , gperiod, kperiod, bperiod⟩
  have Gfar_place : GFn P w K mg base "far_place" 1 (["places", "number", "many"] : List Str) (spD K 3 p_far_place) := ⟨_, _, okfar_place T Ffar_place , gfar_place, kfar_place, bfar_place⟩
  have GRing___init__ : GMk P w K mg base "Ring" 2 (["self", "plan", "one", "other"] : List Str) (spI K 3 "Ring" p_Ring___init__) := ⟨_, _, okRing___init__ T DRing___init__ Gperiod Gplaces_of Gsigns_of, He.mkr_ok (c.fact 69 (f := fun K => (He.Fa.mkr "Ring").ok K) rfl), He.glo_ok X G (c.fact 70 (f := cGlo "Ring") rfl), bRing___init__⟩
  have GMatch_cost : GMt P w K mg base "Match" "cost" 1 (["self"] : List Str) (spD K 1 p_Match_cost) := ⟨_, _, okMatch_cost T DMatch_cost , He.meth_ok (c.fact 71 (f := fun K => (He.Fa.meth "Match" "cost").ok K) rfl), He.cls_ok (c.fact 21 (f := fun K => (He.Fa.cls "Match").ok K) rfl), bMatch_cost⟩
  have GRing_by_shift : GMt P w K mg base "Ring" "by_shift" 2 (["self", "shift"] : List Str) (spD K 2 p_Ring_by_shift) := ⟨_, _, okRing_by_shift T DRing_by_shift Gfar_place Gweight_of, He.meth_ok (c.fact 72 (f := fun K => (He.Fa.meth "Ring" "by_shift").ok K) rfl), He.cls_ok (c.fact 22 (f := fun K => (He.Fa.cls "Ring").ok K) rfl), bRing_by_shift⟩
  have GRing_best : GMt P w K mg base "Ring" "best" 3 (["self"] : List Str) (spD K 1 p_Ring_best) := ⟨_, _, okRing_best T DRing_best GMatch___init__ GMatch_cost GRing_by_shift, He.meth_ok (c.fact 73 (f := fun K => (He.Fa.meth "Ring" "best").ok K) rfl), He.cls_ok (c.fact 22 (f := fun K => (He.Fa.cls "Ring").ok K) rfl), bRing_best⟩
  have GRing_last_below : GMt P w K mg base "Ring" "last_below" 2 (["self", "places", "kind", "cell"] : List Str) (spD K 4 p_Ring_last_below) := ⟨_, _, okRing_last_below T DRing_last_below Gfar_place, He.meth_ok (c.fact 74 (f := fun K => (He.Fa.meth "Ring" "last_below").ok K) rfl), He.cls_ok (c.fact 22 (f := fun K => (He.Fa.cls "Ring").ok K) rfl), bRing_last_below⟩
  have GRing_kinds : GMt P w K mg base "Ring" "kinds" 3 (["self"] : List Str) (spD K 1 p_Ring_kinds) := ⟨_, _, okRing_kinds T DRing_kinds GRing_last_below Gweight_of, He.meth_ok (c.fact 75 (f := fun K => (He.Fa.meth "Ring" "kinds").ok K) rfl), He.cls_ok (c.fact 22 (f := fun K => (He.Fa.cls "Ring").ok K) rfl), bRing_kinds⟩
  have Gring_match : GFn P w K mg base "ring_match" 4 (["plan", "one", "other"] : List Str) (spD K 3 p_ring_match) := ⟨_, _, okring_match T Fring_match GMatch___init__ GRing___init__ GRing_best GRing_by_shift GRing_kinds, gring_match, kring_match, bring_match⟩
  have Gmatch_of : GFn P w K mg base "match_of" 5 (["plan", "one", "other"] : List Str) (spD K 3 p_match_of) := ⟨_, _, okmatch_of T Fmatch_of Gopened Gring_match Grow_match Gunrolled, gmatch_of, kmatch_of, bmatch_of⟩
  have Gneed_match : GFn P w K mg base "need_match" 6 (["plan", "one", "other"] : List Str) (spD K 3 p_need_match) := ⟨_, _, okneed_match T Fneed_match Gmatch_of Gneed_both, gneed_match, kneed_match, bneed_match⟩
  have Gleast : GFn P w K mg base "least" 7 (["plan", "one", "other"] : List Str) (spD K 3 p_least) := ⟨_, _, okleast T Fleast GMatch_cost Gneed_match, gleast, kleast, bleast⟩
  have Gway_of : GFn P w K mg base "way_of" 6 (["plan", "one", "other"] : List Str) (spD K 3 p_way_of) := ⟨_, _, okway_of T Fway_of GMatch_cost Gmatch_of Gturns_of, gway_of, kway_of, bway_of⟩
  have Gway : GFn P w K mg base "way" 7 (["plan", "one", "other"] : List Str) (spD K 3 p_way) := ⟨_, _, okway T Fway Gneed_match Gway_of, gway, kway, bway⟩
  have Gjudged : GFn P w K mg base "judged" 5 (["plan", "one", "other", "told"] : List Str) (spD K 4 p_judged) := ⟨_, _, okjudged T Fjudged Gis_number Gneed_both Gturned Gweight_of Gwith_sign, gjudged, kjudged, bjudged⟩
  have G_law_plan : GFn P w K mg base "_law_plan" 2 (["_law_box", "_law_most"] : List Str) (spB K 1 f_law_plan) := ⟨_, _, ok_law_plan T F_law_plan G_law_take, g_law_plan, k_law_plan, b_law_plan⟩
  have G_law_cells : GFn P w K mg base "_law_cells" 2 (["_law_box", "_law_plan_here"] : List Str) (spB K 1 f_law_cells) := ⟨_, _, ok_law_cells T F_law_cells G_law_take, g_law_cells, k_law_cells, b_law_cells⟩
  have G_law_turns : GFn P w K mg base "_law_turns" 1 (["_law_plan_here", "_law_cells_here"] : List Str) (spD K 2 f_law_turns) := ⟨_, _, ok_law_turns T F_law_turns , g_law_turns, k_law_turns, b_law_turns⟩
  have G_law_walk : GFn P w K mg base "_law_walk" 2 (["_law_box", "_law_plan_here", "_law_cells_here", "_law_most"] : List Str) (spB K 3 f_law_walk) := ⟨_, _, ok_law_walk T F_law_walk G_law_take G_law_turns, g_law_walk, k_law_walk, b_law_walk⟩
  have G_law_behind : GFn P w K mg base "_law_behind" 2 (["_law_plan_here", "_law_cells_here", "_law_k"] : List Str) (spD K 3 f_law_behind) := ⟨_, _, ok_law_behind T F_law_behind G_law_turns, g_law_behind, k_law_behind, b_law_behind⟩
  exact ok_law T F_law (ok_law_begun T F_law_begun) g_law_begun k_law_begun b_law_begun G_law_alike G_law_behind G_law_cells G_law_plan G_law_walk Gjudged Gleast Gway good
end K14
end WW
set_option Elab.async false
set_option linter.all false
set_option maxRecDepth 100000
namespace WW
open PySem PySem.Spec L2
/-! evaluating denotations by simp: every combinator's own equation, first arguments first -/
def SR.seq : SR → DS → SR
  | .next e, b => b e
  | .ret d e, _ => .ret d e
  | .brk e, _ => .brk e
  | .cnt e, _ => .cnt e
  | .exc x, _ => .exc x
  | .bad, _ => .bad
section
variable {α β : Type}
@[simp] theorem r_bind_ok (a : α) (f : α → R β) : (R.ok a).bind f = f a := rfl
@[simp] theorem r_bind_bad (f : α → R β) : (R.bad : R α).bind f = .bad := rfl
@[simp] theorem r_bind_exc (x : Exn) (f : α → R β) : (R.exc x : R α).bind f = .exc x := rfl
@[simp] theorem r_toS_ok (a : α) (f : α → SR) : (R.ok a).toS f = f a := rfl
@[simp] theorem r_toS_bad (f : α → SR) : (R.bad : R α).toS f = .bad := rfl
@[simp] theorem r_toS_exc (x : Exn) (f : α → SR) : (R.exc x : R α).toS f = .exc x := rfl
@[simp] theorem r_noX_ok (a : α) : (R.ok a).noX = .ok a := rfl
end
variable (e : En) (da db dc : DE) (dr : DA) (t u : DT) (a b : DS) (i j : Nat)
@[simp] theorem s_next : (SR.next e).seq b = b e := rfl
@[simp] theorem s_ret (d : D) : (SR.ret d e).seq b = .ret d e := rfl
@[simp] theorem s_brk : (SR.brk e).seq b = .brk e := rfl
@[simp] theorem s_cnt : (SR.cnt e).seq b = .cnt e := rfl
@[simp] theorem s_exc (x : Exn) : (SR.exc x).seq b = .exc x := rfl
@[simp] theorem s_bad : SR.bad.seq b = .bad := rfl
@[simp] theorem e_seq : sSeq a b e = (a e).seq b := by
  unfold sSeq SR.seq
  cases a e <;> rfl
def fin (e : En) (d : D) : R (D × En) := .ok (d, e)
@[simp] theorem fin_e (d : D) : fin e d = .ok (d, e) := rfl
def kRet (p : D × En) : SR := .ret p.1 p.2
@[simp] theorem kRet_e (d : D) : kRet (d, e) = .ret d e := rfl
def kDrop (p : D × En) : SR := .next p.2
@[simp] theorem kDrop_e (d : D) : kDrop (d, e) = .next e := rfl
def kIf (a b : DS) (p : Bool × En) : SR := if p.1 = true then a p.2 else b p.2
@[simp] theorem kIf_t : kIf a b (true, e) = a e := rfl
@[simp] theorem kIf_f : kIf a b (false, e) = b e := rfl
theorem kIf_c (k : Bool) : kIf a b (k, e) = if k = true then a e else b e := rfl
def kSet (i : Nat) (p : D × En) : SR := setS p.2 i (.v p.1)
@[simp] theorem kSet_e (d : D) : kSet i (d, e) = setS e i (.v d) := rfl
def kSetO (i : Nat) (p : Sl × En) : SR := setS p.2 i p.1
@[simp] theorem kSetO_e (s : Sl) : kSetO i (s, e) = setS e i s := rfl
def oNx : Option En → SR
  | some e' => .next e'
  | none => .bad
@[simp] theorem oNx_s : oNx (some e) = .next e := rfl
def kTo (g : DG) (p : D × En) : SR := oNx (g p.1 p.2)
@[simp] theorem kTo_e (g : DG) (d : D) : kTo g (d, e) = oNx (g d e) := rfl
def oSet (j : Nat) (s : Sl) : Option En → SR
  | some e1 => setS e1 j s
  | none => .bad
@[simp] theorem oSet_s (s : Sl) : oSet j s (some e) = setS e j s := rfl
def kPar2 (i j : Nat) (s : Sl) (q : D × En) : SR := oSet j (.v q.1) (setE q.2 i (some s))
@[simp] theorem kPar2_e (s : Sl) (d : D) : kPar2 i j s (d, e) = oSet j (.v d) (setE e i (some s)) := rfl
def kPar (i j : Nat) (db : DE) (p : D × En) : SR := (db p.2).toS (kPar2 i j (.v p.1))
@[simp] theorem kPar_e (d : D) : kPar i j db (d, e) = (db e).toS (kPar2 i j (.v d)) := rfl
def kParO (i j : Nat) (db : DE) (p : Sl × En) : SR := (db p.2).toS (kPar2 i j p.1)
@[simp] theorem kParO_e (s : Sl) : kParO i j db (s, e) = (db e).toS (kPar2 i j s) := rfl
@[simp] theorem e_next : sNext e = .next e := rfl
@[simp] theorem e_if : sIf t a b e = (t e).toS (kIf a b) := rfl
@[simp] theorem e_ret : sRet da e = (da e).toS kRet := rfl
@[simp] theorem e_retN : sRetN e = .ret .non e := rfl
@[simp] theorem e_drop : sDrop da e = (da e).toS kDrop := rfl
@[simp] theorem e_brk : sBrk e = .brk e := rfl
@[simp] theorem e_cnt : sCnt e = .cnt e := rfl
@[simp] theorem e_sbad : sBad e = .bad := rfl
@[simp] theorem e_asg : sAsg i da e = (da e).toS (kSet i) := rfl
@[simp] theorem e_asgO (o : OE) : sAsgO i o e = (o e).toS (kSetO i) := rfl
@[simp] theorem e_to (g : DG) : sTo g da e = (da e).toS (kTo g) := by
  unfold sTo
  congr 1
@[simp] theorem e_par : sPar i j da db e = (da e).toS (kPar i j db) := by
  unfold sPar
  congr 1
@[simp] theorem e_parO (o : OE) : sParO i j o db e = (o e).toS (kParO i j db) := by
  unfold sParO
  congr 1
def sApp2 (e : En) (i : Nat) (d : D) : Option Sl → SR
  | some (.l xs) => if xs.length < LIM then setS e i (.l (xs ++ [d])) else .bad
  | _ => .bad
@[simp] theorem sApp2_l (d : D) (xs : List D) : sApp2 e i d (some (.l xs)) = if xs.length < LIM then setS e i (.l (xs ++ [d])) else .bad := rfl
def kApp2 (i : Nat) (p : D × En) : SR := sApp2 p.2 i p.1 (nth p.2 i)
@[simp] theorem kApp2_e (d : D) : kApp2 i (d, e) = sApp2 e i d (nth e i) := rfl
def sApp1 (da : DE) (e : En) (i : Nat) : Option Sl → SR
  | some (.l _) => (da e).toS (kApp2 i)
  | _ => .bad
@[simp] theorem sApp1_l (xs : List D) : sApp1 da e i (some (.l xs)) = (da e).toS (kApp2 i) := rfl
@[simp] theorem e_append : sAppend i da e = sApp1 da e i (nth e i) := rfl
def sIx3 (e : En) (i : Nat) (d : D) (xs : List D) : Option Nat → SR
  | some j => setS e i (.l (xs.set j d))
  | none => .bad
@[simp] theorem sIx3_s (d : D) (xs : List D) : sIx3 e i d xs (some j) = setS e i (.l (xs.set j d)) := rfl
def sIx2 (e : En) (i : Nat) (d : D) : D → Option Sl → SR
  | .int k, some (.l xs) => sIx3 e i d xs (ixN xs.length k)
  | _, _ => .bad
@[simp] theorem sIx2_l (d : D) (k : Int) (xs : List D) : sIx2 e i d (.int k) (some (.l xs)) = sIx3 e i d xs (ixN xs.length k) := rfl
def kIx2 (i : Nat) (d : D) (q : D × En) : SR := sIx2 q.2 i d q.1 (nth q.2 i)
@[simp] theorem kIx2_e (d k : D) : kIx2 i d (k, e) = sIx2 e i d k (nth e i) := rfl
def sIx1 (dk : DE) (e : En) (i : Nat) (d : D) : Option Sl → SR
  | some (.l _) => (dk e).toS (kIx2 i d)
  | _ => .bad
@[simp] theorem sIx1_l (d : D) (xs : List D) : sIx1 da e i d (some (.l xs)) = (da e).toS (kIx2 i d) := rfl
def kIx1 (dk : DE) (i : Nat) (p : D × En) : SR := sIx1 dk p.2 i p.1 (nth p.2 i)
@[simp] theorem kIx1_e (d : D) : kIx1 da i (d, e) = sIx1 da e i d (nth e i) := rfl
@[simp] theorem e_setIx (dk : DE) : sSetIx i dk da e = (da e).toS (kIx1 dk i) := by
  unfold sSetIx
  congr 1
  funext p
  have h2 : (fun q : D × En => (match nth q.2 i, q.1 with
      | some (.l xs), .int k => (match ixN xs.length k with
        | some j => setS q.2 i (.l (xs.set j p.1))
        | none => .bad)
      | _, _ => .bad)) = kIx2 i p.1 := by
    funext q
    unfold kIx2
    cases nth q.2 i with
    | none => cases q.1 <;> rfl
    | some s =>
      cases s with
      | l xs =>
        cases q.1 with
        | int k =>
          show (match ixN xs.length k with
            | some j => setS q.2 i (.l (xs.set j p.1))
            | none => .bad) = sIx3 q.2 i p.1 xs (ixN xs.length k)
          cases ixN xs.length k <;> rfl
        | _ => rfl
      | _ => cases q.1 <;> rfl
  unfold kIx1
  cases nth p.2 i with
  | none => rfl
  | some s =>
    cases s with
    | l xs => exact congrArg ((dk p.2).toS) h2
    | _ => rfl
def kFor (g : DG) (b : DS) (p : List D × En) : SR := forL g b p.1 p.2
@[simp] theorem kFor_e (g : DG) (l : List D) : kFor g b (l, e) = forL g b l e := rfl
@[simp] theorem e_for (src : DA) (g : DG) : sFor src g b e = (src e).toS (kFor g b) := rfl
def oVar2 (xs : List D) : Option En → R (D × En)
  | some e' => .ok (.lst xs, e')
  | none => .bad
@[simp] theorem oVar2_s (xs : List D) : oVar2 xs (some e) = .ok (.lst xs, e) := rfl
def oVarK (kvs : List (Key × D)) : Option En → R (D × En)
  | some e' => .ok (.dk kvs, e')
  | none => .bad
def oVar (e : En) (i : Nat) : Option Sl → R (D × En)
  | some (.v d) => .ok (d, e)
  | some (.l xs) => oVar2 xs (setE e i (some (.v (.lst xs))))
  | some (.dc false kvs) => oVarK kvs (setE e i (some (.v (.dk kvs))))
  | _ => .bad
@[simp] theorem oVar_v (d : D) : oVar e i (some (.v d)) = .ok (d, e) := rfl
@[simp] theorem oVar_l (xs : List D) : oVar e i (some (.l xs)) = oVar2 xs (setE e i (some (.v (.lst xs)))) := rfl
@[simp] theorem oVarK_s (kvs : List (Key × D)) : oVarK kvs (some e) = .ok (.dk kvs, e) := rfl
@[simp] theorem oVar_dc (kvs : List (Key × D)) : oVar e i (some (.dc false kvs)) = oVarK kvs (setE e i (some (.v (.dk kvs)))) := rfl
@[simp] theorem e_var : dVar i e = oVar e i (nth e i) := by
  unfold dVar
  cases nth e i with
  | none => rfl
  | some s =>
    cases s with
    | dc b kvs => cases b <;> rfl
    | _ => rfl
@[simp] theorem e_C (d : D) : dC d e = .ok (d, e) := rfl
def kBin2 (g : D → D → R D) (x : D) (q : D × En) : R (D × En) := (g x q.1).bind (fin q.2)
@[simp] theorem kBin2_e (g : D → D → R D) (x d : D) : kBin2 g x (d, e) = (g x d).bind (fin e) := rfl
def kBin (g : D → D → R D) (db : DE) (p : D × En) : R (D × En) := (db p.2).bind (kBin2 g p.1)
@[simp] theorem kBin_e (g : D → D → R D) (d : D) : kBin g db (d, e) = (db e).bind (kBin2 g d) := rfl
@[simp] theorem e_bin (g : D → D → R D) : dBin g da db e = (da e).bind (kBin g db) := rfl
def kUn (g : D → R D) (p : D × En) : R (D × En) := (g p.1).bind (fin p.2)
@[simp] theorem kUn_e (g : D → R D) (d : D) : kUn g (d, e) = (g d).bind (fin e) := rfl
@[simp] theorem e_un (g : D → R D) : dUn g da e = (da e).bind (kUn g) := rfl
@[simp] theorem e_nil : dNil e = .ok ([], e) := rfl
def kCons2 (d : D) (q : List D × En) : R (List D × En) := .ok (d :: q.1, q.2)
@[simp] theorem kCons2_e (d : D) (l : List D) : kCons2 d (l, e) = .ok (d :: l, e) := rfl
def kCons (dr : DA) (p : D × En) : R (List D × En) := (dr p.2).bind (kCons2 p.1)
@[simp] theorem kCons_e (d : D) : kCons dr (d, e) = (dr e).bind (kCons2 d) := rfl
@[simp] theorem e_cons : dCons da dr e = (da e).bind (kCons dr) := rfl
def kApp (g : List D → R D) (p : List D × En) : R (D × En) := (g p.1).bind (fin p.2)
@[simp] theorem kApp_e (g : List D → R D) (l : List D) : kApp g (l, e) = (g l).bind (fin e) := rfl
@[simp] theorem e_app (g : List D → R D) : dApp g dr e = (dr e).bind (kApp g) := rfl
@[simp] theorem e_call (g : List D → R D) : dCall g dr e = (dr e).bind (kApp g) := rfl
@[simp] theorem e_tup : dTup dr e = (dr e).bind (kApp mkTup) := rfl
def finT (e : En) (k : Bool) : R (Bool × En) := .ok (k, e)
@[simp] theorem finT_e (k : Bool) : finT e k = .ok (k, e) := rfl
def kTest (p : D × En) : R (Bool × En) := (asB p.1).bind (finT p.2)
@[simp] theorem kTest_e (d : D) : kTest (d, e) = (asB d).bind (finT e) := rfl
@[simp] theorem e_test : dTest da e = (da e).bind kTest := rfl
def kCh4 (g' : D → D → R D) (y : D) (z : D × En) : R (D × En) := (g' y z.1).bind (fin z.2)
@[simp] theorem kCh4_e (g' : D → D → R D) (y d : D) : kCh4 g' y (d, e) = (g' y d).bind (fin e) := rfl
def kCh3 (g' : D → D → R D) (y : D) (e : En) (dc : DE) (k : Bool) : R (D × En) := if k = true then (dc e).bind (kCh4 g' y) else .ok (.bl false, e)
@[simp] theorem kCh3_t (g' : D → D → R D) (y : D) : kCh3 g' y e dc true = (dc e).bind (kCh4 g' y) := rfl
@[simp] theorem kCh3_f (g' : D → D → R D) (y : D) : kCh3 g' y e dc false = .ok (.bl false, e) := rfl
theorem kCh3_c (g' : D → D → R D) (y : D) (k : Bool) : kCh3 g' y e dc k = if k = true then (dc e).bind (kCh4 g' y) else .ok (.bl false, e) := rfl
def kCh2 (g g' : D → D → R D) (x : D) (dc : DE) (q : D × En) : R (D × En) := ((g x q.1).bind asB).bind (kCh3 g' q.1 q.2 dc)
@[simp] theorem kCh2_e (g g' : D → D → R D) (x d : D) : kCh2 g g' x dc (d, e) = ((g x d).bind asB).bind (kCh3 g' d e dc) := rfl
def kCh1 (g g' : D → D → R D) (db dc : DE) (p : D × En) : R (D × En) := (db p.2).bind (kCh2 g g' p.1 dc)
@[simp] theorem kCh1_e (g g' : D → D → R D) (d : D) : kCh1 g g' db dc (d, e) = (db e).bind (kCh2 g g' d dc) := rfl
theorem bind_bind {α β γ : Type} (r : R α) (f : α → R β) (g : β → R γ) : (r.bind f).bind g = r.bind fun x => (f x).bind g := by cases r <;> rfl
@[simp] theorem e_chain (g g' : D → D → R D) : dChain g g' da db dc e = (da e).bind (kCh1 g g' db dc) := by
  unfold dChain
  congr 1
  funext p
  unfold kCh1
  congr 1
  funext q
  unfold kCh2
  rw [bind_bind]
  rfl
def kNot (p : Bool × En) : R (Bool × En) := .ok (!p.1, p.2)
@[simp] theorem kNot_e (k : Bool) : kNot (k, e) = .ok (!k, e) := rfl
@[simp] theorem e_not : dNot t e = (t e).bind kNot := rfl
def kAnd (u : DT) (p : Bool × En) : R (Bool × En) := if p.1 = true then u p.2 else .ok (false, p.2)
@[simp] theorem kAnd_t : kAnd u (true, e) = u e := rfl
@[simp] theorem kAnd_f : kAnd u (false, e) = .ok (false, e) := rfl
theorem kAnd_c (k : Bool) : kAnd u (k, e) = if k = true then u e else .ok (false, e) := rfl
@[simp] theorem e_and : dAnd t u e = (t e).bind (kAnd u) := rfl
def kOr (u : DT) (p : Bool × En) : R (Bool × En) := if p.1 = true then .ok (true, p.2) else u p.2
@[simp] theorem kOr_t : kOr u (true, e) = .ok (true, e) := rfl
@[simp] theorem kOr_f : kOr u (false, e) = u e := rfl
theorem kOr_c (k : Bool) : kOr u (k, e) = if k = true then .ok (true, e) else u e := rfl
@[simp] theorem e_or : dOr t u e = (t e).bind (kOr u) := rfl
def kOfT (p : Bool × En) : R (D × En) := .ok (.bl p.1, p.2)
@[simp] theorem kOfT_e (k : Bool) : kOfT (k, e) = .ok (.bl k, e) := rfl
@[simp] theorem e_ofT : dOfT t e = (t e).bind kOfT := rfl
def kAV2 (db : DE) (e : En) (k : Bool) : R (D × En) := if k = true then db e else .ok (.bl false, e)
@[simp] theorem kAV2_t : kAV2 db e true = db e := rfl
@[simp] theorem kAV2_f : kAV2 db e false = .ok (.bl false, e) := rfl
theorem kAV2_c (k : Bool) : kAV2 db e k = if k = true then db e else .ok (.bl false, e) := rfl
def kAV (db : DE) (p : D × En) : R (D × En) := (asB p.1).bind (kAV2 db p.2)
@[simp] theorem kAV_e (d : D) : kAV db (d, e) = (asB d).bind (kAV2 db e) := rfl
@[simp] theorem e_andV : dAndV da db e = (da e).bind (kAV db) := rfl
def kOV2 (db : DE) (e : En) (k : Bool) : R (D × En) := if k = true then .ok (.bl true, e) else db e
@[simp] theorem kOV2_t : kOV2 db e true = .ok (.bl true, e) := rfl
@[simp] theorem kOV2_f : kOV2 db e false = db e := rfl
def kOV (db : DE) (p : D × En) : R (D × En) := (asB p.1).bind (kOV2 db p.2)
@[simp] theorem kOV_e (d : D) : kOV db (d, e) = (asB d).bind (kOV2 db e) := rfl
@[simp] theorem e_orV : dOrV da db e = (da e).bind (kOV db) := rfl
def finN (e : En) (k : Bool) : R (D × En) := .ok (.bl (!k), e)
@[simp] theorem finN_e (k : Bool) : finN e k = .ok (.bl (!k), e) := rfl
def kNV (p : D × En) : R (D × En) := (asB p.1).bind (finN p.2)
@[simp] theorem kNV_e (d : D) : kNV (d, e) = (asB d).bind (finN e) := rfl
@[simp] theorem e_notV : dNotV da e = (da e).bind kNV := rfl
def kIfE (da db : DE) (p : Bool × En) : R (D × En) := if p.1 = true then da p.2 else db p.2
@[simp] theorem kIfE_t : kIfE da db (true, e) = da e := rfl
@[simp] theorem kIfE_f : kIfE da db (false, e) = db e := rfl
theorem kIfE_c (k : Bool) : kIfE da db (k, e) = if k = true then da e else db e := rfl
@[simp] theorem e_ifE : dIfE t da db e = (t e).bind (kIfE da db) := rfl
def finS (e : En) (s : Sl) : R (Sl × En) := .ok (s, e)
@[simp] theorem finS_e (s : Sl) : finS e s = .ok (s, e) := rfl
def kLst (p : List D × En) : R (Sl × En) := (mkLst p.1).bind (finS p.2)
@[simp] theorem kLst_e (l : List D) : kLst (l, e) = (mkLst l).bind (finS e) := rfl
@[simp] theorem e_oLst : oLst dr e = (dr e).bind kLst := rfl
def kFrz (p : Sl × En) : R (D × En) := (slD p.1).bind (fin p.2)
@[simp] theorem kFrz_e (s : Sl) : kFrz (s, e) = (slD s).bind (fin e) := rfl
@[simp] theorem e_frz (o : OE) : dFrz o e = (o e).bind kFrz := rfl
@[simp] theorem e_isi (T : String) : dIsi T da e = (da e).bind (kUn (gIsi T)) := rfl
@[simp] theorem e_tupIx (ys : List Str) : dTupIx ys da e = (da e).bind (kUn (gTupIx ys)) := rfl
def kM2 (g : D → List D → R D) (d : D) (q : List D × En) : R (D × En) := (g d q.1).bind (fin q.2)
@[simp] theorem kM2_e (g : D → List D → R D) (d : D) (l : List D) : kM2 g d (l, e) = (g d l).bind (fin e) := rfl
def kM (ok : D → Bool) (g : D → List D → R D) (dr : DA) (p : D × En) : R (D × En) := if ok p.1 = true then (dr p.2).bind (kM2 g p.1) else .bad
@[simp] theorem kM_e (ok : D → Bool) (g : D → List D → R D) (d : D) : kM ok g dr (d, e) = if ok d = true then (dr e).bind (kM2 g d) else .bad := rfl
@[simp] theorem e_mth (ok : D → Bool) (g : D → List D → R D) : dMth ok g da dr e = (da e).bind (kM ok g dr) := rfl
@[simp] theorem e_pNo : pNo e = .ok (none, e) := rfl
def finP (e : En) (k : Int) : R (Option Int × En) := .ok (some k, e)
@[simp] theorem finP_e (k : Int) : finP e k = .ok (some k, e) := rfl
def kP (p : D × En) : R (Option Int × En) := (asI p.1).bind (finP p.2)
@[simp] theorem kP_e (d : D) : kP (d, e) = (asI d).bind (finP e) := rfl
@[simp] theorem e_pSome : pSome da e = (da e).bind kP := rfl
def kSl3 (d : D) (x : Option Int) (p : Option Int × En) : R (D × En) := (gSl d x p.1).bind (fin p.2)
@[simp] theorem kSl3_e (d : D) (x y : Option Int) : kSl3 d x (y, e) = (gSl d x y).bind (fin e) := rfl
def kSl2 (d : D) (hi : DOp) (p : Option Int × En) : R (D × En) := (hi p.2).bind (kSl3 d p.1)
@[simp] theorem kSl2_e (d : D) (hi : DOp) (x : Option Int) : kSl2 d hi (x, e) = (hi e).bind (kSl3 d x) := rfl
def kSl1 (lo hi : DOp) (p : D × En) : R (D × En) := (lo p.2).bind (kSl2 p.1 hi)
@[simp] theorem kSl1_e (lo hi : DOp) (d : D) : kSl1 lo hi (d, e) = (lo e).bind (kSl2 d hi) := rfl
@[simp] theorem e_sl (lo hi : DOp) : dSl da lo hi e = (da e).bind (kSl1 lo hi) := rfl
def oB4 (d : D) : Option En → R (D × En)
  | some e' => .ok (d, e')
  | none => .bad
@[simp] theorem oB4_s (d : D) : oB4 d (some e) = .ok (d, e) := rfl
def kB3 (e : En) (i : Nat) (q : D × Bx) : R (D × En) := oB4 q.1 (setE e i (some (.box q.2.1 q.2.2.1 q.2.2.2)))
@[simp] theorem kB3_e (d : D) (b : Bx) : kB3 e i (d, b) = oB4 d (setE e i (some (.box b.1 b.2.1 b.2.2))) := rfl
def oB2 (f : Bx → List D → R (D × Bx)) (l : List D) (e : En) (i : Nat) : Option Sl → R (D × En)
  | some (.box a ns st) => (f (a, ns, st) l).noX.bind (kB3 e i)
  | _ => .bad
@[simp] theorem oB2_b (f : Bx → List D → R (D × Bx)) (l : List D) (a : Addr) (ns : List Int) (st : Int) : oB2 f l e i (some (.box a ns st)) = (f (a, ns, st) l).noX.bind (kB3 e i) := rfl
def kB1 (f : Bx → List D → R (D × Bx)) (i : Nat) (p : List D × En) : R (D × En) := oB2 f p.1 p.2 i (nth p.2 i)
@[simp] theorem kB1_e (f : Bx → List D → R (D × Bx)) (l : List D) : kB1 f i (l, e) = oB2 f l e i (nth e i) := rfl
def oB0 (f : Bx → List D → R (D × Bx)) (dr : DA) (e : En) (i : Nat) : Option Sl → R (D × En)
  | some (.box _ _ _) => (dr e).bind (kB1 f i)
  | _ => .bad
@[simp] theorem oB0_b (f : Bx → List D → R (D × Bx)) (a : Addr) (ns : List Int) (st : Int) : oB0 f dr e i (some (.box a ns st)) = (dr e).bind (kB1 f i) := rfl
@[simp] theorem e_callB (f : Bx → List D → R (D × Bx)) : dCallB f i dr e = oB0 f dr e i (nth e i) := by
  have h3 : ∀ (p : List D × En), (fun q : D × Bx => (match setE p.2 i (some (.box q.2.1 q.2.2.1 q.2.2.2)) with
      | some e' => .ok (q.1, e')
      | none => .bad)) = kB3 p.2 i := by
    intro p
    funext q
    unfold kB3
    cases setE p.2 i (some (.box q.2.1 q.2.2.1 q.2.2.2)) <;> rfl
  have h2 : (fun p : List D × En => (match nth p.2 i with
    | some (.box a ns st) => (f (a, ns, st) p.1).noX.bind fun q => (match setE p.2 i (some (.box q.2.1 q.2.2.1 q.2.2.2)) with
      | some e' => .ok (q.1, e')
      | none => .bad)
    | _ => .bad)) = kB1 f i := by
    funext p
    unfold kB1
    cases nth p.2 i with
    | none => rfl
    | some s =>
      cases s with
      | v d => rfl
      | l xs => rfl
      | obj _ _ _ _ => rfl
      | dc _ _ => rfl
      | dob _ _ _ => rfl
      | tab => rfl
      | exn _ _ _ => rfl
      | box a ns st =>
        show ((f (a, ns, st) p.1).noX.bind fun q => (match setE p.2 i (some (.box q.2.1 q.2.2.1 q.2.2.2)) with
          | some e' => .ok (q.1, e')
          | none => .bad)) = _
        rw [h3]
        rfl
  unfold dCallB
  cases nth e i with
  | none => rfl
  | some s =>
    cases s with
    | box a ns st => exact congrArg ((dr e).bind) h2
    | _ => rfl
def finL (e : En) (l : List D) : R (List D × En) := .ok (l, e)
@[simp] theorem finL_e (l : List D) : finL e l = .ok (l, e) := rfl
def kIt (g : D → R (List D)) (p : D × En) : R (List D × En) := (g p.1).bind (finL p.2)
@[simp] theorem kIt_e (g : D → R (List D)) (d : D) : kIt g (d, e) = (g d).bind (finL e) := rfl
def kIts (g : List D → R (List D)) (p : List D × En) : R (List D × En) := (g p.1).bind (finL p.2)
@[simp] theorem kIts_e (g : List D → R (List D)) (l : List D) : kIts g (l, e) = (g l).bind (finL e) := rfl
@[simp] theorem e_iVal : iVal da e = (da e).bind (kIt itemsOf) := rfl
@[simp] theorem e_iRange : iRange dr e = (dr e).bind (kIts asRange) := rfl
@[simp] theorem e_iZipd : iZipd dr e = (dr e).bind (kIts asZip) := rfl
@[simp] theorem e_noTest : noTest e = .ok (true, e) := rfl
def kC3 (q : List D × En) : R (Sl × En) := .ok (.l q.1, q.2)
@[simp] theorem kC3_e (l : List D) : kC3 (l, e) = .ok (.l l, e) := rfl
def oC2 (vs : List Nat) (g : DG) (t : DT) (el : DE) (l : List D) : Option En → R (Sl × En)
  | some e1 => (compL vs g t el l e1).noX.bind kC3
  | none => .bad
@[simp] theorem oC2_s (vs : List Nat) (g : DG) (el : DE) (l : List D) : oC2 vs g t el l (some e) = (compL vs g t el l e).noX.bind kC3 := rfl
def kC1 (vs : List Nat) (g : DG) (t : DT) (el : DE) (p : List D × En) : R (Sl × En) := if p.1.length ≤ LIM then oC2 vs g t el p.1 (wipeE p.2 vs) else .bad
@[simp] theorem kC1_e (vs : List Nat) (g : DG) (el : DE) (l : List D) : kC1 vs g t el (l, e) = if l.length ≤ LIM then oC2 vs g t el l (wipeE e vs) else .bad := rfl
@[simp] theorem e_comp (src : DA) (vs : List Nat) (g : DG) (el : DE) : oComp src vs g t el e = (src e).bind (kC1 vs g t el) := by
  unfold oComp
  congr 1
def finI (e : En) (xs : List D) : R (D × En) := .ok (.int xs.length, e)
@[simp] theorem finI_e (l : List D) : finI e l = .ok (.int l.length, e) := rfl
@[simp] theorem e_dLenO : dLenO i e = (lstAt e i).bind (finI e) := rfl
def kIO3 (d : D) (e : En) (xs : List D) : R (D × En) := (gIx (.lst xs) d).bind (fin e)
@[simp] theorem kIO3_e (d : D) (xs : List D) : kIO3 d e xs = (gIx (.lst xs) d).bind (fin e) := rfl
def kIO2 (i : Nat) (p : D × En) : R (D × En) := (lstAt p.2 i).bind (kIO3 p.1 p.2)
@[simp] theorem kIO2_e (d : D) : kIO2 i (d, e) = (lstAt e i).bind (kIO3 d e) := rfl
def kIO1 (db : DE) (i : Nat) (e : En) (_ : List D) : R (D × En) := (db e).bind (kIO2 i)
@[simp] theorem kIO1_e (l : List D) : kIO1 db i e l = (db e).bind (kIO2 i) := rfl
@[simp] theorem e_dIxO : dIxO i db e = (lstAt e i).bind (kIO1 db i e) := rfl
def kNl (ne : Bool) (e : En) (xs : List D) : R (D × En) := if (D.lst xs).fit = true then .ok (.bl (if ne = true then !xs.isEmpty else xs.isEmpty), e) else .bad
@[simp] theorem kNl_e (ne : Bool) (xs : List D) : kNl ne e xs = if (D.lst xs).fit = true then .ok (.bl (if ne = true then !xs.isEmpty else xs.isEmpty), e) else .bad := rfl
@[simp] theorem e_dNilO (ne : Bool) : dNilO ne i e = (lstAt e i).bind (kNl ne e) := rfl
@[simp] theorem e_gdName (d : D) : gdName i d e = setE e i (some (.v d)) := rfl
@[simp] theorem nth_0 (s : Option Sl) (r : En) : nth (s :: r) 0 = s := rfl
@[simp] theorem nth_S (s : Option Sl) (r : En) (n : Nat) : nth (s :: r) (n + 1) = nth r n := rfl
@[simp] theorem setE_0 (s x : Option Sl) (r : En) : setE (s :: r) 0 x = some (x :: r) := rfl
def oCons (s : Option Sl) : Option En → Option En
  | some q => some (s :: q)
  | none => none
@[simp] theorem oCons_s (s : Option Sl) (q : En) : oCons s (some q) = some (s :: q) := rfl
@[simp] theorem setE_S (s x : Option Sl) (r : En) (n : Nat) : setE (s :: r) (n + 1) x = oCons s (setE r n x) := rfl
@[simp] theorem wipe_nil : wipeE e [] = some e := rfl
def oWp (v : Nat) : Option En → Option En
  | some e1 => setE e1 v none
  | none => none
@[simp] theorem oWp_s (v : Nat) : oWp v (some e) = setE e v none := rfl
@[simp] theorem wipe_cons (v : Nat) (vs : List Nat) : wipeE e (v :: vs) = oWp v (wipeE e vs) := rfl
@[simp] theorem gdAll_nil : gdAll [] [] e = some e := rfl
def oGd (is : List Nat) (ds : List D) : Option En → Option En
  | some e' => gdAll is ds e'
  | none => none
@[simp] theorem oGd_s (is : List Nat) (ds : List D) : oGd is ds (some e) = gdAll is ds e := rfl
@[simp] theorem gdAll_cons (is : List Nat) (d : D) (ds : List D) : gdAll (i :: is) (d :: ds) e = oGd is ds (setE e i (some (.v d))) := rfl
@[simp] theorem gdTup_tup (is : List Nat) (l : List D) : gdTup is (.tup l) e = gdAll is l e := rfl
@[simp] theorem slD_l (l : List D) : slD (.l l) = .ok (.lst l) := rfl
def oLa : Option Sl → R (List D)
  | some (.l xs) => .ok xs
  | some (.v (.lst xs)) => .ok xs
  | _ => .bad
@[simp] theorem oLa_l (xs : List D) : oLa (some (.l xs)) = .ok xs := rfl
@[simp] theorem oLa_v (xs : List D) : oLa (some (.v (.lst xs))) = .ok xs := rfl
@[simp] theorem lstAt_e : lstAt e i = oLa (nth e i) := rfl
@[simp] theorem asI_int (k : Int) : asI (.int k) = .ok k := rfl
@[simp] theorem endR_ret (d : D) : endR (.ret d e) = .ok d := rfl
@[simp] theorem endR_next : endR (.next e) = .ok .non := rfl
@[simp] theorem items_lst (l : List D) : itemsOf (.lst l) = .ok l := rfl
@[simp] theorem items_tup (l : List D) : itemsOf (.tup l) = .ok l := rfl
@[simp] theorem items_str (z : Str) : itemsOf (.str z) = .ok (signs z) := rfl
@[simp] theorem isL_lst (l : List D) : isL (.lst l) = true := rfl
@[simp] theorem isS_str (z : Str) : isS (.str z) = true := rfl
@[simp] theorem e_setS (s : Sl) : setS e i s = oNx (setE e i (some s)) := rfl
@[simp] theorem g_and1 (k : Bool) : asB (.bl k) = .ok k := rfl
/-! ### loops -/
theorem forL_inv {g : DG} {b : DS} (I : Nat → En → Prop) : ∀ (l : List D) (e : En) (k : Nat), I k e → (∀ (j : Nat) (d : D) (e : En), l[j]? = some d → I (k + j) e → ∃ e1 e2, g d e = some e1 ∧ (b e1 = .next e2 ∨ b e1 = .cnt e2) ∧ I (k + j + 1) e2) → ∃ e', forL g b l e = .next e' ∧ I (k + l.length) e'
  | [], e, k, h, _ => ⟨e, rfl, h⟩
  | d :: l, e, k, h, st => by
    obtain ⟨e1, e2, h1, h2, h3⟩ := st 0 d e rfl h
    obtain ⟨e', h4, h5⟩ := forL_inv I l e2 (k + 1) h3 fun j d' e0 hj hI => by
      have := st (j + 1) d' e0 hj (by rw [show k + (j + 1) = k + 1 + j by omega]; exact hI)
      rwa [show k + (j + 1) + 1 = k + 1 + j + 1 by omega] at this
    refine ⟨e', ?_, by rw [List.length_cons, show k + (l.length + 1) = k + 1 + l.length by omega]; exact h5⟩
    unfold forL
    rw [h1]
    rcases h2 with h2 | h2
    · simp only [h2]; exact h4
    · simp only [h2]; exact h4
theorem compL_ok {vs : List Nat} {g : DG} {t : DT} {el : DE} {e : En} (F : D → List D) : ∀ (l : List D), (∀ d ∈ l, ∃ e1 k e2, g d e = some e1 ∧ t e1 = .ok (k, e2) ∧ if k = true then ∃ v e3, el e2 = .ok (v, e3) ∧ wipeE e3 vs = some e ∧ F d = [v] else wipeE e2 vs = some e ∧ F d = []) → compL vs g t el l e = .ok (l.flatMap F, e)
  | [], _ => rfl
  | d :: l, h => by
    obtain ⟨e1, k, e2, h1, h2, h3⟩ := h d List.mem_cons_self
    have ih := compL_ok F l fun d' hd => h d' (List.mem_cons_of_mem _ hd)
    unfold compL
    rw [h1]
    simp only [h2, r_bind_ok]
    cases k with
    | true =>
      obtain ⟨v, e3, h4, h5, h6⟩ := h3
      simp only [if_true, h4, r_bind_ok, h5, ih, List.flatMap_cons, h6, List.singleton_append]
    | false =>
      obtain ⟨h5, h6⟩ := h3
      simp only [h5, ih, List.flatMap_cons, h6, List.nil_append, Bool.false_eq_true, if_false]
theorem compL_map {vs : List Nat} {g : DG} {el : DE} {e : En} (f : D → D) (l : List D) (h : ∀ d ∈ l, ∃ e1 e3, g d e = some e1 ∧ el e1 = .ok (f d, e3) ∧ wipeE e3 vs = some e) : compL vs g noTest el l e = .ok (l.map f, e) := by
  rw [compL_ok (fun d => [f d]) l]
  · congr 1; congr 1; induction l with
    | nil => rfl
    | cons a l ih => rw [List.flatMap_cons, List.map_cons, List.singleton_append, ih fun d hd => h d (List.mem_cons_of_mem _ hd)]
  · intro d hd
    obtain ⟨e1, e3, h1, h2, h3⟩ := h d hd
    exact ⟨e1, true, e1, h1, rfl, by rw [if_pos rfl]; exact ⟨_, _, h2, h3, rfl⟩⟩
end WW
set_option Elab.async false
set_option linter.all false
set_option maxRecDepth 100000
namespace WW
open PySem PySem.Spec L2
/-! typed data -/
def S (c : List Nat) : Str := ⟨c.toArray⟩
@[simp] theorem S_inj (a b : List Nat) : S a = S b ↔ a = b := by
  unfold S
  constructor
  · intro h
    injection h with h
    simpa using h
  · intro h; rw [h]
@[simp] theorem S_len (a : List Nat) : (S a).length = a.length := by
  unfold S Str.length
  simp
@[simp] theorem S_cps (a : List Nat) : (S a).cps.toList = a := by simp [S]
@[simp] theorem S_size (a : List Nat) : (S a).cps.size = a.length := by simp [S]
@[simp] theorem S_app (a b : List Nat) : S a ++ S b = S (a ++ b) := by
  show (⟨_ ++ _⟩ : Str) = _
  simp [S]
theorem S_mk (a : List Nat) : (⟨a.toArray⟩ : Str) = S a := rfl
@[simp] theorem S_abcd : ("abcd" : Str) = S [97, 98, 99, 100] := by decide +kernel
@[simp] theorem S_empty : ("" : Str) = S [] := by decide +kernel
def natD (k : Nat) : D := .int (k : Int)
section
variable (i j : Int) (k m n : Nat) (a b : List Nat) (l l' : List D) (x y : Str) (p q : Bool)
@[simp] theorem add_int : gAdd (.int i) (.int j) = .ok (.int (i + j)) := rfl
@[simp] theorem sub_int : gSub (.int i) (.int j) = .ok (.int (i - j)) := rfl
@[simp] theorem add_str (h : a.length + b.length ≤ LIM) : gAdd (.str (S a)) (.str (S b)) = .ok (.str (S (a ++ b))) := by
  unfold gAdd
  simp [h]
@[simp] theorem add_lst (h : l.length + l'.length ≤ LIM) : gAdd (.lst l) (.lst l') = .ok (.lst (l ++ l')) := by
  unfold gAdd
  simp [h]
@[simp] theorem eq_int : gEq (.int i) (.int j) = .ok (.bl (decide (i = j))) := rfl
@[simp] theorem eq_str : gEq (.str x) (.str y) = .ok (.bl (decide (x = y))) := rfl
@[simp] theorem eq_bool : gEq (.bl p) (.bl q) = .ok (.bl (decide (p = q))) := rfl
@[simp] theorem not_bl : gNot (.ok (.bl p)) = .ok (.bl (!p)) := rfl
@[simp] theorem ne_g (u v : D) : gNe u v = gNot (gEq u v) := rfl
@[simp] theorem lt_int : gLt (.int i) (.int j) = .ok (.bl (decide (i < j))) := rfl
@[simp] theorem le_int : gLe (.int i) (.int j) = .ok (.bl (decide (i ≤ j))) := rfl
@[simp] theorem gt_int : gGt (.int i) (.int j) = .ok (.bl (decide (j < i))) := rfl
@[simp] theorem ge_int : gGe (.int i) (.int j) = .ok (.bl (decide (j ≤ i))) := rfl
@[simp] theorem neg_int : gNeg (.int i) = .ok (.int (-i)) := rfl
@[simp] theorem isN_non : gIsN .non .non = .ok (.bl true) := rfl
@[simp] theorem isN_bl : gIsN (.bl p) .non = .ok (.bl false) := rfl
@[simp] theorem isN_int : gIsN (.int i) .non = .ok (.bl false) := rfl
@[simp] theorem isN_str : gIsN (.str x) .non = .ok (.bl false) := rfl
@[simp] theorem isN_tup : gIsN (.tup l) .non = .ok (.bl false) := rfl
@[simp] theorem isN_lst : gIsN (.lst l) .non = .ok (.bl false) := rfl
@[simp] theorem notN_non : gNotN .non .non = .ok (.bl false) := rfl
@[simp] theorem notN_bl : gNotN (.bl p) .non = .ok (.bl true) := rfl
@[simp] theorem notN_int : gNotN (.int i) .non = .ok (.bl true) := rfl
@[simp] theorem notN_str : gNotN (.str x) .non = .ok (.bl true) := rfl
@[simp] theorem notN_tup : gNotN (.tup l) .non = .ok (.bl true) := rfl
@[simp] theorem notN_lst : gNotN (.lst l) .non = .ok (.bl true) := rfl
@[simp] theorem notIn_g (u v : D) : gNotIn u v = gNot (gIn u v) := rfl
@[simp] theorem flat_int : (D.int i).flat = true := rfl
@[simp] theorem flat_bl : (D.bl p).flat = true := rfl
@[simp] theorem flat_str : (D.str x).flat = true := rfl
@[simp] theorem flat_non : D.non.flat = true := rfl
theorem in_tup_int (h : l.all D.flat = true) : gIn (.int i) (.tup l) = .ok (.bl (inFlat (.int i) l)) := by
  unfold gIn
  simp [h]
theorem in_tup_str (h : l.all D.flat = true) : gIn (.str x) (.tup l) = .ok (.bl (inFlat (.str x) l)) := by
  unfold gIn
  simp [h]
@[simp] theorem in_tup2_int (u v : Int) : gIn (.int i) (.tup [.int u, .int v]) = .ok (.bl (decide (u = i ∨ v = i))) := by
  rw [in_tup_int _ _ (by simp)]
  simp only [inFlat, eqFlat, List.any_cons, List.any_nil, Bool.or_false, Bool.decide_or]
  rfl
@[simp] theorem in_tup2_str (u v : Str) : gIn (.str x) (.tup [.str u, .str v]) = .ok (.bl (decide (u = x ∨ v = x))) := by
  rw [in_tup_str _ _ (by simp)]
  simp only [inFlat, eqFlat, List.any_cons, List.any_nil, Bool.or_false, Bool.decide_or]
  rfl
@[simp] theorem in_tupN (fz : List Nat) : gIn (.int (k : Int)) (.tup (fz.map natD)) = .ok (.bl (decide (k ∈ fz))) := by
  rw [in_tup_int _ _ (by simp [natD])]
  congr 2
  induction fz with
  | nil => rfl
  | cons f fz ih =>
    unfold inFlat at ih ⊢
    rw [List.map_cons, List.any_cons, ih]
    have e : eqFlat (natD f) (.int (k : Int)) = decide (k = f) := by
      show ((f : Int) == (k : Int)) = decide (k = f)
      by_cases h : k = f
      · subst h; simp
      · rw [decide_eq_false h]
        simp; omega
    rw [e]
    simp
@[simp] theorem in_tupNil (u : D) (h : u.flat = true) : gIn u (.tup []) = .ok (.bl false) := by
  cases u <;> first | rfl | cases h
@[simp] theorem in_S1 (c : Nat) : gIn (.str (S [c])) (.str (S a)) = .ok (.bl (decide (c ∈ a))) := by
  unfold gIn
  simp [S]
@[simp] theorem len_S (h : a.length ≤ LIM) : gLen [.str (S a)] = .ok (.int a.length) := by
  unfold gLen
  simp [h]
@[simp] theorem len_lst : gLen [.lst l] = .ok (.int l.length) := rfl
@[simp] theorem len_tup : gLen [.tup l] = .ok (.int l.length) := rfl
@[simp] theorem int_int : gInt [.int i] = .ok (.int i) := rfl
@[simp] theorem int_bl : gInt [.bl p] = .ok (.int (if p then 1 else 0)) := rfl
@[simp] theorem tuple_lst : gTuple [.lst l] = .ok (.tup l) := rfl
@[simp] theorem tuple_tup : gTuple [.tup l] = .ok (.tup l) := rfl
@[simp] theorem isi_int_non : gIsi "int" D.non = .ok (.bl false) := by
  have h : kitB "NoneType" "int" = some false := by decide +kernel
  unfold gIsi
  rw [show D.tyOf D.non = "NoneType" from rfl, h]
  rfl
@[simp] theorem isi_int_bl : gIsi "int" (.bl p) = .ok (.bl true) := by
  have h : kitB "bool" "int" = some true := by decide +kernel
  unfold gIsi
  rw [show D.tyOf (.bl p) = "bool" from rfl, h]
  rfl
@[simp] theorem isi_int_int : gIsi "int" (.int i) = .ok (.bl true) := by
  have h : kitB "int" "int" = some true := by decide +kernel
  unfold gIsi
  rw [show D.tyOf (.int i) = "int" from rfl, h]
  rfl
@[simp] theorem isi_int_str : gIsi "int" (.str x) = .ok (.bl false) := by
  have h : kitB "str" "int" = some false := by decide +kernel
  unfold gIsi
  rw [show D.tyOf (.str x) = "str" from rfl, h]
  rfl
@[simp] theorem isi_int_tup : gIsi "int" (.tup l) = .ok (.bl false) := by
  have h : kitB "tuple" "int" = some false := by decide +kernel
  unfold gIsi
  rw [show D.tyOf (.tup l) = "tuple" from rfl, h]
  rfl
@[simp] theorem isi_int_lst : gIsi "int" (.lst l) = .ok (.bl false) := by
  have h : kitB "list" "int" = some false := by decide +kernel
  unfold gIsi
  rw [show D.tyOf (.lst l) = "list" from rfl, h]
  rfl
@[simp] theorem isi_bool_non : gIsi "bool" D.non = .ok (.bl false) := by
  have h : kitB "NoneType" "bool" = some false := by decide +kernel
  unfold gIsi
  rw [show D.tyOf D.non = "NoneType" from rfl, h]
  rfl
@[simp] theorem isi_bool_bl : gIsi "bool" (.bl p) = .ok (.bl true) := by
  have h : kitB "bool" "bool" = some true := by decide +kernel
  unfold gIsi
  rw [show D.tyOf (.bl p) = "bool" from rfl, h]
  rfl
@[simp] theorem isi_bool_int : gIsi "bool" (.int i) = .ok (.bl false) := by
  have h : kitB "int" "bool" = some false := by decide +kernel
  unfold gIsi
  rw [show D.tyOf (.int i) = "int" from rfl, h]
  rfl
@[simp] theorem isi_bool_str : gIsi "bool" (.str x) = .ok (.bl false) := by
  have h : kitB "str" "bool" = some false := by decide +kernel
  unfold gIsi
  rw [show D.tyOf (.str x) = "str" from rfl, h]
  rfl
@[simp] theorem isi_bool_tup : gIsi "bool" (.tup l) = .ok (.bl false) := by
  have h : kitB "tuple" "bool" = some false := by decide +kernel
  unfold gIsi
  rw [show D.tyOf (.tup l) = "tuple" from rfl, h]
  rfl
@[simp] theorem isi_bool_lst : gIsi "bool" (.lst l) = .ok (.bl false) := by
  have h : kitB "list" "bool" = some false := by decide +kernel
  unfold gIsi
  rw [show D.tyOf (.lst l) = "list" from rfl, h]
  rfl
@[simp] theorem isi_str_non : gIsi "str" D.non = .ok (.bl false) := by
  have h : kitB "NoneType" "str" = some false := by decide +kernel
  unfold gIsi
  rw [show D.tyOf D.non = "NoneType" from rfl, h]
  rfl
@[simp] theorem isi_str_bl : gIsi "str" (.bl p) = .ok (.bl false) := by
  have h : kitB "bool" "str" = some false := by decide +kernel
  unfold gIsi
  rw [show D.tyOf (.bl p) = "bool" from rfl, h]
  rfl
@[simp] theorem isi_str_int : gIsi "str" (.int i) = .ok (.bl false) := by
  have h : kitB "int" "str" = some false := by decide +kernel
  unfold gIsi
  rw [show D.tyOf (.int i) = "int" from rfl, h]
  rfl
@[simp] theorem isi_str_str : gIsi "str" (.str x) = .ok (.bl true) := by
  have h : kitB "str" "str" = some true := by decide +kernel
  unfold gIsi
  rw [show D.tyOf (.str x) = "str" from rfl, h]
  rfl
@[simp] theorem isi_str_tup : gIsi "str" (.tup l) = .ok (.bl false) := by
  have h : kitB "tuple" "str" = some false := by decide +kernel
  unfold gIsi
  rw [show D.tyOf (.tup l) = "tuple" from rfl, h]
  rfl
@[simp] theorem isi_str_lst : gIsi "str" (.lst l) = .ok (.bl false) := by
  have h : kitB "list" "str" = some false := by decide +kernel
  unfold gIsi
  rw [show D.tyOf (.lst l) = "list" from rfl, h]
  rfl
@[simp] theorem isi_tuple_non : gIsi "tuple" D.non = .ok (.bl false) := by
  have h : kitB "NoneType" "tuple" = some false := by decide +kernel
  unfold gIsi
  rw [show D.tyOf D.non = "NoneType" from rfl, h]
  rfl
@[simp] theorem isi_tuple_bl : gIsi "tuple" (.bl p) = .ok (.bl false) := by
  have h : kitB "bool" "tuple" = some false := by decide +kernel
  unfold gIsi
  rw [show D.tyOf (.bl p) = "bool" from rfl, h]
  rfl
@[simp] theorem isi_tuple_int : gIsi "tuple" (.int i) = .ok (.bl false) := by
  have h : kitB "int" "tuple" = some false := by decide +kernel
  unfold gIsi
  rw [show D.tyOf (.int i) = "int" from rfl, h]
  rfl
@[simp] theorem isi_tuple_str : gIsi "tuple" (.str x) = .ok (.bl false) := by
  have h : kitB "str" "tuple" = some false := by decide +kernel
  unfold gIsi
  rw [show D.tyOf (.str x) = "str" from rfl, h]
  rfl
@[simp] theorem isi_tuple_tup : gIsi "tuple" (.tup l) = .ok (.bl true) := by
  have h : kitB "tuple" "tuple" = some true := by decide +kernel
  unfold gIsi
  rw [show D.tyOf (.tup l) = "tuple" from rfl, h]
  rfl
@[simp] theorem isi_tuple_lst : gIsi "tuple" (.lst l) = .ok (.bl false) := by
  have h : kitB "list" "tuple" = some false := by decide +kernel
  unfold gIsi
  rw [show D.tyOf (.lst l) = "list" from rfl, h]
  rfl
@[simp] theorem isi_list_non : gIsi "list" D.non = .ok (.bl false) := by
  have h : kitB "NoneType" "list" = some false := by decide +kernel
  unfold gIsi
  rw [show D.tyOf D.non = "NoneType" from rfl, h]
  rfl
@[simp] theorem isi_list_bl : gIsi "list" (.bl p) = .ok (.bl false) := by
  have h : kitB "bool" "list" = some false := by decide +kernel
  unfold gIsi
  rw [show D.tyOf (.bl p) = "bool" from rfl, h]
  rfl
@[simp] theorem isi_list_int : gIsi "list" (.int i) = .ok (.bl false) := by
  have h : kitB "int" "list" = some false := by decide +kernel
  unfold gIsi
  rw [show D.tyOf (.int i) = "int" from rfl, h]
  rfl
@[simp] theorem isi_list_str : gIsi "list" (.str x) = .ok (.bl false) := by
  have h : kitB "str" "list" = some false := by decide +kernel
  unfold gIsi
  rw [show D.tyOf (.str x) = "str" from rfl, h]
  rfl
@[simp] theorem isi_list_tup : gIsi "list" (.tup l) = .ok (.bl false) := by
  have h : kitB "tuple" "list" = some false := by decide +kernel
  unfold gIsi
  rw [show D.tyOf (.tup l) = "tuple" from rfl, h]
  rfl
@[simp] theorem isi_list_lst : gIsi "list" (.lst l) = .ok (.bl true) := by
  have h : kitB "list" "list" = some true := by decide +kernel
  unfold gIsi
  rw [show D.tyOf (.lst l) = "list" from rfl, h]
  rfl
@[simp] theorem mkTup_0 : mkTup [] = .ok (.tup []) := rfl
@[simp] theorem mkLst_0 : mkLst [] = .ok (.l []) := rfl
@[simp] theorem mkTup_1 (x0 : D) : mkTup [x0] = .ok (.tup [x0]) := rfl
@[simp] theorem mkLst_1 (x0 : D) : mkLst [x0] = .ok (.l [x0]) := rfl
@[simp] theorem mkTup_2 (x0 x1 : D) : mkTup [x0, x1] = .ok (.tup [x0, x1]) := rfl
@[simp] theorem mkLst_2 (x0 x1 : D) : mkLst [x0, x1] = .ok (.l [x0, x1]) := rfl
@[simp] theorem mkTup_3 (x0 x1 x2 : D) : mkTup [x0, x1, x2] = .ok (.tup [x0, x1, x2]) := rfl
@[simp] theorem mkLst_3 (x0 x1 x2 : D) : mkLst [x0, x1, x2] = .ok (.l [x0, x1, x2]) := rfl
@[simp] theorem mkTup_4 (x0 x1 x2 x3 : D) : mkTup [x0, x1, x2, x3] = .ok (.tup [x0, x1, x2, x3]) := rfl
@[simp] theorem mkLst_4 (x0 x1 x2 x3 : D) : mkLst [x0, x1, x2, x3] = .ok (.l [x0, x1, x2, x3]) := rfl
@[simp] theorem mkTup_5 (x0 x1 x2 x3 x4 : D) : mkTup [x0, x1, x2, x3, x4] = .ok (.tup [x0, x1, x2, x3, x4]) := rfl
@[simp] theorem mkLst_5 (x0 x1 x2 x3 x4 : D) : mkLst [x0, x1, x2, x3, x4] = .ok (.l [x0, x1, x2, x3, x4]) := rfl
@[simp] theorem mkTup_6 (x0 x1 x2 x3 x4 x5 : D) : mkTup [x0, x1, x2, x3, x4, x5] = .ok (.tup [x0, x1, x2, x3, x4, x5]) := rfl
@[simp] theorem mkLst_6 (x0 x1 x2 x3 x4 x5 : D) : mkLst [x0, x1, x2, x3, x4, x5] = .ok (.l [x0, x1, x2, x3, x4, x5]) := rfl
@[simp] theorem mkTup_7 (x0 x1 x2 x3 x4 x5 x6 : D) : mkTup [x0, x1, x2, x3, x4, x5, x6] = .ok (.tup [x0, x1, x2, x3, x4, x5, x6]) := rfl
@[simp] theorem mkLst_7 (x0 x1 x2 x3 x4 x5 x6 : D) : mkLst [x0, x1, x2, x3, x4, x5, x6] = .ok (.l [x0, x1, x2, x3, x4, x5, x6]) := rfl
@[simp] theorem mkTup_ok (h : l.length ≤ LIM) : mkTup l = .ok (.tup l) := by unfold mkTup; rw [if_pos h]
@[simp] theorem mkLst_ok (h : l.length ≤ LIM) : mkLst l = .ok (.l l) := by unfold mkLst; rw [if_pos h]
@[simp] theorem range1 (h : wide i = true) : asRange [.int i] = .ok (intsD 0 i.toNat) := by unfold asRange; simp [h]
@[simp] theorem zip_lst : asZip [.lst l, .lst l'] = .ok (zipD l l') := rfl
@[simp] theorem zip_tup : asZip [.tup l, .tup l'] = .ok (zipD l l') := rfl
theorem wide_of' (h : -1000000000 ≤ i ∧ i ≤ 1000000000) : wide i = true := by
  unfold wide SMALL
  simp
  omega
@[simp] theorem sl_lst (lo hi : Option Int) : gSl (.lst l) lo hi = .ok (.lst (cutD l lo hi)) := rfl
@[simp] theorem sl_tup (lo hi : Option Int) : gSl (.tup l) lo hi = .ok (.tup (cutD l lo hi)) := rfl
/-- a slice of anything -/
def cut {α : Type} (xs : List α) (lo hi : Option Int) : List α := (xs.drop (HT.sIx xs.length 0 lo)).take (HT.sIx xs.length xs.length hi - HT.sIx xs.length 0 lo)
@[simp] theorem cutD_eq (lo hi : Option Int) : cutD l lo hi = cut l lo hi := rfl
@[simp] theorem sl_S (lo hi : Option Int) (h : a.length ≤ LIM) : gSl (.str (S a)) lo hi = .ok (.str (S (cut a lo hi))) := by
  unfold gSl
  simp [h, cutS, cut, S, Str.length]
end
section
variable {α β : Type}
theorem cut_map (f : α → β) (l : List α) (lo hi : Option Int) : cut (l.map f) lo hi = (cut l lo hi).map f := by
  unfold cut
  rw [List.length_map, List.map_take, List.map_drop]
theorem cut_to (l : List α) (k : Nat) (h : k ≤ l.length) : cut l none (some (k : Int)) = l.take k := by
  unfold cut
  rw [HT.sIx_none, HT.sIx_nat, List.drop_zero, Nat.sub_zero, Nat.min_eq_left h]
theorem cut_from (l : List α) (k : Nat) (h : k ≤ l.length) : cut l (some (k : Int)) none = l.drop k := by
  unfold cut
  rw [HT.sIx_none, HT.sIx_nat, Nat.min_eq_left h]
  exact List.take_of_length_le (by rw [List.length_drop]; omega)
theorem cut_1 (l : List α) : cut l (some 1) none = l.tail := by
  cases l with
  | nil => rfl
  | cons a l => exact cut_from (a :: l) 1 (by simp)
theorem cut_to1 (l : List α) : cut l none (some 1) = l.take 1 := by
  cases l with
  | nil => rfl
  | cons a l => exact cut_to (a :: l) 1 (by simp)
end
/-- the sign at a place, places counted from the end too -/
def ixI (n : Nat) (i : Int) : Nat := (if i < 0 then i + n else i).toNat
def gt (c : List Nat) (k : Nat) : Nat := c.getD k 0
def at_ (c : List Nat) (i : Int) : Nat := c.getD (ixI c.length i) 0
theorem atI_some {α : Type} (l : List α) (i : Int) (h : -(l.length : Int) ≤ i) (h' : i < l.length) : ∃ hk : ixI l.length i < l.length, atI l i = some l[ixI l.length i] := by
  unfold atI ixN ixI
  by_cases h0 : 0 ≤ i
  · have e : (if i < 0 then i + (l.length : Int) else i) = i := if_neg (by omega)
    rw [if_pos h0, if_pos h']
    refine ⟨by rw [e]; omega, ?_⟩
    simp only [Option.bind_some]
    rw [List.getElem?_eq_getElem (by omega)]
    simp only [e]
  · have e : (if i < 0 then i + (l.length : Int) else i) = i + l.length := if_pos (by omega)
    rw [if_neg h0, if_pos h]
    refine ⟨by rw [e]; omega, ?_⟩
    simp only [Option.bind_some]
    rw [List.getElem?_eq_getElem (by omega)]
    simp only [e]
@[simp] theorem ix_S (c : List Nat) (i : Int) (hl : c.length ≤ LIM) (h : -(c.length : Int) ≤ i) (h' : i < c.length) : gIx (.str (S c)) (.int i) = .ok (.str (S [at_ c i])) := by
  obtain ⟨hk, e⟩ := atI_some c i h h'
  unfold gIx
  simp only [S_len, hl, if_true, S_cps, e]
  unfold at_
  rw [List.getD_eq_getElem?_getD, List.getElem?_eq_getElem hk]
  rfl
theorem ix_lst (l : List D) (i : Int) (d : D) (h : -(l.length : Int) ≤ i) (h' : i < l.length) (hd : l[ixI l.length i]? = some d) : gIx (.lst l) (.int i) = .ok d := by
  obtain ⟨hk, e⟩ := atI_some l i h h'
  unfold gIx
  rw [List.getElem?_eq_getElem hk] at hd
  injection hd with hd
  simp only [e, hd]
theorem ix_tup (l : List D) (i : Int) (d : D) (h : -(l.length : Int) ≤ i) (h' : i < l.length) (hd : l[ixI l.length i]? = some d) : gIx (.tup l) (.int i) = .ok d := by
  obtain ⟨hk, e⟩ := atI_some l i h h'
  unfold gIx
  rw [List.getElem?_eq_getElem hk] at hd
  injection hd with hd
  simp only [e, hd]
section
variable (x y z w : D) (l : List D)
@[simp] theorem ix_t0 : gIx (.tup (x :: l)) (.int 0) = .ok x := ix_tup _ _ _ (by simp; try omega) (by simp; try omega) rfl
@[simp] theorem ix_t1 : gIx (.tup (x :: y :: l)) (.int 1) = .ok y := ix_tup _ _ _ (by simp; omega) (by simp; omega) rfl
@[simp] theorem ix_t2 : gIx (.tup (x :: y :: z :: l)) (.int 2) = .ok z := ix_tup _ _ _ (by simp; omega) (by simp; omega) rfl
@[simp] theorem ix_t3 : gIx (.tup (x :: y :: z :: w :: l)) (.int 3) = .ok w := ix_tup _ _ _ (by simp; omega) (by simp; omega) rfl
@[simp] theorem ix_l0 : gIx (.lst (x :: l)) (.int 0) = .ok x := ix_lst _ _ _ (by simp; try omega) (by simp; try omega) rfl
@[simp] theorem ix_l1 : gIx (.lst (x :: y :: l)) (.int 1) = .ok y := ix_lst _ _ _ (by simp; omega) (by simp; omega) rfl
@[simp] theorem ix_l2 : gIx (.lst (x :: y :: z :: l)) (.int 2) = .ok z := ix_lst _ _ _ (by simp; omega) (by simp; omega) rfl
end
/-- the next cell round n cells -/
def nx (n k : Nat) : Nat := if k + 1 = n then 0 else k + 1
theorem nx_lt {n k : Nat} (h : k < n) : nx n k < n := by unfold nx; split <;> omega
@[simp] theorem mod_nx (n k : Nat) (h : k < n) : gMod (.int ((k : Int) + 1)) (.int (n : Int)) = .ok (.int (nx n k : Int)) := by
  show (if 0 < (n : Int) then R.ok (D.int (((k : Int) + 1) % (n : Int))) else .bad) = _
  rw [if_pos (by omega)]
  unfold nx
  congr 2
  by_cases e : k + 1 = n
  · rw [if_pos e, ← e]; simp
  · rw [if_neg e, Int.emod_eq_of_lt (by omega) (by omega)]; rfl
@[simp] theorem at_nat (c : List Nat) (k : Nat) : at_ c (k : Int) = gt c k := by
  unfold at_ ixI gt
  rw [if_neg (by omega), Int.toNat_natCast]
/-! plans -/
structure Plan where
  r : Bool
  n : Nat
  fz : List Nat
  ws : List Nat
def fzD (fz : List Nat) : D := .tup (fz.map natD)
def Plan.D (P : Plan) : WW.D := .tup [.bl P.r, .int (P.n : Int), .tup (P.fz.map natD), .tup (P.ws.map natD)]
structure Plan.Ok (P : Plan) : Prop where
  lo : 3 ≤ P.n
  hi : P.n ≤ 13
  fz : ∀ f ∈ P.fz, f < P.n
  rise : P.fz.Pairwise (· < ·)
  wl : P.ws.length = 6
  ws : ∀ w ∈ P.ws, 1 ≤ w ∧ w ≤ 9
structure Cells (n : Nat) (c : List Nat) : Prop where
  len : c.length = n
  sg : ∀ x ∈ c, 97 ≤ x ∧ x ≤ 100
def prev (n k : Nat) : Nat := if k = 0 then n - 1 else k - 1
theorem prev_lt {n k : Nat} (h : k < n) : prev n k < n := by unfold prev; split <;> omega
theorem LIM_n : LIM = 1000000 := rfl
@[simp] theorem at_prev (c : List Nat) (k : Nat) (h : k < c.length) : at_ c ((k : Int) - 1) = gt c (prev c.length k) := by
  unfold at_ ixI prev gt
  congr 1
  by_cases e : k = 0
  · subst e; simp; omega
  · rw [if_neg (by omega), if_neg e]; omega
theorem Cells.get {n : Nat} {c : List Nat} (h : Cells n c) {k : Nat} (hk : k < n) : 97 ≤ gt c k ∧ gt c k ≤ 100 := by
  unfold gt
  have hk2 : k < c.length := by rw [h.len]; exact hk
  rw [List.getD_eq_getElem?_getD, List.getElem?_eq_getElem hk2]
  exact h.sg _ (List.getElem_mem hk2)
end WW
set_option Elab.async false
set_option linter.all false
set_option maxRecDepth 100000
namespace WW
open PySem PySem.Spec L2
def f_law_alike_f1 (rec : List D → R D) : DS := sIf (dNot (dTest (dCall rec (dCons (dBin gIx (dVar 0) (dVar 2)) (dCons (dBin gIx (dVar 1) (dVar 2)) (dNil)))))) (sRet (dC (.bl false))) (sNext)
theorem f_law_alike_den_eq (rec : List D → R D) : f_law_alike_den rec = sSeq (sIf (dTest (dBin gIsN (dVar 1) (dC .non))) (sRet (dBin gIsN (dVar 0) (dC .non))) (sNext)) (sSeq (sIf (dTest (dIsi "bool" (dVar 1))) (sRet (dAndV (dIsi "bool" (dVar 0)) (dBin gEq (dVar 0) (dVar 1)))) (sNext)) (sSeq (sIf (dTest (dIsi "int" (dVar 1))) (sRet (dAndV (dIsi "int" (dVar 0)) (dAndV (dNotV (dIsi "bool" (dVar 0))) (dBin gEq (dVar 0) (dVar 1))))) (sNext)) (sSeq (sIf (dTest (dIsi "str" (dVar 1))) (sRet (dAndV (dIsi "str" (dVar 0)) (dBin gEq (dVar 0) (dVar 1)))) (sNext)) (sSeq (sIf (dOr (dTest (dBin gNe (dIsi "tuple" (dVar 1)) (dIsi "tuple" (dVar 0)))) (dTest (dBin gNe (dIsi "list" (dVar 1)) (dIsi "list" (dVar 0))))) (sRet (dC (.bl false))) (sNext)) (sSeq (sIf (dTest (dBin gNe (dApp gLen (dCons (dVar 0) (dNil))) (dApp gLen (dCons (dVar 1) (dNil))))) (sRet (dC (.bl false))) (sNext)) (sSeq (sFor (iRange (dCons (dApp gLen (dCons (dVar 1) (dNil))) (dNil))) (gdName 2) (f_law_alike_f1 rec)) (sRet (dC (.bl true))))))))) := rfl

def p_are_frozen_e1 : DE := dCall p_is_number (dCons (dVar 2) (dCons (dC (.int 0)) (dCons (dBin gSub (dVar 1) (dC (.int 1))) (dNil))))
def p_are_frozen_e2 : DE := dBin gLt (dVar 3) (dVar 4)
theorem p_are_frozen_den_eq : p_are_frozen_den = sSeq (sIf (dOr (dNot (dTest (dIsi "tuple" (dVar 0)))) (dNot (dTest (dApp gAll (dCons (dFrz (oComp (iVal (dVar 0)) [2] (gdName 2) (noTest) p_are_frozen_e1)) (dNil)))))) (sRet (dC (.bl false))) (sNext)) (sRet (dApp gAll (dCons (dFrz (oComp (iZipd (dCons (dVar 0) (dCons (dSl (dVar 0) (pSome (dC (.int 1))) (pNo)) (dNil)))) [3, 4] (gdTup [3, 4]) (noTest) p_are_frozen_e2)) (dNil)))) := rfl

def p_are_weights_e1 : DE := dCall p_is_number (dCons (dVar 1) (dCons (dC (.int 1)) (dCons (dC (.int 9)) (dNil))))
theorem p_are_weights_den_eq : p_are_weights_den = sSeq (sIf (dOr (dNot (dTest (dIsi "tuple" (dVar 0)))) (dTest (dBin gNe (dApp gLen (dCons (dVar 0) (dNil))) (dApp gLen (dCons (dC (.tup ((["ab", "ac", "ad", "bc", "bd", "cd"] : List Str).map D.str))) (dNil)))))) (sRet (dC (.bl false))) (sNext)) (sRet (dApp gAll (dCons (dFrz (oComp (iVal (dVar 0)) [1] (gdName 1) (noTest) p_are_weights_e1)) (dNil)))) := rfl

def p_need_cells_e1 : DE := dBin gIn (dVar 2) (dC (.str ("abcd" : Str)))
theorem p_need_cells_den_eq : p_need_cells_den = sIf (dOr (dNot (dTest (dIsi "str" (dVar 1)))) (dOr (dTest (dBin gNe (dApp gLen (dCons (dVar 1) (dNil))) (dBin gIx (dVar 0) (dC (.int 1))))) (dNot (dTest (dApp gAll (dCons (dFrz (oComp (iVal (dVar 1)) [2] (gdName 2) (noTest) p_need_cells_e1)) (dNil))))))) (sBad) (sNext) := rfl

def p_turns_of_f1 : DS := sSeq (sAsg 4 (dCall p_turned (dCons (dVar 0) (dCons (dVar 1) (dCons (dVar 3) (dNil)))))) (sIf (dTest (dBin gNotN (dVar 4) (dC .non))) (sAppend 2 (dTup (dCons (dVar 3) (dCons (dCall p_with_sign (dCons (dVar 1) (dCons (dVar 3) (dCons (dVar 4) (dNil))))) (dCons (dCall p_weight_of (dCons (dVar 0) (dCons (dBin gIx (dVar 1) (dVar 3)) (dCons (dVar 4) (dNil))))) (dNil)))))) (sNext))
theorem p_turns_of_den_eq : p_turns_of_den = sSeq (sAsgO 2 (oLst (dNil))) (sSeq (sFor (iRange (dCons (dBin gIx (dVar 0) (dC (.int 1))) (dNil))) (gdName 3) p_turns_of_f1) (sRet (dVar 2))) := rfl

def p_places_of_t1 : DT := dTest (dBin gNe (dBin gIx (dVar 1) (dVar 7)) (dBin gIx (dVar 1) (dBin gMod (dBin gAdd (dVar 7) (dC (.int 1))) (dVar 3))))
def p_places_of_e1 : DE := dVar 7
theorem p_places_of_den_eq : p_places_of_den = sSeq (sTo (gdTup [2, 3, 4, 5]) (dVar 0)) (sSeq (sAsg 6 (dIfE (dTest (dVar 2)) (dVar 3) (dBin gSub (dVar 3) (dC (.int 1))))) (sRet (dFrz (oComp (iRange (dCons (dVar 6) (dNil))) [7] (gdName 7) p_places_of_t1 p_places_of_e1)))) := rfl

def p_opened_e1 : DE := dBin gMod (dBin gSub (dVar 6) (dBin gIx (dVar 3) (dC (.int 0)))) (dVar 2)
theorem p_opened_den_eq : p_opened_den = sSeq (sTo (gdTup [1, 2, 3, 4]) (dVar 0)) (sSeq (sAsgO 5 (oComp (iVal (dVar 3)) [6] (gdName 6) (noTest) p_opened_e1)) (sRet (dTup (dCons (dC (.bl false)) (dCons (dBin gAdd (dVar 2) (dC (.int 1))) (dCons (dApp gTuple (dCons (dApp gSortedI (dCons (dVar 5) (dNil))) (dNil))) (dCons (dVar 4) (dNil)))))))) := rfl

def p_row_match_e1 : DE := dBin gIx (dVar 1) (dBin gAdd (dVar 5) (dC (.int 1)))
def p_row_match_e2 : DE := dBin gIx (dVar 2) (dBin gAdd (dVar 5) (dC (.int 1)))
def p_row_match_t3 : DT := dTest (dBin gLt (dVar 5) (dVar 6))
def p_row_match_e3 : DE := dVar 5
def p_row_match_t4 : DT := dTest (dBin gLt (dVar 5) (dVar 6))
def p_row_match_e4 : DE := dVar 5
def p_row_match_f1 : DS := sIf (dTest (dBin gNe (dApp gLen (dCons (dFrz (oComp (iVal (dVar 3)) [5] (gdName 5) p_row_match_t3 p_row_match_e3)) (dNil))) (dApp gLen (dCons (dFrz (oComp (iVal (dVar 4)) [5] (gdName 5) p_row_match_t4 p_row_match_e4)) (dNil))))) (sRet (dC .non)) (sNext)
def p_row_match_e5 : DE := dTup (dCons (dCall p_weight_of (dCons (dVar 0) (dCons (dBin gIx (dVar 1) (dVar 5)) (dCons (dBin gIx (dVar 1) (dBin gAdd (dVar 5) (dC (.int 1)))) (dNil))))) (dCons (dVar 5) (dCons (dVar 8) (dNil))))
def p_row_match_e6 : DE := dCall p_between (dCons (dVar 9) (dCons (dVar 6) (dNil)))
def p_row_match_e7 : DE := dTup (dCons (dBin gIx (dVar 9) (dC (.int 0))) (dCons (dApp gTuple (dCons (dFrz (oComp (iRange (dCons (dBin gIx (dVar 0) (dC (.int 1))) (dNil))) [6] (gdName 6) (noTest) p_row_match_e6)) (dNil))) (dNil)))
theorem p_row_match_den_eq : p_row_match_den = sSeq (sPar 3 4 (dCall p_places_of (dCons (dVar 0) (dCons (dVar 1) (dNil)))) (dCall p_places_of (dCons (dVar 0) (dCons (dVar 2) (dNil))))) (sSeq (sIf (dOr (dTest (dBin gNe (dApp gLen (dCons (dVar 3) (dNil))) (dApp gLen (dCons (dVar 4) (dNil))))) (dTest (dBin gNe (dBin gIx (dVar 1) (dC (.int 0))) (dBin gIx (dVar 2) (dC (.int 0)))))) (sRet (dC .non)) (sNext)) (sSeq (sIf (dTest (dBin gNe (dFrz (oComp (iVal (dVar 3)) [5] (gdName 5) (noTest) p_row_match_e1)) (dFrz (oComp (iVal (dVar 4)) [5] (gdName 5) (noTest) p_row_match_e2)))) (sRet (dC .non)) (sNext)) (sSeq (sFor (iVal (dBin gIx (dVar 0) (dC (.int 2)))) (gdName 6) p_row_match_f1) (sSeq (sAsgO 7 (oComp (iZipd (dCons (dVar 3) (dCons (dVar 4) (dNil)))) [5, 8] (gdTup [5, 8]) (noTest) p_row_match_e5)) (sRet (dFrzO (oMake ("Match" : Str) p_Match___init__ (dCons (dVar 7) (dCons (dFrz (oComp (iVal (dVar 7)) [9] (gdName 9) (noTest) p_row_match_e7)) (dCons (dC (.int 0)) (dNil))))))))))) := rfl

def p_signs_of_e1 : DE := dBin gIx (dVar 1) (dBin gMod (dBin gAdd (dVar 3) (dC (.int 1))) (dBin gIx (dVar 0) (dC (.int 1))))
theorem p_signs_of_den_eq : p_signs_of_den = sRet (dFrz (oComp (iVal (dVar 2)) [3] (gdName 3) (noTest) p_signs_of_e1)) := rfl

def p_period_t1 : DT := dTest (dBin gEq (dBin gAdd (dSl (dVar 0) (pSome (dVar 1)) (pNo)) (dSl (dVar 0) (pNo) (pSome (dVar 1)))) (dVar 0))
def p_period_e1 : DE := dVar 1
theorem p_period_den_eq : p_period_den = sRet (dBin gIx (dFrz (oComp (iRange (dCons (dC (.int 1)) (dCons (dBin gAdd (dApp gLen (dCons (dVar 0) (dNil))) (dC (.int 1))) (dNil)))) [1] (gdName 1) p_period_t1 p_period_e1)) (dC (.int 0))) := rfl

def p_Ring___init___t1 : DT := dTest (dBin gEq (dBin gAdd (dSl (dVar 5) (pSome (dVar 7)) (pNo)) (dSl (dVar 5) (pNo) (pSome (dVar 7)))) (dVar 4))
def p_Ring___init___e1 : DE := dVar 7
theorem p_Ring___init___den_eq : p_Ring___init___den = sSeq (sSetF ("Ring" : Str) 0 ("plan" : Str) (dVar 1)) (sSeq (sSetF ("Ring" : Str) 0 ("one" : Str) (dVar 2)) (sSeq (sSetF ("Ring" : Str) 0 ("starts" : Str) (dCall p_places_of (dCons (dVar 1) (dCons (dVar 2) (dNil))))) (sSeq (sSetF ("Ring" : Str) 0 ("goals" : Str) (dCall p_places_of (dCons (dVar 1) (dCons (dVar 3) (dNil))))) (sSeq (sTo (gdTup [4, 5]) (dTup (dCons (dCall p_signs_of (dCons (dVar 1) (dCons (dVar 2) (dCons (dFldO ("Ring" : Str) 0 ("starts" : Str)) (dNil))))) (dCons (dCall p_signs_of (dCons (dVar 1) (dCons (dVar 3) (dCons (dFldO ("Ring" : Str) 0 ("goals" : Str)) (dNil))))) (dNil))))) (sSeq (sAsgO 6 (oComp (iRange (dCons (dApp gLen (dCons (dVar 5) (dNil))) (dNil))) [7] (gdName 7) p_Ring___init___t1 p_Ring___init___e1)) (sSeq (sSetF ("Ring" : Str) 0 ("first" : Str) (dIfE (dAnd (dTest (dBin gNe (dVar 6) (dFrz (oLst (dNil))))) (dTest (dBin gEq (dApp gLen (dCons (dVar 4) (dNil))) (dApp gLen (dCons (dVar 5) (dNil)))))) (dBin gIx (dVar 6) (dC (.int 0))) (dC .non))) (sSetF ("Ring" : Str) 0 ("step" : Str) (dIfE (dTest (dBin gNe (dVar 4) (dFrz (oLst (dNil))))) (dCall p_period (dCons (dVar 4) (dNil))) (dC (.int 0)))))))))) := rfl

def p_Match_cost_e1 : DE := dBin gMul (dVar 1) (dApp gAbs (dCons (dBin gSub (dVar 3) (dVar 2)) (dNil)))
theorem p_Match_cost_den_eq : p_Match_cost_den = sRet (dApp gSum (dCons (dFrz (oComp (iVal (dUn (gFld ("Match" : Str) ("rows" : Str)) (dVar 0))) [1, 2, 3] (gdTup [1, 2, 3]) (noTest) p_Match_cost_e1)) (dNil))) := rfl

def p_Ring_by_shift_f1 : DS := sSeq (sAsg 6 (dCall p_weight_of (dCons (dUn (gFld ("Ring" : Str) ("plan" : Str)) (dVar 0)) (dCons (dBin gIx (dUn (gFld ("Ring" : Str) ("one" : Str)) (dVar 0)) (dVar 5)) (dCons (dBin gIx (dUn (gFld ("Ring" : Str) ("one" : Str)) (dVar 0)) (dBin gMod (dBin gAdd (dVar 5) (dC (.int 1))) (dVar 2))) (dNil)))))) (sAppend 3 (dTup (dCons (dVar 6) (dCons (dVar 5) (dCons (dCall p_far_place (dCons (dUn (gFld ("Ring" : Str) ("goals" : Str)) (dVar 0)) (dCons (dBin gAdd (dBin gAdd (dVar 4) (dUn (gFld ("Ring" : Str) ("first" : Str)) (dVar 0))) (dBin gMul (dVar 1) (dUn (gFld ("Ring" : Str) ("step" : Str)) (dVar 0)))) (dCons (dVar 2) (dNil))))) (dNil))))))
theorem p_Ring_by_shift_den_eq : p_Ring_by_shift_den = sSeq (sParL [2, 3] (lConsD (dBin gIx (dUn (gFld ("Ring" : Str) ("plan" : Str)) (dVar 0)) (dC (.int 1))) (lConsO (oLst (dNil)) (lNil)))) (sSeq (sFor (iEnumd (dCons (dUn (gFld ("Ring" : Str) ("starts" : Str)) (dVar 0)) (dNil))) (gdTup [4, 5]) p_Ring_by_shift_f1) (sRet (dVar 3))) := rfl

def p_Ring_best_e1 : DE := dTup (dCons (dMethD ("Match" : Str) ("cost" : Str) p_Match_cost (dFrzO (oMake ("Match" : Str) p_Match___init__ (dCons (dMethD ("Ring" : Str) ("by_shift" : Str) p_Ring_by_shift (dVar 0) (dCons (dVar 3) (dNil))) (dCons (dFrz (oLst (dNil))) (dCons (dC (.int 0)) (dNil)))))) (dNil)) (dCons (dVar 3) (dNil)))
theorem p_Ring_best_den_eq : p_Ring_best_den = sSeq (sAsg 1 (dBin gAdd (dBin gDiv (dBin gMul (dC (.int 2)) (dApp gLen (dCons (dUn (gFld ("Ring" : Str) ("starts" : Str)) (dVar 0)) (dNil)))) (dUn (gFld ("Ring" : Str) ("step" : Str)) (dVar 0))) (dC (.int 1)))) (sSeq (sAsgO 2 (oComp (iRange (dCons (dBin gSub (dC (.int 0)) (dVar 1)) (dCons (dBin gAdd (dVar 1) (dC (.int 1))) (dNil)))) [3] (gdName 3) (noTest) p_Ring_best_e1)) (sRet (dBin gIx (dApp gMinL (dCons (dVar 2) (dNil))) (dC (.int 1))))) := rfl

def p_Ring_last_below_w1t : DT := dTest (dBin gGt (dCall p_far_place (dCons (dVar 1) (dCons (dBin gAdd (dVar 2) (dBin gMul (dVar 4) (dUn (gFld ("Ring" : Str) ("step" : Str)) (dVar 0)))) (dCons (dBin gIx (dUn (gFld ("Ring" : Str) ("plan" : Str)) (dVar 0)) (dC (.int 1))) (dNil))))) (dVar 3))
def p_Ring_last_below_w1 : DS := sAugI 4 (fun i j => i - j) (dC (.int 1))
theorem p_Ring_last_below_den_eq : p_Ring_last_below_den = sSeq (sAsg 4 (dBin gMul (dC (.int 3)) (dApp gLen (dCons (dVar 1) (dNil))))) (sSeq (sWhile p_Ring_last_below_w1t p_Ring_last_below_w1) (sRet (dVar 4))) := rfl

def p_Ring_kinds_f1 : DS := sSeq (sAsg 7 (dMethD ("Ring" : Str) ("last_below" : Str) p_Ring_last_below (dVar 0) (dCons (dUn (gFld ("Ring" : Str) ("goals" : Str)) (dVar 0)) (dCons (dBin gAdd (dVar 2) (dUn (gFld ("Ring" : Str) ("first" : Str)) (dVar 0))) (dCons (dVar 6) (dNil)))))) (sAppend 5 (dBin gSub (dVar 7) (dMethD ("Ring" : Str) ("last_below" : Str) p_Ring_last_below (dVar 0) (dCons (dUn (gFld ("Ring" : Str) ("starts" : Str)) (dVar 0)) (dCons (dVar 2) (dCons (dVar 6) (dNil)))))))
def p_Ring_kinds_f2 : DS := sSeq (sAsg 3 (dBin gIx (dUn (gFld ("Ring" : Str) ("starts" : Str)) (dVar 0)) (dVar 2))) (sSeq (sAsg 4 (dCall p_weight_of (dCons (dUn (gFld ("Ring" : Str) ("plan" : Str)) (dVar 0)) (dCons (dBin gIx (dUn (gFld ("Ring" : Str) ("one" : Str)) (dVar 0)) (dVar 3)) (dCons (dBin gIx (dUn (gFld ("Ring" : Str) ("one" : Str)) (dVar 0)) (dBin gMod (dBin gAdd (dVar 3) (dC (.int 1))) (dBin gIx (dUn (gFld ("Ring" : Str) ("plan" : Str)) (dVar 0)) (dC (.int 1))))) (dNil)))))) (sSeq (sAsgO 5 (oLst (dNil))) (sSeq (sFor (iRange (dCons (dBin gIx (dUn (gFld ("Ring" : Str) ("plan" : Str)) (dVar 0)) (dC (.int 1))) (dNil))) (gdName 6) p_Ring_kinds_f1) (sAppend 1 (dTup (dCons (dVar 4) (dCons (dApp gTuple (dCons (dVar 5) (dNil))) (dNil))))))))
theorem p_Ring_kinds_den_eq : p_Ring_kinds_den = sSeq (sAsgO 1 (oLst (dNil))) (sSeq (sFor (iRange (dCons (dUn (gFld ("Ring" : Str) ("step" : Str)) (dVar 0)) (dNil))) (gdName 2) p_Ring_kinds_f2) (sRet (dVar 1))) := rfl

def p_way_of_f1 : DS := sSeq (sAsg 9 (dCall p_match_of (dCons (dVar 0) (dCons (dVar 7) (dCons (dVar 2) (dNil)))))) (sIf (dTest (dBin gEq (dMethD ("Match" : Str) ("cost" : Str) p_Match_cost (dVar 9) (dNil)) (dBin gSub (dVar 5) (dVar 8)))) (sBrk) (sNext))
def p_way_of_w1t : DT := dTest (dBin gGt (dVar 5) (dC (.int 0)))
def p_way_of_w1 : DS := sSeq (sFor (iVal (dCall p_turns_of (dCons (dVar 0) (dCons (dVar 4) (dNil))))) (gdTup [6, 7, 8]) p_way_of_f1) (sSeq (sAppend 3 (dVar 6)) (sSeq (sAsg 4 (dVar 7)) (sAugI 5 (fun i j => i - j) (dVar 8))))
theorem p_way_of_den_eq : p_way_of_den = sSeq (sParO 3 4 (oLst (dNil)) (dVar 1)) (sSeq (sAsg 5 (dMethD ("Match" : Str) ("cost" : Str) p_Match_cost (dCall p_match_of (dCons (dVar 0) (dCons (dVar 1) (dCons (dVar 2) (dNil))))) (dNil))) (sSeq (sWhile p_way_of_w1t p_way_of_w1) (sRet (dVar 3)))) := rfl

def p_judged_f1 : DS := sSeq (sAsg 8 (dIfE (dTest (dCall p_is_number (dCons (dVar 7) (dCons (dC (.int 0)) (dCons (dBin gSub (dBin gIx (dVar 0) (dC (.int 1))) (dC (.int 1))) (dNil)))))) (dCall p_turned (dCons (dVar 0) (dCons (dVar 5) (dCons (dVar 7) (dNil))))) (dC .non))) (sSeq (sIf (dTest (dBin gIsN (dVar 8) (dC .non))) (sBad) (sNext)) (sSeq (sAugI 4 (fun i j => i + j) (dCall p_weight_of (dCons (dVar 0) (dCons (dBin gIx (dVar 5) (dVar 7)) (dCons (dVar 8) (dNil)))))) (sAsg 5 (dCall p_with_sign (dCons (dVar 5) (dCons (dVar 7) (dCons (dVar 8) (dNil))))))))
theorem p_judged_den_eq : p_judged_den = sSeq (sDrop (dCall p_need_both (dCons (dVar 0) (dCons (dVar 1) (dCons (dVar 2) (dNil)))))) (sSeq (sIf (dNot (dTest (dIsi "list" (dVar 3)))) (sBad) (sNext)) (sSeq (sPar 4 5 (dC (.int 0)) (dVar 1)) (sSeq (sFor (iEnumd (dCons (dVar 3) (dNil))) (gdTup [6, 7]) p_judged_f1) (sRet (dIfE (dTest (dBin gEq (dVar 5) (dVar 2))) (dVar 4) (dC .non)))))) := rfl

def f_law_plan_t1 : DT := dTest (dBin gEq (dCallB f_law_take 0 (dCons (dBin gIx (dFrz (oLst (dCons (dC (.int 2)) (dCons (dC (.int 9)) (dCons (dC (.int 30)) (dNil)))))) (dCallB f_law_take 0 (dCons (dC (.int 3)) (dNil)))) (dNil))) (dC (.int 1)))
def f_law_plan_e1 : DE := dVar 4
def f_law_plan_e2 : DE := dBin gAdd (dC (.int 1)) (dCallB f_law_take 0 (dCons (dBin gIx (dFrz (oLst (dCons (dC (.int 2)) (dCons (dC (.int 9)) (dNil))))) (dCallB f_law_take 0 (dCons (dC (.int 2)) (dNil)))) (dNil)))
theorem f_law_plan_den_eq : f_law_plan_den = sSeq (sAsg 2 (dBin gAdd (dC (.int 3)) (dCallB f_law_take 0 (dCons (dBin gSub (dVar 1) (dC (.int 2))) (dNil))))) (sSeq (sAsg 3 (dApp gTuple (dCons (dFrz (oComp (iRange (dCons (dVar 2) (dNil))) [4] (gdName 4) f_law_plan_t1 f_law_plan_e1)) (dNil)))) (sSeq (sAsg 3 (dIfE (dTest (dBin gEq (dCallB f_law_take 0 (dCons (dC (.int 2)) (dNil))) (dC (.int 0)))) (dVar 3) (dTup (dNil)))) (sSeq (sAsg 5 (dApp gTuple (dCons (dFrz (oComp (iRange (dCons (dC (.int 6)) (dNil))) [4] (gdName 4) (noTest) f_law_plan_e2)) (dNil)))) (sRet (dTup (dCons (dBin gGt (dCallB f_law_take 0 (dCons (dC (.int 3)) (dNil))) (dC (.int 0))) (dCons (dVar 2) (dCons (dVar 3) (dCons (dVar 5) (dNil)))))))))) := rfl

def f_law_cells_w1t : DT := dTest (dBin gLt (dApp gLen (dCons (dVar 2) (dNil))) (dBin gIx (dVar 1) (dC (.int 1))))
def f_law_cells_w1 : DS := sAsg 2 (dBin gAdd (dVar 2) (dBin gMul (dBin gIx (dVar 3) (dCallB f_law_take 0 (dCons (dApp gLen (dCons (dVar 3) (dNil))) (dNil)))) (dBin gAdd (dC (.int 1)) (dCallB f_law_take 0 (dCons (dC (.int 3)) (dNil))))))
theorem f_law_cells_den_eq : f_law_cells_den = sSeq (sPar 2 3 (dC (.str ("" : Str))) (dSl (dC (.str ("abcd" : Str))) (pNo) (pSome (dBin gAdd (dC (.int 2)) (dCallB f_law_take 0 (dCons (dC (.int 3)) (dNil))))))) (sSeq (sWhile f_law_cells_w1t f_law_cells_w1) (sRet (dSl (dVar 2) (pNo) (pSome (dBin gIx (dVar 1) (dC (.int 1))))))) := rfl

def f_law_turns_f1 : DS := sIf (dAnd (dTest (dBin gNotIn (dVar 3) (dBin gIx (dVar 0) (dC (.int 2))))) (dOr (dTest (dBin gIx (dVar 0) (dC (.int 0)))) (dTest (dChain gLt gLt (dC (.int 0)) (dVar 3) (dBin gSub (dBin gIx (dVar 0) (dC (.int 1))) (dC (.int 1))))))) (sSeq (sPar 4 5 (dBin gIx (dVar 1) (dBin gSub (dVar 3) (dC (.int 1)))) (dBin gIx (dVar 1) (dBin gMod (dBin gAdd (dVar 3) (dC (.int 1))) (dBin gIx (dVar 0) (dC (.int 1)))))) (sIf (dAnd (dTest (dBin gNe (dVar 4) (dVar 5))) (dTest (dBin gIn (dBin gIx (dVar 1) (dVar 3)) (dTup (dCons (dVar 4) (dCons (dVar 5) (dNil))))))) (sSeq (sAsg 6 (dIfE (dTest (dBin gEq (dBin gIx (dVar 1) (dVar 3)) (dVar 4))) (dVar 5) (dVar 4))) (sSeq (sAsg 7 (dMth isL gIndex (dFrz (oLst (dCons (dC (.str ("ab" : Str))) (dCons (dC (.str ("ac" : Str))) (dCons (dC (.str ("ad" : Str))) (dCons (dC (.str ("bc" : Str))) (dCons (dC (.str ("bd" : Str))) (dCons (dC (.str ("cd" : Str))) (dNil))))))))) (dCons (dMth isS gJoin (dC (.str ("" : Str))) (dCons (dApp gSorted (dCons (dFrz (oLst (dCons (dVar 4) (dCons (dVar 5) (dNil))))) (dNil))) (dNil))) (dNil)))) (sAppend 2 (dTup (dCons (dVar 3) (dCons (dBin gAdd (dBin gAdd (dSl (dVar 1) (pNo) (pSome (dVar 3))) (dVar 6)) (dSl (dVar 1) (pSome (dBin gAdd (dVar 3) (dC (.int 1)))) (pNo))) (dCons (dBin gIx (dBin gIx (dVar 0) (dC (.int 3))) (dVar 7)) (dNil)))))))) (sNext))) (sNext)
theorem f_law_turns_den_eq : f_law_turns_den = sSeq (sAsgO 2 (oLst (dNil))) (sSeq (sFor (iRange (dCons (dBin gIx (dVar 0) (dC (.int 1))) (dNil))) (gdName 3) f_law_turns_f1) (sRet (dVar 2))) := rfl

def f_law_walk_f1 : DS := sSeq (sAsg 6 (dCall f_law_turns (dCons (dVar 1) (dCons (dVar 2) (dNil))))) (sIf (dTest (dBin gNe (dVar 6) (dFrz (oLst (dNil))))) (sSeq (sTo (gdTup [7, 2, 8]) (dBin gIx (dVar 6) (dCallB f_law_take 0 (dCons (dApp gLen (dCons (dVar 6) (dNil))) (dNil))))) (sAppend 4 (dVar 7))) (sNext))
theorem f_law_walk_den_eq : f_law_walk_den = sSeq (sAsgO 4 (oLst (dNil))) (sSeq (sFor (iRange (dCons (dCallB f_law_take 0 (dCons (dVar 3) (dNil))) (dNil))) (gdName 5) f_law_walk_f1) (sRet (dTup (dCons (dVar 2) (dCons (dVar 4) (dNil)))))) := rfl

def f_law_behind_t1 : DT := dTest (dBin gEq (dVar 4) (dVar 2))
def f_law_behind_e1 : DE := dTup (dCons (dVar 5) (dCons (dVar 6) (dNil)))
theorem f_law_behind_den_eq : f_law_behind_den = sSeq (sAsgO 3 (oComp (iVal (dCall f_law_turns (dCons (dVar 0) (dCons (dVar 1) (dNil))))) [4, 5, 6] (gdTup [4, 5, 6]) f_law_behind_t1 f_law_behind_e1)) (sRet (dIfE (dTest (dBin gNe (dVar 3) (dFrz (oLst (dNil))))) (dBin gIx (dVar 3) (dC (.int 0))) (dC .non))) := rfl

def law_f1 : DS := sSeq (sAsg 10 (dCall f_law_behind (dCons (dVar 3) (dCons (dVar 7) (dCons (dBin gIx (dVar 6) (dVar 9)) (dNil)))))) (sSeq (sIf (dTest (dBin gIsN (dVar 10) (dC .non))) (sRet (dC (.bl false))) (sNext)) (sSeq (sPar 7 8 (dBin gIx (dVar 10) (dC (.int 0))) (dBin gSub (dVar 8) (dBin gIx (dVar 10) (dC (.int 1))))) (sSeq (sIf (dNot (dTest (dCall (f_law_alike 8) (dCons (dCall p_least (dCons (dVar 3) (dCons (dVar 7) (dCons (dVar 5) (dNil))))) (dCons (dVar 8) (dNil)))))) (sRet (dC (.bl false))) (sNext)) (sIf (dNot (dTest (dCall (f_law_alike 8) (dCons (dCall p_judged (dCons (dVar 3) (dCons (dVar 7) (dCons (dVar 5) (dCons (dSl (dVar 6) (pSome (dBin gAdd (dVar 9) (dC (.int 1)))) (pNo)) (dNil)))))) (dCons (dVar 8) (dNil)))))) (sRet (dC (.bl false))) (sNext)))))
def law_f2 : DS := sSeq (sAsg 3 (dCallB f_law_plan 1 (dCons (dC (.int 12)) (dNil)))) (sSeq (sAsg 4 (dCallB f_law_cells 1 (dCons (dVar 3) (dNil)))) (sSeq (sAsg 5 (dBin gIx (dCallB f_law_walk 1 (dCons (dVar 3) (dCons (dVar 4) (dCons (dC (.int 40)) (dNil))))) (dC (.int 0)))) (sSeq (sParL [6, 7, 8] (lConsD (dCall p_way (dCons (dVar 3) (dCons (dVar 4) (dCons (dVar 5) (dNil))))) (lConsD (dVar 4) (lConsD (dCall p_least (dCons (dVar 3) (dCons (dVar 4) (dCons (dVar 5) (dNil))))) (lNil))))) (sSeq (sIf (dNot (dTest (dCall (f_law_alike 8) (dCons (dCall p_judged (dCons (dVar 3) (dCons (dVar 4) (dCons (dVar 5) (dCons (dVar 6) (dNil)))))) (dCons (dVar 8) (dNil)))))) (sRet (dC (.bl false))) (sNext)) (sSeq (sFor (iRange (dCons (dApp gLen (dCons (dVar 6) (dNil))) (dNil))) (gdName 9) law_f1) (sIf (dOr (dTest (dBin gNe (dVar 7) (dVar 5))) (dTest (dBin gNe (dVar 8) (dC (.int 0))))) (sRet (dC (.bl false))) (sNext)))))))
theorem law_den_eq : law_den = sSeq (sFor (iRange (dCons (dC (.int 3)) (dNil))) (gdName 2) law_f2) (sRet (dC (.bl true))) := rfl

end WW
set_option Elab.async false
set_option linter.all false
set_option maxRecDepth 100000
namespace WW
open PySem PySem.Spec L2
/-! the program's small functions on good plans and cells -/
section
variable {P : Plan} {c : List Nat} {k : Nat}
theorem v_number (i lo hi : Int) : p_is_number [.int i, .int lo, .int hi] = .ok (.bl (decide (lo ≤ i) && decide (i ≤ hi))) := by
  unfold p_is_number p_is_number_den fnD
  by_cases h : lo ≤ i
  · simp [initE, h]
  · simp [initE, h]
theorem v_beside (hP : P.Ok) (hc : Cells P.n c) (hk : k < P.n) : p_beside [P.D, .str (S c), .int k] = .ok (if P.r = false ∧ (k = 0 ∨ k = P.n - 1) then .non else .tup [.str (S [gt c (prev P.n k)]), .str (S [gt c (nx P.n k)])]) := by
  obtain ⟨r, n, fz, ws⟩ := P
  have h1 := nx_lt hk
  have h2 := hc.len
  have h3 := hP.lo
  have h4 := hP.hi
  have h5 := LIM_n
  unfold p_beside p_beside_den fnD
  dsimp only at *
  cases r with
  | false =>
    by_cases e : k = 0 ∨ k = n - 1
    · have e2 : (0 : Int) = k ∨ (n : Int) - 1 = k := by omega
      simp (disch := omega) [initE, Plan.D, e, e2]
    · have e2 : ¬ ((0 : Int) = k ∨ (n : Int) - 1 = k) := by omega
      simp (disch := omega) [initE, Plan.D, e, e2, h2]
  | true => simp (disch := omega) [initE, Plan.D, h2]
/-- the sign that a cell turns to -/
def turnM (P : Plan) (c : List Nat) (k : Nat) : Option Nat :=
  if k ∈ P.fz ∨ (P.r = false ∧ (k = 0 ∨ k = P.n - 1)) ∨ gt c (prev P.n k) = gt c (nx P.n k) then none
  else if gt c k = gt c (prev P.n k) then some (gt c (nx P.n k))
  else if gt c k = gt c (nx P.n k) then some (gt c (prev P.n k)) else none
def optD : Option Nat → D
  | some s => .str (S [s])
  | none => .non
theorem v_turned (hP : P.Ok) (hc : Cells P.n c) (hk : k < P.n) : p_turned [P.D, .str (S c), .int k] = .ok (optD (turnM P c k)) := by
  have hb := v_beside hP hc hk
  obtain ⟨r, n, fz, ws⟩ := P
  have h1 := nx_lt hk
  have h2 := hc.len
  have h3 := hP.lo
  have h4 := hP.hi
  have h5 := LIM_n
  unfold p_turned p_turned_den fnD
  unfold turnM
  dsimp only at *
  simp only [Plan.D] at hb
  by_cases e1 : k ∈ fz
  · simp (disch := omega) [initE, Plan.D, e1, hb, optD]
  by_cases e2 : (r = false ∧ (k = 0 ∨ k = n - 1))
  · rw [if_pos e2] at hb
    obtain ⟨rfl, e2⟩ := e2
    simp (disch := omega) [initE, Plan.D, e1, e2, hb, optD]
  rw [if_neg e2] at hb
  by_cases e3 : gt c (prev n k) = gt c (nx n k)
  · simp (disch := omega) only [e3] at hb
    simp (disch := omega) [initE, Plan.D, e1, e2, hb, optD, e3]
  by_cases e4 : gt c k = gt c (prev n k)
  · simp (disch := omega) [initE, Plan.D, e1, e2, hb, optD, e3, e4]
  by_cases e5 : gt c k = gt c (nx n k)
  · have e6 := Ne.symm e3
    simp (disch := omega) [initE, Plan.D, e1, e2, hb, optD, e3, e4, e5, e6]
  · simp (disch := omega) [initE, Plan.D, e1, e2, hb, optD, e3, e4, e5, Ne.symm e4, Ne.symm e5]
end
end WW
set_option Elab.async false
set_option linter.all false
set_option maxRecDepth 100000
namespace WW
open PySem PySem.Spec L2
theorem intsD_get {n j : Nat} {d : D} (h : (intsD 0 n)[j]? = some d) : j < n ∧ d = natD j := by
  unfold intsD at h
  rw [List.getElem?_map] at h
  by_cases hj : j < n
  · rw [List.getElem?_range hj] at h
    simp at h
    exact ⟨hj, h.symm⟩
  · rw [List.getElem?_eq_none (by simp; omega)] at h
    cases h
@[simp] theorem intsD_len (i : Int) (n : Nat) : (intsD i n).length = n := by simp [intsD]
theorem intsD_eq (n : Nat) : intsD 0 n = (List.range n).map natD := by
  unfold intsD natD
  simp
theorem mem_intsD {n : Nat} {d : D} (h : d ∈ intsD 0 n) : ∃ k, k < n ∧ d = natD k := by
  rw [intsD_eq] at h
  obtain ⟨k, h1, h2⟩ := List.mem_map.mp h
  exact ⟨k, List.mem_range.mp h1, h2.symm⟩
@[simp] theorem rangeN (n : Nat) (h : n ≤ 1000000) : asRange [.int (n : Int)] = .ok (intsD 0 n) := by
  rw [range1 _ (wide_of' _ (by omega)), Int.toNat_natCast]
@[simp] theorem ix_tupN (l : List Nat) (k : Nat) (h : k < l.length) : gIx (.tup (l.map natD)) (.int (k : Int)) = .ok (natD (gt l k)) := by
  refine ix_tup _ _ _ (by simp; try omega) (by simp; try omega) ?_
  rw [List.length_map]
  unfold ixI gt
  rw [if_neg (by omega), Int.toNat_natCast, List.getElem?_map, List.getD_eq_getElem?_getD, List.getElem?_eq_getElem h]
  rfl
/-! ### one cell changed, weights -/
section
variable {P : Plan} {c : List Nat} {k : Nat}
theorem v_with (s : Nat) (hk : k < c.length) (hl : c.length ≤ 1000) : p_with_sign [.str (S c), .int k, .str (S [s])] = .ok (.str (S (c.set k s))) := by
  unfold p_with_sign p_with_sign_den fnD
  have h5 := LIM_n
  have e1 := cut_to c k (by omega)
  have e2 : cut c (some ((k : Int) + 1)) none = c.drop (k + 1) := cut_from c (k + 1) (by omega)
  have l1 : (c.take k).length = k := by rw [List.length_take]; omega
  have l2 : (c.drop (k + 1)).length = c.length - (k + 1) := by rw [List.length_drop]
  have a1 : gAdd (.str (S (c.take k))) (.str (S [s])) = .ok (.str (S (c.take k ++ [s]))) := add_str _ _ (by rw [l1]; simp; omega)
  have a2 : gAdd (.str (S (c.take k ++ [s]))) (.str (S (c.drop (k + 1)))) = .ok (.str (S (c.set k s))) := by
    rw [add_str _ _ (by rw [List.length_append, l1, l2]; simp; omega)]
    rw [List.set_eq_take_append_cons_drop, if_pos hk, List.append_assoc]
    rfl
  simp (disch := omega) [initE, e1, e2, a1, a2]
def pairIx (a b : Nat) : Nat := if min a b = 97 then max a b - 98 else if min a b = 98 then max a b - 96 else 5
theorem pairIx_lt {a b : Nat} (ha : 97 ≤ a ∧ a ≤ 100) (hb : 97 ≤ b ∧ b ≤ 100) : pairIx a b < 6 := by
  unfold pairIx
  split
  · omega
  · split <;> omega
theorem pairIx_comm (a b : Nat) : pairIx a b = pairIx b a := by
  unfold pairIx
  rw [Nat.min_comm, Nat.max_comm]
theorem pairs_S : (["ab", "ac", "ad", "bc", "bd", "cd"] : List Str) = [S [97, 98], S [97, 99], S [97, 100], S [98, 99], S [98, 100], S [99, 100]] := by decide +kernel
@[simp] theorem min_S (a b : Nat) : gMin2 [.str (S [a]), .str (S [b])] = .ok (.str (S [min a b])) := by
  unfold gMin2
  simp only [S_cps]
  by_cases h : b < a
  · rw [if_pos (List.cons_lt_cons_iff.mpr (.inl h)), Nat.min_eq_right (by omega)]
  · rw [if_neg, Nat.min_eq_left (by omega)]
    intro z
    rcases List.cons_lt_cons_iff.mp z with z | z
    · exact h z
    · exact absurd z.2 (by simp)
@[simp] theorem max_S (a b : Nat) : gMax2 [.str (S [a]), .str (S [b])] = .ok (.str (S [max a b])) := by
  unfold gMax2
  simp only [S_cps]
  by_cases h : a < b
  · rw [if_pos (List.cons_lt_cons_iff.mpr (.inl h)), Nat.max_eq_right (by omega)]
  · rw [if_neg, Nat.max_eq_left (by omega)]
    intro z
    rcases List.cons_lt_cons_iff.mp z with z | z
    · exact h z
    · exact absurd z.2 (by simp)
theorem idx_pair {a b : Nat} (ha : 97 ≤ a ∧ a ≤ 100) (hb : 97 ≤ b ∧ b ≤ 100) (hn : a ≠ b) : gTupIx ["ab", "ac", "ad", "bc", "bd", "cd"] (.str (S [min a b, max a b])) = .ok (.int (pairIx a b : Nat)) := by
  rw [pairs_S]
  have e1 : a = 97 ∨ a = 98 ∨ a = 99 ∨ a = 100 := by omega
  have e2 : b = 97 ∨ b = 98 ∨ b = 99 ∨ b = 100 := by omega
  rcases e1 with rfl | rfl | rfl | rfl <;> rcases e2 with rfl | rfl | rfl | rfl <;> first | exact absurd rfl hn | simp [gTupIx, idxStr, pairIx]
/-- the weight of a wall between two signs -/
def wM (P : Plan) (a b : Nat) : Nat := gt P.ws (pairIx a b)
theorem v_weight (hP : P.Ok) {a b : Nat} (ha : 97 ≤ a ∧ a ≤ 100) (hb : 97 ≤ b ∧ b ≤ 100) (hn : a ≠ b) : p_weight_of [P.D, .str (S [a]), .str (S [b])] = .ok (natD (wM P a b)) := by
  unfold p_weight_of p_weight_of_den fnD
  have h5 := LIM_n
  have e := idx_pair ha hb hn
  have h6 := pairIx_lt ha hb
  have h7 := hP.wl
  have a1 : gAdd (.str (S [min a b])) (.str (S [max a b])) = .ok (.str (S [min a b, max a b])) := add_str _ _ (by simp; omega)
  simp (disch := omega) [initE, Plan.D, a1, e, wM, -S_inj]
/-! ### turns -/
def turnD (P : Plan) (c : List Nat) (k : Nat) : Option D := (turnM P c k).map fun s => .tup [natD k, .str (S (c.set k s)), natD (wM P (gt c k) s)]
def turnsM (P : Plan) (c : List Nat) : List D := (List.range P.n).filterMap (turnD P c)
theorem turnM_some {s : Nat} (h : turnM P c k = some s) : k ∉ P.fz ∧ ¬ (P.r = false ∧ (k = 0 ∨ k = P.n - 1)) ∧ s ≠ gt c k ∧ ((gt c k = gt c (prev P.n k) ∧ s = gt c (nx P.n k)) ∨ (gt c k = gt c (nx P.n k) ∧ s = gt c (prev P.n k))) := by
  unfold turnM at h
  split at h
  · cases h
  rename_i h1
  have h2 := not_or.mp h1
  have h3 := not_or.mp h2.2
  split at h
  · rename_i h4
    injection h with h
    subst h
    exact ⟨h2.1, h3.1, by rw [h4]; exact Ne.symm h3.2, .inl ⟨h4, rfl⟩⟩
  · split at h
    · rename_i h4 h5
      injection h with h
      subst h
      exact ⟨h2.1, h3.1, by rw [h5]; exact h3.2, .inr ⟨h5, rfl⟩⟩
    · cases h
theorem turn_sign (hc : Cells P.n c) (hk : k < P.n) {s : Nat} (h : turnM P c k = some s) : 97 ≤ s ∧ s ≤ 100 := by
  obtain ⟨_, _, _, h4⟩ := turnM_some h
  rcases h4 with ⟨_, rfl⟩ | ⟨_, rfl⟩
  · exact hc.get (nx_lt hk)
  · exact hc.get (prev_lt hk)
theorem v_turns_of (hP : P.Ok) (hc : Cells P.n c) : p_turns_of [P.D, .str (S c)] = .ok (.lst (turnsM P c)) := by
  have h2 := hc.len
  have h3 := hP.lo
  have h4 := hP.hi
  have h5 := LIM_n
  obtain ⟨e', h6, x, y, h7⟩ := forL_inv (g := gdName 3) (b := p_turns_of_f1) (fun j e => ∃ x y, e = [some (.v P.D), some (.v (.str (S c))), some (.l ((List.range j).filterMap (turnD P c))), x, y]) (intsD 0 P.n) [some (.v P.D), some (.v (.str (S c))), some (.l []), none, none] 0 ⟨none, none, rfl⟩ (by
    rintro j d e hj ⟨x, y, rfl⟩
    obtain ⟨hj1, rfl⟩ := intsD_get hj; clear hj; have hj := hj1
    have e1 := v_turned hP hc hj
    have hlen : ((List.range j).filterMap (turnD P c)).length ≤ j := Nat.le_trans (List.length_filterMap_le _ _) (by simp)
    simp only [Nat.zero_add, List.range_succ, List.filterMap_append, List.filterMap_cons, List.filterMap_nil]
    cases q : turnM P c j with
    | none =>
      have e3 : turnD P c j = none := by unfold turnD; rw [q]; rfl
      refine ⟨_, _, by simp; rfl, .inl ?_, some (.v (natD j)), some (.v .non), rfl⟩
      unfold p_turns_of_f1
      simp [natD, e1, q, optD, e3]
    | some s =>
      have e3 : turnD P c j = some (.tup [natD j, .str (S (c.set j s)), natD (wM P (gt c j) s)]) := by unfold turnD; rw [q]; rfl
      have e4 := v_weight hP (hc.get hj) (turn_sign hc hj q) (Ne.symm (turnM_some q).2.2.1)
      have e5 := v_with (c := c) (k := j) s (by omega) (by omega)
      refine ⟨_, _, by simp; rfl, .inl ?_, some (.v (natD j)), some (.v (.str (S [s]))), rfl⟩
      unfold p_turns_of_f1
      simp only [natD] at *
      simp (disch := omega) [e1, q, optD, e3, e4, e5]
      omega)
  have h8 : p_turns_of_den (initE 5 [P.D, .str (S c)]) = .ret (.lst (turnsM P c)) [some (.v P.D), some (.v (.str (S c))), some (.v (.lst (turnsM P c))), x, y] := by
    rw [p_turns_of_den_eq]
    rw [h7] at h6
    simp only [intsD_len, Nat.zero_add] at h6
    unfold turnsM
    generalize h9 : p_turns_of_f1 = fb at *
    simp (disch := omega) [initE, Plan.D] at h6 ⊢
    rw [h6]
    simp
  unfold p_turns_of fnD
  rw [h8]
  rfl
end
end WW
set_option Elab.async false
set_option linter.all false
set_option maxRecDepth 100000
namespace WW
open PySem PySem.Spec L2
section
variable {α β : Type}
theorem compL_okT {vs : List Nat} {g : DG} {t : DT} {el : DE} {e : En} (h : α → D) (F : α → List D) : ∀ (xs : List α), (∀ a ∈ xs, ∃ e1 k e2, g (h a) e = some e1 ∧ t e1 = .ok (k, e2) ∧ if k = true then ∃ v e3, el e2 = .ok (v, e3) ∧ wipeE e3 vs = some e ∧ F a = [v] else wipeE e2 vs = some e ∧ F a = []) → compL vs g t el (xs.map h) e = .ok (xs.flatMap F, e)
  | [], _ => rfl
  | d :: l, H => by
    obtain ⟨e1, k, e2, h1, h2, h3⟩ := H d List.mem_cons_self
    have ih := compL_okT h F l fun d' hd => H d' (List.mem_cons_of_mem _ hd)
    rw [List.map_cons]
    unfold compL
    rw [h1]
    simp only [h2, r_bind_ok]
    cases k with
    | true =>
      obtain ⟨v, e3, h4, h5, h6⟩ := h3
      simp only [if_true, h4, r_bind_ok, h5, ih, List.flatMap_cons, h6, List.singleton_append]
    | false =>
      obtain ⟨h5, h6⟩ := h3
      simp only [h5, ih, List.flatMap_cons, h6, List.nil_append, Bool.false_eq_true, if_false]
theorem compL_mapT {vs : List Nat} {g : DG} {el : DE} {e : En} (h f : α → D) (xs : List α) (H : ∀ a ∈ xs, ∃ e1 e3, g (h a) e = some e1 ∧ el e1 = .ok (f a, e3) ∧ wipeE e3 vs = some e) : compL vs g noTest el (xs.map h) e = .ok (xs.map f, e) := by
  rw [compL_okT h (fun a => [f a]) xs]
  · congr 2
    clear H
    induction xs with
    | nil => rfl
    | cons a l ih => rw [List.flatMap_cons, ih]; rfl
  · intro a ha
    obtain ⟨e1, e3, h1, h2, h3⟩ := H a ha
    exact ⟨e1, true, e1, h1, rfl, by rw [if_pos rfl]; exact ⟨_, _, h2, h3, rfl⟩⟩
theorem flatMap_filter (p : α → Bool) (f : α → β) : ∀ xs : List α, xs.flatMap (fun a => if p a = true then [f a] else []) = (xs.filter p).map f
  | [] => rfl
  | a :: xs => by
    rw [List.flatMap_cons, flatMap_filter p f xs, List.filter_cons]
    by_cases h : p a = true
    · rw [if_pos h, if_pos h]; rfl
    · rw [if_neg h, if_neg h]; rfl
theorem compL_filT {vs : List Nat} {g : DG} {t : DT} {el : DE} {e : En} (h f : α → D) (p : α → Bool) (xs : List α) (H : ∀ a ∈ xs, ∃ e1 e2, g (h a) e = some e1 ∧ t e1 = .ok (p a, e2) ∧ (p a = false → wipeE e2 vs = some e) ∧ (p a = true → ∃ e3, el e2 = .ok (f a, e3) ∧ wipeE e3 vs = some e)) : compL vs g t el (xs.map h) e = .ok ((xs.filter p).map f, e) := by
  rw [compL_okT h (fun a => if p a = true then [f a] else []) xs, flatMap_filter]
  intro a ha
  obtain ⟨e1, e2, h1, h2, h3, h4⟩ := H a ha
  refine ⟨e1, p a, e2, h1, h2, ?_⟩
  cases q : p a with
  | false => rw [if_neg (by decide)]; exact ⟨h3 q, rfl⟩
  | true =>
    rw [if_pos rfl]
    obtain ⟨e3, h5, h6⟩ := h4 q
    exact ⟨_, e3, h5, h6, rfl⟩
end
theorem all_map (bs : List Bool) : gAll [.lst (bs.map D.bl)] = .ok (.bl (bs.all fun b => b)) := by
  show (match asBs (bs.map D.bl) with
    | some bs => R.ok (D.bl (bs.all fun b => b))
    | none => .bad) = _
  rw [asBs_map]
theorem any_map (bs : List Bool) : gAny [.lst (bs.map D.bl)] = .ok (.bl (bs.any fun b => b)) := by
  show (match asBs (bs.map D.bl) with
    | some bs => R.ok (D.bl (bs.any fun b => b))
    | none => .bad) = _
  rw [asBs_map]
@[simp] theorem all_true {α : Type} (l : List α) : gAll [.lst (l.map fun _ => D.bl true)] = .ok (.bl true) := by
  have := all_map (l.map fun _ => true)
  rw [List.map_map] at this
  rw [show (fun _ : α => D.bl true) = D.bl ∘ fun _ => true from rfl, this]
  simp
theorem zipD_map {α β : Type} (f : α → D) (g : β → D) : ∀ (l : List α) (m : List β), zipD (l.map f) (m.map g) = (l.zip m).map fun p => .tup [f p.1, g p.2]
  | [], _ => by simp [zipD]
  | _ :: _, [] => by simp [zipD]
  | a :: l, b :: m => by simp [zipD, zipD_map f g l m]
section
variable {P : Plan} {c : List Nat} {k : Nat}
theorem rise_zip : ∀ {l : List Nat}, l.Pairwise (· < ·) → ∀ p ∈ l.zip l.tail, p.1 < p.2
  | [], _, p, h => by cases h
  | [a], _, p, h => by cases h
  | a :: b :: l, hp, p, h => by
    rcases List.mem_cons.mp h with rfl | h
    · exact (List.pairwise_cons.mp hp).1 b List.mem_cons_self
    · exact rise_zip (List.pairwise_cons.mp hp).2 p h
theorem rise_len : ∀ {l : List Nat} {n m : Nat}, l.Pairwise (· < ·) → (∀ f ∈ l, m ≤ f ∧ f < n) → l.length + m ≤ max n m
  | [], n, m, _, _ => by simp; omega
  | a :: l, n, m, hp, hf => by
    obtain ⟨h1, h2⟩ := List.pairwise_cons.mp hp
    have h3 := hf a List.mem_cons_self
    have := rise_len (n := n) (m := a + 1) h2 fun f hm => ⟨h1 f hm, (hf f (List.mem_cons_of_mem _ hm)).2⟩
    rw [List.length_cons]
    omega
theorem Plan.Ok.fl (hP : P.Ok) : P.fz.length ≤ P.n := by
  have := rise_len (n := P.n) (m := 0) hP.rise fun f h => ⟨Nat.zero_le _, hP.fz f h⟩
  omega
theorem v_frozen (hP : P.Ok) : p_are_frozen [.tup (P.fz.map natD), .int P.n] = .ok (.bl true) := by
  have h3 := hP.lo
  have h4 := hP.hi
  have h5 := LIM_n
  have h6 := hP.fl
  have h7 := compL_mapT (vs := [2]) (g := gdName 2) (el := p_are_frozen_e1) (e := [some (.v (.tup (P.fz.map natD))), some (.v (.int P.n)), none, none, none]) natD (fun _ => .bl true) P.fz (by
    intro a ha
    have h8 := hP.fz a ha
    have h9 := v_number a 0 ((P.n : Int) - 1)
    rw [decide_eq_true (by omega), decide_eq_true (by omega)] at h9
    refine ⟨_, _, by simp; rfl, by unfold p_are_frozen_e1; simp [natD, h9]; rfl, by simp⟩)
  have h8 := compL_mapT (vs := [3, 4]) (g := gdTup [3, 4]) (el := p_are_frozen_e2) (e := [some (.v (.tup (P.fz.map natD))), some (.v (.int P.n)), none, none, none]) (fun p => .tup [natD p.1, natD p.2]) (fun _ => .bl true) (P.fz.zip P.fz.tail) (by
    intro a ha
    have h8 := rise_zip hP.rise a ha
    refine ⟨_, _, by simp; rfl, by unfold p_are_frozen_e2; simp [natD, h8]; rfl, by simp⟩)
  rw [← zipD_map] at h8
  have h9 : cut (P.fz.map natD) (some 1) none = P.fz.tail.map natD := by rw [cut_1, List.map_tail]
  unfold p_are_frozen fnD
  rw [p_are_frozen_den_eq]
  have l1 : (zipD (P.fz.map natD) (P.fz.tail.map natD)).length ≤ LIM := by
    rw [zipD_map, List.length_map, List.length_zip]
    omega
  simp (disch := omega) [initE, h7, h9, h8, l1, h6, show P.fz.length ≤ LIM by omega, -List.map_tail]
theorem v_weights (hP : P.Ok) : p_are_weights [.tup (P.ws.map natD)] = .ok (.bl true) := by
  have h5 := LIM_n
  have h6 := hP.wl
  have h7 := compL_mapT (vs := [1]) (g := gdName 1) (el := p_are_weights_e1) (e := [some (.v (.tup (P.ws.map natD))), none]) natD (fun _ => .bl true) P.ws (by
    intro a ha
    have h8 := hP.ws a ha
    have h9 := v_number a 1 9
    rw [decide_eq_true (by omega), decide_eq_true (by omega)] at h9
    refine ⟨_, _, by simp; rfl, by unfold p_are_weights_e1; simp [natD, h9]; rfl, by simp⟩)
  unfold p_are_weights fnD
  rw [p_are_weights_den_eq]
  simp (disch := omega) [initE, h7, h6, show (6 : Nat) ≤ LIM by omega]
theorem v_need_plan (hP : P.Ok) (h12 : P.n ≤ 12) : p_need_plan [P.D] = .ok .non := by
  have h3 := hP.lo
  have h4 := hP.hi
  have h5 := LIM_n
  have h9 := v_number P.n 3 12
  rw [decide_eq_true (by omega), decide_eq_true (by omega)] at h9
  have h1 := v_frozen hP
  have h2 := v_weights hP
  unfold p_need_plan fnD p_need_plan_den
  simp (disch := omega) [initE, h1, h2, h9, Plan.D]
@[simp] theorem signs_S (c : List Nat) : signs (S c) = c.map fun x => .str (S [x]) := by
  unfold signs
  rw [S_cps]
  rfl
theorem v_need_cells (hP : P.Ok) (hc : Cells P.n c) : p_need_cells [P.D, .str (S c)] = .ok .non := by
  have h2 := hc.len
  have h3 := hP.lo
  have h4 := hP.hi
  have h5 := LIM_n
  have h7 := compL_mapT (vs := [2]) (g := gdName 2) (el := p_need_cells_e1) (e := [some (.v P.D), some (.v (.str (S c))), none]) (fun x => .str (S [x])) (fun _ => .bl true) c (by
    intro a ha
    have h8 := hc.sg a ha
    have h9 : a ∈ [97, 98, 99, 100] := by simp; omega
    refine ⟨_, _, by simp; rfl, by unfold p_need_cells_e1; simp [h9]; rfl, by simp⟩)
  unfold p_need_cells fnD
  rw [p_need_cells_den_eq]
  unfold Plan.D at *
  simp (disch := omega) [initE, h2, h7, show P.n ≤ LIM by omega]
/-! ### walls -/
def wallM (n : Nat) (c : List Nat) (k : Nat) : Bool := !decide (gt c k = gt c (nx n k))
def lastM (P : Plan) : Nat := if P.r = true then P.n else P.n - 1
def placesM (P : Plan) (c : List Nat) : List Nat := (List.range (lastM P)).filter (wallM P.n c)
theorem places_len : (placesM P c).length ≤ P.n := by
  refine Nat.le_trans (List.length_filter_le _ _) ?_
  rw [List.length_range]
  unfold lastM
  split <;> omega
theorem lastM_le : lastM P ≤ P.n := by unfold lastM; split <;> omega
theorem mem_places (h : k ∈ placesM P c) : k < P.n ∧ wallM P.n c k = true := by
  obtain ⟨h1, h2⟩ := List.mem_filter.mp h
  exact ⟨Nat.lt_of_lt_of_le (List.mem_range.mp h1) lastM_le, h2⟩
theorem v_places (hP : P.Ok) (hc : Cells P.n c) : p_places_of [P.D, .str (S c)] = .ok (.lst ((placesM P c).map natD)) := by
  have h2 := hc.len
  have h3 := hP.lo
  have h4 := hP.hi
  have h5 := LIM_n
  have h6 := lastM_le (P := P)
  have h7 := compL_filT (vs := [7]) (g := gdName 7) (t := p_places_of_t1) (el := p_places_of_e1) (e := [some (.v P.D), some (.v (.str (S c))), some (.v (.bl P.r)), some (.v (.int P.n)), some (.v (.tup (P.fz.map natD))), some (.v (.tup (P.ws.map natD))), some (.v (natD (lastM P))), none]) natD natD (wallM P.n c) (List.range (lastM P)) (by
    intro a ha
    have h8 : a < P.n := Nat.lt_of_lt_of_le (List.mem_range.mp ha) h6
    have h9 := nx_lt h8
    refine ⟨_, _, by simp; rfl, by unfold p_places_of_t1; simp (disch := omega) [natD, wallM]; rfl, fun _ => by simp [natD], fun _ => ⟨_, by unfold p_places_of_e1; simp [natD]; rfl, by simp [natD]⟩⟩)
  rw [← intsD_eq] at h7
  unfold p_places_of fnD
  rw [p_places_of_den_eq]
  have e : (if P.r = true then (P.n : Int) else (P.n : Int) - 1) = (lastM P : Nat) := by
    unfold lastM
    split <;> omega
  have h8 : (lastM P) ≤ LIM := by omega
  unfold placesM
  unfold Plan.D at *
  cases q : P.r with
  | true =>
    have e2 : lastM P = P.n := by unfold lastM; rw [if_pos q]
    simp only [q, e2, natD] at h7
    simp (disch := omega) [initE, q, natD, e2, h7, show P.n ≤ LIM by omega]
  | false =>
    have e2 : (lastM P : Int) = (P.n : Int) - 1 := by unfold lastM; rw [q]; simp; omega
    simp only [q, natD, e2] at h7
    have e3 : asRange [.int ((P.n : Int) - 1)] = .ok (intsD 0 (lastM P)) := by rw [← e2]; exact rangeN _ (by omega)
    simp (disch := omega) [initE, q, natD, e3, h7, h8]
def wallD (P : Plan) (c : List Nat) (k : Nat) : D := .tup [natD k, .str (S [gt c k]), .str (S [gt c (nx P.n k)])]
def wallsM (P : Plan) (c : List Nat) : List D := (placesM P c).map (wallD P c)
end
end WW
set_option Elab.async false
set_option linter.all false
set_option maxRecDepth 100000
namespace WW
open PySem PySem.Spec L2
/-! ### data that == may be asked about -/
def Nice (k : Nat) (d : D) : Prop := d.plain = true ∧ d.py.canLay0 = true ∧ d.py.depth ≤ k
theorem Nice.fit {k : Nat} {d : D} (h : Nice k d) (hk : k ≤ 64) : d.fit = true := by
  unfold D.fit SeqAt.shaped
  rw [h.1, h.2.1, decide_eq_true (Nat.le_trans h.2.2 hk)]
  rfl
theorem Nice.mono {k m : Nat} {d : D} (h : Nice k d) (hk : k ≤ m) : Nice m d := ⟨h.1, h.2.1, Nat.le_trans h.2.2 hk⟩
theorem nice_int (k : Nat) (i : Int) : Nice k (.int i) := ⟨rfl, rfl, Nat.zero_le _⟩
theorem nice_bl (k : Nat) (i : Bool) : Nice k (.bl i) := ⟨rfl, rfl, Nat.zero_le _⟩
theorem nice_non (k : Nat) : Nice k .non := ⟨rfl, rfl, Nat.zero_le _⟩
theorem nice_S (k : Nat) (c : List Nat) (h : ∀ x ∈ c, x < 1114112) : Nice k (.str (S c)) := by
  refine ⟨rfl, ?_, Nat.zero_le _⟩
  show PyData.strOk (S c) = true
  unfold PyData.strOk S
  rw [List.all_toArray']
  · rw [List.all_eq_true]
    intro x hx
    exact decide_eq_true (h x hx)
  · simp
theorem nice_all {k : Nat} {l : List D} (h : ∀ d ∈ l, Nice k d) : plainAll l = true ∧ PyData.canLayAll0 (pyAll l) = true ∧ PyData.depthAll (pyAll l) ≤ k := by
  induction l with
  | nil => exact ⟨rfl, rfl, Nat.zero_le _⟩
  | cons d l ih =>
    obtain ⟨h1, h2, h3⟩ := ih fun d hd => h d (List.mem_cons_of_mem _ hd)
    obtain ⟨h4, h5, h6⟩ := h d List.mem_cons_self
    refine ⟨?_, ?_, ?_⟩
    · show (d.plain && plainAll l) = true
      rw [h1, h4]; rfl
    · show (PyData.canLay0 d.py && PyData.canLayAll0 (pyAll l)) = true
      rw [h2, h5]; rfl
    · show max (PyData.depth d.py) (PyData.depthAll (pyAll l)) ≤ k
      omega
theorem nice_lst {k : Nat} {l : List D} (h : ∀ d ∈ l, Nice k d) : Nice (k + 1) (.lst l) := by
  obtain ⟨h1, h2, h3⟩ := nice_all h
  exact ⟨h1, h2, Nat.succ_le_succ h3⟩
theorem nice_tup {k : Nat} {l : List D} (h : ∀ d ∈ l, Nice k d) : Nice (k + 1) (.tup l) := by
  obtain ⟨h1, h2, h3⟩ := nice_all h
  exact ⟨h1, h2, Nat.succ_le_succ h3⟩
theorem eq_lst_nice {k : Nat} {l m : List D} (h : ∀ d ∈ l, Nice k d) (h' : ∀ d ∈ m, Nice k d) (hk : k ≤ 60) : gEq (.lst l) (.lst m) = .ok (.bl (PyData.eqv (D.lst l).py (D.lst m).py)) := by
  show (if (D.lst l).fit = true ∧ (D.lst m).fit = true then R.ok (D.bl (PyData.eqv (D.lst l).py (D.lst m).py)) else .bad) = _
  rw [if_pos ⟨(nice_lst h).fit (by omega), (nice_lst h').fit (by omega)⟩]
theorem eq_lst_nil {k : Nat} {l : List D} (h : ∀ d ∈ l, Nice k d) (hk : k ≤ 60) : gEq (.lst l) (.lst []) = .ok (.bl l.isEmpty) := by
  rw [eq_lst_nice h (fun d hd => by cases hd) hk]
  cases l <;> rfl
theorem nats_nice (l : List Nat) : ∀ d ∈ l.map natD, Nice 1 d := by
  intro d hd
  obtain ⟨a, _, rfl⟩ := List.mem_map.mp hd
  exact nice_int _ _
@[simp] theorem eq_nats_nil (l : List Nat) : gEq (.lst (l.map natD)) (.lst []) = .ok (.bl l.isEmpty) := by
  rw [eq_lst_nil (nats_nice l) (by omega)]
  cases l <;> rfl
@[simp] theorem add_natD (a b : Nat) : gAdd (natD a) (.int (b : Int)) = .ok (natD (a + b)) := by
  show R.ok (D.int ((a : Int) + (b : Int))) = .ok (.int ((a + b : Nat) : Int))
  rw [Int.natCast_add]
/-! ### blocks -/
def bl (sg : Nat → Nat) : List Nat → Nat → List (Nat × Nat)
  | [], _ => []
  | [s], e => [(sg s, e - s)]
  | s :: t :: r, e => (sg s, t - s) :: bl sg (t :: r) e
def blD (p : Nat × Nat) : D := .tup [.str (S [p.1]), natD p.2]
def blocksM (P : Plan) (c : List Nat) : List (Nat × Nat) := match placesM P c with
  | [] => [(gt c 0, P.n)]
  | p :: r => if P.r = true then bl (fun p => gt c (nx P.n p)) (p :: r) (p + P.n) else bl (gt c) (0 :: (p :: r).map (· + 1)) P.n
theorem zip_bl (φ : Nat → Int) (F : Int × Int → D) (sg : Nat → Nat) (Ok : Nat → Prop) (hF : ∀ s t, Ok s → s < t → F (φ s, φ t) = blD (sg s, t - s)) : ∀ (l : List Nat) (e : Nat), (l ++ [e]).Pairwise (· < ·) → (∀ s ∈ l, Ok s) → (((l ++ [e]).map φ).zip ((l ++ [e]).map φ).tail).map F = (bl sg l e).map blD
  | [], e, _, _ => rfl
  | [s], e, h, hs => by
    have h1 : s < e := (List.pairwise_cons.mp h).1 e (by simp)
    simp [bl, hF s e (hs s (by simp)) h1]
  | s :: t :: r, e, h, hs => by
    have h1 : s < t := (List.pairwise_cons.mp h).1 t (by simp)
    have ih := zip_bl φ F sg Ok hF (t :: r) e (List.pairwise_cons.mp h).2 fun x hx => hs x (List.mem_cons_of_mem _ hx)
    simp only [List.cons_append, List.map_cons, List.tail_cons, List.zip_cons_cons, bl] at ih ⊢
    rw [ih, hF s t (hs s (by simp)) h1]
section
variable {P : Plan} {c : List Nat} {k : Nat}
theorem places_rise : (placesM P c).Pairwise (· < ·) := by
  unfold placesM
  exact List.Pairwise.filter _ List.pairwise_lt_range
theorem blocks_len (sg : Nat → Nat) : ∀ (l : List Nat) (e : Nat), (bl sg l e).length = l.length
  | [], _ => rfl
  | [s], _ => rfl
  | s :: t :: r, e => by simp [bl, blocks_len sg (t :: r) e]
end
end WW
set_option Elab.async false
set_option linter.all false
set_option maxRecDepth 100000
namespace WW
open PySem PySem.Spec L2
/-! ### draws -/
section
variable {α β : Type}
theorem compL_relT {vs : List Nat} {g : DG} {t : DT} {el : DE} (h : α → D) (f : β → D) (I : En → Prop) (W : α → β → Prop) : ∀ (xs : List α) (e : En), I e → (∀ a ∈ xs, ∀ e, I e → ∃ e1 k e2, g (h a) e = some e1 ∧ t e1 = .ok (k, e2) ∧ if k = true then ∃ v e3 e4, el e2 = .ok (f v, e3) ∧ wipeE e3 vs = some e4 ∧ I e4 ∧ W a v else ∃ e4, wipeE e2 vs = some e4 ∧ I e4) →
    ∃ (ps : List (α × β)) (e' : En), compL vs g t el (xs.map h) e = .ok (ps.map fun p => f p.2, e') ∧ I e' ∧ (ps.map (·.1)).Sublist xs ∧ ∀ p ∈ ps, W p.1 p.2
  | [], e, hI, _ => ⟨[], e, rfl, hI, .slnil, fun _ h => nomatch h⟩
  | a :: xs, e, hI, H => by
    obtain ⟨e1, k, e2, h1, h2, h3⟩ := H a List.mem_cons_self e hI
    rw [List.map_cons]
    unfold compL
    rw [h1]
    simp only [h2, r_bind_ok]
    cases k with
    | true =>
      obtain ⟨v, e3, e4, h4, h5, h6, h7⟩ := h3
      obtain ⟨ps, e', i1, i2, i3, i4⟩ := compL_relT h f I W xs e4 h6 fun b hb => H b (List.mem_cons_of_mem _ hb)
      refine ⟨(a, v) :: ps, e', ?_, i2, i3.cons_cons _, fun p hp => ?_⟩
      · simp only [if_true, h4, r_bind_ok, h5, i1, List.map_cons]
      · rcases List.mem_cons.mp hp with rfl | hp
        · exact h7
        · exact i4 p hp
    | false =>
      obtain ⟨e4, h5, h6⟩ := h3
      obtain ⟨ps, e', i1, i2, i3, i4⟩ := compL_relT h f I W xs e4 h6 fun b hb => H b (List.mem_cons_of_mem _ hb)
      refine ⟨ps, e', ?_, i2, i3.cons _, i4⟩
      simp only [h5, i1, Bool.false_eq_true, if_false]
theorem compL_relA {vs : List Nat} {g : DG} {el : DE} (h : α → D) (f : β → D) (I : En → Prop) (W : α → β → Prop) : ∀ (xs : List α) (e : En), I e → (∀ a ∈ xs, ∀ e, I e → ∃ e1 v e3 e4, g (h a) e = some e1 ∧ el e1 = .ok (f v, e3) ∧ wipeE e3 vs = some e4 ∧ I e4 ∧ W a v) →
    ∃ (ps : List (α × β)) (e' : En), compL vs g noTest el (xs.map h) e = .ok (ps.map fun p => f p.2, e') ∧ I e' ∧ ps.map (·.1) = xs ∧ ∀ p ∈ ps, W p.1 p.2
  | [], e, hI, _ => ⟨[], e, rfl, hI, rfl, fun _ h => nomatch h⟩
  | a :: xs, e, hI, H => by
    obtain ⟨e1, v, e3, e4, h1, h4, h5, h6, h7⟩ := H a List.mem_cons_self e hI
    obtain ⟨ps, e', i1, i2, i3, i4⟩ := compL_relA h f I W xs e4 h6 fun b hb => H b (List.mem_cons_of_mem _ hb)
    rw [List.map_cons]
    unfold compL
    rw [h1]
    refine ⟨(a, v) :: ps, e', ?_, i2, by rw [List.map_cons, i3], fun p hp => ?_⟩
    · simp only [e_noTest, r_bind_ok, if_true, h4, r_bind_ok, h5, i1, List.map_cons]
    · rcases List.mem_cons.mp hp with rfl | hp
      · exact h7
      · exact i4 p hp
end
theorem while_inv {c : DT} {b : DS} (I : Nat → En → Prop) (J : En → Prop) (H : ∀ m e, I m e → ∃ k e1, c e = .ok (k, e1) ∧ if k = true then ∃ m' e2, m' < m ∧ (b e1 = .next e2 ∨ b e1 = .cnt e2) ∧ I m' e2 else J e1) : ∀ (m : Nat) (e : En), I m e → ∃ e', J e' ∧ whileL c b (m + 1) e = .next e' := by
  intro m
  induction m using Nat.strongRecOn with
  | _ m ih =>
    intro e hI
    obtain ⟨k, e1, h1, h2⟩ := H m e hI
    unfold whileL
    rw [h1]
    simp only [r_toS_ok]
    cases k with
    | false => exact ⟨e1, h2, rfl⟩
    | true =>
      obtain ⟨m', e2, h3, h4, h5⟩ := h2
      obtain ⟨e', h6, h7⟩ := ih m' h3 e2 h5
      refine ⟨e', h6, ?_⟩
      have h8 := whileL_mono c b (m' + 1) m e2 _ h3 (by intro z; cases z) h7
      rcases h4 with h4 | h4
      · simp only [h4, if_true]; exact h8
      · simp only [h4, if_true]; exact h8
theorem sWhile_inv {c : DT} {b : DS} (I : Nat → En → Prop) (J : En → Prop) (H : ∀ m e, I m e → ∃ k e1, c e = .ok (k, e1) ∧ if k = true then ∃ m' e2, m' < m ∧ (b e1 = .next e2 ∨ b e1 = .cnt e2) ∧ I m' e2 else J e1) (m : Nat) (e : En) (hI : I m e) (hm : m ≤ 1000000) : ∃ e', sWhile c b e = .next e' ∧ J e' := by
  obtain ⟨e', h1, h2⟩ := while_inv I J H m e hI
  exact ⟨e', sWhile_of (m + 1) (by omega) (by intro z; cases z) h2, h1⟩
theorem take_ok (a : Addr) (ns : List Int) (st n : Int) (h : 0 < n) (h' : n ≤ 1000000) : ∃ (v : Nat) (ns' : List Int) (st' : Int), f_law_take (a, ns, st) [.int n] = .ok (.int (v : Int), (a, ns', st')) ∧ (v : Int) < n := by
  have e : f_law_take (a, ns, st) [.int n] = .ok (.int (takeI (a, ns, st) n).1, (takeI (a, ns, st) n).2) := by
    show (if 0 < n ∧ n < SMALL then R.ok (D.int (takeI (a, ns, st) n).1, (takeI (a, ns, st) n).2) else .bad) = _
    rw [if_pos ⟨h, by unfold SMALL; omega⟩]
  cases ns with
  | nil =>
    have h1 := Int.emod_nonneg (st * 48271 % 2147483647 / 7) (show n ≠ 0 by omega)
    have h2 := Int.emod_lt_of_pos (st * 48271 % 2147483647 / 7) h
    refine ⟨(st * 48271 % 2147483647 / 7 % n).toNat, [], st * 48271 % 2147483647, ?_, by omega⟩
    rw [e, show (((st * 48271 % 2147483647 / 7 % n).toNat : Nat) : Int) = st * 48271 % 2147483647 / 7 % n by omega]
    rfl
  | cons k r =>
    have h1 := Int.emod_nonneg k (show n ≠ 0 by omega)
    have h2 := Int.emod_lt_of_pos k h
    refine ⟨(k % n).toNat, (if k / n = 0 ∨ k / n = -1 then r else (k / n) :: r), st, ?_, by omega⟩
    rw [e, show (((k % n).toNat : Nat) : Int) = k % n by omega]
    rfl
@[simp] theorem endB_ret (a : Addr) (d : D) (ns : List Int) (st : Int) (r : En) : endB a (.ret d (some (.box a ns st) :: r)) = .ok (d, (a, ns, st)) := by
  show (if a = a then R.ok (d, (a, ns, st)) else .bad) = _
  rw [if_pos rfl]
def sl (d : D) : Option Sl := some (.v d)
def bx (a : Addr) (ns : List Int) (st : Int) : Option Sl := some (.box a ns st)
theorem v_law_plan (a : Addr) (ns : List Int) (st : Int) (most : Nat) (h : 3 ≤ most) (h' : most ≤ 12) : ∃ (P : Plan) (ns' : List Int) (st' : Int), P.Ok ∧ P.n ≤ most ∧ f_law_plan (a, ns, st) [.int most] = .ok (P.D, (a, ns', st')) := by
  have h5 := LIM_n
  obtain ⟨v1, ns1, st1, t1, b1⟩ := take_ok a ns st ((most : Int) - 2) (by omega) (by omega)
  have hn : 3 + v1 ≤ most := by omega
  -- the frozen cells
  obtain ⟨ps, e1, c1, ⟨ns2, st2, rfl⟩, c2, c3⟩ := compL_relT (vs := [4]) (g := gdName 4) (t := f_law_plan_t1) (el := f_law_plan_e1) natD natD (fun e => ∃ ns st, e = [some (.box a ns st), some (.v (.int (most : Int))), some (.v (natD (3 + v1))), none, none, none]) (fun x y => y = x) (List.range (3 + v1)) [some (.box a ns1 st1), some (.v (.int (most : Int))), some (.v (natD (3 + v1))), none, none, none] ⟨_, _, rfl⟩ (by
    rintro x hx e ⟨ns, st, rfl⟩
    obtain ⟨w1, ns1, st1, u1, d1⟩ := take_ok a ns st 3 (by omega) (by omega)
    have e1 : ∃ q : Int, 0 < q ∧ q ≤ 1000 ∧ gIx (.lst [.int 2, .int 9, .int 30]) (.int (w1 : Int)) = .ok (.int q) := by
      have : w1 = 0 ∨ w1 = 1 ∨ w1 = 2 := by omega
      rcases this with rfl | rfl | rfl
      · exact ⟨2, by omega, by omega, by simp⟩
      · exact ⟨9, by omega, by omega, by simp⟩
      · exact ⟨30, by omega, by omega, by simp⟩
    obtain ⟨q, q1, q2, q3⟩ := e1
    obtain ⟨w2, ns2, st2, u2, d2⟩ := take_ok a ns1 st1 q q1 (by omega)
    refine ⟨_, decide ((w2 : Int) = 1), _, by simp; rfl, by unfold f_law_plan_t1; simp [u1, q3, u2]; rfl, ?_⟩
    by_cases z : (w2 : Int) = 1
    · rw [if_pos (decide_eq_true z)]
      exact ⟨x, _, [some (.box a ns2 st2), some (.v (.int (most : Int))), some (.v (natD (3 + v1))), none, none, none], by unfold f_law_plan_e1; simp; rfl, by simp, ⟨_, _, rfl⟩, rfl⟩
    · rw [if_neg (by simpa using z)]
      exact ⟨[some (.box a ns2 st2), some (.v (.int (most : Int))), some (.v (natD (3 + v1))), none, none, none], by simp, ⟨_, _, rfl⟩⟩)
  have c4 : ps.map (fun p => natD p.2) = (ps.map (·.1)).map natD := by
    rw [List.map_map]
    exact List.map_congr_left fun p hp => by rw [c3 p hp]; rfl
  rw [c4] at c1
  clear c3 c4
  generalize ps.map (·.1) = fz at *
  obtain ⟨v2, ns3, st3, t2, b2⟩ := take_ok a ns2 st2 2 (by omega) (by omega)
  -- the weights
  have hw : ∀ fD : D, ∃ (ps : List (Nat × Nat)) (ns4 : List Int) (st4 : Int), compL [4] (gdName 4) noTest f_law_plan_e2 ((List.range 6).map natD) [some (.box a ns3 st3), some (.v (.int (most : Int))), some (.v (natD (3 + v1))), some (.v fD), none, none] = .ok (ps.map fun p => natD p.2, [some (.box a ns4 st4), some (.v (.int (most : Int))), some (.v (natD (3 + v1))), some (.v fD), none, none]) ∧ ps.map (·.1) = List.range 6 ∧ ∀ p ∈ ps, 1 ≤ p.2 ∧ p.2 ≤ 9 := by
    intro fD
    obtain ⟨ps, e1, c1, ⟨ns2, st2, rfl⟩, c2, c3⟩ := compL_relA (vs := [4]) (g := gdName 4) (el := f_law_plan_e2) natD natD (fun e => ∃ ns st, e = [some (.box a ns st), some (.v (.int (most : Int))), some (.v (natD (3 + v1))), some (.v fD), none, none]) (fun x y => 1 ≤ y ∧ y ≤ 9) (List.range 6) [some (.box a ns3 st3), some (.v (.int (most : Int))), some (.v (natD (3 + v1))), some (.v fD), none, none] ⟨_, _, rfl⟩ (by
      rintro x hx e ⟨ns, st, rfl⟩
      obtain ⟨w1, ns1, st1, u1, d1⟩ := take_ok a ns st 2 (by omega) (by omega)
      have e1 : ∃ q : Int, 0 < q ∧ q ≤ 9 ∧ gIx (.lst [.int 2, .int 9]) (.int (w1 : Int)) = .ok (.int q) := by
        have : w1 = 0 ∨ w1 = 1 := by omega
        rcases this with rfl | rfl
        · exact ⟨2, by omega, by omega, by simp⟩
        · exact ⟨9, by omega, by omega, by simp⟩
      obtain ⟨q, q1, q2, q3⟩ := e1
      obtain ⟨w2, ns2, st2, u2, d2⟩ := take_ok a ns1 st1 q q1 (by omega)
      have q4 : gAdd (.int 1) (.int (w2 : Int)) = .ok (natD (1 + w2)) := by
        show R.ok (D.int (1 + (w2 : Int))) = .ok (.int ((1 + w2 : Nat) : Int))
        congr 2
      refine ⟨_, 1 + w2, _, [some (.box a ns2 st2), some (.v (.int (most : Int))), some (.v (natD (3 + v1))), some (.v fD), none, none], by simp; rfl, by unfold f_law_plan_e2; simp [u1, q3, u2, q4, -add_int]; rfl, by simp, ⟨_, _, rfl⟩, by omega, by omega⟩)
    exact ⟨ps, ns2, st2, c1, c2, c3⟩
  have hfz : ∀ f ∈ fz, f < 3 + v1 := fun f hf => List.mem_range.mp (c2.mem hf)
  have hrise : fz.Pairwise (· < ·) := List.Pairwise.sublist c2 List.pairwise_lt_range
  have hlen : fz.length ≤ 3 + v1 := by
    have := c2.length_le
    rw [List.length_range] at this
    exact this
  have e0 : (3 : Int) + (v1 : Int) = ((3 + v1 : Nat) : Int) := by omega
  have key : ∀ (fl : List Nat), fl.Sublist fz → (v2 = 0 → fl = fz) → (v2 ≠ 0 → fl = []) → ∃ (P : Plan) (ns' : List Int) (st' : Int), P.Ok ∧ P.n ≤ most ∧ f_law_plan (a, ns, st) [.int most] = .ok (P.D, (a, ns', st')) := by
    intro fl hs hz hz2
    obtain ⟨qs, ns4, st4, k1, k2, k3⟩ := hw (.tup (fl.map natD))
    obtain ⟨v3, ns5, st5, t3, b3⟩ := take_ok a ns4 st4 3 (by omega) (by omega)
    refine ⟨⟨decide (0 < (v3 : Int)), 3 + v1, fl, qs.map (·.2)⟩, ns5, st5, ⟨by dsimp only; omega, by dsimp only; omega, fun f hf => hfz f (hs.mem hf), hrise.sublist hs, ?_, ?_⟩, hn, ?_⟩
    · show (qs.map (·.2)).length = 6
      have := congrArg List.length k2
      simpa using this
    · intro w hw
      obtain ⟨p, hp, rfl⟩ := List.mem_map.mp hw
      exact k3 p hp
    have k4 : qs.map (fun p => natD p.2) = (qs.map (·.2)).map natD := by rw [List.map_map]; rfl
    rw [k4, ← intsD_eq] at k1
    rw [← intsD_eq] at c1
    unfold f_law_plan fnB
    rw [f_law_plan_den_eq]
    unfold Plan.D
    simp only [natD] at c1 k1
    rw [← e0] at c1 k1
    have r1 : asRange [.int ((3 : Int) + (v1 : Int))] = .ok (intsD 0 (3 + v1)) := by rw [e0]; exact rangeN _ (by omega)
    have r2 : asRange [.int 6] = .ok (intsD 0 6) := rangeN 6 (by omega)
    have l1 : 3 + v1 ≤ LIM := by omega
    have l2 : 6 ≤ LIM := by omega
    unfold natD at *
    by_cases z : v2 = 0
    · have z2 : (v2 : Int) = 0 := by omega
      rw [hz z] at *
      simp (disch := omega) [initB, t1, r1, c1, t2, z2, r2, k1, l1, l2, t3]
    · have z2 : ¬ (v2 : Int) = 0 := by omega
      rw [hz2 z] at k1 ⊢
      simp only [List.map_nil] at k1
      simp (disch := omega) [initB, t1, r1, c1, t2, z, z2, r2, k1, l1, l2, t3]
  by_cases z : v2 = 0
  · exact key fz (List.Sublist.refl _) (fun _ => rfl) fun h => absurd z h
  · exact key [] (List.nil_sublist _) (fun h => absurd h z) fun _ => rfl
/-! ### cells drawn -/
@[simp] theorem mul_S (x k : Nat) (h : k ≤ 1000) : gMul (.str (S [x])) (.int (k : Int)) = .ok (.str (S (List.replicate k x))) := by
  have e : Txt.mul (S [x]) (k : Int) = S (List.replicate k x) := by
    unfold Txt.mul
    by_cases h0 : k = 0
    · subst h0
      rw [if_pos (by omega)]
      rfl
    · rw [if_neg (by omega)]
      by_cases h1 : k = 1
      · subst h1
        rfl
      · rw [if_neg (by simp; omega), Int.toNat_natCast]
        have h2 : ∀ (m : Nat) (b : Array Nat), (List.replicate m (S [x]).cps).foldl (· ++ ·) b = b ++ (List.replicate m x).toArray := by
          intro m
          induction m with
          | zero => intro b; simp
          | succ m ih =>
            intro b
            rw [List.replicate_succ, List.foldl_cons, ih]
            refine Array.ext' ?_
            simp [S, List.replicate_succ]
        rw [h2]
        simp [S]
  show (if (S [x]).length * (k : Int).toNat ≤ LIM ∧ small (k : Int) = true then R.ok (D.str (Txt.mul (S [x]) (k : Int))) else .bad) = _
  rw [if_pos, e]
  refine ⟨by rw [S_len, Int.toNat_natCast]; unfold LIM; simp; omega, ?_⟩
  unfold small SMALL
  simp
  omega
theorem v_law_cells {P : Plan} (hP : P.Ok) (a : Addr) (ns : List Int) (st : Int) : ∃ (c : List Nat) (ns' : List Int) (st' : Int), Cells P.n c ∧ f_law_cells (a, ns, st) [P.D] = .ok (.str (S c), (a, ns', st')) := by
  have h5 := LIM_n
  have h3 := hP.lo
  have h4 := hP.hi
  obtain ⟨v1, ns1, st1, t1, b1⟩ := take_ok a ns st 3 (by omega) (by omega)
  have hsg : ∃ sg : List Nat, cut [97, 98, 99, 100] none (some (2 + (v1 : Int))) = sg ∧ 2 ≤ sg.length ∧ sg.length ≤ 4 ∧ ∀ x ∈ sg, 97 ≤ x ∧ x ≤ 100 := by
    have e := cut_to [97, 98, 99, 100] (2 + v1) (by simp; omega)
    refine ⟨_, rfl, ?_⟩
    rw [show (2 : Int) + (v1 : Int) = ((2 + v1 : Nat) : Int) by omega, e, List.length_take]
    refine ⟨by simp; omega, by simp; omega, fun x hx => ?_⟩
    have := List.mem_of_mem_take hx
    simp at this
    omega
  obtain ⟨sg, s1, s2, s3, s4⟩ := hsg
  obtain ⟨e', w1, ns2, st2, w, rfl, w2, w3, w4⟩ := sWhile_inv (c := f_law_cells_w1t) (b := f_law_cells_w1) (fun m e => ∃ ns st w, e = [some (.box a ns st), some (.v P.D), some (.v (.str (S w))), some (.v (.str (S sg)))] ∧ w.length ≤ 100 ∧ (∀ x ∈ w, 97 ≤ x ∧ x ≤ 100) ∧ m = 100 - w.length) (fun e => ∃ ns st w, e = [some (.box a ns st), some (.v P.D), some (.v (.str (S w))), some (.v (.str (S sg)))] ∧ w.length ≤ 100 ∧ (∀ x ∈ w, 97 ≤ x ∧ x ≤ 100) ∧ P.n ≤ w.length) (by
    rintro m e ⟨ns, st, w, rfl, w2, w3, rfl⟩
    by_cases hw : w.length < P.n
    · obtain ⟨u1, ns1, st1, t1, b1⟩ := take_ok a ns st (sg.length : Int) (by omega) (by omega)
      obtain ⟨u2, ns2, st2, t2, b2⟩ := take_ok a ns1 st1 3 (by omega) (by omega)
      refine ⟨true, _, by unfold f_law_cells_w1t Plan.D; simp (disch := omega) [hw]; rfl, ?_⟩
      rw [if_pos rfl]
      have hg : 97 ≤ gt sg u1 ∧ gt sg u1 ≤ 100 := by
        have hu : u1 < sg.length := by omega
        unfold gt
        rw [List.getD_eq_getElem?_getD, List.getElem?_eq_getElem hu]
        exact s4 _ (List.getElem_mem hu)
      have a1 : gMul (.str (S [gt sg u1])) (.int (1 + (u2 : Int))) = .ok (.str (S (List.replicate (1 + u2) (gt sg u1)))) := by
        rw [show (1 : Int) + (u2 : Int) = ((1 + u2 : Nat) : Int) by omega]
        exact mul_S _ _ (by omega)
      have a2 : gAdd (.str (S w)) (.str (S (List.replicate (1 + u2) (gt sg u1)))) = .ok (.str (S (w ++ List.replicate (1 + u2) (gt sg u1)))) := add_str _ _ (by rw [List.length_replicate]; omega)
      have l1 : (w ++ List.replicate (1 + u2) (gt sg u1)).length = w.length + (1 + u2) := by rw [List.length_append, List.length_replicate]
      refine ⟨100 - (w.length + (1 + u2)), [some (.box a ns2 st2), some (.v P.D), some (.v (.str (S (w ++ List.replicate (1 + u2) (gt sg u1))))), some (.v (.str (S sg)))], by omega, .inl ?_, ns2, st2, _, rfl, by omega, fun x hx => ?_, by rw [l1]⟩
      · unfold f_law_cells_w1 Plan.D
        simp (disch := omega) [t1, t2, a1, a2]
      · rcases List.mem_append.mp hx with hx | hx
        · exact w3 x hx
        · rw [(List.mem_replicate.mp hx).2]; exact hg
    · refine ⟨false, _, by unfold f_law_cells_w1t Plan.D; simp (disch := omega) [hw]; rfl, ?_⟩
      rw [if_neg (by decide)]
      exact ⟨ns, st, w, rfl, w2, w3, by omega⟩) 100 [some (.box a ns1 st1), some (.v P.D), some (.v (.str (S []))), some (.v (.str (S sg)))] ⟨ns1, st1, [], rfl, by simp, by simp, by simp⟩ (by omega)
  refine ⟨w.take P.n, ns2, st2, ⟨by rw [List.length_take]; omega, fun x hx => w3 x (List.mem_of_mem_take hx)⟩, ?_⟩
  have e1 : cut w none (some (P.n : Int)) = w.take P.n := cut_to w P.n w4
  unfold f_law_cells fnB
  rw [f_law_cells_den_eq]
  unfold Plan.D at *
  have g1 : gSl (.str (S [97, 98, 99, 100])) none (some (2 + (v1 : Int))) = .ok (.str (S sg)) := by rw [sl_S _ _ _ (by simp; omega), s1]
  simp (disch := omega) [initB, t1, g1, w1, e1, show w.length ≤ LIM by omega]
end WW
set_option Elab.async false
set_option linter.all false
set_option maxRecDepth 100000
namespace WW
open PySem PySem.Spec L2
/-! ### the law's own turns -/
theorem leS_S (a b : Nat) : leS (S [a]) (S [b]) = decide (a ≤ b) := by
  unfold leS
  rw [S_cps, S_cps]
  by_cases h : a ≤ b
  · rw [decide_eq_true h]
    refine decide_eq_true fun z => ?_
    rcases List.cons_lt_cons_iff.mp z with z | z
    · omega
    · exact absurd z.2 (by simp)
  · rw [decide_eq_false h]
    refine decide_eq_false fun z => z (List.cons_lt_cons_iff.mpr (.inl (by omega)))
@[simp] theorem sorted2 (a b : Nat) : gSorted [.lst [.str (S [a]), .str (S [b])]] = .ok (.lst [.str (S [min a b]), .str (S [max a b])]) := by
  have e : sortS [S [a], S [b]] = [S [min a b], S [max a b]] := by
    by_cases h : a ≤ b
    · rw [Nat.min_eq_left h, Nat.max_eq_right h]
      simp [sortS, insS, leS_S, h]
    · rw [Nat.min_eq_right (by omega), Nat.max_eq_left (by omega)]
      simp [sortS, insS, leS_S, h]
  show (if [S [a], S [b]].length < 64 then R.ok (D.lst ((sortS [S [a], S [b]]).map D.str)) else .bad) = _
  rw [if_pos (by simp), e]
  rfl
@[simp] theorem join2 (a b : Nat) : gJoin (.str (S [])) [.lst [.str (S [a]), .str (S [b])]] = .ok (.str (S [a, b])) := by
  show (if ([S [a], S [b]].map (·.length)).sum + [S [a], S [b]].length * (S []).length ≤ LIM then R.ok (D.str (Txt.join (S []) [S [a], S [b]])) else .bad) = _
  rw [if_pos (by simp; unfold LIM; omega)]
  rfl
theorem idx_pair' {a b : Nat} (ha : 97 ≤ a ∧ a ≤ 100) (hb : 97 ≤ b ∧ b ≤ 100) (hn : a ≠ b) : gIndex (.lst [.str ("ab" : Str), .str ("ac" : Str), .str ("ad" : Str), .str ("bc" : Str), .str ("bd" : Str), .str ("cd" : Str)]) [.str (S [min a b, max a b])] = .ok (.int (pairIx a b : Nat)) := by
  have e := pairs_S
  injection e with q1 e; injection e with q2 e; injection e with q3 e; injection e with q4 e; injection e with q5 e; injection e with q6 e
  rw [q1, q2, q3, q4, q5, q6]
  have e1 : a = 97 ∨ a = 98 ∨ a = 99 ∨ a = 100 := by omega
  have e2 : b = 97 ∨ b = 98 ∨ b = 99 ∨ b = 100 := by omega
  rcases e1 with rfl | rfl | rfl | rfl <;> rcases e2 with rfl | rfl | rfl | rfl <;> first | exact absurd rfl hn | simp [gIndex, idxFlat, eqFlat, pairIx]
section
variable {P : Plan} {c : List Nat} {k : Nat}
theorem wlaw {P : Plan} (c : List Nat) {j s x y : Nat} (h : (s = x ∧ gt c j = y) ∨ (s = y ∧ gt c j = x)) : wM P (gt c j) s = gt P.ws (pairIx x y) := by
  unfold wM
  rcases h with ⟨rfl, rfl⟩ | ⟨rfl, rfl⟩
  · rw [pairIx_comm]
  · rfl
theorem v_law_turns (hP : P.Ok) (hc : Cells P.n c) : f_law_turns [P.D, .str (S c)] = .ok (.lst (turnsM P c)) := by
  have h2 := hc.len
  have h3 := hP.lo
  have h4 := hP.hi
  have h5 := LIM_n
  have h66 := hP.wl
  obtain ⟨e', h6, x, y, z, u, v, h7⟩ := forL_inv (g := gdName 3) (b := f_law_turns_f1) (fun j e => ∃ x y z u v, e = [some (.v P.D), some (.v (.str (S c))), some (.l ((List.range j).filterMap (turnD P c))), x, y, z, u, v]) (intsD 0 P.n) [some (.v P.D), some (.v (.str (S c))), some (.l []), none, none, none, none, none] 0 ⟨none, none, none, none, none, rfl⟩ (by
    rintro j d e hj ⟨x, y, z, u, v, rfl⟩
    obtain ⟨hj1, rfl⟩ := intsD_get hj
    clear hj
    have hj := hj1
    have hnx := nx_lt hj
    have hlen : ((List.range j).filterMap (turnD P c)).length ≤ j := Nat.le_trans (List.length_filterMap_le _ _) (by simp)
    simp only [Nat.zero_add, List.range_succ, List.filterMap_append, List.filterMap_cons, List.filterMap_nil]
    by_cases c1 : j ∈ P.fz
    · have e3 : turnD P c j = none := by unfold turnD turnM; rw [if_pos (.inl c1)]; rfl
      refine ⟨_, _, by simp; rfl, .inl ?_, some (.v (natD j)), y, z, u, v, rfl⟩
      unfold f_law_turns_f1 Plan.D
      simp [natD, c1, e3]
    by_cases c2 : P.r = false ∧ (j = 0 ∨ j = P.n - 1)
    · have e3 : turnD P c j = none := by unfold turnD turnM; rw [if_pos (.inr (.inl c2))]; rfl
      refine ⟨_, _, by simp; rfl, .inl ?_, some (.v (natD j)), y, z, u, v, rfl⟩
      unfold f_law_turns_f1 Plan.D
      by_cases c3 : 0 < j
      · have c4 : ¬ (j : Int) < (P.n : Int) - 1 := by omega
        simp [natD, c1, c2.1, c4, c3, e3]
      · simp [natD, c1, c2.1, c3, e3]
    have c6 : P.r = true ∨ (0 < j ∧ (j : Int) < (P.n : Int) - 1) := by
      cases q : P.r with
      | true => exact .inl rfl
      | false =>
        have hh : ¬ (j = 0 ∨ j = P.n - 1) := fun z => c2 ⟨q, z⟩
        exact .inr (by omega)
    have tst : ∀ (e : En) (xs : List D) (s4 s5 s6 s7 : Option Sl), e = [some (.v P.D), some (.v (.str (S c))), some (.l xs), some (.v (natD j)), s4, s5, s6, s7] → (dAnd (dTest (dBin gNotIn (dVar 3) (dBin gIx (dVar 0) (dC (.int 2))))) (dOr (dTest (dBin gIx (dVar 0) (dC (.int 0)))) (dTest (dChain gLt gLt (dC (.int 0)) (dVar 3) (dBin gSub (dBin gIx (dVar 0) (dC (.int 1))) (dC (.int 1))))))) e = .ok (true, e) := by
      rintro e xs s4 s5 s6 s7 rfl
      unfold Plan.D
      cases q : P.r with
      | true => simp [natD, c1, q]
      | false =>
        rcases c6 with c6 | c6
        · rw [q] at c6; cases c6
        · simp [natD, c1, q, c6.1, c6.2]
    have hp := prev_lt hj
    by_cases c7 : gt c (prev P.n j) = gt c (nx P.n j)
    · have e3 : turnD P c j = none := by unfold turnD turnM; rw [if_pos (.inr (.inr c7))]; rfl
      refine ⟨_, _, by simp; rfl, .inl ?_, some (.v (natD j)), some (.v (.str (S [gt c (prev P.n j)]))), some (.v (.str (S [gt c (nx P.n j)]))), u, v, rfl⟩
      unfold f_law_turns_f1
      rw [e_if, tst _ _ _ _ _ _ rfl]
      unfold Plan.D
      simp (disch := omega) [natD, h2, c7, e3]
    by_cases c9 : gt c j = gt c (prev P.n j) ∨ gt c j = gt c (nx P.n j)
    · obtain ⟨s, e2, hs⟩ : ∃ s, turnM P c j = some s ∧ ((gt c j = gt c (prev P.n j) ∧ s = gt c (nx P.n j)) ∨ (gt c j ≠ gt c (prev P.n j) ∧ gt c j = gt c (nx P.n j) ∧ s = gt c (prev P.n j))) := by
        unfold turnM
        rw [if_neg (fun z => z.elim c1 fun z => z.elim c2 c7)]
        by_cases c8 : gt c j = gt c (prev P.n j)
        · rw [if_pos c8]; exact ⟨_, rfl, .inl ⟨c8, rfl⟩⟩
        · rw [if_neg c8, if_pos (c9.resolve_left c8)]; exact ⟨_, rfl, .inr ⟨c8, c9.resolve_left c8, rfl⟩⟩
      have e3 : turnD P c j = some (.tup [natD j, .str (S (c.set j s)), natD (wM P (gt c j) s)]) := by unfold turnD; rw [e2]; rfl
      have e4 := idx_pair' (hc.get hp) (hc.get hnx) c7
      have e5 : wM P (gt c j) s = gt P.ws (pairIx (gt c (prev P.n j)) (gt c (nx P.n j))) := wlaw c (by
        rcases hs with ⟨z1, z2⟩ | ⟨_, z1, z2⟩
        · exact .inr ⟨z2, z1⟩
        · exact .inl ⟨z2, z1⟩)
      have e6 := pairIx_lt (hc.get hp) (hc.get hnx)
      refine ⟨_, _, by simp; rfl, .inl ?_, some (.v (natD j)), some (.v (.str (S [gt c (prev P.n j)]))), some (.v (.str (S [gt c (nx P.n j)]))), some (.v (.str (S [s]))), some (.v (natD (pairIx (gt c (prev P.n j)) (gt c (nx P.n j))))), rfl⟩
      unfold f_law_turns_f1
      rw [e_if, tst _ _ _ _ _ _ rfl]
      rw [e3, e5]
      have d1 := cut_to c j (by omega)
      have d2 : cut c (some ((j : Int) + 1)) none = c.drop (j + 1) := cut_from c (j + 1) (by omega)
      have l1 : (c.take j).length = j := by rw [List.length_take]; omega
      have l2 : (c.drop (j + 1)).length = c.length - (j + 1) := by rw [List.length_drop]
      have a1 : gAdd (.str (S (c.take j))) (.str (S [s])) = .ok (.str (S (c.take j ++ [s]))) := add_str _ _ (by rw [l1]; simp; omega)
      have a2 : gAdd (.str (S (c.take j ++ [s]))) (.str (S (c.drop (j + 1)))) = .ok (.str (S (c.set j s))) := by
        rw [add_str _ _ (by rw [List.length_append, l1, l2]; simp; omega)]
        rw [List.set_eq_take_append_cons_drop, if_pos (by omega), List.append_assoc]
        rfl
      have e8 : gIx (.tup (P.ws.map natD)) (.int (pairIx (gt c (prev P.n j)) (gt c (nx P.n j)) : Nat)) = .ok (natD (gt P.ws (pairIx (gt c (prev P.n j)) (gt c (nx P.n j))))) := ix_tupN _ _ (by omega)
      have e9 : at_ c ((j : Int) - 1) = gt c (prev P.n j) := by rw [at_prev c j (by omega), h2]
      have e10 := at_nat c j
      have e11 := at_nat c (nx P.n j)
      generalize gt P.ws (pairIx (gt c (prev P.n j)) (gt c (nx P.n j))) = ww at *
      generalize pairIx (gt c (prev P.n j)) (gt c (nx P.n j)) = pp at *
      generalize c.set j s = cc at *
      have hL : ((List.range j).filterMap (turnD P c)).length < LIM := by omega
      generalize (List.range j).filterMap (turnD P c) = acc at *
      unfold Plan.D
      rcases hs with ⟨z1, rfl⟩ | ⟨z0, z1, rfl⟩
      · simp (disch := omega) [natD, h2, c7, z1, e4, d1, d2, a1, a2, e8, e9, e10, e11, hL]
      · simp (disch := omega) [natD, h2, c7, z1, Ne.symm c7, e4, d1, d2, a1, a2, e8, e9, e10, e11, hL]
    · have c10 := not_or.mp c9
      have e3 : turnD P c j = none := by unfold turnD turnM; rw [if_neg (fun z => z.elim c1 fun z => z.elim c2 c7), if_neg c10.1, if_neg c10.2]; rfl
      refine ⟨_, _, by simp; rfl, .inl ?_, some (.v (natD j)), some (.v (.str (S [gt c (prev P.n j)]))), some (.v (.str (S [gt c (nx P.n j)]))), u, v, rfl⟩
      unfold f_law_turns_f1
      rw [e_if, tst _ _ _ _ _ _ rfl]
      unfold Plan.D
      simp (disch := omega) [natD, h2, c7, e3, Ne.symm c10.1, Ne.symm c10.2])
  have h8 : f_law_turns_den (initE 8 [P.D, .str (S c)]) = .ret (.lst (turnsM P c)) [some (.v P.D), some (.v (.str (S c))), some (.v (.lst (turnsM P c))), x, y, z, u, v] := by
    rw [f_law_turns_den_eq]
    rw [h7] at h6
    simp only [intsD_len, Nat.zero_add] at h6
    unfold turnsM
    generalize h9 : f_law_turns_f1 = fb at *
    simp (disch := omega) [initE, Plan.D] at h6 ⊢
    rw [h6]
    simp
  unfold f_law_turns fnD
  rw [h8]
  rfl
end
end WW
set_option Elab.async false
set_option linter.all false
set_option maxRecDepth 100000
namespace WW
open PySem PySem.Spec L2
/-! ### the law's own blocks -/
theorem bl_snoc (sg : Nat → Nat) : ∀ (l : List Nat) (s e : Nat), bl sg (l ++ [s]) e = bl sg l s ++ [(sg s, e - s)]
  | [], s, e => rfl
  | [a], s, e => rfl
  | a :: b :: l, s, e => by
    have ih := bl_snoc sg (b :: l) s e
    simp only [List.cons_append, bl] at ih ⊢
    rw [ih]
def stp (d : List Nat) (i : Nat) : Bool := decide (i = 0 ∨ ¬ gt d (i - 1) = gt d i)
def starts (d : List Nat) (j : Nat) : List Nat := (List.range j).filter (stp d)
theorem starts_succ (d : List Nat) (j : Nat) : starts d (j + 1) = starts d j ++ (if stp d j = true then [j] else []) := by
  unfold starts
  rw [List.range_succ, List.filter_append, List.filter_cons, List.filter_nil]
theorem starts_last (d : List Nat) : ∀ j, 0 < j → ∃ l s, starts d j = l ++ [s] ∧ gt d s = gt d (j - 1) ∧ s < j
  | 0, h => by omega
  | 1, _ => ⟨[], 0, rfl, rfl, by omega⟩
  | j + 2, _ => by
    obtain ⟨l, s, h1, h2, h3⟩ := starts_last d (j + 1) (by omega)
    rw [starts_succ]
    by_cases h : stp d (j + 1) = true
    · rw [if_pos h]
      exact ⟨starts d (j + 1), j + 1, rfl, rfl, by omega⟩
    · rw [if_neg h, List.append_nil]
      refine ⟨l, s, h1, ?_, by omega⟩
      have : gt d (j + 1 - 1) = gt d (j + 1) := by
        unfold stp at h
        simp at h
        exact h
      rw [h2, this]
      rfl
theorem gt_le {d : List Nat} (h : ∀ x ∈ d, 97 ≤ x ∧ x ≤ 100) (i : Nat) : gt d i ≤ 100 := by
  unfold gt
  rw [List.getD_eq_getElem?_getD]
  cases q : d[i]? with
  | none => simp
  | some x => exact (h x (List.mem_of_getElem? q)).2
theorem bl_sg {sg : Nat → Nat} (h : ∀ i, sg i ≤ 100) : ∀ (l : List Nat) (e : Nat), ∀ p ∈ bl sg l e, p.1 ≤ 100
  | [], e, p, hp => by cases hp
  | [s], e, p, hp => by
    rw [List.mem_singleton.mp hp]; exact h s
  | s :: t :: r, e, p, hp => by
    rcases List.mem_cons.mp hp with rfl | hp
    · exact h s
    · exact bl_sg h (t :: r) e p hp
theorem blD_nice {l : List (Nat × Nat)} (h : ∀ p ∈ l, p.1 ≤ 100) : ∀ d ∈ l.map blD, Nice 2 d := by
  intro d hd
  obtain ⟨p, hp, rfl⟩ := List.mem_map.mp hd
  refine nice_tup (k := 1) fun x hx => ?_
  rcases List.mem_cons.mp hx with rfl | hx
  · exact nice_S _ _ fun y hy => by rw [List.mem_singleton.mp hy]; have := h p hp; omega
  · rw [List.mem_singleton.mp hx]; exact nice_int _ _
theorem neg1 : ixN 0 (-1) = none := rfl
theorem ix_last (l : List D) (d : D) : gIx (.lst (l ++ [d])) (.int (-1)) = .ok d := by
  refine ix_lst _ _ _ (by simp; omega) (by simp; omega) ?_
  unfold ixI
  rw [if_pos (by omega), List.length_append]
  rw [show ((-1 : Int) + ((l.length + [d].length : Nat) : Int)).toNat = l.length by simp; omega]
  simp
theorem ixN_last (n : Nat) : ixN (n + 1) (-1) = some n := by
  unfold ixN
  rw [if_neg (by omega), if_pos (by omega)]
  congr 1
  omega
theorem bl_shift {sg sg' : Nat → Nat} (p e : Nat) : ∀ (l : List Nat), (∀ q ∈ l, p ≤ q ∧ sg (q - p) = sg' q) → bl sg (l.map (· - p)) e = bl sg' l (p + e)
  | [], _ => rfl
  | [s], h => by
    have := h s (by simp)
    simp only [List.map_cons, List.map_nil, bl, this.2]
    rw [show e - (s - p) = p + e - s by omega]
  | s :: t :: r, h => by
    have h1 := h s (by simp)
    have h2 := h t (by simp)
    have ih := bl_shift (sg := sg) (sg' := sg') p e (t :: r) fun q hq => h q (List.mem_cons_of_mem _ hq)
    simp only [List.map_cons, bl] at ih ⊢
    rw [ih, h1.2, show t - p - (s - p) = t - s by omega]
section
variable {P : Plan} {c : List Nat} {k : Nat}
theorem nxt_in {n k : Nat} (h : k + 1 < n) : nx n k = k + 1 := by unfold nx; rw [if_neg (by omega)]
theorem nxt_end {n k : Nat} (h : k + 1 = n) : nx n k = 0 := by unfold nx; rw [if_pos h]
/-- where blocks begin in what is not turned round -/
theorem starts_row (n : Nat) (c : List Nat) (h : 0 < n) : starts c n = 0 :: ((List.range (n - 1)).filter (wallM n c)).map (· + 1) := by
  obtain ⟨m, rfl⟩ : ∃ m, n = m + 1 := ⟨n - 1, by omega⟩
  unfold starts
  rw [List.range_succ_eq_map, List.filter_cons, if_pos (by simp [stp]), List.filter_map]
  congr 1
  rw [Nat.add_sub_cancel]
  refine congrArg _ (List.filter_congr fun i hi => ?_)
  have hi := List.mem_range.mp hi
  show stp c (i + 1) = wallM (m + 1) c i
  unfold stp wallM
  rw [nxt_in (by omega)]
  simp
theorem gt_rot (c : List Nat) (b i : Nat) (hb : b ≤ c.length) (hi : i < c.length) : gt (c.drop b ++ c.take b) i = gt c (if b + i < c.length then b + i else b + i - c.length) := by
  unfold gt
  rw [List.getD_eq_getElem?_getD, List.getD_eq_getElem?_getD]
  congr 1
  by_cases h : b + i < c.length
  · rw [if_pos h, List.getElem?_append_left (by rw [List.length_drop]; omega), List.getElem?_drop]
  · rw [if_neg h, List.getElem?_append_right (by rw [List.length_drop]; omega), List.length_drop, List.getElem?_take]
    rw [if_pos (by omega), show i - (c.length - b) = b + i - c.length by omega]
theorem starts_ring (n : Nat) (c : List Nat) (p : Nat) (r : List Nat) (hc : c.length = n) (h3 : 3 ≤ n) (hp : (List.range n).filter (wallM n c) = p :: r) :
    starts (c.drop (nx n p) ++ c.take (nx n p)) n = (p :: r).map (· - p) ∧ ∀ q ∈ p :: r, p ≤ q ∧ gt (c.drop (nx n p) ++ c.take (nx n p)) (q - p) = gt c (nx n q) := by
  have hpm : p ∈ (List.range n).filter (wallM n c) := by rw [hp]; exact List.mem_cons_self
  have hpn : p < n := List.mem_range.mp (List.mem_filter.mp hpm).1
  have hpw : wallM n c p = true := (List.mem_filter.mp hpm).2
  have hr : (p :: r).Pairwise (· < ·) := by rw [← hp]; exact List.Pairwise.filter _ List.pairwise_lt_range
  have hge : ∀ q ∈ p :: r, p ≤ q := fun q hq => by
    rcases List.mem_cons.mp hq with rfl | hq
    · omega
    · exact Nat.le_of_lt ((List.pairwise_cons.mp hr).1 q hq)
  have hlow : ∀ q, q < p → wallM n c q = false := fun q hq => by
    cases z : wallM n c q with
    | false => rfl
    | true =>
      have : q ∈ (List.range n).filter (wallM n c) := List.mem_filter.mpr ⟨List.mem_range.mpr (by omega), z⟩
      rw [hp] at this
      have := hge q this
      omega
  have hnx := nx_lt hpn
  -- the signs of what is turned round
  have hg : ∀ i, i < n → gt (c.drop (nx n p) ++ c.take (nx n p)) i = gt c (if p + i < n then nx n (p + i) else p + i + 1 - n) := by
    intro i hi
    rw [gt_rot c _ _ (by omega) (by omega), hc]
    congr 1
    unfold nx
    by_cases e1 : p + 1 = n
    · rw [if_pos e1]
      by_cases e2 : p + i < n
      · have : i = 0 := by omega
        subst this
        rw [if_pos (by omega), if_pos e2, if_pos (by omega)]
      · rw [if_pos (by omega), if_neg e2]; omega
    · rw [if_neg e1]
      by_cases e2 : p + i < n
      · rw [if_pos e2]
        by_cases e3 : p + i + 1 = n
        · rw [if_pos e3, if_neg (by omega)]; omega
        · rw [if_neg e3, if_pos (by omega)]; omega
      · rw [if_neg e2, if_neg (by omega)]; omega
  generalize c.drop (nx n p) ++ c.take (nx n p) = dd at *
  refine ⟨?_, fun q hq => ⟨hge q hq, ?_⟩⟩
  · have hq1 : ∀ i, i < n - p → stp dd i = wallM n c (p + i) := by
      intro i hi
      by_cases h0 : i = 0
      · subst h0
        rw [Nat.add_zero, hpw]
        simp [stp]
      · unfold stp wallM
        rw [hg i (by omega), hg (i - 1) (by omega), if_pos (by omega), if_pos (by omega), nxt_in (n := n) (k := p + (i - 1)) (by omega), show p + (i - 1) + 1 = p + i by omega]
        simp [h0]
    have hq2 : ∀ j, j < p → stp dd (n - p + j) = false := by
      intro j hj
      have h1 := hlow j hj
      unfold wallM at h1
      rw [nxt_in (by omega)] at h1
      unfold stp
      rw [hg (n - p + j) (by omega), if_neg (by omega), show p + (n - p + j) + 1 - n = j + 1 by omega, hg (n - p + j - 1) (by omega)]
      have h2 : (if p + (n - p + j - 1) < n then nx n (p + (n - p + j - 1)) else p + (n - p + j - 1) + 1 - n) = j := by
        by_cases h3 : j = 0
        · subst h3
          rw [if_pos (by omega), nxt_end (by omega)]
        · rw [if_neg (by omega)]; omega
      rw [h2]
      simp at h1
      simp [h1]
      omega
    have e1 : starts dd n = (List.range (n - p)).filter (stp dd) := by
      unfold starts
      rw [show List.range n = List.range ((n - p) + p) by rw [show n - p + p = n by omega], List.range_add, List.filter_append]
      rw [show ((List.range p).map (n - p + ·)).filter (stp dd) = [] from List.filter_eq_nil_iff.mpr fun x hx => by
        obtain ⟨j, hj, rfl⟩ := List.mem_map.mp hx
        rw [hq2 j (List.mem_range.mp hj)]; decide]
      rw [List.append_nil]
    have e2 : (List.range n).filter (wallM n c) = ((List.range (n - p)).filter (fun i => wallM n c (p + i))).map (p + ·) := by
      rw [show List.range n = List.range (p + (n - p)) by rw [show p + (n - p) = n by omega], List.range_add, List.filter_append]
      rw [show (List.range p).filter (wallM n c) = [] from List.filter_eq_nil_iff.mpr fun x hx => by
        rw [hlow x (List.mem_range.mp hx)]; decide]
      rw [List.nil_append, List.filter_map]
      rfl
    rw [← hp, e2, e1, List.map_map]
    rw [List.filter_congr fun i hi => hq1 i (List.mem_range.mp hi)]
    rw [List.map_congr_left (g := id) fun a _ => by show p + a - p = a; omega, List.map_id]
  · have hqn : q < n := by
      rw [← hp] at hq
      exact List.mem_range.mp (List.mem_filter.mp hq).1
    have := hge q hq
    rw [hg (q - p) (by omega), show p + (q - p) = q by omega, if_pos hqn]
end
end WW
set_option Elab.async false
set_option linter.all false
set_option maxRecDepth 100000
namespace WW
open PySem PySem.Spec L2
/-! ### the law's _law_alike on what is the same -/
inductive Alk : Nat → D → Prop
  | non (n : Nat) : Alk n .non
  | bl (n : Nat) (b : Bool) : Alk n (.bl b)
  | int (n : Nat) (i : Int) : Alk n (.int i)
  | str (n : Nat) (x : Str) : Alk n (.str x)
  | tup (n : Nat) (l : List D) : l.length ≤ 1000000 → (∀ d ∈ l, Alk n d) → Alk (n + 1) (.tup l)
  | lst (n : Nat) (l : List D) : l.length ≤ 1000000 → (∀ d ∈ l, Alk n d) → Alk (n + 1) (.lst l)
theorem ix_lst_nat (l : List D) (k : Nat) (d : D) (h : l[k]? = some d) : gIx (.lst l) (.int (k : Int)) = .ok d := by
  have hk := (List.getElem?_eq_some_iff.mp h).1
  refine ix_lst _ _ _ (by omega) (by omega) ?_
  unfold ixI
  rw [if_neg (by omega), Int.toNat_natCast]
  exact h
theorem ix_tup_nat (l : List D) (k : Nat) (d : D) (h : l[k]? = some d) : gIx (.tup l) (.int (k : Int)) = .ok d := by
  have hk := (List.getElem?_eq_some_iff.mp h).1
  refine ix_tup _ _ _ (by omega) (by omega) ?_
  unfold ixI
  rw [if_neg (by omega), Int.toNat_natCast]
  exact h
theorem alike_loop (rec : List D → R D) (d : D) (l : List D) (hd : d = .tup l ∨ d = .lst l) (h : ∀ x ∈ l, rec [x, x] = .ok (.bl true)) : ∃ x, forL (gdName 2) (f_law_alike_f1 rec) (intsD 0 l.length) [some (.v d), some (.v d), none] = .next [some (.v d), some (.v d), x] := by
  obtain ⟨e', h1, x, rfl⟩ := forL_inv (g := gdName 2) (b := f_law_alike_f1 rec) (fun _ e => ∃ x, e = [some (.v d), some (.v d), x]) (intsD 0 l.length) [some (.v d), some (.v d), none] 0 ⟨_, rfl⟩ (by
    rintro j z e hj ⟨x, rfl⟩
    obtain ⟨hj2, rfl⟩ := intsD_get hj
    have hg := List.getElem?_eq_getElem hj2
    clear hj
    have hj := hj2
    have hx := h _ (List.getElem_mem hj)
    generalize l[j] = y at *
    have hi : gIx d (.int (j : Int)) = .ok y := by
      rcases hd with rfl | rfl
      · exact ix_tup_nat _ _ _ hg
      · exact ix_lst_nat _ _ _ hg
    refine ⟨_, _, by simp; rfl, .inl ?_, some (.v (natD j)), rfl⟩
    unfold f_law_alike_f1 natD
    simp [hi, hx])
  exact ⟨x, h1⟩
theorem alike_refl : ∀ (n : Nat) (d : D), Alk n d → f_law_alike (n + 1) [d, d] = .ok (.bl true) := by
  intro n d h
  induction h with
  | non n =>
    unfold f_law_alike fnD
    rw [f_law_alike_den_eq]
    simp [initE]
  | bl n b =>
    unfold f_law_alike fnD
    rw [f_law_alike_den_eq]
    simp [initE]
  | int n i =>
    unfold f_law_alike fnD
    rw [f_law_alike_den_eq]
    simp [initE]
  | str n x =>
    unfold f_law_alike fnD
    rw [f_law_alike_den_eq]
    simp [initE]
  | tup n l hl ha ih =>
    obtain ⟨x, hx⟩ := alike_loop (f_law_alike (n + 1)) (.tup l) l (.inl rfl) ih
    unfold f_law_alike fnD
    rw [f_law_alike_den_eq]
    generalize f_law_alike_f1 (f_law_alike (n + 1)) = fb at *
    simp (disch := omega) [initE, hx]
  | lst n l hl ha ih =>
    obtain ⟨x, hx⟩ := alike_loop (f_law_alike (n + 1)) (.lst l) l (.inr rfl) ih
    unfold f_law_alike fnD
    rw [f_law_alike_den_eq]
    generalize f_law_alike_f1 (f_law_alike (n + 1)) = fb at *
    simp (disch := omega) [initE, hx]
theorem Alk.mono {n m : Nat} {d : D} (h : Alk n d) (hm : n ≤ m) : Alk m d := by
  induction h generalizing m with
  | non n => exact .non m
  | bl n b => exact .bl m b
  | int n i => exact .int m i
  | str n x => exact .str m x
  | tup n l hl ha ih =>
    obtain ⟨k, rfl⟩ : ∃ k, m = k + 1 := ⟨m - 1, by omega⟩
    exact .tup k l hl fun d hd => ih d hd (by omega)
  | lst n l hl ha ih =>
    obtain ⟨k, rfl⟩ : ∃ k, m = k + 1 := ⟨m - 1, by omega⟩
    exact .lst k l hl fun d hd => ih d hd (by omega)
/-! ### what one turn does to the walls -/
section
variable {P : Plan} {c : List Nat} {k : Nat}
theorem gt_set (c : List Nat) (k s i : Nat) (hk : k < c.length) : gt (c.set k s) i = if i = k then s else gt c i := by
  unfold gt
  rw [List.getD_eq_getElem?_getD, List.getD_eq_getElem?_getD, List.getElem?_set]
  by_cases h : k = i
  · rw [if_pos h, if_pos (by omega), if_pos h.symm]; rfl
  · rw [if_neg h, if_neg (Ne.symm h)]
theorem Cells.set {n : Nat} {c : List Nat} (h : Cells n c) {k s : Nat} (hs : 97 ≤ s ∧ s ≤ 100) : Cells n (c.set k s) := by
  refine ⟨by rw [List.length_set, h.len], fun x hx => ?_⟩
  rcases List.mem_or_eq_of_mem_set hx with hx | rfl
  · exact h.sg x hx
  · exact hs
/-- the signs behind the walls -/
def behind (P : Plan) (c : List Nat) : List Nat := (placesM P c).map fun p => gt c (nx P.n p)
theorem nx_prev {n k : Nat} (h : k < n) : nx n (prev n k) = k := by
  unfold nx prev
  by_cases h0 : k = 0
  · rw [if_pos h0]
    rw [if_pos (by omega)]; omega
  · rw [if_neg h0, if_neg (by omega)]; omega
theorem nxt_eq {n p k : Nat} (hp : p < n) (hk : k < n) (h : nx n p = k) : p = prev n k := by
  unfold nx at h
  unfold prev
  split at h <;> split <;> omega
/-- a wall steps over the cell that turns -/
structure Step (n : Nat) (c d : List Nat) (u v : Nat) : Prop where
  wu : wallM n c u = true
  nu : wallM n d u = false
  wv : wallM n d v = true
  nv : wallM n c v = false
  oth : ∀ p, p < n → p ≠ u → p ≠ v → wallM n d p = wallM n c p ∧ gt d (nx n p) = gt c (nx n p)
  sg : gt d (nx n v) = gt c (nx n u)
theorem turn_step (hc : Cells P.n c) (h3 : 3 ≤ P.n) (hk : k < P.n) {s : Nat} (h : turnM P c k = some s) : Step P.n c (c.set k s) k (prev P.n k) ∨ Step P.n c (c.set k s) (prev P.n k) k := by
  obtain ⟨_, _, h4, h5⟩ := turnM_some h
  have h8 : ∀ i, gt (c.set k s) i = if i = k then s else gt c i := fun i => gt_set c k s i (by rw [hc.len]; exact hk)
  have hne : gt c (prev P.n k) ≠ gt c (nx P.n k) := by
    rcases h5 with ⟨z1, z2⟩ | ⟨z1, z2⟩
    · rw [← z1, ← z2]; exact Ne.symm h4
    · rw [← z1, ← z2]; exact h4
  have hpk : prev P.n k ≠ k := by unfold prev; split <;> omega
  have hnk : nx P.n k ≠ k := by unfold nx; split <;> omega
  have hnp := nx_prev hk
  have oth : ∀ p, p < P.n → p ≠ k → p ≠ prev P.n k → wallM P.n (c.set k s) p = wallM P.n c p ∧ gt (c.set k s) (nx P.n p) = gt c (nx P.n p) := by
    intro p hp h1 h2
    have h9 : nx P.n p ≠ k := fun z => h2 (nxt_eq hp hk z)
    unfold wallM
    rw [h8, h8, if_neg h1, if_neg h9]
    exact ⟨rfl, rfl⟩
  rcases h5 with ⟨z1, z2⟩ | ⟨z1, z2⟩
  · refine .inl ⟨?_, ?_, ?_, ?_, oth, ?_⟩
    · unfold wallM; rw [z1]; simp [hne]
    · unfold wallM; rw [h8, h8, if_pos rfl, if_neg hnk, z2]; simp
    · unfold wallM; rw [hnp, h8, h8, if_neg hpk, if_pos rfl, z2]; simp [hne]
    · unfold wallM; rw [hnp, z1]; simp
    · rw [hnp, h8, if_pos rfl, z2]
  · refine .inr ⟨?_, ?_, ?_, ?_, fun p hp h1 h2 => oth p hp h2 h1, ?_⟩
    · unfold wallM; rw [hnp, z1]; simp [hne]
    · unfold wallM; rw [hnp, h8, h8, if_neg hpk, if_pos rfl, z2]; simp
    · unfold wallM; rw [h8, h8, if_pos rfl, if_neg hnk, z2]; simp [hne]
    · unfold wallM; rw [z1]; simp
    · rw [h8, if_neg hnk, hnp, z1]
/-- the order of walls and of the signs behind them, when a wall steps inside -/
theorem step_in {n m : Nat} {c d : List Nat} {u v : Nat} (h : Step n c d u v) (hm : m ≤ n) (ha : u + 1 = v ∨ v + 1 = u) (hu : u < m) (hv : v < m) :
    ∃ A B, (List.range m).filter (wallM n c) = A ++ u :: B ∧ (List.range m).filter (wallM n d) = A ++ v :: B ∧ (∀ p ∈ A, p < u ∧ p < v) ∧ (∀ p ∈ B, u < p ∧ v < p) ∧ ∀ p, p ∈ A ∨ p ∈ B → gt d (nx n p) = gt c (nx n p) := by
  obtain ⟨w, hw⟩ : ∃ w, w = min u v := ⟨_, rfl⟩
  have hsplit : List.range m = List.range w ++ ([w, w + 1] ++ (List.range (m - (w + 2))).map (w + 2 + ·)) := by
    rw [show List.range m = List.range (w + (2 + (m - (w + 2)))) by rw [show w + (2 + (m - (w + 2))) = m by omega], List.range_add, List.range_add, List.map_append, List.map_map]
    congr 1
    congr 1
    refine List.map_congr_left fun a _ => ?_
    show w + (2 + a) = w + 2 + a
    omega
  have h1 : ∀ p, p < m → p ≠ u → p ≠ v → wallM n d p = wallM n c p := fun p hp a b => (h.oth p (by omega) a b).1
  refine ⟨(List.range w).filter (wallM n c), ((List.range (m - (w + 2))).map (w + 2 + ·)).filter (wallM n c), ?_, ?_, fun p hp => ?_, fun p hp => ?_, fun p hp => ?_⟩
  · rw [hsplit, List.filter_append, List.filter_append]
    congr 1
    rw [show ([w, w + 1]).filter (wallM n c) = [u] by
      rcases ha with ha | ha
      · have : w = u := by omega
        subst this
        have : w + 1 = v := by omega
        rw [List.filter_cons, h.wu, if_pos rfl, List.filter_cons, this, h.nv, if_neg (by decide)]
        rfl
      · have : w = v := by omega
        subst this
        have : w + 1 = u := by omega
        rw [List.filter_cons, h.nv, if_neg (by decide), List.filter_cons, this, h.wu, if_pos rfl]
        rfl]
    rfl
  · rw [hsplit, List.filter_append, List.filter_append]
    rw [List.filter_congr (q := wallM n c) (l := List.range w) fun p hp => h1 p (by have := List.mem_range.mp hp; omega) (by have := List.mem_range.mp hp; omega) (by have := List.mem_range.mp hp; omega)]
    rw [List.filter_congr (q := wallM n c) (l := (List.range (m - (w + 2))).map (w + 2 + ·)) fun p hp => by
      obtain ⟨x, hx, rfl⟩ := List.mem_map.mp hp
      have := List.mem_range.mp hx
      exact h1 _ (by omega) (by omega) (by omega)]
    congr 1
    rw [show ([w, w + 1]).filter (wallM n d) = [v] by
      rcases ha with ha | ha
      · have : w = u := by omega
        subst this
        have : w + 1 = v := by omega
        rw [List.filter_cons, h.nu, if_neg (by decide), List.filter_cons, this, h.wv, if_pos rfl]
        rfl
      · have : w = v := by omega
        subst this
        have : w + 1 = u := by omega
        rw [List.filter_cons, h.wv, if_pos rfl, List.filter_cons, this, h.nu, if_neg (by decide)]
        rfl]
    rfl
  · have := List.mem_range.mp (List.mem_filter.mp hp).1
    omega
  · obtain ⟨x, hx, rfl⟩ := List.mem_map.mp (List.mem_filter.mp hp).1
    omega
  · have h2 : p < m ∧ p ≠ u ∧ p ≠ v := by
      rcases hp with hp | hp
      · have := List.mem_range.mp (List.mem_filter.mp hp).1
        omega
      · obtain ⟨x, hx, rfl⟩ := List.mem_map.mp (List.mem_filter.mp hp).1
        have := List.mem_range.mp hx
        omega
    exact (h.oth p (by omega) h2.2.1 h2.2.2).2
/-- when a wall steps over a ring's first cell -/
theorem step_out {n : Nat} {c d : List Nat} (h3 : 3 ≤ n) (h : Step n c d 0 (n - 1)) :
    ∃ B, (List.range n).filter (wallM n c) = 0 :: B ∧ (List.range n).filter (wallM n d) = B ++ [n - 1] ∧ ∀ p ∈ B, gt d (nx n p) = gt c (nx n p) := by
  have hsplit : List.range n = 0 :: ((List.range (n - 2)).map (1 + ·) ++ [n - 1]) := by
    rw [show List.range n = List.range (1 + ((n - 2) + 1)) by rw [show 1 + ((n - 2) + 1) = n by omega], List.range_add, List.range_succ (n := n - 2), List.map_append]
    rw [show [n - 2].map (1 + ·) = [n - 1] by simp; omega]
    rfl
  refine ⟨((List.range (n - 2)).map (1 + ·)).filter (wallM n c), ?_, ?_, fun p hp => ?_⟩
  · rw [hsplit, List.filter_cons, h.wu, if_pos rfl, List.filter_append, List.filter_cons, h.nv, if_neg (by decide), List.filter_nil, List.append_nil]
  · rw [hsplit, List.filter_cons, h.nu, if_neg (by decide), List.filter_append, List.filter_cons, h.wv, if_pos rfl, List.filter_nil]
    congr 1
    refine List.filter_congr fun p hp => ?_
    obtain ⟨x, hx, rfl⟩ := List.mem_map.mp hp
    have := List.mem_range.mp hx
    exact (h.oth _ (by omega) (by omega) (by omega)).1
  · obtain ⟨x, hx, rfl⟩ := List.mem_map.mp (List.mem_filter.mp hp).1
    have := List.mem_range.mp hx
    exact (h.oth _ (by omega) (by omega) (by omega)).2
theorem Step.symm {n : Nat} {c d : List Nat} {u v : Nat} (h : Step n c d u v) : Step n d c v u :=
  ⟨h.wv, h.nv, h.wu, h.nu, fun p hp a b => ⟨(h.oth p hp b a).1.symm, (h.oth p hp b a).2.symm⟩, h.sg.symm⟩
/-- a turn keeps the number of walls, and the signs behind them, in a ring up to one step round -/
theorem turn_behind (hP : P.Ok) (hc : Cells P.n c) (hk : k < P.n) {s : Nat} (h : turnM P c k = some s) :
    (k ≠ 0 ∧ behind P (c.set k s) = behind P c) ∨ (P.r = true ∧ ∃ x B, (behind P c = x :: B ∧ behind P (c.set k s) = B ++ [x]) ∨ (behind P c = B ++ [x] ∧ behind P (c.set k s) = x :: B)) := by
  have h3 := hP.lo
  have hst := turn_step hc h3 hk h
  have hnr := (turnM_some h).2.1
  by_cases hin : k ≠ 0
  · left
    refine ⟨hin, ?_⟩
    have hpv : prev P.n k = k - 1 := by unfold prev; rw [if_neg hin]
    have hlast : k < lastM P := by
      unfold lastM
      cases hr : P.r with
      | true => rw [if_pos rfl]; exact hk
      | false =>
        rw [if_neg (by decide)]
        have hh : ¬ (k = 0 ∨ k = P.n - 1) := fun z => hnr ⟨hr, z⟩
        omega
    have gen : ∀ u v, Step P.n c (c.set k s) u v → (u + 1 = v ∨ v + 1 = u) → u < lastM P → v < lastM P → behind P (c.set k s) = behind P c := by
      intro u v hs ha hu hv
      obtain ⟨A, B, e1, e2, _, _, e5⟩ := step_in hs lastM_le ha hu hv
      unfold behind placesM
      rw [e1, e2, List.map_append, List.map_append, List.map_cons, List.map_cons, hs.sg]
      rw [List.map_congr_left fun p hp => e5 p (.inl hp), List.map_congr_left (l := B) fun p hp => e5 p (.inr hp)]
    rcases hst with hs | hs
    · exact gen _ _ hs (by omega) hlast (by omega)
    · exact gen _ _ hs (by omega) (by omega) hlast
  · have hk0 : k = 0 := by omega
    subst hk0
    have hr : P.r = true := by
      cases hr : P.r with
      | true => rfl
      | false => exact absurd ⟨hr, .inl rfl⟩ hnr
    have hl : lastM P = P.n := by unfold lastM; rw [if_pos hr]
    have hpv : prev P.n 0 = P.n - 1 := rfl
    rw [hpv] at hst
    right
    refine ⟨hr, ?_⟩
    unfold behind placesM
    rw [hl]
    rcases hst with hs | hs
    · obtain ⟨B, e1, e2, e3⟩ := step_out h3 hs
      refine ⟨gt c (nx P.n 0), B.map fun p => gt c (nx P.n p), .inl ⟨by rw [e1]; rfl, ?_⟩⟩
      rw [e2, List.map_append, List.map_congr_left e3, List.map_cons, List.map_nil, hs.sg]
    · obtain ⟨B, e1, e2, e3⟩ := step_out h3 hs.symm
      refine ⟨gt c (nx P.n (P.n - 1)), B.map fun p => gt c (nx P.n p), .inr ⟨?_, ?_⟩⟩
      · rw [e2, List.map_append]; rfl
      · rw [e1, List.map_cons, hs.sg, List.map_congr_left fun p hp => (e3 p hp).symm]
end
end WW
set_option Elab.async false
set_option linter.all false
set_option maxRecDepth 100000
namespace WW
open PySem PySem.Spec L2
/-! more of evaluation by simp: lists of things, counting up, objects -/
section
variable {e : En} {da db : DE} {dr : DA} {i j : Nat}
def kParL (is : List Nat) (p : List Sl × En) : SR := setAllS is p.1 p.2
@[simp] theorem kParL_e (is : List Nat) (l : List Sl) : kParL is (l, e) = setAllS is l e := rfl
@[simp] theorem e_parL (is : List Nat) (d : DL) : sParL is d e = (d e).toS (kParL is) := rfl
def oAllS (is : List Nat) (ss : List Sl) : Option En → SR
  | some e' => setAllS is ss e'
  | none => .bad
@[simp] theorem oAllS_s (is : List Nat) (ss : List Sl) : oAllS is ss (some e) = setAllS is ss e := rfl
@[simp] theorem setAllS_nil : setAllS [] [] e = .next e := rfl
@[simp] theorem setAllS_cons (is : List Nat) (s : Sl) (ss : List Sl) : setAllS (i :: is) (s :: ss) e = oAllS is ss (setE e i (some s)) := by
  show (match setE e i (some s) with
    | some e' => setAllS is ss e'
    | none => .bad) = _
  cases setE e i (some s) <;> rfl
@[simp] theorem e_lNil : lNil e = .ok ([], e) := rfl
def kLC2 (s : Sl) (q : List Sl × En) : R (List Sl × En) := .ok (s :: q.1, q.2)
@[simp] theorem kLC2_e (s : Sl) (l : List Sl) : kLC2 s (l, e) = .ok (s :: l, e) := rfl
def kLCD (d : DL) (p : D × En) : R (List Sl × En) := (d p.2).bind (kLC2 (.v p.1))
@[simp] theorem kLCD_e (d : DL) (x : D) : kLCD d (x, e) = (d e).bind (kLC2 (.v x)) := rfl
@[simp] theorem e_lConsD (d : DL) : lConsD da d e = (da e).bind (kLCD d) := rfl
def kLCO (d : DL) (p : Sl × En) : R (List Sl × En) := (d p.2).bind (kLC2 p.1)
@[simp] theorem kLCO_e (d : DL) (x : Sl) : kLCO d (x, e) = (d e).bind (kLC2 x) := rfl
@[simp] theorem e_lConsO (o : OE) (d : DL) : lConsO o d e = (o e).bind (kLCO d) := rfl
def aug1 (i : Nat) (g : Int → Int → Int) (da : DE) (e : En) : Option Sl → SR
  | some (.v (.int x)) => (da e).toS (sAugR i g x)
  | _ => .bad
@[simp] theorem aug1_i (g : Int → Int → Int) (x : Int) : aug1 i g da e (some (.v (.int x))) = (da e).toS (sAugR i g x) := rfl
@[simp] theorem e_aug (g : Int → Int → Int) : sAugI i g da e = aug1 i g da e (nth e i) := by
  unfold sAugI
  cases nth e i with
  | none => rfl
  | some s =>
    cases s with
    | v d => cases d <;> rfl
    | _ => rfl
@[simp] theorem augR_e (g : Int → Int → Int) (x y : Int) : sAugR i g x (.int y, e) = setS e i (.v (.int (g x y))) := rfl
@[simp] theorem e_enum : iEnumd dr e = (dr e).bind (kIts asEnum) := rfl
@[simp] theorem enum_lst (l : List D) : asEnum [.lst l] = .ok (enD 0 l) := rfl
def finMe (e : En) (d : D) : R (D × En) := .ok (d, e)
@[simp] theorem finMe_e (d : D) : finMe e d = .ok (d, e) := rfl
def kMe2 (g : List D → R D) (d : D) (q : List D × En) : R (D × En) := (g (d :: q.1)).bind (finMe q.2)
@[simp] theorem kMe2_e (g : List D → R D) (d : D) (l : List D) : kMe2 g d (l, e) = (g (d :: l)).bind (finMe e) := rfl
def kMe (c m : Str) (g : List D → R D) (dr : DA) (p : D × En) : R (D × En) := if isIns c m p.1 = true then (dr p.2).bind (kMe2 g p.1) else .bad
@[simp] theorem kMe_e (c m : Str) (g : List D → R D) (d : D) : kMe c m g dr (d, e) = if isIns c m d = true then (dr e).bind (kMe2 g d) else .bad := rfl
@[simp] theorem e_methD (c m : Str) (g : List D → R D) : dMethD c m g da dr e = (da e).bind (kMe c m g dr) := rfl
def kFO (p : Sl × En) : R (D × En) := (obD p.1).bind (finMe p.2)
@[simp] theorem kFO_e (s : Sl) : kFO (s, e) = (obD s).bind (finMe e) := rfl
@[simp] theorem e_frzO (o : OE) : dFrzO o e = (o e).bind kFO := rfl
def kMk2 (c : Str) (e : En) (ob : Ob) : R (Sl × En) := .ok (.obj false c ob.1 ob.2, e)
@[simp] theorem kMk2_e (c : Str) (ns : List Str) (xs : List Fd) : kMk2 c e (ns, xs) = .ok (.obj false c ns xs, e) := rfl
def kMk (c : Str) (f : List D → R Ob) (p : List D × En) : R (Sl × En) := (f p.1).bind (kMk2 c p.2)
@[simp] theorem kMk_e (c : Str) (f : List D → R Ob) (l : List D) : kMk c f (l, e) = (f l).bind (kMk2 c e) := rfl
@[simp] theorem e_make (c : Str) (f : List D → R Ob) : oMake c f dr e = (dr e).bind (kMk c f) := rfl
@[simp] theorem obD_o (c : Str) (ns : List Str) (xs : List Fd) : obD (.obj false c ns xs) = insOf c ns xs := rfl
def kSF2 (c : Str) (i : Nat) (f : Str) (d : D) (e : En) : Option Sl → SR
  | some (.obj b c' ns xs) => if c' = c ∧ ns.length < 1000 then setS e i (.obj b c' (putN f ns) (putX f (.v d) ns xs)) else .bad
  | _ => .bad
@[simp] theorem kSF2_o (c : Str) (f : Str) (d : D) (b : Bool) (c' : Str) (ns : List Str) (xs : List Fd) : kSF2 c i f d e (some (.obj b c' ns xs)) = if c' = c ∧ ns.length < 1000 then setS e i (.obj b c' (putN f ns) (putX f (.v d) ns xs)) else .bad := rfl
def kSF (c : Str) (i : Nat) (f : Str) (p : D × En) : SR := kSF2 c i f p.1 p.2 (nth p.2 i)
@[simp] theorem kSF_e (c : Str) (f : Str) (d : D) : kSF c i f (d, e) = kSF2 c i f d e (nth e i) := rfl
@[simp] theorem e_setF (c f : Str) : sSetF c i f da e = (da e).toS (kSF c i f) := by
  unfold sSetF
  congr 1
end
/-- a match -/
def matchD (rows cnt sh : D) : D := .ins "Match" ["rows", "counts", "shift"] [rows, cnt, sh]
theorem v_Match_init (a b c : D) : p_Match___init__ [a, b, c] = .ok (["rows", "counts", "shift"], [.v a, .v b, .v c]) := by rfl
theorem match_made (a b c : D) : insOf ("Match" : Str) ["rows", "counts", "shift"] [.v a, .v b, .v c] = .ok (matchD a b c) := rfl
@[simp] theorem match_rows (a b c : D) : gFld ("Match" : Str) ("rows" : Str) (matchD a b c) = .ok a := by rfl
@[simp] theorem match_cost (a b c : D) : isIns ("Match" : Str) ("cost" : Str) (matchD a b c) = true := by rfl
/-- a row of a match -/
def rowD (r : Nat × Int × Int) : D := .tup [natD r.1, .int r.2.1, .int r.2.2]
def absI (i : Int) : Int := if i < 0 then -i else i
def costR (r : Nat × Int × Int) : Int := (r.1 : Int) * absI (r.2.2 - r.2.1)
def costM (rows : List (Nat × Int × Int)) : Int := (rows.map costR).sum
@[simp] theorem sum_ints (l : List Int) : gSum [.lst (l.map D.int)] = .ok (.int l.sum) := by
  unfold gSum
  simp only [asInts_map]
@[simp] theorem abs_int (i : Int) : gAbs [.int i] = .ok (.int (absI i)) := rfl
theorem mul_small (i j : Int) (h : 0 ≤ i ∧ i ≤ 1000) : gMul (.int i) (.int j) = .ok (.int (i * j)) := by
  unfold gMul
  have : small i = true := by
    unfold small SMALL
    simp
    omega
  simp [this]
theorem cost_e (m : D) (a b c : Int) (h9 : gMul (.int a) (.int (absI (b - c))) = .ok (.int (a * absI (b - c)))) : p_Match_cost_e1 [some (.v m), some (.v (.int a)), some (.v (.int c)), some (.v (.int b))] = .ok (.int (a * absI (b - c)), [some (.v m), some (.v (.int a)), some (.v (.int c)), some (.v (.int b))]) := by
  rw [p_Match_cost_e1]
  simp [h9]
theorem cost_g (m : D) (a b c : Int) : gdTup [1, 2, 3] (.tup [.int a, .int b, .int c]) [some (.v m), none, none, none] = some [some (.v m), some (.v (.int a)), some (.v (.int b)), some (.v (.int c))] := by simp
theorem cost_c (rows : List (Nat × Int × Int)) (m : D) (hw : ∀ r ∈ rows, r.1 ≤ 9) : compL [1, 2, 3] (gdTup [1, 2, 3]) noTest p_Match_cost_e1 (rows.map rowD) [some (.v m), none, none, none] = .ok (rows.map (fun r => .int (costR r)), [some (.v m), none, none, none]) := by
  refine compL_mapT rowD (fun r => .int (costR r)) rows fun a ha => ?_
  have h9 := mul_small (a.1 : Int) (absI (a.2.2 - a.2.1)) (by have := hw a ha; omega)
  exact ⟨_, _, cost_g m a.1 a.2.1 a.2.2, cost_e m a.1 a.2.2 a.2.1 h9, rfl⟩
theorem cost_s (rows : List (Nat × Int × Int)) : gSum [.lst (rows.map fun r => D.int (costR r))] = .ok (.int (costM rows)) := by
  have h8 := sum_ints (rows.map costR)
  rw [List.map_map] at h8
  exact h8
theorem v_cost (rows : List (Nat × Int × Int)) (x y : D) (hl : rows.length ≤ 1000) (hw : ∀ r ∈ rows, r.1 ≤ 9) : p_Match_cost [matchD (.lst (rows.map rowD)) x y] = .ok (.int (costM rows)) := by
  have h5 := LIM_n
  have h7 := cost_c rows (matchD (.lst (rows.map rowD)) x y) hw
  have h8 := cost_s rows
  have h9 := match_rows (.lst (rows.map rowD)) x y
  have h6 : rows.length ≤ LIM := by omega
  unfold p_Match_cost fnD
  rw [p_Match_cost_den_eq]
  generalize matchD (.lst (rows.map rowD)) x y = m at *
  simp [initE, h7, h8, h9, h6]
end WW
set_option Elab.async false
set_option linter.all false
set_option maxRecDepth 100000
namespace WW
open PySem PySem.Spec L2
/-! the row's match -/
/-- a loop that checks, and may give up -/
theorem forL_chk {α : Type} {g : DG} {b : DS} (h : α → D) (ok : α → Bool) (I : En → Prop) (r : D) : ∀ (l : List α) (e : En), I e → (∀ a ∈ l, ∀ e, I e → ∃ e1 e2, g (h a) e = some e1 ∧ I e2 ∧ b e1 = if ok a = true then .next e2 else .ret r e2) → ∃ e', I e' ∧ forL g b (l.map h) e = if l.all ok = true then .next e' else .ret r e'
  | [], e, hI, _ => ⟨e, hI, rfl⟩
  | a :: l, e, hI, H => by
    obtain ⟨e1, e2, h1, h2, h3⟩ := H a List.mem_cons_self e hI
    cases k : ok a with
    | true =>
      rw [k, if_pos rfl] at h3
      obtain ⟨e', h4, h5⟩ := forL_chk h ok I r l e2 h2 fun a' ha => H a' (List.mem_cons_of_mem _ ha)
      refine ⟨e', h4, ?_⟩
      rw [List.all_cons, k, Bool.true_and, ← h5]
      rw [List.map_cons]
      show forL g b (h a :: l.map h) e = _
      conv => lhs; unfold forL
      rw [h1]
      simp only [h3]
    | false =>
      rw [k, if_neg (by decide)] at h3
      refine ⟨e2, h2, ?_⟩
      rw [List.all_cons, k, Bool.false_and, if_neg (by decide), List.map_cons]
      unfold forL
      rw [h1]
      simp only [h3]
def sgD (x : Nat) : D := .str (S [x])
theorem eqv_sg : ∀ l m : List Nat, PyData.eqvAll (pyAll (l.map sgD)) (pyAll (m.map sgD)) = decide (l = m)
  | [], [] => rfl
  | [], _ :: _ => rfl
  | _ :: _, [] => rfl
  | a :: l, b :: m => by
    show (PyData.eqv (.str (S [a])) (.str (S [b])) && PyData.eqvAll (pyAll (l.map sgD)) (pyAll (m.map sgD))) = _
    rw [eqv_sg l m]
    have e : PyData.eqv (.str (S [a])) (.str (S [b])) = decide (a = b) := by
      simp only [PyData.eqv]
      rw [Bool.eq_iff_iff]
      simp
    rw [e]
    simp
theorem eq_sgs {l m : List Nat} (hl : ∀ x ∈ l, x ≤ 100) (hm : ∀ x ∈ m, x ≤ 100) : gEq (.lst (l.map sgD)) (.lst (m.map sgD)) = .ok (.bl (decide (l = m))) := by
  have n : ∀ l : List Nat, (∀ x ∈ l, x ≤ 100) → ∀ d ∈ l.map sgD, Nice 0 d := fun l h d hd => by
    obtain ⟨x, hx, rfl⟩ := List.mem_map.mp hd
    exact nice_S 0 [x] fun y hy => by rw [List.mem_singleton.mp hy]; have := h x hx; omega
  rw [eq_lst_nice (n l hl) (n m hm) (by omega)]
  congr 2
  exact eqv_sg l m
section
variable {P : Plan} {c d : List Nat}
/-- the weight of the wall at a place -/
def wpM (P : Plan) (c : List Nat) (p : Nat) : Nat := wM P (gt c p) (gt c (nx P.n p))
def frzOk (P : Plan) (c d : List Nat) (f : Nat) : Bool := decide (((placesM P c).filter fun p => decide (p < f)).length = ((placesM P d).filter fun p => decide (p < f)).length)
structure RowOk (P : Plan) (c d : List Nat) : Prop where
  len : (placesM P c).length = (placesM P d).length
  one : gt c 0 = gt d 0
  beh : behind P c = behind P d
  frz : P.fz.all (frzOk P c d) = true
instance : Decidable (RowOk P c d) :=
  if h : (placesM P c).length = (placesM P d).length ∧ gt c 0 = gt d 0 ∧ behind P c = behind P d ∧ P.fz.all (frzOk P c d) = true then isTrue ⟨h.1, h.2.1, h.2.2.1, h.2.2.2⟩ else isFalse fun z => h ⟨z.1, z.2, z.3, z.4⟩
def rowsM (P : Plan) (c d : List Nat) : List (Nat × Int × Int) := ((placesM P c).zip (placesM P d)).map fun p => (wpM P c p.1, (p.1 : Int), (p.2 : Int))
def rowMD (P : Plan) (c d : List Nat) (x y : D) : D := if RowOk P c d then matchD (.lst ((rowsM P c d).map rowD)) x y else .non
theorem v_between (w : D) (p q : Int) (k : Int) : ∃ i : Int, p_between [.tup [w, .int p, .int q], .int k] = .ok (.int i) := by
  unfold p_between fnD p_between_den
  exact ⟨_, by simp [initE]; rfl⟩
theorem row_last (hr : P.r = false) (h3 : 3 ≤ P.n) {p : Nat} (hp : p ∈ placesM P c) : p + 1 < P.n ∧ nx P.n p = p + 1 := by
  have h := List.mem_range.mp (List.mem_filter.mp hp).1
  unfold lastM at h
  rw [hr, if_neg (by decide)] at h
  unfold nx
  rw [if_neg (by omega)]
  omega
theorem wall_ne {p : Nat} (hp : p ∈ placesM P c) : gt c p ≠ gt c (nx P.n p) := by
  have := (mem_places hp).2
  unfold wallM at this
  simpa using this
theorem v_wp (hP : P.Ok) (hc : Cells P.n c) {p : Nat} (hp : p ∈ placesM P c) : p_weight_of [P.D, .str (S [gt c p]), .str (S [gt c (nx P.n p)])] = .ok (natD (wpM P c p)) :=
  v_weight hP (hc.get (mem_places hp).1) (hc.get (nx_lt (mem_places hp).1)) (wall_ne hp)
theorem wp_le (hP : P.Ok) (hc : Cells P.n c) {p : Nat} (hp : p ∈ placesM P c) : 1 ≤ wpM P c p ∧ wpM P c p ≤ 9 := by
  have h := pairIx_lt (hc.get (mem_places hp).1) (hc.get (nx_lt (mem_places hp).1))
  have h1 := hP.wl
  unfold wpM wM
  generalize pairIx (gt c p) (gt c (nx P.n p)) = j at h
  unfold gt
  rw [List.getD_eq_getElem?_getD, List.getElem?_eq_getElem (by omega)]
  exact hP.ws _ (List.getElem_mem _)
theorem beh_le (hc : Cells P.n c) : ∀ x ∈ behind P c, x ≤ 100 := fun x hx => by
  obtain ⟨p, hp, rfl⟩ := List.mem_map.mp hx
  exact (hc.get (nx_lt (mem_places hp).1)).2
theorem zip_mem {p q : Nat} (h : (p, q) ∈ (placesM P c).zip (placesM P d)) : p ∈ placesM P c ∧ q ∈ placesM P d := List.of_mem_zip h
theorem rows_le (hP : P.Ok) (hc : Cells P.n c) : ∀ r ∈ rowsM P c d, r.1 ≤ 9 := fun r hr => by
  obtain ⟨⟨p, q⟩, hp, rfl⟩ := List.mem_map.mp hr
  exact (wp_le hP hc (zip_mem hp).1).2
theorem rows_len : (rowsM P c d).length ≤ P.n := by
  unfold rowsM
  rw [List.length_map, List.length_zip]
  exact Nat.le_trans (Nat.min_le_left _ _) places_len
theorem row_signs (hr : P.r = false) (h3 : 3 ≤ P.n) (hc : c.length = P.n) (hn : P.n ≤ LIM) (cs ds : D) (sl : Nat) (a b x6 x7 x8 x9 : Option Sl) (pD : D) :
    compL [5] (gdName 5) noTest p_row_match_e1 ((placesM P c).map natD) [some (.v pD), some (.v (.str (S c))), a, some (.v cs), b, none, x6, x7, x8, x9] = .ok ((behind P c).map sgD, [some (.v pD), some (.v (.str (S c))), a, some (.v cs), b, none, x6, x7, x8, x9]) := by
  have h7 := compL_mapT (vs := [5]) (g := gdName 5) (el := p_row_match_e1) (e := [some (.v pD), some (.v (.str (S c))), a, some (.v cs), b, none, x6, x7, x8, x9]) natD (fun p => sgD (gt c (nx P.n p))) (placesM P c) (by
    intro p hp
    obtain ⟨h1, h2⟩ := row_last hr h3 hp
    have h8 : gIx (.str (S c)) (.int ((p : Int) + 1)) = .ok (sgD (gt c (nx P.n p))) := by
      rw [ix_S c _ (by omega) (by omega) (by omega), h2]
      rw [show ((p : Int) + 1) = ((p + 1 : Nat) : Int) by omega, at_nat]
      rfl
    refine ⟨_, _, by simp; rfl, by rw [p_row_match_e1]; simp [natD, h8]; rfl, by simp [natD]⟩)
  rw [h7]
  unfold behind
  rw [List.map_map]
  rfl
end
end WW
set_option Elab.async false
set_option linter.all false
set_option maxRecDepth 100000
namespace WW
open PySem PySem.Spec L2
section
variable {P : Plan} {c d : List Nat}
/-- row_match's slots -/
def rmE (P : Plan) (c d : List Nat) (x6 x7 x9 : Option Sl) : En := [some (.v P.D), some (.v (.str (S c))), some (.v (.str (S d))), some (.v (.lst ((placesM P c).map natD))), some (.v (.lst ((placesM P d).map natD))), none, x6, x7, none, x9]
theorem rm_1 (hr : P.r = false) (h3 : 3 ≤ P.n) (hc : c.length = P.n) (hn : P.n ≤ LIM) (x6 x7 x9 : Option Sl) :
    compL [5] (gdName 5) noTest p_row_match_e1 ((placesM P c).map natD) (rmE P c d x6 x7 x9) = .ok ((behind P c).map sgD, rmE P c d x6 x7 x9) := row_signs hr h3 hc hn _ (.int 0) 0 _ _ _ _ _ _ _
theorem rm_2 (hr : P.r = false) (h3 : 3 ≤ P.n) (hd : d.length = P.n) (hn : P.n ≤ LIM) (x6 x7 x9 : Option Sl) :
    compL [5] (gdName 5) noTest p_row_match_e2 ((placesM P d).map natD) (rmE P c d x6 x7 x9) = .ok ((behind P d).map sgD, rmE P c d x6 x7 x9) := by
  have h7 := compL_mapT (vs := [5]) (g := gdName 5) (el := p_row_match_e2) (e := rmE P c d x6 x7 x9) natD (fun p => sgD (gt d (nx P.n p))) (placesM P d) (by
    intro p hp
    obtain ⟨h1, h2⟩ := row_last hr h3 hp
    have h8 : gIx (.str (S d)) (.int ((p : Int) + 1)) = .ok (sgD (gt d (nx P.n p))) := by
      rw [ix_S d _ (by omega) (by omega) (by omega), h2]
      rw [show ((p : Int) + 1) = ((p + 1 : Nat) : Int) by omega, at_nat]
      rfl
    unfold rmE
    refine ⟨_, _, by simp; rfl, by rw [p_row_match_e2]; simp [natD, h8]; rfl, by simp [natD]⟩)
  rw [h7]
  unfold behind
  rw [List.map_map]
  rfl
theorem lt_nat (a b : Nat) : gLt (natD a) (natD b) = .ok (.bl (decide (a < b))) := by
  show R.ok (D.bl (decide ((a : Int) < (b : Int)))) = _
  congr 2
  exact decide_eq_decide.mpr (by omega)
theorem rm_3 (f : Nat) (x7 x9 : Option Sl) (l : List Nat) :
    compL [5] (gdName 5) p_row_match_t3 p_row_match_e3 (l.map natD) (rmE P c d (some (.v (natD f))) x7 x9) = .ok ((l.filter fun p => decide (p < f)).map natD, rmE P c d (some (.v (natD f))) x7 x9) :=
  compL_filT natD natD (fun p => decide (p < f)) l (by
    intro p hp
    have h := lt_nat p f
    unfold rmE
    refine ⟨_, _, by simp; rfl, by rw [p_row_match_t3]; simp [h]; rfl, fun _ => by simp, fun _ => ⟨_, by rw [p_row_match_e3]; simp; rfl, by simp⟩⟩)
theorem rm_4 (f : Nat) (x7 x9 : Option Sl) (l : List Nat) :
    compL [5] (gdName 5) p_row_match_t4 p_row_match_e4 (l.map natD) (rmE P c d (some (.v (natD f))) x7 x9) = .ok ((l.filter fun p => decide (p < f)).map natD, rmE P c d (some (.v (natD f))) x7 x9) :=
  compL_filT natD natD (fun p => decide (p < f)) l (by
    intro p hp
    have h := lt_nat p f
    unfold rmE
    refine ⟨_, _, by simp; rfl, by rw [p_row_match_t4]; simp [h]; rfl, fun _ => by simp, fun _ => ⟨_, by rw [p_row_match_e4]; simp; rfl, by simp⟩⟩)
theorem wipe_rm (x6 x7 x9 : Option Sl) : wipeE (rmE P c d x6 x7 x9) [5] = some (rmE P c d x6 x7 x9) := by
  unfold rmE
  simp
theorem rm_f (hn : P.n ≤ LIM) (f : Nat) (x7 x9 : Option Sl) : p_row_match_f1 (rmE P c d (some (.v (natD f))) x7 x9) = if frzOk P c d f = true then .next (rmE P c d (some (.v (natD f))) x7 x9) else .ret .non (rmE P c d (some (.v (natD f))) x7 x9) := by
  have h1 := rm_3 (P := P) (c := c) (d := d) f x7 x9 (placesM P c)
  have h2 := rm_4 (P := P) (c := c) (d := d) f x7 x9 (placesM P d)
  have h3 := wipe_rm (P := P) (c := c) (d := d) (some (.v (natD f))) x7 x9
  have h4 : dVar 3 (rmE P c d (some (.v (natD f))) x7 x9) = .ok (.lst ((placesM P c).map natD), rmE P c d (some (.v (natD f))) x7 x9) := by unfold rmE; simp
  have h5 : dVar 4 (rmE P c d (some (.v (natD f))) x7 x9) = .ok (.lst ((placesM P d).map natD), rmE P c d (some (.v (natD f))) x7 x9) := by unfold rmE; simp
  have l1 : (placesM P c).length ≤ LIM := Nat.le_trans places_len hn
  have l2 : (placesM P d).length ≤ LIM := Nat.le_trans places_len hn
  rw [p_row_match_f1]
  generalize rmE P c d (some (.v (natD f))) x7 x9 = E at *
  simp [-e_var, -wipe_cons, h1, h2, h3, h4, h5, l1, l2]
  unfold frzOk
  by_cases k : ((placesM P c).filter fun p => decide (p < f)).length = ((placesM P d).filter fun p => decide (p < f)).length
  · simp [k]
  · have k2 : ¬ ((((placesM P c).filter fun p => decide (p < f)).length : Int) = (((placesM P d).filter fun p => decide (p < f)).length : Int)) := by omega
    simp [k, k2]
theorem rm_5 (hP : P.Ok) (hr : P.r = false) (hc : Cells P.n c) (x6 x7 x9 : Option Sl) :
    compL [5, 8] (gdTup [5, 8]) noTest p_row_match_e5 (((placesM P c).zip (placesM P d)).map fun p => .tup [natD p.1, natD p.2]) (rmE P c d x6 x7 x9) = .ok ((rowsM P c d).map rowD, rmE P c d x6 x7 x9) := by
  have hn := hP.hi
  have h5 := LIM_n
  have hl := hc.len
  have h7 := compL_mapT (vs := [5, 8]) (g := gdTup [5, 8]) (el := p_row_match_e5) (e := rmE P c d x6 x7 x9) (fun p : Nat × Nat => .tup [natD p.1, natD p.2]) (fun p => rowD (wpM P c p.1, (p.1 : Int), (p.2 : Int))) ((placesM P c).zip (placesM P d)) (by
    rintro ⟨p, q⟩ hp
    obtain ⟨z1, z2⟩ := zip_mem hp
    obtain ⟨h1, h2⟩ := row_last hr hP.lo z1
    have h8 : gIx (.str (S c)) (.int ((p : Int) + 1)) = .ok (.str (S [gt c (nx P.n p)])) := by
      rw [ix_S c _ (by omega) (by omega) (by omega), h2]
      rw [show ((p : Int) + 1) = ((p + 1 : Nat) : Int) by omega, at_nat]
    have h9 : gIx (.str (S c)) (.int (p : Int)) = .ok (.str (S [gt c p])) := by
      rw [ix_S c _ (by omega) (by omega) (by omega), at_nat]
    have h10 := v_wp hP hc z1
    unfold rmE
    generalize P.D = pd at *
    refine ⟨_, _, by simp; rfl, by rw [p_row_match_e5]; simp [natD, h8, h9, h10, rowD]; rfl, by simp [natD]⟩)
  rw [h7]
  unfold rowsM
  rw [List.map_map]
  rfl
end
end WW
set_option Elab.async false
set_option linter.all false
set_option maxRecDepth 100000
namespace WW
open PySem PySem.Spec L2
section
variable {P : Plan} {c d : List Nat}
theorem rm_6 (hn : P.n ≤ LIM) (r : Nat × Int × Int) (x6 x7 : Option Sl) : ∃ l e3, p_row_match_e7 (rmE P c d x6 x7 (some (.v (rowD r)))) = .ok (.tup [natD r.1, .tup l], e3) ∧ wipeE e3 [9] = some (rmE P c d none x7 none) := by
  obtain ⟨w, p, q⟩ := r
  obtain ⟨ps, e', h1, h2, h3, _⟩ := compL_relA (vs := [6]) (g := gdName 6) (el := p_row_match_e6) natD (fun i : Int => D.int i) (fun e => e = rmE P c d none x7 (some (.v (rowD (w, p, q))))) (fun _ _ => True) (List.range P.n) _ rfl (by
    rintro a _ e rfl
    obtain ⟨i, hi⟩ := v_between (natD w) p q (a : Int)
    have hi2 : p_between [rowD (w, p, q), natD a] = .ok (.int i) := hi
    refine ⟨_, i, _, _, by unfold rmE; simp; rfl, by rw [p_row_match_e6]; simp [hi2]; rfl, by simp; rfl, by unfold rmE; rfl, trivial⟩)
  subst h2
  have hl : ps.length = P.n := by
    have := congrArg List.length h3
    rwa [List.length_map, List.length_range] at this
  refine ⟨ps.map fun p => .int p.2, rmE P c d none x7 (some (.v (rowD (w, p, q)))), ?_, by unfold rmE; simp⟩
  have e1 : dBin gIx (dVar 9) (dC (.int 0)) (rmE P c d x6 x7 (some (.v (rowD (w, p, q))))) = .ok (natD w, rmE P c d x6 x7 (some (.v (rowD (w, p, q))))) := by
    unfold rmE rowD
    simp
  have e2 : iRange (dCons (dBin gIx (dVar 0) (dC (.int 1))) dNil) (rmE P c d x6 x7 (some (.v (rowD (w, p, q))))) = .ok ((List.range P.n).map natD, rmE P c d x6 x7 (some (.v (rowD (w, p, q))))) := by
    have hr : asRange [.int (P.n : Int)] = .ok (intsD 0 P.n) := rangeN _ (by have := LIM_n; omega)
    rw [← intsD_eq]
    unfold rmE Plan.D
    simp [hr]
  have e3 : wipeE (rmE P c d x6 x7 (some (.v (rowD (w, p, q))))) [6] = some (rmE P c d none x7 (some (.v (rowD (w, p, q))))) := by
    unfold rmE
    simp
  rw [p_row_match_e7]
  generalize rmE P c d x6 x7 (some (.v (rowD (w, p, q)))) = E at *
  generalize rmE P c d none x7 (some (.v (rowD (w, p, q)))) = E2 at *
  simp [-e_bin, -e_iRange, -wipe_cons, e1, e2, e3, h1, hn]
theorem rm_7 (hn : P.n ≤ LIM) (rows : List (Nat × Int × Int)) (x7 : Option Sl) (x6 : Option Sl) : ∃ l x6', compL [9] (gdName 9) noTest p_row_match_e7 (rows.map rowD) (rmE P c d x6 x7 none) = .ok (l, rmE P c d x6' x7 none) ∧ l.length = rows.length := by
  obtain ⟨ps, e', h1, ⟨x6', rfl⟩, h3, _⟩ := compL_relA (vs := [9]) (g := gdName 9) (el := p_row_match_e7) rowD (fun d : D => d) (fun e => ∃ x6, e = rmE P c d x6 x7 none) (fun _ _ => True) rows (rmE P c d x6 x7 none) ⟨_, rfl⟩ (by
    rintro a _ e ⟨y6, rfl⟩
    obtain ⟨l, e3, h1, h2⟩ := rm_6 (P := P) (c := c) (d := d) hn a y6 x7
    exact ⟨rmE P c d y6 x7 (some (.v (rowD a))), _, e3, _, by unfold rmE; simp, h1, h2, ⟨_, rfl⟩, trivial⟩)
  refine ⟨_, x6', h1, ?_⟩
  rw [List.length_map, ← h3, List.length_map]
theorem v_row_match (hP : P.Ok) (hr : P.r = false) (hc : Cells P.n c) (hd : Cells P.n d) : ∃ x, p_row_match [P.D, .str (S c), .str (S d)] = .ok (rowMD P c d x (.int 0)) := by
  have h5 := LIM_n
  have hi := hP.hi
  have lo := hP.lo
  have hn : P.n ≤ LIM := by omega
  have v1 := v_places hP hc
  have v2 := v_places hP hd
  have l1 : (placesM P c).length ≤ LIM := Nat.le_trans places_len hn
  have l2 : (placesM P d).length ≤ LIM := Nat.le_trans places_len hn
  have b1 := beh_le (P := P) hc
  have b2 := beh_le (P := P) hd
  have lb1 : (behind P c).length ≤ LIM := by unfold behind; rw [List.length_map]; exact l1
  have lb2 : (behind P d).length ≤ LIM := by unfold behind; rw [List.length_map]; exact l2
  have c0 : gIx (.str (S c)) (.int 0) = .ok (.str (S [gt c 0])) := by rw [ix_S c _ (by have := hc.len; omega) (by have := hc.len; omega) (by have := hc.len; omega), show (0 : Int) = ((0 : Nat) : Int) from rfl, at_nat]
  have d0 : gIx (.str (S d)) (.int 0) = .ok (.str (S [gt d 0])) := by rw [ix_S d _ (by have := hd.len; omega) (by have := hd.len; omega) (by have := hd.len; omega), show (0 : Int) = ((0 : Nat) : Int) from rfl, at_nat]
  have E0 : initE 10 [P.D, .str (S c), .str (S d)] = [some (.v P.D), some (.v (.str (S c))), some (.v (.str (S d))), none, none, none, none, none, none, none] := rfl
  have s1 : sPar 3 4 (dCall p_places_of (dCons (dVar 0) (dCons (dVar 1) dNil))) (dCall p_places_of (dCons (dVar 0) (dCons (dVar 2) dNil))) (initE 10 [P.D, .str (S c), .str (S d)]) = .next (rmE P c d none none none) := by
    rw [E0]
    unfold rmE
    simp [v1, v2]
  unfold p_row_match fnD
  rw [p_row_match_den_eq, e_seq, s1, s_next]
  unfold rowMD
  have w0 := wipe_rm (P := P) (c := c) (d := d) none none none
  have q1 := rm_1 (c := c) (d := d) hr lo hc.len hn none none none
  have q2 := rm_2 (c := c) (d := d) hr lo hd.len hn none none none
  have T1 : dTest (dBin gNe (dApp gLen (dCons (dVar 3) dNil)) (dApp gLen (dCons (dVar 4) dNil))) (rmE P c d none none none) = .ok (!decide ((placesM P c).length = (placesM P d).length), rmE P c d none none none) := by
    have h : decide (((placesM P c).length : Int) = ((placesM P d).length : Int)) = decide ((placesM P c).length = (placesM P d).length) := decide_eq_decide.mpr (by omega)
    unfold rmE
    simp [h]
  have T2 : dTest (dBin gNe (dBin gIx (dVar 1) (dC (.int 0))) (dBin gIx (dVar 2) (dC (.int 0)))) (rmE P c d none none none) = .ok (!decide (gt c 0 = gt d 0), rmE P c d none none none) := by
    unfold rmE
    simp [c0, d0]
  have t3 : dVar 3 (rmE P c d none none none) = .ok (.lst ((placesM P c).map natD), rmE P c d none none none) := by unfold rmE; simp
  have t4 : dVar 4 (rmE P c d none none none) = .ok (.lst ((placesM P d).map natD), rmE P c d none none none) := by unfold rmE; simp
  have T3 : dTest (dBin gNe (dFrz (oComp (iVal (dVar 3)) [5] (gdName 5) noTest p_row_match_e1)) (dFrz (oComp (iVal (dVar 4)) [5] (gdName 5) noTest p_row_match_e2))) (rmE P c d none none none) = .ok (!decide (behind P c = behind P d), rmE P c d none none none) := by
    have hq := eq_sgs b1 b2
    generalize rmE P c d none none none = E at *
    simp [-e_var, -wipe_cons, t3, t4, w0, q1, q2, hq, l1, l2]
  have T4 : iVal (dBin gIx (dVar 0) (dC (.int 2))) (rmE P c d none none none) = .ok (P.fz.map natD, rmE P c d none none none) := by
    unfold rmE Plan.D
    simp
  obtain ⟨e', ⟨x6, rfl⟩, hloop⟩ := forL_chk (g := gdName 6) (b := p_row_match_f1) natD (frzOk P c d) (fun e => ∃ x6, e = rmE P c d x6 none none) .non P.fz (rmE P c d none none none) ⟨_, rfl⟩ (by
    rintro f _ e ⟨x6, rfl⟩
    exact ⟨rmE P c d (some (.v (natD f))) none none, _, by unfold rmE; simp, ⟨_, rfl⟩, rm_f hn f none none⟩)
  obtain ⟨cl, x6', hc7, hcl⟩ := rm_7 (P := P) (c := c) (d := d) hn (rowsM P c d) (some (.v (.lst ((rowsM P c d).map rowD)))) x6
  by_cases ok : RowOk P c d
  · refine ⟨.lst cl, ?_⟩
    rw [if_pos ok]
    obtain ⟨k1, k2, k3, k4⟩ := ok
    rw [decide_eq_true k1] at T1
    rw [decide_eq_true k2] at T2
    rw [decide_eq_true k3] at T3
    rw [if_pos k4] at hloop
    have q5 := rm_5 (d := d) hP hr hc x6 none none
    have lr : (rowsM P c d).length ≤ LIM := Nat.le_trans rows_len hn
    have lz : (zipD ((placesM P c).map natD) ((placesM P d).map natD)).length ≤ LIM := by
      rw [zipD_map, List.length_map, List.length_zip]
      exact Nat.le_trans (Nat.min_le_left _ _) l1
    have T5 : sAsgO 7 (oComp (iZipd (dCons (dVar 3) (dCons (dVar 4) dNil))) [5, 8] (gdTup [5, 8]) noTest p_row_match_e5) (rmE P c d x6 none none) = .next (rmE P c d x6 (some (.l ((rowsM P c d).map rowD))) none) := by
      have u3 : dVar 3 (rmE P c d x6 none none) = .ok (.lst ((placesM P c).map natD), rmE P c d x6 none none) := by unfold rmE; simp
      have u4 : dVar 4 (rmE P c d x6 none none) = .ok (.lst ((placesM P d).map natD), rmE P c d x6 none none) := by unfold rmE; simp
      have u5 : wipeE (rmE P c d x6 none none) [5, 8] = some (rmE P c d x6 none none) := by unfold rmE; simp
      have u6 : setE (rmE P c d x6 none none) 7 (some (.l ((rowsM P c d).map rowD))) = some (rmE P c d x6 (some (.l ((rowsM P c d).map rowD))) none) := by unfold rmE; simp
      rw [zipD_map] at lz
      generalize rmE P c d x6 none none = E at *
      simp [-e_var, -wipe_cons, u3, u4, u5, u6, q5, zipD_map]
      rw [if_pos (by simpa using lz)]
      simp [u6]
    have T6 : dVar 7 (rmE P c d x6 (some (.l ((rowsM P c d).map rowD))) none) = .ok (.lst ((rowsM P c d).map rowD), rmE P c d x6 (some (.v (.lst ((rowsM P c d).map rowD)))) none) := by unfold rmE; simp
    have T7 : dVar 7 (rmE P c d x6 (some (.v (.lst ((rowsM P c d).map rowD)))) none) = .ok (.lst ((rowsM P c d).map rowD), rmE P c d x6 (some (.v (.lst ((rowsM P c d).map rowD)))) none) := by unfold rmE; simp
    have T8 : wipeE (rmE P c d x6 (some (.v (.lst ((rowsM P c d).map rowD)))) none) [9] = some (rmE P c d x6 (some (.v (.lst ((rowsM P c d).map rowD)))) none) := by unfold rmE; simp
    have hm := v_Match_init (.lst ((rowsM P c d).map rowD)) (.lst cl) (.int 0)
    have hm2 := match_made (.lst ((rowsM P c d).map rowD)) (.lst cl) (.int 0)
    rw [e_seq, e_if, e_or, T1]
    simp only [r_bind_ok, Bool.not_true, kOr_f, T2, r_toS_ok, kIf_f, e_next, s_next]
    rw [e_seq, e_if, T3]
    simp only [r_toS_ok, Bool.not_true, kIf_f, e_next, s_next]
    rw [e_seq, e_for, T4, r_toS_ok, kFor_e, hloop, s_next, e_seq, T5, s_next]
    generalize rmE P c d x6 (some (.l ((rowsM P c d).map rowD))) none = E7 at *
    generalize rmE P c d x6 (some (.v (.lst ((rowsM P c d).map rowD)))) none = E8 at *
    simp [-e_var, -wipe_cons, T6, T7, T8, hc7, hm, hm2, lr]
  · refine ⟨.non, ?_⟩
    rw [if_neg ok]
    rw [e_seq, e_if, e_or, T1]
    by_cases k1 : (placesM P c).length = (placesM P d).length
    case neg => simp [k1]
    rw [decide_eq_true k1]
    simp only [r_bind_ok, Bool.not_true, kOr_f, T2, r_toS_ok]
    by_cases k2 : gt c 0 = gt d 0
    case neg => simp [k2]
    rw [decide_eq_true k2]
    simp only [Bool.not_true, kIf_f, e_next, s_next]
    rw [e_seq, e_if, T3]
    by_cases k3 : behind P c = behind P d
    case neg => simp [k3]
    rw [decide_eq_true k3]
    simp only [r_toS_ok, Bool.not_true, kIf_f, e_next, s_next]
    have k4 : ¬ P.fz.all (frzOk P c d) = true := fun z => ok ⟨k1, k2, k3, z⟩
    rw [if_neg k4] at hloop
    rw [e_seq, e_for, T4, r_toS_ok, kFor_e, hloop]
    rfl
end
end WW
set_option Elab.async false
set_option linter.all false
set_option maxRecDepth 100000
namespace WW
open PySem PySem.Spec L2
/-! a ring that is opened at its first frozen cell -/
section
variable {P : Plan} {c d : List Nat}
def f0M (P : Plan) : Nat := P.fz.headD 0
def openP (P : Plan) : Plan := ⟨false, P.n + 1, P.fz.map (· - f0M P), P.ws⟩
def unr (P : Plan) (c : List Nat) : List Nat := c.drop (f0M P) ++ c.take (f0M P + 1)
theorem f0_lt (hP : P.Ok) (hf : P.fz ≠ []) : f0M P < P.n := by
  unfold f0M
  cases h : P.fz with
  | nil => exact absurd h hf
  | cons f r => exact hP.fz f (by rw [h]; exact List.mem_cons_self)
theorem f0_le (hP : P.Ok) : ∀ f ∈ P.fz, f0M P ≤ f := by
  intro f hf
  unfold f0M
  have hr := hP.rise
  cases h : P.fz with
  | nil => rw [h] at hf; cases hf
  | cons g r =>
    rw [h] at hf hr
    rcases List.mem_cons.mp hf with rfl | hf
    · exact Nat.le_refl _
    · exact Nat.le_of_lt ((List.pairwise_cons.mp hr).1 f hf)
theorem openP_ok (hP : P.Ok) (h12 : P.n ≤ 12) : (openP P).Ok where
  lo := by show 3 ≤ P.n + 1; have := hP.lo; omega
  hi := by show P.n + 1 ≤ 13; omega
  fz := fun f hf => by
    obtain ⟨g, hg, rfl⟩ := List.mem_map.mp hf
    have := hP.fz g hg
    show g - f0M P < P.n + 1
    omega
  rise := by
    show (P.fz.map (· - f0M P)).Pairwise (· < ·)
    rw [List.pairwise_map]
    refine hP.rise.imp_of_mem fun ha hb h => ?_
    have h1 := f0_le hP _ ha
    have h2 := f0_le hP _ hb
    omega
  wl := hP.wl
  ws := hP.ws
theorem unr_cells (hP : P.Ok) (hf : P.fz ≠ []) (hc : Cells P.n c) : Cells (openP P).n (unr P c) := by
  have h := f0_lt hP hf
  refine ⟨?_, fun x hx => ?_⟩
  · unfold unr
    rw [List.length_append, List.length_drop, List.length_take, hc.len]
    show _ = P.n + 1
    omega
  · rcases List.mem_append.mp hx with hx | hx
    · exact hc.sg x (List.drop_subset _ _ hx)
    · exact hc.sg x (List.take_subset _ _ hx)
theorem fz_get (hf : P.fz ≠ []) : gIx (.tup (P.fz.map natD)) (.int 0) = .ok (natD (f0M P)) := by
  unfold f0M
  cases h : P.fz with
  | nil => exact absurd h hf
  | cons f r => simp
theorem v_unrolled (hP : P.Ok) (hf : P.fz ≠ []) (hc : Cells P.n c) : p_unrolled [P.D, .str (S c)] = .ok (.str (S (unr P c))) := by
  have h := f0_lt hP hf
  have h5 := LIM_n
  have hl := hc.len
  have hi := hP.hi
  have h0 := fz_get hf
  have e1 : cut c (some (f0M P : Int)) none = c.drop (f0M P) := cut_from c _ (by omega)
  have e2 : cut c none (some ((f0M P : Int) + 1)) = c.take (f0M P + 1) := by
    have := cut_to c (f0M P + 1) (by omega)
    rwa [show ((f0M P + 1 : Nat) : Int) = (f0M P : Int) + 1 by omega] at this
  unfold p_unrolled fnD
  rw [p_unrolled_den]
  unfold Plan.D unr
  generalize P.fz.map natD = fzl at *
  simp (disch := omega) [initE, h0, natD, e1, e2]
  rw [add_str _ _ (by rw [List.length_drop, List.length_take]; omega)]
  rfl
theorem v_opened (hP : P.Ok) (hf : P.fz ≠ []) : p_opened [P.D] = .ok (openP P).D := by
  have h := f0_lt hP hf
  have h5 := LIM_n
  have hi := hP.hi
  have h0 := fz_get hf
  have hfl := hP.fl
  have h7 := compL_mapT (vs := [6]) (g := gdName 6) (el := p_opened_e1) (e := [some (.v P.D), some (.v (.bl P.r)), some (.v (.int P.n)), some (.v (.tup (P.fz.map natD))), some (.v (.tup (P.ws.map natD))), none, none]) natD (fun f => natD (f - f0M P)) P.fz (by
    intro a ha
    have z1 := f0_le hP a ha
    have z2 := hP.fz a ha
    have z3 : gMod (.int ((a : Int) - (f0M P : Nat))) (.int P.n) = .ok (natD (a - f0M P)) := by
      show (if 0 < (P.n : Int) then R.ok (D.int (((a : Int) - (f0M P : Nat)) % (P.n : Int))) else .bad) = _
      rw [if_pos (by omega), Int.emod_eq_of_lt (by omega) (by omega)]
      unfold natD
      congr 2
      omega
    generalize P.fz.map natD = fzl at *
    refine ⟨_, _, by simp; rfl, by rw [p_opened_e1]; simp [natD] at h0 z3 ⊢; simp [h0, z3]; rfl, by simp⟩)
  have hs : gSortedI [.lst (P.fz.map fun f => natD (f - f0M P))] = .ok (.lst ((openP P).fz.map natD)) := by
    have e : (P.fz.map fun f => natD (f - f0M P)) = ((openP P).fz.map fun f : Nat => (f : Int)).map D.int := by
      unfold openP
      rw [List.map_map, List.map_map]
      rfl
    have hs2 : sortI ((openP P).fz.map fun f : Nat => (f : Int)) = (openP P).fz.map fun f : Nat => (f : Int) := by
      refine rise_same (sortI_perm _) (sortI_rise _) ?_
      show ((P.fz.map (· - f0M P)).map fun f : Nat => (f : Int)).Pairwise (· ≤ ·)
      rw [List.map_map, List.pairwise_map]
      refine hP.rise.imp_of_mem fun ha hb h => ?_
      have h1 := f0_le hP _ ha
      have h2 := f0_le hP _ hb
      show ((_ - f0M P : Nat) : Int) ≤ ((_ - f0M P : Nat) : Int)
      omega
    unfold gSortedI
    rw [e]
    simp only [asInts_map, hs2]
    congr 2
    rw [List.map_map]
    rfl
  unfold p_opened fnD
  rw [p_opened_den_eq]
  have he : (openP P).D = .tup [.bl false, .int ((P.n : Int) + 1), .tup ((openP P).fz.map natD), .tup (P.ws.map natD)] := rfl
  rw [he]
  unfold Plan.D at *
  generalize (openP P).fz.map natD = ofz at *
  have hfl2 : (P.fz.map natD).length ≤ LIM := by rw [List.length_map]; omega
  have hfl3 : P.fz.length ≤ LIM := by omega
  simp [initE, h7, hs, hfl3]
end
end WW
set_option Elab.async false
set_option linter.all false
set_option maxRecDepth 100000
namespace WW
open PySem PySem.Spec L2
/-! rings -/
def rot {α : Type} (k : Nat) (l : List α) : List α := l.drop k ++ l.take k
theorem rot_len {α : Type} (k : Nat) (l : List α) : (rot k l).length = l.length := by
  unfold rot
  rw [List.length_append, List.length_drop, List.length_take]
  omega
theorem rot_mem {α : Type} {k : Nat} {l : List α} {x : α} (h : x ∈ rot k l) : x ∈ l := by
  rcases List.mem_append.mp h with h | h
  · exact List.drop_subset _ _ h
  · exact List.take_subset _ _ h
theorem rot_cut (l : List Nat) (k : Nat) (h : k ≤ l.length) (hl : l.length ≤ LIM) : gAdd (.lst (cut (l.map sgD) (some (k : Int)) none)) (.lst (cut (l.map sgD) none (some (k : Int)))) = .ok (.lst ((rot k l).map sgD)) := by
  rw [cut_from _ _ (by rw [List.length_map]; exact h), cut_to _ _ (by rw [List.length_map]; exact h), add_lst _ _ (by rw [List.length_drop, List.length_take, List.length_map]; omega)]
  unfold rot
  rw [List.map_append, List.map_drop, List.map_take]
section
variable {P : Plan} {c d : List Nat}
theorem v_signs_of (hP : P.Ok) (hc : Cells P.n c) : p_signs_of [P.D, .str (S c), .lst ((placesM P c).map natD)] = .ok (.lst ((behind P c).map sgD)) := by
  have h5 := LIM_n
  have hi := hP.hi
  have hl := hc.len
  have lp : (placesM P c).length ≤ LIM := Nat.le_trans places_len (by omega)
  generalize hm : D.lst ((placesM P c).map natD) = m
  have h7 := compL_mapT (vs := [3]) (g := gdName 3) (el := p_signs_of_e1) (e := [some (.v P.D), some (.v (.str (S c))), some (.v m), none]) natD (fun p => sgD (gt c (nx P.n p))) (placesM P c) (by
    intro p hp
    have h1 := (mem_places hp).1
    have h2 := nx_lt h1
    have h8 : gIx (.str (S c)) (.int (nx P.n p : Int)) = .ok (sgD (gt c (nx P.n p))) := by
      rw [ix_S c _ (by omega) (by omega) (by omega), at_nat]
      rfl
    have h9 := mod_nx P.n p h1
    unfold Plan.D
    refine ⟨_, _, by simp; rfl, by rw [p_signs_of_e1]; simp [natD, h8, h9]; rfl, by simp [natD]⟩)
  unfold p_signs_of fnD
  rw [p_signs_of_den_eq]
  have h6 : itemsOf m = .ok ((placesM P c).map natD) := by rw [← hm]; rfl
  simp [initE, h7, h6, lp]
  unfold behind
  rw [List.map_map]
  rfl
/-- the least turn of a round row that leaves it alike -/
def perM (l : List Nat) : Nat := (((List.range l.length).map (· + 1)).filter fun k => decide (rot k l = l)).headD 0
theorem perM_ok {l : List Nat} (h : l ≠ []) : ∃ r, ((List.range l.length).map (· + 1)).filter (fun k => decide (rot k l = l)) = perM l :: r ∧ 1 ≤ perM l ∧ perM l ≤ l.length ∧ rot (perM l) l = l := by
  have hm : l.length ∈ ((List.range l.length).map (· + 1)).filter (fun k => decide (rot k l = l)) := by
    refine List.mem_filter.mpr ⟨List.mem_map.mpr ⟨l.length - 1, List.mem_range.mpr ?_, ?_⟩, ?_⟩
    · have := List.length_pos_iff.mpr h; omega
    · have := List.length_pos_iff.mpr h; omega
    · unfold rot
      simp
  unfold perM
  cases q : ((List.range l.length).map (· + 1)).filter (fun k => decide (rot k l = l)) with
  | nil => rw [q] at hm; cases hm
  | cons x r =>
    have hx : x ∈ ((List.range l.length).map (· + 1)).filter (fun k => decide (rot k l = l)) := by rw [q]; exact List.mem_cons_self
    obtain ⟨h1, h2⟩ := List.mem_filter.mp hx
    obtain ⟨y, hy, rfl⟩ := List.mem_map.mp h1
    have := List.mem_range.mp hy
    exact ⟨r, rfl, by show 1 ≤ y + 1; omega, by show y + 1 ≤ _; omega, of_decide_eq_true h2⟩
theorem per_t (m x y : D) (k : Nat) (b : Bool) (e1 : gSl m (some (k : Int)) none = .ok x) (e2 : gSl m none (some (k : Int)) = .ok y) (z : D) (e3 : gAdd x y = .ok z) (e4 : gEq z m = .ok (.bl b)) : p_period_t1 [some (.v m), some (.v (natD k))] = .ok (b, [some (.v m), some (.v (natD k))]) := by
  rw [p_period_t1]
  simp [natD, e1, e2, e3, e4]
theorem per_range (n : Nat) (h : n ≤ 1000) : asRange [.int 1, .int ((n : Int) + 1)] = .ok (((List.range n).map (· + 1)).map natD) := by
  show (if (wide 1 && wide ((n : Int) + 1)) = true then R.ok (intsD 1 ((n : Int) + 1 - 1).toNat) else .bad) = _
  rw [wide_of' _ (by omega), wide_of' _ (by omega)]
  rw [show ((n : Int) + 1 - 1).toNat = n by omega]
  simp only [Bool.and_self, if_true]
  congr 1
  unfold intsD
  rw [List.map_map]
  refine List.map_congr_left fun a _ => ?_
  show D.int (1 + (a : Int)) = natD (a + 1)
  unfold natD
  congr 1
  omega
theorem per_c {l : List Nat} (hl : l.length ≤ LIM) (hs : ∀ x ∈ l, x ≤ 100) : compL [1] (gdName 1) p_period_t1 p_period_e1 (((List.range l.length).map (· + 1)).map natD) [some (.v (.lst (l.map sgD))), none] = .ok ((((List.range l.length).map (· + 1)).filter fun k => decide (rot k l = l)).map natD, [some (.v (.lst (l.map sgD))), none]) := by
  refine compL_filT natD natD (fun k => decide (rot k l = l)) ((List.range l.length).map (· + 1)) fun k hk => ?_
  obtain ⟨y, hy, rfl⟩ := List.mem_map.mp hk
  have hk2 := List.mem_range.mp hy
  have e3 := rot_cut l (y + 1) (by omega) hl
  have e4 := eq_sgs (fun x hx => hs x (rot_mem (k := y + 1) hx)) hs
  have e5 := per_t (.lst (l.map sgD)) (.lst (cut (l.map sgD) (some ((y + 1 : Nat) : Int)) none)) (.lst (cut (l.map sgD) none (some ((y + 1 : Nat) : Int)))) (y + 1) _ (sl_lst _ _ _) (sl_lst _ _ _) _ e3 e4
  generalize D.lst (l.map sgD) = m at *
  generalize y + 1 = k at *
  refine ⟨[some (.v m), some (.v (natD k))], [some (.v m), some (.v (natD k))], by simp, e5, fun _ => by simp, fun _ => ⟨[some (.v m), some (.v (natD k))], ?_, by simp⟩⟩
  rw [p_period_e1]
  simp
theorem per_A {n : Nat} {m : D} {rs : List D} (e0 : gLen [m] = .ok (.int n)) (hr : asRange [.int 1, .int ((n : Int) + 1)] = .ok rs) : iRange (dCons (dC (.int 1)) (dCons (dBin gAdd (dApp gLen (dCons (dVar 0) dNil)) (dC (.int 1))) dNil)) [some (.v m), none] = .ok (rs, [some (.v m), none]) := by
  simp -implicitDefEqProofs [e0, hr]
theorem per_B {m : D} {rs l : List D} {src : DA} {t : DT} {el : DE} (hA : src [some (.v m), none] = .ok (rs, [some (.v m), none])) (e8 : rs.length ≤ LIM) (h7 : compL [1] (gdName 1) t el rs [some (.v m), none] = .ok (l, [some (.v m), none])) : oComp src [1] (gdName 1) t el [some (.v m), none] = .ok (.l l, [some (.v m), none]) := by
  simp [hA, e8, h7]
theorem per_C {m x : D} {l : List D} {o : OE} (h : o [some (.v m), none] = .ok (.l (x :: l), [some (.v m), none])) : endR (sRet (dBin gIx (dFrz o) (dC (.int 0))) (initE 2 [m])) = .ok x := by
  simp [initE, h]
theorem v_period {l : List Nat} (h : l ≠ []) (hl : l.length ≤ 1000) (hs : ∀ x ∈ l, x ≤ 100) : p_period [.lst (l.map sgD)] = .ok (natD (perM l)) := by
  have h5 := LIM_n
  have e6 : l.length ≤ LIM := by omega
  obtain ⟨r, h1, _⟩ := perM_ok h
  have h7 := per_c e6 hs
  rw [h1] at h7
  have hr := per_range l.length hl
  have e0 : gLen [.lst (l.map sgD)] = .ok (.int l.length) := by rw [len_lst, List.length_map]
  have e8 : (((List.range l.length).map (· + 1)).map natD).length ≤ LIM := by rw [List.length_map, List.length_map, List.length_range]; exact e6
  unfold p_period fnD
  rw [p_period_den_eq]
  exact per_C (per_B (per_A e0 hr) e8 h7)
end
end WW
set_option Elab.async false
set_option linter.all false
set_option maxRecDepth 100000
namespace WW
open PySem PySem.Spec L2
/-! making a ring -/
theorem setF_step {c f : Str} {b : Bool} {da : DE} {e e' : En} {x : D} {ns : List Str} {xs : List Fd} (h : da e = .ok (x, e)) (h0 : nth e 0 = some (.obj b c ns xs)) (hl : ns.length < 1000) (hs : setE e 0 (some (.obj b c (putN f ns) (putX f (.v x) ns xs))) = some e') : sSetF c 0 f da e = .next e' := by
  rw [e_setF, h, r_toS_ok, kSF_e, h0, kSF2_o, if_pos ⟨rfl, hl⟩, e_setS, hs]
  rfl
def optK : Option Nat → D
  | some k => natD k
  | none => .non
/-- where the one's signs begin in the other's -/
def somM (mine theirs : List Nat) : List Nat := (List.range theirs.length).filter fun k => decide (rot k theirs = mine)
def firstM (mine theirs : List Nat) : Option Nat := if mine.length = theirs.length then (somM mine theirs).head? else none
def stepM (mine : List Nat) : Nat := if mine = [] then 0 else perM mine
def rgN : List Str := ["plan", "one", "starts", "goals", "first", "step"]
def ringD (p o st go fi sp : D) : D := .ins "Ring" rgN [p, o, st, go, fi, sp]
section
variable {P : Plan} {c d : List Nat}
theorem som_t (m t x y z : D) (k : Nat) (b : Bool) (s0 s1 s2 s3 s6 : Option Sl) (e1 : gSl t (some (k : Int)) none = .ok x) (e2 : gSl t none (some (k : Int)) = .ok y) (e3 : gAdd x y = .ok z) (e4 : gEq z m = .ok (.bl b)) : p_Ring___init___t1 [s0, s1, s2, s3, some (.v m), some (.v t), s6, some (.v (natD k))] = .ok (b, [s0, s1, s2, s3, some (.v m), some (.v t), s6, some (.v (natD k))]) := by
  rw [p_Ring___init___t1]
  simp -implicitDefEqProofs [natD, e1, e2, e3, e4]
theorem som_c {m t : List Nat} (hl : t.length ≤ LIM) (hm : ∀ x ∈ m, x ≤ 100) (ht : ∀ x ∈ t, x ≤ 100) (s0 s1 s2 s3 s6 : Option Sl) : compL [7] (gdName 7) p_Ring___init___t1 p_Ring___init___e1 ((List.range t.length).map natD) [s0, s1, s2, s3, some (.v (.lst (m.map sgD))), some (.v (.lst (t.map sgD))), s6, none] = .ok ((somM m t).map natD, [s0, s1, s2, s3, some (.v (.lst (m.map sgD))), some (.v (.lst (t.map sgD))), s6, none]) := by
  refine compL_filT natD natD (fun k => decide (rot k t = m)) (List.range t.length) fun k hk => ?_
  have hk2 := List.mem_range.mp hk
  have e3 := rot_cut t k (by omega) hl
  have e4 := eq_sgs (fun x hx => ht x (rot_mem (k := k) hx)) hm
  have e5 := som_t (.lst (m.map sgD)) (.lst (t.map sgD)) _ _ _ k _ s0 s1 s2 s3 s6 (sl_lst _ _ _) (sl_lst _ _ _) e3 e4
  generalize D.lst (m.map sgD) = md at *
  generalize D.lst (t.map sgD) = td at *
  refine ⟨_, _, by simp, e5, fun _ => by simp, fun _ => ⟨[s0, s1, s2, s3, some (.v md), some (.v td), s6, some (.v (natD k))], ?_, by simp⟩⟩
  rw [p_Ring___init___e1]
  simp
/-- the slots while a ring is made -/
def rgE (P : Plan) (c d : List Nat) (ns : List Str) (xs : List Fd) (x4 x5 x6 : Option Sl) : En := [some (.obj true "Ring" ns xs), some (.v P.D), some (.v (.str (S c))), some (.v (.str (S d))), x4, x5, x6, none]
theorem rg_seq {a b : DS} {e e' : En} (h : a e = .next e') : sSeq a b e = b e' := by rw [e_seq, h, s_next]
theorem v_Ring_init (hP : P.Ok) (hc : Cells P.n c) (hd : Cells P.n d) : p_Ring___init__ [P.D, .str (S c), .str (S d)] = .ok (rgN, [.v P.D, .v (.str (S c)), .v (.lst ((placesM P c).map natD)), .v (.lst ((placesM P d).map natD)), .v (optK (firstM (behind P c) (behind P d))), .v (natD (stepM (behind P c)))]) := by
  have h5 := LIM_n
  have hi := hP.hi
  have v1 := v_places hP hc
  have v2 := v_places hP hd
  have g1 := v_signs_of hP hc
  have g2 := v_signs_of hP hd
  have b1 := beh_le (P := P) hc
  have b2 := beh_le (P := P) hd
  have l1 : (behind P c).length ≤ 1000 := by unfold behind; rw [List.length_map]; have := places_len (P := P) (c := c); omega
  have l2 : (behind P d).length ≤ 1000 := by unfold behind; rw [List.length_map]; have := places_len (P := P) (c := d); omega
  have l2' : (behind P d).length ≤ LIM := by omega
  rw [p_Ring___init__, fnI, p_Ring___init___den_eq]
  have E0 : initO 8 "Ring" ([], []) [P.D, .str (S c), .str (S d)] = rgE P c d [] [] none none none := rfl
  rw [E0]
  generalize hst : (D.lst ((placesM P c).map natD)) = st at *
  generalize hgo : (D.lst ((placesM P d).map natD)) = go at *
  generalize hpd : P.D = pd at *
  generalize hcd : D.str (S c) = cd at *
  generalize hdd : D.str (S d) = dd at *
  have hE : ∀ ns xs x4 x5 x6, rgE P c d ns xs x4 x5 x6 = [some (.obj true "Ring" ns xs), some (.v pd), some (.v cd), some (.v dd), x4, x5, x6, none] := fun _ _ _ _ _ => by rw [← hpd, ← hcd, ← hdd]; rfl
  rw [rg_seq (e' := rgE P c d ["plan"] [.v pd] none none none) (setF_step (x := pd) (by rw [hE]; simp) rfl (by decide) rfl)]
  rw [rg_seq (e' := rgE P c d ["plan", "one"] [.v pd, .v cd] none none none) (setF_step (x := cd) (by rw [hE]; simp) rfl (by decide) rfl)]
  rw [rg_seq (e' := rgE P c d ["plan", "one", "starts"] [.v pd, .v cd, .v st] none none none) (setF_step (x := st) (by rw [hE]; simp [v1]) rfl (by decide) rfl)]
  rw [rg_seq (e' := rgE P c d ["plan", "one", "starts", "goals"] [.v pd, .v cd, .v st, .v go] none none none) (setF_step (x := go) (by rw [hE]; simp [v2]) rfl (by decide) rfl)]
  have f1 : dFldO ("Ring" : Str) 0 ("starts" : Str) (rgE P c d ["plan", "one", "starts", "goals"] [.v pd, .v cd, .v st, .v go] none none none) = .ok (st, rgE P c d ["plan", "one", "starts", "goals"] [.v pd, .v cd, .v st, .v go] none none none) := rfl
  have f2 : dFldO ("Ring" : Str) 0 ("goals" : Str) (rgE P c d ["plan", "one", "starts", "goals"] [.v pd, .v cd, .v st, .v go] none none none) = .ok (go, rgE P c d ["plan", "one", "starts", "goals"] [.v pd, .v cd, .v st, .v go] none none none) := rfl
  rw [rg_seq (e' := rgE P c d ["plan", "one", "starts", "goals"] [.v pd, .v cd, .v st, .v go] (some (.v (.lst ((behind P c).map sgD)))) (some (.v (.lst ((behind P d).map sgD)))) none) (by
    rw [hE] at f1 f2 ⊢
    rw [hE]
    simp -implicitDefEqProofs [f1, f2, g1, g2])]
  have sc := som_c (m := behind P c) (t := behind P d) l2' b1 b2 (some (.obj true "Ring" ["plan", "one", "starts", "goals"] [.v pd, .v cd, .v st, .v go])) (some (.v pd)) (some (.v cd)) (some (.v dd)) none
  have hr : asRange [.int ((behind P d).length : Int)] = .ok ((List.range (behind P d).length).map natD) := by rw [← intsD_eq]; exact rangeN _ (by omega)
  have hlr : ((List.range (behind P d).length).map natD).length ≤ LIM := by rw [List.length_map, List.length_range]; exact l2'
  have hlen1 : gLen [.lst ((behind P c).map sgD)] = .ok (.int (behind P c).length) := by rw [len_lst, List.length_map]
  have hlen2 : gLen [.lst ((behind P d).map sgD)] = .ok (.int (behind P d).length) := by rw [len_lst, List.length_map]
  have hnil1 : gEq (.lst ((behind P c).map sgD)) (.lst []) = .ok (.bl (decide (behind P c = []))) := eq_sgs (m := []) b1 (fun _ z => by cases z)
  have hper : behind P c ≠ [] → p_period [.lst ((behind P c).map sgD)] = .ok (natD (perM (behind P c))) := fun h => v_period h l1 b1
  have hnil2 : gEq (.lst ((somM (behind P c) (behind P d)).map natD)) (.lst []) = .ok (.bl (somM (behind P c) (behind P d)).isEmpty) := eq_nats_nil _
  have hfi : (somM (behind P c) (behind P d)).isEmpty = false → ∀ k, (somM (behind P c) (behind P d)).head? = some k → gIx (.lst ((somM (behind P c) (behind P d)).map natD)) (.int 0) = .ok (natD k) := fun _ k hk => by
    cases q : somM (behind P c) (behind P d) with
    | nil => rw [q] at hk; cases hk
    | cons x r =>
      rw [q] at hk
      injection hk with hk
      rw [hk]
      simp
  have hstep : stepM (behind P c) = if behind P c = [] then 0 else perM (behind P c) := rfl
  have hfirst : firstM (behind P c) (behind P d) = if (behind P c).length = (behind P d).length then (somM (behind P c) (behind P d)).head? else none := rfl
  generalize somM (behind P c) (behind P d) = sm at *
  generalize behind P c = bc at *
  generalize behind P d = bd at *
  generalize D.lst (bc.map sgD) = bcd at *
  generalize D.lst (bd.map sgD) = bdd at *
  generalize stepM bc = stp at *
  generalize firstM bc bd = fst at *
  have e6 : sAsgO 6 (oComp (iRange (dCons (dApp gLen (dCons (dVar 5) (dNil))) (dNil))) [7] (gdName 7) p_Ring___init___t1 p_Ring___init___e1) (rgE P c d ["plan", "one", "starts", "goals"] [.v pd, .v cd, .v st, .v go] (some (.v bcd)) (some (.v bdd)) none) = .next (rgE P c d ["plan", "one", "starts", "goals"] [.v pd, .v cd, .v st, .v go] (some (.v bcd)) (some (.v bdd)) (some (.l (sm.map natD)))) := by
    rw [hE, hE]
    simp -implicitDefEqProofs [hlen2, hr, hlr, l2', sc]
  rw [rg_seq e6]
  -- first, step
  have fr : dVar 6 (rgE P c d ["plan", "one", "starts", "goals"] [.v pd, .v cd, .v st, .v go] (some (.v bcd)) (some (.v bdd)) (some (.l (sm.map natD)))) = .ok (.lst (sm.map natD), rgE P c d ["plan", "one", "starts", "goals"] [.v pd, .v cd, .v st, .v go] (some (.v bcd)) (some (.v bdd)) (some (.v (.lst (sm.map natD))))) := by
    rw [hE, hE]
    simp
  have fv : dIfE (dAnd (dTest (dBin gNe (dVar 6) (dFrz (oLst (dNil))))) (dTest (dBin gEq (dApp gLen (dCons (dVar 4) (dNil))) (dApp gLen (dCons (dVar 5) (dNil)))))) (dBin gIx (dVar 6) (dC (.int 0))) (dC .non) (rgE P c d ["plan", "one", "starts", "goals"] [.v pd, .v cd, .v st, .v go] (some (.v bcd)) (some (.v bdd)) (some (.l (sm.map natD)))) = .ok (optK fst, rgE P c d ["plan", "one", "starts", "goals"] [.v pd, .v cd, .v st, .v go] (some (.v bcd)) (some (.v bdd)) (some (.v (.lst (sm.map natD))))) := by
    rw [hE, hE]
    cases q : sm with
    | nil =>
      have e : fst = none := by rw [hfirst, q]; split <;> rfl
      rw [e]
      rw [q] at hnil2
      have e00 : gEq (.lst []) (.lst []) = .ok (.bl true) := hnil2
      simp -implicitDefEqProofs [e00, optK]
    | cons x r =>
      rw [q] at hnil2
      have hx := hfi (by rw [q]; rfl) x (by rw [q]; rfl)
      rw [q] at hx
      by_cases k : bc.length = bd.length
      · have e : fst = some x := by rw [hfirst, q, if_pos k]; rfl
        rw [e]
        generalize (x :: r).map natD = xr at *
        simp -implicitDefEqProofs [hnil2, hlen1, hlen2, k, hx, optK]
      · have k2 : ¬ ((bc.length : Int) = (bd.length : Int)) := by omega
        have e : fst = none := by rw [hfirst, if_neg k]
        rw [e]
        generalize (x :: r).map natD = xr at *
        simp -implicitDefEqProofs [hnil2, hlen1, hlen2, k2, optK]
  have e7 : sSetF ("Ring" : Str) 0 ("first" : Str) (dIfE (dAnd (dTest (dBin gNe (dVar 6) (dFrz (oLst (dNil))))) (dTest (dBin gEq (dApp gLen (dCons (dVar 4) (dNil))) (dApp gLen (dCons (dVar 5) (dNil)))))) (dBin gIx (dVar 6) (dC (.int 0))) (dC .non)) (rgE P c d ["plan", "one", "starts", "goals"] [.v pd, .v cd, .v st, .v go] (some (.v bcd)) (some (.v bdd)) (some (.l (sm.map natD)))) = .next (rgE P c d ["plan", "one", "starts", "goals", "first"] [.v pd, .v cd, .v st, .v go, .v (optK fst)] (some (.v bcd)) (some (.v bdd)) (some (.v (.lst (sm.map natD))))) := by
    rw [e_setF, fv, r_toS_ok, kSF_e]
    generalize optK fst = y
    generalize D.lst (sm.map natD) = z
    rfl
  rw [rg_seq e7]
  have fv2 : dIfE (dTest (dBin gNe (dVar 4) (dFrz (oLst (dNil))))) (dCall p_period (dCons (dVar 4) (dNil))) (dC (.int 0)) (rgE P c d ["plan", "one", "starts", "goals", "first"] [.v pd, .v cd, .v st, .v go, .v (optK fst)] (some (.v bcd)) (some (.v bdd)) (some (.v (.lst (sm.map natD))))) = .ok (natD stp, rgE P c d ["plan", "one", "starts", "goals", "first"] [.v pd, .v cd, .v st, .v go, .v (optK fst)] (some (.v bcd)) (some (.v bdd)) (some (.v (.lst (sm.map natD))))) := by
    rw [hE]
    by_cases k : bc = []
    · rw [decide_eq_true k] at hnil1
      rw [if_pos k] at hstep
      rw [hstep]
      simp -implicitDefEqProofs [hnil1, natD]
    · rw [decide_eq_false k] at hnil1
      rw [if_neg k] at hstep
      have hp := hper k
      rw [hstep]
      simp -implicitDefEqProofs [hnil1, hp]
  have e8 : sSetF ("Ring" : Str) 0 ("step" : Str) (dIfE (dTest (dBin gNe (dVar 4) (dFrz (oLst (dNil))))) (dCall p_period (dCons (dVar 4) (dNil))) (dC (.int 0))) (rgE P c d ["plan", "one", "starts", "goals", "first"] [.v pd, .v cd, .v st, .v go, .v (optK fst)] (some (.v bcd)) (some (.v bdd)) (some (.v (.lst (sm.map natD))))) = .next (rgE P c d rgN [.v pd, .v cd, .v st, .v go, .v (optK fst), .v (natD stp)] (some (.v bcd)) (some (.v bdd)) (some (.v (.lst (sm.map natD))))) := by
    rw [e_setF, fv2, r_toS_ok, kSF_e]
    generalize optK fst = y
    generalize D.lst (sm.map natD) = z
    generalize natD stp = u
    rfl
  rw [e8]
  rfl
end
end WW
set_option Elab.async false
set_option linter.all false
set_option maxRecDepth 100000
namespace WW
open PySem PySem.Spec L2
/-- the places of a ring's walls, numbered without end -/
def farM (q : List Nat) (n : Nat) (j : Int) : Int := (gt q (j % q.length).toNat : Int) + j / q.length * n
theorem mul_small2 (i j : Int) (h : 0 ≤ j ∧ j ≤ 1000) : gMul (.int i) (.int j) = .ok (.int (i * j)) := by
  unfold gMul
  have : small j = true := by
    unfold small SMALL
    simp
    omega
  simp [this]
theorem nats_ix (q : List Nat) (k : Nat) (h : k < q.length) : gIx (.lst (q.map natD)) (.int (k : Int)) = .ok (natD (gt q k)) := by
  refine ix_lst_nat _ k _ ?_
  rw [List.getElem?_map, List.getElem?_eq_getElem h]
  unfold gt
  rw [List.getD_eq_getElem?_getD, List.getElem?_eq_getElem h]
  rfl
theorem v_far (q : List Nat) (n : Nat) (j : Int) (hq : q ≠ []) (hl : q.length ≤ 1000) (hn : n ≤ 1000) : p_far_place [.lst (q.map natD), .int j, .int n] = .ok (.int (farM q n j)) := by
  have h0 : 0 < q.length := List.length_pos_iff.mpr hq
  have e1 : gLen [.lst (q.map natD)] = .ok (.int q.length) := by rw [len_lst, List.length_map]
  have e2 : gMod (.int j) (.int q.length) = .ok (.int (j % q.length)) := by
    show (if 0 < (q.length : Int) then R.ok (D.int (j % (q.length : Int))) else .bad) = _
    rw [if_pos (by omega)]
  have e3 : gDiv (.int j) (.int q.length) = .ok (.int (j / q.length)) := by
    show (if 0 < (q.length : Int) ∧ (q.length : Int) < SMALL then R.ok (D.int (j / (q.length : Int))) else .bad) = _
    rw [if_pos ⟨by omega, by unfold SMALL; omega⟩]
  have z1 := Int.emod_nonneg j (show (q.length : Int) ≠ 0 by omega)
  have z2 := Int.emod_lt_of_pos j (show 0 < (q.length : Int) by omega)
  have e4 : gIx (.lst (q.map natD)) (.int (j % q.length)) = .ok (natD (gt q (j % q.length).toNat)) := by
    have := nats_ix q (j % q.length).toNat (by omega)
    rwa [Int.toNat_of_nonneg z1] at this
  have e5 := mul_small2 (j / q.length) n (by omega)
  unfold farM p_far_place fnD
  rw [p_far_place_den]
  generalize D.lst (q.map natD) = ql at *
  generalize gt q (j % q.length).toNat = g at *
  generalize j % q.length = jm at *
  generalize j / q.length = jd at *
  simp -implicitDefEqProofs [initE, e1, e2, e3, e4, e5, natD]
section
variable {P : Plan} {c d : List Nat}
/-- a ring's match at a shift -/
def bysL (P : Plan) (c d : List Nat) : List Nat → Int → List (Nat × Int × Int)
  | [], _ => []
  | p :: l, j => (wpM P c p, (p : Int), farM (placesM P d) P.n j) :: bysL P c d l (j + 1)
theorem bysL_len (l : List Nat) : ∀ j, (bysL P c d l j).length = l.length := by
  induction l with
  | nil => intro j; rfl
  | cons p l ih => intro j; show (bysL P c d l (j + 1)).length + 1 = _; rw [ih]; rfl
theorem bysL_le (hP : P.Ok) (hc : Cells P.n c) (l : List Nat) (h : ∀ p ∈ l, p ∈ placesM P c) : ∀ j, ∀ r ∈ bysL P c d l j, r.1 ≤ 9 := by
  induction l with
  | nil => intro j r hr; cases hr
  | cons p l ih =>
    intro j r hr
    rcases List.mem_cons.mp hr with rfl | hr
    · exact (wp_le hP hc (h p List.mem_cons_self)).2
    · exact ih (fun q hq => h q (List.mem_cons_of_mem _ hq)) _ r hr
/-- a ring's data -/
def rD (P : Plan) (c d : List Nat) (f sp : Nat) : D := ringD P.D (.str (S c)) (.lst ((placesM P c).map natD)) (.lst ((placesM P d).map natD)) (natD f) (natD sp)
def bsE (P : Plan) (c d : List Nat) (f sp : Nat) (s : Int) (acc : List D) (x4 x5 x6 : Option Sl) : En := [some (.v (rD P c d f sp)), some (.v (.int s)), some (.v (.int P.n)), some (.l acc), x4, x5, x6]
theorem rf_plan (a b c d e f : D) : gFld ("Ring" : Str) ("plan" : Str) (ringD a b c d e f) = .ok a := by rfl
theorem rf_one (a b c d e f : D) : gFld ("Ring" : Str) ("one" : Str) (ringD a b c d e f) = .ok b := by rfl
theorem rf_starts (a b c d e f : D) : gFld ("Ring" : Str) ("starts" : Str) (ringD a b c d e f) = .ok c := by rfl
theorem rf_goals (a b c d e f : D) : gFld ("Ring" : Str) ("goals" : Str) (ringD a b c d e f) = .ok d := by rfl
theorem rf_first (a b c d e f : D) : gFld ("Ring" : Str) ("first" : Str) (ringD a b c d e f) = .ok e := by rfl
theorem rf_step (a b c d e f : D) : gFld ("Ring" : Str) ("step" : Str) (ringD a b c d e f) = .ok f := by rfl
theorem bys_body (hP : P.Ok) (hc : Cells P.n c) (hg : placesM P d ≠ []) (f sp : Nat) (hsp : sp ≤ 1000) (s : Int) (acc : List D) (k : Nat) {p : Nat} (hp : p ∈ placesM P c) (x6 : Option Sl) (hacc : acc.length < LIM) :
    p_Ring_by_shift_f1 (bsE P c d f sp s acc (some (.v (natD k))) (some (.v (natD p))) x6) = .next (bsE P c d f sp s (acc ++ [rowD (wpM P c p, (p : Int), farM (placesM P d) P.n ((k : Int) + f + s * sp))]) (some (.v (natD k))) (some (.v (natD p))) (some (.v (natD (wpM P c p))))) := by
  have hi := hP.hi
  have hl := hc.len
  have h1 := (mem_places hp).1
  have h2 := nx_lt h1
  have h5 := LIM_n
  have h8 : gIx (.str (S c)) (.int (nx P.n p : Int)) = .ok (.str (S [gt c (nx P.n p)])) := by
    rw [ix_S c _ (by omega) (by omega) (by omega), at_nat]
  have h9 : gIx (.str (S c)) (.int (p : Int)) = .ok (.str (S [gt c p])) := by
    rw [ix_S c _ (by omega) (by omega) (by omega), at_nat]
  have h10 := v_wp hP hc hp
  have h11 := mod_nx P.n p h1
  have h12 := v_far (placesM P d) P.n ((k : Int) + f + s * sp) hg (by have := places_len (P := P) (c := d); omega) (by omega)
  have h13 := mul_small2 s sp (by omega)
  unfold bsE rowD
  have r1 := rf_plan P.D (.str (S c)) (.lst ((placesM P c).map natD)) (.lst ((placesM P d).map natD)) (natD f) (natD sp)
  have r2 := rf_one P.D (.str (S c)) (.lst ((placesM P c).map natD)) (.lst ((placesM P d).map natD)) (natD f) (natD sp)
  have r4 := rf_goals P.D (.str (S c)) (.lst ((placesM P c).map natD)) (.lst ((placesM P d).map natD)) (natD f) (natD sp)
  have r5 := rf_first P.D (.str (S c)) (.lst ((placesM P c).map natD)) (.lst ((placesM P d).map natD)) (natD f) (natD sp)
  have r6 := rf_step P.D (.str (S c)) (.lst ((placesM P c).map natD)) (.lst ((placesM P d).map natD)) (natD f) (natD sp)
  rw [show ringD P.D (.str (S c)) (.lst ((placesM P c).map natD)) (.lst ((placesM P d).map natD)) (natD f) (natD sp) = rD P c d f sp from rfl] at r1 r2 r4 r5 r6
  generalize rD P c d f sp = rg at *
  generalize D.lst ((placesM P d).map natD) = go at *
  generalize P.D = pd at *
  generalize farM (placesM P d) P.n ((k : Int) + f + s * sp) = fr at *
  generalize wpM P c p = wp at *
  rw [p_Ring_by_shift_f1]
  simp -implicitDefEqProofs [natD] at r5 r6 h8 h9 h10 h11 h12 h13 ⊢
  simp -implicitDefEqProofs [natD, r1, r2, r4, r5, r6, h8, h9, h10, h11, h12, h13, hacc]
end
end WW
set_option Elab.async false
set_option linter.all false
set_option maxRecDepth 100000
namespace WW
open PySem PySem.Spec L2
/-! the least of a list of pairs of numbers -/
def prD (p : Int × Int) : D := .tup [.int p.1, .int p.2]
def prLt (a b : Int × Int) : Bool := decide (a.1 < b.1 ∨ (a.1 = b.1 ∧ a.2 < b.2))
theorem lt_prD (a b : Int × Int) : PySem.W.dataLt (prD a).py (prD b).py = prLt a b := by
  obtain ⟨a1, a2⟩ := a
  obtain ⟨b1, b2⟩ := b
  show PySem.W.dataLt (.tuple [.int a1, .int a2]) (.tuple [.int b1, .int b2]) = _
  rw [PySem.W.dataLt_tuple]
  unfold prLt
  by_cases c : a1 = b1
  · subst c
    rw [PySem.W.dataLt_all_yes rfl (by simp [PyData.eqv])]
    by_cases c2 : a2 = b2
    · subst c2
      rw [PySem.W.dataLt_all_yes rfl (by simp [PyData.eqv])]
      have : decide (a1 < a1 ∨ a1 = a1 ∧ a2 < a2) = false := decide_eq_false (by omega)
      show PyProof.Rows.lexLt PyProof.Rows.itemOrd (PySem.W.keyToksAll []) (PySem.W.keyToksAll []) = decide (a1 < a1 ∨ a1 = a1 ∧ a2 < a2)
      rw [this]
      decide
    · rw [PySem.W.dataLt_all_no rfl (by simp [PyData.eqv, c2]), PySem.W.dataLt_int]
      exact decide_eq_decide.mpr (by simp)
  · rw [PySem.W.dataLt_all_no rfl (by simp [PyData.eqv, c]), PySem.W.dataLt_int]
    exact decide_eq_decide.mpr (by simp [c])
def minP (x : Int × Int) (l : List (Int × Int)) : Int × Int := l.foldl (fun a y => if prLt y a = true then y else a) x
theorem minP_mem : ∀ (l : List (Int × Int)) (x : Int × Int), minP x l ∈ x :: l
  | [], x => List.mem_cons_self
  | y :: l, x => by
    have h := minP_mem l (if prLt y x = true then y else x)
    show minP (if prLt y x = true then y else x) l ∈ _
    rcases List.mem_cons.mp h with h | h
    · rw [h]
      by_cases c : prLt y x = true
      · rw [if_pos c]; exact List.mem_cons_of_mem _ List.mem_cons_self
      · rw [if_neg c]; exact List.mem_cons_self
    · exact List.mem_cons_of_mem _ (List.mem_cons_of_mem _ h)
theorem minP_le : ∀ (l : List (Int × Int)) (x : Int × Int), ∀ y ∈ x :: l, (minP x l).1 ≤ y.1
  | [], x, y, h => by
    rw [List.mem_singleton.mp h]
    exact Int.le_refl _
  | z :: l, x, y, h => by
    have ih := minP_le l (if prLt z x = true then z else x)
    show (minP (if prLt z x = true then z else x) l).1 ≤ y.1
    have h1 := ih _ List.mem_cons_self
    have hz : (if prLt z x = true then z else x).1 ≤ z.1 ∧ (if prLt z x = true then z else x).1 ≤ x.1 := by
      by_cases c : prLt z x = true
      · rw [if_pos c]
        have := of_decide_eq_true c
        omega
      · rw [if_neg c]
        have : ¬ (z.1 < x.1 ∨ z.1 = x.1 ∧ z.2 < x.2) := fun w => c (decide_eq_true w)
        omega
    rcases List.mem_cons.mp h with rfl | h
    · omega
    · rcases List.mem_cons.mp h with rfl | h
      · omega
      · exact ih y (List.mem_cons_of_mem _ h)
theorem minDD_prD : ∀ (l : List (Int × Int)) (x : Int × Int), minDD (prD x) (l.map prD) = prD (minP x l)
  | [], x => rfl
  | y :: l, x => by
    rw [List.map_cons]
    show minDD (if PySem.W.dataLt (prD y).py (prD x).py = true then prD y else prD x) (l.map prD) = prD (minP (if prLt y x = true then y else x) l)
    rw [lt_prD]
    by_cases c : prLt y x = true
    · rw [if_pos c, if_pos c]; exact minDD_prD l y
    · rw [if_neg c, if_neg c]; exact minDD_prD l x
theorem minOk_prD (l : List (Int × Int)) : minOk (l.map prD) = true := by
  have h1 : ∀ l : List (Int × Int), plainAll (l.map prD) = true := by
    intro l
    induction l with
    | nil => rfl
    | cons a l ih => show ((prD a).plain && plainAll (l.map prD)) = true; rw [ih]; rfl
  have h2 : pyAll (l.map prD) = l.map fun p => PyData.tuple [.int p.1, .int p.2] := by
    rw [pyAll_map, List.map_map]
    rfl
  have h3 : ∀ l : List (Int × Int), PyData.depthAll (l.map fun p => PyData.tuple [.int p.1, .int p.2]) ≤ 1 := by
    intro l
    induction l with
    | nil => exact Nat.zero_le _
    | cons a l ih =>
      show max (PyData.depth (.tuple [.int a.1, .int a.2])) _ ≤ 1
      exact Nat.max_le.mpr ⟨Nat.le_refl 1, ih⟩
  unfold minOk
  rw [h1, h2, Bool.true_and, Bool.and_eq_true, Bool.and_eq_true]
  refine ⟨?_, ?_, ?_⟩
  · rw [List.all_eq_true]
    intro x hx
    rw [List.all_eq_true]
    intro y hy
    obtain ⟨a, _, rfl⟩ := List.mem_map.mp hx
    obtain ⟨b, _, rfl⟩ := List.mem_map.mp hy
    rfl
  · exact decide_eq_true (Nat.le_trans (h3 l) (by omega))
  · rw [List.all_eq_true]
    intro x hx
    obtain ⟨a, _, rfl⟩ := List.mem_map.mp hx
    rfl
theorem min_prD {l : List (Int × Int)} (h : l ≠ []) : ∃ x ∈ l, (∀ y ∈ l, x.1 ≤ y.1) ∧ gMinL [.lst (l.map prD)] = .ok (prD x) := by
  cases l with
  | nil => exact absurd rfl h
  | cons x l =>
    refine ⟨minP x l, minP_mem l x, minP_le l x, ?_⟩
    have := minOk_prD (x :: l)
    show (if minOk ((x :: l).map prD) = true then R.ok (minDD (prD x) (l.map prD)) else .bad) = _
    rw [if_pos this, minDD_prD]
end WW
set_option Elab.async false
set_option linter.all false
set_option maxRecDepth 100000
namespace WW
open PySem PySem.Spec L2
section
variable {P : Plan} {c d : List Nat}
theorem bys_loop (hP : P.Ok) (hc : Cells P.n c) (hg : placesM P d ≠ []) (f sp : Nat) (hsp : sp ≤ 1000) (s : Int) : ∀ (l : List Nat) (k : Nat) (acc : List D) (x4 x5 x6 : Option Sl), (∀ p ∈ l, p ∈ placesM P c) → acc.length + l.length ≤ LIM →
    ∃ y4 y5 y6, forL (gdTup [4, 5]) p_Ring_by_shift_f1 (enD k (l.map natD)) (bsE P c d f sp s acc x4 x5 x6) = .next (bsE P c d f sp s (acc ++ (bysL P c d l ((k : Int) + f + s * sp)).map rowD) y4 y5 y6)
  | [], k, acc, x4, x5, x6, _, _ => ⟨x4, x5, x6, by
    show SR.next _ = _
    rw [show bysL P c d [] ((k : Int) + f + s * sp) = [] from rfl, List.map_nil, List.append_nil]⟩
  | p :: l, k, acc, x4, x5, x6, h, ha => by
    have hp := h p List.mem_cons_self
    rw [List.length_cons] at ha
    have hb := bys_body (d := d) hP hc hg f sp hsp s acc k hp x6 (by omega)
    obtain ⟨y4, y5, y6, ih⟩ := bys_loop hP hc hg f sp hsp s l (k + 1) (acc ++ [rowD (wpM P c p, (p : Int), farM (placesM P d) P.n ((k : Int) + f + s * sp))]) (some (.v (natD k))) (some (.v (natD p))) (some (.v (natD (wpM P c p)))) (fun q hq => h q (List.mem_cons_of_mem _ hq)) (by rw [List.length_append, List.length_singleton]; omega)
    refine ⟨y4, y5, y6, ?_⟩
    rw [List.map_cons]
    show forL (gdTup [4, 5]) p_Ring_by_shift_f1 (.tup [natD k, natD p] :: enD (k + 1) (l.map natD)) _ = _
    have hgd : gdTup [4, 5] (.tup [natD k, natD p]) (bsE P c d f sp s acc x4 x5 x6) = some (bsE P c d f sp s acc (some (.v (natD k))) (some (.v (natD p))) x6) := by
      unfold bsE
      simp
    conv => lhs; unfold forL
    rw [hgd]
    simp only [hb]
    rw [ih]
    rw [show (((k + 1 : Nat) : Int) + f + s * sp) = (k : Int) + f + s * sp + 1 by omega]
    rw [List.append_assoc]
    rfl
theorem v_by_shift (hP : P.Ok) (hc : Cells P.n c) (hg : placesM P d ≠ []) (f sp : Nat) (hsp : sp ≤ 1000) (s : Int) : p_Ring_by_shift [rD P c d f sp, .int s] = .ok (.lst ((bysL P c d (placesM P c) ((f : Int) + s * sp)).map rowD)) := by
  have h5 := LIM_n
  have hi := hP.hi
  have lp := places_len (P := P) (c := c)
  obtain ⟨y4, y5, y6, hl⟩ := bys_loop (d := d) hP hc hg f sp hsp s (placesM P c) 0 [] none none none (fun _ h => h) (by rw [List.length_nil]; omega)
  rw [List.nil_append, show (((0 : Nat) : Int) + f + s * sp) = (f : Int) + s * sp by omega] at hl
  have r1 := rf_plan P.D (.str (S c)) (.lst ((placesM P c).map natD)) (.lst ((placesM P d).map natD)) (natD f) (natD sp)
  have r3 := rf_starts P.D (.str (S c)) (.lst ((placesM P c).map natD)) (.lst ((placesM P d).map natD)) (natD f) (natD sp)
  rw [show ringD P.D (.str (S c)) (.lst ((placesM P c).map natD)) (.lst ((placesM P d).map natD)) (natD f) (natD sp) = rD P c d f sp from rfl] at r1 r3
  have e1 : gIx P.D (.int 1) = .ok (.int P.n) := by unfold Plan.D; simp
  unfold p_Ring_by_shift fnD
  rw [p_Ring_by_shift_den_eq]
  have hs : sParL [2, 3] (lConsD (dBin gIx (dUn (gFld ("Ring" : Str) ("plan" : Str)) (dVar 0)) (dC (.int 1))) (lConsO (oLst (dNil)) (lNil))) (initE 7 [rD P c d f sp, .int s]) = .next (bsE P c d f sp s [] none none none) := by
    unfold bsE
    generalize rD P c d f sp = rg at *
    simp -implicitDefEqProofs [initE, r1, e1]
  have hr : iEnumd (dCons (dUn (gFld ("Ring" : Str) ("starts" : Str)) (dVar 0)) (dNil)) (bsE P c d f sp s [] none none none) = .ok (enD 0 ((placesM P c).map natD), bsE P c d f sp s [] none none none) := by
    unfold bsE
    generalize rD P c d f sp = rg at *
    simp -implicitDefEqProofs [r3]
  rw [e_seq, hs, s_next, e_seq, e_for, hr, r_toS_ok, kFor_e, hl, s_next]
  unfold bsE
  simp
def costS (P : Plan) (c d : List Nat) (j : Int) : Int := costM (bysL P c d (placesM P c) j)
theorem v_costS (hP : P.Ok) (hc : Cells P.n c) (j : Int) (x y : D) : p_Match_cost [matchD (.lst ((bysL P c d (placesM P c) j).map rowD)) x y] = .ok (.int (costS P c d j)) := by
  have hi := hP.hi
  have lp := places_len (P := P) (c := c)
  exact v_cost _ x y (by rw [bysL_len]; omega) (bysL_le hP hc _ (fun _ h => h) j)
/-- how far a ring's shifts are looked at -/
def farN (P : Plan) (c : List Nat) (sp : Nat) : Nat := 2 * (placesM P c).length / sp + 1
def shiftsM (P : Plan) (c : List Nat) (sp : Nat) : List Int := (List.range (2 * farN P c sp + 1)).map fun i : Nat => -(farN P c sp : Int) + (i : Int)
theorem mem_shifts {sp : Nat} {s : Int} : s ∈ shiftsM P c sp ↔ -(farN P c sp : Int) ≤ s ∧ s ≤ farN P c sp := by
  unfold shiftsM
  constructor
  · intro h
    obtain ⟨i, hi, rfl⟩ := List.mem_map.mp h
    have := List.mem_range.mp hi
    omega
  · rintro ⟨h1, h2⟩
    exact List.mem_map.mpr ⟨(s + farN P c sp).toNat, List.mem_range.mpr (by omega), by omega⟩
theorem best_e (hP : P.Ok) (hc : Cells P.n c) (hg : placesM P d ≠ []) (f sp : Nat) (hsp : sp ≤ 1000) (s : Int) (x1 x2 : Option Sl) : p_Ring_best_e1 [some (.v (rD P c d f sp)), x1, x2, some (.v (.int s))] = .ok (prD (costS P c d ((f : Int) + s * sp), s), [some (.v (rD P c d f sp)), x1, x2, some (.v (.int s))]) := by
  have h1 := v_by_shift (d := d) hP hc hg f sp hsp s
  have h2 := v_costS (d := d) hP hc ((f : Int) + s * sp) (.lst []) (.int 0)
  have h3 := v_Match_init (.lst ((bysL P c d (placesM P c) ((f : Int) + s * sp)).map rowD)) (.lst []) (.int 0)
  have h4 := match_made (.lst ((bysL P c d (placesM P c) ((f : Int) + s * sp)).map rowD)) (.lst []) (.int 0)
  have h5 : isIns ("Ring" : Str) ("by_shift" : Str) (rD P c d f sp) = true := rfl
  have h6 := match_cost (.lst ((bysL P c d (placesM P c) ((f : Int) + s * sp)).map rowD)) (.lst []) (.int 0)
  unfold prD
  generalize rD P c d f sp = rg at *
  generalize D.lst ((bysL P c d (placesM P c) ((f : Int) + s * sp)).map rowD) = rows at *
  generalize matchD rows (.lst []) (.int 0) = mm at *
  generalize costS P c d ((f : Int) + s * sp) = cc at *
  rw [p_Ring_best_e1]
  simp -implicitDefEqProofs [h1, h2, h3, h4, h5, h6]
theorem v_best (hP : P.Ok) (hc : Cells P.n c) (hg : placesM P d ≠ []) (f sp : Nat) (hs1 : 1 ≤ sp) (hsp : sp ≤ 1000) : ∃ s, s ∈ shiftsM P c sp ∧ (∀ t ∈ shiftsM P c sp, costS P c d ((f : Int) + s * sp) ≤ costS P c d ((f : Int) + t * sp)) ∧ p_Ring_best [rD P c d f sp] = .ok (.int s) := by
  have h5 := LIM_n
  have hi := hP.hi
  have lp := places_len (P := P) (c := c)
  have hf : farN P c sp ≤ 100 := by
    unfold farN
    have := Nat.div_le_self (2 * (placesM P c).length) sp
    omega
  obtain ⟨x, hx, hmin, hm⟩ := min_prD (l := (shiftsM P c sp).map fun s => (costS P c d ((f : Int) + s * sp), s)) (by
    intro h
    have := congrArg List.length h
    unfold shiftsM at this
    simp at this)
  obtain ⟨s, hs, rfl⟩ := List.mem_map.mp hx
  refine ⟨s, hs, fun t ht => hmin _ (List.mem_map.mpr ⟨t, ht, rfl⟩), ?_⟩
  have r3 := rf_starts P.D (.str (S c)) (.lst ((placesM P c).map natD)) (.lst ((placesM P d).map natD)) (natD f) (natD sp)
  have r6 := rf_step P.D (.str (S c)) (.lst ((placesM P c).map natD)) (.lst ((placesM P d).map natD)) (natD f) (natD sp)
  rw [show ringD P.D (.str (S c)) (.lst ((placesM P c).map natD)) (.lst ((placesM P d).map natD)) (natD f) (natD sp) = rD P c d f sp from rfl] at r3 r6
  have e0 : gLen [.lst ((placesM P c).map natD)] = .ok (.int (placesM P c).length) := by rw [len_lst, List.length_map]
  have e1 : gMul (.int 2) (.int (placesM P c).length) = .ok (.int (2 * (placesM P c).length)) := mul_small _ _ (by omega)
  have e2 : gDiv (.int (2 * (placesM P c).length)) (natD sp) = .ok (.int (2 * (placesM P c).length / sp : Nat)) := by
    show (if 0 < (sp : Int) ∧ (sp : Int) < SMALL then R.ok (D.int ((2 * ((placesM P c).length : Int)) / (sp : Int))) else .bad) = _
    rw [if_pos ⟨by omega, by unfold SMALL; omega⟩]
    rfl
  have hr : asRange [.int (-(farN P c sp : Int)), .int ((farN P c sp : Int) + 1)] = .ok ((shiftsM P c sp).map D.int) := by
    show (if (wide (-(farN P c sp : Int)) && wide ((farN P c sp : Int) + 1)) = true then R.ok (intsD (-(farN P c sp : Int)) ((farN P c sp : Int) + 1 - -(farN P c sp : Int)).toNat) else .bad) = _
    rw [wide_of' _ (by omega), wide_of' _ (by omega)]
    rw [show ((farN P c sp : Int) + 1 - -(farN P c sp : Int)).toNat = 2 * farN P c sp + 1 by omega]
    simp only [Bool.and_self, if_true]
    congr 1
    unfold intsD shiftsM
    rw [List.map_map]
    rfl
  have hlr : ((shiftsM P c sp).map D.int).length ≤ LIM := by
    unfold shiftsM
    rw [List.length_map, List.length_map, List.length_range]
    omega
  have hcomp := compL_mapT (vs := [3]) (g := gdName 3) (el := p_Ring_best_e1) (e := [some (.v (rD P c d f sp)), some (.v (.int (farN P c sp))), none, none]) D.int (fun s => prD (costS P c d ((f : Int) + s * sp), s)) (shiftsM P c sp) (by
    intro t _
    exact ⟨_, _, rfl, best_e hP hc hg f sp hsp t (some (.v (.int (farN P c sp)))) none, rfl⟩)
  rw [List.map_map] at hm
  have hm2 : gMinL [.lst ((shiftsM P c sp).map fun s => prD (costS P c d ((f : Int) + s * sp), s))] = .ok (prD (costS P c d ((f : Int) + s * sp), s)) := hm
  have hix : gIx (prD (costS P c d ((f : Int) + s * sp), s)) (.int 1) = .ok (.int s) := by unfold prD; simp
  have hfar : ((2 * (placesM P c).length / sp : Nat) : Int) + 1 = (farN P c sp : Int) := by unfold farN; omega
  unfold p_Ring_best fnD
  rw [p_Ring_best_den_eq]
  generalize rD P c d f sp = rg at *
  generalize D.lst ((placesM P c).map natD) = st at *
  generalize natD sp = spd at *
  generalize 2 * (placesM P c).length / sp = q at *
  generalize (shiftsM P c sp).map D.int = rl at *
  generalize ((shiftsM P c sp).map fun s => prD (costS P c d ((f : Int) + s * sp), s)) = cl at *
  have A1 : sAsg 1 (dBin gAdd (dBin gDiv (dBin gMul (dC (.int 2)) (dApp gLen (dCons (dUn (gFld ("Ring" : Str) ("starts" : Str)) (dVar 0)) (dNil)))) (dUn (gFld ("Ring" : Str) ("step" : Str)) (dVar 0))) (dC (.int 1))) (initE 4 [rg]) = .next [some (.v rg), some (.v (.int (farN P c sp))), none, none] := by
    simp -implicitDefEqProofs [initE, r3, r6, e0, e1, e2, hfar]
  have A2 : sAsgO 2 (oComp (iRange (dCons (dBin gSub (dC (.int 0)) (dVar 1)) (dCons (dBin gAdd (dVar 1) (dC (.int 1))) (dNil)))) [3] (gdName 3) (noTest) p_Ring_best_e1) [some (.v rg), some (.v (.int (farN P c sp))), none, none] = .next [some (.v rg), some (.v (.int (farN P c sp))), some (.l cl), none] := by
    simp -implicitDefEqProofs [hr, hlr, hcomp]
  rw [e_seq, A1, s_next, e_seq, A2, s_next]
  simp -implicitDefEqProofs [hm2, hix]
end
end WW
set_option Elab.async false
set_option linter.all false
set_option maxRecDepth 100000
namespace WW
open PySem PySem.Spec L2
/-! a ring's kinds: they are told, whatever they are -/
theorem gt_lt {q : List Nat} {n k : Nat} (h : ∀ x ∈ q, x < n) (h0 : 0 < n) : gt q k < n := by
  unfold gt
  rw [List.getD_eq_getElem?_getD]
  cases e : q[k]? with
  | none => exact h0
  | some x => exact h x (List.mem_of_getElem? e)
theorem far_neg {q : List Nat} {n : Nat} (h : ∀ x ∈ q, x < n) (h0 : 0 < n) (hq : q ≠ []) {j : Int} (hj : j ≤ -(q.length : Int)) : farM q n j < 0 := by
  have hl : 0 < q.length := List.length_pos_iff.mpr hq
  unfold farM
  have h1 := gt_lt (k := (j % q.length).toNat) h h0
  have h2 : j / q.length ≤ -1 := by
    have : j / (q.length : Int) < 0 := Int.ediv_neg_of_neg_of_pos (by omega) (by omega)
    omega
  have h3 : j / q.length * (n : Int) ≤ -1 * (n : Int) := Int.mul_le_mul_of_nonneg_right h2 (by omega)
  omega
section
variable {P : Plan} {c d : List Nat}
def lbE (rg ql : D) (kind cell num : Int) : En := [some (.v rg), some (.v ql), some (.v (.int kind)), some (.v (.int cell)), some (.v (.int num))]
theorem v_last_below (hP : P.Ok) (f sp : Nat) (hs1 : 1 ≤ sp) (hsp : sp ≤ 1000) {q : List Nat} (hq : q ≠ []) (hl : q.length ≤ 100) (hlt : ∀ x ∈ q, x < P.n) (kind cell : Int) (hk : 0 ≤ kind ∧ kind ≤ 1000) (hce : 0 ≤ cell) : ∃ i : Int, p_Ring_last_below [rD P c d f sp, .lst (q.map natD), .int kind, .int cell] = .ok (.int i) := by
  have hlo := hP.lo
  have hi := hP.hi
  have r1 := rf_plan P.D (.str (S c)) (.lst ((placesM P c).map natD)) (.lst ((placesM P d).map natD)) (natD f) (natD sp)
  have r6 := rf_step P.D (.str (S c)) (.lst ((placesM P c).map natD)) (.lst ((placesM P d).map natD)) (natD f) (natD sp)
  rw [show ringD P.D (.str (S c)) (.lst ((placesM P c).map natD)) (.lst ((placesM P d).map natD)) (natD f) (natD sp) = rD P c d f sp from rfl] at r1 r6
  have e1 : gIx P.D (.int 1) = .ok (.int P.n) := by unfold Plan.D; simp
  have e2 : gLen [.lst (q.map natD)] = .ok (.int q.length) := by rw [len_lst, List.length_map]
  have e3 : gMul (.int 3) (.int q.length) = .ok (.int (3 * q.length)) := mul_small _ _ (by omega)
  have e4 : ∀ num : Int, gMul (.int num) (natD sp) = .ok (.int (num * sp)) := fun num => mul_small2 _ _ (by omega)
  have e5 : ∀ j : Int, p_far_place [.lst (q.map natD), .int j, .int P.n] = .ok (.int (farM q P.n j)) := fun j => v_far q P.n j hq (by omega) (by omega)
  have e6 : ∀ num : Int, num ≤ -2000 → farM q P.n (kind + num * sp) ≤ cell := fun num h => by
    have h3 : num * (sp : Int) ≤ -2000 * 1 := by
      have a1 : num * (sp : Int) ≤ num * 1 := Int.mul_le_mul_of_nonpos_left (by omega) (by omega)
      omega
    have := far_neg hlt (by omega) hq (j := kind + num * sp) (by omega)
    omega
  unfold p_Ring_last_below fnD
  rw [p_Ring_last_below_den_eq]
  generalize rD P c d f sp = rg at *
  generalize hql : D.lst (q.map natD) = ql at *
  have A1 : sAsg 4 (dBin gMul (dC (.int 3)) (dApp gLen (dCons (dVar 1) (dNil)))) (initE 5 [rg, ql, .int kind, .int cell]) = .next (lbE rg ql kind cell (3 * q.length)) := by
    unfold lbE
    simp -implicitDefEqProofs [initE, e2, e3]
  have T : ∀ num : Int, p_Ring_last_below_w1t (lbE rg ql kind cell num) = .ok (decide (cell < farM q P.n (kind + num * sp)), lbE rg ql kind cell num) := fun num => by
    have e4' := e4 num
    have e5' := e5 (kind + num * sp)
    unfold lbE
    rw [p_Ring_last_below_w1t]
    generalize natD sp = spd at *
    simp -implicitDefEqProofs [r1, r6, e1, e4', e5']
  have Bd : ∀ num : Int, p_Ring_last_below_w1 (lbE rg ql kind cell num) = .next (lbE rg ql kind cell (num - 1)) := fun num => by
    unfold lbE
    rw [p_Ring_last_below_w1]
    simp
  obtain ⟨e', hw, ⟨num, rfl⟩⟩ := sWhile_inv (c := p_Ring_last_below_w1t) (b := p_Ring_last_below_w1) (fun m e => ∃ num : Int, e = lbE rg ql kind cell num ∧ m = (num + 2000).toNat) (fun e => ∃ num, e = lbE rg ql kind cell num) (by
    rintro m e ⟨num, rfl, rfl⟩
    refine ⟨_, _, T num, ?_⟩
    by_cases k : cell < farM q P.n (kind + num * sp)
    · rw [decide_eq_true k, if_pos rfl]
      have : -2000 < num := by
        rcases Int.lt_or_le (-2000) num with z | z
        · exact z
        · have := e6 num z; omega
      exact ⟨_, _, by omega, .inl (Bd num), num - 1, rfl, rfl⟩
    · rw [decide_eq_false k, if_neg (by decide)]
      exact ⟨num, rfl⟩) _ (lbE rg ql kind cell (3 * q.length)) ⟨_, rfl, rfl⟩ (by omega)
  refine ⟨num, ?_⟩
  rw [e_seq, A1, s_next, e_seq, hw, s_next]
  unfold lbE
  simp
def kdE (rg : D) (found acc : List D) (kind : Nat) (x3 x4 x6 x7 : Option Sl) : En := [some (.v rg), some (.l found), some (.v (natD kind)), x3, x4, some (.l acc), x6, x7]
theorem v_kinds (hP : P.Ok) (hc : Cells P.n c) (hd : Cells P.n d) (hg : placesM P d ≠ []) (f sp : Nat) (hf : f ≤ 100) (hs1 : 1 ≤ sp) (hsp : sp ≤ (placesM P c).length) : ∃ l, p_Ring_kinds [rD P c d f sp] = .ok (.lst l) := by
  have hlo := hP.lo
  have hi := hP.hi
  have h5 := LIM_n
  have lp := places_len (P := P) (c := c)
  have lp2 := places_len (P := P) (c := d)
  have hs : placesM P c ≠ [] := fun z => by rw [z] at hsp; simp at hsp; omega
  have r1 := rf_plan P.D (.str (S c)) (.lst ((placesM P c).map natD)) (.lst ((placesM P d).map natD)) (natD f) (natD sp)
  have r2 := rf_one P.D (.str (S c)) (.lst ((placesM P c).map natD)) (.lst ((placesM P d).map natD)) (natD f) (natD sp)
  have r3 := rf_starts P.D (.str (S c)) (.lst ((placesM P c).map natD)) (.lst ((placesM P d).map natD)) (natD f) (natD sp)
  have r4 := rf_goals P.D (.str (S c)) (.lst ((placesM P c).map natD)) (.lst ((placesM P d).map natD)) (natD f) (natD sp)
  have r5 := rf_first P.D (.str (S c)) (.lst ((placesM P c).map natD)) (.lst ((placesM P d).map natD)) (natD f) (natD sp)
  have r6 := rf_step P.D (.str (S c)) (.lst ((placesM P c).map natD)) (.lst ((placesM P d).map natD)) (natD f) (natD sp)
  rw [show ringD P.D (.str (S c)) (.lst ((placesM P c).map natD)) (.lst ((placesM P d).map natD)) (natD f) (natD sp) = rD P c d f sp from rfl] at r1 r2 r3 r4 r5 r6
  have e1 : gIx P.D (.int 1) = .ok (.int P.n) := by unfold Plan.D; simp
  have b1 : ∀ kind cell : Nat, kind ≤ 100 → ∃ i : Int, p_Ring_last_below [rD P c d f sp, .lst ((placesM P d).map natD), .int ((kind : Int) + f), natD cell] = .ok (.int i) := fun kind cell hk => v_last_below hP f sp hs1 (by omega) hg (by omega) (fun x hx => (mem_places hx).1) _ _ (by omega) (by omega)
  have b2 : ∀ kind cell : Nat, kind ≤ 100 → ∃ i : Int, p_Ring_last_below [rD P c d f sp, .lst ((placesM P c).map natD), natD kind, natD cell] = .ok (.int i) := fun kind cell hk => v_last_below hP f sp hs1 (by omega) hs (by omega) (fun x hx => (mem_places hx).1) _ _ (by omega) (by omega)
  have i1 : isIns ("Ring" : Str) ("last_below" : Str) (rD P c d f sp) = true := rfl
  have hst : ∀ kind, kind < (placesM P c).length → gIx (.lst ((placesM P c).map natD)) (natD kind) = .ok (natD (gt (placesM P c) kind)) := fun kind hk => nats_ix _ _ hk
  have hmem : ∀ kind, kind < (placesM P c).length → gt (placesM P c) kind ∈ placesM P c := fun kind hk => by
    unfold gt
    rw [List.getD_eq_getElem?_getD, List.getElem?_eq_getElem hk]
    exact List.getElem_mem hk
  have hr1 : asRange [natD sp] = .ok ((List.range sp).map natD) := by rw [← intsD_eq]; exact rangeN _ (by omega)
  have hr2 : asRange [.int P.n] = .ok ((List.range P.n).map natD) := by rw [← intsD_eq]; exact rangeN _ (by omega)
  -- the inner loop's body
  have F1 : ∀ (found acc : List D) (kind cell : Nat) (x3 x4 x7 : Option Sl), kind ≤ 100 → acc.length < LIM → ∃ v y7, p_Ring_kinds_f1 (kdE (rD P c d f sp) found acc kind x3 x4 (some (.v (natD cell))) x7) = .next (kdE (rD P c d f sp) found (acc ++ [v]) kind x3 x4 (some (.v (natD cell))) y7) := fun found acc kind cell x3 x4 x7 hk ha => by
    obtain ⟨u, hu⟩ := b1 kind cell hk
    obtain ⟨v, hv⟩ := b2 kind cell hk
    unfold kdE
    rw [p_Ring_kinds_f1]
    generalize rD P c d f sp = rg at *
    generalize D.lst ((placesM P c).map natD) = st at *
    generalize D.lst ((placesM P d).map natD) = go at *
    refine ⟨.int (u - v), some (.v (.int u)), ?_⟩
    simp -implicitDefEqProofs [natD] at r5 hu hv ⊢
    simp -implicitDefEqProofs [r3, r4, r5, i1, hu, hv, ha]
  -- the outer loop's body
  have F2 : ∀ (found : List D) (kind : Nat) (x3 x4 x5 x6 x7 : Option Sl), kind < sp → found.length < LIM → ∃ v y3 y4 y5 y6 y7, p_Ring_kinds_f2 [some (.v (rD P c d f sp)), some (.l found), some (.v (natD kind)), x3, x4, x5, x6, x7] = .next [some (.v (rD P c d f sp)), some (.l (found ++ [v])), some (.v (natD kind)), y3, y4, y5, y6, y7] := fun found kind x3 x4 x5 x6 x7 hk hfo => by
    have hk2 : kind < (placesM P c).length := by omega
    have hp := hmem kind hk2
    have h1 := (mem_places hp).1
    have h2 := nx_lt h1
    have hlen := hc.len
    have h8 : gIx (.str (S c)) (.int (nx P.n (gt (placesM P c) kind) : Int)) = .ok (.str (S [gt c (nx P.n (gt (placesM P c) kind))])) := by
      rw [ix_S c _ (by omega) (by omega) (by omega), at_nat]
    have h9 : gIx (.str (S c)) (.int (gt (placesM P c) kind : Int)) = .ok (.str (S [gt c (gt (placesM P c) kind)])) := by
      rw [ix_S c _ (by omega) (by omega) (by omega), at_nat]
    have h10 := v_wp hP hc hp
    have h11 := mod_nx P.n _ h1
    have h12 := hst kind hk2
    generalize gt (placesM P c) kind = p at *
    generalize wpM P c p = wp at *
    obtain ⟨e', hl, ⟨acc, y6, y7, rfl, _⟩⟩ := forL_inv (g := gdName 6) (b := p_Ring_kinds_f1) (fun k e => ∃ acc y6 y7, e = kdE (rD P c d f sp) found acc kind (some (.v (natD p))) (some (.v (natD wp))) y6 y7 ∧ acc.length = k) ((List.range P.n).map natD) (kdE (rD P c d f sp) found [] kind (some (.v (natD p))) (some (.v (natD wp))) x6 x7) 0 ⟨[], x6, x7, rfl, rfl⟩ (by
      rintro j dj e hj ⟨acc, y6, y7, rfl, hacc⟩
      have hjl : j < P.n := by
        have := (List.getElem?_eq_some_iff.mp hj).1
        simpa using this
      have hdj : dj = natD j := by
        rw [List.getElem?_map, List.getElem?_range hjl] at hj
        exact (Option.some.inj hj).symm
      subst hdj
      obtain ⟨v, z7, hb⟩ := F1 found acc kind j (some (.v (natD p))) (some (.v (natD wp))) y7 (by omega) (by omega)
      refine ⟨kdE (rD P c d f sp) found acc kind (some (.v (natD p))) (some (.v (natD wp))) (some (.v (natD j))) y7, _, by unfold kdE; simp, .inl hb, acc ++ [v], _, z7, rfl, by simp; omega⟩)
    refine ⟨.tup [natD wp, .tup acc], some (.v (natD p)), some (.v (natD wp)), some (.v (.lst acc)), y6, y7, ?_⟩
    rw [p_Ring_kinds_f2]
    have A1 : sAsg 3 (dBin gIx (dUn (gFld ("Ring" : Str) ("starts" : Str)) (dVar 0)) (dVar 2)) [some (.v (rD P c d f sp)), some (.l found), some (.v (natD kind)), x3, x4, x5, x6, x7] = .next [some (.v (rD P c d f sp)), some (.l found), some (.v (natD kind)), some (.v (natD p)), x4, x5, x6, x7] := by
      generalize rD P c d f sp = rg at *
      generalize D.lst ((placesM P c).map natD) = st at *
      simp -implicitDefEqProofs [r3, h12]
    have A2 : sAsg 4 (dCall p_weight_of (dCons (dUn (gFld ("Ring" : Str) ("plan" : Str)) (dVar 0)) (dCons (dBin gIx (dUn (gFld ("Ring" : Str) ("one" : Str)) (dVar 0)) (dVar 3)) (dCons (dBin gIx (dUn (gFld ("Ring" : Str) ("one" : Str)) (dVar 0)) (dBin gMod (dBin gAdd (dVar 3) (dC (.int 1))) (dBin gIx (dUn (gFld ("Ring" : Str) ("plan" : Str)) (dVar 0)) (dC (.int 1))))) (dNil))))) [some (.v (rD P c d f sp)), some (.l found), some (.v (natD kind)), some (.v (natD p)), x4, x5, x6, x7] = .next [some (.v (rD P c d f sp)), some (.l found), some (.v (natD kind)), some (.v (natD p)), some (.v (natD wp)), x5, x6, x7] := by
      generalize rD P c d f sp = rg at *
      generalize P.D = pd at *
      simp -implicitDefEqProofs [natD] at h10 ⊢
      simp -implicitDefEqProofs [r1, r2, e1, h8, h9, h10, h11]
    have A3 : sAsgO 5 (oLst (dNil)) [some (.v (rD P c d f sp)), some (.l found), some (.v (natD kind)), some (.v (natD p)), some (.v (natD wp)), x5, x6, x7] = .next (kdE (rD P c d f sp) found [] kind (some (.v (natD p))) (some (.v (natD wp))) x6 x7) := by
      unfold kdE
      simp
    have A4 : iRange (dCons (dBin gIx (dUn (gFld ("Ring" : Str) ("plan" : Str)) (dVar 0)) (dC (.int 1))) (dNil)) (kdE (rD P c d f sp) found [] kind (some (.v (natD p))) (some (.v (natD wp))) x6 x7) = .ok ((List.range P.n).map natD, kdE (rD P c d f sp) found [] kind (some (.v (natD p))) (some (.v (natD wp))) x6 x7) := by
      unfold kdE
      generalize rD P c d f sp = rg at *
      generalize P.D = pd at *
      simp -implicitDefEqProofs [r1, e1, hr2]
    rw [e_seq, A1, s_next, e_seq, A2, s_next, e_seq, A3, s_next, e_seq, e_for, A4, r_toS_ok, kFor_e, hl, s_next]
    unfold kdE
    generalize rD P c d f sp = rg at *
    simp [hfo]
  obtain ⟨e', hl, ⟨found, y2, y3, y4, y5, y6, y7, rfl, _⟩⟩ := forL_inv (g := gdName 2) (b := p_Ring_kinds_f2) (fun k e => ∃ found y2 y3 y4 y5 y6 y7, e = [some (.v (rD P c d f sp)), some (.l found), y2, y3, y4, y5, y6, y7] ∧ found.length = k) ((List.range sp).map natD) [some (.v (rD P c d f sp)), some (.l []), none, none, none, none, none, none] 0 ⟨[], none, none, none, none, none, none, rfl, rfl⟩ (by
    rintro j dj e hj ⟨found, y2, y3, y4, y5, y6, y7, rfl, hfo⟩
    have hjl : j < sp := by
      have := (List.getElem?_eq_some_iff.mp hj).1
      simpa using this
    have hdj : dj = natD j := by
      rw [List.getElem?_map, List.getElem?_range hjl] at hj
      exact (Option.some.inj hj).symm
    subst hdj
    obtain ⟨v, z3, z4, z5, z6, z7, hb⟩ := F2 found j y3 y4 y5 y6 y7 hjl (by omega)
    refine ⟨_, _, rfl, .inl hb, found ++ [v], _, _, _, _, _, _, rfl, by simp; omega⟩)
  refine ⟨found, ?_⟩
  unfold p_Ring_kinds fnD
  rw [p_Ring_kinds_den_eq]
  have A1 : sAsgO 1 (oLst (dNil)) (initE 8 [rD P c d f sp]) = .next [some (.v (rD P c d f sp)), some (.l []), none, none, none, none, none, none] := by
    generalize rD P c d f sp = rg at *
    simp [initE]
  have A2 : iRange (dCons (dUn (gFld ("Ring" : Str) ("step" : Str)) (dVar 0)) (dNil)) [some (.v (rD P c d f sp)), some (.l []), none, none, none, none, none, none] = .ok ((List.range sp).map natD, [some (.v (rD P c d f sp)), some (.l []), none, none, none, none, none, none]) := by
    generalize rD P c d f sp = rg at *
    generalize natD sp = spd at *
    simp -implicitDefEqProofs [r6, hr1]
  rw [e_seq, A1, s_next, e_seq, e_for, A2, r_toS_ok, kFor_e, hl, s_next]
  simp
end
end WW
set_option Elab.async false
set_option linter.all false
set_option maxRecDepth 100000
namespace WW
open PySem PySem.Spec L2
section
variable {P : Plan} {c d : List Nat}
/-- a match that costs C -/
def IsMatch (m : D) (C : Int) : Prop := (∃ a b e, m = matchD a b e) ∧ p_Match_cost [m] = .ok (.int C)
/-- what a match costs, or that there is none -/
def RowC (P : Plan) (c d : List Nat) (o : Option Int) : Prop := o = if RowOk P c d then some (costM (rowsM P c d)) else none
def Plain (P : Plan) (c d : List Nat) : Prop := placesM P c = [] ∨ placesM P d = [] ∨ (placesM P c).length = P.n
instance : Decidable (Plain P c d) := by unfold Plain; infer_instance
def RingC (P : Plan) (c d : List Nat) (o : Option Int) : Prop :=
  if Plain P c d then o = if c = d then some 0 else none else
  match firstM (behind P c) (behind P d) with
  | none => o = none
  | some f => ∃ s, s ∈ shiftsM P c (stepM (behind P c)) ∧ (∀ t ∈ shiftsM P c (stepM (behind P c)), costS P c d ((f : Int) + s * stepM (behind P c)) ≤ costS P c d ((f : Int) + t * stepM (behind P c))) ∧ o = some (costS P c d ((f : Int) + s * stepM (behind P c)))
def MatC (P : Plan) (c d : List Nat) (o : Option Int) : Prop := if P.r = false then RowC P c d o else if P.fz ≠ [] then RowC (openP P) (unr P c) (unr P d) o else RingC P c d o
def Told (m : D) (o : Option Int) : Prop := (o = none ∧ m = .non) ∨ ∃ C, o = some C ∧ IsMatch m C
theorem row_told (hP : P.Ok) (hr : P.r = false) (hc : Cells P.n c) (hd : Cells P.n d) : ∃ m o, p_row_match [P.D, .str (S c), .str (S d)] = .ok m ∧ RowC P c d o ∧ Told m o := by
  obtain ⟨x, hx⟩ := v_row_match hP hr hc hd
  refine ⟨_, _, hx, rfl, ?_⟩
  unfold rowMD
  by_cases h : RowOk P c d
  · rw [if_pos h, if_pos h]
    refine .inr ⟨_, rfl, ⟨_, _, _, rfl⟩, v_cost _ _ _ ?_ (rows_le hP hc)⟩
    have := rows_len (P := P) (c := c) (d := d)
    have := hP.hi
    omega
  · rw [if_neg h, if_neg h]
    exact .inl ⟨rfl, rfl⟩
theorem eq_S (c d : List Nat) : gEq (.str (S c)) (.str (S d)) = .ok (.bl (decide (c = d))) := by
  rw [eq_str]
  congr 2
  exact decide_eq_decide.mpr (S_inj c d)
theorem first_lt {m t : List Nat} {f : Nat} (h : firstM m t = some f) : m.length = t.length ∧ f < t.length ∧ rot f t = m ∧ ∀ g, g < t.length → rot g t = m → f ≤ g := by
  unfold firstM at h
  by_cases k : m.length = t.length
  · rw [if_pos k] at h
    unfold somM at h
    have hmem : f ∈ (List.range t.length).filter fun k => decide (rot k t = m) := List.mem_of_mem_head? h
    obtain ⟨h1, h2⟩ := List.mem_filter.mp hmem
    refine ⟨k, List.mem_range.mp h1, of_decide_eq_true h2, fun g hg hrot => ?_⟩
    have hp : ((List.range t.length).filter fun k => decide (rot k t = m)).Pairwise (· < ·) := List.Pairwise.filter _ List.pairwise_lt_range
    have hg2 : g ∈ (List.range t.length).filter fun k => decide (rot k t = m) := List.mem_filter.mpr ⟨List.mem_range.mpr hg, decide_eq_true hrot⟩
    cases q : (List.range t.length).filter fun k => decide (rot k t = m) with
    | nil => rw [q] at hg2; cases hg2
    | cons a l =>
      rw [q] at h hp hg2
      injection h with h
      subst h
      rcases List.mem_cons.mp hg2 with rfl | hg2
      · exact Nat.le_refl _
      · exact Nat.le_of_lt ((List.pairwise_cons.mp hp).1 g hg2)
  · rw [if_neg k] at h
    cases h
theorem nil_eq_natl (l : List Nat) : decide (l = []) = l.isEmpty := by cases l <;> rfl
theorem beh_len : (behind P c).length = (placesM P c).length := by unfold behind; rw [List.length_map]
theorem step_ok (h : placesM P c ≠ []) : 1 ≤ stepM (behind P c) ∧ stepM (behind P c) ≤ (placesM P c).length ∧ rot (stepM (behind P c)) (behind P c) = behind P c := by
  have hb : behind P c ≠ [] := fun z => h (by
    have := congrArg List.length z
    rw [beh_len] at this
    exact List.eq_nil_of_length_eq_zero this)
  obtain ⟨r, _, h2, h3, h4⟩ := perM_ok hb
  unfold stepM
  rw [if_neg hb, ← beh_len]
  exact ⟨h2, h3, h4⟩
theorem ring_told (hP : P.Ok) (hc : Cells P.n c) (hd : Cells P.n d) : ∃ m o, p_ring_match [P.D, .str (S c), .str (S d)] = .ok m ∧ RingC P c d o ∧ Told m o := by
  have h5 := LIM_n
  have hi := hP.hi
  have lp := places_len (P := P) (c := c)
  have lp2 := places_len (P := P) (c := d)
  have v0 := v_Ring_init hP hc hd
  have vm := insOf ("Ring" : Str) rgN [.v P.D, .v (.str (S c)), .v (.lst ((placesM P c).map natD)), .v (.lst ((placesM P d).map natD)), .v (optK (firstM (behind P c) (behind P d))), .v (natD (stepM (behind P c)))]
  have hins : insOf ("Ring" : Str) rgN [.v P.D, .v (.str (S c)), .v (.lst ((placesM P c).map natD)), .v (.lst ((placesM P d).map natD)), .v (optK (firstM (behind P c) (behind P d))), .v (natD (stepM (behind P c)))] = .ok (ringD P.D (.str (S c)) (.lst ((placesM P c).map natD)) (.lst ((placesM P d).map natD)) (optK (firstM (behind P c) (behind P d))) (natD (stepM (behind P c)))) := rfl
  have hRd : ∀ f, optK (firstM (behind P c) (behind P d)) = natD f → ringD P.D (.str (S c)) (.lst ((placesM P c).map natD)) (.lst ((placesM P d).map natD)) (optK (firstM (behind P c) (behind P d))) (natD (stepM (behind P c))) = rD P c d f (stepM (behind P c)) := fun f hf => by rw [hf]; rfl
  have r3 := rf_starts P.D (.str (S c)) (.lst ((placesM P c).map natD)) (.lst ((placesM P d).map natD)) (optK (firstM (behind P c) (behind P d))) (natD (stepM (behind P c)))
  have r4 := rf_goals P.D (.str (S c)) (.lst ((placesM P c).map natD)) (.lst ((placesM P d).map natD)) (optK (firstM (behind P c) (behind P d))) (natD (stepM (behind P c)))
  have r5 := rf_first P.D (.str (S c)) (.lst ((placesM P c).map natD)) (.lst ((placesM P d).map natD)) (optK (firstM (behind P c) (behind P d))) (natD (stepM (behind P c)))
  have q1 := eq_nats_nil (placesM P c)
  have q2 := eq_nats_nil (placesM P d)
  have q3 := eq_S c d
  have e0 : gLen [.lst ((placesM P c).map natD)] = .ok (.int (placesM P c).length) := by rw [len_lst, List.length_map]
  have e1 : gIx P.D (.int 1) = .ok (.int P.n) := by unfold Plan.D; simp
  have hm0 := v_Match_init (.lst []) (.lst []) (.int 0)
  have hm1 := match_made (.lst []) (.lst []) (.int 0)
  have hc0 : p_Match_cost [matchD (.lst []) (.lst []) (.int 0)] = .ok (.int 0) := v_cost [] _ _ (by simp) (fun r hr => by cases hr)
  have B : ∀ f, firstM (behind P c) (behind P d) = some f → ¬ Plain P c d → ∃ s l, s ∈ shiftsM P c (stepM (behind P c)) ∧ (∀ t ∈ shiftsM P c (stepM (behind P c)), costS P c d ((f : Int) + s * stepM (behind P c)) ≤ costS P c d ((f : Int) + t * stepM (behind P c))) ∧ p_Ring_best [rD P c d f (stepM (behind P c))] = .ok (.int s) ∧ p_Ring_by_shift [rD P c d f (stepM (behind P c)), .int s] = .ok (.lst ((bysL P c d (placesM P c) ((f : Int) + s * stepM (behind P c))).map rowD)) ∧ p_Ring_kinds [rD P c d f (stepM (behind P c))] = .ok (.lst l) := fun f hf hn => by
    have hs : placesM P c ≠ [] := fun z => hn (.inl z)
    have hg : placesM P d ≠ [] := fun z => hn (.inr (.inl z))
    obtain ⟨s1, s2, _⟩ := step_ok hs
    obtain ⟨f1, f2, _⟩ := first_lt hf
    rw [beh_len] at f2
    obtain ⟨s, k1, k2, k3⟩ := v_best (d := d) hP hc hg f (stepM (behind P c)) s1 (by omega)
    obtain ⟨l, hl⟩ := v_kinds (d := d) hP hc hd hg f (stepM (behind P c)) (by omega) s1 s2
    exact ⟨s, l, k1, k2, k3, v_by_shift hP hc hg f _ (by omega) s, hl⟩
  have vc : ∀ j x y, p_Match_cost [matchD (.lst ((bysL P c d (placesM P c) j).map rowD)) x y] = .ok (.int (costS P c d j)) := fun j x y => v_costS hP hc j x y
  unfold p_ring_match fnD
  rw [p_ring_match_den]
  have A1 : sAsg 3 (dFrzO (oMake ("Ring" : Str) p_Ring___init__ (dCons (dVar 0) (dCons (dVar 1) (dCons (dVar 2) (dNil)))))) (initE 5 [P.D, .str (S c), .str (S d)]) = .next [some (.v P.D), some (.v (.str (S c))), some (.v (.str (S d))), some (.v (ringD P.D (.str (S c)) (.lst ((placesM P c).map natD)) (.lst ((placesM P d).map natD)) (optK (firstM (behind P c) (behind P d))) (natD (stepM (behind P c))))), none] := by
    generalize ringD P.D (.str (S c)) (.lst ((placesM P c).map natD)) (.lst ((placesM P d).map natD)) (optK (firstM (behind P c) (behind P d))) (natD (stepM (behind P c))) = rg at *
    generalize P.D = pd at *
    simp -implicitDefEqProofs [initE, v0, hins]
  rw [e_seq, A1, s_next]
  have T1 : dOr (dTest (dBin gEq (dUn (gFld ("Ring" : Str) ("starts" : Str)) (dVar 3)) (dFrz (oLst (dNil))))) (dOr (dTest (dBin gEq (dUn (gFld ("Ring" : Str) ("goals" : Str)) (dVar 3)) (dFrz (oLst (dNil))))) (dTest (dBin gEq (dApp gLen (dCons (dUn (gFld ("Ring" : Str) ("starts" : Str)) (dVar 3)) (dNil))) (dBin gIx (dVar 0) (dC (.int 1)))))) [some (.v P.D), some (.v (.str (S c))), some (.v (.str (S d))), some (.v (ringD P.D (.str (S c)) (.lst ((placesM P c).map natD)) (.lst ((placesM P d).map natD)) (optK (firstM (behind P c) (behind P d))) (natD (stepM (behind P c))))), none] = .ok (decide (Plain P c d), [some (.v P.D), some (.v (.str (S c))), some (.v (.str (S d))), some (.v (ringD P.D (.str (S c)) (.lst ((placesM P c).map natD)) (.lst ((placesM P d).map natD)) (optK (firstM (behind P c) (behind P d))) (natD (stepM (behind P c))))), none]) := by
    have z1 := nil_eq_natl (placesM P c)
    have z2 := nil_eq_natl (placesM P d)
    have z3 : decide (((placesM P c).length : Int) = (P.n : Int)) = decide ((placesM P c).length = P.n) := decide_eq_decide.mpr (by omega)
    have zp : decide (Plain P c d) = ((placesM P c).isEmpty || ((placesM P d).isEmpty || decide ((placesM P c).length = P.n))) := by
      rw [Bool.eq_iff_iff, decide_eq_true_iff]
      simp [Plain]
    rw [zp]
    generalize ringD P.D (.str (S c)) (.lst ((placesM P c).map natD)) (.lst ((placesM P d).map natD)) (optK (firstM (behind P c) (behind P d))) (natD (stepM (behind P c))) = rg at *
    generalize D.lst ((placesM P c).map natD) = st at *
    generalize D.lst ((placesM P d).map natD) = go at *
    generalize P.D = pd at *
    cases k1 : (placesM P c).isEmpty with
    | true =>
      rw [k1] at q1
      simp -implicitDefEqProofs [r3, q1]
    | false =>
      rw [k1] at q1
      cases k2 : (placesM P d).isEmpty with
      | true =>
        rw [k2] at q2
        simp -implicitDefEqProofs [r3, r4, q1, q2]
      | false =>
        rw [k2] at q2
        simp -implicitDefEqProofs [r3, r4, q1, q2, e0, e1, z3]
  rw [e_seq, e_if, T1, r_toS_ok]
  by_cases hp : Plain P c d
  · rw [decide_eq_true hp, kIf_t]
    by_cases hcd : c = d
    · refine ⟨matchD (.lst []) (.lst []) (.int 0), some 0, ?_, by unfold RingC; rw [if_pos hp, if_pos hcd], .inr ⟨0, rfl, ⟨_, _, _, rfl⟩, hc0⟩⟩
      rw [decide_eq_true hcd] at q3
      generalize ringD P.D (.str (S c)) (.lst ((placesM P c).map natD)) (.lst ((placesM P d).map natD)) (optK (firstM (behind P c) (behind P d))) (natD (stepM (behind P c))) = rg at *
      generalize P.D = pd at *
      generalize D.str (S c) = cc at *
      generalize D.str (S d) = dd at *
      simp -implicitDefEqProofs [q3, hm0, hm1]
    · refine ⟨.non, none, ?_, by unfold RingC; rw [if_pos hp, if_neg hcd], .inl ⟨rfl, rfl⟩⟩
      rw [decide_eq_false hcd] at q3
      generalize ringD P.D (.str (S c)) (.lst ((placesM P c).map natD)) (.lst ((placesM P d).map natD)) (optK (firstM (behind P c) (behind P d))) (natD (stepM (behind P c))) = rg at *
      generalize P.D = pd at *
      generalize D.str (S c) = cc at *
      generalize D.str (S d) = dd at *
      simp -implicitDefEqProofs [q3]
  · rw [decide_eq_false hp, kIf_f, e_next, s_next]
    cases hf : firstM (behind P c) (behind P d) with
    | none =>
      refine ⟨.non, none, ?_, by unfold RingC; rw [if_neg hp, hf], .inl ⟨rfl, rfl⟩⟩
      rw [hf] at r5
      generalize ringD P.D (.str (S c)) (.lst ((placesM P c).map natD)) (.lst ((placesM P d).map natD)) (optK none) (natD (stepM (behind P c))) = rg at *
      generalize P.D = pd at *
      simp -implicitDefEqProofs [r5, optK]
    | some f =>
      obtain ⟨s, l, k1, k2, k3, k4, k5⟩ := B f hf hp
      refine ⟨matchD (.lst ((bysL P c d (placesM P c) ((f : Int) + s * stepM (behind P c))).map rowD)) (.lst l) (.int s), some (costS P c d ((f : Int) + s * stepM (behind P c))), ?_, by unfold RingC; rw [if_neg hp, hf]; exact ⟨s, k1, k2, rfl⟩, .inr ⟨_, rfl, ⟨_, _, _, rfl⟩, vc _ _ _⟩⟩
      have hm2 := v_Match_init (.lst ((bysL P c d (placesM P c) ((f : Int) + s * stepM (behind P c))).map rowD)) (.lst l) (.int s)
      have hm3 := match_made (.lst ((bysL P c d (placesM P c) ((f : Int) + s * stepM (behind P c))).map rowD)) (.lst l) (.int s)
      have i1 : isIns ("Ring" : Str) ("best" : Str) (rD P c d f (stepM (behind P c))) = true := rfl
      have i2 : isIns ("Ring" : Str) ("by_shift" : Str) (rD P c d f (stepM (behind P c))) = true := rfl
      have i3 : isIns ("Ring" : Str) ("kinds" : Str) (rD P c d f (stepM (behind P c))) = true := rfl
      rw [hf] at r5
      have er := hRd f (by rw [hf]; rfl)
      rw [hf] at er
      rw [er] at r5 ⊢
      have r5' : gFld ("Ring" : Str) ("first" : Str) (rD P c d f (stepM (behind P c))) = .ok (.int f) := r5
      generalize rD P c d f (stepM (behind P c)) = rg at *
      generalize D.lst ((bysL P c d (placesM P c) ((f : Int) + s * stepM (behind P c))).map rowD) = rows at *
      generalize P.D = pd at *
      simp -implicitDefEqProofs [r5', i1, i2, i3, k3, k4, k5, hm2, hm3]
theorem v_match_of (hP : P.Ok) (h12 : P.n ≤ 12) (hc : Cells P.n c) (hd : Cells P.n d) : ∃ m o, p_match_of [P.D, .str (S c), .str (S d)] = .ok m ∧ MatC P c d o ∧ Told m o := by
  unfold p_match_of fnD
  rw [p_match_of_den]
  have e0 : gIx P.D (.int 0) = .ok (.bl P.r) := by unfold Plan.D; simp
  have e2 : gIx P.D (.int 2) = .ok (.tup (P.fz.map natD)) := by unfold Plan.D; simp
  have e3 : gEq (.tup (P.fz.map natD)) (.tup []) = .ok (.bl P.fz.isEmpty) := by
    have hn : ∀ d ∈ P.fz.map natD, Nice 0 d := fun d hd => by
      obtain ⟨f, _, rfl⟩ := List.mem_map.mp hd
      exact nice_int 0 _
    show (if (D.tup (P.fz.map natD)).fit = true ∧ (D.tup []).fit = true then R.ok (D.bl (PyData.eqv (D.tup (P.fz.map natD)).py (D.tup []).py)) else .bad) = _
    rw [if_pos ⟨(nice_tup hn).fit (by omega), (nice_tup (k := 0) (l := []) (fun d z => by cases z)).fit (by omega)⟩]
    congr 2
    cases P.fz <;> rfl
  cases hr : P.r with
  | false =>
    obtain ⟨m, o, h1, h2, h3⟩ := row_told hP hr hc hd
    refine ⟨m, o, ?_, by unfold MatC; rw [if_pos hr]; exact h2, h3⟩
    rw [hr] at e0
    generalize P.D = pd at *
    simp -implicitDefEqProofs [initE, e0, h1]
  | true =>
    rw [hr] at e0
    by_cases hf : P.fz = []
    · obtain ⟨m, o, h1, h2, h3⟩ := ring_told hP hc hd
      refine ⟨m, o, ?_, by unfold MatC; rw [if_neg (by rw [hr]; decide), if_neg (fun z => z hf)]; exact h2, h3⟩
      rw [hf] at e3
      rw [hf] at e2
      generalize P.D = pd at *
      have e3' : gEq (.tup []) (.tup []) = .ok (.bl true) := e3
      simp -implicitDefEqProofs [initE, e0, e2, e3', h1]
    · have u1 := v_opened hP hf
      have u2 := v_unrolled hP hf hc
      have u3 := v_unrolled hP hf hd
      obtain ⟨m, o, h1, h2, h3⟩ := row_told (openP_ok hP h12) rfl (unr_cells hP hf hc) (unr_cells hP hf hd)
      refine ⟨m, o, ?_, by unfold MatC; rw [if_neg (by rw [hr]; decide), if_pos hf]; exact h2, h3⟩
      have e3' : gEq (.tup (P.fz.map natD)) (.tup []) = .ok (.bl false) := by
        rw [e3]
        cases q : P.fz with
        | nil => exact absurd q hf
        | cons _ _ => rfl
      generalize (openP P).D = od at *
      generalize P.D = pd at *
      generalize D.tup (P.fz.map natD) = fd at *
      simp -implicitDefEqProofs [initE, e0, e2, e3', u1, u2, u3, h1]
end
end WW
set_option Elab.async false
set_option linter.all false
set_option maxRecDepth 100000
namespace WW
open PySem PySem.Spec L2
/-! what a match costs, wall by wall -/
section
variable {P : Plan} {c d : List Nat}
def cst (P : Plan) (c : List Nat) (Q : Int → Int) : List Nat → Int → Int
  | [], _ => 0
  | p :: l, j => (wpM P c p : Int) * absI (Q j - p) + cst P c Q l (j + 1)
theorem costM_cons (r : Nat × Int × Int) (l : List (Nat × Int × Int)) : costM (r :: l) = costR r + costM l := by
  unfold costM
  rw [List.map_cons, List.sum_cons]
theorem bys_cst : ∀ (l : List Nat) (j : Int), costM (bysL P c d l j) = cst P c (farM (placesM P d) P.n) l j
  | [], _ => rfl
  | p :: l, j => by
    show costM ((wpM P c p, (p : Int), farM (placesM P d) P.n j) :: bysL P c d l (j + 1)) = _
    rw [costM_cons, bys_cst l (j + 1)]
    rfl
theorem gt_cons (a : Nat) (l : List Nat) (k : Nat) : gt (a :: l) (k + 1) = gt l k := rfl
theorem zip_cst : ∀ (l m q : List Nat) (k : Nat), l.length = m.length → (∀ i, i < m.length → gt m i = gt q (k + i)) → costM ((l.zip m).map fun p => (wpM P c p.1, (p.1 : Int), (p.2 : Int))) = cst P c (fun j => (gt q j.toNat : Int)) l k
  | [], _, _, _, _, _ => rfl
  | _ :: _, [], _, _, h, _ => by cases h
  | p :: l, x :: m, q, k, h, hq => by
    rw [List.zip_cons_cons, List.map_cons, costM_cons]
    have ih := zip_cst l m q (k + 1) (Nat.succ.inj h) fun i hi => by
      have := hq (i + 1) (by rw [List.length_cons]; omega)
      rw [gt_cons] at this
      rw [this]
      congr 1
      omega
    rw [ih]
    have h0 := hq 0 (by rw [List.length_cons]; omega)
    have h0' : x = gt q k := h0
    show costR (wpM P c p, (p : Int), (x : Int)) + _ = (wpM P c p : Int) * absI ((gt q ((k : Int)).toNat : Int) - p) + cst P c _ l ((k : Int) + 1)
    rw [Int.toNat_natCast, ← h0']
    rfl
def rowQ (P : Plan) (d : List Nat) : Int → Int := fun j => (gt (placesM P d) j.toNat : Int)
theorem rows_cst (h : (placesM P c).length = (placesM P d).length) : costM (rowsM P c d) = cst P c (rowQ P d) (placesM P c) 0 :=
  zip_cst _ _ _ 0 h fun i _ => by rw [Nat.zero_add]
theorem cst_app (Q : Int → Int) : ∀ (a b : List Nat) (j : Int), cst P c Q (a ++ b) j = cst P c Q a j + cst P c Q b (j + a.length)
  | [], b, j => by
    show cst P c Q b j = 0 + cst P c Q b (j + (0 : Nat))
    rw [show j + ((0 : Nat) : Int) = j by omega]
    omega
  | p :: a, b, j => by
    show (wpM P c p : Int) * absI (Q j - p) + cst P c Q (a ++ b) (j + 1) = (wpM P c p : Int) * absI (Q j - p) + cst P c Q a (j + 1) + cst P c Q b (j + ((a.length + 1 : Nat) : Int))
    rw [cst_app Q a b (j + 1), show j + 1 + (a.length : Int) = j + ((a.length + 1 : Nat) : Int) by omega]
    omega
theorem cst_same {c' : List Nat} (Q : Int → Int) : ∀ (l : List Nat) (j : Int), (∀ p ∈ l, wpM P c' p = wpM P c p) → cst P c' Q l j = cst P c Q l j
  | [], _, _ => rfl
  | p :: l, j, h => by
    show (wpM P c' p : Int) * absI (Q j - p) + cst P c' Q l (j + 1) = (wpM P c p : Int) * absI (Q j - p) + cst P c Q l (j + 1)
    rw [h p List.mem_cons_self, cst_same Q l (j + 1) fun q hq => h q (List.mem_cons_of_mem _ hq)]
theorem cst_nonneg (Q : Int → Int) : ∀ (l : List Nat) (j : Int), 0 ≤ cst P c Q l j
  | [], _ => Int.le_refl _
  | p :: l, j => by
    have h := cst_nonneg Q l (j + 1)
    have h2 : 0 ≤ (wpM P c p : Int) * absI (Q j - p) := Int.mul_nonneg (by omega) (by unfold absI; split <;> omega)
    show 0 ≤ (wpM P c p : Int) * absI (Q j - p) + cst P c Q l (j + 1)
    omega
theorem cst_zero (hw : ∀ p ∈ placesM P c, 1 ≤ wpM P c p) (Q : Int → Int) : ∀ (l : List Nat) (j : Int), (∀ p ∈ l, p ∈ placesM P c) → cst P c Q l j = 0 → ∀ i, i < l.length → Q (j + i) = gt l i
  | [], _, _, _, i, hi => by cases hi
  | p :: l, j, hl, h, i, hi => by
    have h1 := cst_nonneg (P := P) (c := c) Q l (j + 1)
    have hwp := hw p (hl p List.mem_cons_self)
    have h2 : 0 ≤ absI (Q j - p) := by unfold absI; split <;> omega
    have h3 : (wpM P c p : Int) * absI (Q j - p) + cst P c Q l (j + 1) = 0 := h
    have h4 : absI (Q j - p) ≤ (wpM P c p : Int) * absI (Q j - p) := by
      have := Int.mul_le_mul_of_nonneg_right (show (1 : Int) ≤ wpM P c p by omega) h2
      omega
    cases i with
    | zero =>
      show Q (j + (0 : Nat)) = (p : Int)
      rw [show j + ((0 : Nat) : Int) = j by omega]
      have h5 : absI (Q j - p) = 0 := by omega
      unfold absI at h5
      split at h5 <;> omega
    | succ i =>
      have ih := cst_zero hw Q l (j + 1) (fun q hq => hl q (List.mem_cons_of_mem _ hq)) (by omega) i (by rw [List.length_cons] at hi; omega)
      rw [gt_cons, ← ih]
      congr 1
      omega
/-- a wall that goes one step: nearer or farther by its weight -/
theorem abs_step (x u v : Int) (h : v = u + 1 ∨ u = v + 1) : absI (x - v) = absI (x - u) - 1 ∨ absI (x - v) = absI (x - u) + 1 := by
  unfold absI
  split <;> split <;> omega
theorem abs_near (x u v : Int) (h : (v = u + 1 ∧ u < x) ∨ (u = v + 1 ∧ x < u)) : absI (x - v) = absI (x - u) - 1 := by
  unfold absI
  split <;> split <;> omega
/-- one wall of the list goes from u to v -/
theorem cst_move {c' : List Nat} (Q : Int → Int) (A B : List Nat) (u v : Nat) (j : Int) (hA : ∀ p, p ∈ A ∨ p ∈ B → wpM P c' p = wpM P c p) (hw : wpM P c' v = wpM P c u) :
    cst P c' Q (A ++ v :: B) j = cst P c Q (A ++ u :: B) j + (wpM P c u : Int) * (absI (Q (j + A.length) - v) - absI (Q (j + A.length) - u)) := by
  rw [cst_app, cst_app, cst_same Q A j fun p hp => hA p (.inl hp)]
  show cst P c Q A j + ((wpM P c' v : Int) * absI (Q (j + A.length) - v) + cst P c' Q B (j + A.length + 1)) = cst P c Q A j + ((wpM P c u : Int) * absI (Q (j + A.length) - u) + cst P c Q B (j + A.length + 1)) + _
  rw [cst_same Q B _ fun p hp => hA p (.inr hp), hw, Int.mul_sub]
  omega
end
end WW
set_option Elab.async false
set_option linter.all false
set_option maxRecDepth 100000
namespace WW
open PySem PySem.Spec L2
/-! a turn moves one wall over one cell -/
theorem wM_comm (P : Plan) (a b : Nat) : wM P a b = wM P b a := by
  unfold wM pairIx
  rw [Nat.min_comm, Nat.max_comm]
structure Mv (P : Plan) (c d : List Nat) (u v : Nat) : Prop extends Step P.n c d u v where
  ul : u < lastM P
  vl : v < lastM P
  keep : ∀ p, p < P.n → p ≠ u → p ≠ v → gt d p = gt c p
  ah : gt d v = gt c u
section
variable {P : Plan} {c d : List Nat} {k : Nat}
theorem turn_mv (hP : P.Ok) (hc : Cells P.n c) (hk : k < P.n) {s : Nat} (h : turnM P c k = some s) : (Mv P c (c.set k s) k (prev P.n k) ∨ Mv P c (c.set k s) (prev P.n k) k) ∧ k ∉ P.fz ∧ (P.r = false → 0 < k ∧ k + 1 < P.n) := by
  have h3 := hP.lo
  obtain ⟨hz, hnr, h4, h5⟩ := turnM_some h
  have h8 : ∀ i, gt (c.set k s) i = if i = k then s else gt c i := fun i => gt_set c k s i (by rw [hc.len]; exact hk)
  have hpk : prev P.n k ≠ k := by unfold prev; split <;> omega
  have hnk : nx P.n k ≠ k := by unfold nx; split <;> omega
  have hne : gt c (prev P.n k) ≠ gt c (nx P.n k) := by
    rcases h5 with ⟨z1, z2⟩ | ⟨z1, z2⟩
    · rw [← z1, ← z2]; exact Ne.symm h4
    · rw [← z1, ← z2]; exact h4
  have hrow : P.r = false → 0 < k ∧ k + 1 < P.n := fun hr => by
    have hh : ¬ (k = 0 ∨ k = P.n - 1) := fun z => hnr ⟨hr, z⟩
    omega
  have hl : k < lastM P ∧ prev P.n k < lastM P := by
    unfold lastM
    cases hr : P.r with
    | true => rw [if_pos rfl]; exact ⟨hk, prev_lt hk⟩
    | false =>
      rw [if_neg (by decide)]
      have := hrow hr
      unfold prev
      rw [if_neg (by omega)]
      omega
  refine ⟨?_, hz, hrow⟩
  rcases turn_step hc h3 hk h with hs | hs
  · refine .inl { hs with ul := hl.1, vl := hl.2, keep := fun p _ h1 _ => by rw [h8, if_neg h1], ah := ?_ }
    have nv := hs.nv
    unfold wallM at nv
    rw [nx_prev hk] at nv
    simp at nv
    rw [h8, if_neg hpk]
    exact nv
  · refine .inr { hs with ul := hl.2, vl := hl.1, keep := fun p _ _ h1 => by rw [h8, if_neg h1], ah := ?_ }
    rw [h8, if_pos rfl]
    rcases h5 with ⟨z1, z2⟩ | ⟨z1, z2⟩
    · have w := hs.wu
      unfold wallM at w
      rw [nx_prev hk] at w
      simp at w
      exact absurd z1.symm w
    · exact z2
theorem Mv.wp {u v : Nat} (m : Mv P c d u v) : wpM P d v = wpM P c u := by
  unfold wpM
  rw [m.ah, m.sg]
theorem Mv.wo {u v : Nat} (m : Mv P c d u v) {p : Nat} (hp : p < P.n) (h1 : p ≠ u) (h2 : p ≠ v) : wpM P d p = wpM P c p := by
  unfold wpM
  rw [m.keep p hp h1 h2, (m.oth p hp h1 h2).2]
/-- what a turn weighs -/
theorem turn_w (hP : P.Ok) (hc : Cells P.n c) (hk : k < P.n) {s : Nat} (h : turnM P c k = some s) {u v : Nat} (huv : (u = k ∧ v = prev P.n k) ∨ (u = prev P.n k ∧ v = k)) (m : Mv P c (c.set k s) u v) : wpM P c u = wM P (gt c k) s := by
  have h8 : ∀ i, gt (c.set k s) i = if i = k then s else gt c i := fun i => gt_set c k s i (by rw [hc.len]; exact hk)
  have h3 := hP.lo
  have hpk : prev P.n k ≠ k := by unfold prev; split <;> omega
  have hnk : nx P.n k ≠ k := by unfold nx; split <;> omega
  have nu := m.nu
  unfold wallM at nu
  simp at nu
  unfold wpM
  rcases huv with ⟨rfl, rfl⟩ | ⟨rfl, rfl⟩
  · rw [h8, if_pos rfl, h8, if_neg hnk] at nu
    rw [← nu]
  · rw [nx_prev hk] at nu ⊢
    rw [h8, if_neg hpk, h8, if_pos rfl] at nu
    rw [nu, wM_comm]
/-- where a wall is and beside it none, there is a turn -/
theorem turn_ex (hk : k < P.n) (hz : k ∉ P.fz) (hr : ¬ (P.r = false ∧ (k = 0 ∨ k = P.n - 1))) (hw : wallM P.n c (prev P.n k) ≠ wallM P.n c k) : ∃ s, turnM P c k = some s := by
  have hn := nx_prev hk
  unfold wallM at hw
  rw [hn] at hw
  unfold turnM
  by_cases h1 : gt c (prev P.n k) = gt c k
  · have h2 : gt c k ≠ gt c (nx P.n k) := fun z => hw (by rw [h1, z])
    rw [if_neg (by
      intro z
      rcases z with z | z | z
      · exact hz z
      · exact hr z
      · exact h2 (h1.symm.trans z))]
    rw [if_pos h1.symm]
    exact ⟨_, rfl⟩
  · have h2 : gt c k = gt c (nx P.n k) := by
      rcases Nat.decEq (gt c k) (gt c (nx P.n k)) with z | z
      · exact absurd (by simp [h1, z]) hw
      · exact z
    rw [if_neg (by
      intro z
      rcases z with z | z | z
      · exact hz z
      · exact hr z
      · exact h1 (z.trans h2.symm))]
    rw [if_neg (Ne.symm h1), if_pos h2]
    exact ⟨_, rfl⟩
/-- the order of the walls when one goes from u to v inside -/
theorem mv_in {u v : Nat} (m : Mv P c d u v) (ha : u + 1 = v ∨ v + 1 = u) : ∃ A B, placesM P c = A ++ u :: B ∧ placesM P d = A ++ v :: B ∧ (∀ p ∈ A, p < u ∧ p < v) ∧ (∀ p ∈ B, u < p ∧ v < p) ∧ behind P d = behind P c ∧ ∀ p, p ∈ A ∨ p ∈ B → wpM P d p = wpM P c p := by
  obtain ⟨A, B, e1, e2, e3, e4, e5⟩ := step_in m.toStep lastM_le ha m.ul m.vl
  refine ⟨A, B, e1, e2, e3, e4, ?_, fun p hp => ?_⟩
  · unfold behind placesM
    rw [e1, e2, List.map_append, List.map_append, List.map_cons, List.map_cons, m.sg]
    rw [List.map_congr_left fun p hp => e5 p (.inl hp), List.map_congr_left (l := B) fun p hp => e5 p (.inr hp)]
  · have hmem : p ∈ placesM P c := by
      unfold placesM
      rw [e1]
      rcases hp with hp | hp
      · exact List.mem_append.mpr (.inl hp)
      · exact List.mem_append.mpr (.inr (List.mem_cons_of_mem _ hp))
    have hne : p ≠ u ∧ p ≠ v := by
      rcases hp with hp | hp
      · have := e3 p hp; omega
      · have := e4 p hp; omega
    exact m.wo (mem_places hmem).1 hne.1 hne.2
end
end WW
set_option Elab.async false
set_option linter.all false
set_option maxRecDepth 100000
namespace WW
open PySem PySem.Spec L2
/-! rows: a turn changes the cost by its weight; some turn lowers it; no cost: the same row -/
def Rise (l : List Nat) : Prop := l.Pairwise (· < ·)
theorem gt_get {l : List Nat} {i : Nat} (h : i < l.length) : gt l i = l[i] := by
  unfold gt
  rw [List.getD_eq_getElem?_getD, List.getElem?_eq_getElem h]
  rfl
theorem gt_mem {l : List Nat} {i : Nat} (h : i < l.length) : gt l i ∈ l := by
  rw [gt_get h]
  exact List.getElem_mem h
theorem mem_gt {l : List Nat} {x : Nat} (h : x ∈ l) : ∃ i, i < l.length ∧ gt l i = x := by
  obtain ⟨i, hi, rfl⟩ := List.getElem_of_mem h
  exact ⟨i, hi, gt_get hi⟩
theorem Rise.lt {l : List Nat} (h : Rise l) {i j : Nat} (hij : i < j) (hj : j < l.length) : gt l i < gt l j := by
  rw [gt_get (by omega), gt_get hj]
  exact List.pairwise_iff_getElem.mp h i j (by omega) hj hij
theorem Rise.inj {l : List Nat} (h : Rise l) {i j : Nat} (hi : i < l.length) (hj : j < l.length) (e : gt l i = gt l j) : i = j := by
  rcases Nat.lt_trichotomy i j with z | z | z
  · have := h.lt z hj; omega
  · exact z
  · have := h.lt z hi; omega
theorem Rise.next {l : List Nat} (h : Rise l) {j : Nat} (hj : j < l.length) (hm : gt l j + 1 ∈ l) : j + 1 < l.length ∧ gt l (j + 1) = gt l j + 1 := by
  obtain ⟨i, hi, e⟩ := mem_gt hm
  have hij : j < i := by
    rcases Nat.lt_trichotomy i j with z | z | z
    · have := h.lt z hj; omega
    · subst z; omega
    · exact z
  refine ⟨by omega, ?_⟩
  have h1 := h.lt (show j < j + 1 by omega) (by omega)
  rcases Nat.lt_or_ge (j + 1) i with z | z
  · have := h.lt z hi; omega
  · have : i = j + 1 := by omega
    subst this
    exact e
theorem Rise.prev {l : List Nat} (h : Rise l) {j : Nat} (hj : j < l.length) (hp : 0 < gt l j) (hm : gt l j - 1 ∈ l) : 0 < j ∧ gt l (j - 1) + 1 = gt l j := by
  obtain ⟨i, hi, e⟩ := mem_gt hm
  have hij : i < j := by
    rcases Nat.lt_trichotomy i j with z | z | z
    · exact z
    · subst z; omega
    · have := h.lt z hi; omega
  refine ⟨by omega, ?_⟩
  have h1 := h.lt (show j - 1 < j by omega) hj
  rcases Nat.lt_or_ge i (j - 1) with z | z
  · have := h.lt z (by omega : j - 1 < l.length); omega
  · have : i = j - 1 := by omega
    subst this
    omega
theorem Rise.cnt : ∀ {l : List Nat}, Rise l → ∀ (f j : Nat), j < l.length → (gt l j < f ↔ j < (l.filter fun p => decide (p < f)).length)
  | [], _, _, _, h => by cases h
  | a :: l, h, f, j, hj => by
    obtain ⟨h1, h2⟩ := List.pairwise_cons.mp h
    by_cases c : a < f
    · rw [List.filter_cons, if_pos (decide_eq_true c), List.length_cons]
      cases j with
      | zero => exact ⟨fun _ => by omega, fun _ => c⟩
      | succ j =>
        rw [gt_cons, Rise.cnt h2 f j (by rw [List.length_cons] at hj; omega)]
        omega
    · have hn : (a :: l).filter (fun p => decide (p < f)) = [] := by
        refine List.filter_eq_nil_iff.mpr fun x hx => ?_
        have : a ≤ x := by
          rcases List.mem_cons.mp hx with rfl | hx
          · exact Nat.le_refl _
          · exact Nat.le_of_lt (h1 x hx)
        simp
        omega
      rw [hn]
      refine ⟨fun z => absurd z ?_, fun z => by simp at z⟩
      have hm := gt_mem hj
      have : a ≤ gt (a :: l) j := by
        rcases List.mem_cons.mp hm with e | hx
        · rw [e]; exact Nat.le_refl _
        · exact Nat.le_of_lt (h1 _ hx)
      omega
theorem gt_mid (A B : List Nat) (u : Nat) : gt (A ++ u :: B) A.length = u := by
  unfold gt
  rw [List.getD_eq_getElem?_getD, List.getElem?_append_right (Nat.le_refl _), Nat.sub_self]
  rfl
section
variable {P : Plan} {c d : List Nat} {k : Nat}
theorem cst_pos (Q : Int → Int) : ∀ (l : List Nat) (j : Int), 0 < cst P c Q l j → ∃ i, i < l.length ∧ Q (j + i) ≠ gt l i
  | [], _, h => absurd h (by show ¬ (0 : Int) < 0; omega)
  | p :: l, j, h => by
    by_cases e : Q j = p
    · have h2 : (wpM P c p : Int) * absI (Q j - p) + cst P c Q l (j + 1) > 0 := h
      rw [e, Int.sub_self, show absI 0 = 0 from rfl, Int.mul_zero] at h2
      obtain ⟨i, hi, hne⟩ := cst_pos Q l (j + 1) (by omega)
      refine ⟨i + 1, by rw [List.length_cons]; omega, ?_⟩
      rw [gt_cons]
      rwa [show j + ((i + 1 : Nat) : Int) = j + 1 + (i : Int) by omega]
    · refine ⟨0, by rw [List.length_cons]; omega, ?_⟩
      rw [show j + ((0 : Nat) : Int) = j by omega]
      exact e
theorem frz_cnt {A B : List Nat} {u v f : Nat} (h : u < f ↔ v < f) : ((A ++ u :: B).filter fun p => decide (p < f)).length = ((A ++ v :: B).filter fun p => decide (p < f)).length := by
  have e : decide (u < f) = decide (v < f) := decide_eq_decide.mpr h
  rw [List.filter_append, List.filter_append, List.filter_cons, List.filter_cons, e]
  split <;> simp
/-- what a turn inside does -/
theorem mv_turn (hP : P.Ok) (hc : Cells P.n c) (hk : k < P.n) (h0 : k ≠ 0) {s : Nat} (h : turnM P c k = some s) : ∃ A B u v, placesM P c = A ++ u :: B ∧ placesM P (c.set k s) = A ++ v :: B ∧ ((u = k ∧ v + 1 = k) ∨ (u + 1 = k ∧ v = k)) ∧ behind P (c.set k s) = behind P c ∧ (∀ p, p ∈ A ∨ p ∈ B → wpM P (c.set k s) p = wpM P c p) ∧ wpM P (c.set k s) v = wpM P c u ∧ wpM P c u = wM P (gt c k) s := by
  obtain ⟨hm, hz, hrow⟩ := turn_mv hP hc hk h
  have hpk : prev P.n k = k - 1 := by unfold prev; rw [if_neg h0]
  rcases hm with m | m
  · have hw := turn_w hP hc hk h (.inl ⟨rfl, rfl⟩) m
    obtain ⟨A, B, e1, e2, _, _, e5, e6⟩ := mv_in m (by omega)
    exact ⟨A, B, _, _, e1, e2, .inl ⟨rfl, by omega⟩, e5, e6, m.wp, hw⟩
  · have hw := turn_w hP hc hk h (.inr ⟨rfl, rfl⟩) m
    obtain ⟨A, B, e1, e2, _, _, e5, e6⟩ := mv_in m (by omega)
    exact ⟨A, B, _, _, e1, e2, .inr ⟨by omega, rfl⟩, e5, e6, m.wp, hw⟩
def rcM (P : Plan) (c d : List Nat) : Int := costM (rowsM P c d)
theorem row_T (hP : P.Ok) (hr : P.r = false) (hc : Cells P.n c) (hk : k < P.n) {s : Nat} (h : turnM P c k = some s) (ok : RowOk P c d) :
    RowOk P (c.set k s) d ∧ (rcM P (c.set k s) d = rcM P c d - (wM P (gt c k) s : Nat) ∨ rcM P (c.set k s) d = rcM P c d + (wM P (gt c k) s : Nat)) := by
  obtain ⟨_, hz, hrow⟩ := turn_mv hP hc hk h
  have hk0 := hrow hr
  obtain ⟨A, B, u, v, e1, e2, huv, e3, e4, e5, e6⟩ := mv_turn hP hc hk (by omega) h
  have hlen : (placesM P (c.set k s)).length = (placesM P c).length := by rw [e1, e2, List.length_append, List.length_append, List.length_cons, List.length_cons]
  have ok' : RowOk P (c.set k s) d := by
    refine ⟨hlen.trans ok.len, ?_, e3.trans ok.beh, ?_⟩
    · rw [gt_set c k s 0 (by rw [hc.len]; exact hk), if_neg (by omega)]
      exact ok.one
    · rw [List.all_eq_true]
      intro f hf
      have h1 := List.all_eq_true.mp ok.frz f hf
      unfold frzOk at h1 ⊢
      rw [← of_decide_eq_true h1, e1, e2]
      refine decide_eq_true (frz_cnt ?_)
      have hfk : f ≠ k := fun z => hz (by rw [← z]; exact hf)
      omega
  refine ⟨ok', ?_⟩
  unfold rcM
  rw [rows_cst ok.len, rows_cst ok'.len, e1, e2, cst_move _ A B u v 0 e4 e5, e6]
  rcases abs_step (rowQ P d (0 + A.length)) u v (by omega) with z | z
  · left; rw [z, show absI (rowQ P d (0 + A.length) - u) - 1 - absI (rowQ P d (0 + A.length) - u) = -1 by omega]; omega
  · right; rw [z, show absI (rowQ P d (0 + A.length) - u) + 1 - absI (rowQ P d (0 + A.length) - u) = 1 by omega]; omega
theorem climb {l q : List Nat} (hq : Rise q) (he : l.length = q.length) : ∀ (t i : Nat), i + t + 1 = l.length → gt l i < gt q i → ∃ j, j < l.length ∧ gt l j < gt q j ∧ (j + 1 = l.length ∨ gt l (j + 1) ≠ gt l j + 1)
  | 0, i, h, hi => ⟨i, by omega, hi, .inl (by omega)⟩
  | t + 1, i, h, hi => by
    by_cases e : gt l (i + 1) = gt l i + 1
    · have := hq.lt (show i < i + 1 by omega) (by omega)
      exact climb hq he t (i + 1) (by omega) (by omega)
    · exact ⟨i, by omega, hi, .inr e⟩
theorem climbd {l q : List Nat} (hq : Rise q) (he : l.length = q.length) : ∀ (i : Nat), i < l.length → gt q i < gt l i → ∃ j, j < l.length ∧ gt q j < gt l j ∧ (j = 0 ∨ gt l (j - 1) + 1 ≠ gt l j)
  | 0, h, hi => ⟨0, h, hi, .inl rfl⟩
  | i + 1, h, hi => by
    by_cases e : gt l i + 1 = gt l (i + 1)
    · have := hq.lt (show i < i + 1 by omega) (by omega)
      exact climbd hq he i (by omega) (by omega)
    · exact ⟨i + 1, h, hi, .inr e⟩
theorem places_in (hr : P.r = false) {p : Nat} (h : p ∈ placesM P c) : p + 1 < P.n := by
  have h := List.mem_range.mp (List.mem_filter.mp h).1
  unfold lastM at h
  rw [hr, if_neg (by decide)] at h
  omega
theorem not_place {p : Nat} (hp : p < lastM P) (h : p ∉ placesM P c) : wallM P.n c p = false := by
  cases q : wallM P.n c p with
  | false => rfl
  | true => exact absurd (List.mem_filter.mpr ⟨List.mem_range.mpr hp, q⟩) h
theorem frz_eq (ok : RowOk P c d) {f : Nat} (hf : f ∈ P.fz) : ((placesM P c).filter fun p => decide (p < f)).length = ((placesM P d).filter fun p => decide (p < f)).length := by
  have h1 := List.all_eq_true.mp ok.frz f hf
  unfold frzOk at h1
  exact of_decide_eq_true h1
theorem row_D (hP : P.Ok) (hr : P.r = false) (hc : Cells P.n c) (ok : RowOk P c d) (hpos : 0 < rcM P c d) : ∃ k s, k < P.n ∧ turnM P c k = some s ∧ RowOk P (c.set k s) d ∧ rcM P (c.set k s) d = rcM P c d - (wM P (gt c k) s : Nat) := by
  have hlo := hP.lo
  have hlast : lastM P = P.n - 1 := by unfold lastM; rw [hr, if_neg (by decide)]
  have rc : Rise (placesM P c) := places_rise
  have rd : Rise (placesM P d) := places_rise
  have hlen := ok.len
  -- the turn of wall j
  have fin : ∀ k, k < P.n → 0 < k → k + 1 < P.n → k ∉ P.fz → ∀ j, j < (placesM P c).length → ((gt (placesM P c) j + 1 = k ∧ k ∉ placesM P c ∧ k ≤ gt (placesM P d) j) ∨ (gt (placesM P c) j = k ∧ k - 1 ∉ placesM P c ∧ gt (placesM P d) j < k)) → ∃ k s, k < P.n ∧ turnM P c k = some s ∧ RowOk P (c.set k s) d ∧ rcM P (c.set k s) d = rcM P c d - (wM P (gt c k) s : Nat) := by
    intro k hk h0 h1 hz j hj hcase
    have hpk : prev P.n k = k - 1 := by unfold prev; rw [if_neg (by omega)]
    have hmem := gt_mem hj
    have hwne : wallM P.n c (prev P.n k) ≠ wallM P.n c k := by
      rw [hpk]
      rcases hcase with ⟨z1, z2, z3⟩ | ⟨z1, z2, z3⟩
      · rw [not_place (by omega) z2, show k - 1 = gt (placesM P c) j by omega, (mem_places hmem).2]
        decide
      · rw [not_place (p := k - 1) (by omega) z2, ← z1, (mem_places hmem).2]
        decide
    obtain ⟨s, hs⟩ := turn_ex hk hz (by omega) hwne
    refine ⟨k, s, hk, hs, (row_T hP hr hc hk hs ok).1, ?_⟩
    have ok' := (row_T hP hr hc hk hs ok).1
    obtain ⟨A, B, u, v, e1, e2, huv, e3, e4, e5, e6⟩ := mv_turn hP hc hk (by omega) hs
    have hu : u ∈ placesM P c := by rw [e1]; exact List.mem_append.mpr (.inr List.mem_cons_self)
    have huj : u = gt (placesM P c) j := by
      rcases hcase with ⟨z1, z2, z3⟩ | ⟨z1, z2, z3⟩
      · rcases huv with ⟨w1, w2⟩ | ⟨w1, w2⟩
        · exact absurd (w1 ▸ hu) z2
        · omega
      · rcases huv with ⟨w1, w2⟩ | ⟨w1, w2⟩
        · omega
        · exact absurd (show k - 1 ∈ placesM P c by rw [show k - 1 = u by omega]; exact hu) z2
    have hAl : A.length < (placesM P c).length := by rw [e1, List.length_append, List.length_cons]; omega
    have hAj : A.length = j := rc.inj hAl hj (by rw [← huj, e1, gt_mid])
    unfold rcM
    rw [rows_cst ok.len, rows_cst ok'.len, e1, e2, cst_move _ A B u v 0 e4 e5, e6]
    have hq : rowQ P d (0 + A.length) = gt (placesM P d) j := by
      unfold rowQ
      rw [hAj, show ((0 : Int) + (j : Int)).toNat = j by omega]
    rw [hq, abs_near _ u v (by
      rcases hcase with ⟨z1, z2, z3⟩ | ⟨z1, z2, z3⟩
      · left; omega
      · right; omega), show absI ((gt (placesM P d) j : Int) - u) - 1 - absI ((gt (placesM P d) j : Int) - u) = -1 by omega]
    omega
  have hpos2 : 0 < cst P c (rowQ P d) (placesM P c) 0 := by
    have := hpos
    unfold rcM at this
    rwa [rows_cst ok.len] at this
  obtain ⟨i, hi, hne⟩ := cst_pos _ _ _ hpos2
  have hq : rowQ P d (0 + (i : Int)) = gt (placesM P d) i := by
    unfold rowQ
    rw [show ((0 : Int) + (i : Int)).toNat = i by omega]
  rw [hq] at hne
  rcases Nat.lt_trichotomy (gt (placesM P c) i) (gt (placesM P d) i) with z | z | z
  · obtain ⟨j, hj, hlt, hnx⟩ := climb rd hlen ((placesM P c).length - 1 - i) i (by omega) z
    have hdm := places_in hr (gt_mem (l := placesM P d) (i := j) (by omega))
    refine fin (gt (placesM P c) j + 1) (by omega) (by omega) (by omega) (fun hz => ?_) j hj (.inl ⟨rfl, fun hm => ?_, by omega⟩)
    · have h1 := (rc.cnt (gt (placesM P c) j + 1) j hj).mp (by omega)
      rw [frz_eq ok hz] at h1
      have h2 := (rd.cnt (gt (placesM P c) j + 1) j (by omega)).mpr h1
      omega
    · obtain ⟨w1, w2⟩ := rc.next hj hm
      rcases hnx with y | y
      · omega
      · exact y w2
  · exact absurd (by rw [z]) hne
  · obtain ⟨j, hj, hlt, hnx⟩ := climbd rd hlen i hi z
    have hcm := places_in hr (gt_mem (l := placesM P c) (i := j) hj)
    refine fin (gt (placesM P c) j) (by omega) (by omega) (by omega) (fun hz => ?_) j hj (.inr ⟨rfl, fun hm => ?_, hlt⟩)
    · have h1 := (rd.cnt (gt (placesM P c) j) j (by omega)).mp hlt
      rw [← frz_eq ok hz] at h1
      have h2 := (rc.cnt (gt (placesM P c) j) j hj).mpr h1
      omega
    · obtain ⟨w1, w2⟩ := rc.prev hj (by omega) hm
      rcases hnx with y | y
      · omega
      · exact y w2
theorem ext_gt : ∀ {c d : List Nat}, c.length = d.length → (∀ i, i < c.length → gt c i = gt d i) → c = d
  | [], [], _, _ => rfl
  | [], _ :: _, h, _ => by cases h
  | _ :: _, [], h, _ => by cases h
  | a :: c, b :: d, h, g => by
    have h0 := g 0 (by rw [List.length_cons]; omega)
    have h0' : a = b := h0
    rw [h0', ext_gt (Nat.succ.inj h) fun i hi => g (i + 1) (by rw [List.length_cons]; omega)]
theorem row_E (hP : P.Ok) (hr : P.r = false) (hc : Cells P.n c) (hd : Cells P.n d) (ok : RowOk P c d) (h : rcM P c d = 0) : c = d := by
  have hlo := hP.lo
  have hlast : lastM P = P.n - 1 := by unfold lastM; rw [hr, if_neg (by decide)]
  unfold rcM at h
  rw [rows_cst ok.len] at h
  have hz := cst_zero (fun p hp => (wp_le hP hc hp).1) _ _ _ (fun _ hp => hp) h
  have hsame : placesM P c = placesM P d := ext_gt ok.len fun i hi => by
    have := hz i hi
    unfold rowQ at this
    rw [show ((0 : Int) + (i : Int)).toNat = i by omega] at this
    omega
  have hb : ∀ p ∈ placesM P c, gt c (nx P.n p) = gt d (nx P.n p) := by
    have := ok.beh
    unfold behind at this
    rw [← hsame] at this
    exact List.map_inj_left.mp this
  refine ext_gt (by rw [hc.len, hd.len]) fun i => ?_
  induction i with
  | zero => exact fun _ => ok.one
  | succ i ih =>
    intro hi
    rw [hc.len] at hi
    have ih := ih (by rw [hc.len]; omega)
    have hn : nx P.n i = i + 1 := by unfold nx; rw [if_neg (by omega)]
    by_cases hm : i ∈ placesM P c
    · have := hb i hm
      rwa [hn] at this
    · have w1 := not_place (by omega) hm
      have w2 := not_place (P := P) (c := d) (p := i) (by omega) (by rw [← hsame]; exact hm)
      unfold wallM at w1 w2
      rw [hn] at w1 w2
      simp at w1 w2
      omega
theorem row_N : 0 ≤ rcM P c d := by
  unfold rcM costM
  generalize rowsM P c d = l
  induction l with
  | nil => exact Int.le_refl _
  | cons r l ih =>
    rw [List.map_cons, List.sum_cons]
    have : 0 ≤ costR r := Int.mul_nonneg (by omega) (by unfold absI; split <;> omega)
    omega
theorem row_refl (hP : P.Ok) (hc : Cells P.n c) : RowOk P c c := ⟨rfl, rfl, rfl, List.all_eq_true.mpr fun f _ => decide_eq_true rfl⟩
theorem row_refl0 : rcM P c c = 0 := by
  unfold rcM rowsM
  generalize placesM P c = l
  have : ∀ l : List Nat, costM ((l.zip l).map fun p => (wpM P c p.1, (p.1 : Int), (p.2 : Int))) = 0 := by
    intro l
    induction l with
    | nil => rfl
    | cons a l ih =>
      rw [List.zip_cons_cons, List.map_cons, costM_cons, ih]
      show (wpM P c a : Int) * absI ((a : Int) - a) + 0 = 0
      rw [Int.sub_self, show absI 0 = 0 from rfl]
      omega
  exact this l
end
end WW
set_option Elab.async false
set_option linter.all false
set_option maxRecDepth 100000
namespace WW
open PySem PySem.Spec L2
/-! a ring with a frozen cell: the opened row's turns are the ring's -/
theorem gt_app (a b : List Nat) (i : Nat) : gt (a ++ b) i = if i < a.length then gt a i else gt b (i - a.length) := by
  unfold gt
  rw [List.getD_eq_getElem?_getD]
  by_cases h : i < a.length
  · rw [if_pos h, List.getElem?_append_left h, List.getD_eq_getElem?_getD]
  · rw [if_neg h, List.getElem?_append_right (by omega), List.getD_eq_getElem?_getD]
theorem gt_drop (c : List Nat) (f i : Nat) : gt (c.drop f) i = gt c (f + i) := by
  unfold gt
  rw [List.getD_eq_getElem?_getD, List.getD_eq_getElem?_getD, List.getElem?_drop]
theorem gt_take (c : List Nat) (k i : Nat) (h : i < k) : gt (c.take k) i = gt c i := by
  unfold gt
  rw [List.getD_eq_getElem?_getD, List.getD_eq_getElem?_getD, List.getElem?_take_of_lt h]
def upM (n f i : Nat) : Nat := if f + i < n then f + i else f + i - n
def dnM (n f k : Nat) : Nat := if f ≤ k then k - f else k + n - f
section
variable {P : Plan} {c d : List Nat} {k : Nat}
theorem unr_len (hP : P.Ok) (hf : P.fz ≠ []) (hc : Cells P.n c) : (unr P c).length = P.n + 1 := (unr_cells hP hf hc).len
theorem unr_gt (hP : P.Ok) (hf : P.fz ≠ []) (hc : Cells P.n c) {i : Nat} (hi : i ≤ P.n) : gt (unr P c) i = gt c (upM P.n (f0M P) i) := by
  have h0 := f0_lt hP hf
  have hl := hc.len
  unfold unr upM
  rw [gt_app, List.length_drop, hl]
  by_cases h : f0M P + i < P.n
  · rw [if_pos (by omega), if_pos h, gt_drop]
  · rw [if_neg (by omega), if_neg h, gt_take _ _ _ (by omega)]
    congr 1
    omega
theorem unr_set (hP : P.Ok) (hf : P.fz ≠ []) (hc : Cells P.n c) (hk : k < P.n) (hkf : k ≠ f0M P) (s : Nat) (hs : 97 ≤ s ∧ s ≤ 100) : unr P (c.set k s) = (unr P c).set (dnM P.n (f0M P) k) s := by
  have h0 := f0_lt hP hf
  have hc' : Cells P.n (c.set k s) := hc.set hs
  refine ext_gt (by rw [unr_len hP hf hc', List.length_set, unr_len hP hf hc]) fun i hi => ?_
  rw [unr_len hP hf hc'] at hi
  have hdn : dnM P.n (f0M P) k < (unr P c).length := by
    rw [unr_len hP hf hc]
    unfold dnM
    split <;> omega
  rw [unr_gt hP hf hc' (by omega), gt_set c k s _ (by rw [hc.len]; exact hk), gt_set _ _ s i hdn, unr_gt hP hf hc (by omega)]
  have e : upM P.n (f0M P) i = k ↔ i = dnM P.n (f0M P) k := by
    unfold upM dnM
    split <;> split <;> omega
  by_cases h : i = dnM P.n (f0M P) k
  · rw [if_pos h, if_pos (e.mpr h)]
  · rw [if_neg h, if_neg (fun z => h (e.mp z))]
theorem open_fz (hP : P.Ok) (hf : P.fz ≠ []) (hk : k < P.n) : dnM P.n (f0M P) k ∈ (openP P).fz ↔ k ∈ P.fz := by
  have h0 := f0_lt hP hf
  unfold openP
  constructor
  · intro h
    obtain ⟨g, hg, e⟩ := List.mem_map.mp h
    have h1 := f0_le hP g hg
    have h2 := hP.fz g hg
    have : g = k := by
      have e' : g - f0M P = dnM P.n (f0M P) k := e
      unfold dnM at e'
      split at e' <;> omega
    rw [← this]
    exact hg
  · intro h
    refine List.mem_map.mpr ⟨k, h, ?_⟩
    have h1 := f0_le hP k h
    show k - f0M P = dnM P.n (f0M P) k
    unfold dnM
    rw [if_pos h1]
theorem f0_in (hf : P.fz ≠ []) : f0M P ∈ P.fz := by
  unfold f0M
  cases h : P.fz with
  | nil => exact absurd h hf
  | cons f r => exact List.mem_cons_self
theorem open_turn (hP : P.Ok) (hr : P.r = true) (hf : P.fz ≠ []) (hc : Cells P.n c) (hk : k < P.n) (hkf : k ≠ f0M P) : turnM (openP P) (unr P c) (dnM P.n (f0M P) k) = turnM P c k := by
  have h0 := f0_lt hP hf
  have hlo := hP.lo
  have hd1 : 0 < dnM P.n (f0M P) k ∧ dnM P.n (f0M P) k < P.n := by
    unfold dnM
    split <;> omega
  have hn : (openP P).n = P.n + 1 := rfl
  have e1 : prev (openP P).n (dnM P.n (f0M P) k) = dnM P.n (f0M P) k - 1 := by unfold prev; rw [if_neg (by omega)]
  have e2 : nx (openP P).n (dnM P.n (f0M P) k) = dnM P.n (f0M P) k + 1 := by unfold nx; rw [if_neg (by rw [hn]; omega)]
  have g1 : gt (unr P c) (prev (openP P).n (dnM P.n (f0M P) k)) = gt c (prev P.n k) := by
    rw [e1, unr_gt hP hf hc (by omega)]
    congr 1
    unfold upM prev dnM
    split <;> split <;> split <;> omega
  have g2 : gt (unr P c) (nx (openP P).n (dnM P.n (f0M P) k)) = gt c (nx P.n k) := by
    rw [e2, unr_gt hP hf hc (by omega)]
    congr 1
    unfold upM nx dnM
    split <;> split <;> split <;> omega
  have g3 : gt (unr P c) (dnM P.n (f0M P) k) = gt c k := by
    rw [unr_gt hP hf hc (by omega)]
    congr 1
    unfold upM dnM
    split <;> split <;> omega
  have hz := open_fz hP hf hk
  have hro : (openP P).r = false := rfl
  unfold turnM
  rw [g1, g2, g3]
  have hb : (dnM P.n (f0M P) k ∈ (openP P).fz ∨ ((openP P).r = false ∧ (dnM P.n (f0M P) k = 0 ∨ dnM P.n (f0M P) k = (openP P).n - 1)) ∨ gt c (prev P.n k) = gt c (nx P.n k)) ↔ (k ∈ P.fz ∨ (P.r = false ∧ (k = 0 ∨ k = P.n - 1)) ∨ gt c (prev P.n k) = gt c (nx P.n k)) := by
    rw [hz, hr, hn]
    constructor
    · rintro (z | ⟨_, z⟩ | z)
      · exact .inl z
      · omega
      · exact .inr (.inr z)
    · rintro (z | ⟨z, _⟩ | z)
      · exact .inl z
      · cases z
      · exact .inr (.inr z)
  by_cases h : k ∈ P.fz ∨ (P.r = false ∧ (k = 0 ∨ k = P.n - 1)) ∨ gt c (prev P.n k) = gt c (nx P.n k)
  · rw [if_pos h, if_pos (hb.mpr h)]
  · rw [if_neg h, if_neg (fun z => h (hb.mp z))]
theorem unr_at (hP : P.Ok) (hf : P.fz ≠ []) (hc : Cells P.n c) (hk : k < P.n) : gt (unr P c) (dnM P.n (f0M P) k) = gt c k := by
  have h0 := f0_lt hP hf
  rw [unr_gt hP hf hc (by unfold dnM; split <;> omega)]
  congr 1
  unfold upM dnM
  split <;> split <;> omega
theorem open_T (hP : P.Ok) (h12 : P.n ≤ 12) (hr : P.r = true) (hf : P.fz ≠ []) (hc : Cells P.n c) (hk : k < P.n) {s : Nat} (h : turnM P c k = some s) (ok : RowOk (openP P) (unr P c) (unr P d)) :
    RowOk (openP P) (unr P (c.set k s)) (unr P d) ∧ (rcM (openP P) (unr P (c.set k s)) (unr P d) = rcM (openP P) (unr P c) (unr P d) - (wM P (gt c k) s : Nat) ∨ rcM (openP P) (unr P (c.set k s)) (unr P d) = rcM (openP P) (unr P c) (unr P d) + (wM P (gt c k) s : Nat)) := by
  have hkz : k ∉ P.fz := (turnM_some h).1
  have hkf : k ≠ f0M P := fun z => hkz (by rw [z]; exact f0_in hf)
  have hd1 : dnM P.n (f0M P) k < (openP P).n := by
    have := f0_lt hP hf
    show _ < P.n + 1
    unfold dnM
    split <;> omega
  have ht := (open_turn hP hr hf hc hk hkf).trans h
  have := row_T (openP_ok hP h12) rfl (unr_cells hP hf hc) hd1 ht ok
  rw [unr_set hP hf hc hk hkf s (turn_sign hc hk h)]
  rw [unr_at hP hf hc hk] at this
  exact this
theorem open_D (hP : P.Ok) (h12 : P.n ≤ 12) (hr : P.r = true) (hf : P.fz ≠ []) (hc : Cells P.n c) (ok : RowOk (openP P) (unr P c) (unr P d)) (hpos : 0 < rcM (openP P) (unr P c) (unr P d)) :
    ∃ k s, k < P.n ∧ turnM P c k = some s ∧ RowOk (openP P) (unr P (c.set k s)) (unr P d) ∧ rcM (openP P) (unr P (c.set k s)) (unr P d) = rcM (openP P) (unr P c) (unr P d) - (wM P (gt c k) s : Nat) := by
  have h0 := f0_lt hP hf
  obtain ⟨j, s, hj, ht, ok', hcost⟩ := row_D (openP_ok hP h12) rfl (unr_cells hP hf hc) ok hpos
  have hrow := (turn_mv (openP_ok hP h12) (unr_cells hP hf hc) hj ht).2.2 rfl
  have hn : (openP P).n = P.n + 1 := rfl
  rw [hn] at hrow hj
  have hk : upM P.n (f0M P) j < P.n := by unfold upM; split <;> omega
  have hkf : upM P.n (f0M P) j ≠ f0M P := by unfold upM; split <;> omega
  have hdn : dnM P.n (f0M P) (upM P.n (f0M P) j) = j := by unfold upM dnM; split <;> split <;> omega
  have ht2 : turnM P c (upM P.n (f0M P) j) = some s := by
    rw [← open_turn hP hr hf hc hk hkf, hdn]
    exact ht
  have hs := turn_sign hc hk ht2
  have hat := unr_at hP hf hc hk
  have hset := unr_set hP hf hc hk hkf s hs
  rw [hdn] at hat hset
  refine ⟨_, s, hk, ht2, ?_, ?_⟩
  · rw [hset]
    exact ok'
  · rw [hset, hcost, hat]
    rfl
theorem open_E (hP : P.Ok) (h12 : P.n ≤ 12) (hf : P.fz ≠ []) (hc : Cells P.n c) (hd : Cells P.n d) (ok : RowOk (openP P) (unr P c) (unr P d)) (h : rcM (openP P) (unr P c) (unr P d) = 0) : c = d := by
  have e := row_E (openP_ok hP h12) rfl (unr_cells hP hf hc) (unr_cells hP hf hd) ok h
  refine ext_gt (by rw [hc.len, hd.len]) fun i hi => ?_
  rw [hc.len] at hi
  rw [← unr_at hP hf hc hi, ← unr_at hP hf hd hi, e]
end
end WW
set_option Elab.async false
set_option linter.all false
set_option maxRecDepth 100000
namespace WW
open PySem PySem.Spec L2
/-! a ring's walls and signs, numbered without end -/
theorem emod_add1 (j m : Int) (hm : 0 < m) : ((j + 1) % m = j % m + 1 ∧ (j + 1) / m = j / m ∧ j % m + 1 < m) ∨ ((j + 1) % m = 0 ∧ (j + 1) / m = j / m + 1 ∧ j % m + 1 = m) := by
  have h1 := Int.emod_nonneg j (show m ≠ 0 by omega)
  have h2 := Int.emod_lt_of_pos j hm
  have h3 := Int.mul_ediv_add_emod j m
  by_cases c : j % m + 1 < m
  · left
    have e : j + 1 = (j % m + 1) + m * (j / m) := by omega
    refine ⟨?_, ?_, c⟩
    · rw [e, Int.add_mul_emod_self_left, Int.emod_eq_of_lt (by omega) c]
    · rw [e, Int.add_mul_ediv_left _ _ (by omega), Int.ediv_eq_zero_of_lt (by omega) c, Int.zero_add]
  · right
    have c2 : j % m + 1 = m := by omega
    have e : j + 1 = 0 + m * (j / m + 1) := by rw [Int.mul_add]; omega
    refine ⟨?_, ?_, c2⟩
    · rw [e, Int.add_mul_emod_self_left, Int.zero_emod]
    · rw [e, Int.add_mul_ediv_left _ _ (by omega), Int.zero_ediv, Int.zero_add]
section
variable {q : List Nat} {n : Nat}
theorem far_in {j : Int} (h0 : 0 ≤ j) (h1 : j < q.length) : farM q n j = gt q j.toNat := by
  unfold farM
  rw [Int.emod_eq_of_lt h0 h1, Int.ediv_eq_zero_of_lt h0 h1]
  omega
theorem far_add (j : Int) (hq : q ≠ []) : farM q n (j + q.length) = farM q n j + n := by
  have hm : 0 < q.length := List.length_pos_iff.mpr hq
  unfold farM
  rw [Int.add_emod_right, Int.add_ediv_of_dvd_right (Int.dvd_refl _), Int.ediv_self (by omega), Int.add_mul]
  omega
theorem far_sub (j : Int) (hq : q ≠ []) : farM q n (j - q.length) = farM q n j - n := by
  have := far_add (n := n) (j - q.length) hq
  rw [Int.sub_add_cancel] at this
  omega
theorem far_succ (hr : Rise q) (hlt : ∀ x ∈ q, x < n) (hq : q ≠ []) (j : Int) : farM q n j < farM q n (j + 1) := by
  have hm : 0 < q.length := List.length_pos_iff.mpr hq
  have h1 := Int.emod_nonneg j (show (q.length : Int) ≠ 0 by omega)
  have h2 := Int.emod_lt_of_pos j (show (0 : Int) < q.length by omega)
  unfold farM
  rcases emod_add1 j q.length (by omega) with ⟨e1, e2, e3⟩ | ⟨e1, e2, e3⟩
  · rw [e1, e2]
    have := hr.lt (show (j % (q.length : Int)).toNat < (j % (q.length : Int) + 1).toNat by omega) (by omega)
    omega
  · rw [e1, e2, Int.add_mul]
    have := hlt _ (gt_mem (l := q) (i := (j % (q.length : Int)).toNat) (by omega))
    omega
theorem far_lt (hr : Rise q) (hlt : ∀ x ∈ q, x < n) (hq : q ≠ []) {i j : Int} (h : i < j) : farM q n i < farM q n j := by
  have key : ∀ t : Nat, farM q n i < farM q n (i + 1 + t) := by
    intro t
    induction t with
    | zero => rw [show i + 1 + ((0 : Nat) : Int) = i + 1 by omega]; exact far_succ hr hlt hq i
    | succ t ih =>
      have := far_succ hr hlt hq (i + 1 + t)
      rw [show i + 1 + ((t + 1 : Nat) : Int) = i + 1 + t + 1 by omega]
      omega
  have := key (j - i - 1).toNat
  rwa [show i + 1 + ((j - i - 1).toNat : Int) = j by omega] at this
theorem far_le (hr : Rise q) (hlt : ∀ x ∈ q, x < n) (hq : q ≠ []) {i j : Int} (h : i ≤ j) : farM q n i ≤ farM q n j := by
  rcases Int.lt_or_eq_of_le h with z | z
  · exact Int.le_of_lt (far_lt hr hlt hq z)
  · rw [z]; exact Int.le_refl _
/-- from the first lap on, and before it -/
theorem far_hi (hr : Rise q) (hlt : ∀ x ∈ q, x < n) (hq : q ≠ []) {j : Int} (h : (q.length : Int) ≤ j) : (n : Int) ≤ farM q n j := by
  have hm : 0 < q.length := List.length_pos_iff.mpr hq
  have h1 := far_le hr hlt hq h
  have h2 := far_add (n := n) 0 hq
  rw [Int.zero_add, far_in (q := q) (n := n) (j := 0) (by omega) (by omega)] at h2
  omega
theorem far_lo (hr : Rise q) (hlt : ∀ x ∈ q, x < n) (hq : q ≠ []) {j : Int} (h : j < 0) : farM q n j < 0 := by
  have hm : 0 < q.length := List.length_pos_iff.mpr hq
  have h1 := far_lt hr hlt hq h
  have h2 := far_le hr hlt hq (show j ≤ -1 by omega)
  have h3 := far_sub (n := n) ((q.length : Int) - 1) hq
  rw [show (q.length : Int) - 1 - q.length = -1 by omega, far_in (q := q) (n := n) (j := (q.length : Int) - 1) (by omega) (by omega)] at h3
  have := hlt _ (gt_mem (l := q) (i := ((q.length : Int) - 1).toNat) (by omega))
  omega
end
/-- a round row's sign at any number -/
def cy (l : List Nat) (i : Int) : Nat := gt l (i % l.length).toNat
theorem cy_in {l : List Nat} {i : Nat} (h : i < l.length) : cy l i = gt l i := by
  unfold cy
  rw [Int.emod_eq_of_lt (by omega) (by omega), Int.toNat_natCast]
theorem cy_add (l : List Nat) (i : Int) : cy l (i + l.length) = cy l i := by
  unfold cy
  rw [Int.add_emod_right]
theorem cy_mod (l : List Nat) (i : Int) : cy l (i % l.length) = cy l i := by
  unfold cy
  rw [Int.emod_emod]
theorem cy_mod_add (l : List Nat) (i j : Int) : cy l (i + j % l.length) = cy l (i + j) := by
  unfold cy
  rw [Int.add_emod_emod]
theorem cy_rot (l : List Nat) (k : Nat) (hk : k ≤ l.length) (i : Int) : cy (rot k l) i = cy l (i + k) := by
  by_cases hl : l = []
  · subst hl
    have : k = 0 := by simpa using hk
    subst this
    rfl
  have hm : 0 < l.length := List.length_pos_iff.mpr hl
  have h1 := Int.emod_nonneg i (show (l.length : Int) ≠ 0 by omega)
  have h2 := Int.emod_lt_of_pos i (show (0 : Int) < l.length by omega)
  unfold cy
  rw [rot_len]
  have e : (i + (k : Int)) % (l.length : Int) = (i % (l.length : Int) + k) % (l.length : Int) := by rw [Int.emod_add_emod]
  rw [e]
  generalize i % (l.length : Int) = r at *
  unfold rot
  rw [gt_app, List.length_drop]
  by_cases c : r + (k : Int) < l.length
  · rw [if_pos (by omega), gt_drop, Int.emod_eq_of_lt (by omega) c]
    congr 1
    omega
  · rw [if_neg (by omega), gt_take _ _ _ (by omega)]
    have : (r + (k : Int)) % (l.length : Int) = r + k - l.length := by
      have e2 : r + (k : Int) = (r + k - l.length) + l.length := by omega
      rw [e2, Int.add_emod_right, Int.emod_eq_of_lt (by omega) (by omega)]
      omega
    rw [this]
    congr 1
    omega
theorem cy_ext {l m : List Nat} (h : l.length = m.length) (e : ∀ i : Int, cy l i = cy m i) : l = m := by
  refine ext_gt h fun i hi => ?_
  rw [← cy_in hi, ← cy_in (by omega), e]
/-- an alignment: the goal's walls counted from J on bear the start's signs -/
def Va (mine theirs : List Nat) (J : Int) : Prop := ∀ i : Int, cy theirs (i + J) = cy mine i
theorem va_rot {m t : List Nat} {k : Nat} (hk : k ≤ t.length) (h : rot k t = m) : Va m t k := fun i => by rw [← h, cy_rot t k hk]
theorem rot_va {m t : List Nat} (hl : m.length = t.length) {k : Nat} (hk : k ≤ t.length) (h : Va m t k) : rot k t = m :=
  cy_ext (by rw [rot_len, hl]) fun i => by rw [cy_rot t k hk, h i]
theorem va_mod {m t : List Nat} {J : Int} (h : Va m t J) : Va m t (J % t.length) := fun i => by rw [cy_mod_add]; exact h i
theorem va_first {m t : List Nat} (hl : m.length = t.length) (ht : t ≠ []) {J : Int} (h : Va m t J) : ∃ f, firstM m t = some f := by
  have hm : 0 < t.length := List.length_pos_iff.mpr ht
  have h1 := Int.emod_nonneg J (show (t.length : Int) ≠ 0 by omega)
  have h2 := Int.emod_lt_of_pos J (show (0 : Int) < t.length by omega)
  have h3 := va_mod h
  have e : ((J % (t.length : Int)).toNat : Int) = J % (t.length : Int) := Int.toNat_of_nonneg h1
  rw [← e] at h3
  have h4 := rot_va hl (by omega) h3
  unfold firstM
  rw [if_pos hl]
  have hmem : (J % (t.length : Int)).toNat ∈ somM m t := List.mem_filter.mpr ⟨List.mem_range.mpr (by omega), decide_eq_true h4⟩
  cases q : somM m t with
  | nil => rw [q] at hmem; cases hmem
  | cons a l => exact ⟨a, rfl⟩
theorem perM_min {l : List Nat} {k : Nat} (h1 : 1 ≤ k) (h2 : k ≤ l.length) (h : rot k l = l) : perM l ≤ k := by
  have hl : l ≠ [] := fun z => by rw [z] at h2; simp at h2; omega
  obtain ⟨r, e, _⟩ := perM_ok hl
  have hm : k ∈ ((List.range l.length).map (· + 1)).filter (fun k => decide (rot k l = l)) := List.mem_filter.mpr ⟨List.mem_map.mpr ⟨k - 1, List.mem_range.mpr (by omega), by omega⟩, decide_eq_true h⟩
  have hp : (((List.range l.length).map (· + 1)).filter (fun k => decide (rot k l = l))).Pairwise (· < ·) := by
    refine List.Pairwise.filter _ ?_
    rw [List.pairwise_map]
    exact List.pairwise_lt_range.imp fun h => by omega
  rw [e] at hm hp
  rcases List.mem_cons.mp hm with z | z
  · omega
  · exact Nat.le_of_lt ((List.pairwise_cons.mp hp).1 k z)
/-- every turn of a round row that leaves it alike is a multiple of the least -/
theorem per_dvd {l : List Nat} (hl : l ≠ []) {s : Int} (h : Va l l s) : (perM l : Int) ∣ s := by
  obtain ⟨_, _, p1, p2, p3⟩ := perM_ok hl
  have hp := va_rot (m := l) (t := l) p2 p3
  have hmul : ∀ t : Int, Va l l (t * (perM l : Int)) := by
    have hN : ∀ t : Nat, ∀ i : Int, cy l (i + (t : Int) * (perM l : Int)) = cy l i := by
      intro t
      induction t with
      | zero => intro i; simp
      | succ t ih =>
        intro i
        have e : i + ((t + 1 : Nat) : Int) * (perM l : Int) = (i + (t : Int) * (perM l : Int)) + (perM l : Int) := by
          rw [show ((t + 1 : Nat) : Int) = (t : Int) + 1 by omega, Int.add_mul]
          omega
        rw [e, hp, ih]
    intro t i
    rcases Int.le_total 0 t with z | z
    · have := hN t.toNat i
      rwa [Int.toNat_of_nonneg z] at this
    · have := hN (-t).toNat (i + t * (perM l : Int))
      rw [Int.toNat_of_nonneg (by omega), Int.neg_mul] at this
      rw [← this]
      congr 1
      omega
  have h1 := Int.emod_nonneg s (show (perM l : Int) ≠ 0 by omega)
  have h2 := Int.emod_lt_of_pos s (show (0 : Int) < perM l by omega)
  have hr : Va l l (s % (perM l : Int)) := fun i => by
    have e := Int.mul_ediv_add_emod s (perM l : Int)
    have h3 := hmul (s / (perM l : Int)) (i + s % (perM l : Int))
    rw [← h3, show i + s % (perM l : Int) + s / (perM l : Int) * (perM l : Int) = i + s by rw [Int.mul_comm]; omega]
    exact h i
  rcases Int.lt_or_eq_of_le h1 with z | z
  · exfalso
    have e : ((s % (perM l : Int)).toNat : Int) = s % (perM l : Int) := Int.toNat_of_nonneg h1
    rw [← e] at hr
    have := perM_min (by omega) (by omega) (rot_va rfl (by omega) hr)
    omega
  · exact Int.dvd_of_emod_eq_zero z.symm
theorem va_all {m t : List Nat} (hm : m ≠ []) {f J : Int} (hf : Va m t f) (hJ : Va m t J) : ∃ s : Int, J = f + s * (perM m : Int) := by
  have h : Va m m (J - f) := fun i => by
    rw [← hf (i + (J - f)), show i + (J - f) + f = i + J by omega]
    exact hJ i
  obtain ⟨s, hs⟩ := per_dvd hm h
  exact ⟨s, by rw [Int.mul_comm]; omega⟩
theorem va_step {m t : List Nat} (hm : m ≠ []) {f : Int} (hf : Va m t f) (s : Int) : Va m t (f + s * (perM m : Int)) := by
  obtain ⟨_, _, p1, p2, p3⟩ := perM_ok hm
  have hp := va_rot (m := m) (t := m) p2 p3
  have hN : ∀ t : Nat, ∀ i : Int, cy m (i + (t : Int) * (perM m : Int)) = cy m i := by
    intro t
    induction t with
    | zero => intro i; simp
    | succ t ih =>
      intro i
      have e : i + ((t + 1 : Nat) : Int) * (perM m : Int) = (i + (t : Int) * (perM m : Int)) + (perM m : Int) := by
        rw [show ((t + 1 : Nat) : Int) = (t : Int) + 1 by omega, Int.add_mul]
        omega
      rw [e, hp, ih]
  intro i
  have e : cy t (i + (f + s * (perM m : Int))) = cy m (i + s * (perM m : Int)) := by
    rw [← hf, show i + s * (perM m : Int) + f = i + (f + s * (perM m : Int)) by omega]
  rw [e]
  rcases Int.le_total 0 s with z | z
  · have := hN s.toNat i
    rwa [Int.toNat_of_nonneg z] at this
  · have := hN (-s).toNat (i + s * (perM m : Int))
    rw [Int.toNat_of_nonneg (by omega), Int.neg_mul] at this
    rw [← this]
    congr 1
    omega
end WW
set_option Elab.async false
set_option linter.all false
set_option maxRecDepth 100000
namespace WW
open PySem PySem.Spec L2
/-! the best shift is the best alignment -/
section
variable {P : Plan} {c d : List Nat}
theorem cst_mono (Q : Int → Int) : ∀ (l : List Nat) (j j' : Int), (∀ i : Nat, i < l.length → absI (Q (j + i) - gt l i) ≤ absI (Q (j' + i) - gt l i)) → cst P c Q l j ≤ cst P c Q l j'
  | [], _, _, _ => Int.le_refl _
  | p :: l, j, j', h => by
    have h0 := h 0 (by rw [List.length_cons]; omega)
    rw [show j + ((0 : Nat) : Int) = j by omega, show j' + ((0 : Nat) : Int) = j' by omega] at h0
    have h0' : absI (Q j - p) ≤ absI (Q j' - p) := h0
    have ih := cst_mono Q l (j + 1) (j' + 1) fun i hi => by
      have := h (i + 1) (by rw [List.length_cons]; omega)
      rw [gt_cons, show j + ((i + 1 : Nat) : Int) = j + 1 + (i : Int) by omega, show j' + ((i + 1 : Nat) : Int) = j' + 1 + (i : Int) by omega] at this
      exact this
    have h1 := Int.mul_le_mul_of_nonneg_left h0' (show (0 : Int) ≤ wpM P c p by omega)
    show (wpM P c p : Int) * absI (Q j - p) + cst P c Q l (j + 1) ≤ (wpM P c p : Int) * absI (Q j' - p) + cst P c Q l (j' + 1)
    omega
theorem costS_cst (J : Int) : costS P c d J = cst P c (farM (placesM P d) P.n) (placesM P c) J := bys_cst _ _
theorem cost_up (hg : placesM P d ≠ []) (hlen : (placesM P c).length = (placesM P d).length) {J J' : Int} (h1 : ((placesM P d).length : Int) ≤ J) (h2 : J ≤ J') : costS P c d J ≤ costS P c d J' := by
  rw [costS_cst, costS_cst]
  refine cst_mono _ _ _ _ fun i hi => ?_
  have hr : Rise (placesM P d) := places_rise
  have hlt : ∀ x ∈ placesM P d, x < P.n := fun x hx => (mem_places hx).1
  have a1 := far_hi hr hlt hg (show ((placesM P d).length : Int) ≤ J + i by omega)
  have a2 := far_le hr hlt hg (show J + (i : Int) ≤ J' + i by omega)
  have a3 := (mem_places (gt_mem hi)).1
  unfold absI
  split <;> split <;> omega
theorem cost_dn (hg : placesM P d ≠ []) (hlen : (placesM P c).length = (placesM P d).length) {J J' : Int} (h1 : J ≤ -((placesM P d).length : Int)) (h2 : J' ≤ J) : costS P c d J ≤ costS P c d J' := by
  rw [costS_cst, costS_cst]
  refine cst_mono _ _ _ _ fun i hi => ?_
  have hr : Rise (placesM P d) := places_rise
  have hlt : ∀ x ∈ placesM P d, x < P.n := fun x hx => (mem_places hx).1
  have a1 := far_lo hr hlt hg (show J + (i : Int) < 0 by omega)
  have a2 := far_le hr hlt hg (show J' + (i : Int) ≤ J + i by omega)
  unfold absI
  split <;> split <;> omega
structure Min (P : Plan) (c d : List Nat) (C : Int) : Prop where
  ex : ∃ J, Va (behind P c) (behind P d) J ∧ costS P c d J = C
  all : ∀ J, Va (behind P c) (behind P d) J → C ≤ costS P c d J
theorem Min.fn {C C' : Int} (h : Min P c d C) (h' : Min P c d C') : C = C' := by
  obtain ⟨J, v, e⟩ := h.ex
  obtain ⟨J', v', e'⟩ := h'.ex
  have h1 := h.all J' v'
  have h2 := h'.all J v
  omega
theorem ring_min (hp : ¬ Plain P c d) {o : Option Int} (h : RingC P c d o) : (o = none ∧ ((placesM P c).length ≠ (placesM P d).length ∨ ∀ J, ¬ Va (behind P c) (behind P d) J)) ∨ ∃ C, o = some C ∧ (placesM P c).length = (placesM P d).length ∧ Min P c d C := by
  have hs : placesM P c ≠ [] := fun z => hp (.inl z)
  have hg : placesM P d ≠ [] := fun z => hp (.inr (.inl z))
  have hm : 0 < (placesM P c).length := List.length_pos_iff.mpr hs
  have hm2 : 0 < (placesM P d).length := List.length_pos_iff.mpr hg
  have hb : behind P c ≠ [] := fun z => by
    have := congrArg List.length z
    rw [beh_len] at this
    simp at this
    exact hs this
  have hb2 : behind P d ≠ [] := fun z => by
    have := congrArg List.length z
    rw [beh_len] at this
    simp at this
    exact hg this
  unfold RingC at h
  rw [if_neg hp] at h
  cases hf : firstM (behind P c) (behind P d) with
  | none =>
    rw [hf] at h
    left
    refine ⟨h, ?_⟩
    rcases Nat.decEq (placesM P c).length (placesM P d).length with z | z
    · exact .inl z
    · right
      intro J hJ
      obtain ⟨f, e⟩ := va_first (by rw [beh_len, beh_len]; exact z) hb2 hJ
      rw [hf] at e
      cases e
  | some f =>
    rw [hf] at h
    obtain ⟨s, hsm, hall, ho⟩ := h
    obtain ⟨f1, f2, f3, _⟩ := first_lt hf
    rw [beh_len, beh_len] at f1
    rw [beh_len] at f2
    have vf := va_rot (by rw [beh_len]; omega) f3
    have hsp : stepM (behind P c) = perM (behind P c) := by unfold stepM; rw [if_neg hb]
    rw [hsp] at hsm hall ho
    obtain ⟨_, _, p1, p2, _⟩ := perM_ok hb
    right
    refine ⟨_, ho, f1, ⟨_, va_step hb vf s, rfl⟩, fun J hJ => ?_⟩
    obtain ⟨u, rfl⟩ := va_all hb vf hJ
    have hfar : (2 * (placesM P c).length : Int) < (farN P c (perM (behind P c)) : Int) * (perM (behind P c) : Int) := by
      unfold farN
      have := Nat.lt_mul_div_succ (2 * (placesM P c).length) (show 0 < perM (behind P c) by omega)
      rw [Nat.mul_comm (perM (behind P c))] at this
      have h2 := Int.ofNat_lt.mpr this
      rw [Int.natCast_mul (2 * (placesM P c).length / perM (behind P c) + 1)] at h2
      omega
    by_cases w1 : u ≤ farN P c (perM (behind P c))
    · by_cases w2 : -(farN P c (perM (behind P c)) : Int) ≤ u
      · exact hall u (mem_shifts.mpr ⟨w2, w1⟩)
      · refine Int.le_trans (hall (-(farN P c (perM (behind P c)) : Int)) (mem_shifts.mpr ⟨Int.le_refl _, by omega⟩)) ?_
        have a2 : u * (perM (behind P c) : Int) ≤ -(farN P c (perM (behind P c)) : Int) * (perM (behind P c) : Int) := Int.mul_le_mul_of_nonneg_right (by omega) (by omega)
        have a3 : -(farN P c (perM (behind P c)) : Int) * (perM (behind P c) : Int) = -((farN P c (perM (behind P c)) : Int) * (perM (behind P c) : Int)) := Int.neg_mul _ _
        exact cost_dn hg f1 (by omega) (by omega)
    · refine Int.le_trans (hall (farN P c (perM (behind P c)) : Int) (mem_shifts.mpr ⟨by omega, Int.le_refl _⟩)) ?_
      have a2 : (farN P c (perM (behind P c)) : Int) * (perM (behind P c) : Int) ≤ u * (perM (behind P c) : Int) := Int.mul_le_mul_of_nonneg_right (by omega) (by omega)
      exact cost_up hg f1 (by omega) (by omega)
theorem min_ring (hp : ¬ Plain P c d) {C : Int} (hl : (placesM P c).length = (placesM P d).length) (h : Min P c d C) {o : Option Int} (ho : RingC P c d o) : o = some C := by
  rcases ring_min hp ho with ⟨_, z | z⟩ | ⟨C', e, _, m⟩
  · exact absurd hl z
  · obtain ⟨J, v, _⟩ := h.ex
    exact absurd v (z J)
  · rw [e, m.fn h]
end
end WW
set_option Elab.async false
set_option linter.all false
set_option maxRecDepth 100000
namespace WW
open PySem PySem.Spec L2
/-! rings without frozen cells: what a turn does -/
theorem far_mul {q : List Nat} {n : Nat} (j t : Int) (hq : q ≠ []) : farM q n (j + q.length * t) = farM q n j + n * t := by
  have hm : 0 < q.length := List.length_pos_iff.mpr hq
  unfold farM
  rw [Int.add_mul_emod_self_left, Int.add_mul_ediv_left _ _ (by omega), Int.add_mul, Int.mul_comm t]
  omega
theorem rise_mid {A B : List Nat} {v : Nat} (h : Rise (A ++ v :: B)) : v ∉ A ∧ v ∉ B := by
  obtain ⟨_, h2, h3⟩ := List.pairwise_append.mp h
  refine ⟨fun z => ?_, fun z => ?_⟩
  · have := h3 v z v List.mem_cons_self; omega
  · have := (List.pairwise_cons.mp h2).1 v z; omega
section
variable {P : Plan} {c d : List Nat} {k : Nat}
theorem va_rot1 {m m' : List Nat} (h : ∀ i, cy m' i = cy m (i + 1)) (t : List Nat) (J : Int) : Va m' t (J + 1) ↔ Va m t J := by
  constructor
  · intro v i
    have := v (i - 1)
    rw [h, show i - 1 + (J + 1) = i + J by omega, show i - 1 + 1 = i by omega] at this
    exact this
  · intro v i
    rw [h, show i + (J + 1) = i + 1 + J by omega]
    exact v (i + 1)
structure RMv (P : Plan) (c c' : List Nat) (k : Nat) (w : Nat) (ε : Int) (j : Nat) (dir : Int) : Prop where
  jl : j < (placesM P c).length
  dirs : (dir = 1 ∧ nx P.n (gt (placesM P c) j) = k ∧ k ∉ placesM P c) ∨ (dir = -1 ∧ gt (placesM P c) j = k ∧ prev P.n k ∉ placesM P c)
  len : (placesM P c').length = (placesM P c).length
  va : ∀ t J, Va (behind P c') t (J + ε) ↔ Va (behind P c) t J
  cost : ∀ d J, (placesM P d).length = (placesM P c).length → costS P c' d (J + ε) = costS P c d J + (w : Int) * (absI (farM (placesM P d) P.n (J + j) - ((gt (placesM P c) j : Int) + dir)) - absI (farM (placesM P d) P.n (J + j) - gt (placesM P c) j))
theorem ring_mv (hP : P.Ok) (hr : P.r = true) (hc : Cells P.n c) (hk : k < P.n) {s : Nat} (h : turnM P c k = some s) : ∃ ε j dir, RMv P c (c.set k s) k (wM P (gt c k) s) ε j dir := by
  have hlo := hP.lo
  have hlast : lastM P = P.n := by unfold lastM; rw [if_pos hr]
  have rc : Rise (placesM P c) := places_rise
  by_cases h0 : k = 0
  · subst h0
    have hp0 : prev P.n 0 = P.n - 1 := rfl
    have hn0 : nx P.n (P.n - 1) = 0 := by unfold nx; rw [if_pos (by omega)]
    obtain ⟨hm, _, _⟩ := turn_mv hP hc hk h
    rcases hm with m | m
    · -- the wall at 0 goes back
      have hw := turn_w hP hc hk h (.inl ⟨rfl, rfl⟩) m
      rw [hp0] at m
      obtain ⟨B, e1, e2, e3⟩ := step_out hlo m.toStep
      have e1' : placesM P c = 0 :: B := by unfold placesM; rw [hlast, e1]
      have e2' : placesM P (c.set 0 s) = B ++ [P.n - 1] := by unfold placesM; rw [hlast, e2]
      have hB : ∀ p ∈ B, wpM P (c.set 0 s) p = wpM P c p := fun p hp => by
        have hmem : p ∈ placesM P c := by rw [e1']; exact List.mem_cons_of_mem _ hp
        have hmem2 : p ∈ placesM P (c.set 0 s) := by rw [e2']; exact List.mem_append.mpr (.inl hp)
        have n1 : p ≠ 0 := fun z => (rise_mid (A := []) (by rw [← show placesM P c = [] ++ 0 :: B from e1']; exact rc)).2 (z ▸ hp)
        have n2 : p ≠ P.n - 1 := fun z => (rise_mid (A := B) (B := []) (by rw [← e2']; exact places_rise)).1 (z ▸ hp)
        exact m.wo (mem_places hmem).1 n1 n2
      have hbeh : behind P (c.set 0 s) = rot 1 (behind P c) := by
        unfold behind rot
        rw [e1', e2', List.map_append, List.map_cons, List.map_cons, List.map_nil, m.sg, List.map_congr_left e3]
        rfl
      have hnv := m.nv
      refine ⟨1, 0, -1, by rw [e1', List.length_cons]; omega, .inr ⟨rfl, by rw [e1']; rfl, fun z => ?_⟩, by rw [e1', e2']; simp, fun t J => ?_, fun d J hl => ?_⟩
      · have := (mem_places z).2
        rw [hp0, hnv] at this
        cases this
      · refine va_rot1 (fun i => ?_) t J
        rw [hbeh, cy_rot _ 1 (by rw [beh_len, e1', List.length_cons]; omega)]
        rfl
      · have hg : placesM P d ≠ [] := fun z => by rw [z, e1'] at hl; simp at hl
        rw [costS_cst, costS_cst, e1', e2', cst_app, cst_same _ B _ hB]
        have hwv := m.wp
        have hg0 : gt (0 :: B) 0 = 0 := rfl
        rw [hg0]
        show cst P c _ B (J + 1) + ((wpM P (c.set 0 s) (P.n - 1) : Int) * absI (farM (placesM P d) P.n (J + 1 + B.length) - ((P.n - 1 : Nat) : Int)) + 0) = (wpM P c 0 : Int) * absI (farM (placesM P d) P.n J - ((0 : Nat) : Int)) + cst P c _ B (J + 1) + _
        rw [hwv, hw]
        have hlB : ((placesM P d).length : Int) = B.length + 1 := by rw [hl, e1', List.length_cons]; omega
        have hf := far_add (n := P.n) J hg
        rw [hlB, show J + ((B.length : Int) + 1) = J + 1 + B.length by omega] at hf
        rw [hf, show J + ((0 : Nat) : Int) = J by omega, Int.mul_sub]
        rw [show farM (placesM P d) P.n J + (P.n : Int) - ((P.n - 1 : Nat) : Int) = farM (placesM P d) P.n J - (((0 : Nat) : Int) + -1) by omega]
        omega
    · -- the wall before 0 goes on
      have hw := turn_w hP hc hk h (.inr ⟨rfl, rfl⟩) m
      rw [hp0] at m hw
      obtain ⟨B, e2, e1, e3⟩ := step_out hlo m.toStep.symm
      have e1' : placesM P c = B ++ [P.n - 1] := by unfold placesM; rw [hlast, e1]
      have e2' : placesM P (c.set 0 s) = 0 :: B := by unfold placesM; rw [hlast, e2]
      have hB : ∀ p ∈ B, wpM P (c.set 0 s) p = wpM P c p := fun p hp => by
        have hmem : p ∈ placesM P c := by rw [e1']; exact List.mem_append.mpr (.inl hp)
        have hmem2 : p ∈ placesM P (c.set 0 s) := by rw [e2']; exact List.mem_cons_of_mem _ hp
        have n1 : p ≠ 0 := fun z => (rise_mid (A := []) (B := B) (v := 0) (by rw [← show placesM P (c.set 0 s) = [] ++ 0 :: B from e2']; exact places_rise)).2 (z ▸ hp)
        have n2 : p ≠ P.n - 1 := fun z => (rise_mid (A := B) (B := []) (by rw [← e1']; exact rc)).1 (z ▸ hp)
        exact m.wo (mem_places hmem).1 n2 n1
      have hbeh : behind P c = rot 1 (behind P (c.set 0 s)) := by
        unfold behind rot
        rw [e1', e2', List.map_append, List.map_cons, List.map_cons, List.map_nil, m.sg, List.map_congr_left e3]
        rfl
      have hnv := m.nv
      have hgj : gt (B ++ [P.n - 1]) B.length = P.n - 1 := gt_mid B [] (P.n - 1)
      refine ⟨-1, B.length, 1, by rw [e1', List.length_append, List.length_singleton]; omega, .inl ⟨rfl, by rw [e1', hgj, hn0], fun z => ?_⟩, by rw [e1', e2']; simp, fun t J => ?_, fun d J hl => ?_⟩
      · have := (mem_places z).2
        rw [hnv] at this
        cases this
      · have := va_rot1 (m := behind P (c.set 0 s)) (m' := behind P c) (fun i => by
          rw [hbeh, cy_rot _ 1 (by rw [beh_len, e2', List.length_cons]; omega)]
          rfl) t (J + -1)
        rw [show J + -1 + 1 = J by omega] at this
        exact this.symm
      · have hg : placesM P d ≠ [] := fun z => by rw [z, e1'] at hl; simp at hl
        rw [costS_cst, costS_cst, e1', e2', hgj, cst_app]
        have hwv := m.wp
        show (wpM P (c.set 0 s) 0 : Int) * absI (farM (placesM P d) P.n (J + -1) - ((0 : Nat) : Int)) + cst P (c.set 0 s) _ B (J + -1 + 1) = cst P c _ B J + ((wpM P c (P.n - 1) : Int) * absI (farM (placesM P d) P.n (J + B.length) - ((P.n - 1 : Nat) : Int)) + 0) + _
        rw [cst_same _ B _ hB, hwv, hw, show J + -1 + 1 = J by omega]
        have hlB : ((placesM P d).length : Int) = B.length + 1 := by rw [hl, e1', List.length_append, List.length_singleton]; omega
        have hf := far_add (n := P.n) (J + -1) hg
        rw [hlB, show J + -1 + ((B.length : Int) + 1) = J + B.length by omega] at hf
        rw [Int.mul_sub]
        rw [show farM (placesM P d) P.n (J + B.length) - (((P.n - 1 : Nat) : Int) + 1) = farM (placesM P d) P.n (J + -1) - ((0 : Nat) : Int) by omega]
        omega
  · obtain ⟨A, B, u, v, e1, e2, huv, e3, e4, e5, e6⟩ := mv_turn hP hc hk h0 h
    have hgj : gt (placesM P c) A.length = u := by rw [e1, gt_mid]
    have rd : Rise (A ++ v :: B) := by rw [← e2]; exact places_rise
    obtain ⟨nA, nB⟩ := rise_mid rd
    have hvn : v ∉ placesM P c := fun z => by
      rw [e1] at z
      rcases List.mem_append.mp z with z | z
      · exact nA z
      · rcases List.mem_cons.mp z with z | z
        · omega
        · exact nB z
    have hpk : prev P.n k = k - 1 := by unfold prev; rw [if_neg h0]
    refine ⟨0, A.length, (v : Int) - u, by rw [e1, List.length_append, List.length_cons]; omega, ?_, by rw [e1, e2]; simp, fun t J => by rw [e3, Int.add_zero], fun d J hl => ?_⟩
    · rw [hgj]
      rcases huv with ⟨z1, z2⟩ | ⟨z1, z2⟩
      · exact .inr ⟨by omega, z1, by rw [hpk, show k - 1 = v by omega]; exact hvn⟩
      · exact .inl ⟨by omega, by unfold nx; rw [if_neg (by omega)]; exact z1, by rw [← z2]; exact hvn⟩
    · rw [costS_cst, costS_cst, Int.add_zero, hgj, e1, e2, cst_move _ A B u v J e4 e5, e6]
      rw [show ((u : Int) + ((v : Int) - u)) = v by omega]
end
end WW
set_option Elab.async false
set_option linter.all false
set_option maxRecDepth 100000
namespace WW
open PySem PySem.Spec L2
/-! rings without frozen cells: the core -/
section
variable {P : Plan} {c d : List Nat} {k : Nat}
theorem chainU (f g : Int → Int) (hg : ∀ i j, i < j → g i < g j) (i : Int) (h : f i < g i) : ∀ t : Nat, (∃ a, f a < g a ∧ f (a + 1) ≠ f a + 1) ∨ (f (i + t) = f i + t ∧ f (i + t) < g (i + t))
  | 0 => .inr (by rw [show i + ((0 : Nat) : Int) = i by omega]; exact ⟨by omega, h⟩)
  | t + 1 => by
    rcases chainU f g hg i h t with z | ⟨z1, z2⟩
    · exact .inl z
    · by_cases e : f (i + t + 1) = f (i + t) + 1
      · right
        have := hg (i + t) (i + t + 1) (by omega)
        rw [show i + ((t + 1 : Nat) : Int) = i + t + 1 by omega]
        omega
      · exact .inl ⟨i + t, z2, e⟩
theorem chainD (f g : Int → Int) (hg : ∀ i j, i < j → g i < g j) (i : Int) (h : g i < f i) : ∀ t : Nat, (∃ a, g a < f a ∧ f (a - 1) + 1 ≠ f a) ∨ (f (i - t) = f i - t ∧ g (i - t) < f (i - t))
  | 0 => .inr (by rw [show i - ((0 : Nat) : Int) = i by omega]; exact ⟨by omega, h⟩)
  | t + 1 => by
    rcases chainD f g hg i h t with z | ⟨z1, z2⟩
    · exact .inl z
    · by_cases e : f (i - t - 1) + 1 = f (i - t)
      · right
        have := hg (i - t - 1) (i - t) (by omega)
        rw [show i - ((t + 1 : Nat) : Int) = i - t - 1 by omega]
        omega
      · exact .inl ⟨i - t, z2, e⟩
theorem rmv_near {ε : Int} {j : Nat} {dir : Int} {w : Nat} {c' : List Nat} (m : RMv P c c' k w ε j dir) (hl : (placesM P d).length = (placesM P c).length) (J : Int) :
    costS P c' d (J + ε) = costS P c d J - w ∨ costS P c' d (J + ε) = costS P c d J + w := by
  rw [m.cost d J hl]
  generalize farM (placesM P d) P.n (J + j) = x
  rcases abs_step x (gt (placesM P c) j) ((gt (placesM P c) j : Int) + dir) (by
    rcases m.dirs with ⟨z, _⟩ | ⟨z, _⟩ <;> omega) with z | z
  · left; rw [z, show absI (x - gt (placesM P c) j) - 1 - absI (x - gt (placesM P c) j) = -1 by omega]; omega
  · right; rw [z, show absI (x - gt (placesM P c) j) + 1 - absI (x - gt (placesM P c) j) = 1 by omega]; omega
theorem not_plain_turn (hr : P.r = true) (hk : k < P.n) {s : Nat} (hc : Cells P.n c) (hP : P.Ok) (h : turnM P c k = some s) (hg : placesM P d ≠ []) : ¬ Plain P c d := by
  have hlast : lastM P = P.n := by unfold lastM; rw [if_pos hr]
  obtain ⟨hm, _⟩ := turn_mv hP hc hk h
  have key : ∀ u v, Mv P c (c.set k s) u v → ¬ Plain P c d := fun u v m => by
    have hu : u ∈ placesM P c := List.mem_filter.mpr ⟨List.mem_range.mpr m.ul, m.wu⟩
    rintro (z | z | z)
    · rw [z] at hu; cases hu
    · exact hg z
    · have hv : v ∈ List.range (lastM P) := List.mem_range.mpr m.vl
      have : (placesM P c) = List.range (lastM P) := by
        unfold placesM at z ⊢
        refine List.filter_eq_self.mpr ?_
        have h2 : ((List.range (lastM P)).filter (wallM P.n c)).length = (List.range (lastM P)).length := by rw [z, List.length_range, hlast]
        exact List.length_filter_eq_length_iff.mp h2
      rw [← this] at hv
      have := (mem_places hv).2
      rw [m.nv] at this
      cases this
  rcases hm with m | m
  · exact key _ _ m
  · exact key _ _ m
theorem plain_after (hr : P.r = true) {c' : List Nat} (hl : (placesM P c').length = (placesM P c).length) (h : ¬ Plain P c d) : ¬ Plain P c' d := by
  rintro (z | z | z)
  · refine h (.inl (List.eq_nil_of_length_eq_zero ?_))
    rw [← hl, z]
    rfl
  · exact h (.inr (.inl z))
  · exact h (.inr (.inr (by rw [← hl]; exact z)))
theorem ring_T (hP : P.Ok) (hr : P.r = true) (hc : Cells P.n c) (hd : Cells P.n d) (hk : k < P.n) {s : Nat} (h : turnM P c k = some s) (hp : ¬ Plain P c d) (hlen : (placesM P c).length = (placesM P d).length) {C : Int} (m : Min P c d C) :
    ∃ C', Min P (c.set k s) d C' ∧ C - (wM P (gt c k) s : Nat) ≤ C' := by
  obtain ⟨ε, j, dir, r⟩ := ring_mv hP hr hc hk h
  have hp' := plain_after hr r.len hp
  have hc' : Cells P.n (c.set k s) := hc.set (turn_sign hc hk h)
  obtain ⟨_, o, _, ho, _⟩ := ring_told hP hc' hd
  obtain ⟨J, v, _⟩ := m.ex
  rcases ring_min hp' ho with ⟨_, z | z⟩ | ⟨C', _, _, m'⟩
  · exact absurd (r.len.trans hlen) z
  · exact absurd ((r.va _ J).mpr v) (z _)
  · refine ⟨C', m', ?_⟩
    obtain ⟨J', v', e'⟩ := m'.ex
    have v2 := (r.va (behind P d) (J' - ε)).mp (by rw [Int.sub_add_cancel]; exact v')
    have h1 := m.all _ v2
    have h2 := rmv_near r hlen.symm (J' - ε)
    rw [Int.sub_add_cancel, e'] at h2
    omega
theorem rise_first {l : List Nat} (h : Rise l) (hz : 0 ∈ l) : gt l 0 = 0 := by
  obtain ⟨i, hi, e⟩ := mem_gt hz
  rcases Nat.eq_zero_or_pos i with z | z
  · rw [z] at e; exact e
  · have := h.lt z hi; omega
theorem rise_last {l : List Nat} {n : Nat} (h : Rise l) (hlt : ∀ x ∈ l, x < n) (hz : n - 1 ∈ l) (h0 : 0 < n) : gt l (l.length - 1) = n - 1 := by
  obtain ⟨i, hi, e⟩ := mem_gt hz
  rcases Nat.lt_or_ge i (l.length - 1) with z | z
  · have h1 := h.lt z (by omega)
    have h2 := hlt _ (gt_mem (l := l) (i := l.length - 1) (by omega))
    omega
  · rw [show l.length - 1 = i by omega]; exact e
theorem ring_D (hP : P.Ok) (hr : P.r = true) (hz : P.fz = []) (hc : Cells P.n c) (hd : Cells P.n d) (hp : ¬ Plain P c d) (hlen : (placesM P c).length = (placesM P d).length) {C : Int} (m : Min P c d C) (hpos : 0 < C) :
    ∃ k s, k < P.n ∧ turnM P c k = some s ∧ ¬ Plain P (c.set k s) d ∧ (placesM P (c.set k s)).length = (placesM P d).length ∧ Min P (c.set k s) d (C - (wM P (gt c k) s : Nat)) := by
  have hlo := hP.lo
  have hlast : lastM P = P.n := by unfold lastM; rw [if_pos hr]
  have hs : placesM P c ≠ [] := fun z => hp (.inl z)
  have hg : placesM P d ≠ [] := fun z => hp (.inr (.inl z))
  have hnm : (placesM P c).length ≠ P.n := fun z => hp (.inr (.inr z))
  have hm : 0 < (placesM P c).length := List.length_pos_iff.mpr hs
  have rc : Rise (placesM P c) := places_rise
  have rd : Rise (placesM P d) := places_rise
  have lc : ∀ x ∈ placesM P c, x < P.n := fun x hx => (mem_places hx).1
  have ld : ∀ x ∈ placesM P d, x < P.n := fun x hx => (mem_places hx).1
  obtain ⟨J, v, e⟩ := m.ex
  -- the end: a turn that brings the wall j nearer at J
  have fin : ∀ (k : Nat), k < P.n → ∀ j, j < (placesM P c).length → ((nx P.n (gt (placesM P c) j) = k ∧ k ∉ placesM P c ∧ (gt (placesM P c) j : Int) < farM (placesM P d) P.n (J + j)) ∨ (gt (placesM P c) j = k ∧ prev P.n k ∉ placesM P c ∧ farM (placesM P d) P.n (J + j) < gt (placesM P c) j)) → ∃ k s, k < P.n ∧ turnM P c k = some s ∧ ¬ Plain P (c.set k s) d ∧ (placesM P (c.set k s)).length = (placesM P d).length ∧ Min P (c.set k s) d (C - (wM P (gt c k) s : Nat)) := by
    intro k hk j hj hcase
    have hmem := gt_mem hj
    have hlj := lc _ hmem
    have hw : wallM P.n c (prev P.n k) ≠ wallM P.n c k := by
      rcases hcase with ⟨z1, z2, _⟩ | ⟨z1, z2, _⟩
      · rw [not_place (by rw [hlast]; exact hk) z2, ← nxt_eq hlj hk z1, (mem_places hmem).2]
        decide
      · rw [not_place (by rw [hlast]; exact prev_lt hk) z2, ← z1, (mem_places hmem).2]
        decide
    obtain ⟨s, ht⟩ := turn_ex (P := P) (c := c) hk (by rw [hz]; exact fun z => by cases z) (by rw [hr]; exact fun z => by cases z.1) hw
    obtain ⟨ε, j', dir, r⟩ := ring_mv hP hr hc hk ht
    refine ⟨k, s, hk, ht, plain_after hr r.len hp, r.len.trans hlen, ?_, ?_⟩
    · have hjj : j' = j := by
        refine rc.inj r.jl hj ?_
        have hmem' := gt_mem r.jl
        rcases r.dirs with ⟨_, w1, w2⟩ | ⟨_, w1, w2⟩
        · rcases hcase with ⟨z1, z2, _⟩ | ⟨z1, z2, _⟩
          · rw [nxt_eq (lc _ hmem') hk w1, nxt_eq hlj hk z1]
          · exact absurd (z1 ▸ hmem) w2
        · rcases hcase with ⟨z1, z2, _⟩ | ⟨z1, z2, _⟩
          · exact absurd (w1 ▸ hmem') z2
          · rw [w1, z1]
      have hdir : (dir = 1 ∧ (gt (placesM P c) j : Int) < farM (placesM P d) P.n (J + j)) ∨ (dir = -1 ∧ farM (placesM P d) P.n (J + j) < gt (placesM P c) j) := by
        rcases r.dirs with ⟨d1, w1, w2⟩ | ⟨d1, w1, w2⟩
        · rcases hcase with ⟨z1, z2, z3⟩ | ⟨z1, z2, z3⟩
          · exact .inl ⟨d1, z3⟩
          · exact absurd (z1 ▸ hmem) w2
        · rcases hcase with ⟨z1, z2, z3⟩ | ⟨z1, z2, z3⟩
          · exact absurd (w1 ▸ gt_mem r.jl) z2
          · exact .inr ⟨d1, z3⟩
      refine ⟨J + ε, (r.va _ J).mpr v, ?_⟩
      rw [r.cost d J hlen.symm, hjj, e]
      generalize farM (placesM P d) P.n (J + j) = x at *
      generalize (gt (placesM P c) j : Int) = u at *
      rw [abs_near x u (u + dir) (by rcases hdir with ⟨z1, z2⟩ | ⟨z1, z2⟩ <;> omega), show absI (x - u) - 1 - absI (x - u) = -1 by omega]
      omega
    · intro J' v'
      have v2 := (r.va (behind P d) (J' - ε)).mp (by rw [Int.sub_add_cancel]; exact v')
      have h1 := m.all _ v2
      have h2 := rmv_near r hlen.symm (J' - ε)
      rw [Int.sub_add_cancel] at h2
      omega
  -- a wall that is not at its goal
  have hpos2 : 0 < cst P c (farM (placesM P d) P.n) (placesM P c) J := by rw [← costS_cst, e]; exact hpos
  obtain ⟨i, hi, hne⟩ := cst_pos _ _ _ hpos2
  have hfi : farM (placesM P c) P.n i = gt (placesM P c) i := by
    rw [far_in (by omega) (by omega), Int.toNat_natCast]
  -- back into the first lap
  have back : ∀ a : Int, ∃ j : Nat, j < (placesM P c).length ∧ ∃ t : Int, a = j + (placesM P c).length * t := fun a => by
    have h1 := Int.emod_nonneg a (show ((placesM P c).length : Int) ≠ 0 by omega)
    have h2 := Int.emod_lt_of_pos a (show (0 : Int) < (placesM P c).length by omega)
    have h3 := Int.mul_ediv_add_emod a (placesM P c).length
    exact ⟨(a % (placesM P c).length).toNat, by omega, a / (placesM P c).length, by omega⟩
  have fj : ∀ j : Nat, j < (placesM P c).length → farM (placesM P c) P.n j = gt (placesM P c) j := fun j hj => by rw [far_in (by omega) (by omega), Int.toNat_natCast]
  have hlenI : ((placesM P d).length : Int) = (placesM P c).length := by omega
  rcases Int.lt_trichotomy (gt (placesM P c) i : Int) (farM (placesM P d) P.n (J + i)) with z | z | z
  · rcases chainU (farM (placesM P c) P.n) (fun a => farM (placesM P d) P.n (J + a)) (fun a b hab => far_lt rd ld hg (by omega)) i (by rw [hfi]; exact z) (placesM P c).length with ⟨a, h1, h2⟩ | ⟨h1, _⟩
    · obtain ⟨j, hj, t, rfl⟩ := back a
      have ea := far_mul (n := P.n) (j : Int) t hs
      have eb := far_mul (n := P.n) (J + (j : Int)) t hg
      have ec := far_mul (n := P.n) ((j : Int) + 1) t hs
      rw [show (j : Int) + 1 + (placesM P c).length * t = (j : Int) + (placesM P c).length * t + 1 by omega] at ec
      rw [hlenI, show J + (j : Int) + (placesM P c).length * t = J + ((j : Int) + (placesM P c).length * t) by omega] at eb
      have h1' : (gt (placesM P c) j : Int) < farM (placesM P d) P.n (J + j) := by
        have h1 : farM (placesM P c) P.n (j + (placesM P c).length * t) < farM (placesM P d) P.n (J + (j + (placesM P c).length * t)) := h1
        rw [ea, eb, fj j hj] at h1
        omega
      have h2' : farM (placesM P c) P.n ((j : Int) + 1) ≠ (gt (placesM P c) j : Int) + 1 := by
        intro w
        apply h2
        rw [ea, ec, w, fj j hj]
        omega
      have hlj := lc _ (gt_mem hj)
      refine fin (nx P.n (gt (placesM P c) j)) (nx_lt hlj) j hj (.inl ⟨rfl, fun hmem => h2' ?_, h1'⟩)
      unfold nx at hmem
      by_cases w : gt (placesM P c) j + 1 = P.n
      · rw [if_pos w] at hmem
        have g0 := rise_first rc hmem
        have hjl : j + 1 = (placesM P c).length := by
          rcases Nat.lt_or_ge (j + 1) (placesM P c).length with y | y
          · have h3 := rc.lt (show j < j + 1 by omega) y
            have h4 := lc _ (gt_mem y)
            omega
          · omega
        have h5 := far_add (n := P.n) 0 hs
        rw [Int.zero_add, show (0 : Int) = ((0 : Nat) : Int) from rfl, fj 0 hm, g0] at h5
        rw [show ((j : Int) + 1) = (placesM P c).length by omega, h5]
        omega
      · rw [if_neg w] at hmem
        obtain ⟨y1, y2⟩ := rc.next hj hmem
        rw [show ((j : Int) + 1) = ((j + 1 : Nat) : Int) by omega, fj _ y1, y2]
        omega
    · rw [far_add (n := P.n) (i : Int) hs] at h1
      exact absurd (by omega) hnm
  · exact absurd z.symm hne
  · rcases chainD (farM (placesM P c) P.n) (fun a => farM (placesM P d) P.n (J + a)) (fun a b hab => far_lt rd ld hg (by omega)) i (by rw [hfi]; exact z) (placesM P c).length with ⟨a, h1, h2⟩ | ⟨h1, _⟩
    · obtain ⟨j, hj, t, rfl⟩ := back a
      have ea := far_mul (n := P.n) (j : Int) t hs
      have eb := far_mul (n := P.n) (J + (j : Int)) t hg
      have ec := far_mul (n := P.n) ((j : Int) - 1) t hs
      rw [show (j : Int) - 1 + (placesM P c).length * t = (j : Int) + (placesM P c).length * t - 1 by omega] at ec
      rw [hlenI, show J + (j : Int) + (placesM P c).length * t = J + ((j : Int) + (placesM P c).length * t) by omega] at eb
      have h1' : farM (placesM P d) P.n (J + j) < (gt (placesM P c) j : Int) := by
        have h1 : farM (placesM P d) P.n (J + (j + (placesM P c).length * t)) < farM (placesM P c) P.n (j + (placesM P c).length * t) := h1
        rw [ea, eb, fj j hj] at h1
        omega
      have h2' : farM (placesM P c) P.n ((j : Int) - 1) + 1 ≠ (gt (placesM P c) j : Int) := by
        intro w
        apply h2
        rw [ea, ec, fj j hj]
        omega
      have hlj := lc _ (gt_mem hj)
      refine fin (gt (placesM P c) j) hlj j hj (.inr ⟨rfl, fun hmem => h2' ?_, h1'⟩)
      unfold prev at hmem
      by_cases w : gt (placesM P c) j = 0
      · rw [if_pos w] at hmem
        have g0 := rise_last rc lc hmem (by omega)
        have hj0 : j = 0 := by
          rcases Nat.eq_zero_or_pos j with y | y
          · exact y
          · have := rc.lt y hj; omega
        have h5 := far_sub (n := P.n) (((placesM P c).length : Int) - 1) hs
        rw [show ((placesM P c).length : Int) - 1 - (placesM P c).length = (j : Int) - 1 by omega] at h5
        rw [h5, show ((placesM P c).length : Int) - 1 = (((placesM P c).length - 1 : Nat) : Int) by omega, fj _ (by omega), g0]
        omega
      · rw [if_neg w] at hmem
        obtain ⟨y1, y2⟩ := rc.prev hj (by omega) hmem
        rw [show ((j : Int) - 1) = ((j - 1 : Nat) : Int) by omega, fj _ (by omega)]
        omega
    · rw [far_sub (n := P.n) (i : Int) hs] at h1
      exact absurd (by omega) hnm
theorem ring_E (hP : P.Ok) (hr : P.r = true) (hc : Cells P.n c) (hd : Cells P.n d) (hp : ¬ Plain P c d) (hlen : (placesM P c).length = (placesM P d).length) (m : Min P c d 0) : c = d := by
  have hlo := hP.lo
  have hlast : lastM P = P.n := by unfold lastM; rw [if_pos hr]
  have hs : placesM P c ≠ [] := fun z => hp (.inl z)
  have hg : placesM P d ≠ [] := fun z => hp (.inr (.inl z))
  have hm : 0 < (placesM P c).length := List.length_pos_iff.mpr hs
  have rc : Rise (placesM P c) := places_rise
  have rd : Rise (placesM P d) := places_rise
  have lc : ∀ x ∈ placesM P c, x < P.n := fun x hx => (mem_places hx).1
  have ld : ∀ x ∈ placesM P d, x < P.n := fun x hx => (mem_places hx).1
  obtain ⟨J, v, e⟩ := m.ex
  rw [costS_cst] at e
  have hq := cst_zero (fun p hp => (wp_le hP hc hp).1) _ _ _ (fun _ hp => hp) e
  have hJ : J = 0 := by
    have h1 := hq 0 hm
    have h2 := hq ((placesM P c).length - 1) (by omega)
    have a1 : ¬ J < 0 := fun z => by
      have := far_lo rd ld hg (show J + ((0 : Nat) : Int) < 0 by omega)
      omega
    have a2 : ¬ 0 < J := fun z => by
      have := far_hi rd ld hg (show ((placesM P d).length : Int) ≤ J + (((placesM P c).length - 1 : Nat) : Int) by omega)
      have := lc _ (gt_mem (l := placesM P c) (i := (placesM P c).length - 1) (by omega))
      omega
    omega
  subst hJ
  have hsame : placesM P c = placesM P d := ext_gt hlen fun i hi => by
    have := hq i hi
    rw [Int.zero_add, far_in (by omega) (by omega), Int.toNat_natCast] at this
    omega
  have hbeh : behind P d = behind P c := cy_ext (by rw [beh_len, beh_len, hlen]) fun i => by
    have := v i
    rwa [Int.add_zero] at this
  have hb : ∀ p ∈ placesM P c, gt c (nx P.n p) = gt d (nx P.n p) := by
    unfold behind at hbeh
    rw [← hsame] at hbeh
    exact fun p hp => (List.map_inj_left.mp hbeh p hp).symm
  have hst : ∀ i, i < P.n → gt c i = gt d i → gt c (nx P.n i) = gt d (nx P.n i) := fun i hi hsi => by
    by_cases hmem : i ∈ placesM P c
    · exact hb i hmem
    · have w1 := not_place (by omega) hmem
      have w2 := not_place (P := P) (c := d) (p := i) (by omega) (by rw [← hsame]; exact hmem)
      unfold wallM at w1 w2
      simp at w1 w2
      omega
  -- from one wall on round the ring
  have h0 := gt_mem hm
  have hl0 := lc _ h0
  have start := hb _ h0
  generalize nx P.n (gt (placesM P c) 0) = a at start
  have round : ∀ t : Nat, ∀ i, i < P.n → gt c i = gt d i → i + t < P.n → gt c (i + t) = gt d (i + t) := by
    intro t
    induction t with
    | zero => intro i _ h _; exact h
    | succ t ih =>
      intro i hi h hlt
      have := hst (i + t) (by omega) (ih i hi h (by omega))
      unfold nx at this
      rw [if_neg (by omega)] at this
      exact this
  have ha : a < P.n ∨ P.n ≤ a := Nat.lt_or_ge a P.n
  have zero : gt c 0 = gt d 0 := by
    have e1 := hb _ h0
    have hn := nx_lt hl0
    have := round (P.n - 1 - nx P.n (gt (placesM P c) 0)) _ hn e1 (by omega)
    rw [show nx P.n (gt (placesM P c) 0) + (P.n - 1 - nx P.n (gt (placesM P c) 0)) = P.n - 1 by omega] at this
    have h2 := hst (P.n - 1) (by omega) this
    unfold nx at h2
    rw [if_pos (by omega)] at h2
    exact h2
  refine ext_gt (by rw [hc.len, hd.len]) fun i hi => ?_
  rw [hc.len] at hi
  have := round i 0 (by omega) zero (by omega)
  rwa [Nat.zero_add] at this
end
end WW
set_option Elab.async false
set_option linter.all false
set_option maxRecDepth 100000
namespace WW
open PySem PySem.Spec L2
/-! the core: what a match costs is what a cheapest way costs -/
section
variable {P : Plan} {c d : List Nat} {k : Nat}
theorem rowC_some {C : Int} : RowC P c d (some C) ↔ RowOk P c d ∧ C = rcM P c d := by
  unfold RowC rcM
  by_cases h : RowOk P c d
  · rw [if_pos h]
    exact ⟨fun z => ⟨h, Option.some.inj z⟩, fun z => by rw [z.2]⟩
  · rw [if_neg h]
    exact ⟨fun z => (nomatch z), fun z => absurd z.1 h⟩
theorem ringC_min (hp : ¬ Plain P c d) {C : Int} (h : RingC P c d (some C)) : (placesM P c).length = (placesM P d).length ∧ Min P c d C := by
  rcases ring_min hp h with ⟨z, _⟩ | ⟨C', e, hl, m⟩
  · cases z
  · injection e with e
    rw [e]
    exact ⟨hl, m⟩
theorem minC_ring (hP : P.Ok) (hc : Cells P.n c) (hd : Cells P.n d) (hp : ¬ Plain P c d) {C : Int} (hl : (placesM P c).length = (placesM P d).length) (h : Min P c d C) : RingC P c d (some C) := by
  obtain ⟨_, o, _, ho, _⟩ := ring_told hP hc hd
  rw [← min_ring hp hl h ho]
  exact ho
theorem ringC_plain (hp : Plain P c d) {C : Int} (h : RingC P c d (some C)) : c = d ∧ C = 0 := by
  unfold RingC at h
  rw [if_pos hp] at h
  by_cases e : c = d
  · rw [if_pos e] at h
    exact ⟨e, Option.some.inj h⟩
  · rw [if_neg e] at h
    cases h
theorem ringC_turn (hP : P.Ok) (hr : P.r = true) (hc : Cells P.n c) (hk : k < P.n) {s : Nat} (h : turnM P c k = some s) {C : Int} (hm : RingC P c d (some C)) : ¬ Plain P c d := by
  intro hp
  obtain ⟨e, _⟩ := ringC_plain hp hm
  subst e
  obtain ⟨hmv, _⟩ := turn_mv hP hc hk h
  have hs : placesM P c ≠ [] := by
    have key : ∀ u v, Mv P c (c.set k s) u v → placesM P c ≠ [] := fun u v m z => by
      have hu : u ∈ placesM P c := List.mem_filter.mpr ⟨List.mem_range.mpr m.ul, m.wu⟩
      rw [z] at hu
      cases hu
    rcases hmv with m | m
    · exact key _ _ m
    · exact key _ _ m
  exact not_plain_turn hr hk hc hP h hs hp
theorem mat_T (hP : P.Ok) (h12 : P.n ≤ 12) (hc : Cells P.n c) (hd : Cells P.n d) (hk : k < P.n) {s : Nat} (h : turnM P c k = some s) {C : Int} (hm : MatC P c d (some C)) : ∃ C', MatC P (c.set k s) d (some C') ∧ C - (wM P (gt c k) s : Nat) ≤ C' := by
  have hc' : Cells P.n (c.set k s) := hc.set (turn_sign hc hk h)
  unfold MatC at hm ⊢
  cases hr : P.r with
  | false =>
    rw [if_pos hr] at hm
    obtain ⟨ok, e⟩ := rowC_some.mp hm
    obtain ⟨ok', e'⟩ := row_T hP hr hc hk h ok
    exact ⟨_, by rw [if_pos rfl]; exact rowC_some.mpr ⟨ok', rfl⟩, by omega⟩
  | true =>
    rw [if_neg (by rw [hr]; decide)] at hm
    by_cases hf : P.fz = []
    · rw [if_neg (fun z => z hf)] at hm
      have hp := ringC_turn hP hr hc hk h hm
      obtain ⟨hl, m⟩ := ringC_min hp hm
      obtain ⟨C', m', hle⟩ := ring_T hP hr hc hd hk h hp hl m
      obtain ⟨ε, j, dir, r⟩ := ring_mv hP hr hc hk h
      exact ⟨C', by rw [if_neg (by decide), if_neg (fun z => z hf)]; exact minC_ring hP hc' hd (plain_after hr r.len hp) (r.len.trans hl) m', hle⟩
    · rw [if_pos hf] at hm
      obtain ⟨ok, e⟩ := rowC_some.mp hm
      obtain ⟨ok', e'⟩ := open_T hP h12 hr hf hc hk h ok
      exact ⟨_, by rw [if_neg (by decide), if_pos hf]; exact rowC_some.mpr ⟨ok', rfl⟩, by omega⟩
theorem mat_D (hP : P.Ok) (h12 : P.n ≤ 12) (hc : Cells P.n c) (hd : Cells P.n d) {C : Int} (hm : MatC P c d (some C)) (hpos : 0 < C) : ∃ k s, k < P.n ∧ turnM P c k = some s ∧ MatC P (c.set k s) d (some (C - (wM P (gt c k) s : Nat))) := by
  unfold MatC at hm ⊢
  cases hr : P.r with
  | false =>
    rw [if_pos hr] at hm
    obtain ⟨ok, e⟩ := rowC_some.mp hm
    obtain ⟨k, s, hk, ht, ok', e'⟩ := row_D hP hr hc ok (by omega)
    exact ⟨k, s, hk, ht, by rw [if_pos rfl]; exact rowC_some.mpr ⟨ok', by omega⟩⟩
  | true =>
    rw [if_neg (by rw [hr]; decide)] at hm
    by_cases hf : P.fz = []
    · rw [if_neg (fun z => z hf)] at hm
      have hp : ¬ Plain P c d := fun z => by
        have := (ringC_plain z hm).2
        omega
      obtain ⟨hl, m⟩ := ringC_min hp hm
      obtain ⟨k, s, hk, ht, hp', hl', m'⟩ := ring_D hP hr hf hc hd hp hl m hpos
      exact ⟨k, s, hk, ht, by rw [if_neg (by decide), if_neg (fun z => z hf)]; exact minC_ring hP (hc.set (turn_sign hc hk ht)) hd hp' hl' m'⟩
    · rw [if_pos hf] at hm
      obtain ⟨ok, e⟩ := rowC_some.mp hm
      obtain ⟨k, s, hk, ht, ok', e'⟩ := open_D hP h12 hr hf hc ok (by omega)
      exact ⟨k, s, hk, ht, by rw [if_neg (by decide), if_pos hf]; exact rowC_some.mpr ⟨ok', by omega⟩⟩
theorem mat_E (hP : P.Ok) (h12 : P.n ≤ 12) (hc : Cells P.n c) (hd : Cells P.n d) (hm : MatC P c d (some 0)) : c = d := by
  unfold MatC at hm
  cases hr : P.r with
  | false =>
    rw [if_pos hr] at hm
    obtain ⟨ok, e⟩ := rowC_some.mp hm
    exact row_E hP hr hc hd ok e.symm
  | true =>
    rw [if_neg (by rw [hr]; decide)] at hm
    by_cases hf : P.fz = []
    · rw [if_neg (fun z => z hf)] at hm
      by_cases hp : Plain P c d
      · exact (ringC_plain hp hm).1
      · obtain ⟨hl, m⟩ := ringC_min hp hm
        exact ring_E hP hr hc hd hp hl m
    · rw [if_pos hf] at hm
      obtain ⟨ok, e⟩ := rowC_some.mp hm
      exact open_E hP h12 hf hc hd ok e.symm
theorem costS_nonneg (J : Int) : 0 ≤ costS P c d J := by
  rw [costS_cst]
  exact cst_nonneg _ _ _
theorem mat_N {C : Int} (hm : MatC P c d (some C)) : 0 ≤ C := by
  unfold MatC at hm
  by_cases hr : P.r = false
  · rw [if_pos hr] at hm
    rw [(rowC_some.mp hm).2]
    exact row_N
  · rw [if_neg hr] at hm
    by_cases hf : P.fz ≠ []
    · rw [if_pos hf] at hm
      rw [(rowC_some.mp hm).2]
      exact row_N
    · rw [if_neg hf] at hm
      by_cases hp : Plain P c d
      · rw [(ringC_plain hp hm).2]
        exact Int.le_refl _
      · obtain ⟨J, _, e⟩ := (ringC_min hp hm).2.ex
        rw [← e]
        exact costS_nonneg J
theorem cst_self (hlt : ∀ x ∈ placesM P c, x < P.n) (hs : placesM P c ≠ []) : costS P c c 0 = 0 := by
  have h : ∀ (l : List Nat) (j : Nat), (∀ i, i < l.length → farM (placesM P c) P.n ((j : Int) + i) = gt l i) → cst P c (farM (placesM P c) P.n) l j = 0 := by
    intro l
    induction l with
    | nil => intro j _; rfl
    | cons p l ih =>
      intro j h
      have h0 := h 0 (by rw [List.length_cons]; omega)
      rw [show (j : Int) + ((0 : Nat) : Int) = j by omega] at h0
      have h0' : farM (placesM P c) P.n j = (p : Int) := h0
      have := ih (j + 1) fun i hi => by
        have := h (i + 1) (by rw [List.length_cons]; omega)
        rw [gt_cons] at this
        rw [← this]
        congr 1
        omega
      show (wpM P c p : Int) * absI (farM (placesM P c) P.n j - p) + cst P c _ l ((j : Int) + 1) = 0
      rw [h0', Int.sub_self, show absI 0 = 0 from rfl, show ((j : Int) + 1) = ((j + 1 : Nat) : Int) by omega, this]
      omega
  rw [costS_cst]
  exact h _ 0 fun i hi => by
    rw [show ((0 : Nat) : Int) + (i : Int) = i by omega, far_in (by omega) (by omega), Int.toNat_natCast]
theorem mat_refl (hP : P.Ok) (h12 : P.n ≤ 12) (hc : Cells P.n c) : MatC P c c (some 0) := by
  unfold MatC
  by_cases hr : P.r = false
  · rw [if_pos hr]
    exact rowC_some.mpr ⟨row_refl hP hc, row_refl0.symm⟩
  · rw [if_neg hr]
    by_cases hf : P.fz ≠ []
    · rw [if_pos hf]
      exact rowC_some.mpr ⟨row_refl (openP_ok hP h12) (unr_cells hP hf hc), row_refl0.symm⟩
    · rw [if_neg hf]
      by_cases hp : Plain P c c
      · unfold RingC
        rw [if_pos hp, if_pos rfl]
      · refine minC_ring hP hc hc hp rfl ⟨⟨0, fun i => by rw [Int.add_zero], cst_self (fun x hx => (mem_places hx).1) fun z => hp (.inl z)⟩, fun J _ => costS_nonneg J⟩
theorem mat_fn {o o' : Option Int} (h : MatC P c d o) (h' : MatC P c d o') : o = o' := by
  unfold MatC at h h'
  by_cases hr : P.r = false
  · rw [if_pos hr] at h h'
    unfold RowC at h h'
    rw [h, h']
  · rw [if_neg hr] at h h'
    by_cases hf : P.fz ≠ []
    · rw [if_pos hf] at h h'
      unfold RowC at h h'
      rw [h, h']
    · rw [if_neg hf] at h h'
      by_cases hp : Plain P c d
      · unfold RingC at h h'
        rw [if_pos hp] at h h'
        rw [h, h']
      · rcases ring_min hp h with ⟨e, z⟩ | ⟨C, e, hl, m⟩
        · rcases ring_min hp h' with ⟨e', _⟩ | ⟨C', e', hl', m'⟩
          · rw [e, e']
          · rcases z with z | z
            · exact absurd hl' z
            · obtain ⟨J, v, _⟩ := m'.ex
              exact absurd v (z J)
        · rw [e, min_ring hp hl m h']
/-- a turn can be turned back -/
theorem turn_back (hP : P.Ok) (hc : Cells P.n c) (hk : k < P.n) {s : Nat} (h : turnM P c k = some s) : turnM P (c.set k s) k = some (gt c k) ∧ (c.set k s).set k (gt c k) = c := by
  have h8 : ∀ i, gt (c.set k s) i = if i = k then s else gt c i := fun i => gt_set c k s i (by rw [hc.len]; exact hk)
  have h3 := hP.lo
  have hpk : prev P.n k ≠ k := by unfold prev; split <;> omega
  have hnk : nx P.n k ≠ k := by unfold nx; split <;> omega
  refine ⟨?_, ?_⟩
  · obtain ⟨z1, z2, z3, z4⟩ := turnM_some h
    have hne : gt c (prev P.n k) ≠ gt c (nx P.n k) := by
      rcases z4 with ⟨w1, w2⟩ | ⟨w1, w2⟩
      · rw [← w1, ← w2]; exact Ne.symm z3
      · rw [← w1, ← w2]; exact z3
    unfold turnM
    rw [h8, if_neg hpk, h8, if_neg hnk, h8, if_pos rfl]
    rw [if_neg (by
      rintro (z | z | z)
      · exact z1 z
      · exact z2 z
      · exact hne z)]
    rcases z4 with ⟨w1, w2⟩ | ⟨w1, w2⟩
    · rw [if_neg (by rw [w2]; exact Ne.symm hne), if_pos w2, w1]
    · rw [if_pos w2, w1]
  · refine ext_gt (by rw [List.length_set, List.length_set]) fun i _ => ?_
    rw [gt_set _ _ _ _ (by rw [List.length_set, hc.len]; exact hk), h8]
    by_cases e : i = k
    · rw [if_pos e, e]
    · rw [if_neg e, if_neg e]
/-- cells that turns lead to -/
inductive Rch (P : Plan) (c : List Nat) : List Nat → Prop
  | refl : Rch P c c
  | turn {d : List Nat} {k s : Nat} : Rch P c d → k < P.n → turnM P d k = some s → Rch P c (d.set k s)
theorem Rch.cells (hc : Cells P.n c) {d : List Nat} (h : Rch P c d) : Cells P.n d := by
  induction h with
  | refl => exact hc
  | turn _ hk ht ih => exact ih.set (turn_sign ih hk ht)
theorem Rch.trans {e : List Nat} (h : Rch P c d) (g : Rch P d e) : Rch P c e := by
  induction g with
  | refl => exact h
  | turn _ hk ht ih => exact ih.turn hk ht
theorem Rch.symm (hP : P.Ok) (hc : Cells P.n c) (h : Rch P c d) : Rch P d c := by
  induction h with
  | refl => exact .refl
  | @turn d k s h hk ht ih =>
    obtain ⟨b1, b2⟩ := turn_back hP (h.cells hc) hk ht
    have := (Rch.refl (P := P) (c := d.set k s)).turn hk b1
    rw [b2] at this
    exact this.trans ih
/-- where turns lead there is a match -/
theorem rch_mat (hP : P.Ok) (h12 : P.n ≤ 12) (hc : Cells P.n c) (h : Rch P c d) : ∃ C, MatC P c d (some C) := by
  have hd := h.cells hc
  have back := h.symm hP hc
  have key : ∀ e, Rch P d e → ∃ C, MatC P e d (some C) := by
    intro e he
    induction he with
    | refl => exact ⟨0, mat_refl hP h12 hd⟩
    | turn g hk ht ih =>
      obtain ⟨C, m⟩ := ih
      obtain ⟨C', m', _⟩ := mat_T hP h12 (g.cells hd) hd hk ht m
      exact ⟨C', m'⟩
  exact key c back
end
end WW
set_option Elab.async false
set_option linter.all false
set_option maxRecDepth 100000
namespace WW
open PySem PySem.Spec L2
/-! least and way -/
section
variable {P : Plan} {c d : List Nat} {k : Nat}
theorem v_need_both (hP : P.Ok) (h12 : P.n ≤ 12) (hc : Cells P.n c) (hd : Cells P.n d) : p_need_both [P.D, .str (S c), .str (S d)] = .ok .non := by
  have h1 := v_need_plan hP h12
  have h2 := v_need_cells hP hc
  have h3 := v_need_cells hP hd
  unfold p_need_both fnD
  rw [p_need_both_den]
  generalize P.D = pd at *
  simp -implicitDefEqProofs [initE, h1, h2, h3]
theorem v_need_match (hP : P.Ok) (h12 : P.n ≤ 12) (hc : Cells P.n c) (hd : Cells P.n d) {C : Int} (hm : MatC P c d (some C)) : ∃ m, p_need_match [P.D, .str (S c), .str (S d)] = .ok m ∧ IsMatch m C := by
  have h1 := v_need_both hP h12 hc hd
  obtain ⟨m, o, e1, e2, e3⟩ := v_match_of hP h12 hc hd
  rw [mat_fn e2 hm] at e3
  rcases e3 with ⟨z, _⟩ | ⟨C', z, im⟩
  · cases z
  injection z with z
  subst z
  refine ⟨m, ?_, im⟩
  obtain ⟨a, b, e, rfl⟩ := im.1
  have hn : gIsN (matchD a b e) .non = .ok (.bl false) := rfl
  unfold p_need_match fnD
  rw [p_need_match_den]
  generalize matchD a b e = m at *
  generalize P.D = pd at *
  simp -implicitDefEqProofs [initE, h1, e1, hn]
theorem v_least (hP : P.Ok) (h12 : P.n ≤ 12) (hc : Cells P.n c) (hd : Cells P.n d) {C : Int} (hm : MatC P c d (some C)) : p_least [P.D, .str (S c), .str (S d)] = .ok (.int C) := by
  obtain ⟨m, h1, im⟩ := v_need_match hP h12 hc hd hm
  obtain ⟨⟨a, b, e, rfl⟩, h2⟩ := im
  have hi := match_cost a b e
  unfold p_least fnD
  rw [p_least_den]
  generalize matchD a b e = m at *
  generalize P.D = pd at *
  simp -implicitDefEqProofs [initE, h1, h2, hi]
theorem v_match_cost_of (hP : P.Ok) (h12 : P.n ≤ 12) (hc : Cells P.n c) (hd : Cells P.n d) {C : Int} (hm : MatC P c d (some C)) : ∃ m, p_match_of [P.D, .str (S c), .str (S d)] = .ok m ∧ p_Match_cost [m] = .ok (.int C) ∧ isIns ("Match" : Str) ("cost" : Str) m = true := by
  obtain ⟨m, o, e1, e2, e3⟩ := v_match_of hP h12 hc hd
  rw [mat_fn e2 hm] at e3
  rcases e3 with ⟨z, _⟩ | ⟨C', z, im⟩
  · cases z
  injection z with z
  subst z
  obtain ⟨⟨a, b, e, rfl⟩, h2⟩ := im
  exact ⟨_, e1, h2, match_cost a b e⟩
theorem turn_wt (hP : P.Ok) (hc : Cells P.n c) (hk : k < P.n) {s : Nat} (h : turnM P c k = some s) : 1 ≤ wM P (gt c k) s ∧ wM P (gt c k) s ≤ 9 := by
  obtain ⟨hmv, _⟩ := turn_mv hP hc hk h
  rcases hmv with m | m
  · rw [← turn_w hP hc hk h (.inl ⟨rfl, rfl⟩) m]
    exact wp_le hP hc (List.mem_filter.mpr ⟨List.mem_range.mpr m.ul, m.wu⟩)
  · rw [← turn_w hP hc hk h (.inr ⟨rfl, rfl⟩) m]
    exact wp_le hP hc (List.mem_filter.mpr ⟨List.mem_range.mpr m.ul, m.wu⟩)
/-- turns as pairs -/
def turnPD (P : Plan) (c : List Nat) (p : Nat × Nat) : D := .tup [natD p.1, .str (S (c.set p.1 p.2)), natD (wM P (gt c p.1) p.2)]
def turnsP (P : Plan) (c : List Nat) : List (Nat × Nat) := (List.range P.n).filterMap fun k => (turnM P c k).map fun s => (k, s)
theorem turns_eq : turnsM P c = (turnsP P c).map (turnPD P c) := by
  unfold turnsM turnsP
  rw [List.map_filterMap]
  congr 1
  funext k
  unfold turnD
  cases turnM P c k <;> rfl
theorem mem_turns {p : Nat × Nat} : p ∈ turnsP P c ↔ p.1 < P.n ∧ turnM P c p.1 = some p.2 := by
  unfold turnsP
  rw [List.mem_filterMap]
  constructor
  · rintro ⟨k, hk, e⟩
    cases q : turnM P c k with
    | none => rw [q] at e; cases e
    | some s =>
      rw [q] at e
      injection e with e
      subst e
      exact ⟨List.mem_range.mp hk, q⟩
  · rintro ⟨h1, h2⟩
    exact ⟨p.1, List.mem_range.mpr h1, by rw [h2]; rfl⟩
theorem turnsP_len : (turnsP P c).length ≤ P.n := by
  unfold turnsP
  exact Nat.le_trans (List.length_filterMap_le _ _) (by rw [List.length_range]; exact Nat.le_refl _)
/-- a way of the cheapest -/
inductive Pth (P : Plan) (d : List Nat) : List Nat → List Nat → Int → Prop
  | nil : Pth P d d [] 0
  | cons {c ks : List Nat} {k s : Nat} {C : Int} : MatC P c d (some C) → k < P.n → turnM P c k = some s → Pth P d (c.set k s) ks (C - (wM P (gt c k) s : Nat)) → Pth P d c (k :: ks) C
inductive Seg (P : Plan) (d c0 : List Nat) (C0 : Int) : List Nat → List Nat → Int → Prop
  | nil : Seg P d c0 C0 [] c0 C0
  | snoc {c ks : List Nat} {k s : Nat} {C : Int} : Seg P d c0 C0 ks c C → MatC P c d (some C) → k < P.n → turnM P c k = some s → Seg P d c0 C0 (ks ++ [k]) (c.set k s) (C - (wM P (gt c k) s : Nat))
theorem Seg.pth {c0 : List Nat} {C0 : Int} {ks : List Nat} {C : Int} (h : Seg P d c0 C0 ks c C) : ∀ ks', Pth P d c ks' C → Pth P d c0 (ks ++ ks') C0 := by
  induction h with
  | nil => intro ks' g; exact g
  | snoc _ hm hk ht ih =>
    intro ks' g
    rw [List.append_assoc]
    exact ih _ (.cons hm hk ht g)
def wyE (P : Plan) (c0 d : List Nat) (told : List Nat) (c : List Nat) (left : Int) (x6 x7 x8 x9 : Option Sl) : En := [some (.v P.D), some (.v (.str (S c0))), some (.v (.str (S d))), some (.l (told.map natD)), some (.v (.str (S c))), some (.v (.int left)), x6, x7, x8, x9]
theorem way_body (hP : P.Ok) (h12 : P.n ≤ 12) (hd : Cells P.n d) (c0 told : List Nat) {c' : List Nat} (hc' : Cells P.n c') (left : Int) (k w : Nat) (x9 : Option Sl) {C' : Int} (hm : MatC P c' d (some C')) : ∃ m, p_way_of_f1 (wyE P c0 d told c left (some (.v (natD k))) (some (.v (.str (S c')))) (some (.v (natD w))) x9) = if C' = left - w then .brk (wyE P c0 d told c left (some (.v (natD k))) (some (.v (.str (S c')))) (some (.v (natD w))) (some (.v m))) else .next (wyE P c0 d told c left (some (.v (natD k))) (some (.v (.str (S c')))) (some (.v (natD w))) (some (.v m))) := by
  obtain ⟨m, h1, h2, h3⟩ := v_match_cost_of hP h12 hc' hd hm
  refine ⟨m, ?_⟩
  unfold wyE
  rw [p_way_of_f1]
  generalize P.D = pd at *
  by_cases e : C' = left - w
  · rw [if_pos e]
    simp -implicitDefEqProofs [natD, h1, h2, h3, e]
  · rw [if_neg e]
    simp -implicitDefEqProofs [natD, h1, h2, h3, e]
theorem way_loop (hP : P.Ok) (h12 : P.n ≤ 12) (hc : Cells P.n c) (hd : Cells P.n d) (c0 told : List Nat) (left : Int) (hm : MatC P c d (some left)) : ∀ (l : List (Nat × Nat)) (x6 x7 x8 x9 : Option Sl), (∀ p ∈ l, p ∈ turnsP P c) → (∃ p ∈ l, MatC P (c.set p.1 p.2) d (some (left - (wM P (gt c p.1) p.2 : Nat)))) →
    ∃ k s y9, k < P.n ∧ turnM P c k = some s ∧ MatC P (c.set k s) d (some (left - (wM P (gt c k) s : Nat))) ∧ forL (gdTup [6, 7, 8]) p_way_of_f1 (l.map (turnPD P c)) (wyE P c0 d told c left x6 x7 x8 x9) = .next (wyE P c0 d told c left (some (.v (natD k))) (some (.v (.str (S (c.set k s))))) (some (.v (natD (wM P (gt c k) s)))) y9)
  | [], _, _, _, _, _, ⟨_, h, _⟩ => by cases h
  | p :: l, x6, x7, x8, x9, hl, hex => by
    obtain ⟨hk, ht⟩ := mem_turns.mp (hl p List.mem_cons_self)
    obtain ⟨k, s⟩ := p
    have hc' : Cells P.n (c.set k s) := hc.set (turn_sign hc hk ht)
    obtain ⟨C', m', _⟩ := mat_T hP h12 hc hd hk ht hm
    obtain ⟨m, hb⟩ := way_body hP h12 hd c0 told hc' left k (wM P (gt c k) s) x9 m' (c := c)
    have hgd : gdTup [6, 7, 8] (turnPD P c (k, s)) (wyE P c0 d told c left x6 x7 x8 x9) = some (wyE P c0 d told c left (some (.v (natD k))) (some (.v (.str (S (c.set k s))))) (some (.v (natD (wM P (gt c k) s)))) x9) := by
      unfold wyE turnPD
      simp
    rw [List.map_cons]
    by_cases e : C' = left - (wM P (gt c k) s : Nat)
    · rw [if_pos e] at hb
      refine ⟨k, s, some (.v m), hk, ht, by rw [← e]; exact m', ?_⟩
      conv => lhs; unfold forL
      rw [hgd]
      simp only [hb]
    · rw [if_neg e] at hb
      have hex' : ∃ p ∈ l, MatC P (c.set p.1 p.2) d (some (left - (wM P (gt c p.1) p.2 : Nat))) := by
        obtain ⟨q, hq, hmq⟩ := hex
        rcases List.mem_cons.mp hq with rfl | hq
        · have := mat_fn hmq m'
          injection this with this
          exact absurd this.symm e
        · exact ⟨q, hq, hmq⟩
      obtain ⟨k', s', y9, r1, r2, r3, r4⟩ := way_loop hP h12 hc hd c0 told left hm l (some (.v (natD k))) (some (.v (.str (S (c.set k s))))) (some (.v (natD (wM P (gt c k) s)))) (some (.v m)) (fun p hp => hl p (List.mem_cons_of_mem _ hp)) hex'
      refine ⟨k', s', y9, r1, r2, r3, ?_⟩
      conv => lhs; unfold forL
      rw [hgd]
      simp only [hb]
      exact r4
theorem v_way_of (hP : P.Ok) (h12 : P.n ≤ 12) (hc : Cells P.n c) (hd : Cells P.n d) {C : Int} (hm : MatC P c d (some C)) (hC : C ≤ 100000) : ∃ ks : List Nat, p_way_of [P.D, .str (S c), .str (S d)] = .ok (.lst (ks.map natD)) ∧ Pth P d c ks C ∧ (ks.length : Int) ≤ C := by
  have h5 := LIM_n
  obtain ⟨m, h1, h2, h3⟩ := v_match_cost_of hP h12 hc hd hm
  have hN := mat_N hm
  have T : ∀ told c1 left x6 x7 x8 x9, p_way_of_w1t (wyE P c d told c1 left x6 x7 x8 x9) = .ok (decide (0 < left), wyE P c d told c1 left x6 x7 x8 x9) := fun told c1 left x6 x7 x8 x9 => by
    unfold wyE
    rw [p_way_of_w1t]
    simp
  obtain ⟨e', hw, ⟨told, y6, y7, y8, y9, rfl, hseg, hlen⟩⟩ := sWhile_inv (c := p_way_of_w1t) (b := p_way_of_w1)
    (fun m e => ∃ told c1 left x6 x7 x8 x9, e = wyE P c d told c1 left x6 x7 x8 x9 ∧ Cells P.n c1 ∧ MatC P c1 d (some left) ∧ Seg P d c C told c1 left ∧ (told.length : Int) + left ≤ C ∧ m = left.toNat)
    (fun e => ∃ told x6 x7 x8 x9, e = wyE P c d told d 0 x6 x7 x8 x9 ∧ Seg P d c C told d 0 ∧ (told.length : Int) ≤ C) (by
    rintro m e ⟨told, c1, left, x6, x7, x8, x9, rfl, hc1, hm1, hseg, hlen, rfl⟩
    have hN1 := mat_N hm1
    refine ⟨_, _, T _ _ _ _ _ _ _, ?_⟩
    by_cases hpos : 0 < left
    · rw [decide_eq_true hpos, if_pos rfl]
      obtain ⟨k0, s0, hk0, ht0, hm0⟩ := mat_D hP h12 hc1 hd hm1 hpos
      obtain ⟨k, s, z9, hk, ht, hm2, hl⟩ := way_loop hP h12 hc1 hd c told left hm1 (turnsP P c1) x6 x7 x8 x9 (fun _ h => h) ⟨(k0, s0), mem_turns.mpr ⟨hk0, ht0⟩, hm0⟩
      have hwt := turn_wt hP hc1 hk ht
      have hN2 := mat_N hm2
      have vt := v_turns_of hP hc1
      rw [turns_eq] at vt
      refine ⟨(left - (wM P (gt c1 k) s : Nat)).toNat, wyE P c d (told ++ [k]) (c1.set k s) (left - (wM P (gt c1 k) s : Nat)) (some (.v (natD k))) (some (.v (.str (S (c1.set k s))))) (some (.v (natD (wM P (gt c1 k) s)))) z9, by omega, .inl ?_, ⟨_, _, _, _, _, _, _, rfl, hc1.set (turn_sign hc1 hk ht), hm2, .snoc hseg hm1 hk ht, ?_, rfl⟩⟩
      · rw [p_way_of_w1, e_seq, e_for]
        have hi : iVal (dCall p_turns_of (dCons (dVar 0) (dCons (dVar 4) (dNil)))) (wyE P c d told c1 left x6 x7 x8 x9) = .ok ((turnsP P c1).map (turnPD P c1), wyE P c d told c1 left x6 x7 x8 x9) := by
          unfold wyE
          generalize P.D = pd at *
          generalize (turnsP P c1).map (turnPD P c1) = tl at *
          simp -implicitDefEqProofs [vt]
        rw [hi, r_toS_ok, kFor_e, hl, s_next]
        have hlt : told.length < LIM := by omega
        unfold wyE
        simp -implicitDefEqProofs [hlt, natD]
      · rw [List.length_append, List.length_singleton]
        omega
    · rw [decide_eq_false hpos, if_neg (by decide)]
      have h0 : left = 0 := by omega
      subst h0
      have := mat_E hP h12 hc1 hd hm1
      subst this
      exact ⟨told, x6, x7, x8, x9, rfl, hseg, by omega⟩) C.toNat (wyE P c d [] c C none none none none) ⟨[], c, C, none, none, none, none, rfl, hc, hm, .nil, by simp, rfl⟩ (by omega)
  refine ⟨told, ?_, ?_, hlen⟩
  · unfold p_way_of fnD
    rw [p_way_of_den_eq]
    have A1 : sParO 3 4 (oLst (dNil)) (dVar 1) (initE 10 [P.D, .str (S c), .str (S d)]) = .next [some (.v P.D), some (.v (.str (S c))), some (.v (.str (S d))), some (.l []), some (.v (.str (S c))), none, none, none, none, none] := by
      generalize P.D = pd at *
      simp -implicitDefEqProofs [initE]
    have A2 : sAsg 5 (dMethD ("Match" : Str) ("cost" : Str) p_Match_cost (dCall p_match_of (dCons (dVar 0) (dCons (dVar 1) (dCons (dVar 2) (dNil))))) (dNil)) [some (.v P.D), some (.v (.str (S c))), some (.v (.str (S d))), some (.l []), some (.v (.str (S c))), none, none, none, none, none] = .next (wyE P c d [] c C none none none none) := by
      unfold wyE
      generalize P.D = pd at *
      simp -implicitDefEqProofs [h1, h2, h3]
    rw [e_seq, A1, s_next, e_seq, A2, s_next, e_seq, hw, s_next]
    unfold wyE
    simp
  · have := hseg.pth [] .nil
    rwa [List.append_nil] at this
theorem v_way (hP : P.Ok) (h12 : P.n ≤ 12) (hc : Cells P.n c) (hd : Cells P.n d) {C : Int} (hm : MatC P c d (some C)) (hC : C ≤ 100000) : ∃ ks : List Nat, p_way [P.D, .str (S c), .str (S d)] = .ok (.lst (ks.map natD)) ∧ Pth P d c ks C ∧ (ks.length : Int) ≤ C := by
  obtain ⟨ks, h1, h2, h3⟩ := v_way_of hP h12 hc hd hm hC
  obtain ⟨m, h4, _⟩ := v_need_match hP h12 hc hd hm
  refine ⟨ks, ?_, h2, h3⟩
  unfold p_way fnD
  rw [p_way_den]
  generalize P.D = pd at *
  simp -implicitDefEqProofs [initE, h1, h4]
end
end WW
set_option Elab.async false
set_option linter.all false
set_option maxRecDepth 100000
namespace WW
open PySem PySem.Spec L2
/-! judged; the law's walk -/
section
variable {P : Plan} {c d : List Nat} {k : Nat}
def jdE (P : Plan) (c0 d : List Nat) (told : D) (spent : Int) (c : List Nat) (x6 x7 x8 : Option Sl) : En := [some (.v P.D), some (.v (.str (S c0))), some (.v (.str (S d))), some (.v told), some (.v (.int spent)), some (.v (.str (S c))), x6, x7, x8]
theorem v_weight_turn (hP : P.Ok) (hc : Cells P.n c) (hk : k < P.n) {s : Nat} (h : turnM P c k = some s) : p_weight_of [P.D, .str (S [gt c k]), .str (S [s])] = .ok (natD (wM P (gt c k) s)) := by
  have h2 := (turnM_some h).2.2.1
  exact v_weight hP (hc.get hk) (turn_sign hc hk h) (Ne.symm h2)
theorem jd_body (hP : P.Ok) (c0 : List Nat) (told : D) (spent : Int) (hc : Cells P.n c) (hk : k < P.n) {s : Nat} (h : turnM P c k = some s) (x6 x8 : Option Sl) : p_judged_f1 (jdE P c0 d told spent c x6 (some (.v (natD k))) x8) = .next (jdE P c0 d told (spent + (wM P (gt c k) s : Nat)) (c.set k s) x6 (some (.v (natD k))) (some (.v (.str (S [s]))))) := by
  have h5 := LIM_n
  have hi := hP.hi
  have hl := hc.len
  have h1 := v_number k 0 ((P.n : Int) - 1)
  rw [decide_eq_true (by omega), decide_eq_true (by omega)] at h1
  have h2 := v_turned hP hc hk
  rw [h] at h2
  have h3 := v_weight_turn hP hc hk h
  have h4 := v_with (c := c) s (by rw [hl]; exact hk) (by omega)
  have h6 : gIx (.str (S c)) (.int (k : Int)) = .ok (.str (S [gt c k])) := by
    rw [ix_S c _ (by omega) (by omega) (by omega), at_nat]
  have e1 : gIx P.D (.int 1) = .ok (.int P.n) := by unfold Plan.D; simp
  have h2' : p_turned [P.D, .str (S c), .int k] = .ok (.str (S [s])) := h2
  unfold jdE
  generalize P.D = pd at *
  rw [p_judged_f1]
  simp -implicitDefEqProofs [natD] at h1 h3 ⊢
  simp -implicitDefEqProofs [e1, h1, h2', h3, h4, h6]
theorem jd_loop (hP : P.Ok) (c0 : List Nat) (told : D) {ks : List Nat} {C : Int} (h : Pth P d c ks C) : ∀ (k0 : Nat) (spent : Int) (x6 x7 x8 : Option Sl), Cells P.n c → ∃ y6 y7 y8, forL (gdTup [6, 7]) p_judged_f1 (enD k0 (ks.map natD)) (jdE P c0 d told spent c x6 x7 x8) = .next (jdE P c0 d told (spent + C) d y6 y7 y8) := by
  induction h with
  | nil =>
    intro k0 spent x6 x7 x8 _
    exact ⟨x6, x7, x8, by rw [Int.add_zero]; rfl⟩
  | @cons c ks k s C hm hk ht g ih =>
    intro k0 spent x6 x7 x8 hc
    have hb := jd_body (d := d) hP c0 told spent hc hk ht (some (.v (natD k0))) x8
    obtain ⟨y6, y7, y8, h2⟩ := ih (k0 + 1) (spent + (wM P (gt c k) s : Nat)) (some (.v (natD k0))) (some (.v (natD k))) (some (.v (.str (S [s])))) (hc.set (turn_sign hc hk ht))
    refine ⟨y6, y7, y8, ?_⟩
    rw [List.map_cons]
    show forL (gdTup [6, 7]) p_judged_f1 (.tup [natD k0, natD k] :: enD (k0 + 1) (ks.map natD)) _ = _
    have hgd : gdTup [6, 7] (.tup [natD k0, natD k]) (jdE P c0 d told spent c x6 x7 x8) = some (jdE P c0 d told spent c (some (.v (natD k0))) (some (.v (natD k))) x8) := by
      unfold jdE
      simp
    conv => lhs; unfold forL
    rw [hgd]
    simp only [hb]
    rw [h2]
    congr 2
    omega
theorem v_judged (hP : P.Ok) (h12 : P.n ≤ 12) (hc : Cells P.n c) (hd : Cells P.n d) {ks : List Nat} {C : Int} (h : Pth P d c ks C) : p_judged [P.D, .str (S c), .str (S d), .lst (ks.map natD)] = .ok (.int C) := by
  have h1 := v_need_both hP h12 hc hd
  obtain ⟨y6, y7, y8, h2⟩ := jd_loop hP c (.lst (ks.map natD)) h 0 0 none none none hc
  rw [Int.zero_add] at h2
  have h3 := eq_S d d
  rw [decide_eq_true rfl] at h3
  unfold p_judged fnD
  rw [p_judged_den_eq]
  have A1 : sDrop (dCall p_need_both (dCons (dVar 0) (dCons (dVar 1) (dCons (dVar 2) (dNil))))) (initE 9 [P.D, .str (S c), .str (S d), .lst (ks.map natD)]) = .next (initE 9 [P.D, .str (S c), .str (S d), .lst (ks.map natD)]) := by
    generalize P.D = pd at *
    simp -implicitDefEqProofs [initE, h1]
  have A2 : sIf (dNot (dTest (dIsi "list" (dVar 3)))) (sBad) (sNext) (initE 9 [P.D, .str (S c), .str (S d), .lst (ks.map natD)]) = .next (initE 9 [P.D, .str (S c), .str (S d), .lst (ks.map natD)]) := by
    generalize P.D = pd at *
    simp [initE]
  have A3 : sPar 4 5 (dC (.int 0)) (dVar 1) (initE 9 [P.D, .str (S c), .str (S d), .lst (ks.map natD)]) = .next (jdE P c d (.lst (ks.map natD)) 0 c none none none) := by
    unfold jdE
    generalize P.D = pd at *
    simp [initE]
  have A4 : iEnumd (dCons (dVar 3) (dNil)) (jdE P c d (.lst (ks.map natD)) 0 c none none none) = .ok (enD 0 (ks.map natD), jdE P c d (.lst (ks.map natD)) 0 c none none none) := by
    unfold jdE
    generalize P.D = pd at *
    simp
  rw [e_seq, A1, s_next, e_seq, A2, s_next, e_seq, A3, s_next, e_seq, e_for, A4, r_toS_ok, kFor_e, h2, s_next]
  unfold jdE
  generalize P.D = pd at *
  simp -implicitDefEqProofs [h3]
/-- where t turns lead -/
inductive RchN (P : Plan) (c : List Nat) : List Nat → Nat → Prop
  | refl : RchN P c c 0
  | turn {d : List Nat} {k s t : Nat} : RchN P c d t → k < P.n → turnM P d k = some s → RchN P c (d.set k s) (t + 1)
theorem RchN.rch {t : Nat} (h : RchN P c d t) : Rch P c d := by
  induction h with
  | refl => exact .refl
  | turn _ hk ht ih => exact ih.turn hk ht
theorem rchn_mat (hP : P.Ok) (h12 : P.n ≤ 12) (hc : Cells P.n c) {t : Nat} (h : RchN P c d t) : ∃ C, MatC P c d (some C) := rch_mat hP h12 hc h.rch
/-- a way of t turns: the match costs no more -/
theorem back_le (hP : P.Ok) (h12 : P.n ≤ 12) (hc : Cells P.n c) {e : List Nat} (he : Cells P.n e) {t : Nat} (h : RchN P c d t) : ∀ {C0 C1 : Int}, MatC P c e (some C0) → MatC P d e (some C1) → C0 ≤ C1 + 9 * t := by
  induction h with
  | refl =>
    intro C0 C1 h0 h1
    have := mat_fn h0 h1
    injection this with this
    omega
  | @turn d k s t g hk ht ih =>
    intro C0 C1 h0 h1
    have hd := g.rch.cells hc
    have hd' : Cells P.n (d.set k s) := hd.set (turn_sign hd hk ht)
    obtain ⟨b1, b2⟩ := turn_back hP hd hk ht
    obtain ⟨C2, m2, hle⟩ := mat_T hP h12 hd' he hk b1 h1
    rw [b2] at m2
    have := ih h0 m2
    -- turn once more from d
    obtain ⟨C3, m3, hle3⟩ := mat_T hP h12 hd he hk ht m2
    have e3 := mat_fn m3 h1
    injection e3 with e3
    have hw := turn_wt hP hd hk ht
    omega
theorem rchn_le (hP : P.Ok) (h12 : P.n ≤ 12) (hc : Cells P.n c) {t : Nat} (h : RchN P c d t) {C : Int} (hm : MatC P c d (some C)) : C ≤ 9 * t := by
  have hd := h.rch.cells hc
  have := back_le hP h12 hc hd h hm (mat_refl hP h12 hd)
  omega
/-- the law's walk -/
theorem turn_nice (hc : Cells P.n c) {p : Nat × Nat} (hp : p ∈ turnsP P c) : Nice 1 (turnPD P c p) := by
  obtain ⟨hk, ht⟩ := mem_turns.mp hp
  refine nice_tup fun x hx => ?_
  have hc' := hc.set (k := p.1) (turn_sign hc hk ht)
  simp only [List.mem_cons, List.not_mem_nil, or_false] at hx
  rcases hx with rfl | rfl | rfl
  · exact nice_int 0 _
  · exact nice_S 0 _ fun y hy => by have := (hc'.sg y hy).2; omega
  · exact nice_int 0 _
def wkE (P : Plan) (a : Addr) (ns : List Int) (st : Int) (c : List Nat) (most : Int) (done : List Nat) (x5 x6 x7 x8 : Option Sl) : En := [some (.box a ns st), some (.v P.D), some (.v (.str (S c))), some (.v (.int most)), some (.l (done.map natD)), x5, x6, x7, x8]
theorem walk_body (hP : P.Ok) (a : Addr) (ns : List Int) (st : Int) (hc : Cells P.n c) (most : Int) (done : List Nat) (hdn : done.length < 1000) (x5 x6 x7 x8 : Option Sl) : ∃ ns' st' c' done' y6 y7 y8, f_law_walk_f1 (wkE P a ns st c most done x5 x6 x7 x8) = .next (wkE P a ns' st' c' most done' x5 y6 y7 y8) ∧ Cells P.n c' ∧ ((c' = c ∧ done' = done) ∨ ∃ k s, k < P.n ∧ turnM P c k = some s ∧ c' = c.set k s ∧ done' = done ++ [k]) := by
  have h5 := LIM_n
  have hi := hP.hi
  have vt := v_law_turns hP hc
  rw [turns_eq] at vt
  have hnil := eq_lst_nil (l := (turnsP P c).map (turnPD P c)) (k := 1) (fun x hx => by
    obtain ⟨p, hp, rfl⟩ := List.mem_map.mp hx
    exact turn_nice hc hp) (by omega)
  have hlen : gLen [.lst ((turnsP P c).map (turnPD P c))] = .ok (.int (turnsP P c).length) := by rw [len_lst, List.length_map]
  have hlp := turnsP_len (P := P) (c := c)
  cases q : turnsP P c with
  | nil =>
    rw [q] at vt hnil
    have hnil' : gEq (.lst []) (.lst []) = .ok (.bl true) := hnil
    have vt' : f_law_turns [P.D, .str (S c)] = .ok (.lst []) := vt
    refine ⟨ns, st, c, done, some (.v (.lst [])), x7, x8, ?_, hc, .inl ⟨rfl, rfl⟩⟩
    unfold wkE
    rw [f_law_walk_f1]
    generalize P.D = pd at *
    simp -implicitDefEqProofs [vt', hnil']
  | cons p0 l =>
    have hpos : 0 < (turnsP P c).length := by rw [q]; simp
    obtain ⟨v, ns', st', ht, hv⟩ := take_ok a ns st ((turnsP P c).length : Int) (by omega) (by omega)
    have hv2 : v < (turnsP P c).length := by omega
    have hmem : (turnsP P c)[v] ∈ turnsP P c := List.getElem_mem hv2
    have hix : gIx (.lst ((turnsP P c).map (turnPD P c))) (.int (v : Int)) = .ok (turnPD P c (turnsP P c)[v]) := by
      refine ix_lst_nat _ v _ ?_
      rw [List.getElem?_map, List.getElem?_eq_getElem hv2]
      rfl
    generalize (turnsP P c)[v] = p at *
    obtain ⟨k, s⟩ := p
    obtain ⟨hk, htn⟩ := mem_turns.mp hmem
    refine ⟨ns', st', c.set k s, done ++ [k], some (.v (.lst ((turnsP P c).map (turnPD P c)))), some (.v (natD k)), some (.v (natD (wM P (gt c k) s))), ?_, hc.set (turn_sign hc hk htn), .inr ⟨k, s, hk, htn, rfl, rfl⟩⟩
    have hne : ((turnsP P c).map (turnPD P c)).isEmpty = false := by rw [q]; rfl
    rw [hne] at hnil
    have hix2 : gIx (.lst ((turnsP P c).map (turnPD P c))) (.int (v : Int)) = .ok (.tup [natD k, .str (S (c.set k s)), natD (wM P (gt c k) s)]) := hix
    have hdl : done.length < LIM := by omega
    clear q
    unfold wkE
    rw [f_law_walk_f1]
    generalize P.D = pd at *
    generalize D.lst ((turnsP P c).map (turnPD P c)) = tl at *
    simp -implicitDefEqProofs [vt, hnil, hlen, ht, hix2, hdl, natD]
theorem v_law_walk (hP : P.Ok) (hc : Cells P.n c) (a : Addr) (ns : List Int) (st : Int) (most : Nat) (h0 : 0 < most) (hm : most ≤ 100) : ∃ (d done : List Nat) (t : Nat) (ns' : List Int) (st' : Int), RchN P c d t ∧ t ≤ most ∧ f_law_walk (a, ns, st) [P.D, .str (S c), .int most] = .ok (.tup [.str (S d), .lst (done.map natD)], (a, ns', st')) := by
  have h5 := LIM_n
  obtain ⟨v, ns1, st1, ht, hv⟩ := take_ok a ns st (most : Int) (by omega) (by omega)
  have hr : asRange [.int (v : Int)] = .ok (intsD 0 v) := rangeN v (by omega)
  obtain ⟨e', hl, ⟨ns2, st2, d, done, x5, x6, x7, x8, rfl, hd, ⟨t, hrch, htk⟩, hdone⟩⟩ := forL_inv (g := gdName 5) (b := f_law_walk_f1) (fun k e => ∃ ns st c1 done x5 x6 x7 x8, e = wkE P a ns st c1 most done x5 x6 x7 x8 ∧ Cells P.n c1 ∧ (∃ t, RchN P c c1 t ∧ t ≤ k) ∧ done.length ≤ k) (intsD 0 v) (wkE P a ns1 st1 c most [] none none none none) 0 ⟨ns1, st1, c, [], none, none, none, none, rfl, hc, ⟨0, .refl, Nat.le_refl _⟩, Nat.le_refl _⟩ (by
    rintro j z e hj ⟨ns, st, c1, done, x5, x6, x7, x8, rfl, hc1, ⟨t, hrch, htk⟩, hdone⟩
    obtain ⟨hj2, rfl⟩ := intsD_get hj
    obtain ⟨ns', st', c', done', y6, y7, y8, hb, hc', hcase⟩ := walk_body hP a ns st hc1 most done (by omega) (some (.v (natD j))) x6 x7 x8
    refine ⟨wkE P a ns st c1 most done (some (.v (natD j))) x6 x7 x8, _, by unfold wkE natD; simp, .inl hb, ns', st', c', done', _, _, _, _, rfl, hc', ?_, ?_⟩
    · rcases hcase with ⟨rfl, _⟩ | ⟨k, s, hk, htn, rfl, _⟩
      · exact ⟨t, hrch, by omega⟩
      · exact ⟨t + 1, hrch.turn hk htn, by omega⟩
    · rcases hcase with ⟨_, rfl⟩ | ⟨k, s, hk, htn, _, rfl⟩
      · omega
      · rw [List.length_append, List.length_singleton]; omega)
  have hvl : (intsD 0 v).length = v := by unfold intsD; simp
  refine ⟨d, done, t, ns2, st2, hrch, by rw [hvl] at htk; omega, ?_⟩
  unfold f_law_walk fnB
  rw [f_law_walk_den_eq]
  have A1 : sAsgO 4 (oLst (dNil)) (initB 9 (a, ns, st) [P.D, .str (S c), .int most]) = .next [some (.box a ns st), some (.v P.D), some (.v (.str (S c))), some (.v (.int most)), some (.l []), none, none, none, none] := by
    generalize P.D = pd at *
    simp [initB]
  have A2 : iRange (dCons (dCallB f_law_take 0 (dCons (dVar 3) (dNil))) (dNil)) [some (.box a ns st), some (.v P.D), some (.v (.str (S c))), some (.v (.int most)), some (.l []), none, none, none, none] = .ok (intsD 0 v, wkE P a ns1 st1 c most [] none none none none) := by
    unfold wkE
    generalize P.D = pd at *
    simp -implicitDefEqProofs [ht, hr]
  rw [e_seq, A1, s_next, e_seq, e_for, A2, r_toS_ok, kFor_e, hl, s_next]
  unfold wkE
  simp
end
end WW
set_option Elab.async false
set_option linter.all false
set_option maxRecDepth 100000
namespace WW
open PySem PySem.Spec L2
/-! k14: the law -/
section
variable {P : Plan} {c d : List Nat} {k : Nat}
theorem Pth.mat (hP : P.Ok) (h12 : P.n ≤ 12) (hd : Cells P.n d) {ks : List Nat} {C : Int} (h : Pth P d c ks C) : MatC P c d (some C) := by
  cases h with
  | nil => exact mat_refl hP h12 hd
  | cons hm _ _ _ => exact hm
def bhD (P : Plan) (c : List Nat) (p : Nat × Nat) : D := .tup [.str (S (c.set p.1 p.2)), natD (wM P (gt c p.1) p.2)]
theorem v_law_behind (hP : P.Ok) (hc : Cells P.n c) (hk : k < P.n) {s : Nat} (h : turnM P c k = some s) : f_law_behind [P.D, .str (S c), natD k] = .ok (bhD P c (k, s)) := by
  have h5 := LIM_n
  have hi := hP.hi
  have vt := v_law_turns hP hc
  rw [turns_eq] at vt
  have hlp := turnsP_len (P := P) (c := c)
  have h7 := compL_filT (vs := [4, 5, 6]) (g := gdTup [4, 5, 6]) (t := f_law_behind_t1) (el := f_law_behind_e1) (e := [some (.v P.D), some (.v (.str (S c))), some (.v (natD k)), none, none, none, none]) (turnPD P c) (bhD P c) (fun p => decide (p.1 = k)) (turnsP P c) (by
    rintro ⟨j, s'⟩ hp
    generalize P.D = pd
    have e : decide ((j : Int) = (k : Int)) = decide (j = k) := decide_eq_decide.mpr (by omega)
    generalize hw : natD (wM P (gt c j) s') = wd
    have hbd : bhD P c (j, s') = .tup [.str (S (c.set j s')), wd] := by rw [← hw]; rfl
    have htd : turnPD P c (j, s') = .tup [natD j, .str (S (c.set j s')), wd] := by rw [← hw]; rfl
    refine ⟨[some (.v pd), some (.v (.str (S c))), some (.v (natD k)), none, some (.v (natD j)), some (.v (.str (S (c.set j s')))), some (.v wd)], [some (.v pd), some (.v (.str (S c))), some (.v (natD k)), none, some (.v (natD j)), some (.v (.str (S (c.set j s')))), some (.v wd)], by rw [htd]; simp, by rw [f_law_behind_t1]; simp [natD, e], fun _ => by simp [natD], fun _ => ⟨[some (.v pd), some (.v (.str (S c))), some (.v (natD k)), none, some (.v (natD j)), some (.v (.str (S (c.set j s')))), some (.v wd)], by rw [f_law_behind_e1, hbd]; simp, by simp [natD]⟩⟩)
  have hmem : (k, s) ∈ (turnsP P c).filter fun p => decide (p.1 = k) := List.mem_filter.mpr ⟨mem_turns.mpr ⟨hk, h⟩, decide_eq_true rfl⟩
  have hall : ∀ p ∈ (turnsP P c).filter fun p => decide (p.1 = k), p = (k, s) := fun p hp => by
    obtain ⟨h1, h2⟩ := List.mem_filter.mp hp
    obtain ⟨_, h3⟩ := mem_turns.mp h1
    have h4 : p.1 = k := of_decide_eq_true h2
    obtain ⟨j, s'⟩ := p
    have h4' : j = k := h4
    subst h4'
    have h3' : turnM P c j = some s' := h3
    rw [h] at h3'
    injection h3' with h3'
    rw [h3']
  have hlf : ((turnsP P c).filter fun p => decide (p.1 = k)).length ≤ P.n := Nat.le_trans (List.length_filter_le _ _) hlp
  have hnice : ∀ x ∈ ((turnsP P c).filter fun p => decide (p.1 = k)).map (bhD P c), Nice 1 x := fun x hx => by
    obtain ⟨p, hp, rfl⟩ := List.mem_map.mp hx
    have hp2 := (List.mem_filter.mp hp).1
    obtain ⟨hk2, ht2⟩ := mem_turns.mp hp2
    have hc' := hc.set (k := p.1) (turn_sign hc hk2 ht2)
    refine nice_tup fun y hy => ?_
    simp only [List.mem_cons, List.not_mem_nil, or_false] at hy
    rcases hy with rfl | rfl
    · exact nice_S 0 _ fun z hz => by have := (hc'.sg z hz).2; omega
    · exact nice_int 0 _
  have hnil := eq_lst_nil hnice (by omega)
  have hl0 : ((turnsP P c).map (turnPD P c)).length ≤ LIM := by rw [List.length_map]; omega
  cases q : (turnsP P c).filter fun p => decide (p.1 = k) with
  | nil => rw [q] at hmem; cases hmem
  | cons p l =>
    have hp := hall p (by rw [q]; exact List.mem_cons_self)
    rw [q, hp] at h7 hnil
    have hix : gIx (.lst (((k, s) :: l).map (bhD P c))) (.int 0) = .ok (bhD P c (k, s)) := by rw [List.map_cons]; exact ix_l0 _ _
    have hnil' : gEq (.lst (((k, s) :: l).map (bhD P c))) (.lst []) = .ok (.bl false) := hnil
    unfold f_law_behind fnD
    rw [f_law_behind_den_eq]
    generalize P.D = pd at *
    generalize natD k = kd at *
    generalize ((k, s) :: l).map (bhD P c) = bl at *
    generalize (turnsP P c).map (turnPD P c) = tl at *
    simp -implicitDefEqProofs [initE, vt, hl0, h7, hnil', hix]
/-- the law's slots -/
def lwE (P : Plan) (a : Addr) (ns : List Int) (st : Int) (x2 : Option Sl) (one d : List Nat) (told : D) (c : List Nat) (left : Int) (x9 x10 : Option Sl) : En := [none, some (.box a ns st), x2, some (.v P.D), some (.v (.str (S one))), some (.v (.str (S d))), some (.v told), some (.v (.str (S c))), some (.v (.int left)), x9, x10]
theorem alk_int (i : Int) : f_law_alike 8 [.int i, .int i] = .ok (.bl true) := alike_refl 7 _ (.int 7 i)
theorem law_body1 (hP : P.Ok) (h12 : P.n ≤ 12) (a : Addr) (ns : List Int) (st : Int) (x2 : Option Sl) (one : List Nat) (hd : Cells P.n d) (ks : List Nat) (hc : Cells P.n c) {C : Int} (i : Nat) (hi : i < ks.length) (x10 : Option Sl) (h : Pth P d c (ks.drop i) C) :
    ∃ s C', turnM P c ks[i] = some s ∧ ks[i] < P.n ∧ Pth P d (c.set ks[i] s) (ks.drop (i + 1)) C' ∧ ∃ y10, law_f1 (lwE P a ns st x2 one d (.lst (ks.map natD)) c C (some (.v (natD i))) x10) = .next (lwE P a ns st x2 one d (.lst (ks.map natD)) (c.set ks[i] s) C' (some (.v (natD i))) y10) := by
  rw [List.drop_eq_getElem_cons hi] at h
  generalize hkd : ks[i] = k at *
  cases h with
  | @cons _ _ _ s _ hm hk ht g =>
    have hc' : Cells P.n (c.set k s) := hc.set (turn_sign hc hk ht)
    refine ⟨s, _, ht, hk, g, some (.v (bhD P c (k, s))), ?_⟩
    have v1 := v_law_behind hP hc hk ht
    have v2 := v_least hP h12 hc' hd (g.mat hP h12 hd)
    have v3 := v_judged hP h12 hc' hd g
    have hix : gIx (.lst (ks.map natD)) (natD i) = .ok (natD k) := by
      have := nats_ix ks i hi
      rw [gt_get hi, hkd] at this
      exact this
    have hsl : gSl (.lst (ks.map natD)) (some ((i : Int) + 1)) none = .ok (.lst ((ks.drop (i + 1)).map natD)) := by
      rw [sl_lst, cutD_eq, show ((i : Int) + 1) = ((i + 1 : Nat) : Int) by omega, cut_map, cut_from _ _ (by omega)]
    have a1 := alk_int (C - (wM P (gt c k) s : Nat))
    have i0 : gIx (bhD P c (k, s)) (.int 0) = .ok (.str (S (c.set k s))) := by unfold bhD; simp
    have i1 : gIx (bhD P c (k, s)) (.int 1) = .ok (.int (wM P (gt c k) s : Nat)) := by unfold bhD; simp [natD]
    have n1 : gIsN (bhD P c (k, s)) .non = .ok (.bl false) := rfl
    unfold lwE
    rw [law_f1]
    generalize P.D = pd at *
    generalize bhD P c (k, s) = bh at *
    generalize (ks.drop (i + 1)).map natD = kr at *
    generalize ks.map natD = kl at *
    generalize wM P (gt c k) s = w at *
    simp -implicitDefEqProofs [natD] at hix v1
    simp -implicitDefEqProofs [natD, hix, v1, n1, i0, i1, v2, v3, a1, hsl]
theorem law_loop (hP : P.Ok) (h12 : P.n ≤ 12) (a : Addr) (ns : List Int) (st : Int) (x2 : Option Sl) (one : List Nat) (hd : Cells P.n d) (ks : List Nat) (hc : Cells P.n c) {C : Int} (h : Pth P d c ks C) :
    ∃ y9 y10, forL (gdName 9) law_f1 (intsD 0 ks.length) (lwE P a ns st x2 one d (.lst (ks.map natD)) c C none none) = .next (lwE P a ns st x2 one d (.lst (ks.map natD)) d 0 y9 y10) := by
  obtain ⟨e', hl, ⟨c1, C1, y9, y10, rfl, hc1, hp⟩⟩ := forL_inv (g := gdName 9) (b := law_f1) (fun i e => ∃ c1 C1 y9 y10, e = lwE P a ns st x2 one d (.lst (ks.map natD)) c1 C1 y9 y10 ∧ Cells P.n c1 ∧ Pth P d c1 (ks.drop i) C1) (intsD 0 ks.length) (lwE P a ns st x2 one d (.lst (ks.map natD)) c C none none) 0 ⟨c, C, none, none, rfl, hc, h⟩ (by
    rintro j z e hj ⟨c1, C1, y9, y10, rfl, hc1, hp⟩
    obtain ⟨hj2, rfl⟩ := intsD_get hj
    rw [Nat.zero_add] at hp
    obtain ⟨s, C', ht, hk, g, y10', hb⟩ := law_body1 hP h12 a ns st x2 one hd ks hc1 j hj2 y10 hp
    refine ⟨lwE P a ns st x2 one d (.lst (ks.map natD)) c1 C1 (some (.v (natD j))) y10, _, by unfold lwE natD; simp, .inl hb, _, _, _, _, rfl, hc1.set (turn_sign hc1 hk ht), ?_⟩
    rw [Nat.zero_add]
    exact g)
  have hlen : (intsD 0 ks.length).length = ks.length := by unfold intsD; simp
  rw [hlen, Nat.zero_add, List.drop_length] at hp
  refine ⟨y9, y10, ?_⟩
  rw [hl]
  generalize hk : ([] : List Nat) = nil at hp
  cases hp with
  | nil => rfl
  | cons _ _ _ _ => cases hk
theorem law_body2 (a : Addr) (ns : List Int) (st : Int) (x2 x3 x4 x5 x6 x7 x8 x9 x10 : Option Sl) (h9 : True) : ∃ ns' st' y3 y4 y5 y6 y7 y8 y9 y10, law_f2 [none, some (.box a ns st), x2, x3, x4, x5, x6, x7, x8, x9, x10] = .next [none, some (.box a ns' st'), x2, y3, y4, y5, y6, y7, y8, y9, y10] := by
  have h5 := LIM_n
  obtain ⟨P, ns1, st1, hP, h12, p1⟩ := v_law_plan a ns st 12 (by omega) (by omega)
  obtain ⟨c, ns2, st2, hc, p2⟩ := v_law_cells hP a ns1 st1
  obtain ⟨d, done, t, ns3, st3, hr, ht, p3⟩ := v_law_walk hP hc a ns2 st2 40 (by omega) (by omega)
  have hd := hr.rch.cells hc
  obtain ⟨C, hm⟩ := rchn_mat hP h12 hc hr
  have hC := rchn_le hP h12 hc hr hm
  obtain ⟨ks, w1, w2, w3⟩ := v_way hP h12 hc hd hm (by omega)
  have l1 := v_least hP h12 hc hd hm
  have j1 := v_judged hP h12 hc hd w2
  have a1 := alk_int C
  have lenk : gLen [.lst (ks.map natD)] = .ok (.int ks.length) := by rw [len_lst, List.length_map]
  have hr : asRange [.int (ks.length : Int)] = .ok (intsD 0 ks.length) := rangeN _ (by omega)
  have hee := eq_S d d
  rw [decide_eq_true rfl] at hee
  have key : ∀ x9 x10, ∃ y9 y10, forL (gdName 9) law_f1 (intsD 0 ks.length) (lwE P a ns3 st3 x2 c d (.lst (ks.map natD)) c C x9 x10) = .next (lwE P a ns3 st3 x2 c d (.lst (ks.map natD)) d 0 y9 y10) := by
    intro x9 x10
    obtain ⟨e', hl, ⟨c1, C1, y9, y10, rfl, hc1, hp⟩⟩ := forL_inv (g := gdName 9) (b := law_f1) (fun i e => ∃ c1 C1 y9 y10, e = lwE P a ns3 st3 x2 c d (.lst (ks.map natD)) c1 C1 y9 y10 ∧ Cells P.n c1 ∧ Pth P d c1 (ks.drop i) C1) (intsD 0 ks.length) (lwE P a ns3 st3 x2 c d (.lst (ks.map natD)) c C x9 x10) 0 ⟨c, C, x9, x10, rfl, hc, w2⟩ (by
      rintro j z e hj ⟨c1, C1, y9, y10, rfl, hc1, hp⟩
      obtain ⟨hj2, rfl⟩ := intsD_get hj
      rw [Nat.zero_add] at hp
      obtain ⟨s, C', ht, hk, g, y10', hb⟩ := law_body1 hP h12 a ns3 st3 x2 c hd ks hc1 j hj2 y10 hp
      refine ⟨lwE P a ns3 st3 x2 c d (.lst (ks.map natD)) c1 C1 (some (.v (natD j))) y10, _, by unfold lwE natD; simp, .inl hb, _, _, _, _, rfl, hc1.set (turn_sign hc1 hk ht), ?_⟩
      rw [Nat.zero_add]
      exact g)
    have hlen : (intsD 0 ks.length).length = ks.length := by unfold intsD; simp
    rw [hlen, Nat.zero_add, List.drop_length] at hp
    refine ⟨y9, y10, ?_⟩
    rw [hl]
    generalize hk : ([] : List Nat) = nil at hp
    cases hp with
    | nil => rfl
    | cons _ _ _ _ => cases hk
  obtain ⟨y9, y10, hl⟩ := key x9 x10
  refine ⟨ns3, st3, some (.v P.D), some (.v (.str (S c))), some (.v (.str (S d))), some (.v (.lst (ks.map natD))), some (.v (.str (S d))), some (.v (.int 0)), y9, y10, ?_⟩
  rw [law_f2]
  unfold lwE at hl
  generalize P.D = pd at *
  have p3' : f_law_walk (a, ns2, st2) [pd, .str (S c), .int 40] = .ok (.tup [.str (S d), .lst (done.map natD)], (a, ns3, st3)) := p3
  have p1' : f_law_plan (a, ns, st) [.int 12] = .ok (pd, (a, ns1, st1)) := p1
  generalize ks.map natD = kl at *
  simp -implicitDefEqProofs [p1', p2, p3', w1, l1, j1, a1, lenk, hr, hl, hee]
theorem law_good (p : Addr) (ns : List Int) : TrueL (law_den (initL none 11 p ns)) := by
  obtain ⟨e', hl, _⟩ := forL_inv (g := gdName 2) (b := law_f2) (fun _ e => ∃ ns' st' x2 x3 x4 x5 x6 x7 x8 x9 x10, e = [none, some (.box p ns' st'), x2, x3, x4, x5, x6, x7, x8, x9, x10]) (intsD 0 3) (initL none 11 p ns) 0 ⟨ns, begunI ns, none, none, none, none, none, none, none, none, none, rfl⟩ (by
    rintro j z e hj ⟨ns', st', x2, x3, x4, x5, x6, x7, x8, x9, x10, rfl⟩
    obtain ⟨hj2, rfl⟩ := intsD_get hj
    obtain ⟨ns2, st2, y3, y4, y5, y6, y7, y8, y9, y10, hb⟩ := law_body2 p ns' st' (some (.v (natD j))) x3 x4 x5 x6 x7 x8 x9 x10 trivial
    exact ⟨[none, some (.box p ns' st'), some (.v (natD j)), x3, x4, x5, x6, x7, x8, x9, x10], _, by unfold natD; simp, .inl hb, ns2, st2, _, _, _, _, _, _, _, _, _, rfl⟩)
  rw [law_den_eq]
  have hr : asRange [.int 3] = .ok (intsD 0 3) := rangeN 3 (by omega)
  have A : iRange (dCons (dC (.int 3)) (dNil)) (initL none 11 p ns) = .ok (intsD 0 3, initL none 11 p ns) := by
    simp -implicitDefEqProofs [hr]
  rw [e_seq, e_for, A, r_toS_ok, kFor_e, hl, s_next]
  simp [TrueL]
end
end WW
open PySem PySem.W PySem.Calls PyProof.Rows
set_option maxRecDepth 100000 in
set_option maxHeartbeats 0 in
theorem PySem.Challenge.cw_wallwalk_k14_whole_great_ways_holds : PySem.Challenge.rw_wallwalk_k14_whole_great_ways.Holds := by
  w_on; o_law
  refine HandSHeadRun.head_any (r := OpenLaw.row PySem.Challenge.rw_wallwalk_k14_whole_great_ways) (q := view (OpenLaw.row PySem.Challenge.rw_wallwalk_k14_whole_great_ways).prog [52]) (H := WW.K14.hk) (ob := WW.K14.ob) (M := 20000) (loose := WW.K14.loose) (d := HandSHeadRun.topDef (OpenLaw.row PySem.Challenge.rw_wallwalk_k14_whole_great_ways).prog 52) (kwd := []) WW.K14.ob_eq
    (by kernel_rfl) (fun s => by kernel_rfl) WW.K14.run (by kernel_rfl) (by kernel_rfl) (by kernel_rfl) (by rfl) (by first | assumption | decide +kernel) (by decide +kernel) ⟨rfl, rfl, rfl, rfl, rfl, by decide +kernel⟩ ?hw ?hc
  case hw => w_witness2
  case hc =>
    refine LamX.walk_ofTsE (l := PySem.Challenge.rw_wallwalk_k14_whole_great_ways) (n := 63) (k := 9) (x := "_law_script") (CX := fun w => L2.CX (PySem.Challenge.rw_wallwalk_k14_whole_great_ways).prog w) rfl (by decide) (by kernel_rfl) ⟨rfl, by decide, by decide⟩ ?F ?E
    case E =>
      rintro w H s e s' ⟨_, _, _, _, _, _, _, _, _, _, _, _, z⟩
      exact z
    case F =>
      intro w mg fa h Y G hmg0
      obtain ⟨K, KX, c⟩ := Y
      have hmg : mg ("law" : PySem.Str) = some (.ref fa) := by
        have e : (HandSHeadRun.topDef (OpenLaw.row PySem.Challenge.rw_wallwalk_k14_whole_great_ways).prog 52).name = ("law" : PySem.Str) := by kernel_rfl
        rw [← e]
        exact hmg0
      obtain ⟨fd, hb, hF⟩ := WW.K14.facts (P := (PySem.Challenge.rw_wallwalk_k14_whole_great_ways).prog) (w := w) KX G hmg c WW.law_good
      exact ⟨K, KX, fd, [], WW.spLaw K, (fun _ z => nomatch z), (fun _ z => nomatch z), (fun _ z => nomatch z), hb, fun H a ns hl _ _ hS => ⟨a, ns, rfl, hS, hl, fun _ => rfl⟩, fun base h1 h2 _ => hF base h1 h2⟩
