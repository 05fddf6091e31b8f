import PyProof.Rows.All
import Wide.All
import OpenK.AllK
import Wide.FinOn
import HandS.ForMost
import HandS.ForExc
import HandS.Wide
import HandS.WideBits
import HandS.TupMul
import HandS.TupAny
import HandS.Deep
import HandS.IsInst
import HandS.SortInts
import HandS.SortRule
import HandS.Strs
import HandS.TryMany
import HandS.Style
import HandS.Defaults
import HandS.CallSlots
import HandS.WordsExc
import HandS.ExcOwn
import HandS.Iter
import HandS.DictTup
import KE.KDictList
import PyProof.Rows.FactsN_isinstance
import HandS.Head0
import HandS.Head1
import HandS.Head2
import HandS.HeadEnd
import HandS.HeadHook1
import HandS.HeadHook2
import HandS.HeadHook3
import HandS.HeadHook4
import PySem.Challenge.RW_creasewrit_k64_what_few_folds_find
set_option Elab.async false
set_option linter.all false
set_option maxRecDepth 100000
/-! Mi: Python values by value; a def's text read as a plain function of them. Part 1: values, the relation, states, judgements. -/
namespace Mi
open PySem PySem.Spec L2

/-- a value with what it holds; lists and dicts are snapshots (nobody changes them any more) -/
inductive MV where
  | non | bl (b : Bool) | int (i : Int) | str (x : Str)
  | tup (xs : List MV) | lst (xs : List MV) | dct (t : Bool) (ks vs : List MV) | obj (c : Str) (ns : List Str) (vs : List MV)
  | scr (ns : List Int) | ktp (xs : List MV)

/-- an answer, an error of the class c, or nothing said -/
inductive Rs (α : Type) where
  | ok (a : α) | ex (c : Str) | no

/-- a local name: without a value, a value, or a list (dict, instance) of its own that may change -/
inductive Sl where
  | un | val (m : MV) | own (m : MV)

abbrev Rho := List Sl
abbrev ED := Rho → Rs MV
abbrev TD := Rho → Rs Bool
abbrev AD := Rho → Rs (List MV)
inductive SR where
  | nx (r : Rho) | rt (m : MV) | bk (r : Rho) | ct (r : Rho) | ex (c : Str) (r : Rho) | no
abbrev SD := Rho → SR
abbrev FD := List MV → Rs MV

/-- the part of SqL that the written part K tells -/
def KL (K : PySem.W.Frag) (a : Addr) (xs : List V) : Prop :=
  ∃ (o : Obj) (its : Array Value) (n : Nat), K.lookup a = some o ∧ o.cls = .type "list" ∧ o.dict = none ∧ o.data = .seq its n ∧ its.size ≤ sizeLine ∧ Vals xs its.toList
/-- the same of a tuple -/
def KT (K : PySem.W.Frag) (a : Addr) (xs : List V) : Prop :=
  ∃ (o : Obj) (its : Array Value) (n : Nat), K.lookup a = some o ∧ o.cls = .type "tuple" ∧ o.data = .seq its n ∧ its.size ≤ sizeLine ∧ Vals xs its.toList
theorem KT.seq {K : PySem.W.Frag} {H : Hp} {a : Addr} {xs : List V} (h : KT K a xs) : SqT K H a xs := .inr h
theorem KL.seq {K : PySem.W.Frag} {H : Hp} {a : Addr} {xs : List V} (h : KL K a xs) : SqL K H a xs := .inr h

/-- keys of a tracked dict -/
def keyOf : MV → Option Key
  | .int i => some (.inl i)
  | .str x => some (.inr x)
  | _ => none
def keysOf : List MV → Option (List Key)
  | [] => some []
  | m :: r => match keyOf m, keysOf r with
    | some k, some ks => some (k :: ks)
    | _, _ => none
def tkeyOf : MV → Option (List Key)
  | .tup ms => keysOf ms
  | _ => none
def tkeysOf : List MV → Option (List (List Key))
  | [] => some []
  | m :: r => match tkeyOf m, tkeysOf r with
    | some k, some ks => some (k :: ks)
    | _, _ => none

/-- what stands at a dict: t: its keys are tuples -/
def dctH (t : Bool) (ks : List MV) (xs : List V) : Option HO :=
  if t then (tkeysOf ks).bind fun kk => if kk.length = xs.length then some (.dT (kk.zip xs)) else none
  else (keysOf ks).bind fun kk => if kk.length = xs.length then some (.dK (kk.zip xs)) else none
theorem dctH_cases {t : Bool} {ks : List MV} {xs : List V} {o : HO} (h : dctH t ks xs = some o) : (t = false ∧ ∃ kk, keysOf ks = some kk ∧ kk.length = xs.length ∧ o = .dK (kk.zip xs)) ∨ (t = true ∧ ∃ kk, tkeysOf ks = some kk ∧ kk.length = xs.length ∧ o = .dT (kk.zip xs)) := by
  unfold dctH at h
  cases t with
  | false =>
    simp only [Bool.false_eq_true, if_false, Option.bind_eq_some_iff] at h
    obtain ⟨kk, h1, h2⟩ := h
    by_cases e : kk.length = xs.length
    · rw [if_pos e] at h2; cases h2; exact .inl ⟨rfl, kk, h1, e, rfl⟩
    · rw [if_neg e] at h2; cases h2
  | true =>
    simp only [if_true, Option.bind_eq_some_iff] at h
    obtain ⟨kk, h1, h2⟩ := h
    by_cases e : kk.length = xs.length
    · rw [if_pos e] at h2; cases h2; exact .inr ⟨rfl, kk, h1, e, rfl⟩
    · rw [if_neg e] at h2; cases h2
section
variable (K : PySem.W.Frag) (C : Str → Addr) (H : Hp) (P : Addr → Prop)
-- the value v is m; P: where lists, dicts, instances may stand
mutual
def Rl : MV → V → Prop
  | .non, v => v = .non
  | .bl b, v => v = .bl b
  | .int i, v => v = .int i
  | .str x, v => v = .str x
  | .tup ms, v => ∃ a xs, v = .ref a ∧ H a = some (.tup xs) ∧ RlL ms xs
  | .ktp ms, v => ∃ a xs, v = .ref a ∧ KT K a xs ∧ RlL ms xs
  | .lst ms, v => ∃ a xs, v = .ref a ∧ P a ∧ H a = some (.lst xs) ∧ RlL ms xs
  | .scr ns, v => ∃ a, v = .ref a ∧ ((P a ∧ H a = some (.lst (ns.map V.int))) ∨ (∃ o, H a = some (.frz o (.lst (ns.map V.int)))) ∨ KL K a (ns.map V.int))
  | .dct t ks vs, v => ∃ a xs, v = .ref a ∧ P a ∧ (∃ o, dctH t ks xs = some o ∧ H a = some o) ∧ RlL vs xs
  | .obj c ns vs, v => ∃ a dx xs, v = .ref a ∧ P a ∧ ns.length = xs.length ∧ H a = some (.ins (C c) dx (ns.zip xs)) ∧ RlL vs xs
def RlL : List MV → List V → Prop
  | [], xs => xs = []
  | m :: ms, xs => ∃ x r, xs = x :: r ∧ Rl m x ∧ RlL ms r
end
/-- as Rl, but the value's own place need not be within P (its items' places must) -/
def Ra (G : Addr → Prop) : MV → V → Prop
  | .lst ms, v => ∃ a xs, v = .ref a ∧ G a ∧ H a = some (.lst xs) ∧ RlL K C H P ms xs
  | .dct t ks vs, v => ∃ a xs, v = .ref a ∧ G a ∧ (∃ o, dctH t ks xs = some o ∧ H a = some o) ∧ RlL K C H P vs xs
  | .obj c ns vs, v => ∃ a dx xs, v = .ref a ∧ G a ∧ ns.length = xs.length ∧ H a = some (.ins (C c) dx (ns.zip xs)) ∧ RlL K C H P vs xs
  | m, v => Rl K C H P m v
end

theorem Rd.mono {H H' : Hp} (s : ∀ a o, H a = some o → H' a = some o) {a : Addr} {o : HO} (h : Rd H a o) : Rd H' a o := by
  rcases h with h | ⟨q, h⟩
  · exact .inl (s _ _ h)
  · exact .inr ⟨q, s _ _ h⟩
theorem Rd.at {H : Hp} {a : Addr} {o : HO} (h : Rd H a o) : ∃ u, H a = some u := by
  rcases h with h | ⟨q, h⟩
  · exact ⟨_, h⟩
  · exact ⟨_, h⟩

section
variable {K : PySem.W.Frag} {C : Str → Addr} {H H' : Hp} {P P' : Addr → Prop}
/-- what stands at tuples and at P is kept -/
structure Kept (H H' : Hp) (P P' : Addr → Prop) : Prop where
  tup : ∀ a o, H a = some o → (∃ xs, o = .tup xs) ∨ (∃ q u, o = .frz q u) → H' a = some o
  at_ : ∀ a o, H a = some o → P a → H' a = some o ∧ P' a
mutual
theorem Rl.keep (k : Kept H H' P P') : ∀ (m : MV) {v : V}, Rl K C H P m v → Rl K C H' P' m v
  | .non, _, h => h
  | .bl _, _, h => h
  | .int _, _, h => h
  | .str _, _, h => h
  | .tup ms, _, ⟨a, xs, e, h1, h2⟩ => ⟨a, xs, e, k.tup _ _ h1 (.inl ⟨_, rfl⟩), RlL.keep k ms h2⟩
  | .ktp ms, _, ⟨a, xs, e, h1, h2⟩ => ⟨a, xs, e, h1, RlL.keep k ms h2⟩
  | .lst ms, _, ⟨a, xs, e, p, h1, h2⟩ => ⟨a, xs, e, (k.at_ _ _ h1 p).2, (k.at_ _ _ h1 p).1, RlL.keep k ms h2⟩
  | .scr ns, _, ⟨a, e, h⟩ => by
    refine ⟨a, e, ?_⟩
    rcases h with ⟨p, h⟩ | ⟨o, h⟩ | h
    · exact .inl ⟨(k.at_ _ _ h p).2, (k.at_ _ _ h p).1⟩
    · exact .inr (.inl ⟨o, k.tup _ _ h (.inr ⟨_, _, rfl⟩)⟩)
    · exact .inr (.inr h)
  | .dct t ks vs, _, ⟨a, xs, e, p, ⟨o, h1, h3⟩, h2⟩ => ⟨a, xs, e, (k.at_ _ _ h3 p).2, ⟨o, h1, (k.at_ _ _ h3 p).1⟩, RlL.keep k vs h2⟩
  | .obj c ns vs, _, ⟨a, dx, xs, e, p, hl, h1, h2⟩ => ⟨a, dx, xs, e, (k.at_ _ _ h1 p).2, hl, (k.at_ _ _ h1 p).1, RlL.keep k vs h2⟩
theorem RlL.keep (k : Kept H H' P P') : ∀ (ms : List MV) {xs : List V}, RlL K C H P ms xs → RlL K C H' P' ms xs
  | [], _, h => h
  | m :: ms, _, ⟨x, r, e, h1, h2⟩ => ⟨x, r, e, Rl.keep k m h1, RlL.keep k ms h2⟩
end
theorem Kept.of_same (s : Same H H') (p : ∀ a o, H a = some o → P a → P' a) : Kept H H' P P' := ⟨fun a o h _ => s a o h, fun a o h q => ⟨s a o h, p a o h q⟩⟩
theorem Rl.same {m : MV} {v : V} (h : Rl K C H P m v) (s : Same H H') : Rl K C H' P m v := Rl.keep (.of_same s fun _ _ _ q => q) m h
theorem Rl.imp {m : MV} {v : V} (h : Rl K C H P m v) (p : ∀ a o, H a = some o → P a → P' a) : Rl K C H P' m v := Rl.keep (.of_same (Same.refl _) p) m h
theorem RlL.same {ms : List MV} {xs : List V} (h : RlL K C H P ms xs) (s : Same H H') : RlL K C H' P ms xs := RlL.keep (.of_same s fun _ _ _ q => q) ms h
theorem RlL.imp {ms : List MV} {xs : List V} (h : RlL K C H P ms xs) (p : ∀ a o, H a = some o → P a → P' a) : RlL K C H P' ms xs := RlL.keep (.of_same (Same.refl _) p) ms h
theorem RlL.length : ∀ {ms : List MV} {xs : List V}, RlL K C H P ms xs → ms.length = xs.length
  | [], _, h => by cases h; rfl
  | _ :: _, _, ⟨_, _, e, _, h⟩ => by subst e; simp [RlL.length h]
theorem RlL.get : ∀ {ms : List MV} {xs : List V} {i : Nat} {m : MV}, RlL K C H P ms xs → ms[i]? = some m → ∃ x, xs[i]? = some x ∧ Rl K C H P m x
  | [], _, i, _, _, e => by simp at e
  | m :: ms, _, 0, _, ⟨x, r, e, h1, _⟩, q => by subst e; simp at q; subst q; exact ⟨x, rfl, h1⟩
  | m :: ms, _, i + 1, _, ⟨x, r, e, _, h2⟩, q => by
    subst e
    obtain ⟨y, h3, h4⟩ := RlL.get (i := i) h2 (by simpa using q)
    exact ⟨y, by simpa using h3, h4⟩
theorem RlL.append : ∀ {ms ns : List MV} {xs ys : List V}, RlL K C H P ms xs → RlL K C H P ns ys → RlL K C H P (ms ++ ns) (xs ++ ys)
  | [], _, _, _, h, g => by cases h; exact g
  | _ :: _, _, _, _, ⟨x, r, e, h1, h2⟩, g => by subst e; exact ⟨x, _, rfl, h1, RlL.append h2 g⟩
theorem RlL.take : ∀ {ms : List MV} {xs : List V} (n : Nat), RlL K C H P ms xs → RlL K C H P (ms.take n) (xs.take n)
  | _, _, 0, _ => by simp [RlL]
  | [], _, n + 1, h => by cases h; simp [RlL]
  | _ :: _, _, n + 1, ⟨x, r, e, h1, h2⟩ => by subst e; exact ⟨x, _, rfl, h1, RlL.take n h2⟩
theorem RlL.drop : ∀ {ms : List MV} {xs : List V} (n : Nat), RlL K C H P ms xs → RlL K C H P (ms.drop n) (xs.drop n)
  | _, _, 0, h => h
  | [], _, n + 1, h => by cases h; simp [RlL]
  | _ :: _, _, n + 1, ⟨x, r, e, h1, h2⟩ => by subst e; exact RlL.drop n h2
theorem RlL.set : ∀ {ms : List MV} {xs : List V} {m : MV} {x : V} (n : Nat), RlL K C H P ms xs → Rl K C H P m x → RlL K C H P (ms.set n m) (xs.set n x)
  | [], _, _, _, n, h, _ => by cases h; simp [RlL]
  | _ :: _, _, _, _, 0, ⟨y, r, e, h1, h2⟩, g => by subst e; exact ⟨_, _, rfl, g, h2⟩
  | _ :: _, _, _, _, n + 1, ⟨y, r, e, h1, h2⟩, g => by subst e; exact ⟨_, _, rfl, h1, RlL.set n h2 g⟩
theorem RlL.reverse : ∀ {ms : List MV} {xs : List V}, RlL K C H P ms xs → RlL K C H P ms.reverse xs.reverse
  | [], _, h => by cases h; simp [RlL]
  | _ :: _, _, ⟨x, r, e, h1, h2⟩ => by
    subst e
    rw [List.reverse_cons, List.reverse_cons]
    exact (RlL.reverse h2).append ⟨x, [], rfl, h1, rfl⟩
theorem Rl.ra {G : Addr → Prop} : ∀ {m : MV} {v : V}, Rl K C H P m v → (∀ a, P a → G a) → Ra K C H P G m v
  | .non, _, h, _ => h
  | .bl _, _, h, _ => h
  | .int _, _, h, _ => h
  | .str _, _, h, _ => h
  | .tup ms, _, h, _ => h
  | .lst ms, _, ⟨a, xs, e, p, h1, h2⟩, g => ⟨a, xs, e, g _ p, h1, h2⟩
  | .scr _, _, h, _ => h
  | .ktp _, _, h, _ => h
  | .dct t ks vs, _, ⟨a, xs, e, p, h1, h2⟩, g => ⟨a, xs, e, g _ p, h1, h2⟩
  | .obj c ns vs, _, ⟨a, dx, xs, e, p, hl, h1, h2⟩, g => ⟨a, dx, xs, e, g _ p, hl, h1, h2⟩
theorem Ra.rl {G : Addr → Prop} : ∀ {m : MV} {v : V}, Ra K C H P G m v → (∀ a, P a → G a) → Rl K C H G m v
  | .non, _, h, _ => h
  | .bl _, _, h, _ => h
  | .int _, _, h, _ => h
  | .str _, _, h, _ => h
  | .tup ms, _, h, g => Rl.imp (m := .tup ms) h fun a _ _ q => g a q
  | .lst ms, _, ⟨a, xs, e, p, h1, h2⟩, g => ⟨a, xs, e, p, h1, h2.imp fun a _ _ q => g a q⟩
  | .scr ns, _, h, g => Rl.imp (m := .scr ns) h fun a _ _ q => g a q
  | .ktp ns, _, h, g => Rl.imp (m := .ktp ns) h fun a _ _ q => g a q
  | .dct t ks vs, _, ⟨a, xs, e, p, h1, h2⟩, g => ⟨a, xs, e, p, h1, h2.imp fun a _ _ q => g a q⟩
  | .obj c ns vs, _, ⟨a, dx, xs, e, p, hl, h1, h2⟩, g => ⟨a, dx, xs, e, p, hl, h1, h2.imp fun a _ _ q => g a q⟩
theorem Ra.same {G : Addr → Prop} : ∀ {m : MV} {v : V}, Ra K C H P G m v → Same H H' → Ra K C H' P G m v
  | .non, _, h, _ => h
  | .bl _, _, h, _ => h
  | .int _, _, h, _ => h
  | .str _, _, h, _ => h
  | .tup ms, _, h, s => Rl.same (m := .tup ms) h s
  | .lst ms, _, ⟨a, xs, e, p, h1, h2⟩, s => ⟨a, xs, e, p, s _ _ h1, h2.same s⟩
  | .scr ns, _, h, s => Rl.same (C := C) (m := .scr ns) h s
  | .ktp ns, _, h, s => Rl.same (C := C) (m := .ktp ns) h s
  | .dct t ks vs, _, ⟨a, xs, e, p, h1, h2⟩, s => ⟨a, xs, e, p, h1.imp (fun o ⟨a1, a3⟩ => ⟨a1, s _ _ a3⟩), h2.same s⟩
  | .obj c ns vs, _, ⟨a, dx, xs, e, p, hl, h1, h2⟩, s => ⟨a, dx, xs, e, p, hl, s _ _ h1, h2.same s⟩
-- a value without lists, dicts, instances
mutual
def flatM : MV → Bool
  | .tup ms => flatL ms
  | .ktp ms => flatL ms
  | .lst _ | .dct _ _ _ | .obj _ _ _ | .scr _ => false
  | _ => true
def flatL : List MV → Bool
  | [] => true
  | m :: ms => flatM m && flatL ms
end
mutual
theorem Rl.flat : ∀ {m : MV} {v : V}, Rl K C H P m v → flatM m = true → Rl K C H P' m v
  | .non, _, h, _ => h
  | .bl _, _, h, _ => h
  | .int _, _, h, _ => h
  | .str _, _, h, _ => h
  | .tup ms, _, ⟨a, xs, e, h1, h2⟩, f => ⟨a, xs, e, h1, RlL.flat h2 f⟩
  | .ktp ms, _, ⟨a, xs, e, h1, h2⟩, f => ⟨a, xs, e, h1, RlL.flat h2 f⟩
  | .lst _, _, _, f => by simp [flatM] at f
  | .dct _ _ _, _, _, f => by simp [flatM] at f
  | .obj _ _ _, _, _, f => by simp [flatM] at f
  | .scr _, _, _, f => by simp [flatM] at f
theorem RlL.flat : ∀ {ms : List MV} {xs : List V}, RlL K C H P ms xs → flatL ms = true → RlL K C H P' ms xs
  | [], _, h, _ => h
  | m :: ms, _, ⟨x, r, e, h1, h2⟩, f => by
    simp only [flatL, Bool.and_eq_true] at f
    exact ⟨x, r, e, Rl.flat h1 f.1, RlL.flat h2 f.2⟩
end
end

/-! ### states -/
/-- the program's own tables: where its classes stand, which errors are which -/
structure Tb where
  C : Str → Addr
  sub : Str → Str → Option Bool
def Tb.exc (T : Tb) (c : Str) (v : Value) : Prop := v = .ref (T.C c)
/-- a def's (a loop's) beginning: the heap there, where its lists may stand -/
structure Bs where
  H0 : Hp
  G : Addr → Prop
  fr : ∀ a, H0 a = none → G a

def OwnAt (σ : St) (ρ : Rho) (a : Addr) : Prop := ∃ (i : Nat) (o : MV), ρ[i]? = some (Sl.own o) ∧ σ[i]? = some (some (V.ref a))
def Pf (B : Bs) (σ : St) (ρ : Rho) (a : Addr) : Prop := B.G a ∧ ¬ OwnAt σ ρ a
def OwnOk (K : PySem.W.Frag) (C : Str → Addr) (H : Hp) (P : Addr → Prop) (a : Addr) : MV → Prop
  | .lst ms => ∃ xs, H a = some (.lst xs) ∧ RlL K C H P ms xs
  | .dct t ks vs => ∃ xs, (∃ o, dctH t ks xs = some o ∧ H a = some o) ∧ RlL K C H P vs xs
  | .obj c ns vs => ∃ dx xs, ns.length = xs.length ∧ H a = some (.ins (C c) dx (ns.zip xs)) ∧ RlL K C H P vs xs
  | _ => False
structure RS (K : PySem.W.Frag) (T : Tb) (B : Bs) (σ : St) (H : Hp) (ρ : Rho) : Prop where
  len : σ.length = ρ.length
  same : Same B.H0 H
  val : ∀ (i : Nat) (m : MV), ρ[i]? = some (Sl.val m) → ∃ v, σ[i]? = some (some v) ∧ Rl K T.C H (Pf B σ ρ) m v
  own : ∀ (i : Nat) (m : MV), ρ[i]? = some (Sl.own m) → ∃ a, σ[i]? = some (some (.ref a)) ∧ B.H0 a = none ∧ OwnOk K T.C H (Pf B σ ρ) a m
  inj : ∀ (i j : Nat) (o o' : MV) (a : Addr), ρ[i]? = some (.own o) → ρ[j]? = some (.own o') → σ[i]? = some (some (.ref a)) → σ[j]? = some (some (.ref a)) → i = j

section
variable {K : PySem.W.Frag} {T : Tb} {B : Bs} {σ : St} {H H' : Hp} {ρ : Rho}
theorem OwnOk.at {C : Str → Addr} {P : Addr → Prop} {a : Addr} : ∀ {m : MV}, OwnOk K C H P a m → ∃ o, H a = some o ∧ (∀ xs, o ≠ .tup xs) ∧ ∀ q u, o ≠ .frz q u
  | .lst _, ⟨_, h, _⟩ => ⟨_, h, fun _ z => (nomatch z), fun _ _ z => nomatch z⟩
  | .dct _ _ _, ⟨_, ⟨_, h1, h⟩, _⟩ => by
    rcases dctH_cases h1 with ⟨_, kk, _, _, e⟩ | ⟨_, kk, _, _, e⟩
    · subst e; exact ⟨_, h, fun _ z => (nomatch z), fun _ _ z => nomatch z⟩
    · subst e; exact ⟨_, h, fun _ z => (nomatch z), fun _ _ z => nomatch z⟩
  | .obj _ _ _, ⟨_, _, _, h, _⟩ => ⟨_, h, fun _ z => (nomatch z), fun _ _ z => nomatch z⟩
  | .non, h => h.elim
  | .bl _, h => h.elim
  | .int _, h => h.elim
  | .str _, h => h.elim
  | .tup _, h => h.elim
  | .scr _, h => h.elim
  | .ktp _, h => h.elim
theorem OwnOk.keep {C : Str → Addr} {P P' : Addr → Prop} {a : Addr} (k : Kept H H' P P') (ha : ∀ o, H a = some o → H' a = some o) : ∀ {m : MV}, OwnOk K C H P a m → OwnOk K C H' P' a m
  | .lst _, ⟨xs, h, r⟩ => ⟨xs, ha _ h, RlL.keep k _ r⟩
  | .dct _ _ _, ⟨xs, ⟨o, h1, h⟩, r⟩ => ⟨xs, ⟨o, h1, ha _ h⟩, RlL.keep k _ r⟩
  | .obj _ _ _, ⟨dx, xs, hl, h, r⟩ => ⟨dx, xs, hl, ha _ h, RlL.keep k _ r⟩
  | .non, h => h.elim
  | .bl _, h => h.elim
  | .int _, h => h.elim
  | .str _, h => h.elim
  | .tup _, h => h.elim
  | .scr _, h => h.elim
  | .ktp _, h => h.elim
theorem RS.owned (r : RS K T B σ H ρ) {a : Addr} (h : OwnAt σ ρ a) : B.H0 a = none ∧ ∃ o, H a = some o ∧ (∀ xs, o ≠ .tup xs) ∧ ∀ q u, o ≠ .frz q u := by
  obtain ⟨i, m, h1, h2⟩ := h
  obtain ⟨b, h3, h4, h5⟩ := r.own i m h1
  rw [h2] at h3
  cases h3
  exact ⟨h4, h5.at⟩
/-- the heap has grown -/
theorem RS.grow (r : RS K T B σ H ρ) (s : Same H H') : RS K T B σ H' ρ :=
  ⟨r.len, r.same.trans s, fun i m h => (r.val i m h).imp fun v ⟨a, b⟩ => ⟨a, b.same s⟩,
   fun i m h => (r.own i m h).imp fun v ⟨a, b, c⟩ => ⟨a, b, c.keep (.of_same s fun _ _ _ q => q) fun o q => s _ _ q⟩, r.inj⟩
/-- a new place -/
theorem RS.free (r : RS K T B σ H ρ) {a : Addr} (h : H a = none) : Pf B σ ρ a := by
  refine ⟨B.fr a (r.same.free h), fun o => ?_⟩
  obtain ⟨_, u, e, _⟩ := r.owned o
  rw [h] at e
  cases e
def Up (H : Hp) (P : Addr → Prop) : Addr → Prop := fun a => P a ∨ H a = none
theorem RS.up (r : RS K T B σ H ρ) {m : MV} {v : V} (h : Rl K T.C H' (Up H (Pf B σ ρ)) m v) : Rl K T.C H' (Pf B σ ρ) m v :=
  h.imp fun a _ _ q => q.elim id r.free
end

/-! ### readings -/
section
variable (K : PySem.W.Frag) (T : Tb) (B : Bs) (W : WX)
/-- what an expression's answer asks -/
def tX (Rr : St → Rho → Hp → MV → V → Prop) (d : ED) : TE := fun σ H Q => ∃ ρ, RS K T B σ H ρ ∧ (match d ρ with
  | .ok m => ∀ v H', Same H H' → Rr σ ρ H' m v → Q v H'
  | .ex c => ∀ cls dd H', Same H H' → T.exc c cls → W cls dd σ H'
  | .no => False)
/-- full: its places are nobody's own -/
def tE (d : ED) : TE := tX K T B W (fun σ ρ H m v => Rl K T.C H (Pf B σ ρ) m v) d
/-- borrowed: it may be a name's own list -/
def tB (d : ED) : TE := tX K T B W (fun σ ρ H m v => Ra K T.C H (Pf B σ ρ) B.G m v) d
/-- a new list, nobody else's -/
def tN (d : ED) : TE := fun σ H Q => ∃ ρ, RS K T B σ H ρ ∧ (match d ρ with
  | .ok m => ∀ a H', Same H H' → H a = none → OwnOk K T.C H' (fun b => Pf B σ ρ b ∧ b ≠ a) a m → Q (.ref a) H'
  | .ex c => ∀ cls dd H', Same H H' → T.exc c cls → W cls dd σ H'
  | .no => False)
def tTT (d : TD) : TT := fun σ H Q => ∃ ρ, RS K T B σ H ρ ∧ (match d ρ with
  | .ok b => ∀ H', Same H H' → Q b H'
  | .ex c => ∀ cls dd H', Same H H' → T.exc c cls → W cls dd σ H'
  | .no => False)
/-- arguments, each borrowed -/
def tA (full : Bool) (d : AD) : TA := fun σ H Q => ∃ ρ, RS K T B σ H ρ ∧ (match d ρ with
  | .ok ms => ∀ vs H', Same H H' → (if full then RlL K T.C H' (Pf B σ ρ) ms vs else Paired (Ra K T.C H' (Pf B σ ρ) B.G) ms vs) → Q vs H'
  | .ex c => ∀ cls dd H', Same H H' → T.exc c cls → W cls dd σ H'
  | .no => False)
def tS (d : SD) : TS := fun D σ H => ∃ ρ, RS K T B σ H ρ ∧ (match d ρ with
  | .nx ρ' => ∀ σ' H', RS K T B σ' H' ρ' → D.nx σ' H'
  | .rt m => ∀ v H', Same B.H0 H' → Rl K T.C H' B.G m v → D.rt v H'
  | .bk ρ' => ∀ σ' H', RS K T B σ' H' ρ' → D.bk σ' H'
  | .ct ρ' => ∀ σ' H', RS K T B σ' H' ρ' → D.ct σ' H'
  | .ex c ρ' => ∀ cls dd σ' H', RS K T B σ' H' ρ' → T.exc c cls → W cls dd σ' H'
  | .no => False)
end

section
variable (T : Tb) (X : Cx) (W : WX)
def SE (e : Expr) (d : ED) : Prop := ∀ B, PE X e (tE X.K T B W d)
def SB (e : Expr) (d : ED) : Prop := ∀ B, PE X e (tB X.K T B W d)
def SN (e : Expr) (d : ED) : Prop := ∀ B, PE X e (tN X.K T B W d)
def ST (e : Expr) (d : TD) : Prop := ∀ B, PT X e (tTT X.K T B W d)
def SW (e : Expr) (d : TD) : Prop := ∀ B, PW X e (tTT X.K T B W d)
def SA (full : Bool) (es : List Expr) (d : AD) : Prop := ∀ B, PA X es (tA X.K T B W full d)
def SS (st : Stmt) (d : SD) : Prop := ∀ B, PS X st (tS X.K T B W d)
def SSs (st : List Stmt) (d : SD) : Prop := ∀ B, PSs X st (tS X.K T B W d)
end
theorem _root_.L2.PE.imp {X : Cx} {e : Expr} {t t' : TE} (h : PE X e t) (i : ∀ σ H Q, t' σ H Q → t σ H Q) : PE X e t' := ⟨fun pins s σ H Q I q => h.run pins s σ H Q I (i σ H Q q)⟩
theorem _root_.L2.PT.imp {X : Cx} {e : Expr} {t t' : TT} (h : PT X e t) (i : ∀ σ H Q, t' σ H Q → t σ H Q) : PT X e t' := ⟨fun pins s σ H Q I q => h.run pins s σ H Q I (i σ H Q q)⟩
theorem _root_.L2.PW.imp {X : Cx} {e : Expr} {t t' : TT} (h : PW X e t) (i : ∀ σ H Q, t' σ H Q → t σ H Q) : PW X e t' := ⟨fun wh pins s σ H Q I q => h.run wh pins s σ H Q I (i σ H Q q)⟩
theorem _root_.L2.PA.imp {X : Cx} {e : List Expr} {t t' : TA} (h : PA X e t) (i : ∀ σ H Q, t' σ H Q → t σ H Q) : PA X e t' := ⟨fun p pins s σ H Q I q => h.run p pins s σ H Q I (i σ H Q q)⟩
theorem _root_.L2.PS.imp {X : Cx} {e : Stmt} {t t' : TS} (h : PS X e t) (i : ∀ D σ H, t' D σ H → t D σ H) : PS X e t' := ⟨fun pins s σ H D I q => h.run pins s σ H D I (i D σ H q)⟩
theorem _root_.L2.PSs.imp {X : Cx} {e : List Stmt} {t t' : TS} (h : PSs X e t) (i : ∀ D σ H, t' D σ H → t D σ H) : PSs X e t' := ⟨fun pins s σ H D I q => h.run pins s σ H D I (i D σ H q)⟩
theorem _root_.L2.PI.imp {X : Cx} {tg e : Expr} {t t' : TI} (h : PI X tg e t) (i : ∀ σ H R, t' σ H R → t σ H R) : PI X tg e t' := ⟨fun pins s σ H R I q => h.run pins s σ H R I (i σ H R q)⟩
end Mi

set_option Elab.async false
set_option linter.all false
set_option maxRecDepth 100000
/-! Mi, part 2: expressions. -/
namespace Mi
open PySem PySem.Spec L2

/-! ### answers -/
def Rs.bind {α β : Type} (x : Rs α) (f : α → Rs β) : Rs β := match x with
  | .ok a => f a
  | .ex c => .ex c
  | .no => .no
@[simp] theorem Rs.bind_ok {α β : Type} (a : α) (f : α → Rs β) : Rs.bind (.ok a) f = f a := rfl
@[simp] theorem Rs.bind_ex {α β : Type} (c : Str) (f : α → Rs β) : Rs.bind (.ex c) f = .ex c := rfl
@[simp] theorem Rs.bind_no {α β : Type} (f : α → Rs β) : Rs.bind .no f = .no := rfl
def lk : Rho → Nat → Sl
  | [], _ => .un
  | s :: _, 0 => s
  | _ :: r, n + 1 => lk r n
@[simp] theorem lk_zero (s : Sl) (r : Rho) : lk (s :: r) 0 = s := rfl
@[simp] theorem lk_succ (s : Sl) (r : Rho) (n : Nat) : lk (s :: r) (n + 1) = lk r n := rfl
theorem lk_val : ∀ {ρ : Rho} {i : Nat} {s : Sl}, lk ρ i = s → s ≠ .un → ρ[i]? = some s
  | [], _, _, h, n => absurd h.symm n
  | _ :: _, 0, _, h, _ => by cases h; rfl
  | _ :: r, i + 1, _, h, n => by simpa using lk_val (ρ := r) (i := i) h n

/-! ### coercions -/
section
variable {T : Tb} {X : Cx} {W : WX} {e : Expr} {d : ED}
theorem SE.b (h : SE T X W e d) : SB T X W e d := fun B => (h B).imp fun σ H Q ⟨ρ, R, q⟩ => by
  refine ⟨ρ, R, ?_⟩
  cases e : d ρ with
  | ok m => rw [e] at q; exact fun v H' s r => q v H' s (r.ra fun a p => p.1)
  | ex c => rw [e] at q; exact q
  | no => rw [e] at q; exact q
theorem SN.se (h : SN T X W e d) : SE T X W e d := fun B => (h B).imp fun σ H Q ⟨ρ, R, q⟩ => by
  refine ⟨ρ, R, ?_⟩
  cases e : d ρ with
  | ok m =>
    rw [e] at q
    intro a H' s n o
    refine q _ H' s ?_
    have p := R.free n
    cases m with
    | lst ms => obtain ⟨xs, h1, h2⟩ := o; exact ⟨a, xs, rfl, p, h1, h2.imp fun _ _ _ z => z.1⟩
    | dct t ks vs => obtain ⟨xs, h1, h2⟩ := o; exact ⟨a, xs, rfl, p, h1, h2.imp fun _ _ _ z => z.1⟩
    | obj c ns vs => obtain ⟨dx, xs, h1, h2, h3⟩ := o; exact ⟨a, dx, xs, rfl, p, h1, h2, h3.imp fun _ _ _ z => z.1⟩
    | _ => exact o.elim
  | ex c => rw [e] at q; exact q
  | no => rw [e] at q; exact q
end

/-! ### names, constants -/
def dVar (i : Nat) : ED := fun ρ => match lk ρ i with
  | .val m => .ok m
  | _ => .no
def dVarB (i : Nat) : ED := fun ρ => match lk ρ i with
  | .val m => .ok m
  | .own m => .ok m
  | .un => .no
def dC (m : MV) : ED := fun _ => .ok m
section
variable {T : Tb} {X : Cx} {W : WX}
theorem se_var {x : Str} {pos : Pos} (i : Nat) (hN : X.N[i]? = some x := by rfl) (hv : Vis X.env.scope x := by first | exact Or.inl rfl | exact Or.inr (Or.inl rfl) | exact Or.inr (Or.inr rfl)) (hd : (x == ("__debug__" : Str)) = false := by decide)
    (hcd : (x == ("__classdict__" : Str)) = false := by decide) : SE T X W (.Name x pos) (dVar i) := fun B => (pe_var hN hv hd hcd).imp fun σ H Q ⟨ρ, R, q⟩ => by
  unfold dVar at q
  cases e : lk ρ i with
  | val m =>
    obtain ⟨v, h1, h2⟩ := R.val i m (lk_val e (fun z => nomatch z))
    rw [e] at q
    exact ⟨v, h1, q v H (Same.refl _) h2⟩
  | own m => rw [e] at q; exact q.elim
  | un => rw [e] at q; exact q.elim
theorem sb_var {x : Str} {pos : Pos} (i : Nat) (hN : X.N[i]? = some x := by rfl) (hv : Vis X.env.scope x := by first | exact Or.inl rfl | exact Or.inr (Or.inl rfl) | exact Or.inr (Or.inr rfl)) (hd : (x == ("__debug__" : Str)) = false := by decide)
    (hcd : (x == ("__classdict__" : Str)) = false := by decide) : SB T X W (.Name x pos) (dVarB i) := fun B => (pe_var hN hv hd hcd).imp fun σ H Q ⟨ρ, R, q⟩ => by
  unfold dVarB at q
  cases e : lk ρ i with
  | val m =>
    obtain ⟨v, h1, h2⟩ := R.val i m (lk_val e (fun z => nomatch z))
    rw [e] at q
    exact ⟨v, h1, q v H (Same.refl _) (h2.ra fun a p => p.1)⟩
  | own m =>
    obtain ⟨a, h1, h0, h2⟩ := R.own i m (lk_val e (fun z => nomatch z))
    rw [e] at q
    refine ⟨_, h1, q _ H (Same.refl _) ?_⟩
    have g := B.fr a h0
    cases m with
    | lst ms => obtain ⟨xs, h3, h4⟩ := h2; exact ⟨a, xs, rfl, g, h3, h4⟩
    | dct t ks vs => obtain ⟨xs, h3, h4⟩ := h2; exact ⟨a, xs, rfl, g, h3, h4⟩
    | obj c ns vs => obtain ⟨dx, xs, h3, h4, h5⟩ := h2; exact ⟨a, dx, xs, rfl, g, h3, h4, h5⟩
    | _ => exact h2.elim
  | un => rw [e] at q; exact q.elim
theorem se_con {e : Expr} {m : MV} {v : V} (h : PE X e (tC v)) (r : ∀ H P, Rl X.K T.C H P m v) : SE T X W e (dC m) := fun B => h.imp fun σ H Q ⟨ρ, R, q⟩ => q v H (Same.refl _) (r _ _)
theorem se_int {i : Int} {j} {pos : Pos} : SE T X W (.Constant (.int i) j pos) (dC (.int i)) := se_con pe_int fun _ _ => rfl
theorem se_bl {b : Bool} {j} {pos : Pos} : SE T X W (.Constant (.bool b) j pos) (dC (.bl b)) := se_con pe_bl fun _ _ => rfl
theorem se_non {j} {pos : Pos} : SE T X W (.Constant .none j pos) (dC .non) := se_con pe_non fun _ _ => rfl
theorem se_str {x : Str} {j} {pos : Pos} : SE T X W (.Constant (.str x) j pos) (dC (.str x)) := se_con pe_str fun _ _ => rfl
/-- a constant of the module -/
def GlC (X : Cx) (T : Tb) (x : Str) (m : MV) : Prop := ∃ v u, X.mg x = some u ∧ RelV v u ∧ ∀ H P, Rl X.K T.C H P m v
theorem se_glob {x : Str} {m : MV} {pos : Pos} (h : GlC X T x m) (hg : Gl X x := by rfl) (hd : (x == ("__debug__" : Str)) = false := by decide) : SE T X W (.Name x pos) (dC m) := fun B => by
  obtain ⟨v, u, h1, h2, h3⟩ := h
  exact se_con (pe_glob hg h1 h2 hd) h3 B
end

/-! ### two operands -/
def dBin (g : MV → MV → Rs MV) (a b : ED) : ED := fun ρ => (a ρ).bind fun x => (b ρ).bind fun y => g x y
def OpS (T : Tb) (X : Cx) (f : Value → Value → Sem Value) (g : MV → MV → Rs MV) : Prop :=
  ∃ r : R2, OpR X f r ∧ ∀ (H : Hp) (P G : Addr → Prop) (mx my : MV) (x y : V) (m : MV) (Q : VK), Ra X.K T.C H P G mx x → Ra X.K T.C H P G my y → g mx my = .ok m →
    (∀ v H', Same H H' → Rl X.K T.C H' (Up H P) m v → Q v H') → r x y H Q
def noEx (g : MV → MV → Rs MV) : Prop := ∀ x y c, g x y ≠ .ex c
section
variable {T : Tb} {X : Cx} {W : WX} {a b c : Expr} {da db dc : ED} {pos : Pos}
/-- the operands' readings, then the rule's -/
theorem bin_imp {K : PySem.W.Frag} {B : Bs} {r : R2} {g : MV → MV → Rs MV} (hn : noEx g)
    (hr : ∀ (H : Hp) (P G : Addr → Prop) (mx my : MV) (x y : V) (m : MV) (Q : VK), Ra K T.C H P G mx x → Ra K T.C H P G my y → g mx my = .ok m → (∀ v H', Same H H' → Rl K T.C H' (Up H P) m v → Q v H') → r x y H Q)
    {σ : L2.St} {H : Hp} {Q : VK} (h : tE K T B W (dBin g da db) σ H Q) : tOp r (tB K T B W da) (tB K T B W db) σ H Q := by
  obtain ⟨ρ, R, q⟩ := h
  refine ⟨ρ, R, ?_⟩
  unfold dBin at q
  cases e : da ρ with
  | ok mx =>
    rw [e] at q
    intro x H1 s1 rx
    refine ⟨ρ, R.grow s1, ?_⟩
    cases e2 : db ρ with
    | ok my =>
      rw [e2] at q
      intro y H2 s2 ry
      have R2 := (R.grow s1).grow s2
      cases e3 : g mx my with
      | ok m =>
        simp only [Rs.bind_ok, e3] at q
        exact hr H2 (Pf B σ ρ) B.G mx my x y m Q (rx.same s2) ry e3 fun v H' s' r' => q v H' ((s1.trans s2).trans s') (R2.up r')
      | ex c => exact absurd e3 (hn _ _ _)
      | no => simp only [Rs.bind_ok, e3] at q
    | ex c =>
      rw [e2] at q
      exact fun cls dd H' s' z => q cls dd H' (s1.trans s') z
    | no => rw [e2] at q; exact q
  | ex c => rw [e] at q; exact q
  | no => rw [e] at q; exact q
theorem se_bin {op : Operator} {g : MV → MV → Rs MV} (ho : OpS T X (binaryOp op) g) (hn : noEx g) (ha : SB T X W a da) (hb : SB T X W b db) : SE T X W (.BinOp a op b pos) (dBin g da db) := fun B => by
  obtain ⟨r, h1, h2⟩ := ho
  exact (pe_op h1 (ha B) (hb B)).imp fun σ H Q h => bin_imp hn h2 h
theorem se_cmp {op : CmpOp} {g : MV → MV → Rs MV} (ho : OpS T X (compareOp op) g) (hn : noEx g) (ha : SB T X W a da) (hb : SB T X W b db) (hm : behindInMarks op b = false) : SE T X W (.Compare a [op] [b] pos) (dBin g da db) := fun B => by
  obtain ⟨r, h1, h2⟩ := ho
  exact (pe_cmpR h1 (ha B) (hb B) hm).imp fun σ H Q h => bin_imp hn h2 h
/-- a value as a test: a truth value -/
def dTst (d : ED) : TD := fun ρ => (d ρ).bind fun m => match m with
  | .bl b => .ok b
  | _ => .no
theorem tst_imp {K : PySem.W.Frag} {B : Bs} {d : ED} {σ : L2.St} {H : Hp} {Q : Bool → Hp → Prop} (h : tTT K T B W (dTst d) σ H Q) : tE K T B W d σ H (fun x H' => ∃ k, x = .bl k ∧ Q k H') := by
  obtain ⟨ρ, R, q⟩ := h
  refine ⟨ρ, R, ?_⟩
  unfold dTst at q
  cases e : d ρ with
  | ok m =>
    rw [e] at q
    cases m with
    | bl b => exact fun v H' s r => ⟨b, r, q H' s⟩
    | _ => exact q.elim
  | ex c => rw [e] at q; exact q
  | no => rw [e] at q; exact q
theorem st_cmp {op : CmpOp} {g : MV → MV → Rs MV} (ho : OpS T X (compareOp op) g) (hn : noEx g) (ha : SB T X W a da) (hb : SB T X W b db) (hm : behindInMarks op b = false) : ST T X W (.Compare a [op] [b] pos) (dTst (dBin g da db)) := fun B => by
  obtain ⟨r, h1, h2⟩ := ho
  exact (pt_cmpR h1 (ha B) (hb B) hm).imp fun σ H Q h => bin_imp hn h2 (tst_imp h)
theorem st_val (ha : SE T X W a da) (he : ∀ whole, isTrue a X.env whole = (do let v ← whole; standAt a.pos; holding [v] (truthy v)) := by intro _; rfl) : ST T X W a (dTst da) := fun B =>
  (pt_val (ha B) he).imp fun σ H Q h => tst_imp h

/-! ### a < b < c -/
def dChain (g g' : MV → MV → Rs MV) (a b c : ED) : ED := fun ρ => (a ρ).bind fun x => (b ρ).bind fun y => (g x y).bind fun z => match z with
  | .bl true => (c ρ).bind fun w => g' y w
  | .bl false => .ok (.bl false)
  | _ => .no
theorem chain_imp {K : PySem.W.Frag} {B : Bs} {r r' : R2} {g g' : MV → MV → Rs MV} (hn : noEx g) (hn' : noEx g')
    (hr : ∀ (H : Hp) (P G : Addr → Prop) (mx my : MV) (x y : V) (m : MV) (Q : VK), Ra K T.C H P G mx x → Ra K T.C H P G my y → g mx my = .ok m → (∀ v H', Same H H' → Rl K T.C H' (Up H P) m v → Q v H') → r x y H Q)
    (hr' : ∀ (H : Hp) (P G : Addr → Prop) (mx my : MV) (x y : V) (m : MV) (Q : VK), Ra K T.C H P G mx x → Ra K T.C H P G my y → g' mx my = .ok m → (∀ v H', Same H H' → Rl K T.C H' (Up H P) m v → Q v H') → r' x y H Q)
    {σ : L2.St} {H : Hp} {Q : VK} (h : tE K T B W (dChain g g' da db dc) σ H Q) : tChain r r' (tB K T B W da) (tB K T B W db) (tB K T B W dc) σ H Q := by
  obtain ⟨ρ, R, q⟩ := h
  refine ⟨ρ, R, ?_⟩
  unfold dChain at q
  cases e : da ρ with
  | ok mx =>
    rw [e] at q
    intro x H1 s1 rx
    refine ⟨ρ, R.grow s1, ?_⟩
    cases e2 : db ρ with
    | ok my =>
      rw [e2] at q
      intro y H2 s2 ry
      cases e3 : g mx my with
      | ok m =>
        simp only [Rs.bind_ok, e3] at q
        refine hr H2 (Pf B σ ρ) B.G mx my x y m _ (rx.same s2) ry e3 fun v H3 s3 r3 => ?_
        cases m with
        | bl k =>
          refine ⟨k, r3, ?_⟩
          cases k with
          | true =>
            refine iteT ⟨ρ, ((R.grow s1).grow s2).grow s3, ?_⟩
            simp only at q
            cases e4 : dc ρ with
            | ok mw =>
              rw [e4] at q
              intro w H4 s4 rw'
              have R4 := (((R.grow s1).grow s2).grow s3).grow s4
              cases e5 : g' my mw with
              | ok m2 =>
                simp only [Rs.bind_ok, e5] at q
                exact hr' H4 (Pf B σ ρ) B.G my mw y w m2 Q ((ry.same s3).same s4) rw' e5 fun v H' s' r' => q v H' ((((s1.trans s2).trans s3).trans s4).trans s') (R4.up r')
              | ex c => exact absurd e5 (hn' _ _ _)
              | no => simp only [Rs.bind_ok, e5] at q
            | ex c => rw [e4] at q; exact fun cls dd H' s' z => q cls dd H' (((s1.trans s2).trans s3).trans s') z
            | no => rw [e4] at q; exact q
          | false => exact iteF (q (.bl false) H3 ((s1.trans s2).trans s3) rfl)
        | _ => exact q.elim
      | ex c => exact absurd e3 (hn _ _ _)
      | no => simp only [Rs.bind_ok, e3] at q; exact q.elim
    | ex c => rw [e2] at q; exact fun cls dd H' s' z => q cls dd H' (s1.trans s') z
    | no => rw [e2] at q; exact q
  | ex c => rw [e] at q; exact q
  | no => rw [e] at q; exact q
theorem se_chain {op op' : CmpOp} {g g' : MV → MV → Rs MV} (ho : OpS T X (compareOp op) g) (hn : noEx g) (ho' : OpS T X (compareOp op') g') (hn' : noEx g') (ha : SB T X W a da) (hb : SB T X W b db) (hc : SB T X W c dc)
    (hm : lastMarks [op, op'] [b, c] = false := by with_unfolding_all rfl) : SE T X W (.Compare a [op, op'] [b, c] pos) (dChain g g' da db dc) := fun B => by
  obtain ⟨r, h1, h2⟩ := ho
  obtain ⟨r', h3, h4⟩ := ho'
  exact (pe_chain h1 h3 (ha B) (hb B) (hc B) hm).imp fun σ H Q h => chain_imp hn hn' h2 h4 h
theorem st_chain {op op' : CmpOp} {g g' : MV → MV → Rs MV} (ho : OpS T X (compareOp op) g) (hn : noEx g) (ho' : OpS T X (compareOp op') g') (hn' : noEx g') (ha : SB T X W a da) (hb : SB T X W b db) (hc : SB T X W c dc)
    (hm : lastMarks [op, op'] [b, c] = false := by with_unfolding_all rfl) : ST T X W (.Compare a [op, op'] [b, c] pos) (dTst (dChain g g' da db dc)) := fun B => by
  obtain ⟨r, h1, h2⟩ := ho
  obtain ⟨r', h3, h4⟩ := ho'
  exact (pt_chain h1 h3 (ha B) (hb B) (hc B) hm).imp fun σ H Q h => chain_imp hn hn' h2 h4 (tst_imp h)
end

/-! ### and, or, not, if else -/
def dAnd (a b : TD) : TD := fun ρ => (a ρ).bind fun x => if x then b ρ else .ok false
def dOr (a b : TD) : TD := fun ρ => (a ρ).bind fun x => if x then .ok true else b ρ
def dNot (a : TD) : TD := fun ρ => (a ρ).bind fun x => .ok (!x)
def dBV (d : TD) : ED := fun ρ => (d ρ).bind fun b => .ok (.bl b)
def dIf (c : TD) (a b : ED) : ED := fun ρ => (c ρ).bind fun x => if x then a ρ else b ρ
def dAndV (a b : ED) : ED := fun ρ => (a ρ).bind fun x => match x with
  | .bl true => b ρ
  | .bl false => .ok (.bl false)
  | _ => .no
def dOrV (a b : ED) : ED := fun ρ => (a ρ).bind fun x => match x with
  | .bl true => .ok (.bl true)
  | .bl false => b ρ
  | _ => .no
def dNotV (a : ED) : ED := fun ρ => (a ρ).bind fun x => match x with
  | .bl b => .ok (.bl (!b))
  | _ => .no
section
variable {T : Tb} {X : Cx} {W : WX} {a b c : Expr} {ta tb tc : TD} {da db : ED} {pos : Pos} {rest : List Expr}
theorem SW.t (h : SW T X W a ta) : ST T X W a ta := fun B => (h B).pt
theorem sw_one {op : BoolOp} (ha : ST T X W a ta) (h : op = .And ∨ op = .Or) : SW T X W (.BoolOp op [a] pos) ta := fun B => by
  rcases h with rfl | rfl
  · exact pw_and1 (ha B)
  · exact pw_or1 (ha B)
theorem sw_and1 (ha : ST T X W a ta) : SW T X W (.BoolOp .And [a] pos) ta := fun B => pw_and1 (ha B)
theorem sw_or1 (ha : ST T X W a ta) : SW T X W (.BoolOp .Or [a] pos) ta := fun B => pw_or1 (ha B)
theorem sw_and (ha : ST T X W a ta) (hb : SW T X W (.BoolOp .And (b :: rest) pos) tb) : SW T X W (.BoolOp .And (a :: b :: rest) pos) (dAnd ta tb) := fun B =>
  (pw_and (ha B) (hb B)).imp fun σ H Q ⟨ρ, R, q⟩ => by
    refine ⟨ρ, R, ?_⟩
    unfold dAnd at q
    cases e : ta ρ with
    | ok x =>
      rw [e] at q
      intro H1 s1
      cases x with
      | true =>
        simp only [Rs.bind_ok, if_true] at q
        refine iteT ⟨ρ, R.grow s1, ?_⟩
        cases e2 : tb ρ with
        | ok y => rw [e2] at q; exact fun H' s => q H' (s1.trans s)
        | ex c => rw [e2] at q; exact fun cls dd H' s z => q cls dd H' (s1.trans s) z
        | no => rw [e2] at q; exact q
      | false => exact iteF (q H1 s1)
    | ex c => rw [e] at q; exact q
    | no => rw [e] at q; exact q
theorem sw_or (ha : ST T X W a ta) (hb : SW T X W (.BoolOp .Or (b :: rest) pos) tb) : SW T X W (.BoolOp .Or (a :: b :: rest) pos) (dOr ta tb) := fun B =>
  (pw_or (ha B) (hb B)).imp fun σ H Q ⟨ρ, R, q⟩ => by
    refine ⟨ρ, R, ?_⟩
    unfold dOr at q
    cases e : ta ρ with
    | ok x =>
      rw [e] at q
      intro H1 s1
      cases x with
      | false =>
        simp only [Rs.bind_ok, if_false, Bool.false_eq_true] at q
        refine iteF ⟨ρ, R.grow s1, ?_⟩
        cases e2 : tb ρ with
        | ok y => rw [e2] at q; exact fun H' s => q H' (s1.trans s)
        | ex c => rw [e2] at q; exact fun cls dd H' s z => q cls dd H' (s1.trans s) z
        | no => rw [e2] at q; exact q
      | true => exact iteT (q H1 s1)
    | ex c => rw [e] at q; exact q
    | no => rw [e] at q; exact q
theorem st_not (ha : ST T X W a ta) : ST T X W (.UnaryOp .Not a pos) (dNot ta) := fun B =>
  (pt_not (ha B)).imp fun σ H Q ⟨ρ, R, q⟩ => by
    refine ⟨ρ, R, ?_⟩
    unfold dNot at q
    cases e : ta ρ with
    | ok x => rw [e] at q; exact q
    | ex c => rw [e] at q; exact q
    | no => rw [e] at q; exact q
theorem se_one {op : BoolOp} (ha : SE T X W a da) : SE T X W (.BoolOp op [a] pos) da := fun B => pe_one (ha B)
theorem se_and (ha : SE T X W a da) (hb : SE T X W (.BoolOp .And (b :: rest) pos) db) : SE T X W (.BoolOp .And (a :: b :: rest) pos) (dAndV da db) := fun B =>
  (pe_and (ha B) (hb B)).imp fun σ H Q ⟨ρ, R, q⟩ => by
    refine ⟨ρ, R, ?_⟩
    unfold dAndV at q
    cases e : da ρ with
    | ok x =>
      rw [e] at q
      intro v H1 s1 r1
      cases x with
      | bl k =>
        refine ⟨k, r1, ?_⟩
        cases k with
        | true =>
          simp only [Rs.bind_ok] at q
          refine iteT ⟨ρ, R.grow s1, ?_⟩
          cases e2 : db ρ with
          | ok y => rw [e2] at q; exact fun v H' s r => q v H' (s1.trans s) r
          | ex c => rw [e2] at q; exact fun cls dd H' s z => q cls dd H' (s1.trans s) z
          | no => rw [e2] at q; exact q
        | false => exact iteF (q _ H1 s1 rfl)
      | _ => exact q.elim
    | ex c => rw [e] at q; exact q
    | no => rw [e] at q; exact q
theorem se_or (ha : SE T X W a da) (hb : SE T X W (.BoolOp .Or (b :: rest) pos) db) : SE T X W (.BoolOp .Or (a :: b :: rest) pos) (dOrV da db) := fun B =>
  (pe_or (ha B) (hb B)).imp fun σ H Q ⟨ρ, R, q⟩ => by
    refine ⟨ρ, R, ?_⟩
    unfold dOrV at q
    cases e : da ρ with
    | ok x =>
      rw [e] at q
      intro v H1 s1 r1
      cases x with
      | bl k =>
        refine ⟨k, r1, ?_⟩
        cases k with
        | false =>
          simp only [Rs.bind_ok] at q
          refine iteF ⟨ρ, R.grow s1, ?_⟩
          cases e2 : db ρ with
          | ok y => rw [e2] at q; exact fun v H' s r => q v H' (s1.trans s) r
          | ex c => rw [e2] at q; exact fun cls dd H' s z => q cls dd H' (s1.trans s) z
          | no => rw [e2] at q; exact q
        | true => exact iteT (q _ H1 s1 rfl)
      | _ => exact q.elim
    | ex c => rw [e] at q; exact q
    | no => rw [e] at q; exact q
theorem se_not (ha : SE T X W a da) : SE T X W (.UnaryOp .Not a pos) (dNotV da) := fun B =>
  (pe_not (ha B)).imp fun σ H Q ⟨ρ, R, q⟩ => by
    refine ⟨ρ, R, ?_⟩
    unfold dNotV at q
    cases e : da ρ with
    | ok x =>
      rw [e] at q
      intro v H1 s1 r1
      cases x with
      | bl k => exact ⟨k, r1, q _ H1 s1 rfl⟩
      | _ => exact q.elim
    | ex c => rw [e] at q; exact q
    | no => rw [e] at q; exact q
theorem se_if (hc : ST T X W c tc) (ha : SE T X W a da) (hb : SE T X W b db) : SE T X W (.IfExp c a b pos) (dIf tc da db) := fun B =>
  (pe_ifExp (hc B) (ha B) (hb B)).imp fun σ H Q ⟨ρ, R, q⟩ => by
    refine ⟨ρ, R, ?_⟩
    unfold dIf at q
    cases e : tc ρ with
    | ok x =>
      rw [e] at q
      intro H1 s1
      cases x with
      | true =>
        simp only [Rs.bind_ok, if_true] at q
        refine iteT ⟨ρ, R.grow s1, ?_⟩
        cases e2 : da ρ with
        | ok y => rw [e2] at q; exact fun v H' s r => q v H' (s1.trans s) r
        | ex c => rw [e2] at q; exact fun cls dd H' s z => q cls dd H' (s1.trans s) z
        | no => rw [e2] at q; exact q
      | false =>
        simp only [Rs.bind_ok, if_false, Bool.false_eq_true] at q
        refine iteF ⟨ρ, R.grow s1, ?_⟩
        cases e2 : db ρ with
        | ok y => rw [e2] at q; exact fun v H' s r => q v H' (s1.trans s) r
        | ex c => rw [e2] at q; exact fun cls dd H' s z => q cls dd H' (s1.trans s) z
        | no => rw [e2] at q; exact q
    | ex c => rw [e] at q; exact q
    | no => rw [e] at q; exact q
theorem sn_if (hc : ST T X W c tc) (ha : SN T X W a da) (hb : SN T X W b db) : SN T X W (.IfExp c a b pos) (dIf tc da db) := fun B =>
  (pe_ifExp (hc B) (ha B) (hb B)).imp fun σ H Q ⟨ρ, R, q⟩ => by
    refine ⟨ρ, R, ?_⟩
    unfold dIf at q
    cases e : tc ρ with
    | ok x =>
      rw [e] at q
      intro H1 s1
      have nn : ∀ {a : Addr}, H1 a = none → H a = none := fun h => s1.free h
      cases x with
      | true =>
        simp only [Rs.bind_ok, if_true] at q
        refine iteT ⟨ρ, R.grow s1, ?_⟩
        cases e2 : da ρ with
        | ok y => rw [e2] at q; exact fun v H' s n r => q v H' (s1.trans s) (nn n) r
        | ex c => rw [e2] at q; exact fun cls dd H' s z => q cls dd H' (s1.trans s) z
        | no => rw [e2] at q; exact q
      | false =>
        simp only [Rs.bind_ok, if_false, Bool.false_eq_true] at q
        refine iteF ⟨ρ, R.grow s1, ?_⟩
        cases e2 : db ρ with
        | ok y => rw [e2] at q; exact fun v H' s n r => q v H' (s1.trans s) (nn n) r
        | ex c => rw [e2] at q; exact fun cls dd H' s z => q cls dd H' (s1.trans s) z
        | no => rw [e2] at q; exact q
    | ex c => rw [e] at q; exact q
    | no => rw [e] at q; exact q
end

/-! ### arguments, displays -/
def dNil : AD := fun _ => .ok []
def dCons (a : ED) (r : AD) : AD := fun ρ => (a ρ).bind fun x => (r ρ).bind fun xs => .ok (x :: xs)
def dTup (d : AD) : ED := fun ρ => (d ρ).bind fun ms => if ms.length ≤ 1000 then .ok (.tup ms) else .no
def dLst (d : AD) : ED := fun ρ => (d ρ).bind fun ms => if ms.length ≤ 1000 then .ok (.lst ms) else .no
section
variable {T : Tb} {X : Cx} {W : WX} {e : Expr} {es : List Expr} {d : ED} {da : AD} {pos : Pos}
theorem sa_nil {full : Bool} : SA T X W full [] dNil := fun B => pa_nil.imp fun σ H Q ⟨ρ, R, q⟩ => q [] H (Same.refl _) (by
  cases full
  · exact .nil
  · rfl)
theorem sa_cons (he : SE T X W e d) (hr : SA T X W true es da) (hs : starEach (e :: es) X.env = (false, eval e X.env) :: starEach es X.env := by rfl) : SA T X W true (e :: es) (dCons d da) := fun B =>
  (pa_cons (he B) (hr B) hs).imp fun σ H Q ⟨ρ, R, q⟩ => by
    refine ⟨ρ, R, ?_⟩
    unfold dCons at q
    cases e1 : d ρ with
    | ok m =>
      rw [e1] at q
      intro v H1 s1 r1
      refine ⟨ρ, R.grow s1, ?_⟩
      cases e2 : da ρ with
      | ok ms =>
        rw [e2] at q
        exact fun vs H2 s2 r2 => q _ H2 (s1.trans s2) ⟨v, vs, rfl, r1.same s2, r2⟩
      | ex c => rw [e2] at q; exact fun cls dd H' s z => q cls dd H' (s1.trans s) z
      | no => rw [e2] at q; exact q
    | ex c => rw [e1] at q; exact q
    | no => rw [e1] at q; exact q
theorem sa_consB (he : SB T X W e d) (hr : SA T X W false es da) (hs : starEach (e :: es) X.env = (false, eval e X.env) :: starEach es X.env := by rfl) : SA T X W false (e :: es) (dCons d da) := fun B =>
  (pa_cons (he B) (hr B) hs).imp fun σ H Q ⟨ρ, R, q⟩ => by
    refine ⟨ρ, R, ?_⟩
    unfold dCons at q
    cases e1 : d ρ with
    | ok m =>
      rw [e1] at q
      intro v H1 s1 r1
      refine ⟨ρ, R.grow s1, ?_⟩
      cases e2 : da ρ with
      | ok ms =>
        rw [e2] at q
        exact fun vs H2 s2 r2 => q _ H2 (s1.trans s2) (.cons (r1.same s2) r2)
      | ex c => rw [e2] at q; exact fun cls dd H' s z => q cls dd H' (s1.trans s) z
      | no => rw [e2] at q; exact q
    | ex c => rw [e1] at q; exact q
    | no => rw [e1] at q; exact q
theorem line1000 {n : Nat} (h : n ≤ 1000) : n ≤ sizeLine := Nat.le_trans h (by rw [sizeLine_eq]; decide)
theorem same_upd {H : Hp} {p : Addr} {o : HO} (h : H p = none) : Same H (upd H p o) := fun b u q => by rw [upd_ne (ne_of_none q h)]; exact q
theorem se_tup {x1} (h : SA T X W true es da) : SE T X W (.Tuple es x1 pos) (dTup da) := fun B => (pe_tup (h B)).imp fun σ H Q ⟨ρ, R, q⟩ => by
  refine ⟨ρ, R, ?_⟩
  unfold dTup at q
  cases e : da ρ with
  | ok ms =>
    rw [e] at q
    simp only [Rs.bind_ok] at q
    intro vs H1 s1 r1
    by_cases hl : ms.length ≤ 1000
    · rw [if_pos hl] at q
      refine ⟨line1000 (by rw [← RlL.length r1]; exact hl), fun p hp => q _ _ (s1.trans (same_upd hp)) ⟨p, vs, rfl, upd_same, r1.same (same_upd hp)⟩⟩
    · rw [if_neg hl] at q; exact q.elim
  | ex c => rw [e] at q; exact q
  | no => rw [e] at q; exact q
theorem sn_lst (h : SA T X W true es da) : SN T X W (.List es pos) (dLst da) := fun B => (pe_lst (h B)).imp fun σ H Q ⟨ρ, R, q⟩ => by
  refine ⟨ρ, R, ?_⟩
  unfold dLst at q
  cases e : da ρ with
  | ok ms =>
    rw [e] at q
    simp only [Rs.bind_ok] at q
    intro vs H1 s1 r1
    by_cases hl : ms.length ≤ 1000
    · rw [if_pos hl] at q
      refine ⟨line1000 (by rw [← RlL.length r1]; exact hl), fun p hp => q p _ (s1.trans (same_upd hp)) (s1.free hp) ⟨vs, upd_same, ?_⟩⟩
      exact RlL.keep ⟨fun a o h _ => same_upd hp a o h, fun a o h z => ⟨same_upd hp a o h, z, ne_of_none h hp⟩⟩ _ r1
    · rw [if_neg hl] at q; exact q.elim
  | ex c => rw [e] at q; exact q
  | no => rw [e] at q; exact q
end
end Mi

set_option Elab.async false
set_option linter.all false
set_option maxRecDepth 100000
/-! Mi, part 3: operations by values. -/
namespace Mi
open PySem PySem.Spec L2

/-! ### numbers -/
def intsOf : List MV → Option (List Int)
  | [] => some []
  | .int i :: r => (intsOf r).map (i :: ·)
  | _ :: _ => none
theorem intsOf_ok {K : PySem.W.Frag} {C : Str → Addr} {H : Hp} {P : Addr → Prop} : ∀ {ms : List MV} {ns : List Int} {xs : List V}, intsOf ms = some ns → RlL K C H P ms xs → xs = ns.map V.int
  | [], _, _, e, h => by cases e; cases h; rfl
  | .int i :: r, _, _, e, ⟨x, xr, ex, h1, h2⟩ => by
    simp only [intsOf, Option.map_eq_some_iff] at e
    obtain ⟨ns, e1, e2⟩ := e
    subst e2 ex
    have h1 : x = .int i := h1
    rw [intsOf_ok e1 h2, h1]
    rfl
  | .non :: _, _, _, e, _ => by simp [intsOf] at e
  | .bl _ :: _, _, _, e, _ => by simp [intsOf] at e
  | .str _ :: _, _, _, e, _ => by simp [intsOf] at e
  | .tup _ :: _, _, _, e, _ => by simp [intsOf] at e
  | .lst _ :: _, _, _, e, _ => by simp [intsOf] at e
  | .dct _ _ _ :: _, _, _, e, _ => by simp [intsOf] at e
  | .obj _ _ _ :: _, _, _, e, _ => by simp [intsOf] at e
  | .scr _ :: _, _, _, e, _ => by simp [intsOf] at e
  | .ktp _ :: _, _, _, e, _ => by simp [intsOf] at e
theorem rlInts {K : PySem.W.Frag} {C : Str → Addr} {H : Hp} {P : Addr → Prop} : ∀ (ns : List Int), RlL K C H P (ns.map MV.int) (ns.map V.int)
  | [] => rfl
  | n :: ns => ⟨_, _, rfl, rfl, rlInts ns⟩
abbrev big : Nat := 16000000
theorem big_line {n : Nat} (h : n ≤ big) : n ≤ sizeLine := Nat.le_trans h (by rw [sizeLine_eq]; decide)

def opAdd : MV → MV → Rs MV
  | .int i, .int j => .ok (.int (i + j))
  | .str x, .str y => if x.length + y.length ≤ big then .ok (.str (x ++ y)) else .no
  | .lst xs, .lst ys => if xs.length + ys.length ≤ big then .ok (.lst (xs ++ ys)) else .no
  | .tup xs, .tup ys => if xs.length + ys.length ≤ big then .ok (.tup (xs ++ ys)) else .no
  | _, _ => .no
def opSub : MV → MV → Rs MV
  | .int i, .int j => .ok (.int (i - j))
  | _, _ => .no
def mulOk (i j : Int) : Bool := (decide (-18446744073709551616 < i) && decide (i < 18446744073709551616)) || (decide (-18446744073709551616 < j) && decide (j < 18446744073709551616)) || decide (i.natAbs.log2 + j.natAbs.log2 < 1000000)
def opMul : MV → MV → Rs MV
  | .int i, .int j => if mulOk i j then .ok (.int (i * j)) else .no
  | .lst xs, .int k => if k ≤ 1000000 ∧ xs.length * k.toNat ≤ big ∧ -1000000 ≤ k then .ok (.lst (List.replicate k.toNat xs).flatten) else .no
  | .tup xs, .int k => if 2 ≤ k ∧ k ≤ 1000 ∧ xs.length ≤ 1000 ∧ 0 < xs.length then .ok (.tup (List.replicate k.toNat xs).flatten) else .no
  | _, _ => .no
def opFdv : MV → MV → Rs MV
  | .int i, .int j => if 0 < j ∧ (j < 1073741824 ∨ j.natAbs.log2 < 9000) then .ok (.int (i / j)) else if j < 0 ∧ j.natAbs < 1073741824 then .ok (.int (i.fdiv j)) else .no
  | _, _ => .no
def opMod : MV → MV → Rs MV
  | .int i, .int j => if 0 < j then .ok (.int (i % j)) else .no
  | _, _ => .no
def opPow : MV → MV → Rs MV
  | .int i, .int j => if 0 ≤ j ∧ j ≤ 1000000 ∧ i.natAbs < 18446744073709551616 then .ok (.int (i ^ j.toNat)) else .no
  | _, _ => .no
def opShl : MV → MV → Rs MV
  | .int i, .int j => if 0 ≤ j ∧ j ≤ 1000000 ∧ i.natAbs.log2 < 1000000 then .ok (.int (i * 2 ^ j.toNat)) else .no
  | _, _ => .no
def opShr : MV → MV → Rs MV
  | .int i, .int j => if 0 ≤ j then .ok (.int (i / 2 ^ j.toNat)) else .no
  | _, _ => .no
def opAnd : MV → MV → Rs MV
  | .int i, .int j => .ok (.int (Builtin.bitAnd i j))
  | _, _ => .no
def opOr : MV → MV → Rs MV
  | .int i, .int j => .ok (.int (Builtin.bitOr i j))
  | _, _ => .no
def opLt : MV → MV → Rs MV
  | .int i, .int j => .ok (.bl (decide (i < j)))
  | .str x, .str y => .ok (.bl (decide (x.cps.toList < y.cps.toList)))
  | .tup xs, .tup ys => match intsOf xs, intsOf ys with
    | some a, some b => .ok (.bl (HT.lexLt a b))
    | _, _ => .no
  | _, _ => .no
def opLe : MV → MV → Rs MV
  | .int i, .int j => .ok (.bl (decide (i ≤ j)))
  | _, _ => .no
def opGt : MV → MV → Rs MV
  | .int i, .int j => .ok (.bl (decide (j < i)))
  | _, _ => .no
def opGe : MV → MV → Rs MV
  | .int i, .int j => .ok (.bl (decide (j ≤ i)))
  | _, _ => .no
def opIsN : MV → MV → Rs MV
  | x, .non => .ok (.bl (match x with | .non => true | _ => false))
  | _, _ => .no
def opNotN : MV → MV → Rs MV
  | x, .non => .ok (.bl (match x with | .non => false | _ => true))
  | _, _ => .no
theorem nx2 {g : MV → MV → Rs MV} (h : ∀ x y, (match g x y with | .ex _ => False | _ => True)) : noEx g := fun x y c e => by
  have := h x y
  rw [e] at this
  exact this

-- data for ==
mutual
def pd : MV → PyData
  | .non => .none
  | .bl b => .bool b
  | .int i => .int i
  | .str x => .str x
  | .tup ms => .tuple (pdL ms)
  | .ktp ms => .tuple (pdL ms)
  | .lst ms => .list (pdL ms)
  | .dct _ _ _ | .obj _ _ _ | .scr _ => .dict []
def pdL : List MV → List PyData
  | [] => []
  | m :: ms => pd m :: pdL ms
end
def shp (m : MV) : Bool := SeqAt.shaped (pd m)
section
variable {K : PySem.W.Frag} {C : Str → Addr} {H : Hp} {P G : Addr → Prop}
mutual
theorem Rl.dp : ∀ {m : MV} {v : V}, Rl K C H P m v → (pd m).canLay0 = true → Dp K H v (pd m)
  | .non, _, h, _ => by cases (show _ = V.non from h); exact .non
  | .bl b, _, h, _ => by cases (show _ = V.bl b from h); exact .bl b
  | .int i, _, h, _ => by cases (show _ = V.int i from h); exact .int i
  | .str x, _, h, _ => by cases (show _ = V.str x from h); exact .str x
  | .tup ms, _, ⟨a, xs, e, h1, h2⟩, n => by subst e; exact .tup (SqT.of h1) (RlL.dp h2 (by simpa [pd, PyData.canLay0] using n))
  | .ktp ms, _, ⟨a, xs, e, h1, h2⟩, n => by subst e; exact .tup h1.seq (RlL.dp h2 (by simpa [pd, PyData.canLay0] using n))
  | .lst ms, _, ⟨a, xs, e, _, h1, h2⟩, n => by subst e; exact .lst (SqL.of h1) (RlL.dp h2 (by simpa [pd, PyData.canLay0] using n))
  | .dct _ _ _, _, _, n => by simp [pd, PyData.canLay0] at n
  | .obj _ _ _, _, _, n => by simp [pd, PyData.canLay0] at n
  | .scr _, _, _, n => by simp [pd, PyData.canLay0] at n
theorem RlL.dp : ∀ {ms : List MV} {xs : List V}, RlL K C H P ms xs → PyData.canLayAll0 (pdL ms) = true → DpAll K H xs (pdL ms)
  | [], _, h, _ => by cases h; exact .nil
  | m :: ms, _, ⟨x, r, e, h1, h2⟩, n => by
    subst e
    simp only [pdL, PyData.canLayAll0, Bool.and_eq_true] at n
    exact .cons (Rl.dp h1 n.1) (RlL.dp h2 n.2)
end
theorem Ra.dp : ∀ {m : MV} {v : V}, Ra K C H P G m v → (pd m).canLay0 = true → Dp K H v (pd m)
  | .lst ms, _, ⟨a, xs, e, _, h1, h2⟩, n => by subst e; exact .lst (SqL.of h1) (RlL.dp h2 (by simpa [pd, PyData.canLay0] using n))
  | .non, _, h, n => Rl.dp (m := .non) (C := C) (P := P) h n
  | .bl b, _, h, n => Rl.dp (m := .bl b) (C := C) (P := P) h n
  | .int i, _, h, n => Rl.dp (m := .int i) (C := C) (P := P) h n
  | .str x, _, h, n => Rl.dp (m := .str x) (C := C) (P := P) h n
  | .tup ms, _, h, n => Rl.dp (m := .tup ms) (C := C) (P := P) h n
  | .ktp ms, _, h, n => Rl.dp (m := .ktp ms) (C := C) (P := P) h n
  | .dct _ _ _, _, _, n => by simp [pd, PyData.canLay0] at n
  | .obj _ _ _, _, _, n => by simp [pd, PyData.canLay0] at n
  | .scr _, _, _, n => by simp [pd, PyData.canLay0] at n
theorem shp_lay {m : MV} (h : shp m = true) : (pd m).canLay0 = true := SeqAt.canLay_of_shaped h
end
def meq (x y : MV) : Bool := PyData.eqv (pd x) (pd y)
def opEq (x y : MV) : Rs MV := if shp x && shp y then .ok (.bl (meq x y)) else .no
def opNe (x y : MV) : Rs MV := if shp x && shp y then .ok (.bl (!meq x y)) else .no
/-- x in a list, a tuple: its items -/
def itemsOf : MV → Option (List MV)
  | .lst ms => some ms
  | .tup ms => some ms
  | _ => none
/-- x in y -/
def inL (x : MV) : List MV → Bool
  | [] => false
  | y :: r => meq y x || inL x r
def hasKey (x : MV) (ks : List MV) : Bool := inL x ks
def keyOk (x : MV) : Bool := (keyOf x).isSome || (tkeyOf x).isSome

section
variable {T : Tb} {X : Cx} {k : Nat}
theorem os_int {f : Value → Value → Sem Value} {g : Int → Int → V} {g' : Int → Int → MV} {h : MV → MV → Rs MV} (o : OpR X f (rI0 g)) (e : ∀ x y m, h x y = .ok m → ∃ i j, x = .int i ∧ y = .int j ∧ m = g' i j)
    (r : ∀ i j H P, Rl X.K T.C H P (g' i j) (g i j)) : OpS T X f h :=
  ⟨_, o, fun H P G mx my x y m Q rx ry em q => by
    obtain ⟨i, j, rfl, rfl, rfl⟩ := e _ _ _ em
    exact ⟨i, j, rx, ry, q _ H (Same.refl _) (r i j _ _)⟩⟩
theorem os_intC {f : Value → Value → Sem Value} {C : Int → Int → Prop} {g : Int → Int → V} {g' : Int → Int → MV} {h : MV → MV → Rs MV} (o : OpR X f (rI C g)) (e : ∀ x y m, h x y = .ok m → ∃ i j, x = .int i ∧ y = .int j ∧ C i j ∧ m = g' i j)
    (r : ∀ i j H P, Rl X.K T.C H P (g' i j) (g i j)) : OpS T X f h :=
  ⟨_, o, fun H P G mx my x y m Q rx ry em q => by
    obtain ⟨i, j, rfl, rfl, c, rfl⟩ := e _ _ _ em
    exact ⟨i, j, rx, ry, c, q _ H (Same.refl _) (r i j _ _)⟩⟩
theorem os_sub : OpS T X (binaryOp .Sub) opSub := os_int (g' := fun i j => .int (i - j)) op_sub (fun x y m e => by
  unfold opSub at e; split at e <;> cases e; exact ⟨_, _, rfl, rfl, rfl⟩) fun _ _ _ _ => rfl
theorem op_mulA : OpR X (binaryOp .Mult) (rI (fun i j => mulOk i j = true) fun i j => .int (i * j)) := opI fun i j _ _ _ _ _ hc q => PyProof.Rows.mul_int q (by
  unfold mulOk at hc
  simp only [Bool.or_eq_true, Bool.and_eq_true, decide_eq_true_eq] at hc
  have e64 : (2 : Int) ^ 64 = 18446744073709551616 := by decide
  rw [← e64] at hc
  rcases hc with (h | h) | h
  · exact (show CMul i j from .inl h).ok
  · exact (show CMul i j from .inr h).ok
  · exact (show CMulW i j from h).ok)
theorem op_fdvA : OpR X (binaryOp .FloorDiv) (rI (fun i j => 0 < j ∧ (j < 1073741824 ∨ j.natAbs.log2 < 9000)) fun i j => .int (i / j)) := by
  intro pins s σ H x y v u Q I rx ry h
  obtain ⟨i, j, e1, e2, ⟨c1, c2⟩, q⟩ := h
  rcases c2 with c | c
  · exact op_fdiv pins s σ H x y v u Q I rx ry ⟨i, j, e1, e2, ⟨c1, c⟩, q⟩
  · exact op_fdivW pins s σ H x y v u Q I rx ry ⟨i, j, e1, e2, ⟨c1, c⟩, q⟩
theorem os_mulI : OpS T X (binaryOp .Mult) (fun x y => match x, y with | .int i, .int j => opMul (.int i) (.int j) | _, _ => .no) := os_intC (g' := fun i j => .int (i * j)) op_mulA (fun x y m e => by
  split at e
  · simp only [opMul] at e; split at e <;> cases e; exact ⟨_, _, rfl, rfl, by assumption, rfl⟩
  · cases e) fun _ _ _ _ => rfl
def opFdv0 : MV → MV → Rs MV
  | .int i, .int j => if 0 < j ∧ (j < 1073741824 ∨ j.natAbs.log2 < 9000) then .ok (.int (i / j)) else .no
  | _, _ => .no
def opFdvN : MV → MV → Rs MV
  | .int i, .int j => if j ≠ 0 ∧ j.natAbs < 1073741824 then .ok (.int (i.fdiv j)) else .no
  | _, _ => .no
theorem os_fdv0 : OpS T X (binaryOp .FloorDiv) opFdv0 := os_intC (g' := fun i j => .int (i / j)) op_fdvA (fun x y m e => by
  unfold opFdv0 at e; split at e
  · split at e <;> cases e; exact ⟨_, _, rfl, rfl, by assumption, rfl⟩
  · cases e) fun _ _ _ _ => rfl
theorem os_fdvN : OpS T X (binaryOp .FloorDiv) opFdvN := os_intC (g' := fun i j => .int (i.fdiv j)) op_fdivN (fun x y m e => by
  unfold opFdvN at e; split at e
  · split at e <;> cases e; exact ⟨_, _, rfl, rfl, by assumption, rfl⟩
  · cases e) fun _ _ _ _ => rfl
theorem os_mod : OpS T X (binaryOp .Mod) opMod := os_intC (g' := fun i j => .int (i % j)) op_mod (fun x y m e => by
  unfold opMod at e; split at e
  · split at e <;> cases e; exact ⟨_, _, rfl, rfl, by assumption, rfl⟩
  · cases e) fun _ _ _ _ => rfl
theorem os_pow : OpS T X (binaryOp .Pow) opPow := os_intC (g' := fun i j => .int (i ^ j.toNat)) op_pow (fun x y m e => by
  unfold opPow at e; split at e
  · split at e <;> cases e; exact ⟨_, _, rfl, rfl, by assumption, rfl⟩
  · cases e) fun _ _ _ _ => rfl
theorem os_shl : OpS T X (binaryOp .LShift) opShl := os_intC (g' := fun i j => .int (i * 2 ^ j.toNat)) op_shlW (fun x y m e => by
  unfold opShl at e; split at e
  · rename_i i j
    split at e <;> cases e
    rename_i c
    refine ⟨_, _, rfl, rfl, ⟨c.1, ?_⟩, rfl⟩
    have : Builtin.Int.intBits i ≤ i.natAbs.log2 + 1 := by unfold Builtin.Int.intBits; split <;> omega
    have h2 := c.2.1
    have h3 := c.2.2
    have : (2 : Int) ^ 27 = 134217728 := by decide
    omega
  · cases e) fun _ _ _ _ => rfl
theorem os_shr : OpS T X (binaryOp .RShift) opShr := os_intC (g' := fun i j => .int (i / 2 ^ j.toNat)) op_shr (fun x y m e => by
  unfold opShr at e; split at e
  · split at e <;> cases e; exact ⟨_, _, rfl, rfl, by assumption, rfl⟩
  · cases e) fun _ _ _ _ => rfl
theorem os_and : OpS T X (binaryOp .BitAnd) opAnd := os_int (g' := fun i j => .int (Builtin.bitAnd i j)) op_and (fun x y m e => by
  unfold opAnd at e; split at e <;> cases e; exact ⟨_, _, rfl, rfl, rfl⟩) fun _ _ _ _ => rfl
theorem os_or : OpS T X (binaryOp .BitOr) opOr := os_int (g' := fun i j => .int (Builtin.bitOr i j)) op_or (fun x y m e => by
  unfold opOr at e; split at e <;> cases e; exact ⟨_, _, rfl, rfl, rfl⟩) fun _ _ _ _ => rfl
theorem os_le : OpS T X (compareOp .LtE) opLe := os_int (g' := fun i j => .bl (decide (i ≤ j))) op_le (fun x y m e => by
  unfold opLe at e; split at e <;> cases e; exact ⟨_, _, rfl, rfl, rfl⟩) fun _ _ _ _ => rfl
theorem os_gt : OpS T X (compareOp .Gt) opGt := os_int (g' := fun i j => .bl (decide (j < i))) op_gt (fun x y m e => by
  unfold opGt at e; split at e <;> cases e; exact ⟨_, _, rfl, rfl, rfl⟩) fun _ _ _ _ => rfl
theorem os_ge : OpS T X (compareOp .GtE) opGe := os_int (g' := fun i j => .bl (decide (j ≤ i))) op_ge (fun x y m e => by
  unfold opGe at e; split at e <;> cases e; exact ⟨_, _, rfl, rfl, rfl⟩) fun _ _ _ _ => rfl
theorem OpS.or {f : Value → Value → Sem Value} {g g' h : MV → MV → Rs MV} (a : OpS T X f g) (b : OpS T X f g') (c : ∀ x y m, h x y = .ok m → g x y = .ok m ∨ g' x y = .ok m) : OpS T X f h := by
  obtain ⟨r, h1, h2⟩ := a
  obtain ⟨r', h3, h4⟩ := b
  exact ⟨_, h1.or h3, fun H P G mx my x y m Q rx ry em q => (c _ _ _ em).imp (fun z => h2 H P G mx my x y m Q rx ry z q) (fun z => h4 H P G mx my x y m Q rx ry z q)⟩
theorem os_fdv : OpS T X (binaryOp .FloorDiv) opFdv := OpS.or os_fdv0 os_fdvN fun x y m e => by
  unfold opFdv at e
  split at e
  · rename_i i j
    split at e
    · rename_i h; left; unfold opFdv0; simp only [h]; exact e
    · split at e
      · rename_i h; right; unfold opFdvN; simp only [if_pos (show j ≠ 0 ∧ j.natAbs < 1073741824 from ⟨by omega, h.2⟩)]; exact e
      · cases e
  · cases e
theorem rl_new {H : Hp} {P : Addr → Prop} {p : Addr} {ms : List MV} {xs : List V} (hp : H p = none) (r : RlL X.K T.C H P ms xs) : Rl X.K T.C (upd H p (.lst xs)) (Up H P) (.lst ms) (.ref p) :=
  ⟨p, xs, rfl, .inr hp, upd_same, (r.same (same_upd hp)).imp fun _ _ _ z => .inl z⟩
theorem rl_tup {H : Hp} {P : Addr → Prop} {p : Addr} {ms : List MV} {xs : List V} (hp : H p = none) (r : RlL X.K T.C H P ms xs) : Rl X.K T.C (upd H p (.tup xs)) (Up H P) (.tup ms) (.ref p) :=
  ⟨p, xs, rfl, upd_same, (r.same (same_upd hp)).imp fun _ _ _ z => .inl z⟩

def opAddI : MV → MV → Rs MV
  | .int i, .int j => .ok (.int (i + j))
  | _, _ => .no
def opAddS : MV → MV → Rs MV
  | .str x, .str y => if x.length + y.length ≤ big then .ok (.str (x ++ y)) else .no
  | _, _ => .no
def opAddL : MV → MV → Rs MV
  | .lst xs, .lst ys => if xs.length + ys.length ≤ big then .ok (.lst (xs ++ ys)) else .no
  | _, _ => .no
def opAddT : MV → MV → Rs MV
  | .tup xs, .tup ys => if xs.length + ys.length ≤ big then .ok (.tup (xs ++ ys)) else .no
  | _, _ => .no
theorem os_addI : OpS T X (binaryOp .Add) opAddI := os_int (g' := fun i j => .int (i + j)) op_add (fun x y m e => by
  unfold opAddI at e; split at e <;> cases e; exact ⟨_, _, rfl, rfl, rfl⟩) fun _ _ _ _ => rfl
theorem os_addS : OpS T X (binaryOp .Add) opAddS := ⟨_, op_add_str, fun H P G mx my x y m Q rx ry em q => by
  unfold opAddS at em
  split at em
  · split at em <;> cases em
    exact ⟨_, _, rx, ry, big_line (by assumption), q _ H (Same.refl _) rfl⟩
  · cases em⟩
theorem os_addL : OpS T X (binaryOp .Add) opAddL := ⟨_, op_cat, fun H P G mx my x y m Q rx ry em q => by
  unfold opAddL at em
  split at em
  · split at em <;> cases em
    obtain ⟨a, xs, rfl, _, ha, hx⟩ := rx
    obtain ⟨b, ys, rfl, _, hb, hy⟩ := ry
    exact ⟨a, b, xs, ys, rfl, rfl, ha, hb, big_line (by rw [← hx.length, ← hy.length]; assumption), fun p hp => q _ _ (same_upd hp) (rl_new hp (hx.append hy))⟩
  · cases em⟩
theorem os_addT : OpS T X (binaryOp .Add) opAddT := ⟨_, op_catA, fun H P G mx my x y m Q rx ry em q => by
  unfold opAddT at em
  split at em
  · rename_i ms ns
    split at em <;> cases em
    obtain ⟨a, xs, rfl, ha, hx⟩ := rx
    obtain ⟨b, ys, rfl, hb, hy⟩ := ry
    refine ⟨a, b, xs, ys, rfl, rfl, SqT.of ha, SqT.of hb, big_line (by rw [← hx.length, ← hy.length]; assumption), fun e => ?_, fun e1 e2 => ?_, fun _ _ p hp => q _ _ (same_upd hp) (rl_tup hp (hx.append hy))⟩
    · subst e
      have := hx.length
      cases ms with
      | nil => exact q _ H (Same.refl _) ⟨b, ys, rfl, hb, hy.imp fun _ _ _ z => .inl z⟩
      | cons _ _ => cases this
    · subst e2
      have := hy.length
      cases ns with
      | nil =>
        rw [List.append_nil] at q
        exact q _ H (Same.refl _) ⟨a, xs, rfl, ha, hx.imp fun _ _ _ z => .inl z⟩
      | cons _ _ => cases this
  · cases em⟩
theorem os_add : OpS T X (binaryOp .Add) opAdd := OpS.or (os_addI.or os_addS (h := fun x y => match opAddI x y with | .no => opAddS x y | r => r) fun x y m e => by
    split at e
    · exact .inr e
    · exact .inl e) (os_addL.or os_addT (h := fun x y => match opAddL x y with | .no => opAddT x y | r => r) fun x y m e => by
    split at e
    · exact .inr e
    · exact .inl e) fun x y m e => by
  unfold opAdd at e
  split at e
  · exact .inl e
  · exact .inl e
  · exact .inr (by simp only [opAddL]; split at e <;> cases e; simp [*])
  · exact .inr e
  · cases e
def opMulL : MV → MV → Rs MV
  | .lst xs, .int k => if k ≤ 1000000 ∧ xs.length * k.toNat ≤ big ∧ -1000000 ≤ k then .ok (.lst (List.replicate k.toNat xs).flatten) else .no
  | _, _ => .no
def opMulT : MV → MV → Rs MV
  | .tup xs, .int k => if 2 ≤ k ∧ k ≤ 1000 ∧ xs.length ≤ 1000 ∧ 0 < xs.length then .ok (.tup (List.replicate k.toNat xs).flatten) else .no
  | _, _ => .no
theorem rlRep {K : PySem.W.Frag} {C : Str → Addr} {H : Hp} {P : Addr → Prop} {ms : List MV} {xs : List V} (r : RlL K C H P ms xs) : ∀ n : Nat, RlL K C H P (List.replicate n ms).flatten (List.replicate n xs).flatten
  | 0 => rfl
  | n + 1 => by rw [List.replicate_succ, List.replicate_succ, List.flatten_cons, List.flatten_cons]; exact r.append (rlRep r n)
theorem os_mulL : OpS T X (binaryOp .Mult) opMulL := ⟨_, op_rep, fun H P G mx my x y m Q rx ry em q => by
  unfold opMulL at em
  split at em
  · split at em <;> cases em
    rename_i c
    obtain ⟨a, xs, rfl, _, ha, hx⟩ := rx
    have e1 : (2 : Int) ^ 63 = 9223372036854775808 := by decide
    exact ⟨a, _, xs, rfl, ry, ha, by omega, by omega, big_line (by rw [← hx.length]; exact c.2.1), fun p hp => q _ _ (same_upd hp) (rl_new hp (rlRep hx _))⟩
  · cases em⟩
theorem os_mulT : OpS T X (binaryOp .Mult) opMulT := ⟨_, op_repT, fun H P G mx my x y m Q rx ry em q => by
  unfold opMulT at em
  split at em
  · split at em <;> cases em
    rename_i c
    obtain ⟨a, xs, rfl, ha, hx⟩ := rx
    have hl := hx.length
    exact ⟨a, _, xs, rfl, ry, SqT.of ha, fun z => by rw [z] at hl; have := c.2.2.2; simp at hl; rw [hl] at this; simp at this, c.1, c.2.1, by rw [← hl]; exact c.2.2.1, fun p hp => q _ _ (same_upd hp) (rl_tup hp (rlRep hx _))⟩
  · cases em⟩
theorem os_mul : OpS T X (binaryOp .Mult) opMul := OpS.or os_mulI (os_mulL.or os_mulT (h := fun x y => match opMulL x y with | .no => opMulT x y | r => r) fun x y m e => by
    split at e
    · exact .inr e
    · exact .inl e) fun x y m e => by
  unfold opMul at e
  split at e
  · exact .inl e
  · exact .inr (by simp only [opMulL]; split at e <;> cases e; simp [*])
  · exact .inr e
  · cases e
def opLtI : MV → MV → Rs MV
  | .int i, .int j => .ok (.bl (decide (i < j)))
  | _, _ => .no
def opLtS : MV → MV → Rs MV
  | .str x, .str y => .ok (.bl (decide (x.cps.toList < y.cps.toList)))
  | _, _ => .no
def opLtT : MV → MV → Rs MV
  | .tup xs, .tup ys => match intsOf xs, intsOf ys with
    | some a, some b => .ok (.bl (HT.lexLt a b))
    | _, _ => .no
  | _, _ => .no
theorem os_ltI : OpS T X (compareOp .Lt) opLtI := os_int (g' := fun i j => .bl (decide (i < j))) op_lt (fun x y m e => by
  unfold opLtI at e; split at e <;> cases e; exact ⟨_, _, rfl, rfl, rfl⟩) fun _ _ _ _ => rfl
theorem os_ltS : OpS T X (compareOp .Lt) opLtS := ⟨_, op_lt_str, fun H P G mx my x y m Q rx ry em q => by
  unfold opLtS at em
  split at em
  · cases em
    exact ⟨_, _, rx, ry, q _ H (Same.refl _) rfl⟩
  · cases em⟩
theorem os_ltT (hr : Room k X.A) : OpS T X (compareOp .Lt) opLtT := ⟨_, op_ltT hr.units0, fun H P G mx my x y m Q rx ry em q => by
  unfold opLtT at em
  split at em
  · split at em
    · cases em
      rename_i e1 e2
      obtain ⟨a, xs, rfl, ha, hx⟩ := rx
      obtain ⟨b, ys, rfl, hb, hy⟩ := ry
      rw [intsOf_ok e1 hx] at ha
      rw [intsOf_ok e2 hy] at hb
      exact ⟨a, b, _, _, rfl, rfl, SqT.of ha, SqT.of hb, q _ H (Same.refl _) rfl⟩
    · cases em
  · cases em⟩
theorem os_lt (hr : Room k X.A) : OpS T X (compareOp .Lt) opLt := OpS.or os_ltI (os_ltS.or (os_ltT hr) (h := fun x y => match opLtS x y with | .no => opLtT x y | r => r) fun x y m e => by
    split at e
    · exact .inr e
    · exact .inl e) fun x y m e => by
  unfold opLt at e
  split at e
  · exact .inl e
  · exact .inr e
  · exact .inr e
  · cases e
theorem os_isN : OpS T X (compareOp .Is) opIsN := ⟨_, op_isN, fun H P G mx my x y m Q rx ry em q => by
  unfold opIsN at em
  split at em
  · cases em
    refine ⟨ry, q _ H (Same.refl _) ?_⟩
    cases mx with
    | non => cases (show x = V.non from rx); rfl
    | bl _ => cases (show x = V.bl _ from rx); rfl
    | int _ => cases (show x = V.int _ from rx); rfl
    | str _ => cases (show x = V.str _ from rx); rfl
    | tup _ => obtain ⟨a, _, rfl, _⟩ := rx; rfl
    | lst _ => obtain ⟨a, _, rfl, _⟩ := rx; rfl
    | dct _ _ _ => obtain ⟨a, _, rfl, _⟩ := rx; rfl
    | obj _ _ _ => obtain ⟨a, _, _, rfl, _⟩ := rx; rfl
    | scr _ => obtain ⟨a, rfl, _⟩ := rx; rfl
    | ktp _ => obtain ⟨a, _, rfl, _⟩ := rx; rfl
  · cases em⟩
theorem os_notN : OpS T X (compareOp .IsNot) opNotN := ⟨_, op_notN, fun H P G mx my x y m Q rx ry em q => by
  unfold opNotN at em
  split at em
  · cases em
    refine ⟨ry, q _ H (Same.refl _) ?_⟩
    cases mx with
    | non => cases (show x = V.non from rx); rfl
    | bl _ => cases (show x = V.bl _ from rx); rfl
    | int _ => cases (show x = V.int _ from rx); rfl
    | str _ => cases (show x = V.str _ from rx); rfl
    | tup _ => obtain ⟨a, _, rfl, _⟩ := rx; rfl
    | lst _ => obtain ⟨a, _, rfl, _⟩ := rx; rfl
    | dct _ _ _ => obtain ⟨a, _, rfl, _⟩ := rx; rfl
    | obj _ _ _ => obtain ⟨a, _, _, rfl, _⟩ := rx; rfl
    | scr _ => obtain ⟨a, rfl, _⟩ := rx; rfl
    | ktp _ => obtain ⟨a, _, rfl, _⟩ := rx; rfl
  · cases em⟩
theorem os_eq (hr : Room k X.A) : OpS T X (compareOp .Eq) opEq := ⟨_, op_eqD hr.units, fun H P G mx my x y m Q rx ry em q => by
  unfold opEq at em
  split at em
  · cases em
    rename_i c
    simp only [Bool.and_eq_true] at c
    exact ⟨_, _, rx.dp (shp_lay c.1), ry.dp (shp_lay c.2), c.1, c.2, q _ H (Same.refl _) rfl⟩
  · cases em⟩
theorem os_ne (hr : Room k X.A) : OpS T X (compareOp .NotEq) opNe := ⟨_, op_neD hr.units, fun H P G mx my x y m Q rx ry em q => by
  unfold opNe at em
  split at em
  · cases em
    rename_i c
    simp only [Bool.and_eq_true] at c
    exact ⟨_, _, rx.dp (shp_lay c.1), ry.dp (shp_lay c.2), c.1, c.2, q _ H (Same.refl _) rfl⟩
  · cases em⟩
end
end Mi

set_option Elab.async false
set_option linter.all false
set_option maxRecDepth 100000
/-! Mi, part 4: in, calls of built-ins, items, slices, attributes. -/
namespace Mi
open PySem PySem.Spec L2

/-! ### in -/
theorem pdL_map : ∀ ms : List MV, pdL ms = ms.map pd
  | [] => rfl
  | m :: ms => by rw [pdL, List.map_cons, pdL_map ms]
theorem inL_any (x : MV) : ∀ ms : List MV, inL x ms = (pdL ms).any fun z => PyData.eqv z (pd x)
  | [] => rfl
  | m :: ms => by rw [inL, pdL, List.any_cons, inL_any x ms]; rfl
def opInL : MV → MV → Rs MV
  | x, .lst ms => if shp x && shp (.lst ms) then .ok (.bl (inL x ms)) else .no
  | _, _ => .no
def opInT : MV → MV → Rs MV
  | x, .tup ms => if shp x && shp (.tup ms) then .ok (.bl (inL x ms)) else .no
  | x, .ktp ms => if shp x && shp (.ktp ms) then .ok (.bl (inL x ms)) else .no
  | _, _ => .no
def opInS : MV → MV → Rs MV
  | .str c, .str z => if c.length = 1 then .ok (.bl (decide (c.cps.getD 0 0 ∈ z.cps.toList))) else .no
  | _, _ => .no
instance decKey : DecidableEq L2.Key := inferInstanceAs (DecidableEq (Sum Int Str))
def negB (g : MV → MV → Rs MV) (x y : MV) : Rs MV := (g x y).bind fun m => match m with
  | .bl b => .ok (.bl (!b))
  | _ => .no
def keyIn (x : MV) (ks : List MV) : Option Bool :=
  match keyOf x, keysOf ks with
  | some k, some kk => some (kk.any fun y => decide (y = k))
  | _, _ => match tkeyOf x, tkeysOf ks with
    | some k, some kk => some (kk.any fun y => decide (y = k))
    | _, _ => none
def opInD : MV → MV → Rs MV
  | x, .dct t ks _ => match keyIn x ks with
    | some b => .ok (.bl b)
    | none => .no
  | _, _ => .no
def opIn (x y : MV) : Rs MV := match y with
  | .lst _ => opInL x y
  | .tup _ => opInT x y
  | .ktp _ => opInT x y
  | .str _ => opInS x y
  | .dct _ _ _ => opInD x y
  | _ => .no
def opNotIn (x y : MV) : Rs MV := negB opIn x y
def rInTD (K : PySem.W.Frag) (neg : Bool) : R2 := fun x y H Q => ∃ d ds, Dp K H x d ∧ Dp K H y (.tuple ds) ∧ SeqAt.shaped d = true ∧ SeqAt.shaped (.tuple ds) = true ∧ Q (.bl (if neg then !(ds.any fun z => PyData.eqv z d) else ds.any fun z => PyData.eqv z d)) H
theorem room_inT {A : Around} {d : PyData} {ds : List PyData} (h : SeqAt.shaped d = true) (hu : A.units + 65 < cLine) : A.units + 1 + min (PyData.depthAll ds) d.depth < cLine := by
  have h1 := SeqAt.depth_of_shaped h
  have h2 : min (PyData.depthAll ds) d.depth ≤ d.depth := Nat.min_le_right _ _
  omega
section
variable {T : Tb} {X : Cx} {k : Nat}
theorem op_inTD (hu : X.A.units + 65 < cLine) : OpR X (compareOp .In) (rInTD X.K false) := by
  intro pins s σ H x y v u Q I rx ry h
  obtain ⟨d, ds, hd, he, sd, se, q⟩ := h
  obtain ⟨as, r1⟩ := Dp.reads I d x v hd rx
  obtain ⟨bs, r2⟩ := Dp.reads I (.tuple ds) y u he ry
  exact SeqAt.in_tuple_reads r2 r1 (SeqAt.canLay_of_shaped se) (SeqAt.canLay_of_shaped sd) (room_inT sd hu) ⟨.bl _, H, I, rfl, q⟩
theorem op_notInTD (hu : X.A.units + 65 < cLine) : OpR X (compareOp .NotIn) (rInTD X.K true) := by
  intro pins s σ H x y v u Q I rx ry h
  obtain ⟨d, ds, hd, he, sd, se, q⟩ := h
  obtain ⟨as, r1⟩ := Dp.reads I d x v hd rx
  obtain ⟨bs, r2⟩ := Dp.reads I (.tuple ds) y u he ry
  exact SeqAt.notIn_tuple_reads r2 r1 (SeqAt.canLay_of_shaped se) (SeqAt.canLay_of_shaped sd) (room_inT sd hu) ⟨.bl _, H, I, rfl, q⟩
theorem _root_.L2.Room.u65 {A : Around} (h : Room k A) : A.units + 65 < cLine := by have := h.un; omega
theorem _root_.L2.Room.u1 {A : Around} (h : Room k A) : A.units + 1 < cLine := by have := h.un; omega
theorem os_inL (hr : Room k X.A) : OpS T X (compareOp .In) opInL := ⟨_, op_inD hr.u65, fun H P G mx my x y m Q rx ry em q => by
  unfold opInL at em
  split at em
  · split at em <;> cases em
    rename_i ms c
    simp only [Bool.and_eq_true] at c
    refine ⟨_, _, rx.dp (shp_lay c.1), ry.dp (shp_lay c.2), c.1, c.2, ?_⟩
    rw [← inL_any]
    exact q _ H (Same.refl _) rfl
  · cases em⟩
theorem os_notInL (hr : Room k X.A) : OpS T X (compareOp .NotIn) (negB opInL) := ⟨_, op_notInD hr.u65, fun H P G mx my x y m Q rx ry em q => by
  unfold negB at em
  cases e : opInL mx my with
  | ok m' =>
    rw [e] at em
    unfold opInL at e
    split at e
    · split at e <;> cases e
      rename_i ms c
      simp only [Bool.and_eq_true] at c
      cases em
      refine ⟨_, _, rx.dp (shp_lay c.1), ry.dp (shp_lay c.2), c.1, c.2, ?_⟩
      rw [← inL_any]
      exact q _ H (Same.refl _) rfl
    · cases e
  | ex c => rw [e] at em; cases em
  | no => rw [e] at em; cases em⟩
theorem os_inT (hr : Room k X.A) : OpS T X (compareOp .In) opInT := ⟨_, op_inTD hr.u65, fun H P G mx my x y m Q rx ry em q => by
  unfold opInT at em
  split at em
  · split at em <;> cases em
    rename_i ms c
    simp only [Bool.and_eq_true] at c
    refine ⟨_, _, rx.dp (shp_lay c.1), ry.dp (shp_lay c.2), c.1, c.2, ?_⟩
    rw [← inL_any]
    exact q _ H (Same.refl _) rfl
  · split at em <;> cases em
    rename_i ms c
    simp only [Bool.and_eq_true] at c
    refine ⟨_, _, rx.dp (shp_lay c.1), ry.dp (shp_lay c.2), c.1, c.2, ?_⟩
    rw [← inL_any]
    exact q _ H (Same.refl _) rfl
  · cases em⟩
theorem os_notInT (hr : Room k X.A) : OpS T X (compareOp .NotIn) (negB opInT) := ⟨_, op_notInTD hr.u65, fun H P G mx my x y m Q rx ry em q => by
  unfold negB at em
  cases e : opInT mx my with
  | ok m' =>
    rw [e] at em
    unfold opInT at e
    split at e
    · split at e <;> cases e
      rename_i ms c
      simp only [Bool.and_eq_true] at c
      cases em
      refine ⟨_, _, rx.dp (shp_lay c.1), ry.dp (shp_lay c.2), c.1, c.2, ?_⟩
      rw [← inL_any]
      exact q _ H (Same.refl _) rfl
    · split at e <;> cases e
      rename_i ms c
      simp only [Bool.and_eq_true] at c
      cases em
      refine ⟨_, _, rx.dp (shp_lay c.1), ry.dp (shp_lay c.2), c.1, c.2, ?_⟩
      rw [← inL_any]
      exact q _ H (Same.refl _) rfl
    · cases e
  | ex c => rw [e] at em; cases em
  | no => rw [e] at em; cases em⟩
theorem str_one {c : Str} (h : c.length = 1) : c = ⟨#[c.cps.getD 0 0]⟩ := by
  obtain ⟨a⟩ := c
  obtain ⟨l⟩ := a
  match l, h with
  | [x], _ => rfl
theorem os_inS : OpS T X (compareOp .In) opInS := ⟨_, op_in_sign, fun H P G mx my x y m Q rx ry em q => by
  unfold opInS at em
  split at em
  · split at em <;> cases em
    rename_i c z h
    have e : x = .str c := rx
    rw [str_one h] at e
    refine ⟨_, _, e, ry, q _ H (Same.refl _) rfl⟩
  · cases em⟩
theorem os_notInS : OpS T X (compareOp .NotIn) (negB opInS) := ⟨_, op_notIn_sign, fun H P G mx my x y m Q rx ry em q => by
  unfold negB at em
  cases e : opInS mx my with
  | ok m' =>
    rw [e] at em
    unfold opInS at e
    split at e
    · split at e <;> cases e
      rename_i c z h
      cases em
      have e : x = .str c := rx
      rw [str_one h] at e
      exact ⟨_, _, e, ry, q _ H (Same.refl _) rfl⟩
    · cases e
  | ex c => rw [e] at em; cases em
  | no => rw [e] at em; cases em⟩
-- dicts
theorem keysOf_len : ∀ {ks : List MV} {kk : List Key}, keysOf ks = some kk → ks.length = kk.length
  | [], _, h => by cases h; rfl
  | m :: r, _, h => by
    unfold keysOf at h
    split at h
    · cases h; rename_i e; simp [keysOf_len e]
    · cases h
theorem tkeysOf_len : ∀ {ks : List MV} {kk : List (List Key)}, tkeysOf ks = some kk → ks.length = kk.length
  | [], _, h => by cases h; rfl
  | m :: r, _, h => by
    unfold tkeysOf at h
    split at h
    · cases h; rename_i e; simp [tkeysOf_len e]
    · cases h
theorem keyOf_v {m : MV} {x : V} {kx : Key} {K : PySem.W.Frag} {C : Str → Addr} {H : Hp} {P : Addr → Prop} (h : keyOf m = some kx) (r : Rl K C H P m x) : x = kV kx := by
  unfold keyOf at h
  split at h <;> cases h
  · exact r
  · exact r
theorem keysOf_v {K : PySem.W.Frag} {C : Str → Addr} {H : Hp} {P : Addr → Prop} : ∀ {ms : List MV} {xs : List V} {kk : List Key}, keysOf ms = some kk → RlL K C H P ms xs → xs = kk.map kV
  | [], _, _, h, r => by cases h; cases r; rfl
  | m :: ms, _, _, h, ⟨x, r, e, h1, h2⟩ => by
    unfold keysOf at h
    split at h
    · cases h
      rename_i e1 e2
      subst e
      rw [keyOf_v e1 h1, keysOf_v e2 h2]
      rfl
    · cases h
theorem valV_zip {κ : Type} [DecidableEq κ] (k : κ) : ∀ (kk : List κ) (xs : List V), kk.length = xs.length → (valV (kk.zip xs) k).isSome = kk.any fun y => decide (y = k)
  | [], xs, _ => by simp [valV]
  | a :: kk, [], h => by cases h
  | a :: kk, x :: xs, h => by
    rw [List.zip_cons_cons]
    by_cases e : a = k
    · rw [valV_pos (by exact e)]; simp [e]
    · rw [valV_neg (by exact e), valV_zip k kk xs (by simpa using h)]
      simp [e]
def tkey (H : Hp) (x : V) (k : List Key) : Prop := ∃ b, x = .ref b ∧ H b = some (.tup (k.map kV))
end
/-- the tuple is tracked (not a constant of the module) -/
def trk1 : Prop := True

/-! ### calls of built-ins, by values -/
def CallS (T : Tb) (X : Cx) (f : Value) (g : List MV → Rs MV) : Prop :=
  ∃ r, CallR X f r ∧ ∀ (H : Hp) (P G : Addr → Prop) (ms : List MV) (xs : List V) (m : MV) (Q : VK), Paired (Ra X.K T.C H P G) ms xs → g ms = .ok m →
    (∀ v H', Same H H' → Rl X.K T.C H' (Up H P) m v → Q v H') → r xs H Q
/-- .. that hand out a new list -/
def CallN (T : Tb) (X : Cx) (f : Value) (g : List MV → Rs MV) : Prop :=
  ∃ r, CallR X f r ∧ ∀ (H : Hp) (P G : Addr → Prop) (ms : List MV) (xs : List V) (m : MV) (Q : VK), Paired (Ra X.K T.C H P G) ms xs → g ms = .ok m →
    (∀ a H', Same H H' → H a = none → OwnOk X.K T.C H' (fun b => P b ∧ H b ≠ none) a m → Q (.ref a) H') → r xs H Q
def dCall (g : List MV → Rs MV) (a : AD) : ED := fun ρ => (a ρ).bind g
def noExL (g : List MV → Rs MV) : Prop := ∀ x c, g x ≠ .ex c
section
variable {T : Tb} {X : Cx} {W : WX} {x : Str} {p pos : Pos} {e : Expr} {es : List Expr} {da : AD} {id : String} {g : List MV → Rs MV}
theorem call_imp {K : PySem.W.Frag} {B : Bs} {r : List V → Hp → VK → Prop} (hn : noExL g)
    (hr : ∀ (H : Hp) (P G : Addr → Prop) (ms : List MV) (xs : List V) (m : MV) (Q : VK), Paired (Ra K T.C H P G) ms xs → g ms = .ok m → (∀ v H', Same H H' → Rl K T.C H' (Up H P) m v → Q v H') → r xs H Q)
    {σ : L2.St} {H : Hp} {Q : VK} (h : tE K T B W (dCall g da) σ H Q) : tCB r (tA K T B W false da) σ H Q := by
  obtain ⟨ρ, R, q⟩ := h
  refine ⟨ρ, R, ?_⟩
  unfold dCall at q
  cases e : da ρ with
  | ok ms =>
    rw [e] at q
    intro vs H1 s1 rs
    have R1 := R.grow s1
    cases e3 : g ms with
    | ok m =>
      simp only [Rs.bind_ok, e3] at q
      exact hr H1 (Pf B σ ρ) B.G ms vs m Q rs e3 fun v H' s' r' => q v H' (s1.trans s') (R1.up r')
    | ex c => exact absurd e3 (hn _ _)
    | no => simp only [Rs.bind_ok, e3] at q
  | ex c => rw [e] at q; exact q
  | no => rw [e] at q; exact q
theorem callN_imp {K : PySem.W.Frag} {B : Bs} {r : List V → Hp → VK → Prop} (hn : noExL g)
    (hr : ∀ (H : Hp) (P G : Addr → Prop) (ms : List MV) (xs : List V) (m : MV) (Q : VK), Paired (Ra K T.C H P G) ms xs → g ms = .ok m → (∀ a H', Same H H' → H a = none → OwnOk K T.C H' (fun b => P b ∧ H b ≠ none) a m → Q (.ref a) H') → r xs H Q)
    {σ : L2.St} {H : Hp} {Q : VK} (h : tN K T B W (dCall g da) σ H Q) : tCB r (tA K T B W false da) σ H Q := by
  obtain ⟨ρ, R, q⟩ := h
  refine ⟨ρ, R, ?_⟩
  unfold dCall at q
  cases e : da ρ with
  | ok ms =>
    rw [e] at q
    intro vs H1 s1 rs
    cases e3 : g ms with
    | ok m =>
      simp only [Rs.bind_ok, e3] at q
      refine hr H1 (Pf B σ ρ) B.G ms vs m Q rs e3 fun a H' s' na o => q a H' (s1.trans s') (s1.free na) ?_
      have k : Kept H' H' (fun b => Pf B σ ρ b ∧ H1 b ≠ none) (fun b => Pf B σ ρ b ∧ b ≠ a) := ⟨fun _ _ h _ => h, fun b o h z => ⟨h, z.1, fun e => by subst e; exact z.2 na⟩⟩
      exact o.keep k fun _ h => h
    | ex c => exact absurd e3 (hn _ _)
    | no => simp only [Rs.bind_ok, e3] at q
  | ex c => rw [e] at q; exact q
  | no => rw [e] at q; exact q
theorem se_callB (hc : CallS T X (.builtin id) g) (hn : noExL g) (hm : X.mg x = none) (ha : SA T X W false (e :: es) da) (hv : bootBuiltins x = some (.builtin id) := by decide +kernel) (hg : Gl X x := by rfl) (hx : x ≠ "__name__" := by decide) (hdb : (x == ("__debug__" : Str)) = false := by decide)
    (he : starEach (e :: es) X.env = (false, eval e X.env) :: starEach es X.env := by rfl) (hpl : (backTo pos (starEach es X.env)).any (·.1) = false := by rfl) : SE T X W (.Call (.Name x p) (e :: es) [] pos) (dCall g da) := fun B => by
  obtain ⟨r, h1, h2⟩ := hc
  exact (pe_callB h1 hg hm hv (ha B) hx hdb he hpl).imp fun σ H Q h => call_imp hn h2 h
theorem se_callT {ty : String} (hc : CallS T X (.type ty) g) (hn : noExL g) (hm : X.mg x = none) (ha : SA T X W false (e :: es) da) (hv : bootBuiltins x = some (.type ty) := by decide +kernel) (hg : Gl X x := by rfl) (hx : x ≠ "__name__" := by decide) (hdb : (x == ("__debug__" : Str)) = false := by decide)
    (he : starEach (e :: es) X.env = (false, eval e X.env) :: starEach es X.env := by rfl) (hpl : (backTo pos (starEach es X.env)).any (·.1) = false := by rfl) : SE T X W (.Call (.Name x p) (e :: es) [] pos) (dCall g da) := fun B => by
  obtain ⟨r, h1, h2⟩ := hc
  exact (pe_callTy h1 hg hm hv (ha B) hx hdb he hpl).imp fun σ H Q h => call_imp hn h2 h
theorem sn_callB (hc : CallN T X (.builtin id) g) (hn : noExL g) (hm : X.mg x = none) (ha : SA T X W false (e :: es) da) (hv : bootBuiltins x = some (.builtin id) := by decide +kernel) (hg : Gl X x := by rfl) (hx : x ≠ "__name__" := by decide) (hdb : (x == ("__debug__" : Str)) = false := by decide)
    (he : starEach (e :: es) X.env = (false, eval e X.env) :: starEach es X.env := by rfl) (hpl : (backTo pos (starEach es X.env)).any (·.1) = false := by rfl) : SN T X W (.Call (.Name x p) (e :: es) [] pos) (dCall g da) := fun B => by
  obtain ⟨r, h1, h2⟩ := hc
  exact (pe_callB h1 hg hm hv (ha B) hx hdb he hpl).imp fun σ H Q h => callN_imp hn h2 h
theorem sn_callT {ty : String} (hc : CallN T X (.type ty) g) (hn : noExL g) (hm : X.mg x = none) (ha : SA T X W false (e :: es) da) (hv : bootBuiltins x = some (.type ty) := by decide +kernel) (hg : Gl X x := by rfl) (hx : x ≠ "__name__" := by decide) (hdb : (x == ("__debug__" : Str)) = false := by decide)
    (he : starEach (e :: es) X.env = (false, eval e X.env) :: starEach es X.env := by rfl) (hpl : (backTo pos (starEach es X.env)).any (·.1) = false := by rfl) : SN T X W (.Call (.Name x p) (e :: es) [] pos) (dCall g da) := fun B => by
  obtain ⟨r, h1, h2⟩ := hc
  exact (pe_callTy h1 hg hm hv (ha B) hx hdb he hpl).imp fun σ H Q h => callN_imp hn h2 h
end

def bLen : List MV → Rs MV
  | [.lst ms] => .ok (.int ms.length)
  | [.tup ms] => .ok (.int ms.length)
  | [.ktp ms] => .ok (.int ms.length)
  | [.str x] => if x.length ≤ big then .ok (.int x.length) else .no
  | [.dct _ ks _] => .ok (.int ks.length)
  | _ => .no
def bInt : List MV → Rs MV
  | [.int i] => .ok (.int i)
  | [.bl b] => .ok (.int (if b then 1 else 0))
  | _ => .no
def bAbs : List MV → Rs MV
  | [.int i] => .ok (.int (if i < 0 then -i else i))
  | _ => .no
def bTuple : List MV → Rs MV
  | [.lst ms] => .ok (.tup ms)
  | [.tup ms] => .ok (.tup ms)
  | _ => .no
def bList : List MV → Rs MV
  | [.lst ms] => .ok (.lst ms)
  | [.tup ms] => .ok (.lst ms)
  | _ => .no
def blsOf : List MV → Option (List Bool)
  | [] => some []
  | .bl b :: r => (blsOf r).map (b :: ·)
  | _ :: _ => none
def bAll : List MV → Rs MV
  | [.lst ms] => match blsOf ms with
    | some bs => .ok (.bl (bs.all id))
    | none => .no
  | _ => .no
def bAny : List MV → Rs MV
  | [.lst ms] => match blsOf ms with
    | some bs => .ok (.bl (bs.any id))
    | none => .no
  | _ => .no
def bSum : List MV → Rs MV
  | [.lst ms] => match intsOf ms with
    | some ns => .ok (.int ns.sum)
    | none => .no
  | _ => .no
def maxI : Int → List Int → Int
  | a, [] => a
  | a, b :: r => maxI (if b > a then b else a) r
def minI : Int → List Int → Int
  | a, [] => a
  | a, b :: r => minI (if b < a then b else a) r
def bMax : List MV → Rs MV
  | [.lst ms] => match intsOf ms with
    | some (a :: r) => .ok (.int (maxI a r))
    | _ => .no
  | [.int i, .int j] => .ok (.int (if j > i then j else i))
  | _ => .no
def bMin : List MV → Rs MV
  | [.lst ms] => match intsOf ms with
    | some (a :: r) => .ok (.int (minI a r))
    | _ => .no
  | [.int i, .int j] => .ok (.int (if j < i then j else i))
  | _ => .no
def bStr : List MV → Rs MV
  | [.int i] => if i.natAbs.log2 < 1900 then .ok (.str (toString i)) else .no
  | _ => .no
theorem nx1 {g : List MV → Rs MV} (h : ∀ x, (match g x with | .ex _ => False | _ => True)) : noExL g := fun x c e => by
  have := h x
  rw [e] at this
  exact this
section
variable {T : Tb} {X : Cx} {k : Nat}
theorem pr1 {K : PySem.W.Frag} {C : Str → Addr} {H : Hp} {P G : Addr → Prop} {m : MV} {xs : List V} (h : Paired (Ra K C H P G) [m] xs) : ∃ x, xs = [x] ∧ Ra K C H P G m x := by
  cases h with
  | cons a b => cases b; exact ⟨_, rfl, a⟩
theorem pr2 {K : PySem.W.Frag} {C : Str → Addr} {H : Hp} {P G : Addr → Prop} {m n : MV} {xs : List V} (h : Paired (Ra K C H P G) [m, n] xs) : ∃ x y, xs = [x, y] ∧ Ra K C H P G m x ∧ Ra K C H P G n y := by
  cases h with
  | cons a b => cases b with
    | cons c d => cases d; exact ⟨_, _, rfl, a, c⟩
theorem CallS.or {f : Value} {g g' h : List MV → Rs MV} (a : CallS T X f g) (b : CallS T X f g') (c : ∀ x m, h x = .ok m → g x = .ok m ∨ g' x = .ok m) : CallS T X f h := by
  obtain ⟨r, h1, h2⟩ := a
  obtain ⟨r', h3, h4⟩ := b
  exact ⟨_, h1.or h3, fun H P G ms xs m Q rs em q => (c _ _ em).imp (fun z => h2 H P G ms xs m Q rs z q) (fun z => h4 H P G ms xs m Q rs z q)⟩
def bLenD : List MV → Rs MV
  | [.dct _ ks _] => .ok (.int ks.length)
  | _ => .no
def bLenS : List MV → Rs MV
  | [.lst ms] => .ok (.int ms.length)
  | [.tup ms] => .ok (.int ms.length)
  | [.ktp ms] => .ok (.int ms.length)
  | [.str x] => if x.length ≤ big then .ok (.int x.length) else .no
  | _ => .no
theorem cs_lenS : CallS T X (.builtin "len") bLenS := ⟨_, call_len, fun H P G ms xs m Q rs em q => by
  unfold bLenS at em
  split at em
  · obtain ⟨x, rfl, r⟩ := pr1 rs
    obtain ⟨a, ys, rfl, _, h1, h2⟩ := r
    cases em
    exact ⟨_, _, rfl, .inl ⟨ys, SqL.of h1, rfl⟩, q _ H (Same.refl _) (by show V.int _ = V.int _; rw [h2.length])⟩
  · obtain ⟨x, rfl, r⟩ := pr1 rs
    obtain ⟨a, ys, rfl, h1, h2⟩ := r
    cases em
    exact ⟨_, _, rfl, .inr ⟨ys, SqT.of h1, rfl⟩, q _ H (Same.refl _) (by show V.int _ = V.int _; rw [h2.length])⟩
  · obtain ⟨x, rfl, r⟩ := pr1 rs
    obtain ⟨a, ys, rfl, h1, h2⟩ := r
    cases em
    exact ⟨_, _, rfl, .inr ⟨ys, h1.seq, rfl⟩, q _ H (Same.refl _) (by show V.int _ = V.int _; rw [h2.length])⟩
  · obtain ⟨x, rfl, r⟩ := pr1 rs
    split at em <;> cases em
    obtain rfl : x = .str _ := r
    exact ⟨_, _, rfl, ⟨big_line (by assumption), rfl⟩, q _ H (Same.refl _) rfl⟩
  · cases em⟩
theorem cs_int : CallS T X (.type "int") bInt := ⟨_, call_int1, fun H P G ms xs m Q rs em q => by
  unfold bInt at em
  split at em
  · obtain ⟨x, rfl, r⟩ := pr1 rs
    obtain rfl : x = .int _ := r
    cases em
    exact .inl ⟨_, rfl, q _ H (Same.refl _) rfl⟩
  · obtain ⟨x, rfl, r⟩ := pr1 rs
    obtain rfl : x = .bl _ := r
    cases em
    exact .inr ⟨_, rfl, q _ H (Same.refl _) rfl⟩
  · cases em⟩
theorem cs_abs : CallS T X (.builtin "abs") bAbs := ⟨_, call_abs, fun H P G ms xs m Q rs em q => by
  unfold bAbs at em
  split at em
  · obtain ⟨x, rfl, r⟩ := pr1 rs
    obtain rfl : x = .int _ := r
    cases em
    exact ⟨_, rfl, q _ H (Same.refl _) rfl⟩
  · cases em⟩
theorem cs_str : CallS T X (.type "str") bStr := ⟨_, call_str_int, fun H P G ms xs m Q rs em q => by
  unfold bStr at em
  split at em
  · obtain ⟨x, rfl, r⟩ := pr1 rs
    obtain rfl : x = .int _ := r
    split at em <;> cases em
    exact ⟨_, rfl, by omega, q _ H (Same.refl _) rfl⟩
  · cases em⟩
theorem cs_tuple : CallS T X (.type "tuple") bTuple := ⟨_, call_tuple_of, fun H P G ms xs m Q rs em q => by
  unfold bTuple at em
  split at em
  · obtain ⟨x, rfl, r⟩ := pr1 rs
    obtain ⟨a, ys, rfl, _, h1, h2⟩ := r
    cases em
    exact ⟨a, ys, rfl, .inl ⟨SqL.of h1, fun l hl => q _ _ (same_upd hl) (rl_tup hl h2)⟩⟩
  · obtain ⟨x, rfl, r⟩ := pr1 rs
    obtain ⟨a, ys, rfl, h1, h2⟩ := r
    cases em
    exact ⟨a, ys, rfl, .inr ⟨SqT.of h1, q _ H (Same.refl _) ⟨a, ys, rfl, h1, h2.imp fun _ _ _ z => .inl z⟩⟩⟩
  · cases em⟩
theorem own_lst {H : Hp} {P : Addr → Prop} {p : Addr} {ms : List MV} {xs : List V} (hp : H p = none) (r : RlL X.K T.C H P ms xs) : OwnOk X.K T.C (upd H p (.lst xs)) (fun b => P b ∧ H b ≠ none) p (.lst ms) :=
  ⟨xs, upd_same, RlL.keep ⟨fun a o h _ => same_upd hp a o h, fun a o h z => ⟨same_upd hp a o h, z, by rw [h]; simp⟩⟩ _ r⟩
theorem cn_list : CallN T X (.type "list") bList := ⟨_, call_list_of, fun H P G ms xs m Q rs em q => by
  unfold bList at em
  split at em
  · obtain ⟨x, rfl, r⟩ := pr1 rs
    obtain ⟨a, ys, rfl, _, h1, h2⟩ := r
    cases em
    exact ⟨a, ys, rfl, .inl (SqL.of h1), fun l hl => q _ _ (same_upd hl) hl (own_lst hl h2)⟩
  · obtain ⟨x, rfl, r⟩ := pr1 rs
    obtain ⟨a, ys, rfl, h1, h2⟩ := r
    cases em
    exact ⟨a, ys, rfl, .inr (SqT.of h1), fun l hl => q _ _ (same_upd hl) hl (own_lst hl h2)⟩
  · cases em⟩
theorem blsOf_ok {K : PySem.W.Frag} {C : Str → Addr} {H : Hp} {P : Addr → Prop} : ∀ {ms : List MV} {bs : List Bool} {xs : List V}, blsOf ms = some bs → RlL K C H P ms xs → xs = bs.map V.bl
  | [], _, _, e, h => by cases e; cases h; rfl
  | .bl i :: r, _, _, e, ⟨x, xr, ex, h1, h2⟩ => by
    simp only [blsOf, Option.map_eq_some_iff] at e
    obtain ⟨ns, e1, e2⟩ := e
    subst e2 ex
    have h1 : x = .bl i := h1
    rw [blsOf_ok e1 h2, h1]
    rfl
  | .non :: _, _, _, e, _ => by simp [blsOf] at e
  | .int _ :: _, _, _, e, _ => by simp [blsOf] at e
  | .str _ :: _, _, _, e, _ => by simp [blsOf] at e
  | .tup _ :: _, _, _, e, _ => by simp [blsOf] at e
  | .lst _ :: _, _, _, e, _ => by simp [blsOf] at e
  | .dct _ _ _ :: _, _, _, e, _ => by simp [blsOf] at e
  | .obj _ _ _ :: _, _, _, e, _ => by simp [blsOf] at e
  | .scr _ :: _, _, _, e, _ => by simp [blsOf] at e
  | .ktp _ :: _, _, _, e, _ => by simp [blsOf] at e
theorem cs_all (hc : X.calm = true := by rfl) : CallS T X (.builtin "all") bAll := ⟨_, cr_all hc, fun H P G ms xs m Q rs em q => by
  unfold bAll at em
  split at em
  · obtain ⟨x, rfl, r⟩ := pr1 rs
    obtain ⟨a, ys, rfl, _, h1, h2⟩ := r
    split at em
    · cases em
      rename_i e
      rw [blsOf_ok e h2] at h1
      exact ⟨a, _, rfl, SqL.of h1, q _ H (Same.refl _) rfl⟩
    · cases em
  · cases em⟩
theorem cs_any (hc : X.calm = true := by rfl) : CallS T X (.builtin "any") bAny := ⟨_, cr_any hc, fun H P G ms xs m Q rs em q => by
  unfold bAny at em
  split at em
  · obtain ⟨x, rfl, r⟩ := pr1 rs
    obtain ⟨a, ys, rfl, _, h1, h2⟩ := r
    split at em
    · cases em
      rename_i e
      rw [blsOf_ok e h2] at h1
      exact ⟨a, _, rfl, SqL.of h1, q _ H (Same.refl _) rfl⟩
    · cases em
  · cases em⟩
theorem cs_sum (hc : X.calm = true := by rfl) : CallS T X (.builtin "sum") bSum := ⟨_, cr_sum hc, fun H P G ms xs m Q rs em q => by
  unfold bSum at em
  split at em
  · obtain ⟨x, rfl, r⟩ := pr1 rs
    obtain ⟨a, ys, rfl, _, h1, h2⟩ := r
    split at em
    · cases em
      rename_i e
      rw [intsOf_ok e h2] at h1
      exact ⟨a, _, rfl, SqL.of h1, q _ H (Same.refl _) rfl⟩
    · cases em
  · cases em⟩
theorem maxI_spec : ∀ (r : List Int) (a : Int), maxI a r ∈ a :: r ∧ ∀ y ∈ a :: r, y ≤ maxI a r
  | [], a => by simp [maxI]
  | b :: r, a => by
    have ih := maxI_spec r (if b > a then b else a)
    rw [maxI]
    obtain ⟨h1, h2⟩ := ih
    refine ⟨?_, fun y hy => ?_⟩
    · rcases List.mem_cons.mp h1 with h | h
      · rw [h]; split <;> simp
      · simp [h]
    · have h3 := h2 (if b > a then b else a) (by simp)
      rcases List.mem_cons.mp hy with h | h
      · subst h; split at h3 <;> split <;> first | omega | (simp_all; omega)
      · rcases List.mem_cons.mp h with h | h
        · subst h; split at h3 <;> split <;> first | omega | (simp_all; omega)
        · exact h2 y (by simp [h])
theorem minI_spec : ∀ (r : List Int) (a : Int), minI a r ∈ a :: r ∧ ∀ y ∈ a :: r, minI a r ≤ y
  | [], a => by simp [minI]
  | b :: r, a => by
    have ih := minI_spec r (if b < a then b else a)
    rw [minI]
    obtain ⟨h1, h2⟩ := ih
    refine ⟨?_, fun y hy => ?_⟩
    · rcases List.mem_cons.mp h1 with h | h
      · rw [h]; split <;> simp
      · simp [h]
    · have h3 := h2 (if b < a then b else a) (by simp)
      rcases List.mem_cons.mp hy with h | h
      · subst h; split at h3 <;> split <;> first | omega | (simp_all; omega)
      · rcases List.mem_cons.mp h with h | h
        · subst h; split at h3 <;> split <;> first | omega | (simp_all; omega)
        · exact h2 y (by simp [h])
def bMaxL : List MV → Rs MV
  | [.lst ms] => match intsOf ms with
    | some (a :: r) => .ok (.int (maxI a r))
    | _ => .no
  | _ => .no
def bMaxI : List MV → Rs MV
  | [.int i, .int j] => .ok (.int (if j > i then j else i))
  | _ => .no
def bMinL : List MV → Rs MV
  | [.lst ms] => match intsOf ms with
    | some (a :: r) => .ok (.int (minI a r))
    | _ => .no
  | _ => .no
def bMinI : List MV → Rs MV
  | [.int i, .int j] => .ok (.int (if j < i then j else i))
  | _ => .no
theorem cs_maxL (hc : X.calm = true) : CallS T X (.builtin "max") bMaxL := ⟨_, cr_max hc, fun H P G ms xs m Q rs em q => by
  unfold bMaxL at em
  split at em
  · obtain ⟨x, rfl, r⟩ := pr1 rs
    obtain ⟨a, ys, rfl, _, h1, h2⟩ := r
    split at em
    · cases em
      rename_i e
      rw [intsOf_ok e h2] at h1
      refine ⟨a, _, rfl, SqL.of h1, by simp, fun m hm hle => ?_⟩
      obtain ⟨h3, h4⟩ := maxI_spec _ _
      have := hle _ h3
      have := h4 _ hm
      have e : m = maxI _ _ := Int.le_antisymm (h4 _ hm) (hle _ h3)
      rw [e]
      exact q _ H (Same.refl _) rfl
    · cases em
  · cases em⟩
theorem cs_minL (hc : X.calm = true) : CallS T X (.builtin "min") bMinL := ⟨_, cr_min hc, fun H P G ms xs m Q rs em q => by
  unfold bMinL at em
  split at em
  · obtain ⟨x, rfl, r⟩ := pr1 rs
    obtain ⟨a, ys, rfl, _, h1, h2⟩ := r
    split at em
    · cases em
      rename_i e
      rw [intsOf_ok e h2] at h1
      refine ⟨a, _, rfl, SqL.of h1, by simp, fun m hm hle => ?_⟩
      obtain ⟨h3, h4⟩ := minI_spec _ _
      have := hle _ h3
      have := h4 _ hm
      have e : m = minI _ _ := Int.le_antisymm (hle _ h3) (h4 _ hm)
      rw [e]
      exact q _ H (Same.refl _) rfl
    · cases em
  · cases em⟩
theorem cs_maxI (hc : X.calm = true) : CallS T X (.builtin "max") bMaxI := ⟨_, call_max2 hc, fun H P G ms xs m Q rs em q => by
  unfold bMaxI at em
  split at em
  · obtain ⟨x, y, rfl, r1, r2⟩ := pr2 rs
    obtain rfl : x = .int _ := r1
    obtain rfl : y = .int _ := r2
    cases em
    exact ⟨_, _, rfl, q _ H (Same.refl _) rfl⟩
  · cases em⟩
theorem cs_minI (hc : X.calm = true) : CallS T X (.builtin "min") bMinI := ⟨_, call_min2 hc, fun H P G ms xs m Q rs em q => by
  unfold bMinI at em
  split at em
  · obtain ⟨x, y, rfl, r1, r2⟩ := pr2 rs
    obtain rfl : x = .int _ := r1
    obtain rfl : y = .int _ := r2
    cases em
    exact ⟨_, _, rfl, q _ H (Same.refl _) rfl⟩
  · cases em⟩
theorem cs_max (hc : X.calm = true := by rfl) : CallS T X (.builtin "max") bMax := (cs_maxL hc).or (cs_maxI hc) fun x m e => by
  unfold bMax at e
  split at e
  · exact .inl e
  · exact .inr e
  · cases e
theorem cs_min (hc : X.calm = true := by rfl) : CallS T X (.builtin "min") bMin := (cs_minL hc).or (cs_minI hc) fun x m e => by
  unfold bMin at e
  split at e
  · exact .inl e
  · exact .inr e
  · cases e
end
end Mi

set_option Elab.async false
set_option linter.all false
set_option maxRecDepth 100000
/-! Mi, part 5: items, slices, attributes; what is walked; statements. -/
namespace Mi
open PySem PySem.Spec L2

/-! ### items, slices -/
def opIx : MV → MV → Rs MV
  | .lst ms, .int i => match atI ms i with
    | some m => .ok m
    | none => .no
  | .tup ms, .int i => match atI ms i with
    | some m => .ok m
    | none => .no
  | .ktp ms, .int i => match atI ms i with
    | some m => .ok m
    | none => .no
  | .str z, .int i => if z.length ≤ big then (match atI z.cps.toList i with
    | some c => .ok (.str ⟨#[c]⟩)
    | none => .no) else .no
  | _, _ => .no
theorem nx_ix : noEx opIx := fun x y c e => by
  unfold opIx at e
  split at e <;> (try split at e) <;> (try split at e) <;> cases e
theorem RlL.atI {K : PySem.W.Frag} {C : Str → Addr} {H : Hp} {P : Addr → Prop} {ms : List MV} {xs : List V} {i : Int} {m : MV} (h : RlL K C H P ms xs) (e : atI ms i = some m) : ∃ x, L2.atI xs i = some x ∧ Rl K C H P m x := by
  unfold L2.atI at e ⊢
  rw [h.length] at e
  cases q : ixN xs.length i with
  | none => rw [q] at e; cases e
  | some j =>
    rw [q] at e
    exact h.get e
section
variable {T : Tb} {X : Cx} {W : WX} {a b : Expr} {da db : ED} {pos : Pos}
theorem ix_rule : IxR X (rIx X.K) := ix_seq
theorem se_ix (ha : SB T X W a da) (hb : SB T X W b db) (hs : PlainIx b := by exact fun _ _ => rfl) : SE T X W (.Subscript a b pos) (dBin opIx da db) := fun B =>
  (pe_ix ix_seq (ha B) (hb B) hs).imp fun σ H Q h => bin_imp nx_ix (fun H P G mx my x y m Q rx ry em q => by
    unfold opIx at em
    split at em
    · obtain ⟨p, xs, rfl, _, h1, h2⟩ := rx
      split at em <;> cases em
      rename_i e
      obtain ⟨v, h3, h4⟩ := h2.atI e
      exact .inl ⟨p, xs, _, v, rfl, ry, SqL.of h1, h3, q v H (Same.refl _) (h4.imp fun _ _ _ z => .inl z)⟩
    · obtain ⟨p, xs, rfl, h1, h2⟩ := rx
      split at em <;> cases em
      rename_i e
      obtain ⟨v, h3, h4⟩ := h2.atI e
      exact .inr (.inl ⟨p, xs, _, v, rfl, ry, SqT.of h1, h3, q v H (Same.refl _) (h4.imp fun _ _ _ z => .inl z)⟩)
    · obtain ⟨p, xs, rfl, h1, h2⟩ := rx
      split at em <;> cases em
      rename_i e
      obtain ⟨v, h3, h4⟩ := h2.atI e
      exact .inr (.inl ⟨p, xs, _, v, rfl, ry, h1.seq, h3, q v H (Same.refl _) (h4.imp fun _ _ _ z => .inl z)⟩)
    · split at em
      · split at em <;> cases em
        exact .inr (.inr ⟨_, _, _, rx, ry, big_line (by assumption), by assumption, q _ H (Same.refl _) rfl⟩)
      · cases em
    · cases em) h
end
/-- an optional end of a slice -/
def OD := Rho → Rs (Option Int)
def oNone : OD := fun _ => .ok none
def oSome (d : ED) : OD := fun ρ => (d ρ).bind fun m => match m with
  | .int i => .ok (some i)
  | _ => .no
def cutM {α : Type} (xs : List α) (lo hi : Option Int) : List α := (xs.drop (HT.sIx xs.length 0 lo)).take (HT.sIx xs.length xs.length hi - HT.sIx xs.length 0 lo)
def opSl (x : MV) (lo hi : Option Int) : Rs MV := match x with
  | .lst ms => .ok (.lst (cutM ms lo hi))
  | .tup ms => .ok (.tup (cutM ms lo hi))
  | .str z => if z.length ≤ big then .ok (.str (cutS z lo hi)) else .no
  | .scr ns => .ok (.lst ((cutM ns lo hi).map MV.int))
  | _ => .no
def dSl (a : ED) (lo hi : OD) : ED := fun ρ => (a ρ).bind fun x => (lo ρ).bind fun l => (hi ρ).bind fun u => opSl x l u
section
variable (K : PySem.W.Frag) (T : Tb) (B : Bs) (W : WX)
def tOD (d : OD) : TO := fun σ H Q => ∃ ρ, RS K T B σ H ρ ∧ (match d ρ with
  | .ok o => ∀ H', Same H H' → Q o H'
  | .ex c => ∀ cls dd H', Same H H' → T.exc c cls → W cls dd σ H'
  | .no => False)
end
def SO (T : Tb) (X : Cx) (W : WX) (e : Option Expr) (d : OD) : Prop := ∀ B, PO X e (tOD X.K T B W d)
theorem _root_.L2.PO.imp {X : Cx} {e : Option Expr} {t t' : TO} (h : PO X e t) (i : ∀ σ H Q, t' σ H Q → t σ H Q) : PO X e t' := ⟨fun pins s σ H Q I q => h.run pins s σ H Q I (i σ H Q q)⟩
section
variable {T : Tb} {X : Cx} {W : WX} {a b : Expr} {e : Expr} {lo hi : Option Expr} {da d : ED} {dl du : OD} {pos p2 : Pos}
theorem so_none : SO T X W none oNone := fun B => po_none.imp fun σ H Q ⟨ρ, R, q⟩ => q H (Same.refl _)
theorem so_some (h : SE T X W e d) : SO T X W (some e) (oSome d) := fun B => (po_some (h B)).imp fun σ H Q ⟨ρ, R, q⟩ => by
  refine ⟨ρ, R, ?_⟩
  unfold oSome at q
  cases e1 : d ρ with
  | ok m =>
    rw [e1] at q
    cases m with
    | int i => exact fun v H' s r => ⟨i, r, q H' s⟩
    | _ => exact q.elim
  | ex c => rw [e1] at q; exact q
  | no => rw [e1] at q; exact q
theorem rSlAll : SlR X (fun x lo hi H Q => rSlL X.K x lo hi H Q ∨ (rSlA X.K x lo hi H Q ∨ ∃ z, x = .str z ∧ z.length ≤ sizeLine ∧ Q (.str (cutS z lo hi)) H)) := sl_list.or (sl_tupA.or sl_str)
theorem cut_rl {K : PySem.W.Frag} {C : Str → Addr} {H : Hp} {P : Addr → Prop} {ms : List MV} {xs : List V} {l u : Option Int} (h : RlL K C H P ms xs) : RlL K C H P (cutM ms l u) (cutV xs l u) := by
  unfold cutM cutV
  rw [h.length]
  exact (h.drop _).take _
theorem cut_all {α : Type} {xs : List α} {l u : Option Int} (h : HT.sIx xs.length 0 l = 0 ∧ HT.sIx xs.length xs.length u = xs.length) : cutM xs l u = xs := by
  unfold cutM
  rw [h.1, h.2, Nat.sub_zero, List.drop_zero, List.take_length]
theorem sl_rule {K : PySem.W.Frag} {C : Str → Addr} (H : Hp) (P G : Addr → Prop) (mx : MV) (x : V) (l u : Option Int) (m : MV) (Q : VK) (rx : Ra K C H P G mx x) (em : opSl mx l u = .ok m)
    (q : ∀ v H', Same H H' → Rl K C H' (Up H P) m v → Q v H') : rSlL K x l u H Q ∨ (rSlA K x l u H Q ∨ ∃ z, x = .str z ∧ z.length ≤ sizeLine ∧ Q (.str (cutS z l u)) H) := by
  unfold opSl at em
  split at em
  · cases em
    obtain ⟨p, xs, rfl, _, h1, h2⟩ := rx
    exact .inl ⟨p, xs, rfl, SqL.of h1, fun p' hp => q _ _ (same_upd hp) ⟨p', _, rfl, .inr hp, upd_same, ((cut_rl h2).same (same_upd hp)).imp fun _ _ _ z => .inl z⟩⟩
  · cases em
    obtain ⟨p, xs, rfl, h1, h2⟩ := rx
    refine .inr (.inl ⟨p, xs, rfl, SqT.of h1, fun hw => ?_, fun _ p' hp => q _ _ (same_upd hp) ⟨p', _, rfl, upd_same, ((cut_rl h2).same (same_upd hp)).imp fun _ _ _ z => .inl z⟩⟩)
    rw [← h2.length] at hw
    rw [cut_all hw] at q
    exact q _ H (Same.refl _) ⟨p, xs, rfl, h1, h2.imp fun _ _ _ z => .inl z⟩
  · split at em <;> cases em
    exact .inr (.inr ⟨_, rx, big_line (by assumption), q _ H (Same.refl _) rfl⟩)
  · cases em
    rename_i ns
    obtain ⟨p, rfl, h⟩ := rx
    have hs : SqL K H p (ns.map V.int) := by
      rcases h with ⟨_, h⟩ | ⟨o, h⟩ | h
      · exact SqL.of h
      · exact .inl (.inr ⟨o, h⟩)
      · exact h.seq
    refine .inl ⟨p, _, rfl, hs, fun p' hp => ?_⟩
    have e : cutV (ns.map V.int) l u = (cutM ns l u).map V.int := by unfold cutV cutM; rw [List.length_map, List.map_take, List.map_drop]
    rw [e]
    exact q _ _ (same_upd hp) ⟨p', _, rfl, .inr hp, upd_same, rlInts _⟩
  · cases em
theorem se_sl (ha : SB T X W a da) (hl : SO T X W lo dl) (hu : SO T X W hi du) : SE T X W (.Subscript a (.Slice lo hi none p2) pos) (dSl da dl du) := fun B =>
  (pe_slice rSlAll (ha B) (hl B) (hu B)).imp fun σ H Q ⟨ρ, R, q⟩ => by
    refine ⟨ρ, R, ?_⟩
    unfold dSl at q
    cases e1 : da ρ with
    | ok mx =>
      rw [e1] at q
      intro x H1 s1 rx
      refine ⟨ρ, R.grow s1, ?_⟩
      cases e2 : dl ρ with
      | ok l =>
        rw [e2] at q
        intro H2 s2
        refine ⟨ρ, (R.grow s1).grow s2, ?_⟩
        cases e3 : du ρ with
        | ok u =>
          rw [e3] at q
          intro H3 s3
          have R3 := ((R.grow s1).grow s2).grow s3
          cases e4 : opSl mx l u with
          | ok m =>
            simp only [Rs.bind_ok, e4] at q
            exact sl_rule H3 (Pf B σ ρ) B.G mx x l u m Q ((rx.same s2).same s3) e4 fun v H' s' r' => q v H' (((s1.trans s2).trans s3).trans s') (R3.up r')
          | ex c => unfold opSl at e4; split at e4 <;> (try split at e4) <;> cases e4
          | no => simp only [Rs.bind_ok, e4] at q
        | ex c => rw [e3] at q; exact fun cls dd H' s z => q cls dd H' ((s1.trans s2).trans s) z
        | no => rw [e3] at q; exact q
      | ex c => rw [e2] at q; exact fun cls dd H' s z => q cls dd H' (s1.trans s) z
      | no => rw [e2] at q; exact q
    | ex c => rw [e1] at q; exact q
    | no => rw [e1] at q; exact q
end

/-! ### attributes of instances -/
def fget (f : Str) : List Str → List MV → Option MV
  | n :: ns, v :: vs => if n = f then some v else fget f ns vs
  | _, _ => none
def opFld (c f : Str) : MV → Rs MV
  | .obj c' ns vs => if c' = c then (match fget f ns vs with
    | some v => .ok v
    | none => .no) else .no
  | _ => .no
def dFld (c f : Str) (d : ED) : ED := fun ρ => (d ρ).bind (opFld c f)
section
variable {T : Tb} {X : Cx} {W : WX} {e : Expr} {d : ED} {c f : Str} {pos : Pos}
theorem fget_rl {K : PySem.W.Frag} {C : Str → Addr} {H : Hp} {P : Addr → Prop} {f : Str} {m : MV} : ∀ {ns : List Str} {vs : List MV} {xs : List V}, fget f ns vs = some m → RlL K C H P vs xs → ∃ x, (ns.zip xs).lookup f = some x ∧ Rl K C H P m x
  | [], _, _, h, _ => by simp [fget] at h
  | n :: ns, [], _, h, _ => by simp [fget] at h
  | n :: ns, v :: vs, _, h, ⟨x, r, e, h1, h2⟩ => by
    subst e
    rw [List.zip_cons_cons, List.lookup_cons]
    unfold fget at h
    by_cases z : n = f
    · rw [if_pos z] at h; cases h
      have : (f == n) = true := by simp [z]
      rw [this]
      exact ⟨x, rfl, h1⟩
    · rw [if_neg z] at h
      have : (f == n) = false := by simpa using fun q => z q.symm
      rw [this]
      exact fget_rl h h2
theorem se_fld (hc : Cls X.K (T.C c)) (hn : NoAttr X.K (T.C c) f) (he : SB T X W e d) (hb : attributeBase e f X.env (eval e X.env) = eval e X.env := by rfl) : SE T X W (.Attribute e f pos) (dFld c f d) := fun B =>
  (pe_fld (he B) hb).imp fun σ H Q ⟨ρ, R, q⟩ => by
    refine ⟨ρ, R, ?_⟩
    unfold dFld at q
    cases e1 : d ρ with
    | ok m =>
      rw [e1] at q
      intro v H1 s1 r1
      cases m with
      | obj c' ns vs =>
        simp only [Rs.bind_ok, opFld] at q
        by_cases z : c' = c
        · rw [if_pos z] at q
          subst z
          obtain ⟨a, dx, xs, rfl, _, hl, h1, h2⟩ := r1
          cases e2 : fget f ns vs with
          | some w =>
            rw [e2] at q
            obtain ⟨x, h3, h4⟩ := fget_rl e2 h2
            exact ⟨a, T.C c', dx, _, x, rfl, h1, hc, hn, h3, q x H1 s1 h4⟩
          | none => rw [e2] at q; exact q.elim
        · rw [if_neg z] at q; exact q.elim
      | _ => exact q.elim
    | ex c => rw [e1] at q; exact q
    | no => rw [e1] at q; exact q
end

/-! ### what is walked -/
/-- the walk J gives the items ms while what H0 has stays; P: where their lists may stand -/
structure ItOk (K : PySem.W.Frag) (T : Tb) (H0 : Hp) (P : Addr → Prop) (J : It) (ms : List MV) : Prop where
  go : ∀ H, Same H0 H → ∀ i, i < ms.length → J.go i H
  yld : ∀ H, Same H0 H → ∀ i x H', J.yld i H x H' → i < ms.length → ∃ m, ms[i]? = some m ∧ Same H H' ∧ Rl K T.C H' P m x
  stop : ∀ H, Same H0 H → ∀ i, ms.length ≤ i → J.stop i H
-- what stays in a loop's body: all but the names' own
open Classical in
noncomputable def cutH (σ : L2.St) (ρ : Rho) (H : Hp) : Hp := fun a => if OwnAt σ ρ a then none else H a
theorem cutH_some {σ : L2.St} {ρ : Rho} {H : Hp} {a : Addr} {o : HO} : cutH σ ρ H a = some o ↔ ¬ OwnAt σ ρ a ∧ H a = some o := by
  unfold cutH
  split
  · rename_i h; simp [h]
  · rename_i h; simp [h]
theorem cutH_none {σ : L2.St} {ρ : Rho} {H : Hp} {a : Addr} : cutH σ ρ H a = none ↔ OwnAt σ ρ a ∨ H a = none := by
  unfold cutH
  split
  · rename_i h; simp [h]
  · rename_i h; simp [h]
noncomputable def Bs.cut (B : Bs) (σ : L2.St) (ρ : Rho) (H : Hp) (hf : ∀ a, OwnAt σ ρ a ∨ H a = none → B.G a) : Bs := ⟨cutH σ ρ H, B.G, fun a h => hf a (cutH_none.mp h)⟩
section
variable {K : PySem.W.Frag} {T : Tb} {B : Bs} {σ : L2.St} {H : Hp} {ρ : Rho}
theorem RS.cutG (R : RS K T B σ H ρ) : ∀ a, OwnAt σ ρ a ∨ H a = none → B.G a := fun a h => h.elim (fun o => B.fr a (R.owned o).1) fun n => B.fr a (R.same.free n)
theorem cut_same : Same (cutH σ ρ H) H := fun a o h => (cutH_some.mp h).2
theorem RS.toCut (R : RS K T B σ H ρ) : RS K T (B.cut σ ρ H R.cutG) σ H ρ :=
  ⟨R.len, cut_same, R.val, fun i m h => (R.own i m h).imp fun a ⟨h1, h2, h3⟩ => ⟨h1, cutH_none.mpr (.inl ⟨i, m, h, h1⟩), h3⟩, R.inj⟩
theorem RS.cutNone (R : RS K T B σ H ρ) {a : Addr} (h : cutH σ ρ H a = none) : B.H0 a = none := by
  rcases cutH_none.mp h with z | z
  · exact (R.owned z).1
  · exact R.same.free z
theorem RS.ofCut (R : RS K T B σ H ρ) {σ' : L2.St} {H' : Hp} {ρ' : Rho} (R' : RS K T (B.cut σ ρ H R.cutG) σ' H' ρ') : RS K T B σ' H' ρ' :=
  ⟨R'.len, fun a o h => R'.same a o (cutH_some.mpr ⟨fun q => (by rw [(R.owned q).1] at h; cases h), R.same a o h⟩), R'.val,
   fun i m h => (R'.own i m h).imp fun a ⟨h1, h2, h3⟩ => ⟨h1, R.cutNone h2, h3⟩, R'.inj⟩
/-- what was full at the cut is full later -/
theorem RS.later (R : RS K T B σ H ρ) {σ' : L2.St} {H' : Hp} {ρ' : Rho} (R' : RS K T (B.cut σ ρ H R.cutG) σ' H' ρ') {m : MV} {v : V} {P : Addr → Prop} {H1 : Hp} (hP : ∀ a, P a → B.G a ∧ ¬ OwnAt σ ρ a ∧ H a ≠ none) (s : Same H' H1) (r : Rl K T.C H1 P m v) :
    Rl K T.C H1 (Pf (B.cut σ ρ H R.cutG) σ' ρ') m v := r.imp fun a o h p => ⟨(hP a p).1, fun z => by
  have h1 : cutH σ ρ H a = none := (R'.owned z).1
  rcases cutH_none.mp h1 with q | q
  · exact (hP a p).2.1 q
  · exact (hP a p).2.2 q⟩
end
abbrev ID := Rho → Rs (List MV)
section
variable (K : PySem.W.Frag) (T : Tb) (B : Bs) (W : WX)
/-- for a loop: the container is nobody's own -/
def tI (d : ID) : TI := fun σ H R => ∃ ρ, RS K T B σ H ρ ∧ (match d ρ with
  | .ok ms => ∀ J H', Same H H' → ItOk K T (cutH σ ρ H') (fun a => Pf B σ ρ a ∧ H' a ≠ none) J ms → R J H'
  | .ex c => ∀ cls dd H', Same H H' → T.exc c cls → W cls dd σ H'
  | .no => False)
/-- for a comprehension: it may be a name's own -/
def tIc (d : ID) : TI := fun σ H R => ∃ ρ, RS K T B σ H ρ ∧ (match d ρ with
  | .ok ms => ∀ J H', Same H H' → ItOk K T H' (fun a => Pf B σ ρ a ∧ H' a ≠ none) J ms → R J H'
  | .ex c => ∀ cls dd H', Same H H' → T.exc c cls → W cls dd σ H'
  | .no => False)
end
def SI (T : Tb) (X : Cx) (W : WX) (tg e : Expr) (d : ID) : Prop := ∀ B, PI X tg e (tI X.K T B W d)
def SIc (T : Tb) (X : Cx) (W : WX) (tg e : Expr) (d : ID) : Prop := ∀ B, PI X tg e (tIc X.K T B W d)
theorem SI.c {T : Tb} {X : Cx} {W : WX} {tg e : Expr} {d : ID} (h : SI T X W tg e d) : SIc T X W tg e d := fun B => (h B).imp fun σ H R ⟨ρ, S, q⟩ => by
  refine ⟨ρ, S, ?_⟩
  cases e : d ρ with
  | ok ms =>
    rw [e] at q
    exact fun J H' s it => q J H' s ⟨fun H'' z => it.go H'' (cut_same.trans z), fun H'' z => it.yld H'' (cut_same.trans z), fun H'' z => it.stop H'' (cut_same.trans z)⟩
  | ex c => rw [e] at q; exact q
  | no => rw [e] at q; exact q
def seqOf : MV → Rs (List MV)
  | .lst ms => .ok ms
  | .tup ms => .ok ms
  | .ktp ms => .ok ms
  | _ => .no
def iSeq (d : ED) : ID := fun ρ => (d ρ).bind seqOf
section
variable {T : Tb} {X : Cx} {W : WX} {tg e : Expr} {d : ED} {pos p : Pos}
theorem RlL.tr {K : PySem.W.Frag} {C : Str → Addr} {H : Hp} {P : Addr → Prop} {ms : List MV} {xs : List V} (h : RlL K C H P ms xs) : RlL K C H (fun a => P a ∧ H a ≠ none) ms xs := h.imp fun a o e p => ⟨p, by rw [e]; simp⟩
theorem it_list {K : PySem.W.Frag} {H0 : Hp} {P : Addr → Prop} {a : Addr} {xs : List V} {ms : List MV} {H1 : Hp} (hk : ∀ H, Same H0 H → H a = some (.lst xs)) (r : RlL K T.C H1 P ms xs) (hr : ∀ H, Same H0 H → RlL K T.C H P ms xs) : ItOk K T H0 P (Itl K a) ms :=
  ⟨fun H s i hi => by
    obtain ⟨m, hm⟩ : ∃ m, ms[i]? = some m := ⟨_, List.getElem?_eq_getElem hi⟩
    obtain ⟨x, hx, _⟩ := r.get hm
    exact ⟨xs, x, SqL.of (hk H s), hx⟩,
  fun H s i x H' ⟨e, y⟩ hi => by
    subst e
    obtain ⟨m, hm⟩ : ∃ m, ms[i]? = some m := ⟨_, List.getElem?_eq_getElem hi⟩
    obtain ⟨x', hx, hr'⟩ := (hr _ s).get hm
    have := y xs (SqL.of (hk _ s))
    rw [hx] at this
    cases this
    exact ⟨m, hm, Same.refl _, hr'⟩,
  fun H s i hi => ⟨xs, SqL.of (hk H s), by rw [← r.length]; exact hi⟩⟩
theorem it_tup {K : PySem.W.Frag} {H0 : Hp} {P : Addr → Prop} {a : Addr} {xs : List V} {ms : List MV} {H1 : Hp} (hk : ∀ H, Same H0 H → SqT K H a xs) (r : RlL K T.C H1 P ms xs) (hr : ∀ H, Same H0 H → RlL K T.C H P ms xs) : ItOk K T H0 P (Itt K a) ms :=
  ⟨fun H s i hi => by
    obtain ⟨m, hm⟩ : ∃ m, ms[i]? = some m := ⟨_, List.getElem?_eq_getElem hi⟩
    obtain ⟨x, hx, _⟩ := r.get hm
    exact ⟨xs, x, hk H s, hx⟩,
  fun H s i x H' ⟨e, y⟩ hi => by
    subst e
    obtain ⟨m, hm⟩ : ∃ m, ms[i]? = some m := ⟨_, List.getElem?_eq_getElem hi⟩
    obtain ⟨x', hx, hr'⟩ := (hr _ s).get hm
    have := y xs (hk _ s)
    rw [hx] at this
    cases this
    exact ⟨m, hm, Same.refl _, hr'⟩,
  fun H s i hi => ⟨xs, hk H s, by rw [← r.length]; exact hi⟩⟩

theorem _root_.L2.PI.or {X : Cx} {tg e : Expr} {t t' : TI} (h : PI X tg e t) (h' : PI X tg e t') : PI X tg e (fun σ H R => t σ H R ∨ t' σ H R) := ⟨fun pins s σ H R I q => q.elim (h.run pins s σ H R I) (h'.run pins s σ H R I)⟩
theorem si_seq (h : SE T X W e d) : SI T X W tg e (iSeq d) := fun B => ((pi_list (h B)).or (pi_tup (h B))).imp fun σ H R ⟨ρ, S, q⟩ => by
  unfold iSeq at q
  cases e1 : d ρ with
  | ok m =>
    rw [e1] at q
    cases m with
    | lst ms =>
      refine .inl ⟨ρ, S, ?_⟩
      rw [e1]
      rintro _ H' s ⟨a, xs, rfl, p, h1, h2⟩
      refine ⟨a, rfl, ⟨xs, SqL.of h1⟩, q _ H' s (it_list (H1 := H') (fun H'' z => z _ _ (cutH_some.mpr ⟨p.2, h1⟩)) h2.tr fun H'' z => ?_)⟩
      have no : ∀ {a : Addr} {o : HO}, H' a = some o → (∃ xs, o = .tup xs) ∨ (∃ q u, o = .frz q u) → ¬ OwnAt σ ρ a := fun h t w => by
        obtain ⟨_, u, e2, e3, e4⟩ := (S.grow s).owned w
        rw [h] at e2; cases e2
        rcases t with ⟨xs, t⟩ | ⟨y, u, t⟩
        · exact e3 _ t
        · exact e4 _ _ t
      exact RlL.keep ⟨fun a o h t => z a o (cutH_some.mpr ⟨no h t, h⟩), fun a o h t => ⟨z a o (cutH_some.mpr ⟨t.2, h⟩), t, by rw [h]; simp⟩⟩ _ h2
    | tup ms =>
      refine .inr ⟨ρ, S, ?_⟩
      rw [e1]
      rintro _ H' s ⟨a, xs, rfl, h1, h2⟩
      have no : ∀ {a : Addr} {o : HO}, H' a = some o → (∃ xs, o = .tup xs) ∨ (∃ q u, o = .frz q u) → ¬ OwnAt σ ρ a := fun h t w => by
        obtain ⟨_, u, e2, e3, e4⟩ := (S.grow s).owned w
        rw [h] at e2; cases e2
        rcases t with ⟨xs, t⟩ | ⟨y, u, t⟩
        · exact e3 _ t
        · exact e4 _ _ t
      refine ⟨a, rfl, ⟨xs, SqT.of h1⟩, q _ H' s (it_tup (H1 := H') (fun H'' z => SqT.of (z _ _ (cutH_some.mpr ⟨no h1 (.inl ⟨_, rfl⟩), h1⟩))) h2.tr fun H'' z => ?_)⟩
      exact RlL.keep ⟨fun a o h t => z a o (cutH_some.mpr ⟨no h t, h⟩), fun a o h t => ⟨z a o (cutH_some.mpr ⟨t.2, h⟩), t, by rw [h]; simp⟩⟩ _ h2
    | ktp ms =>
      refine .inr ⟨ρ, S, ?_⟩
      rw [e1]
      rintro _ H' s ⟨a, xs, rfl, h1, h2⟩
      have no : ∀ {a : Addr} {o : HO}, H' a = some o → (∃ xs, o = .tup xs) ∨ (∃ q u, o = .frz q u) → ¬ OwnAt σ ρ a := fun h t w => by
        obtain ⟨_, u, e2, e3, e4⟩ := (S.grow s).owned w
        rw [h] at e2; cases e2
        rcases t with ⟨xs, t⟩ | ⟨y, u, t⟩
        · exact e3 _ t
        · exact e4 _ _ t
      refine ⟨a, rfl, ⟨xs, h1.seq⟩, q _ H' s (it_tup (H1 := H') (fun H'' z => h1.seq) h2.tr fun H'' z => ?_)⟩
      exact RlL.keep ⟨fun a o h t => z a o (cutH_some.mpr ⟨no h t, h⟩), fun a o h t => ⟨z a o (cutH_some.mpr ⟨t.2, h⟩), t, by rw [h]; simp⟩⟩ _ h2
    | _ => exact q.elim
  | ex c => rw [e1] at q; exact .inl ⟨ρ, S, by rw [e1]; exact q⟩
  | no => rw [e1] at q; exact q.elim
/-- over a name's own list, in a comprehension -/
theorem sic_seq (h : SB T X W e d) : SIc T X W tg e (iSeq d) := fun B => ((pi_list (h B)).or (pi_tup (h B))).imp fun σ H R ⟨ρ, S, q⟩ => by
  unfold iSeq at q
  cases e1 : d ρ with
  | ok m =>
    rw [e1] at q
    cases m with
    | lst ms =>
      refine .inl ⟨ρ, S, ?_⟩
      rw [e1]
      rintro _ H' s ⟨a, xs, rfl, p, h1, h2⟩
      exact ⟨a, rfl, ⟨xs, SqL.of h1⟩, q _ H' s (it_list (H1 := H') (fun H'' z => z _ _ h1) h2.tr fun H'' z => h2.tr.same z)⟩
    | tup ms =>
      refine .inr ⟨ρ, S, ?_⟩
      rw [e1]
      rintro _ H' s ⟨a, xs, rfl, h1, h2⟩
      exact ⟨a, rfl, ⟨xs, SqT.of h1⟩, q _ H' s (it_tup (H1 := H') (fun H'' z => SqT.of (z _ _ h1)) h2.tr fun H'' z => h2.tr.same z)⟩
    | ktp ms =>
      refine .inr ⟨ρ, S, ?_⟩
      rw [e1]
      rintro _ H' s ⟨a, xs, rfl, h1, h2⟩
      exact ⟨a, rfl, ⟨xs, h1.seq⟩, q _ H' s (it_tup (H1 := H') (fun H'' z => h1.seq) h2.tr fun H'' z => h2.tr.same z)⟩
    | _ => exact q.elim
  | ex c => rw [e1] at q; exact .inl ⟨ρ, S, by rw [e1]; exact q⟩
  | no => rw [e1] at q; exact q.elim
end

/-! ### ranges -/
def rngI (lo : Int) : Nat → List MV
  | 0 => []
  | n + 1 => .int lo :: rngI (lo + 1) n
theorem rngI_len : ∀ (n : Nat) (lo : Int), (rngI lo n).length = n
  | 0, _ => rfl
  | n + 1, lo => by rw [rngI, List.length_cons, rngI_len n]
theorem rngI_get : ∀ (n : Nat) (lo : Int) (i : Nat), i < n → (rngI lo n)[i]? = some (.int (lo + i))
  | n + 1, lo, 0, _ => by simp [rngI]
  | n + 1, lo, i + 1, h => by
    rw [rngI, List.getElem?_cons_succ, rngI_get n (lo + 1) i (by omega)]
    congr 2; omega
def inR (i : Int) : Bool := decide (-4611686018427387904 ≤ i) && decide (i < 4611686018427387904)
def rng1 : List MV → Rs (List MV)
  | [.int j] => if inR j then .ok (rngI 0 j.toNat) else .no
  | _ => .no
def rng2 : List MV → Rs (List MV)
  | [.int i, .int j] => if inR i && inR j then .ok (rngI i (j - i).toNat) else .no
  | _ => .no
def iCall (g : List MV → Rs (List MV)) (d : AD) : ID := fun ρ => (d ρ).bind g
theorem inR_ok {i : Int} (h : inR i = true) : -(2 ^ 62) ≤ i ∧ i < 2 ^ 62 := by
  unfold inR at h
  simp only [Bool.and_eq_true, decide_eq_true_eq] at h
  have e : (2 : Int) ^ 62 = 4611686018427387904 := by decide
  omega
section
variable {T : Tb} {X : Cx} {W : WX} {tg a b : Expr} {da : AD} {pos p : Pos}
theorem it_rng {K : PySem.W.Frag} {H0 : Hp} {P : Addr → Prop} {lo : Int} {n : Nat} : ItOk K T H0 P (Itr lo n) (rngI lo n) :=
  ⟨fun H s i hi => by rw [rngI_len] at hi; exact hi, fun H s i x H' ⟨e, y⟩ hi => by
    subst e
    rw [rngI_len] at hi
    exact ⟨_, rngI_get n lo i hi, Same.refl _, y⟩, fun H s i hi => by rw [rngI_len] at hi; exact hi⟩
theorem si_rng1 (hm : X.mg "range" = none) (ha : SA T X W false [a] da) (hg : Gl X "range" := by rfl) (hs : starEach [a] X.env = [(false, eval a X.env)] := by rfl) : SI T X W tg (.Call (.Name "range" p) [a] [] pos) (iCall rng1 da) := fun B =>
  (pi_range1 hg hm (ha B) hs).imp fun σ H R ⟨ρ, S, q⟩ => by
    refine ⟨ρ, S, ?_⟩
    unfold iCall at q
    cases e : da ρ with
    | ok ms =>
      rw [e] at q
      intro vs H' s rs
      simp only [Rs.bind_ok] at q
      cases e1 : rng1 ms with
      | ok its =>
        rw [e1] at q
        unfold rng1 at e1
        split at e1
        · split at e1 <;> cases e1
          rename_i c
          obtain ⟨x, rfl, r⟩ := pr1 rs
          obtain rfl : x = .int _ := r
          obtain ⟨h1, h2⟩ := inR_ok c
          exact ⟨_, rfl, h1, h2, q _ H' s it_rng⟩
        · cases e1
      | ex c => unfold rng1 at e1; split at e1 <;> (try split at e1) <;> cases e1
      | no => rw [e1] at q; exact q.elim
    | ex c => rw [e] at q; exact q
    | no => rw [e] at q; exact q
theorem si_rng2 (hm : X.mg "range" = none) (ha : SA T X W false [a, b] da) (hg : Gl X "range" := by rfl) (hs : starEach [a, b] X.env = [(false, eval a X.env), (false, eval b X.env)] := by rfl) (hs2 : starEach [b] X.env = [(false, eval b X.env)] := by rfl) : SI T X W tg (.Call (.Name "range" p) [a, b] [] pos) (iCall rng2 da) := fun B =>
  (pi_range2 hg hm (ha B) hs hs2).imp fun σ H R ⟨ρ, S, q⟩ => by
    refine ⟨ρ, S, ?_⟩
    unfold iCall at q
    cases e : da ρ with
    | ok ms =>
      rw [e] at q
      intro vs H' s rs
      simp only [Rs.bind_ok] at q
      cases e1 : rng2 ms with
      | ok its =>
        rw [e1] at q
        unfold rng2 at e1
        split at e1
        · split at e1 <;> cases e1
          rename_i c
          simp only [Bool.and_eq_true] at c
          obtain ⟨x, y, rfl, r1, r2⟩ := pr2 rs
          obtain rfl : x = .int _ := r1
          obtain rfl : y = .int _ := r2
          obtain ⟨h1, h2⟩ := inR_ok c.1
          obtain ⟨h3, h4⟩ := inR_ok c.2
          exact ⟨_, _, rfl, ⟨h1, h2, h3, h4⟩, q _ H' s it_rng⟩
        · cases e1
      | ex c => unfold rng2 at e1; split at e1 <;> (try split at e1) <;> cases e1
      | no => rw [e1] at q; exact q.elim
    | ex c => rw [e] at q; exact q
    | no => rw [e] at q; exact q
end
end Mi

set_option Elab.async false
set_option linter.all false
set_option maxRecDepth 100000
/-! Mi, part 6: statements. -/
namespace Mi
open PySem PySem.Spec L2

section
variable (K : PySem.W.Frag) (T : Tb) (B : Bs) (W : WX)
/-- what a statement's end asks -/
def PostS (D : Ends) : SR → Prop
  | .nx ρ' => ∀ σ' H', RS K T B σ' H' ρ' → D.nx σ' H'
  | .rt m => ∀ v H', Same B.H0 H' → Rl K T.C H' B.G m v → D.rt v H'
  | .bk ρ' => ∀ σ' H', RS K T B σ' H' ρ' → D.bk σ' H'
  | .ct ρ' => ∀ σ' H', RS K T B σ' H' ρ' → D.ct σ' H'
  | .ex c ρ' => ∀ cls dd σ' H', RS K T B σ' H' ρ' → T.exc c cls → W cls dd σ' H'
  | .no => False
end
theorem tS_iff {K : PySem.W.Frag} {T : Tb} {B : Bs} {W : WX} {d : SD} {D : Ends} {σ : L2.St} {H : Hp} : tS K T B W d D σ H ↔ ∃ ρ, RS K T B σ H ρ ∧ PostS K T B W D (d ρ) := by
  unfold tS PostS
  constructor
  · rintro ⟨ρ, R, q⟩; exact ⟨ρ, R, by cases e : d ρ <;> rw [e] at q <;> exact q⟩
  · rintro ⟨ρ, R, q⟩; exact ⟨ρ, R, by cases e : d ρ <;> rw [e] at q <;> exact q⟩

def sNext : SD := fun ρ => .nx ρ
def sSeq (a b : SD) : SD := fun ρ => match a ρ with
  | .nx ρ' => b ρ'
  | r => r
def sBreak : SD := fun ρ => .bk ρ
def sCont : SD := fun ρ => .ct ρ
def sRet (d : ED) : SD := fun ρ => match d ρ with
  | .ok m => .rt m
  | .ex c => .ex c ρ
  | .no => .no
def sRetN : SD := fun _ => .rt .non
def sDrop (d : ED) : SD := fun ρ => match d ρ with
  | .ok _ => .nx ρ
  | .ex c => .ex c ρ
  | .no => .no
def sIf (c : TD) (a b : SD) : SD := fun ρ => match c ρ with
  | .ok true => a ρ
  | .ok false => b ρ
  | .ex c => .ex c ρ
  | .no => .no
def sSet (i : Nat) (d : ED) : SD := fun ρ => match d ρ with
  | .ok m => .nx (ρ.set i (.val m))
  | .ex c => .ex c ρ
  | .no => .no
def sOwn (i : Nat) (d : ED) : SD := fun ρ => match d ρ with
  | .ok m => .nx (ρ.set i (.own m))
  | .ex c => .ex c ρ
  | .no => .no
/-- forgetting names -/
def kill : List Bool → Rho → Rho
  | b :: bs, s :: r => (if b then s else .un) :: kill bs r
  | _, r => r
def sKill (l : List Bool) (a : SD) : SD := fun ρ => a (kill l ρ)
/-- a name's own list is nobody's from now on -/
def sFrz (i : Nat) (a : SD) : SD := fun ρ => match lk ρ i with
  | .own m => a (ρ.set i (.val m))
  | _ => a ρ

section
variable {K : PySem.W.Frag} {T : Tb} {B : Bs} {σ : L2.St} {H : Hp} {ρ : Rho}
theorem set_get {α : Type} {l : List α} {i j : Nat} {x y : α} (h : (l.set i x)[j]? = some y) : (j = i ∧ y = x ∧ i < l.length) ∨ (j ≠ i ∧ l[j]? = some y) := by
  by_cases e : j = i
  · subst e
    rw [List.getElem?_set] at h
    simp only [if_true] at h
    split at h
    · cases h; exact .inl ⟨rfl, rfl, by assumption⟩
    · cases h
  · rw [List.getElem?_set_ne (Ne.symm e)] at h
    exact .inr ⟨e, h⟩
theorem ownAt_set {i : Nat} {x : Option V} {m : MV} {a : Addr} (h : OwnAt (σ.set i x) (ρ.set i (.val m)) a) : OwnAt σ ρ a := by
  obtain ⟨j, o, h1, h2⟩ := h
  rcases set_get h1 with ⟨_, e, _⟩ | ⟨e, h1⟩
  · cases e
  · rw [List.getElem?_set_ne (Ne.symm e)] at h2
    exact ⟨j, o, h1, h2⟩
/-- a full value is stored at a name -/
theorem RS.set (R : RS K T B σ H ρ) {i : Nat} {m : MV} {v : V} (r : Rl K T.C H (Pf B σ ρ) m v) : RS K T B (σ.set i (some v)) H (ρ.set i (.val m)) := by
  have pf : ∀ a, Pf B σ ρ a → Pf B (σ.set i (some v)) (ρ.set i (.val m)) a := fun a p => ⟨p.1, fun z => p.2 (ownAt_set z)⟩
  refine ⟨by simp [R.len], R.same, fun j n h => ?_, fun j n h => ?_, fun j k o o' a h1 h2 h3 h4 => ?_⟩
  · rcases set_get h with ⟨e, en, hl⟩ | ⟨e, h⟩
    · cases en
      subst e
      exact ⟨v, by rw [List.getElem?_set_self (by rw [R.len]; exact hl)], r.imp fun a _ _ p => pf a p⟩
    · obtain ⟨w, h1, h2⟩ := R.val j n h
      exact ⟨w, by rw [List.getElem?_set_ne (Ne.symm e)]; exact h1, h2.imp fun a _ _ p => pf a p⟩
  · rcases set_get h with ⟨e, en, hl⟩ | ⟨e, h⟩
    · cases en
    · obtain ⟨a, h1, h2, h3⟩ := R.own j n h
      exact ⟨a, by rw [List.getElem?_set_ne (Ne.symm e)]; exact h1, h2, h3.keep (.of_same (Same.refl _) fun a _ _ p => pf a p) fun _ q => q⟩
  · rcases set_get h1 with ⟨_, e, _⟩ | ⟨e1, h1⟩
    · cases e
    · rcases set_get h2 with ⟨_, e, _⟩ | ⟨e2, h2⟩
      · cases e
      · rw [List.getElem?_set_ne (Ne.symm e1)] at h3
        rw [List.getElem?_set_ne (Ne.symm e2)] at h4
        exact R.inj j k o o' a h1 h2 h3 h4
/-- a new list is stored at a name -/
theorem RS.setOwn (R : RS K T B σ H ρ) {H' : Hp} {i : Nat} {m : MV} {a : Addr} (s : Same H H') (hn : H a = none) (o : OwnOk K T.C H' (fun b => Pf B σ ρ b ∧ b ≠ a) a m) : RS K T B (σ.set i (some (.ref a))) H' (ρ.set i (.own m)) := by
  have ow : ∀ b, OwnAt (σ.set i (some (.ref a))) (ρ.set i (.own m)) b → OwnAt σ ρ b ∨ b = a := fun b ⟨j, n, h1, h2⟩ => by
    rcases set_get h1 with ⟨e, _, hl⟩ | ⟨e, h1⟩
    · subst e
      rw [List.getElem?_set_self (by rw [R.len]; exact hl)] at h2
      cases h2; exact .inr rfl
    · rw [List.getElem?_set_ne (Ne.symm e)] at h2
      exact .inl ⟨j, n, h1, h2⟩
  have pf : ∀ b o', H b = some o' → Pf B σ ρ b → Pf B (σ.set i (some (.ref a))) (ρ.set i (.own m)) b := fun b o' hb p => ⟨p.1, fun z => by
    rcases ow b z with z | z
    · exact p.2 z
    · subst z; rw [hn] at hb; cases hb⟩
  have kp : Kept H H' (Pf B σ ρ) (Pf B (σ.set i (some (.ref a))) (ρ.set i (.own m))) := ⟨fun b o' h _ => s b o' h, fun b o' h p => ⟨s b o' h, pf b o' h p⟩⟩
  refine ⟨by simp [R.len], R.same.trans s, fun j n h => ?_, fun j n h => ?_, fun j k o o' b h1 h2 h3 h4 => ?_⟩
  · rcases set_get h with ⟨e, en, hl⟩ | ⟨e, h⟩
    · cases en
    · obtain ⟨w, h1, h2⟩ := R.val j n h
      exact ⟨w, by rw [List.getElem?_set_ne (Ne.symm e)]; exact h1, h2.keep kp⟩
  · rcases set_get h with ⟨e, en, hl⟩ | ⟨e, h⟩
    · cases en
      subst e
      refine ⟨a, by rw [List.getElem?_set_self (by rw [R.len]; exact hl)], R.same.free hn, o.keep (.of_same (Same.refl _) fun b o' _ p => ⟨p.1.1, fun z => ?_⟩) fun _ q => q⟩
      rcases ow b z with z | z
      · exact p.1.2 z
      · exact p.2 z
    · obtain ⟨b, h1, h2, h3⟩ := R.own j n h
      exact ⟨b, by rw [List.getElem?_set_ne (Ne.symm e)]; exact h1, h2, h3.keep kp fun o' q => s _ _ q⟩
  · have key : ∀ {j : Nat} {n : MV}, ρ[j]? = some (Sl.own n) → σ[j]? = some (some (V.ref a)) → False := fun h1 h3 => by
      obtain ⟨c, h5, _, h6⟩ := R.own _ _ h1
      rw [h3] at h5; cases h5
      obtain ⟨u, hu, _⟩ := h6.at
      rw [hn] at hu; cases hu
    rcases set_get h1 with ⟨e1, _, hl⟩ | ⟨e1, g1⟩
    · subst e1
      rw [List.getElem?_set_self (by rw [R.len]; exact hl)] at h3
      cases h3
      rcases set_get h2 with ⟨e2, _, _⟩ | ⟨e2, g2⟩
      · exact e2.symm
      · rw [List.getElem?_set_ne (Ne.symm e2)] at h4
        exact (key g2 h4).elim
    · rw [List.getElem?_set_ne (Ne.symm e1)] at h3
      rcases set_get h2 with ⟨e2, _, hl⟩ | ⟨e2, g2⟩
      · subst e2
        rw [List.getElem?_set_self (by rw [R.len]; exact hl)] at h4
        cases h4
        exact (key g1 h3).elim
      · rw [List.getElem?_set_ne (Ne.symm e2)] at h4
        exact R.inj j k o o' b g1 g2 h3 h4
theorem kill_get : ∀ {l : List Bool} {ρ : Rho} {i : Nat} {s : Sl}, (kill l ρ)[i]? = some s → s ≠ .un → ρ[i]? = some s
  | [], _, _, _, h, _ => by simpa [kill] using h
  | _ :: _, [], _, _, h, _ => by simp [kill] at h
  | b :: bs, x :: r, 0, s, h, n => by
    cases b with
    | true => simpa [kill] using h
    | false => simp [kill] at h; exact absurd h.symm n
  | b :: bs, x :: r, i + 1, s, h, n => by
    have h' : (kill bs r)[i]? = some s := by simpa [kill] using h
    simpa using kill_get h' n
theorem kill_len : ∀ (l : List Bool) (ρ : Rho), (kill l ρ).length = ρ.length
  | [], _ => rfl
  | _ :: _, [] => rfl
  | b :: bs, x :: r => by simp [kill, kill_len bs r]
/-- fewer names are known -/
theorem RS.less (R : RS K T B σ H ρ) {ρ' : Rho} (hl : ρ'.length = ρ.length) (h : ∀ (i : Nat) (s : Sl), ρ'[i]? = some s → s ≠ Sl.un → ρ[i]? = some s) : RS K T B σ H ρ' := by
  have pf : ∀ a, Pf B σ ρ a → Pf B σ ρ' a := fun a p => ⟨p.1, fun ⟨i, m, h1, h2⟩ => p.2 ⟨i, m, h i _ h1 (fun z => nomatch z), h2⟩⟩
  refine ⟨by rw [R.len, hl], R.same, fun i m q => ?_, fun i m q => ?_, fun i j o o' a h1 h2 h3 h4 => R.inj i j o o' a (h i _ h1 fun z => nomatch z) (h j _ h2 fun z => nomatch z) h3 h4⟩
  · obtain ⟨v, h1, h2⟩ := R.val i m (h i _ q fun z => nomatch z)
    exact ⟨v, h1, h2.imp fun a _ _ p => pf a p⟩
  · obtain ⟨a, h1, h2, h3⟩ := R.own i m (h i _ q fun z => nomatch z)
    exact ⟨a, h1, h2, h3.keep (.of_same (Same.refl _) fun a _ _ p => pf a p) fun _ q => q⟩
theorem RS.kill (R : RS K T B σ H ρ) (l : List Bool) : RS K T B σ H (Mi.kill l ρ) := R.less (kill_len _ _) fun _ _ h n => kill_get h n
/-- a name's own list becomes a value -/
theorem RS.frz (R : RS K T B σ H ρ) {i : Nat} {m : MV} (h : ρ[i]? = some (.own m)) : RS K T B σ H (ρ.set i (.val m)) := by
  have hi : i < ρ.length := (List.getElem?_eq_some_iff.mp h).1
  obtain ⟨a, h1, h0, ho⟩ := R.own i m h
  have ow : ∀ b, OwnAt σ (ρ.set i (.val m)) b → OwnAt σ ρ b := fun b ⟨j, n, q1, q2⟩ => by
    rcases set_get q1 with ⟨_, e, _⟩ | ⟨e, q1⟩
    · cases e
    · exact ⟨j, n, q1, q2⟩
  have pf : ∀ b, Pf B σ ρ b → Pf B σ (ρ.set i (.val m)) b := fun b p => ⟨p.1, fun z => p.2 (ow b z)⟩
  have pa : Pf B σ (ρ.set i (.val m)) a := ⟨B.fr a h0, fun ⟨j, n, q1, q2⟩ => by
    rcases set_get q1 with ⟨_, e, _⟩ | ⟨e, q1⟩
    · cases e
    · exact e (R.inj j i _ _ a q1 h q2 h1)⟩
  have kp : Kept H H (Pf B σ ρ) (Pf B σ (ρ.set i (.val m))) := .of_same (Same.refl _) fun b _ _ p => pf b p
  refine ⟨by simp [R.len], R.same, fun j n q => ?_, fun j n q => ?_, fun j k o o' b q1 q2 q3 q4 => ?_⟩
  · rcases set_get q with ⟨e, en, hl⟩ | ⟨e, q⟩
    · cases en
      subst e
      refine ⟨_, h1, ?_⟩
      have o2 := ho.keep kp fun _ q => q
      cases m with
      | lst ms => obtain ⟨xs, h3, h4⟩ := o2; exact ⟨a, xs, rfl, pa, h3, h4⟩
      | dct t ks vs => obtain ⟨xs, h3, h4⟩ := o2; exact ⟨a, xs, rfl, pa, h3, h4⟩
      | obj c ns vs => obtain ⟨dx, xs, h3, h4, h5⟩ := o2; exact ⟨a, dx, xs, rfl, pa, h3, h4, h5⟩
      | _ => exact o2.elim
    · obtain ⟨w, h3, h4⟩ := R.val j n q
      exact ⟨w, h3, h4.keep kp⟩
  · rcases set_get q with ⟨e, en, hl⟩ | ⟨e, q⟩
    · cases en
    · obtain ⟨b, h3, h4, h5⟩ := R.own j n q
      exact ⟨b, h3, h4, h5.keep kp fun _ q => q⟩
  · rcases set_get q1 with ⟨_, e, _⟩ | ⟨e1, q1⟩
    · cases e
    · rcases set_get q2 with ⟨_, e, _⟩ | ⟨e2, q2⟩
      · cases e
      · exact R.inj j k o o' b q1 q2 q3 q4
/-- a name's own list is changed -/
theorem RS.write (R : RS K T B σ H ρ) {i : Nat} {m m' : MV} {a : Addr} {o' : HO} (h : ρ[i]? = some (.own m)) (ha : σ[i]? = some (some (.ref a))) (new : OwnOk K T.C (upd H a o') (Pf B σ (ρ.set i (.own m'))) a m') : RS K T B σ (upd H a o') (ρ.set i (.own m')) := by
  have hi : i < ρ.length := (List.getElem?_eq_some_iff.mp h).1
  obtain ⟨a', h1, h0, ho⟩ := R.own i m h
  rw [ha] at h1; cases h1
  have own : OwnAt σ ρ a := ⟨i, m, h, ha⟩
  obtain ⟨_, u, hu, nt, nf⟩ := R.owned own
  have ow : ∀ b, OwnAt σ (ρ.set i (.own m')) b → OwnAt σ ρ b := fun b ⟨j, n, q1, q2⟩ => by
    rcases set_get q1 with ⟨e, _, _⟩ | ⟨e, q1⟩
    · subst e; exact ⟨j, m, h, q2⟩
    · exact ⟨j, n, q1, q2⟩
  have kp : Kept H (upd H a o') (Pf B σ ρ) (Pf B σ (ρ.set i (.own m'))) := ⟨fun b o hb t => by
      rw [upd_ne (fun e => by
        subst e; rw [hu] at hb; cases hb
        rcases t with ⟨xs, t⟩ | ⟨y, u, t⟩
        · exact nt _ t
        · exact nf _ _ t)]; exact hb,
    fun b o hb p => ⟨by rw [upd_ne (fun e => by subst e; exact p.2 own)]; exact hb, p.1, fun z => p.2 (ow b z)⟩⟩
  refine ⟨by simp [R.len], fun b o hb => ?_, fun j n q => ?_, fun j n q => ?_, fun j k o o'' b q1 q2 q3 q4 => ?_⟩
  · rw [upd_ne (fun e => by subst e; rw [h0] at hb; cases hb)]
    exact R.same b o hb
  · rcases set_get q with ⟨e, en, hl⟩ | ⟨e, q⟩
    · cases en
    · obtain ⟨w, h3, h4⟩ := R.val j n q
      exact ⟨w, h3, h4.keep kp⟩
  · rcases set_get q with ⟨e, en, hl⟩ | ⟨e, q⟩
    · cases en
      subst e
      exact ⟨a, ha, h0, new⟩
    · obtain ⟨b, h3, h4, h5⟩ := R.own j n q
      refine ⟨b, h3, h4, h5.keep kp fun o q' => ?_⟩
      rw [upd_ne (fun z => by subst z; exact e (R.inj j i _ _ b q h h3 ha))]
      exact q'
  · have old : ∀ {j : Nat} {n : MV}, (ρ.set i (Sl.own m'))[j]? = some (Sl.own n) → ∃ n', ρ[j]? = some (Sl.own n') := fun q => by
      rcases set_get q with ⟨e, _, _⟩ | ⟨e, q⟩
      · subst e; exact ⟨m, h⟩
      · exact ⟨_, q⟩
    obtain ⟨n1, q1⟩ := old q1
    obtain ⟨n2, q2⟩ := old q2
    exact R.inj j k n1 n2 b q1 q2 q3 q4
end

section
variable {T : Tb} {X : Cx} {W : WX} {st : Stmt} {rest : List Stmt} {d d' : SD} {e : Expr} {de : ED} {pos : Pos}
theorem SS.mk (h : ∀ B, ∃ t, PS X st t ∧ ∀ D σ H ρ, RS X.K T B σ H ρ → PostS X.K T B W D (d ρ) → t D σ H) : SS T X W st d := fun B => by
  obtain ⟨t, h1, h2⟩ := h B
  exact h1.imp fun D σ H q => by
    obtain ⟨ρ, R, p⟩ := tS_iff.mp q
    exact h2 D σ H ρ R p
theorem SSs.mk (h : ∀ B, ∃ t, PSs X rest t ∧ ∀ D σ H ρ, RS X.K T B σ H ρ → PostS X.K T B W D (d ρ) → t D σ H) : SSs T X W rest d := fun B => by
  obtain ⟨t, h1, h2⟩ := h B
  exact h1.imp fun D σ H q => by
    obtain ⟨ρ, R, p⟩ := tS_iff.mp q
    exact h2 D σ H ρ R p
theorem ss_nil : SSs T X W [] sNext := .mk fun B => ⟨_, pss_nil, fun D σ H ρ R p => p σ H R⟩
theorem ss_cons (h1 : SS T X W st d) (h2 : SSs T X W rest d') : SSs T X W (st :: rest) (sSeq d d') := .mk fun B => ⟨_, pss_cons (h1 B) (h2 B), fun D σ H ρ R p => by
  refine tS_iff.mpr ⟨ρ, R, ?_⟩
  unfold sSeq at p
  cases e : d ρ with
  | nx ρ' => rw [e] at p; exact fun σ' H' R' => tS_iff.mpr ⟨ρ', R', p⟩
  | rt m => rw [e] at p; exact p
  | bk ρ' => rw [e] at p; exact p
  | ct ρ' => rw [e] at p; exact p
  | ex c ρ' => rw [e] at p; exact p
  | no => rw [e] at p; exact p⟩
theorem ss_one (h1 : SS T X W st d) : SSs T X W [st] d := fun B => pss_one (h1 B)
theorem ss_pass : SS T X W (.Pass pos) sNext := .mk fun B => ⟨_, ps_pass, fun D σ H ρ R p => p σ H R⟩
theorem ss_break : SS T X W (.Break pos) sBreak := .mk fun B => ⟨_, ps_break, fun D σ H ρ R p => p σ H R⟩
theorem ss_cont : SS T X W (.Continue pos) sCont := .mk fun B => ⟨_, ps_continue, fun D σ H ρ R p => p σ H R⟩
theorem SS.kill (l : List Bool) (h : SS T X W st d) : SS T X W st (sKill l d) := .mk fun B => ⟨_, h B, fun D σ H ρ R p => tS_iff.mpr ⟨_, R.kill l, p⟩⟩
theorem SS.frz (i : Nat) (h : SS T X W st d) : SS T X W st (sFrz i d) := .mk fun B => ⟨_, h B, fun D σ H ρ R p => by
  unfold sFrz at p
  cases e : lk ρ i with
  | own m => rw [e] at p; exact tS_iff.mpr ⟨_, R.frz (lk_val e fun z => nomatch z), p⟩
  | val m => rw [e] at p; exact tS_iff.mpr ⟨_, R, p⟩
  | un => rw [e] at p; exact tS_iff.mpr ⟨_, R, p⟩⟩
theorem ss_retN : SS T X W (.Return none pos) sRetN := .mk fun B => ⟨_, ps_retN, fun D σ H ρ R p => p .non H R.same rfl⟩
theorem ss_ret (h : SB T X W e de) : SS T X W (.Return (some e) pos) (sRet de) := .mk fun B => ⟨_, ps_ret (h B), fun D σ H ρ R p => by
  refine ⟨ρ, R, ?_⟩
  unfold sRet at p
  cases e : de ρ with
  | ok m => rw [e] at p; exact fun v H' s r => p v H' (R.same.trans s) (r.rl fun a q => q.1)
  | ex c => rw [e] at p; exact fun cls dd H' s z => p cls dd σ H' (R.grow s) z
  | no => rw [e] at p; exact p⟩
theorem ss_drop (h : SE T X W e de) (hs : swapsWith e none pos.line X.env = pure false := by rfl) : SS T X W (.Expr e pos) (sDrop de) := .mk fun B => ⟨_, ps_expr (h B) hs, fun D σ H ρ R p => by
  refine ⟨ρ, R, ?_⟩
  unfold sDrop at p
  cases e : de ρ with
  | ok m => rw [e] at p; exact fun v H' s r => p σ H' (R.grow s)
  | ex c => rw [e] at p; exact fun cls dd H' s z => p cls dd σ H' (R.grow s) z
  | no => rw [e] at p; exact p⟩
theorem ss_if {c : Expr} {a b : List Stmt} {tc : TD} {da db : SD} (hc : ST T X W c tc) (ha : SSs T X W a da) (hb : SSs T X W b db) : SS T X W (.If c a b pos) (sIf tc da db) := .mk fun B => ⟨_, ps_if (hc B) (ha B) (hb B), fun D σ H ρ R p => by
  refine ⟨ρ, R, ?_⟩
  unfold sIf at p
  cases e : tc ρ with
  | ok b =>
    rw [e] at p
    intro H' s
    cases b with
    | true => exact iteT (tS_iff.mpr ⟨ρ, R.grow s, p⟩)
    | false => exact iteF (tS_iff.mpr ⟨ρ, R.grow s, p⟩)
  | ex c => rw [e] at p; exact fun cls dd H' s z => p cls dd σ H' (R.grow s) z
  | no => rw [e] at p; exact p⟩
theorem ss_set (i : Nat) {x : Str} {pos' : Pos} (hN : X.N.Nodup) (he : SE T X W e de) (hi : X.N[i]? = some x := by rfl) (hx : Loc X.env.scope x := by first | exact Or.inl rfl | exact Or.inr rfl) (hs : swapsWith e (some (.Name x pos')) pos.line X.env = pure false := by rfl)
    (hf : X.fn x = true ∨ X.env.scope.names.lookup x = some .local := by first | exact .inl rfl | exact .inr rfl | assumption) : SS T X W (.Assign [.Name x pos'] e pos) (sSet i de) := .mk fun B => ⟨_, ps_set hN hi hx (he B) hs hf, fun D σ H ρ R p => by
  refine ⟨ρ, R, ?_⟩
  unfold sSet at p
  cases e : de ρ with
  | ok m => rw [e] at p; exact fun v H' s r => p _ H' ((R.grow s).set r)
  | ex c => rw [e] at p; exact fun cls dd H' s z => p cls dd σ H' (R.grow s) z
  | no => rw [e] at p; exact p⟩
theorem ss_own (i : Nat) {x : Str} {pos' : Pos} (hN : X.N.Nodup) (he : SN T X W e de) (hi : X.N[i]? = some x := by rfl) (hx : Loc X.env.scope x := by first | exact Or.inl rfl | exact Or.inr rfl) (hs : swapsWith e (some (.Name x pos')) pos.line X.env = pure false := by rfl)
    (hf : X.fn x = true ∨ X.env.scope.names.lookup x = some .local := by first | exact .inl rfl | exact .inr rfl | assumption) : SS T X W (.Assign [.Name x pos'] e pos) (sOwn i de) := .mk fun B => ⟨_, ps_set hN hi hx (he B) hs hf, fun D σ H ρ R p => by
  refine ⟨ρ, R, ?_⟩
  unfold sOwn at p
  cases e : de ρ with
  | ok m => rw [e] at p; exact fun a H' s n o => p _ H' (R.setOwn s n o)
  | ex c => rw [e] at p; exact fun cls dd H' s z => p cls dd σ H' (R.grow s) z
  | no => rw [e] at p; exact p⟩
/-- a, b = x, y -/
def sPar (i j : Nat) (d : AD) : SD := fun ρ => match d ρ with
  | .ok [m, n] => .nx ((ρ.set i (.val m)).set j (.val n))
  | .ok _ => .no
  | .ex c => .ex c ρ
  | .no => .no
theorem ss_par (i j : Nat) {x y : Str} {a b : Expr} {da : AD} {px py pt : Pos} {kt k2 pt2} (hN : X.N.Nodup) (ha : SA T X W true [a, b] da) (hc : X.calm = true := by rfl) (hi : X.N[i]? = some x := by rfl) (hj : X.N[j]? = some y := by rfl) (hij : i ≠ j := by decide)
    (hx : X.env.scope.names.lookup x = some .local := by rfl) (hy : X.env.scope.names.lookup y = some .local := by rfl)
    (hw : swappedStores [.Tuple [.Name x px, .Name y py] kt pt] (.Tuple [a, b] k2 pt2) X.env = pure (some [x, y]) := by rfl)
    (hs : swapsWithSole [.Tuple [.Name x px, .Name y py] kt pt] (.Tuple [a, b] k2 pt2) pos.line X.env = pure false := by rfl) :
    SS T X W (.Assign [.Tuple [.Name x px, .Name y py] kt pt] (.Tuple [a, b] k2 pt2) pos) (sPar i j da) := .mk fun B => ⟨_, ps_par hc hN hi hj hij hx hy (ha B) hw hs, fun D σ H ρ R p => by
  refine ⟨ρ, R, ?_⟩
  unfold sPar at p
  cases e : da ρ with
  | ok ms =>
    rw [e] at p
    intro vs H' s rs
    match ms, rs, p with
    | [m, n], ⟨v, _, e1, r1, w, _, e2, r2, e3⟩, p =>
      subst e3 e2 e1
      refine ⟨v, w, rfl, p _ H' (RS.set (RS.set (R.grow s) r1) (r2.imp fun a _ _ q => ⟨q.1, fun z => q.2 (ownAt_set z)⟩))⟩
    | [], _, p => exact p.elim
    | [_], _, p => exact p.elim
    | _ :: _ :: _ :: _, _, p => exact p.elim
  | ex c => rw [e] at p; exact fun cls dd H' s z => p cls dd σ H' (R.grow s) z
  | no => rw [e] at p; exact p⟩
end
end Mi

set_option Elab.async false
set_option linter.all false
set_option maxRecDepth 100000
/-! Mi, part 7: targets; for, while. -/
namespace Mi
open PySem PySem.Spec L2

/-! ### targets -/
abbrev GD := MV → Rho → Option Rho
abbrev GsD := List MV → Rho → Option Rho
def notOwn : Sl → Bool
  | .own _ => false
  | _ => true
/-- no slot of vs owns -/
def noOwn (vs : List Nat) (ρ : Rho) : Bool := vs.all fun i => notOwn (lk ρ i)
section
variable (K : PySem.W.Frag) (T : Tb) (B : Bs) (vs : List Nat)
def PostG (σ : L2.St) (H : Hp) (Q : L2.St → Hp → Prop) : Option Rho → Prop
  | some ρ' => ∀ σ', RS K T B σ' H ρ' → wipe σ' vs = wipe σ vs → Q σ' H
  | none => False
def tG (d : GD) : TG := fun v σ H Q => ∃ ρ m, RS K T B σ H ρ ∧ Rl K T.C H (Pf B σ ρ) m v ∧ noOwn vs ρ = true ∧ PostG K T B vs σ H Q (d m ρ)
def tGs (d : GsD) : TGs := fun us σ H Q => ∃ ρ ms, RS K T B σ H ρ ∧ RlL K T.C H (Pf B σ ρ) ms us ∧ noOwn vs ρ = true ∧ PostG K T B vs σ H Q (d ms ρ)
end
/-- the slots beside vs are kept, and no slot of vs owns -/
def GStep (vs : List Nat) (ρ ρ' : Rho) : Prop := ρ'.length = ρ.length ∧ (noOwn vs ρ = true → noOwn vs ρ' = true) ∧ ∀ i, i ∉ vs → ρ'[i]? = ρ[i]?
/-- vs: the slots it writes -/
structure SG (T : Tb) (X : Cx) (tg : Expr) (d : GD) (vs : List Nat) : Prop where
  run : ∀ B, PG X tg (tG X.K T B vs d)
  keep : ∀ m ρ ρ', d m ρ = some ρ' → GStep vs ρ ρ'
structure SGs (T : Tb) (X : Cx) (tg : List Expr) (d : GsD) (vs : List Nat) : Prop where
  run : ∀ B, PGs X tg (tGs X.K T B vs d)
  keep : ∀ m ρ ρ', d m ρ = some ρ' → GStep vs ρ ρ'
theorem _root_.L2.PG.imp {X : Cx} {e : Expr} {t t' : TG} (h : PG X e t) (i : ∀ v σ H Q, t' v σ H Q → t v σ H Q) : PG X e t' := ⟨fun pins s σ H v u Q I r q => h.run pins s σ H v u Q I r (i v σ H Q q)⟩
theorem _root_.L2.PGs.imp {X : Cx} {e : List Expr} {t t' : TGs} (h : PGs X e t) (i : ∀ v σ H Q, t' v σ H Q → t v σ H Q) : PGs X e t' := ⟨fun pins s σ H v u Q I r q => h.run pins s σ H v u Q I r (i v σ H Q q)⟩
theorem wipe_get {σ : L2.St} {vs : List Nat} {i : Nat} : (wipe σ vs)[i]? = if i ∈ vs then (if i < σ.length then some none else none) else σ[i]? := by
  induction vs with
  | nil => simp [wipe]
  | cons v vs ih =>
    unfold wipe
    by_cases e : v = i
    · subst e
      simp only [List.mem_cons, true_or, if_true]
      rw [List.getElem?_set]
      simp only [if_true, wipe_length]
    · rw [List.getElem?_set_ne e, ih]
      have : (i ∈ v :: vs) ↔ i ∈ vs := by
        simp only [List.mem_cons]
        exact ⟨fun h => h.elim (fun z => absurd z.symm e) id, .inr⟩
      simp only [this]
theorem wipe_eq {σ σ' : L2.St} {vs : List Nat} (hl : σ'.length = σ.length) (h : ∀ i, i ∉ vs → σ'[i]? = σ[i]?) : wipe σ' vs = wipe σ vs := by
  apply List.ext_getElem?
  intro i
  rw [wipe_get, wipe_get, hl]
  by_cases e : i ∈ vs
  · simp only [e, if_true]
  · simp only [e, if_false]; exact h i e
theorem wipe_same {σ σ' : L2.St} {vs : List Nat} (h : wipe σ' vs = wipe σ vs) : σ'.length = σ.length ∧ ∀ i, i ∉ vs → σ'[i]? = σ[i]? := by
  refine ⟨by rw [← wipe_length σ' vs, h, wipe_length], fun i e => ?_⟩
  have := congrArg (fun (l : L2.St) => l[i]?) h
  simp only [wipe_get, e, if_false] at this
  exact this
theorem wipe_set {σ : L2.St} {vs : List Nat} {i : Nat} {x : Option V} (h : i ∈ vs) : wipe (σ.set i x) vs = wipe σ vs :=
  wipe_eq (by simp) fun j e => by rw [List.getElem?_set_ne (fun z => e (by rw [← z]; exact h))]
theorem lk_eq : ∀ {ρ : Rho} {i : Nat}, lk ρ i = (ρ[i]?).getD .un
  | [], _ => rfl
  | _ :: _, 0 => rfl
  | _ :: r, i + 1 => by simpa using lk_eq (ρ := r) (i := i)
theorem noOwn_at {vs : List Nat} {ρ : Rho} (h : noOwn vs ρ = true) {i : Nat} {o : MV} (hi : i ∈ vs) (e : ρ[i]? = some (Sl.own o)) : False := by
  have := List.all_eq_true.mp h i hi
  rw [lk_eq, e] at this
  cases this
theorem noOwn_of {vs : List Nat} {ρ : Rho} (h : ∀ i ∈ vs, ∀ o, ρ[i]? ≠ some (Sl.own o)) : noOwn vs ρ = true := by
  apply List.all_eq_true.mpr
  intro i hi
  rw [lk_eq]
  cases e : ρ[i]? with
  | none => rfl
  | some s =>
    cases s with
    | own o => exact absurd e (h i hi o)
    | un => rfl
    | val m => rfl
theorem GStep.refl {vs : List Nat} {ρ : Rho} : GStep vs ρ ρ := ⟨rfl, id, fun _ _ => rfl⟩
theorem GStep.trans {vs : List Nat} {ρ ρ1 ρ2 : Rho} (h : GStep vs ρ ρ1) (g : GStep vs ρ1 ρ2) : GStep vs ρ ρ2 := ⟨g.1.trans h.1, fun z => g.2.1 (h.2.1 z), fun i e => (g.2.2 i e).trans (h.2.2 i e)⟩
theorem GStep.set {vs : List Nat} {ρ : Rho} {i : Nat} {m : MV} (h : i ∈ vs) : GStep vs ρ (ρ.set i (.val m)) :=
  ⟨by simp, fun z => noOwn_of fun j hj o e => by
    rcases set_get e with ⟨_, e, _⟩ | ⟨_, e⟩
    · cases e
    · exact noOwn_at z hj e, fun j e => List.getElem?_set_ne (fun z => e (by rw [← z]; exact h))⟩
/-- the owners are the same -/
theorem GStep.own {vs : List Nat} {ρ ρ' : Rho} {σ σ' : L2.St} (g : GStep vs ρ ρ') (n : noOwn vs ρ = true) (w : wipe σ' vs = wipe σ vs) (a : Addr) : OwnAt σ' ρ' a ↔ OwnAt σ ρ a := by
  constructor
  · rintro ⟨i, o, h1, h2⟩
    have hi : i ∉ vs := fun z => noOwn_at (g.2.1 n) z h1
    exact ⟨i, o, by rw [← g.2.2 i hi]; exact h1, by rw [← (wipe_same w).2 i hi]; exact h2⟩
  · rintro ⟨i, o, h1, h2⟩
    have hi : i ∉ vs := fun z => noOwn_at n z h1
    exact ⟨i, o, by rw [g.2.2 i hi]; exact h1, by rw [(wipe_same w).2 i hi]; exact h2⟩
def gVar (i : Nat) : GD := fun m ρ => some (ρ.set i (.val m))
def gsNil : GsD := fun ms ρ => match ms with
  | [] => some ρ
  | _ :: _ => none
def gsCons (g : GD) (r : GsD) : GsD := fun ms ρ => match ms with
  | m :: ms => (g m ρ).bind fun ρ' => r ms ρ'
  | [] => none
def gTups (n : Nat) (r : GsD) : GD := fun m ρ => match m with
  | .tup ms => if ms.length = n then r ms ρ else none
  | .ktp ms => if ms.length = n then r ms ρ else none
  | _ => none
section
variable {T : Tb} {X : Cx} {vs : List Nat} {pos : Pos}
theorem sg_var (i : Nat) {x : Str} (hN : X.N.Nodup) (hv : i ∈ vs := by decide) (hi : X.N[i]? = some x := by rfl) (hx : Loc X.env.scope x := by first | exact Or.inl rfl | exact Or.inr rfl) (hf : X.fn x = true ∨ X.env.scope.names.lookup x = some .local := by first | exact .inl rfl | exact .inr rfl | assumption) : SG T X (.Name x pos) (gVar i) vs :=
  ⟨fun B => (pg_name hN hi hx hf).imp fun v σ H Q ⟨ρ, m, R, r, n, q⟩ => q _ (R.set r) (wipe_set hv), fun m ρ ρ' e => by cases e; exact .set hv⟩
theorem sgs_nil : SGs T X [] gsNil vs := ⟨fun B => pgs_nil.imp fun us σ H Q ⟨ρ, ms, R, r, n, q⟩ => by
  cases ms with
  | nil => cases r; exact ⟨rfl, q σ R rfl⟩
  | cons _ _ => exact q.elim, fun ms ρ ρ' e => by
  cases ms with
  | nil => cases e; exact .refl
  | cons _ _ => cases e⟩
theorem sgs_cons {e : Expr} {es : List Expr} {g : GD} {r : GsD} (h1 : SG T X e g vs) (h2 : SGs T X es r vs)
    (hs : (assignEach (e :: es) X.env).map (·.2) = assign e X.env :: (assignEach es X.env).map (·.2) := by rfl) : SGs T X (e :: es) (gsCons g r) vs := ⟨fun B => (pgs_cons (h1.run B) (h2.run B) hs).imp fun us σ H Q ⟨ρ, ms, R, rr, n, q⟩ => by
  cases ms with
  | nil => exact q.elim
  | cons m ms =>
    obtain ⟨x, xs, e1, r1, r2⟩ := rr
    refine ⟨x, xs, e1, ρ, m, R, r1, n, ?_⟩
    simp only [gsCons] at q
    cases e2 : g m ρ with
    | none => rw [e2] at q; exact q.elim
    | some ρ1 =>
      rw [e2] at q
      intro σ1 R1 w1
      have st := h1.keep _ _ _ e2
      refine ⟨ρ1, ms, R1, r2.imp fun a _ _ p => ⟨p.1, fun z => p.2 ((st.own n w1 a).mp z)⟩, st.2.1 n, ?_⟩
      simp only [Option.bind_some] at q
      cases e3 : r ms ρ1 with
      | none => rw [e3] at q; exact q.elim
      | some ρ2 => rw [e3] at q; exact fun σ2 R2 w2 => q σ2 R2 (w2.trans w1), fun ms ρ ρ' e => by
  cases ms with
  | nil => cases e
  | cons m ms =>
    simp only [gsCons] at e
    cases e2 : g m ρ with
    | none => rw [e2] at e; cases e
    | some ρ1 => rw [e2] at e; exact (h1.keep _ _ _ e2).trans (h2.keep _ _ _ e)⟩
theorem sg_tup {es : List Expr} {k : Nat} {r : GsD} {n : Nat} (hc : X.calm = true) (h : SGs T X es r vs)
    (hn : (assignEach es X.env).length = n := by rfl) (hst : (assignEach es X.env).findIdx? (·.1) = none := by rfl) : SG T X (.Tuple es k pos) (gTups n r) vs := ⟨fun B => (pg_tup hc (h.run B) hn hst).imp fun v σ H Q ⟨ρ, m, R, rr, no, q⟩ => by
  unfold gTups at q
  split at q
  · obtain ⟨a, xs, e, h1, h2⟩ := rr
    split at q
    · exact ⟨a, xs, e, SqT.of h1, by rw [← h2.length]; assumption, ρ, _, R, h2, no, q⟩
    · exact q.elim
  · obtain ⟨a, xs, e, h1, h2⟩ := rr
    split at q
    · exact ⟨a, xs, e, h1.seq, by rw [← h2.length]; assumption, ρ, _, R, h2, no, q⟩
    · exact q.elim
  · exact q.elim, fun m ρ ρ' e => by
  unfold gTups at e
  split at e <;> (try split at e) <;> first | exact h.keep _ _ _ e | cases e⟩

/-! ### name = value, any target -/
def sAsg (vs : List Nat) (g : GD) (d : ED) : SD := fun ρ => match d ρ with
  | .ok m => if noOwn vs ρ then (match g m ρ with
    | some ρ' => .nx ρ'
    | none => .no) else .no
  | .ex c => .ex c ρ
  | .no => .no
variable {W : WX}
theorem ss_asg {tg e : Expr} {g : GD} {d : ED} (he : SE T X W e d) (hg : SG T X tg g vs) (hs : swapsWithSole [tg] e pos.line X.env = pure false := by rfl) (hw : swappedStores [tg] e X.env = pure none := by rfl)
    (h1 : (assignEach [tg] X.env).map (·.2) = [assign tg X.env] := by rfl) : SS T X W (.Assign [tg] e pos) (sAsg vs g d) := .mk fun B => ⟨_, ps_asg (he B) (hg.run B) hs hw h1, fun D σ H ρ R p => by
  refine ⟨ρ, R, ?_⟩
  unfold sAsg at p
  cases e : d ρ with
  | ok m =>
    simp only [e] at p
    intro v H' s r
    by_cases n : noOwn vs ρ = true
    · rw [if_pos n] at p
      refine ⟨ρ, m, R.grow s, r, n, ?_⟩
      cases e2 : g m ρ with
      | none => rw [e2] at p; exact p.elim
      | some ρ1 => rw [e2] at p; exact fun σ' R' _ => p σ' H' R'
    · rw [if_neg n] at p; exact p.elim
  | ex c => rw [e] at p; exact fun cls dd H' s z => p cls dd σ H' (R.grow s) z
  | no => rw [e] at p; exact p⟩
end

/-! ### for -/
def forL (live : List Bool) (vs : List Nat) (g : GD) (b : SD) : List MV → Rho → SR
  | [], ρ => .nx ρ
  | m :: ms, ρ => if noOwn vs ρ then (match g m ρ with
    | none => .no
    | some ρ1 => match b ρ1 with
      | .nx ρ2 => forL live vs g b ms (kill live ρ2)
      | .ct ρ2 => forL live vs g b ms (kill live ρ2)
      | .bk ρ2 => .nx (kill live ρ2)
      | .rt m => .rt m
      | .ex c ρ2 => .ex c ρ2
      | .no => .no) else .no
def sFor (live : List Bool) (vs : List Nat) (it : ID) (g : GD) (b : SD) : SD := fun ρ => match it ρ with
  | .ok ms => forL live vs g b ms (kill live ρ)
  | .ex c => .ex c ρ
  | .no => .no
section
variable {T : Tb} {X : Cx} {W : WX} {vs : List Nat} {pos : Pos}
theorem SSs.any {l : List Stmt} {d : SD} (h : SSs T X W l d) : PSs X l (fun D σ H => ∃ B, tS X.K T B W d D σ H) := ⟨fun pins s σ H D I ⟨B, q⟩ => (h B).run pins s σ H D I q⟩
theorem SG.any {e : Expr} {d : GD} (h : SG T X e d vs) : PG X e (fun v σ H Q => ∃ B, tG X.K T B vs d v σ H Q) := ⟨fun pins s σ H v u Q I r ⟨B, q⟩ => (h.run B).run pins s σ H v u Q I r q⟩
theorem same_cut {σ : L2.St} {ρ : Rho} {H H' : Hp} (s : Same (cutH σ ρ H) H') {a : Addr} {o : HO} (n : ¬ OwnAt σ ρ a) (h : H a = some o) : H' a = some o := s a o (cutH_some.mpr ⟨n, h⟩)
theorem RS.retCut {K : PySem.W.Frag} {B : Bs} {σ : L2.St} {H H' : Hp} {ρ : Rho} (R : RS K T B σ H ρ) (s : Same (cutH σ ρ H) H') : Same B.H0 H' := fun a o h => same_cut s (fun q => by rw [(R.owned q).1] at h; cases h) (R.same a o h)
theorem ss_for {tg iter : Expr} {body : List Stmt} {it : ID} {g : GD} {b : SD} (live : List Bool) (hp : PassesOwn (model X.prog X.w) X.A X.env X.xe) (hc : X.calm = true) (hi : SI T X W tg iter it) (hg : SG T X tg g vs) (hb : SSs T X W body b)
    (hs : ∀ x, foldedSetIterable iter X.env x = pure x := by intro _; rfl) : SS T X W (.For tg iter body [] pos) (sFor live vs it g b) := .mk fun B => ⟨_, ps_for hp hc (hi B) hg.any hb.any hs, fun D σ H ρ R p => by
  refine ⟨ρ, R, ?_⟩
  unfold sFor at p
  cases e : it ρ with
  | ex c => rw [e] at p; exact fun cls dd H' s z => p cls dd σ H' (R.grow s) z
  | no => rw [e] at p; exact p
  | ok ms =>
    rw [e] at p
    intro J H1 s1 io
    have R1 := R.grow s1
    let B' := B.cut σ ρ H1 R1.cutG
    have R1' : RS X.K T B' σ H1 (kill live ρ) := R1.toCut.kill live
    refine ⟨fun i m σ' H' => m = ms.length - i ∧ i ≤ ms.length ∧ ∃ ρ', RS X.K T B' σ' H' ρ' ∧ PostS X.K T B W D (forL live vs g b (ms.drop i) ρ'), ⟨ms.length, by simp, Nat.zero_le _, _, R1', p⟩, ?_⟩
    rintro i m σ' H' ⟨rfl, hi, ρ', R', p'⟩
    by_cases hlt : i < ms.length
    · refine .inr ⟨io.go H' R'.same i hlt, fun σ2 H2 => ∃ ρ2, RS X.K T B' σ2 H2 ρ2 ∧ PostS X.K T B W D (forL live vs g b (ms.drop (i + 1)) (kill live ρ2)), fun σ2 H2 ⟨ρ2, R2, p2⟩ => ⟨_, by omega, rfl, hlt, _, R2.kill live, p2⟩, fun x H2 y => ?_⟩
      obtain ⟨mm, hm, s2, rx⟩ := io.yld H' R'.same i x H2 y hlt
      have ed : ms.drop i = mm :: ms.drop (i + 1) := by
        rw [List.drop_eq_getElem_cons hlt]
        rw [List.getElem?_eq_getElem hlt] at hm
        cases hm; rfl
      rw [ed] at p'
      unfold forL at p'
      by_cases no : noOwn vs ρ' = true
      · rw [if_pos no] at p'
        have R2 := R'.grow s2
        refine ⟨B', ρ', mm, R2, ?_, no, ?_⟩
        · exact R1.later R2 (P := fun a => Pf B σ ρ a ∧ H1 a ≠ none) (fun a q => ⟨q.1.1, q.1.2, q.2⟩) (Same.refl _) rx
        · cases eg : g mm ρ' with
          | none => rw [eg] at p'; exact p'.elim
          | some ρ3 =>
            rw [eg] at p'
            intro σ3 R3 _
            refine ⟨B', tS_iff.mpr ⟨ρ3, R3, ?_⟩⟩
            cases eb : b ρ3 with
            | nx ρ4 => simp only [eb] at p'; exact fun σ4 H4 R4 => ⟨ρ4, R4, p'⟩
            | ct ρ4 => simp only [eb] at p'; exact fun σ4 H4 R4 => ⟨ρ4, R4, p'⟩
            | bk ρ4 => simp only [eb] at p'; exact fun σ4 H4 R4 => p' σ4 H4 (R1.ofCut (R4.kill live))
            | rt w => simp only [eb] at p'; exact fun v H4 s4 r4 => p' v H4 (R1.retCut s4) r4
            | ex c ρ4 => simp only [eb] at p'; exact fun cls dd σ4 H4 R4 z => p' cls dd σ4 H4 (R1.ofCut R4) z
            | no => simp only [eb] at p'; exact p'.elim
      · rw [if_neg no] at p'; exact p'.elim
    · have e : i = ms.length := by omega
      subst e
      rw [List.drop_length] at p'
      exact .inl ⟨io.stop H' R'.same _ (Nat.le_refl _), p' σ' H' (R1.ofCut R')⟩⟩

/-! ### while -/
def whileL (live : List Bool) (c : TD) (b : SD) : Nat → Rho → SR
  | 0, _ => .no
  | n + 1, ρ => match c ρ with
    | .ok true => (match b ρ with
      | .nx ρ2 => whileL live c b n (kill live ρ2)
      | .ct ρ2 => whileL live c b n (kill live ρ2)
      | .bk ρ2 => .nx (kill live ρ2)
      | .rt m => .rt m
      | .ex c ρ2 => .ex c ρ2
      | .no => .no)
    | .ok false => .nx ρ
    | .ex k => .ex k ρ
    | .no => .no
/-- n: turns enough -/
def sWhile (n : Nat) (live : List Bool) (c : TD) (b : SD) : SD := fun ρ => whileL live c b n (kill live ρ)
theorem ss_while {c : Expr} {body : List Stmt} {tc : TD} {b : SD} (n : Nat) (live : List Bool) (hp : PassesOwn (model X.prog X.w) X.A X.env X.xe) (hc : ST T X W c tc) (hb : SSs T X W body b) : SS T X W (.While c body [] pos) (sWhile n live tc b) := .mk fun B => ⟨_, ps_while hp (hc B) (hb B), fun D σ H ρ R p => by
  refine ⟨fun m σ' H' => ∃ ρ', RS X.K T B σ' H' ρ' ∧ PostS X.K T B W D (whileL live tc b m ρ'), ⟨n, _, R.kill live, p⟩, ?_⟩
  rintro m σ' H' ⟨ρ', R', p'⟩
  refine ⟨ρ', R', ?_⟩
  cases m with
  | zero => exact p'.elim
  | succ m =>
    unfold whileL at p'
    cases ec : tc ρ' with
    | ex k => rw [ec] at p'; exact fun cls dd H2 s z => p' cls dd σ' H2 (R'.grow s) z
    | no => rw [ec] at p'; exact p'.elim
    | ok t =>
      rw [ec] at p'
      intro H2 s2
      cases t with
      | false => exact iteF (p' σ' H2 (R'.grow s2))
      | true =>
        refine iteT ⟨fun σ3 H3 => ∃ ρ3, RS X.K T B σ3 H3 ρ3 ∧ PostS X.K T B W D (whileL live tc b m ρ3), fun σ3 H3 q => ⟨m, Nat.lt_succ_self m, q⟩, tS_iff.mpr ⟨ρ', R'.grow s2, ?_⟩⟩
        cases eb : b ρ' with
        | nx ρ4 => simp only [eb] at p'; exact fun σ4 H4 R4 => ⟨_, R4.kill live, p'⟩
        | ct ρ4 => simp only [eb] at p'; exact fun σ4 H4 R4 => ⟨_, R4.kill live, p'⟩
        | bk ρ4 => simp only [eb] at p'; exact fun σ4 H4 R4 => p' σ4 H4 (R4.kill live)
        | rt w => simp only [eb] at p'; exact p'
        | ex c ρ4 => simp only [eb] at p'; exact p'
        | no => simp only [eb] at p'; exact p'.elim⟩
end
end Mi

set_option Elab.async false
set_option linter.all false
set_option maxRecDepth 100000
/-! Mi, part 8: list comprehensions. -/
namespace Mi
open PySem PySem.Spec L2

def wipeR (ρ : Rho) : List Nat → Rho
  | [] => ρ
  | v :: vs => (wipeR ρ vs).set v .un
def lcL (vs : List Nat) (g : GD) (t : TD) (d : ED) : List MV → Rho → Option (List MV)
  | [], _ => some []
  | m :: ms, ρ => match g m (wipeR ρ vs) with
    | none => none
    | some ρ1 => match t ρ1 with
      | .ok true => (match d ρ1 with
        | .ok y => (lcL vs g t d ms ρ).map (y :: ·)
        | _ => none)
      | .ok false => lcL vs g t d ms ρ
      | _ => none
def dLc (vs : List Nat) (it : ID) (g : GD) (t : TD) (d : ED) : ED := fun ρ => (it ρ).bind fun ms => if noOwn vs ρ && decide (ms.length ≤ big) then (match lcL vs g t d ms ρ with
  | some r => .ok (.lst r)
  | none => .no) else .no
def WF : WX := fun _ _ _ _ => False
def yes : TD := fun _ => .ok true
theorem wipeR_get {ρ : Rho} {vs : List Nat} {i : Nat} : (wipeR ρ vs)[i]? = if i ∈ vs then (if i < ρ.length then some Sl.un else none) else ρ[i]? := by
  have hl : ∀ vs, (wipeR ρ vs).length = ρ.length := fun vs => by induction vs with
    | nil => rfl
    | cons v vs ih => simp only [wipeR, List.length_set, ih]
  induction vs with
  | nil => simp [wipeR]
  | cons v vs ih =>
    unfold wipeR
    by_cases e : v = i
    · subst e
      simp only [List.mem_cons, true_or, if_true]
      rw [List.getElem?_set]
      simp only [if_true, hl]
    · rw [List.getElem?_set_ne e, ih]
      have : (i ∈ v :: vs) ↔ i ∈ vs := by
        simp only [List.mem_cons]
        exact ⟨fun h => h.elim (fun z => absurd z.symm e) id, .inr⟩
      simp only [this]
theorem wipeR_length {ρ : Rho} {vs : List Nat} : (wipeR ρ vs).length = ρ.length := by
  induction vs with
  | nil => rfl
  | cons v vs ih => simp only [wipeR, List.length_set, ih]
theorem wipeR_no {ρ : Rho} {vs : List Nat} : noOwn vs (wipeR ρ vs) = true := noOwn_of fun i hi o e => by
  rw [wipeR_get] at e
  simp only [hi, if_true] at e
  split at e <;> cases e
theorem own_wipe {ρ : Rho} {σ : L2.St} {vs : List Nat} (n : noOwn vs ρ = true) (a : Addr) : OwnAt (wipe σ vs) (wipeR ρ vs) a ↔ OwnAt σ ρ a := by
  constructor
  · rintro ⟨i, o, h1, h2⟩
    have hi : i ∉ vs := fun z => noOwn_at wipeR_no z h1
    rw [wipeR_get] at h1
    rw [wipe_get] at h2
    simp only [hi, if_false] at h1 h2
    exact ⟨i, o, h1, h2⟩
  · rintro ⟨i, o, h1, h2⟩
    have hi : i ∉ vs := fun z => noOwn_at n z h1
    exact ⟨i, o, by rw [wipeR_get]; simp only [hi, if_false]; exact h1, by rw [wipe_get]; simp only [hi, if_false]; exact h2⟩
section
variable {K : PySem.W.Frag} {T : Tb} {B : Bs} {σ : L2.St} {H1 H : Hp} {ρ : Rho} {vs : List Nat} {D : Addr}
theorem RS.turnG (R : RS K T B σ H1 ρ) (hD : H1 D = none) (s : Same H1 H) (hH : H D ≠ none) : ∀ a, cutH σ ρ H a = none → B.G a ∧ a ≠ D := fun a h => by
  rcases cutH_none.mp h with o | n
  · refine ⟨B.fr a (R.owned o).1, fun e => ?_⟩
    subst e
    obtain ⟨_, u, hu, _⟩ := R.owned o
    rw [hD] at hu; cases hu
  · exact ⟨B.fr a (R.same.free (s.free n)), fun e => by subst e; exact hH n⟩
/-- a turn's base: everything but what is owned stays; the new list is nobody's -/
noncomputable def Bs.turn (B : Bs) (σ : L2.St) (ρ : Rho) (H : Hp) (D : Addr) (hf : ∀ a, cutH σ ρ H a = none → B.G a ∧ a ≠ D) : Bs := ⟨cutH σ ρ H, fun a => B.G a ∧ a ≠ D, hf⟩
theorem RS.turn (R : RS K T B σ H1 ρ) (hD : H1 D = none) (s : Same H1 H) (hH : H D ≠ none) (n : noOwn vs ρ = true) : RS K T (B.turn σ ρ H D (R.turnG hD s hH)) (wipe σ vs) H (wipeR ρ vs) := by
  have kp : Kept H1 H (Pf B σ ρ) (Pf (B.turn σ ρ H D (R.turnG hD s hH)) (wipe σ vs) (wipeR ρ vs)) := ⟨fun a o h _ => s a o h, fun a o h p => ⟨s a o h, ⟨p.1, fun e => by subst e; rw [hD] at h; cases h⟩, fun z => p.2 ((own_wipe n a).mp z)⟩⟩
  refine ⟨by rw [wipe_length, wipeR_length]; exact R.len, cut_same, fun i m h => ?_, fun i m h => ?_, fun i j o o' a h1 h2 h3 h4 => ?_⟩
  · have hi : i ∉ vs := fun z => by rw [wipeR_get] at h; simp only [z, if_true] at h; split at h <;> cases h
    rw [wipeR_get] at h
    rw [wipe_get]
    simp only [hi, if_false] at h ⊢
    obtain ⟨v, e1, e2⟩ := R.val i m h
    exact ⟨v, e1, e2.keep kp⟩
  · have hi : i ∉ vs := fun z => by rw [wipeR_get] at h; simp only [z, if_true] at h; split at h <;> cases h
    rw [wipeR_get] at h
    rw [wipe_get]
    simp only [hi, if_false] at h ⊢
    obtain ⟨a, e1, e2, e3⟩ := R.own i m h
    exact ⟨a, e1, cutH_none.mpr (.inl ⟨i, m, h, e1⟩), e3.keep kp fun o q => s _ _ q⟩
  · have hi : ∀ {i : Nat} {o : MV}, (wipeR ρ vs)[i]? = some (Sl.own o) → i ∉ vs := fun h z => noOwn_at wipeR_no z h
    have a1 := hi h1
    have a2 := hi h2
    rw [wipeR_get] at h1 h2
    rw [wipe_get] at h3 h4
    simp only [a1, a2, if_false] at h1 h2 h3 h4
    exact R.inj i j o o' a h1 h2 h3 h4
end
section
variable {T : Tb} {X : Cx} {W : WX} {pos : Pos}
def STs (T : Tb) (X : Cx) (W : WX) (ifs : List Expr) (d : TD) : Prop := ∀ B, PTs X ifs (tTT X.K T B W d)
theorem _root_.L2.PTs.imp {X : Cx} {e : List Expr} {t t' : TT} (h : PTs X e t) (i : ∀ σ H Q, t' σ H Q → t σ H Q) : PTs X e t' := ⟨fun pins s σ H Q I q => h.run pins s σ H Q I (i σ H Q q)⟩
theorem sts_nil : STs T X W [] yes := fun B => pts_nil.imp fun σ H Q ⟨ρ, R, q⟩ => q H (Same.refl _)
theorem sts_one {c : Expr} {d : TD} (h : ST T X W c d) : STs T X W [c] d := fun B => pts_one (h B)
/-- the new list and its items -/
theorem acc_grow {K : PySem.W.Frag} {C : Str → Addr} {H H' : Hp} {P : Addr → Prop} {D : Addr} {accm : List MV} {acc : List V} {m : MV} {y : V} {xs : List V} (s : Same H H') (hd : H' D = some (.lst xs)) (r : RlL K C H (fun a => P a ∧ a ≠ D) accm acc) (ry : Rl K C H' (fun a => P a ∧ a ≠ D) m y) (zs : List V) :
    RlL K C (upd H' D (.lst zs)) (fun a => P a ∧ a ≠ D) (accm ++ [m]) (acc ++ [y]) := by
  have kp : Kept H' (upd H' D (.lst zs)) (fun a => P a ∧ a ≠ D) (fun a => P a ∧ a ≠ D) := ⟨fun a o h t => by
    rw [upd_ne (fun e => by
      subst e; rw [hd] at h; cases h
      rcases t with ⟨_, t⟩ | ⟨_, _, t⟩ <;> cases t)]; exact h, fun a o h p => ⟨by rw [upd_ne p.2]; exact h, p⟩⟩
  exact (RlL.keep kp _ (r.same s)).append ⟨y, [], rfl, ry.keep kp, rfl⟩
theorem gk_var {vs : List Nat} {i : Nat} (h : i ∈ vs) : ∀ m ρ ρ', gVar i m ρ = some ρ' → GStep vs ρ ρ' := fun m ρ ρ' e => by cases e; exact .set h
theorem gks_nil {vs : List Nat} : ∀ m ρ ρ', gsNil m ρ = some ρ' → GStep vs ρ ρ' := fun m ρ ρ' e => by
  cases m with
  | nil => cases e; exact .refl
  | cons _ _ => cases e
theorem gks_cons {vs : List Nat} {g : GD} {r : GsD} (h1 : ∀ m ρ ρ', g m ρ = some ρ' → GStep vs ρ ρ') (h2 : ∀ m ρ ρ', r m ρ = some ρ' → GStep vs ρ ρ') : ∀ m ρ ρ', gsCons g r m ρ = some ρ' → GStep vs ρ ρ' := fun m ρ ρ' e => by
  cases m with
  | nil => cases e
  | cons m ms =>
    simp only [gsCons] at e
    cases e2 : g m ρ with
    | none => rw [e2] at e; cases e
    | some ρ1 => rw [e2] at e; exact (h1 _ _ _ e2).trans (h2 _ _ _ e)
theorem gk_tup {vs : List Nat} {r : GsD} {n : Nat} (h : ∀ m ρ ρ', r m ρ = some ρ' → GStep vs ρ ρ') : ∀ m ρ ρ', gTups n r m ρ = some ρ' → GStep vs ρ ρ' := fun m ρ ρ' e => by
  unfold gTups at e
  split at e <;> (try split at e) <;> first | exact h _ _ _ e | cases e
theorem lc_sem {K : PySem.W.Frag} {B : Bs} {σ : L2.St} {H1 : Hp} {ρ : Rho} {vs : List Nat} {J : It} {ms r : List MV} {g : GD} {t : TD} {d : ED} {D : Addr} {Q : VK} (keep : ∀ m ρ ρ', g m ρ = some ρ' → GStep vs ρ ρ') (R1 : RS K T B σ H1 ρ)
    (io : ItOk K T H1 (fun a => Pf B σ ρ a ∧ H1 a ≠ none) J ms) (hD : H1 D = none) (no : noOwn vs ρ = true) (hbig : ms.length ≤ big) (el : lcL vs g t d ms ρ = some r)
    (q : ∀ H' zs, Same H1 H' → H' D = some (.lst zs) → RlL K T.C H' (fun a => Pf B σ ρ a ∧ a ≠ D) r zs → Q (.ref D) H') :
    ∃ W : Nat → Nat → Hp → Prop, (∃ m, W 0 m (upd H1 D (.lst []))) ∧ ∀ i m H, W i m H →
      (J.stop i H ∧ Q (.ref D) H) ∨ (J.go i H ∧ ∃ Nx : Hp → Prop, (∀ H', Nx H' → ∃ m', m' < m ∧ W (i + 1) m' H') ∧ ∀ x H', J.yld i H x H' → (∃ B, tG K T B vs g x (wipe σ vs) H' fun σ2 H2 => wipe σ2 vs = wipe σ vs ∧ ∃ B, tTT K T B WF t σ2 H2 fun b H3 =>
        if b = true then ∃ B, tE K T B WF d σ2 H3 fun y H4 => ∃ acc, H4 D = some (.lst acc) ∧ acc.length < sizeLine ∧ Nx (upd H4 D (.lst (acc ++ [y]))) else Nx H3)) := by
  refine ⟨fun i m H' => m = ms.length - i ∧ i ≤ ms.length ∧ ∃ accm acc r', acc.length ≤ i ∧ Same H1 H' ∧ H' D = some (.lst acc) ∧ RlL K T.C H' (fun a => Pf B σ ρ a ∧ a ≠ D) accm acc ∧
    lcL vs g t d (ms.drop i) ρ = some r' ∧ r = accm ++ r', ⟨ms.length, by simp, Nat.zero_le _, [], [], r, Nat.le_refl _, same_upd hD, upd_same, rfl, by simpa using el, by simp⟩, ?_⟩
  rintro i m H ⟨rfl, hi, accm, acc, r', hlen, s, hd, ra, el', er⟩
  by_cases hlt : i < ms.length
  · refine .inr ⟨io.go H s i hlt, fun H' => i + 1 ≤ ms.length ∧ ∃ accm acc r', acc.length ≤ i + 1 ∧ Same H1 H' ∧ H' D = some (.lst acc) ∧ RlL K T.C H' (fun a => Pf B σ ρ a ∧ a ≠ D) accm acc ∧
      lcL vs g t d (ms.drop (i + 1)) ρ = some r' ∧ r = accm ++ r', fun H' z => ⟨_, by omega, rfl, z.1, z.2⟩, fun x H2 y => ?_⟩
    obtain ⟨mm, hm, s2, rx⟩ := io.yld H s i x H2 y hlt
    have ed : ms.drop i = mm :: ms.drop (i + 1) := by
      rw [List.drop_eq_getElem_cons hlt]
      rw [List.getElem?_eq_getElem hlt] at hm
      cases hm; rfl
    rw [ed] at el'
    unfold lcL at el'
    have hd2 := s2 _ _ hd
    have sH := s.trans s2
    have hn2 : H2 D ≠ none := by rw [hd2]; exact fun z => nomatch z
    have Rt := R1.turn hD sH hn2 no
    cases eg : g mm (wipeR ρ vs) with
    | none => rw [eg] at el'; cases el'
    | some ρ1 =>
      simp only [eg] at el'
      have st := keep _ _ _ eg
      refine ⟨_, wipeR ρ vs, mm, Rt, rx.imp fun a o h p => ⟨⟨p.1.1, fun e => by subst e; exact p.2 hD⟩, fun z => p.1.2 ((own_wipe no a).mp z)⟩, wipeR_no, ?_⟩
      rw [eg]
      intro σ2 Rg w2
      have wv : wipe (wipe σ vs) vs = wipe σ vs := wipe_eq (wipe_length _ _) fun j hj => by rw [wipe_get]; simp only [hj, if_false]
      refine ⟨w2.trans wv, _, ρ1, Rg, ?_⟩
      have pf : ∀ a, Pf (B.turn σ ρ H2 D (R1.turnG hD sH hn2)) σ2 ρ1 a → Pf B σ ρ a ∧ a ≠ D := fun a p => ⟨⟨p.1.1, fun z => p.2 ((st.own wipeR_no w2 a).mpr ((own_wipe no a).mpr z))⟩, p.1.2⟩
      cases et : t ρ1 with
      | ex c => rw [et] at el'; cases el'
      | no => rw [et] at el'; cases el'
      | ok b =>
        intro H3 s3
        cases b with
        | false =>
          simp only [et] at el'
          exact iteF ⟨hlt, accm, acc, r', Nat.le_succ_of_le hlen, sH.trans s3, s3 _ _ hd2, (ra.same s2).same s3, el', er⟩
        | true =>
          simp only [et] at el'
          refine iteT ⟨_, ρ1, Rg.grow s3, ?_⟩
          cases ee : d ρ1 with
          | ex c => rw [ee] at el'; cases el'
          | no => rw [ee] at el'; cases el'
          | ok ym =>
            simp only [ee, Option.map_eq_some_iff] at el'
            obtain ⟨r2, e2, e3⟩ := el'
            intro y' H4 s4 ry
            have hd4 := s4 _ _ (s3 _ _ hd2)
            refine ⟨acc, hd4, Nat.lt_of_lt_of_le (Nat.lt_of_le_of_lt hlen hlt) (big_line hbig), hlt, accm ++ [ym], acc ++ [y'], r2, by simp; omega, ?_, upd_same, ?_, e2, by rw [er, ← e3]; simp⟩
            · have s14 := (sH.trans s3).trans s4
              exact fun a o h => by rw [upd_ne (fun e => by subst e; rw [hD] at h; cases h)]; exact s14 a o h
            · exact acc_grow ((s2.trans s3).trans s4) hd4 ra (ry.imp fun a _ _ p => pf a p) _
  · have e : i = ms.length := by omega
    subst e
    rw [List.drop_length] at el'
    cases el'
    refine .inl ⟨io.stop H s _ (Nat.le_refl _), q H acc s hd ?_⟩
    rw [er, List.append_nil]; exact ra
theorem lc_imp {B : Bs} {it : ID} {g : GD} {t : TD} {d : ED} {vs : List Nat} (keep : ∀ m ρ ρ', g m ρ = some ρ' → GStep vs ρ ρ') (σ : L2.St) (H : Hp) (Q : VK) (h : tN X.K T B W (dLc vs it g t d) σ H Q) :
    tLc (tIc X.K T B W it) (fun v σ H Q => ∃ B, tG X.K T B vs g v σ H Q) (fun σ H Q => ∃ B, tTT X.K T B WF t σ H Q) (fun σ H Q => ∃ B, tE X.K T B WF d σ H Q) vs σ H Q := by
  obtain ⟨ρ, R, q⟩ := h
  refine ⟨ρ, R, ?_⟩
  unfold dLc at q
  cases e : it ρ with
  | ex c => rw [e] at q; exact q
  | no => rw [e] at q; exact q
  | ok ms =>
    simp only [e, Rs.bind_ok] at q
    intro J H1 s1 io D hD
    have R1 := R.grow s1
    by_cases c : (noOwn vs ρ && decide (ms.length ≤ big)) = true
    · rw [if_pos c] at q
      simp only [Bool.and_eq_true, decide_eq_true_eq] at c
      obtain ⟨no, hbig⟩ := c
      cases el : lcL vs g t d ms ρ with
      | none => rw [el] at q; exact q.elim
      | some r =>
        rw [el] at q
        exact lc_sem keep R1 io hD no hbig el fun H' zs s hz rz => q D H' (s1.trans s) (s1.free hD) ⟨zs, hz, rz⟩
    · rw [if_neg c] at q; exact q.elim
section
variable {elt tg iter : Expr} {ifs : List Expr} {scope : Scope} {it : ID} {g : GD} {t : TD} {d : ED}
theorem sn_lc (own : List (Str × Nat)) (vs : List Nat) (hv : own.map (·.2) = vs) (hc : X.calm = true) (hN : X.N.Nodup) (hi : SIc T X W tg iter it) (ok : BlkOk X.N X.env.scope scope own)
    (keep : ∀ m ρ ρ', g m ρ = some ρ' → GStep vs ρ ρ')
    (hg : ∀ (s : Shared) (H : Hp) (C : Addr) (cl : List (Str × Addr)) (fp : List Addr), SG T (X.blk s H scope (compEnvC scope cl C X.env) fp) tg g vs)
    (ht : ∀ (s : Shared) (H : Hp) (C : Addr) (cl : List (Str × Addr)) (fp : List Addr), STs T (X.blk s H scope (compEnvC scope cl C X.env) fp) WF ifs t)
    (he : ∀ (s : Shared) (H : Hp) (C : Addr) (cl : List (Str × Addr)) (fp : List Addr), SE T (X.blk s H scope (compEnvC scope cl C X.env) fp) WF elt d) (hs : ∀ x, foldedSetIterable iter X.env x = pure x := by intro _; rfl) :
    SN T X W (.ListComp elt [⟨tg, iter, ifs, 0⟩] scope pos) (dLc vs it g t d) := fun B => by
  subst hv
  exact (pe_lc hc hN (hi B) ok (fun s H C cl fp => (hg s H C cl fp).any) (fun s H C cl fp => ⟨fun pins s1 σ H1 Q I ⟨B1, q⟩ => (ht s H C cl fp B1).run pins s1 σ H1 Q I q⟩)
      (fun s H C cl fp => ⟨fun pins s1 σ H1 Q I ⟨B1, q⟩ => (he s H C cl fp B1).run pins s1 σ H1 Q I q⟩) hs).imp fun σ H Q q => lc_imp keep σ H Q q
theorem ss_ownLc (i : Nat) {y : Str} {py spos : Pos} (own : List (Str × Nat)) (vs : List Nat) (hv : own.map (·.2) = vs) (hc : X.calm = true) (hN : X.N.Nodup) (hi : SIc T X W tg iter it) (ok : BlkOk X.N X.env.scope scope own)
    (keep : ∀ m ρ ρ', g m ρ = some ρ' → GStep vs ρ ρ')
    (hg : ∀ (s : Shared) (H : Hp) (C : Addr) (cl : List (Str × Addr)) (fp : List Addr), SG T (X.blk s H scope (compEnvC scope cl C X.env) fp) tg g vs)
    (ht : ∀ (s : Shared) (H : Hp) (C : Addr) (cl : List (Str × Addr)) (fp : List Addr), STs T (X.blk s H scope (compEnvC scope cl C X.env) fp) WF ifs t)
    (he : ∀ (s : Shared) (H : Hp) (C : Addr) (cl : List (Str × Addr)) (fp : List Addr), SE T (X.blk s H scope (compEnvC scope cl C X.env) fp) WF elt d) (hs : ∀ x, foldedSetIterable iter X.env x = pure x := by intro _; rfl)
    (hy : X.N[i]? = some y := by rfl) (hyl : X.env.scope.names.lookup y = some .local := by rfl) (hsw : swapsWith (.ListComp elt [⟨tg, iter, ifs, 0⟩] scope pos) (some (.Name y py)) spos.line X.env = pure true := by exact sw_true rfl rfl rfl rfl) :
    SS T X W (.Assign [.Name y py] (.ListComp elt [⟨tg, iter, ifs, 0⟩] scope pos) spos) (sOwn i (dLc vs it g t d)) := .mk fun B => ⟨tAsg (tLc (tIc X.K T B W it) (fun v σ H Q => ∃ B, tG X.K T B vs g v σ H Q) (fun σ H Q => ∃ B, tTT X.K T B WF t σ H Q) (fun σ H Q => ∃ B, tE X.K T B WF d σ H Q) vs) (gName i), by
  subst hv
  exact ps_setLc hc hN hy hyl hsw (hi B) ok (fun s H C cl fp => (hg s H C cl fp).any) (fun s H C cl fp => ⟨fun pins s1 σ H1 Q I ⟨B1, q⟩ => (ht s H C cl fp B1).run pins s1 σ H1 Q I q⟩)
      (fun s H C cl fp => ⟨fun pins s1 σ H1 Q I ⟨B1, q⟩ => (he s H C cl fp B1).run pins s1 σ H1 Q I q⟩) hs, fun D σ H ρ R p => by
  subst hv
  refine lc_imp keep σ H _ ⟨ρ, R, ?_⟩
  unfold sOwn at p
  cases e : dLc (own.map (·.2)) it g t d ρ with
  | ok m => rw [e] at p; exact fun a H' s n o => p _ H' (R.setOwn s n o)
  | ex c => rw [e] at p; exact fun cls dd H' s z => p cls dd σ H' (R.grow s) z
  | no => rw [e] at p; exact p⟩
end
end
end Mi

set_option Elab.async false
set_option linter.all false
set_option maxRecDepth 100000
/-! Mi, part 9: defs and calls. -/
namespace Mi
open PySem PySem.Spec L2

/-- a def: n parameters, m further names -/
def fnD (n m : Nat) (b : SD) : FD := fun ms => if ms.length = n then (match b (ms.map .val ++ List.replicate m .un) with
  | .nx _ => .ok .non
  | .rt v => .ok v
  | .ex c _ => .ex c
  | _ => .no) else .no
def spF (K : PySem.W.Frag) (T : Tb) (g : FD) : Sp := fun vs H Q E => ∃ ms P, RlL K T.C H P ms vs ∧ (match g ms with
  | .ok m => ∀ v H', Same H H' → Rl K T.C H' (Up H P) m v → Q v H'
  | .ex c => ∀ cls dd H', Same H H' → T.exc c cls → E cls dd H'
  | .no => False)
abbrev FnS (P : Program) (w : World) (K : PySem.W.Frag) (mg : Str → Option Value) (base : Heap) (T : Tb) (k : Nat) (f : Addr) (fd : FuncData) (ps : List Str) (g : FD) : Prop := FnOk P w K mg base (L2.CX P w) k f fd ps (spF K T g)
abbrev WB (E : XK) : WX := fun cls d _ H => E cls d H
theorem val_get {ms : List MV} {k i : Nat} {s : Sl} (h : (ms.map Sl.val ++ List.replicate k Sl.un)[i]? = some s) : (∃ m, s = .val m ∧ ms[i]? = some m) ∨ s = .un := by
  rw [List.getElem?_append] at h
  split at h
  · rw [List.getElem?_map] at h
    cases e : ms[i]? with
    | none => rw [e] at h; cases h
    | some m => rw [e] at h; cases h; exact .inl ⟨m, rfl, rfl⟩
  · rw [List.getElem?_replicate] at h
    split at h <;> cases h
    exact .inr rfl
theorem start_rs {K : PySem.W.Frag} {T : Tb} {H : Hp} {P : Addr → Prop} {ms : List MV} {vs : List V} {N : List Str} {k : Nat} (r : RlL K T.C H P ms vs) (hk : N.length - ms.length = k) :
    RS K T ⟨H, Up H P, fun a h => .inr h⟩ (L2.start N vs) H (ms.map .val ++ List.replicate k .un) := by
  have no : ∀ (i : Nat) (o : MV), (ms.map Sl.val ++ List.replicate k Sl.un)[i]? ≠ some (.own o) := fun i o h => by
    rcases val_get h with ⟨m, e, _⟩ | e <;> cases e
  refine ⟨by simp [L2.start, ← r.length, hk], Same.refl _, fun i m h => ?_, fun i m h => absurd h (no i m), fun i _ o _ a h => absurd h (no i o)⟩
  rcases val_get h with ⟨m', e, hm⟩ | e
  · cases e
    obtain ⟨x, h1, h2⟩ := r.get hm
    refine ⟨x, ?_, h2.imp fun a _ _ p => ⟨.inl p, fun ⟨j, o, z, _⟩ => no j o z⟩⟩
    have hi : i < (vs.map some).length := by
      rw [List.length_map, ← r.length]
      exact (List.getElem?_eq_some_iff.mp hm).1
    unfold L2.start
    rw [List.getElem?_append_left hi, List.getElem?_map, h1]
    rfl
  · cases e
section
variable {P : Program} {w : World} {K : PySem.W.Frag} {mg : Str → Option Value} {base : Heap} {T : Tb} {x qual : Str} {params : Arguments} {body : List Stmt} {scope : Scope} {dvs : List V} {kws : List (Str × V)} {f : Addr} {fd : FuncData}
theorem fn_def {N ps : List Str} {k : Nat} {b : SD} (F : FunD K x qual params body scope dvs kws f fd) (S : FnScope N ps scope) (hn : ps.length ≤ N.length := by decide)
    (hbody : ∀ (cdv : Value) (A : Around) (outer : List Env) (s : Shared) (H : Hp) (E : XK), Room k (A.deeper (PyProof.Rows.envOfC qual scope s.heap.objs.size f cdv)) → Takes (cxOf (L2.CX P w) P w K mg base N qual scope f cdv A outer s H E) (WB E) →
      SSs T (cxOf (L2.CX P w) P w K mg base N qual scope f cdv A outer s H E) (WB E) body b) : FnS P w K mg base T (k + 1) f fd ps (fnD ps.length (N.length - ps.length) b) := by
  have key : ∀ {ms : List MV} {vs : List V} {H : Hp} {Q : VK} {E : XK} {P : Addr → Prop}, (match fnD ps.length (N.length - ps.length) b ms with
      | .ok m => ∀ v H', Same H H' → Rl K T.C H' (Up H P) m v → Q v H'
      | .ex c => ∀ cls dd H', Same H H' → T.exc c cls → E cls dd H'
      | .no => False) → ms.length = ps.length := fun {ms vs H Q E P} q => by
    by_cases hl : ms.length = ps.length
    · exact hl
    · unfold fnD at q; rw [if_neg hl] at q; exact q.elim
  refine F.ok S (fun vs H Q E ⟨ms, P, r, q⟩ => ?_) fun cdv A outer s H vs Q E hr ⟨ms, P, r, q⟩ => ?_
  · rw [← r.length]; exact key (vs := vs) q
  · have hl := key (vs := vs) q
    refine ⟨_, hbody cdv A outer s H E hr (takes_of rfl rfl rfl rfl) ⟨H, Up H P, fun a h => .inr h⟩, tS_iff.mpr ⟨_, start_rs r (k := N.length - ps.length) (by rw [hl]), ?_⟩⟩
    · unfold fnD at q
      rw [if_pos hl] at q
      · cases e : b (ms.map .val ++ List.replicate (N.length - ps.length) .un) with
        | nx ρ' => rw [e] at q; exact fun σ' H' R' => q .non H' R'.same rfl
        | rt m => rw [e] at q; exact fun v H' s r => q v H' s r
        | ex c ρ' => rw [e] at q; exact fun cls dd σ' H' R' z => q cls dd H' R'.same z
        | bk ρ' => rw [e] at q; exact q.elim
        | ct ρ' => rw [e] at q; exact q.elim
        | no => rw [e] at q; exact q.elim
end
section
variable {T : Tb} {X : Cx} {W : WX} {k : Nat} {f : Addr} {fd : FuncData} {ps : List Str} {g : FD} {dvs : List V} {ds : List Value} {dms : List MV} {x : Str} {p pos : Pos} {e : Expr} {es : List Expr} {da : AD}
theorem paired_rl {K : PySem.W.Frag} {C : Str → Addr} {H : Hp} {P G : Addr → Prop} {ms : List MV} {vs : List V} (h : Paired (Ra K C H P G) ms vs) (g : ∀ a, P a → G a) : RlL K C H G ms vs := by
  induction h with
  | nil => rfl
  | cons a _ ih => exact ⟨_, _, rfl, a.rl g, ih⟩
/-- the defaults -/
def DefM (X : Cx) (T : Tb) (dms : List MV) (dvs : List V) (ds : List Value) : Prop := (∀ H P, RlL X.K T.C H P dms dvs) ∧ Vals dvs ds
theorem defm0 : DefM X T [] [] [] := ⟨fun _ _ => rfl, .nil⟩
def withD (g : FD) (dms : List MV) : FD := fun ms => g (ms ++ dms)
theorem withD_nil : withD g [] = g := funext fun ms => by unfold withD; rw [List.append_nil]
/-- f(..), every argument full: so is the answer -/
theorem se_callD (F : FnS X.prog X.w X.K X.mg X.base T k f fd ps g) (hr : Room k X.A) (hm : X.mg x = some (.ref f)) (hk : PySem.W.keepIn X.K (.ref f) = true) (hb : Binds X.K fd ps ds) (hd : DefM X T dms dvs ds) (tk : Takes X W)
    (ha : SA T X W true (e :: es) da) (hg : Gl X x := by rfl) (hdb : (x == ("__debug__" : Str)) = false := by decide) (he : starEach (e :: es) X.env = (false, eval e X.env) :: starEach es X.env := by rfl) (hpl : (backTo pos (starEach es X.env)).any (·.1) = false := by rfl) :
    SE T X W (.Call (.Name x p) (e :: es) [] pos) (dCall (withD g dms) da) := fun B =>
  (pe_callSD F hr hg hm hk hb hd.2 (fun σ => passAt tk σ) (ha B) hdb he hpl).imp fun σ H Q ⟨ρ, R, q⟩ => by
    refine ⟨ρ, R, ?_⟩
    unfold dCall withD at q
    cases e : da ρ with
    | ex c => rw [e] at q; exact q
    | no => rw [e] at q; exact q
    | ok ms =>
      simp only [e, Rs.bind_ok] at q
      intro vs H1 s1 r1
      refine ⟨ms ++ dms, Pf B σ ρ, (show RlL X.K T.C H1 (Pf B σ ρ) ms vs from r1).append (hd.1 _ _), ?_⟩
      cases e2 : g (ms ++ dms) with
      | ok m => rw [e2] at q; exact fun v H' s r => q v H' (s1.trans s) ((R.grow s1).up r)
      | ex c => rw [e2] at q; exact fun cls dd H' s z => q cls dd H' (s1.trans s) z
      | no => rw [e2] at q; exact q
theorem se_call (F : FnS X.prog X.w X.K X.mg X.base T k f fd ps g) (hr : Room k X.A) (hm : X.mg x = some (.ref f)) (hk : PySem.W.keepIn X.K (.ref f) = true) (hb : Binds X.K fd ps []) (tk : Takes X W)
    (ha : SA T X W true (e :: es) da) (hg : Gl X x := by rfl) (hdb : (x == ("__debug__" : Str)) = false := by decide) (he : starEach (e :: es) X.env = (false, eval e X.env) :: starEach es X.env := by rfl) (hpl : (backTo pos (starEach es X.env)).any (·.1) = false := by rfl) :
    SE T X W (.Call (.Name x p) (e :: es) [] pos) (dCall g da) := fun B => (se_callD F hr hm hk hb defm0 tk ha hg hdb he hpl B).imp fun σ H Q q => by
  rw [withD_nil]; exact q
/-- arguments that may be names' own: the answer must hold no list -/
def flatOnly (g : FD) : FD := fun ms => (g ms).bind fun m => if flatM m then .ok m else .no
theorem se_callFD (F : FnS X.prog X.w X.K X.mg X.base T k f fd ps g) (hr : Room k X.A) (hm : X.mg x = some (.ref f)) (hk : PySem.W.keepIn X.K (.ref f) = true) (hb : Binds X.K fd ps ds) (hd : DefM X T dms dvs ds) (tk : Takes X W)
    (ha : SA T X W false (e :: es) da) (hg : Gl X x := by rfl) (hdb : (x == ("__debug__" : Str)) = false := by decide) (he : starEach (e :: es) X.env = (false, eval e X.env) :: starEach es X.env := by rfl) (hpl : (backTo pos (starEach es X.env)).any (·.1) = false := by rfl) :
    SE T X W (.Call (.Name x p) (e :: es) [] pos) (dCall (flatOnly (withD g dms)) da) := fun B =>
  (pe_callSD F hr hg hm hk hb hd.2 (fun σ => passAt tk σ) (ha B) hdb he hpl).imp fun σ H Q ⟨ρ, R, q⟩ => by
    refine ⟨ρ, R, ?_⟩
    unfold dCall flatOnly withD at q
    cases e : da ρ with
    | ex c => rw [e] at q; exact q
    | no => rw [e] at q; exact q
    | ok ms =>
      simp only [e, Rs.bind_ok] at q
      intro vs H1 s1 r1
      have r2 : RlL X.K T.C H1 B.G ms vs := paired_rl (show Paired (Ra X.K T.C H1 (Pf B σ ρ) B.G) ms vs from r1) fun _ p => p.1
      refine ⟨ms ++ dms, B.G, r2.append (hd.1 _ _), ?_⟩
      cases e2 : g (ms ++ dms) with
      | ok m =>
        rw [e2] at q
        simp only [Rs.bind_ok] at q
        by_cases hf : flatM m = true
        · rw [if_pos hf] at q; exact fun v H' s r => q v H' (s1.trans s) (r.flat hf)
        · rw [if_neg hf] at q; exact q.elim
      | ex c => rw [e2] at q; exact fun cls dd H' s z => q cls dd H' (s1.trans s) z
      | no => rw [e2] at q; exact q
theorem se_callF (F : FnS X.prog X.w X.K X.mg X.base T k f fd ps g) (hr : Room k X.A) (hm : X.mg x = some (.ref f)) (hk : PySem.W.keepIn X.K (.ref f) = true) (hb : Binds X.K fd ps []) (tk : Takes X W)
    (ha : SA T X W false (e :: es) da) (hg : Gl X x := by rfl) (hdb : (x == ("__debug__" : Str)) = false := by decide) (he : starEach (e :: es) X.env = (false, eval e X.env) :: starEach es X.env := by rfl) (hpl : (backTo pos (starEach es X.env)).any (·.1) = false := by rfl) :
    SE T X W (.Call (.Name x p) (e :: es) [] pos) (dCall (flatOnly g) da) := fun B => (se_callFD F hr hm hk hb defm0 tk ha hg hdb he hpl B).imp fun σ H Q q => by
  rw [withD_nil]; exact q
end
end Mi

set_option Elab.async false
set_option linter.all false
set_option maxRecDepth 100000
/-! Mi, part 10: a list of one's own changed; op=; raise; try. -/
namespace Mi
open PySem PySem.Spec L2

section
variable {K : PySem.W.Frag} {T : Tb} {B : Bs} {σ : L2.St} {H : Hp} {ρ : Rho}
theorem own_set {i : Nat} {m m' : MV} (h : ρ[i]? = some (Sl.own m)) (b : Addr) (z : OwnAt σ (ρ.set i (.own m')) b) : OwnAt σ ρ b := by
  obtain ⟨j, n, q1, q2⟩ := z
  rcases set_get q1 with ⟨e, _, _⟩ | ⟨e, q1⟩
  · subst e; exact ⟨j, m, h, q2⟩
  · exact ⟨j, n, q1, q2⟩
/-- what full values keep when a name's own list is written -/
theorem RS.kpw (R : RS K T B σ H ρ) {i : Nat} {m m' : MV} {a : Addr} {o' : HO} (h : ρ[i]? = some (.own m)) (ha : σ[i]? = some (some (.ref a))) : Kept H (upd H a o') (Pf B σ ρ) (Pf B σ (ρ.set i (.own m'))) := by
  have own : OwnAt σ ρ a := ⟨i, m, h, ha⟩
  obtain ⟨_, u, hu, nt, nf⟩ := R.owned own
  exact ⟨fun b o hb t => by
      rw [upd_ne (fun e => by
        subst e; rw [hu] at hb; cases hb
        rcases t with ⟨xs, t⟩ | ⟨y, u, t⟩
        · exact nt _ t
        · exact nf _ _ t)]; exact hb,
    fun b o hb p => ⟨by rw [upd_ne (fun e => by subst e; exact p.2 own)]; exact hb, p.1, fun z => p.2 (own_set h b z)⟩⟩
/-- a list written -/
theorem RS.putL (R : RS K T B σ H ρ) {i : Nat} {ms ms' : List MV} {a : Addr} {ys : List V} (h : ρ[i]? = some (.own (.lst ms))) (ha : σ[i]? = some (some (.ref a))) (r : RlL K T.C H (Pf B σ ρ) ms' ys) : RS K T B σ (upd H a (.lst ys)) (ρ.set i (.own (.lst ms'))) :=
  R.write h ha ⟨ys, upd_same, RlL.keep (R.kpw h ha) _ r⟩
end
/-! ### methods that change -/
def lstOf : Sl → Option (List MV)
  | .own (.lst ms) => some ms
  | _ => none
def sMut (i : Nat) (d : AD) (h : List MV → List MV → Option (List MV)) : SD := fun ρ => match lstOf (lk ρ i) with
  | some ms => (match d ρ with
    | .ok as => (match h ms as with
      | some ms' => .nx (ρ.set i (.own (.lst ms')))
      | none => .no)
    | .ex c => .ex c ρ
    | .no => .no)
  | none => .no
def hApp : List MV → List MV → Option (List MV) := fun ms as => match as with
  | [m] => if ms.length < big then some (ms ++ [m]) else none
  | _ => none
def hExt : List MV → List MV → Option (List MV) := fun ms as => match as with
  | [.lst ns] => if ms.length + ns.length ≤ big then some (ms ++ ns) else none
  | _ => none
theorem lstOf_get {ρ : Rho} {i : Nat} {ms : List MV} (h : lstOf (lk ρ i) = some ms) : ρ[i]? = some (.own (.lst ms)) := by
  unfold lstOf at h
  split at h
  · cases h; rename_i e; exact lk_val e fun z => nomatch z
  · cases h
section
variable {T : Tb} {X : Cx} {W : WX} {pos ap cp p : Pos} {e : Expr} {da : AD} {d : ED}
theorem ss_mut {id : String} {name : Str} {r : V → List V → Hp → VK → Prop} {h : List MV → List MV → Option (List MV)} (i : Nat) {x : Str} (slot : Slot "list" name id) (hty : typeOf (.builtin id) = pure (.type "method_descriptor")) (hm : MtR X id r) (ha : SA T X W true [e] da)
    (hr : ∀ (H : Hp) (P : Addr → Prop) (a : Addr) (ms as ms' : List MV) (xs vs : List V) (Q : VK), H a = some (.lst xs) → RlL X.K T.C H P ms xs → RlL X.K T.C H P as vs → h ms as = some ms' → (∀ v ys, RlL X.K T.C H P ms' ys → Q v (upd H a (.lst ys))) → r (.ref a) vs H Q)
    (hN : X.N[i]? = some x := by rfl) (hv : Vis X.env.scope x := by first | exact Or.inl rfl | exact Or.inr (Or.inl rfl) | exact Or.inr (Or.inr rfl)) (hd : (x == ("__debug__" : Str)) = false := by decide) (hcd : (x == ("__classdict__" : Str)) = false := by decide)
    (hbase : attributeBase (.Name x p) name X.env (eval (.Name x p) X.env) = eval (.Name x p) X.env := by rfl)
    (hfew : ((backTo cp (starEach [e] X.env)).all (fun x => !x.1) && (backToKw cp (keywordEach [] X.env)).all (fun x => x.1.isSome)
      && decide ([e].length + ([] : List Keyword).length + (if ([] : List Keyword).isEmpty then 0 else 1) < 30)) = true := by rfl)
    (hline : (ap.endLine == cp.line) = true := by rfl) (hs : starEach [e] X.env = (false, eval e X.env) :: starEach [] X.env := by rfl) (hplain : (backTo cp (starEach [] X.env)).any (·.1) = false := by rfl)
    (hsw : swapsWith (.Call (.Attribute (.Name x p) name ap) [e] [] cp) none pos.line X.env = pure false := by rfl) :
    SS T X W (.Expr (.Call (.Attribute (.Name x p) name ap) [e] [] cp) pos) (sMut i da h) := .mk fun B => ⟨_, ps_expr (pe_bm PySem.F.plainAttrs_list slot hty hm (pe_var hN hv hd hcd) (ha B) hbase hfew hline hs hplain) hsw, fun D σ H ρ R q => by
  unfold sMut at q
  cases e1 : lstOf (lk ρ i) with
  | none => rw [e1] at q; exact q.elim
  | some ms =>
    simp only [e1] at q
    have ho := lstOf_get e1
    obtain ⟨a, h1, h0, xs, h2, h3⟩ := R.own i _ ho
    refine ⟨_, h1, Or.inl ⟨rfl, xs, SqL.of h2⟩, ρ, R, ?_⟩
    cases e2 : da ρ with
    | ex c => rw [e2] at q; exact fun cls dd H' s z => q cls dd σ H' (R.grow s) z
    | no => rw [e2] at q; exact q.elim
    | ok as =>
      simp only [e2] at q
      intro vs H' s rv
      cases e3 : h ms as with
      | none => rw [e3] at q; exact q.elim
      | some ms' =>
        rw [e3] at q
        exact hr H' (Pf B σ ρ) a ms as ms' xs vs _ (s _ _ h2) (h3.same s) rv e3 fun v ys ry => q σ _ ((R.grow s).putL ho h1 ry)⟩
theorem ss_append (i : Nat) {x : Str} (ha : SA T X W true [e] da)
    (hN : X.N[i]? = some x := by rfl) (hv : Vis X.env.scope x := by first | exact Or.inl rfl | exact Or.inr (Or.inl rfl) | exact Or.inr (Or.inr rfl)) (hd : (x == ("__debug__" : Str)) = false := by decide) (hcd : (x == ("__classdict__" : Str)) = false := by decide)
    (hbase : attributeBase (.Name x p) "append" X.env (eval (.Name x p) X.env) = eval (.Name x p) X.env := by rfl)
    (hfew : ((backTo cp (starEach [e] X.env)).all (fun x => !x.1) && (backToKw cp (keywordEach [] X.env)).all (fun x => x.1.isSome)
      && decide ([e].length + ([] : List Keyword).length + (if ([] : List Keyword).isEmpty then 0 else 1) < 30)) = true := by rfl)
    (hline : (ap.endLine == cp.line) = true := by rfl) (hs : starEach [e] X.env = (false, eval e X.env) :: starEach [] X.env := by rfl) (hplain : (backTo cp (starEach [] X.env)).any (·.1) = false := by rfl)
    (hsw : swapsWith (.Call (.Attribute (.Name x p) "append" ap) [e] [] cp) none pos.line X.env = pure false := by rfl) :
    SS T X W (.Expr (.Call (.Attribute (.Name x p) "append" ap) [e] [] cp) pos) (sMut i da hApp) :=
  ss_mut i PySem.F.slot_list_append PySem.F.type_list_append mt_append ha (fun H P a ms as ms' xs vs Q hl r1 r2 eq q => by
    unfold hApp at eq
    split at eq
    · rename_i m
      split at eq <;> cases eq
      obtain ⟨v, _, e1, r3, e2⟩ := r2
      subst e2 e1
      exact ⟨a, xs, v, rfl, rfl, hl, by rw [← r1.length]; exact Nat.lt_of_lt_of_le (by assumption) (big_line (Nat.le_refl _)), q _ _ (r1.append ⟨v, [], rfl, r3, rfl⟩)⟩
    · cases eq) hN hv hd hcd hbase hfew hline hs hplain hsw
theorem ss_extend (i : Nat) {x : Str} (ha : SA T X W true [e] da)
    (hN : X.N[i]? = some x := by rfl) (hv : Vis X.env.scope x := by first | exact Or.inl rfl | exact Or.inr (Or.inl rfl) | exact Or.inr (Or.inr rfl)) (hd : (x == ("__debug__" : Str)) = false := by decide) (hcd : (x == ("__classdict__" : Str)) = false := by decide)
    (hbase : attributeBase (.Name x p) "extend" X.env (eval (.Name x p) X.env) = eval (.Name x p) X.env := by rfl)
    (hfew : ((backTo cp (starEach [e] X.env)).all (fun x => !x.1) && (backToKw cp (keywordEach [] X.env)).all (fun x => x.1.isSome)
      && decide ([e].length + ([] : List Keyword).length + (if ([] : List Keyword).isEmpty then 0 else 1) < 30)) = true := by rfl)
    (hline : (ap.endLine == cp.line) = true := by rfl) (hs : starEach [e] X.env = (false, eval e X.env) :: starEach [] X.env := by rfl) (hplain : (backTo cp (starEach [] X.env)).any (·.1) = false := by rfl)
    (hsw : swapsWith (.Call (.Attribute (.Name x p) "extend" ap) [e] [] cp) none pos.line X.env = pure false := by rfl) :
    SS T X W (.Expr (.Call (.Attribute (.Name x p) "extend" ap) [e] [] cp) pos) (sMut i da hExt) :=
  ss_mut i PySem.F.slot_list_extend PySem.F.type_list_extend mt_extend ha (fun H P a ms as ms' xs vs Q hl r1 r2 eq q => by
    unfold hExt at eq
    split at eq
    · rename_i ns
      split at eq <;> cases eq
      obtain ⟨v, _, e1, ⟨b, zs, e3, _, h3, h4⟩, e2⟩ := r2
      subst e2 e3 e1
      exact ⟨a, b, xs, zs, rfl, rfl, hl, h3, by rw [← r1.length, ← h4.length]; exact big_line (by assumption), q _ _ (r1.append h4)⟩
    · cases eq) hN hv hd hcd hbase hfew hline hs hplain hsw
/-! ### name op= value -/
def sAug (i : Nat) (g : MV → MV → Rs MV) (d : ED) : SD := fun ρ => match lk ρ i with
  | .val x => (match d ρ with
    | .ok y => (match g x y with
      | .ok z => .nx (ρ.set i (.val z))
      | _ => .no)
    | .ex c => .ex c ρ
    | .no => .no)
  | _ => .no
theorem ss_aug (i : Nat) {x : Str} {op : Operator} {g : MV → MV → Rs MV} (hN : X.N.Nodup) (ho : OpS T X (inplaceOp op) g) (he : SB T X W e d) (hi : X.N[i]? = some x := by rfl) (hx : Loc X.env.scope x := by first | exact Or.inl rfl | exact Or.inr rfl)
    (hf : X.fn x = true ∨ X.env.scope.names.lookup x = some .local := by first | exact .inl rfl | exact .inr rfl | assumption) : SS T X W (.AugAssign (.Name x p) op e pos) (sAug i g d) := .mk fun B => by
  obtain ⟨r, h1, h2⟩ := ho
  refine ⟨_, ps_aug (ti := fun x y H Q => r x y H Q) hN hi hx (he B) (fun pins s σ H x y v u Q I r1 r2 h => h1 pins s σ H x y v u Q I r1 r2 h) hf, fun D σ H ρ R q => ?_⟩
  unfold sAug at q
  cases e1 : lk ρ i with
  | un => rw [e1] at q; exact q.elim
  | own m => rw [e1] at q; exact q.elim
  | val m =>
    simp only [e1] at q
    obtain ⟨v, h3, h4⟩ := R.val i m (lk_val e1 fun z => nomatch z)
    refine ⟨v, h3, ρ, R, ?_⟩
    cases e2 : d ρ with
    | ex c => rw [e2] at q; exact fun cls dd H' s z => q cls dd σ H' (R.grow s) z
    | no => rw [e2] at q; exact q.elim
    | ok y =>
      simp only [e2] at q
      intro w H' s rw'
      have R' := R.grow s
      cases e3 : g m y with
      | ok z =>
        rw [e3] at q
        exact h2 H' (Pf B σ ρ) B.G m y v w z _ ((h4.same s).ra fun a p => p.1) rw' e3 fun u H2 s2 r2 => q _ H2 ((R'.grow s2).set (R'.up r2))
      | ex c => rw [e3] at q; exact q.elim
      | no => rw [e3] at q; exact q.elim
/-! ### raise -/
def sRaise (c : Str) : SD := fun ρ => .ex c ρ
/-- what the written part says of an error's class -/
structure ExcF (X : Cx) (T : Tb) (c : Str) : Prop where
  q : PySem.W.excIn X.K (T.C c) [.type "ValueError", .type "Exception", .type "BaseException", .type "object"] "ValueError.__new__" = true
  g : X.mg c = some (.ref (T.C c))
  k : PySem.W.keepIn X.K (.ref (T.C c)) = true
  r : Raises X (.ref (T.C c))
theorem ss_raise {c m : Str} {j : Nat} {p2 : Pos} (F : ExcF X T c) (tk : Takes X W) (hc : X.calm = true := by rfl) (hg : Gl X c := by rfl) (hdb : (c == ("__debug__" : Str)) = false := by decide) :
    SS T X W (.Raise (some (.Call (.Name c p) [.Constant (.str m) j p2] [] cp)) none pos) (sRaise c) := .mk fun B => ⟨_, ps_raise hc tk (pmk_own PySem.F.excBase_ValueError F.q F.g F.k F.r hg hdb), fun D σ H ρ R q => q (.ref (T.C c)) none σ H R rfl⟩
/-- a statement that the proof never comes to -/
def sNo : SD := fun _ => .no
theorem ss_no {st : Stmt} : SS T X W st sNo := .mk fun B => ⟨_, ps_never, fun D σ H ρ R q => q.elim⟩
theorem sss_no {st : List Stmt} : SSs T X W st sNo := .mk fun B => ⟨_, pss_never, fun D σ H ρ R q => q.elim⟩
/-! ### try -/
def handle (sub : Str → Str → Option Bool) (c : Str) (ρ : Rho) : List (Str × SD) → SR
  | [] => .ex c ρ
  | (h, s) :: r => match sub c h with
    | some true => s ρ
    | some false => handle sub c ρ r
    | none => .no
def sTry (sub : Str → Str → Option Bool) (b : SD) (hs : List (Str × SD)) : SD := fun ρ => match b ρ with
  | .ex c ρ' => handle sub c ρ' hs
  | r => r
def SubOk (K : PySem.W.Frag) (T : Tb) : Prop := ∀ c h b, T.sub c h = some b → PySem.W.exmOne K (.ref (T.C c)) (.ref (T.C h)) = some b
/-- the clauses -/
inductive SH (T : Tb) (X : Cx) : List ExceptHandler → List (Str × SD) → Prop
  | nil : SH T X [] []
  | cons {x : Str} {b₀ : Stmt} {suite : List Stmt} {np pos' : Pos} {hds : List ExceptHandler} {l : List (Str × SD)} {d : SD} (hc : Names X x (.ref (T.C x)))
      (hsu : ∀ (a : Addr) (oe : Obj) (cls : Value) (dd : Option Addr) (pn : List (Addr × Obj)), Zc cls dd oe → (∃ vs, oe.data = .fields vs) → SSs T (X.suite a ((a, oe) :: pn)) WF (b₀ :: suite) d) (r : SH T X hds l) :
      SH T X (.ExceptHandler (some (.Name x np)) none (b₀ :: suite) pos' :: hds) ((x, d) :: l)
theorem SH.hds {hds : List ExceptHandler} {l : List (Str × SD)} (h : SH T X hds l) : HdsOk X hds (l.map fun z => (.ref (T.C z.1), fun _ _ _ D σ H => ∃ B, tS X.K T B WF z.2 D σ H)) := by
  induction h with
  | nil => exact .nil
  | cons hc hsu r ih => exact .cons hc (fun a oe cls dd pn h1 h2 => (hsu a oe cls dd pn h1 h2).any) ih
theorem handle_sem {K : PySem.W.Frag} {B : Bs} {Wout : WX} {D : Ends} (so : SubOk K T) {c : Str} {σ : L2.St} {H : Hp} {ρ : Rho} {dd : Option Addr} : ∀ {l : List (Str × SD)}, RS K T B σ H ρ → PostS K T B Wout D (handle T.sub c ρ l) → (∀ (z : Str × SD), z ∈ l → ∀ c' ρ', z.2 ρ ≠ .ex c' ρ') →
    wMany K Wout D (l.map fun z => (.ref (T.C z.1), fun _ _ _ D σ H => ∃ B, tS K T B WF z.2 D σ H)) (.ref (T.C c)) dd σ H
  | [], R, q, _ => q _ dd σ H R rfl
  | (h, s) :: l, R, q, ne => by
    unfold handle at q
    cases e : T.sub c h with
    | none => rw [e] at q; exact q.elim
    | some b =>
      rw [e] at q
      refine ⟨b, so _ _ _ e, fun hb a na => ?_, fun hb => ?_⟩
      · subst hb
        refine ⟨B, tS_iff.mpr ⟨ρ, R, ?_⟩⟩
        have ne' := ne (h, s) List.mem_cons_self
        show PostS K T B WF D (s ρ)
        simp only at q ne'
        cases es : s ρ with
        | ex c' ρ' => exact absurd es (ne' c' ρ')
        | nx _ => rw [es] at q; exact q
        | rt _ => rw [es] at q; exact q
        | bk _ => rw [es] at q; exact q
        | ct _ => rw [es] at q; exact q
        | no => rw [es] at q; exact q
      · subst hb
        exact handle_sem so R q fun z hz => ne z (List.mem_cons_of_mem _ hz)
theorem ss_try {body : List Stmt} {h₀ : ExceptHandler} {hds : List ExceptHandler} {b : SD} {l : List (Str × SD)} (so : SubOk X.K T) (tk : Takes X W)
    (hb : ∀ (W : WX) (pn : List (Addr × Obj)) (xe : Value → Shared → Prop), Takes (X.tr pn xe) W → PassesOwn (model X.prog X.w) X.A X.env xe → SSs T (X.tr pn xe) W body b)
    (hh : SH T X (h₀ :: hds) l) (hne : ∀ (z : Str × SD), z ∈ l → ∀ ρ c' ρ', z.2 ρ ≠ .ex c' ρ') (hs : X.stack = X.env :: X.outer := by rfl) (hf : X.env.frame = some X.env.locals := by rfl) :
    SS T X W (.Try body (h₀ :: hds) [] [] pos) (sTry T.sub b l) := .mk fun B =>
  ⟨_, ps_try_many (tb := fun W D σ H => ∃ B, tS X.K T B W b D σ H) hs hf tk (fun W pn xe tk' po => (hb W pn xe tk' po).any) hh.hds, fun D σ H ρ R q => by
    refine ⟨B, tS_iff.mpr ⟨ρ, R, ?_⟩⟩
    unfold sTry at q
    cases e : b ρ with
    | ex c ρ' =>
      rw [e] at q
      intro cls dd σ' H' R' z
      subst z
      exact handle_sem so R' q fun z hz => hne z hz ρ'
    | nx _ => rw [e] at q; exact q
    | rt _ => rw [e] at q; exact q
    | bk _ => rw [e] at q; exact q
    | ct _ => rw [e] at q; exact q
    | no => rw [e] at q; exact q⟩
end
end Mi

set_option Elab.async false
set_option linter.all false
set_option maxRecDepth 100000
/-! Mi, part 11: dicts. -/
namespace Mi
open PySem PySem.Spec L2

section
variable {κ α : Type} [DecidableEq κ]
def zfind : List κ → List α → κ → Option α
  | k' :: r, v :: s, k => if k' = k then some v else zfind r s k
  | _, _, _ => none
def zrep : List κ → List α → κ → α → List α
  | k' :: r, v :: s, k, y => (if k' = k then y else v) :: zrep r s k y
  | _, _, _, _ => []
theorem zrep_length : ∀ {kk : List κ} {xs : List α} {k : κ} {y : α}, kk.length = xs.length → (zrep kk xs k y).length = xs.length
  | [], [], _, _, _ => rfl
  | [], _ :: _, _, _, h => by simp at h
  | _ :: _, [], _, _, h => by simp at h
  | _ :: _, _ :: _, _, _, h => by simp only [zrep, List.length_cons]; rw [zrep_length (by simpa using h)]
theorem valV_zfind : ∀ {kk : List κ} {xs : List V} {k : κ}, kk.length = xs.length → valV (kk.zip xs) k = zfind kk xs k
  | [], [], _, _ => rfl
  | [], _ :: _, _, h => by simp at h
  | _ :: _, [], _, h => by simp at h
  | a :: r, v :: s, k, h => by
    rw [List.zip_cons_cons]
    simp only [zfind]
    by_cases e : a = k
    · rw [if_pos e, valV_pos e]
    · rw [if_neg e, valV_neg e]; exact valV_zfind (by simpa using h)
theorem any_zfind : ∀ {kk : List κ} {xs : List α} {k : κ}, kk.length = xs.length → (zfind kk xs k).isSome = kk.any fun y => decide (y = k)
  | [], [], _, _ => rfl
  | [], _ :: _, _, h => by simp at h
  | _ :: _, [], _, h => by simp at h
  | a :: r, v :: s, k, h => by
    simp only [zfind, List.any_cons]
    by_cases e : a = k
    · rw [if_pos e]; simp [e]
    · rw [if_neg e, any_zfind (by simpa using h)]; simp [e]
theorem zip_any : ∀ {kk : List κ} {xs : List V} {k : κ}, kk.length = xs.length → ((kk.zip xs).any fun kv => decide (kv.1 = k)) = kk.any fun y => decide (y = k) := fun {kk xs k} h => by
  rw [valV_any, valV_zfind h, any_zfind h]
theorem zip_rep : ∀ {kk : List κ} {xs : List V} {k : κ} {y : V}, kk.length = xs.length → ((kk.zip xs).map fun kv => if kv.1 = k then (kv.1, y) else kv) = kk.zip (zrep kk xs k y)
  | [], [], _, _, _ => rfl
  | [], _ :: _, _, _, h => by simp at h
  | _ :: _, [], _, _, h => by simp at h
  | a :: r, v :: s, k, y, h => by
    rw [List.zip_cons_cons, List.map_cons, zip_rep (by simpa using h)]
    simp only [zrep, List.zip_cons_cons]
    by_cases e : a = k
    · simp [e]
    · simp [e]
theorem put_zip {kk : List κ} {xs : List V} {k : κ} {y : V} (h : kk.length = xs.length) : putK (kk.zip xs) k y = if (kk.any fun y => decide (y = k)) = true then kk.zip (zrep kk xs k y) else (kk ++ [k]).zip (xs ++ [y]) := by
  unfold putK
  rw [zip_any h, zip_rep h]
  split
  · rfl
  · rw [List.zip_append h]; rfl
end
section
variable {K : PySem.W.Frag} {C : Str → Addr} {H : Hp} {P : Addr → Prop} {κ : Type} [DecidableEq κ]
theorem zfind_rl : ∀ {kk : List κ} {vs : List MV} {xs : List V} {k : κ}, RlL K C H P vs xs → kk.length = xs.length → (zfind kk xs k = none ∧ zfind kk vs k = none) ∨ ∃ x m, zfind kk xs k = some x ∧ zfind kk vs k = some m ∧ Rl K C H P m x
  | [], [], _, _, h, _ => by cases h; exact .inl ⟨rfl, rfl⟩
  | [], _ :: _, _, _, ⟨_, _, e, _⟩, l => by subst e; simp at l
  | _ :: _, [], _, _, h, l => by cases h; simp at l
  | a :: r, v :: s, _, k, ⟨x, xr, e, h1, h2⟩, l => by
    subst e
    simp only [zfind]
    by_cases e : a = k
    · rw [if_pos e, if_pos e]; exact .inr ⟨x, v, rfl, rfl, h1⟩
    · rw [if_neg e, if_neg e]; exact zfind_rl h2 (by simpa using l)
theorem zrep_rl : ∀ {kk : List κ} {vs : List MV} {xs : List V} {k : κ} {m : MV} {y : V}, RlL K C H P vs xs → Rl K C H P m y → kk.length = xs.length → RlL K C H P (zrep kk vs k m) (zrep kk xs k y)
  | [], [], _, _, _, _, h, _, _ => by cases h; rfl
  | [], _ :: _, _, _, _, _, ⟨_, _, e, _⟩, _, l => by subst e; simp at l
  | _ :: _, [], _, _, _, _, h, _, l => by cases h; simp at l
  | a :: r, v :: s, _, k, m, y, ⟨x, xr, e, h1, h2⟩, hy, l => by
    subst e
    simp only [zrep]
    by_cases e : a = k
    · rw [if_pos e, if_pos e]; exact ⟨y, _, rfl, hy, zrep_rl h2 hy (by simpa using l)⟩
    · rw [if_neg e, if_neg e]; exact ⟨x, _, rfl, h1, zrep_rl h2 hy (by simpa using l)⟩
end
theorem keysOf_snoc : ∀ {ks : List MV} {kk : List Key} {x : MV} {k : Key}, keysOf ks = some kk → keyOf x = some k → keysOf (ks ++ [x]) = some (kk ++ [k])
  | [], _, _, _, h, hk => by cases h; simp [keysOf, hk]
  | m :: r, _, x, k, h, hk => by
    simp only [keysOf] at h
    split at h
    · rename_i k1 ks1 e1 e2
      cases h
      simp only [List.cons_append, keysOf, e1, keysOf_snoc e2 hk]
    · cases h
theorem tkeysOf_snoc : ∀ {ks : List MV} {kk : List (List Key)} {x : MV} {k : List Key}, tkeysOf ks = some kk → tkeyOf x = some k → tkeysOf (ks ++ [x]) = some (kk ++ [k])
  | [], _, _, _, h, hk => by cases h; simp [tkeysOf, hk]
  | m :: r, _, x, k, h, hk => by
    simp only [tkeysOf] at h
    split at h
    · rename_i k1 ks1 e1 e2
      cases h
      simp only [List.cons_append, tkeysOf, e1, tkeysOf_snoc e2 hk]
    · cases h
/-- what stands at the key x -/
def dLook (t : Bool) (x : MV) (ks vs : List MV) : Option (Option MV) :=
  if t then (match tkeyOf x, tkeysOf ks with
    | some k, some kk => some (zfind kk vs k)
    | _, _ => none)
  else (match keyOf x, keysOf ks with
    | some k, some kk => some (zfind kk vs k)
    | _, _ => none)
def dPut (t : Bool) (x v : MV) (ks vs : List MV) : Option MV :=
  if ks.length < big then
  if t then (match tkeyOf x, tkeysOf ks with
    | some k, some kk => some (if (kk.any fun y => decide (y = k)) = true then .dct t ks (zrep kk vs k v) else .dct t (ks ++ [x]) (vs ++ [v]))
    | _, _ => none)
  else (match keyOf x, keysOf ks with
    | some k, some kk => some (if (kk.any fun y => decide (y = k)) = true then .dct t ks (zrep kk vs k v) else .dct t (ks ++ [x]) (vs ++ [v]))
    | _, _ => none)
  else none
section
variable {K : PySem.W.Frag} {C : Str → Addr} {H : Hp} {P P' G : Addr → Prop} {a : Addr} {t : Bool} {ks vs : List MV} {x : MV} {y : V}
theorem tkey_v {k : List Key} (e : tkeyOf x = some k) (r : Rl K C H P x y) : ∃ b, y = .ref b ∧ H b = some (.tup (k.map kV)) := by
  cases x with
  | tup ms =>
    obtain ⟨b, zs, e1, h1, h2⟩ := r
    have := keysOf_v (show keysOf ms = some k from e) h2
    exact ⟨b, e1, by rw [h1, this]⟩
  | _ => cases e
/-- what a dict's reading gives -/
theorem dlook_sem {xs : List V} {o : HO} {r : Option MV} (ho : dctH t ks xs = some o) (ha : H a = some o) (rv : RlL K C H P vs xs) (rx : Rl K C H P' x y) (e : dLook t x ks vs = some r) :
    ∃ u, DGet H a y u ∧ u.isSome = r.isSome ∧ ∀ m, r = some m → ∃ v, u = some v ∧ Rl K C H P m v := by
  unfold dLook at e
  rcases dctH_cases ho with ⟨rfl, kk, h1, h2, rfl⟩ | ⟨rfl, kk, h1, h2, rfl⟩
  · simp only [Bool.false_eq_true, if_false, h1] at e
    cases ek : keyOf x with
    | none => rw [ek] at e; cases e
    | some k =>
      rw [ek] at e
      cases e
      have ey := keyOf_v ek rx
      subst ey
      refine ⟨_, .inl ⟨_, k, .inl ha, rfl, rfl⟩, ?_⟩
      rw [valV_zfind h2]
      rcases zfind_rl (k := k) rv h2 with ⟨e1, e2⟩ | ⟨v, m, e1, e2, e3⟩
      · rw [e1, e2]; exact ⟨rfl, fun m z => nomatch z⟩
      · rw [e1, e2]; exact ⟨rfl, fun m z => by cases z; exact ⟨v, rfl, e3⟩⟩
  · simp only [if_true, h1] at e
    cases ek : tkeyOf x with
    | none => rw [ek] at e; cases e
    | some k =>
      rw [ek] at e
      cases e
      obtain ⟨b, rfl, hb⟩ := tkey_v ek rx
      refine ⟨_, .inr ⟨_, k, b, .inl ha, rfl, hb, rfl⟩, ?_⟩
      rw [valV_zfind h2]
      rcases zfind_rl (k := k) rv h2 with ⟨e1, e2⟩ | ⟨v, m, e1, e2, e3⟩
      · rw [e1, e2]; exact ⟨rfl, fun m z => nomatch z⟩
      · rw [e1, e2]; exact ⟨rfl, fun m z => by cases z; exact ⟨v, rfl, e3⟩⟩
theorem dput_sem {xs : List V} {o : HO} {v : MV} {u : V} {m' : MV} (ho : dctH t ks xs = some o) (ha : H a = some o) (rv : RlL K C H P vs xs) (rx : Rl K C H P' x y) (ru : Rl K C H P v u) (e : dPut t x v ks vs = some m') :
    ∃ o' ks' vs' xs', DPut H a y u (upd H a o') ∧ m' = .dct t ks' vs' ∧ dctH t ks' xs' = some o' ∧ RlL K C H P vs' xs' := by
  unfold dPut at e
  by_cases hb : ks.length < big
  · rw [if_pos hb] at e
    rcases dctH_cases ho with ⟨rfl, kk, h1, h2, rfl⟩ | ⟨rfl, kk, h1, h2, rfl⟩
    · simp only [Bool.false_eq_true, if_false, h1] at e
      have hz : (kk.zip xs).length < sizeLine := by rw [List.length_zip, h2, Nat.min_self, ← h2, ← keysOf_len h1]; exact Nat.lt_of_lt_of_le hb (big_line (Nat.le_refl _))
      cases ek : keyOf x with
      | none => rw [ek] at e; cases e
      | some k =>
        rw [ek] at e
        have ey := keyOf_v ek rx
        subst ey
        have pz := put_zip (k := k) (y := u) h2
        by_cases c : (kk.any fun y => decide (y = k)) = true
        · simp only [c, if_true, Option.some.injEq] at e pz
          exact ⟨_, ks, _, _, .inl ⟨_, k, ha, rfl, hz, rfl⟩, e.symm, by rw [pz]; unfold dctH; simp [h1, zrep_length h2, h2], zrep_rl rv ru h2⟩
        · simp only [c, if_false, Option.some.injEq, Bool.false_eq_true] at e pz
          exact ⟨_, _, _, xs ++ [u], .inl ⟨_, k, ha, rfl, hz, rfl⟩, e.symm, by rw [pz]; unfold dctH; simp [keysOf_snoc h1 ek, h2], rv.append ⟨u, [], rfl, ru, rfl⟩⟩
    · simp only [if_true, h1] at e
      have hz : (kk.zip xs).length < sizeLine := by rw [List.length_zip, h2, Nat.min_self, ← h2, ← tkeysOf_len h1]; exact Nat.lt_of_lt_of_le hb (big_line (Nat.le_refl _))
      cases ek : tkeyOf x with
      | none => rw [ek] at e; cases e
      | some k =>
        rw [ek] at e
        obtain ⟨b, rfl, hb⟩ := tkey_v ek rx
        have pz := put_zip (k := k) (y := u) h2
        by_cases c : (kk.any fun y => decide (y = k)) = true
        · simp only [c, if_true, Option.some.injEq] at e pz
          exact ⟨_, ks, _, _, .inr ⟨_, k, b, ha, rfl, hb, hz, rfl⟩, e.symm, by rw [pz]; unfold dctH; simp [h1, zrep_length h2, h2], zrep_rl rv ru h2⟩
        · simp only [c, if_false, Option.some.injEq, Bool.false_eq_true] at e pz
          exact ⟨_, _, _, xs ++ [u], .inr ⟨_, k, b, ha, rfl, hb, hz, rfl⟩, e.symm, by rw [pz]; unfold dctH; simp [tkeysOf_snoc h1 ek, h2], rv.append ⟨u, [], rfl, ru, rfl⟩⟩
  · rw [if_neg hb] at e; cases e
end
/-! ### {} -/
section
variable {T : Tb} {X : Cx} {W : WX} {pos p p2 : Pos} {e : Expr} {d dk dv : ED} {k : Nat}
def dDct (t : Bool) : ED := fun _ => .ok (.dct t [] [])
theorem sn_dctT : SN T X W (.Dict [] [] pos) (dDct true) := fun B => pe_dnewT.imp fun σ H Q ⟨ρ, R, q⟩ => fun a ha => q a _ (same_upd ha) ha ⟨[], ⟨_, rfl, upd_same⟩, rfl⟩
theorem sn_dctK : SN T X W (.Dict [] [] pos) (dDct false) := fun B => pe_dnewK.imp fun σ H Q ⟨ρ, R, q⟩ => fun a ha => q a _ (same_upd ha) ha ⟨[], ⟨_, rfl, upd_same⟩, rfl⟩
/-! ### d[k] = v -/
def dctOf : Sl → Option (Bool × List MV × List MV)
  | .own (.dct t ks vs) => some (t, ks, vs)
  | _ => none
theorem dctOf_get {ρ : Rho} {i : Nat} {t : Bool} {ks vs : List MV} (h : dctOf (lk ρ i) = some (t, ks, vs)) : ρ[i]? = some (.own (.dct t ks vs)) := by
  unfold dctOf at h
  split at h
  · cases h; rename_i e; exact lk_val e fun z => nomatch z
  · cases h
def sDPutD (i : Nat) (dk dv : ED) : SD := fun ρ => match dctOf (lk ρ i) with
  | none => .no
  | some (t, ks, vs) => (match dv ρ with
    | .ok v => (match dk ρ with
      | .ok x => (match dPut t x v ks vs with
        | some m => .nx (ρ.set i (.own m))
        | none => .no)
      | .ex c => .ex c ρ
      | .no => .no)
    | .ex c => .ex c ρ
    | .no => .no)
theorem ss_dput (i : Nat) {x : Str} {value : Expr} (hr : Room k X.A) (hk : SE T X W e dk) (hv : SE T X W value dv)
    (hN : X.N[i]? = some x := by rfl) (hvi : Vis X.env.scope x := by first | exact Or.inl rfl | exact Or.inr (Or.inl rfl) | exact Or.inr (Or.inr rfl)) (hd : (x == ("__debug__" : Str)) = false := by decide) (hcd : (x == ("__classdict__" : Str)) = false := by decide)
    (hs : swapsWith value (some (.Subscript (.Name x p) e p2)) pos.line X.env = pure false := by rfl) : SS T X W (.Assign [.Subscript (.Name x p) e p2] value pos) (sDPutD i dk dv) := .mk fun B => ⟨_, ps_dput hr.u1 (pe_var hN hvi hd hcd) (hk B) (hv B) hs, fun D σ H ρ R q => by
  refine ⟨ρ, R, ?_⟩
  unfold sDPutD at q
  cases e3 : dctOf (lk ρ i) with
  | none => rw [e3] at q; exact q.elim
  | some z =>
    obtain ⟨t, ks, vs⟩ := z
    simp only [e3] at q
    have ho := dctOf_get e3
    obtain ⟨a, h1, h0, xs, ⟨o, h2, h3⟩, h4⟩ := R.own i _ ho
    cases e1 : dv ρ with
    | ex c => rw [e1] at q; exact fun cls dd H' s z => q cls dd σ H' (R.grow s) z
    | no => rw [e1] at q; exact q.elim
    | ok v =>
      simp only [e1] at q
      intro u H1 s1 ru
      refine ⟨_, h1, ρ, R.grow s1, ?_⟩
      cases e2 : dk ρ with
      | ex c => rw [e2] at q; exact fun cls dd H' s z => q cls dd σ H' ((R.grow s1).grow s) z
      | no => rw [e2] at q; exact q.elim
      | ok x' =>
        simp only [e2] at q
        intro y H2 s2 ry
        have R2 := (R.grow s1).grow s2
        have s12 := s1.trans s2
        cases e4 : dPut t x' v ks vs with
        | none => rw [e4] at q; exact q.elim
        | some m' =>
          rw [e4] at q
          obtain ⟨o', ks', vs', xs', g1, g2, g3, g4⟩ := dput_sem h2 (s12 _ _ h3) (h4.same s12) ry (ru.same s2) e4
          subst g2
          exact ⟨a, _, rfl, g1, q σ _ (R2.write ho h1 ⟨xs', ⟨o', g3, upd_same⟩, RlL.keep (R2.kpw ho h1) _ g4⟩)⟩⟩
/-! ### x in d, d[x], d.get(x) -/
def opInDc : MV → MV → Rs MV := fun x y => match y with
  | .dct t ks vs => (match dLook t x ks vs with
    | some r => .ok (.bl r.isSome)
    | none => .no)
  | _ => .no
theorem ra_full {K : PySem.W.Frag} {C : Str → Addr} {H : Hp} {P G : Addr → Prop} {x : MV} {y : V} {t : Bool} {ks vs : List MV} {r : Option MV} (h : Ra K C H P G x y) (e : dLook t x ks vs = some r) : Rl K C H P x y := by
  cases x with
  | lst _ => unfold dLook at e; cases t <;> simp [keyOf, tkeyOf] at e
  | dct _ _ _ => unfold dLook at e; cases t <;> simp [keyOf, tkeyOf] at e
  | obj _ _ _ => unfold dLook at e; cases t <;> simp [keyOf, tkeyOf] at e
  | _ => exact h
theorem os_inD (hr : Room k X.A) : OpS T X (compareOp .In) opInDc := ⟨fun y x H Q => ∃ a o, x = .ref a ∧ DGet H a y o ∧ Q (.bl o.isSome) H, fun pins s σ H y x v u Q I r1 r2 ⟨a, o, e, g, q⟩ => by
  subst e
  obtain rfl : u = Value.ref a := r2
  exact d_in hr.u1 I g r1 fun s3 I3 => ⟨.bl o.isSome, H, I3, rfl, q⟩, fun H P G mx my x y m Q rx ry em q => by
  unfold opInDc at em
  split at em
  · rename_i t ks vs
    split at em <;> cases em
    rename_i r e
    obtain ⟨a, xs, rfl, _, ⟨o, h1, h2⟩, h3⟩ := ry
    obtain ⟨u, g1, g2, _⟩ := dlook_sem h1 h2 h3 (ra_full rx e) e
    exact ⟨a, u, rfl, g1, q _ H (Same.refl _) (by rw [g2]; rfl)⟩
  · cases em⟩
theorem os_notInD (hr : Room k X.A) : OpS T X (compareOp .NotIn) (negB opInDc) := ⟨fun y x H Q => ∃ a o, x = .ref a ∧ DGet H a y o ∧ Q (.bl (!o.isSome)) H, fun pins s σ H y x v u Q I r1 r2 ⟨a, o, e, g, q⟩ => by
  subst e
  obtain rfl : u = Value.ref a := r2
  exact d_notIn hr.u1 I g r1 fun s3 I3 => ⟨.bl (!o.isSome), H, I3, rfl, q⟩, fun H P G mx my x y m Q rx ry em q => by
  unfold negB opInDc at em
  split at em
  · rename_i t ks vs
    split at em
    · rename_i r e
      cases em
      obtain ⟨a, xs, rfl, _, ⟨o, h1, h2⟩, h3⟩ := ry
      obtain ⟨u, g1, g2, _⟩ := dlook_sem h1 h2 h3 (ra_full rx e) e
      exact ⟨a, u, rfl, g1, q _ H (Same.refl _) (by rw [g2]; rfl)⟩
    · cases em
  · cases em⟩
end
end Mi

set_option Elab.async false
set_option linter.all false
set_option maxRecDepth 100000
set_option maxHeartbeats 4000000
/-! Mi, part 12: sorted, list of a dict; isinstance; enumerate. -/
namespace MiS
open PySem PySem.W PySem.Calls PyProof.Rows PyProof.V PySem.Spec
section
variable {prog : Program} {w : World} {A : Around} {E : Value → Shared → Prop} {s : Shared} {es : Array DictEntry} {ep : Nat} {d : Addr}
/-- a dict's keys, walked -/
theorem walksRaw (hh : A.handled = none) (I d : Addr) (hne : d ≠ I) (es : Array DictEntry) (ep : Nat) :
    Walks prog w A I [I, d] [I] es.size (fun i v => ∃ e, es[i]? = some e ∧ v = e.key) (fun i h => h.IsKeyIter I d i es.size ep ∧ DT.Raw h d es ep) where
  sub := fun b hb => by simp at hb; simp [hb]
  frame := fun _ _ _ st hk => ⟨st.1.at fun o e => hk I (by simp) o e, st.2.at' fun o e => hk d (by simp) o e⟩
  item := fun i s Q E hi st hQ => by
    obtain ⟨od, ho, hx, hdt⟩ := id st.2
    have hen : es[i]? = some es[i] := Array.getElem?_eq_getElem hi
    refine L2.next_key_item st.1 ho hdt rfl hen fun h' hit' hs' => ?_
    exact hQ _ h' s.toks ⟨_, hen, rfl⟩ ⟨hit', st.2.at' fun o e => (hs'.2 d hne).trans e⟩ fun b o hb e => (hs'.2 b (fun h => hb (by simp [h]))).trans e
  done := fun s Q E st hQ => by
    obtain ⟨od, ho, hx, hdt⟩ := id st.2
    exact L2.next_key_end hh st.1 ho hdt rfl (Nat.le_refl _) fun h' he' => hQ h' s.toks fun b o hb e => he' b o (fun h => hb (by simp [h])) e
  self := fun _ _ _ _ st hQ => wpAny_pyIter_keyiter st.1 hQ
theorem srcRaw (lo : (d == sysModules) = false) (es : Array DictEntry) (ep : Nat) : KdlSrc prog w "dict" d d es.size (fun i v => ∃ e, es[i]? = some e ∧ v = e.key) (fun h => DT.Raw h d es ep) where
  type := fun _ hm => hm.typeIs
  there := fun _ hm => ⟨hm.lt, hm.lt⟩
  keep := fun _ _ hm hk => hm.at' fun o e => hk d (.inl rfl) o e
  notList := by decide
  notTuple := by decide
  hint := fun _ _ _ _ hm hq => kdl_hint_dict hm.typeIs hq
  iter := fun A s hh hm => ⟨_, _, (fun _ _ hq => by
    obtain ⟨od, ho, hx, hdt⟩ := id hm
    exact L2.iter_keys lo ho hx hdt hq), walksRaw hh _ d (Nat.ne_of_lt hm.lt) es ep, ⟨⟨_, Heap.get?_push_size _ rfl, rfl, rfl⟩, hm.push _⟩⟩
end
section
variable {prog : Program} {w : World} {A : Around} {E : Value → Shared → Prop} {s : Shared} {T : String} {r d : Addr} {n : Nat} {P : Nat → Value → Prop} {OK : Heap → Prop}
theorem collectS {R : List Value → Shared → Prop} (K : KdlSrc prog w T r d n P OK) (hh : A.handled = none) (hok : OK s.heap) (hn : n ≤ sizeLine)
    (h : ∀ (h' : Heap) (tk : Nat) (vs : List Value), (∀ b o, s.heap.get? b = some o → h'.get? b = some o) → s.heap.objs.size < h'.objs.size → vs.length = n → (∀ j v, vs[j]? = some v → P j v) → R vs { s with heap := h', toks := tk }) :
    wpAny (model prog w) A (collect (.ref r)) R E s := by
  have hlt := K.there _ hok
  unfold collect
  refine wpAny_bind (wpAny_runValue (codeAny_builtin entry_proto_collect' ?_))
  rw [Around.under_plainId PySem.F.plain_proto_collect _]
  show wpAny _ A.in1 (newList [] >>= fun l => again (.builtin "list.__iadd__" ⟨[l, .ref r], []⟩)) _ _ s
  refine wpAny_bind (wpAny_newObj_type ?_)
  refine wpAny_pure ⟨plainId_quiet PySem.F.plain_list_iadd _, codeAny_builtin entry_list_iadd' ?_⟩
  rw [Around.under_plainId PySem.F.plain_list_iadd _]
  have hS₁ : (s.heap.push { cls := .type "list", data := .seq ([] : List Value).toArray }).get? s.heap.objs.size = some { cls := .type "list", data := .seq #[] } := Heap.get?_push_size _ rfl
  show wpAny _ A.in1 (Builtin.List.listExtendWith (.ref s.heap.objs.size) (.ref r) (.ref s.heap.objs.size)) _ _ _
  have key := kdl_extend (A := A) (s := { s with heap := s.heap.push { cls := .type "list", data := .seq ([] : List Value).toArray } })
    (R := fun (q : Result) (s' : Shared) => ∃ (h' : Heap) (tk : Nat) (acc' : Array Value) (c' : Nat), q = .ok (.ret (.ref s.heap.objs.size)) ∧ s' = { s with heap := h', toks := tk } ∧
      (∀ b o, s.heap.get? b = some o → h'.get? b = some o) ∧ h'.get? s.heap.objs.size = some { cls := .type "list", dict := none, data := .seq acc' c', slots := #[] } ∧ ItemsOf P acc' n)
    K hh (K.keep _ _ hok fun b _ o e => Heap.get?_push_of_some _ e) s.heap.objs.size (Nat.ne_of_gt hlt.1) (Nat.ne_of_gt hlt.2) (.ref s.heap.objs.size) 0 hS₁
    (fun h' tk acc' c' hk hS' hacc => ⟨h', tk, acc', c', rfl, rfl, fun b o e => hk b o (Nat.ne_of_lt (Heap.lt_size e)) (Heap.get?_push_of_some _ e), hS', hacc⟩) hn
  refine wpAny_mono key (fun fin s' x => ?_) fun e s' x => ?_
  · have last : ∀ (q : Result) (s₂ : Shared), (∃ (h' : Heap) (tk : Nat) (acc' : Array Value) (c' : Nat), q = .ok (.ret (.ref s.heap.objs.size)) ∧ s₂ = { s with heap := h', toks := tk } ∧
        (∀ b o, s.heap.get? b = some o → h'.get? b = some o) ∧ h'.get? s.heap.objs.size = some { cls := .type "list", dict := none, data := .seq acc' c', slots := #[] } ∧ ItemsOf P acc' n) →
        ∃ (h' : Heap) (tk : Nat) (vs : List Value) (c' : Nat), q = .ok (.ret (.ref s.heap.objs.size)) ∧ s₂ = { s with heap := h', toks := tk } ∧ (∀ b o, s.heap.get? b = some o → h'.get? b = some o) ∧ s.heap.objs.size < h'.objs.size ∧
          h'.get? s.heap.objs.size = some { cls := .type "list", dict := none, data := .seq vs.toArray c', slots := #[] } ∧ vs.length = n ∧ ∀ j v, vs[j]? = some v → P j v := by
      rintro q s₂ ⟨h', tk, acc', c', e1, e2, hk, hS', hacc⟩
      exact ⟨h', tk, acc'.toList, c', e1, e2, hk, Heap.lt_size hS', by rw [Array.toArray_toList]; exact hS', by rw [Array.length_toList]; exact hacc.1, fun j v e => hacc.2 j v (by rw [← Array.getElem?_toList]; exact e)⟩
    cases fin with
    | done f =>
      obtain ⟨h', tk, vs, c', e, rfl, hk, hl, hS', hv, hp⟩ := last _ _ x
      cases e
      show wpAny _ A (load s.heap.objs.size >>= _) _ _ _
      refine wpAny_bind (wpAny_load hS' ?_)
      exact wpAny_pure (h h' tk vs hk hl hv hp)
    | again c₁ =>
      refine ⟨x.1, codeAny_mono x.2 fun q s₂ y => ?_⟩
      obtain ⟨h', tk, vs, c', rfl, rfl, hk, hl, hS', hv, hp⟩ := last _ _ y
      show wpAny _ A (load s.heap.objs.size >>= _) _ _ _
      refine wpAny_bind (wpAny_load hS' ?_)
      exact wpAny_pure (h h' tk vs hk hl hv hp)
  · obtain ⟨_, _, _, _, e', _⟩ := x
    cases e'
/-- sorted of what is walked -/
theorem sortedS {Q : Value → Shared → Prop} {ltv : Value → Value → Bool} (O : SrtO.Swo ltv) (K : KdlSrc prog w T r d n P OK) (hh : A.handled = none) (hok : OK s.heap) (hn : n ≤ sizeLine)
    (hS : ∀ (vs : List Value), vs.length = n → (∀ j v, vs[j]? = some v → P j v) → 2 ≤ vs.length → ∀ (h₁ : Heap) (a : Addr) (tk : Nat), h₁.get? a = some (seqObj "list" vs.toArray 0) → (∀ b o, s.heap.get? b = some o → b ≠ a ∧ h₁.get? b = some o) → SrtO.SortableO prog w A.in1.in1 { s with heap := h₁, toks := tk } a vs ltv)
    (h : ∀ (vs out : List Value) (h' : Heap) (tk c : Nat) (D : Addr), vs.length = n → (∀ j v, vs[j]? = some v → P j v) → SrtO.Srtd ltv out → SrtO.Stb ltv out vs → (∀ b o, s.heap.get? b = some o → h'.get? b = some o) → s.heap.objs.size ≤ D → h'.get? D = some (seqObj "list" out.toArray c) → Q (.ref D) { s with heap := h', toks := tk }) :
    wpAny (model prog w) A (call (.builtin "sorted") [.ref r]) Q E s := by
  refine Calls.call_function_entry kind_sorted plain_sorted entry_sorted (args_sorted1 _) ?_
  unfold Builtin.«sorted»
  refine wpAny_bind (m := checkCount "sorted" 1 1 _) (wpAny_pure ?_)
  refine wpAny_bind (collectS (A := A.in1) K hh hok hn fun h' tk vs hk hlt hl hp => ?_)
  refine wpAny_bind (wpAny_newList ?_ (by rw [hl]; exact hn))
  have hoL : (h'.push (seqObj "list" vs.toArray 0)).get? h'.objs.size = some (seqObj "list" vs.toArray 0) := Heap.get?_push_size _ rfl
  have keep : ∀ b o, s.heap.get? b = some o → b ≠ h'.objs.size ∧ (h'.push (seqObj "list" vs.toArray 0)).get? b = some o := fun b o q =>
    ⟨Nat.ne_of_lt (Nat.lt_trans (Heap.lt_size q) hlt), Heap.get?_push_of_some _ (hk b o q)⟩
  show wpAny _ _ _ _ _ { s with heap := h'.push (seqObj "list" vs.toArray 0), toks := tk }
  refine wpAny_bind (wpAny_holding (wpAny_call_entry slot_list_sort ⟨_, hoL, rfl⟩ entry_list_sort (SrtO.list_sort_ord O hoL (by rw [hl]; exact hn) (fun h2 => hS vs hl hp h2 _ _ _ hoL keep) fun out hs hb => ⟨_, rfl, ?_⟩) (args_list_sort _)))
  obtain ⟨c, hc⟩ := sortedHeap_at (out := out.toArray) hoL
  refine wpAny_pure ⟨_, rfl, h vs out _ tk c _ hl hp hs hb (fun b o q => ?_) (Nat.le_of_lt hlt) hc⟩
  obtain ⟨q1, q2⟩ := keep b o q
  rw [sortedHeap_old q1 (Heap.lt_size q2)]
  exact q2
end
/-! ### tuples of ints -/
theorem lexLt_irrefl : ∀ xs : List Int, HT.lexLt xs xs = false
  | [] => rfl
  | x :: xs => by rw [HT.lexLt_cons, if_pos rfl]; exact lexLt_irrefl xs
theorem lexLt_asym : ∀ xs ys : List Int, HT.lexLt xs ys = true → HT.lexLt ys xs = false
  | [], [], _ => rfl
  | [], _ :: _, _ => rfl
  | _ :: _, [], h => by cases h
  | x :: xs, y :: ys, h => by
    rw [HT.lexLt_cons] at h ⊢
    by_cases e : x = y
    · rw [if_pos e] at h; rw [if_pos e.symm]; exact lexLt_asym xs ys h
    · rw [if_neg e] at h; rw [if_neg (fun z => e z.symm)]
      have := of_decide_eq_true h
      exact decide_eq_false (by omega)
theorem lexLt_tr : ∀ xs ys zs : List Int, HT.lexLt ys xs = false → HT.lexLt zs ys = false → HT.lexLt zs xs = false
  | [], [], [], _, _ => rfl
  | [], [], _ :: _, _, h => h
  | [], _ :: _, [], _, h => by cases h
  | [], _ :: _, _ :: _, _, _ => rfl
  | _ :: _, [], _, h, _ => by cases h
  | _ :: _, _ :: _, [], _, h => by cases h
  | x :: xs, y :: ys, z :: zs, h1, h2 => by
    rw [HT.lexLt_cons] at h1 h2 ⊢
    by_cases e1 : y = x <;> by_cases e2 : z = y
    · rw [if_pos e1] at h1; rw [if_pos e2] at h2; rw [if_pos (e2.trans e1)]; exact lexLt_tr xs ys zs h1 h2
    · rw [if_neg e2] at h2; rw [if_neg (by rw [← e1]; exact e2)]; rw [← e1]; exact h2
    · rw [if_neg e1] at h1; rw [if_neg (by rw [e2]; exact e1)]; rw [e2]; exact h1
    · rw [if_neg e1] at h1; rw [if_neg e2] at h2
      have a := of_decide_eq_false h1
      have b := of_decide_eq_false h2
      rw [if_neg (by omega)]
      exact decide_eq_false (by omega)
theorem swo_tups (k : Value → List Int) : SrtO.Swo fun v u => HT.lexLt (k v) (k u) := ⟨fun x y h => lexLt_asym _ _ h, fun x y z h1 h2 => lexLt_tr _ _ _ h1 h2⟩
section
variable {prog : Program} {w : World} {A : Around} {E : Value → Shared → Prop} {s : Shared}
theorem lex_kat {b fin : Bool} : ∀ {xs ys : List Value} {ns ms : List Int} (i : Nat), IntsAre xs ns → IntsAre ys ms → fin = decide (ns.length < ms.length) → KatLex prog w A b fin (fun r s' => s' = s ∧ r = HT.lexLt ns ms) (xs.zip ys) i s
  | _, _, _, _, i, .nil, .nil, e => by exact kat_nil ⟨rfl, by rw [e]; rfl⟩
  | _, _, _, _, i, .nil, .cons c u hs, e => by exact kat_nil ⟨rfl, by rw [e]; rfl⟩
  | _, _, _, _, i, .cons a t hr, .nil, e => by exact kat_nil ⟨rfl, by rw [e]; simp [HT.lexLt]⟩
  | _, _, _, _, i, .cons a t hr, .cons c u hs, e => by
    rw [List.zip_cons_cons]
    refine kat_cons (SeqAt.EqAt.int_int a t c u prog w _ _ ?_)
    refine kat_go (fun e1 => ?_) (fun e1 => ?_)
    · have ex : a = c := by simpa using e1
      refine kat_yes ?_
      rw [HT.lexLt_cons, if_pos ex]
      exact lex_kat (i + 1) hr hs (by rw [e]; simp)
    · have ex : ¬ a = c := by simpa using e1
      refine kat_no (TS.oneLt_ints _ ?_)
      exact ⟨rfl, by rw [HT.lexLt_cons, if_neg ex]⟩
theorem tup_cmp {b : Bool} {vs : List Value} {k : Value → List Int} (hp : ∀ v ∈ vs, TS.TupInts s.heap v (k v)) : SrtO.Cmp prog w A s (tuples' b) (fun p => p.1 ∈ vs) (SrtO.lt2 fun v u => HT.lexLt (k v) (k u)) := by
  intro p q hm hm'
  have h1 := hp _ hm
  have h2 := hp _ hm'
  show wpAny (model prog w) A (keyLt' (tuples' b) p.1 q.1) (fun r s' => s' = s ∧ r = HT.lexLt (k p.1) (k q.1)) (fun _ _ => False) s
  generalize k p.1 = ns at h1 ⊢
  generalize k q.1 = ms at h2 ⊢
  obtain ⟨a, xs, e, ⟨o, ho, hc, n, hd⟩, hi⟩ := h1
  obtain ⟨a', ys, e', ⟨o', ho', hc', n', hd'⟩, hi'⟩ := h2
  rw [e, e']
  refine kat_lt ho hd ho' hd' (lex_kat 0 hi hi' ?_)
  rw [← hi.length, ← hi'.length, Array.length_toList, Array.length_toList]
theorem tup_firsts {h : Heap} {k : Value → List Int} : ∀ {vs : List Value}, (∀ v ∈ vs, TS.TupInts h v (k v) ∧ k v ≠ []) → ∃ fs : List Value, KatTups h vs fs ∧ fs.length = vs.length ∧ ∀ f ∈ fs, ∃ x t, f = Value.int x t
  | [], _ => ⟨[], KatTups.nil, rfl, fun _ hm => by simp at hm⟩
  | v :: vs, hp => by
    obtain ⟨fs, h1, h2, h3⟩ := tup_firsts (vs := vs) fun v' hm => hp v' (List.mem_cons_of_mem _ hm)
    obtain ⟨⟨a, xs, e, ⟨o, ho, hc, n, hd⟩, hi⟩, hne⟩ := hp v List.mem_cons_self
    subst e
    obtain ⟨y, ys, ey⟩ : ∃ y ys, xs.toList = y :: ys := by
      cases q : xs.toList with
      | nil => rw [q] at hi; have := hi.length; exact absurd (List.length_eq_zero_iff.mp (by simpa using this.symm)) hne
      | cons y ys => exact ⟨y, ys, rfl⟩
    obtain ⟨m, t, hy⟩ := SrtO.ints_mem hi y (by rw [ey]; exact List.mem_cons_self)
    refine ⟨y :: fs, KatTups.cons ho hc hd (by rw [← Array.getElem?_toList, ey]; rfl) h1, by simp [h2], fun f hf => ?_⟩
    rcases List.mem_cons.mp hf with e | hf
    · exact ⟨m, t, by rw [e, hy]⟩
    · exact h3 f hf
theorem tups_sortableO {a : Addr} {vs : List Value} {k : Value → List Int} (h0 : 0 < vs.length) (hp : ∀ v ∈ vs, TS.TupInts s.heap v (k v) ∧ k v ≠ []) (ha : ∀ o, s.heap.get? a = some o → o.cls ≠ .type "tuple") : SrtO.SortableO prog w A s a vs fun v u => HT.lexLt (k v) (k u) := by
  intro h' keep
  have hp' : ∀ v ∈ vs, TS.TupInts h' v (k v) ∧ k v ≠ [] := fun v hm => ⟨(hp v hm).1.keeps fun b o e c => keep b o (fun z => by subst z; exact ha o e c) e, (hp v hm).2⟩
  obtain ⟨fs, h1, h2, h3⟩ := tup_firsts hp'
  refine ⟨tuples' true, fun Q E hq => ?_, tup_cmp fun v hm => (hp' v hm).1⟩
  refine kat_kind (T := .type "int") h1 (by omega) (fun f hm => ?_) (by rfl) ?_
  · obtain ⟨x, t, rfl⟩ := h3 f hm
    exact Looks.now
  · have e : (Value.type "int" != Value.type "tuple") = true := by first | decide +kernel | rfl | decide
    rw [e]
    exact hq
end
end MiS

set_option Elab.async false
set_option linter.all false
set_option maxRecDepth 100000
set_option maxHeartbeats 4000000
/-! Mi, part 13: sorted as a rule; isinstance; enumerate. -/
namespace Mi
open PySem PySem.Spec L2
open PyProof.Rows (seqObj)

/-! ### insertion -/
section
variable {α : Type} {lt : α → α → Bool}
def ins (lt : α → α → Bool) (x : α) : List α → List α
  | [] => [x]
  | y :: r => if lt y x then y :: ins lt x r else x :: y :: r
def isort (lt : α → α → Bool) : List α → List α
  | [] => []
  | x :: r => ins lt x (isort lt r)
theorem ins_perm (x : α) : ∀ l : List α, (ins lt x l).Perm (x :: l)
  | [] => .refl _
  | y :: r => by
    unfold ins
    by_cases h : lt y x = true
    · rw [if_pos h]; exact ((ins_perm x r).cons y).trans (.swap x y r)
    · rw [if_neg h]
theorem isort_perm : ∀ l : List α, (isort lt l).Perm l
  | [] => .refl _
  | x :: r => (ins_perm x _).trans ((isort_perm r).cons x)
theorem ins_srtd' (O : SrtO.Swo lt) (x : α) : ∀ l : List α, SrtO.Srtd lt l → SrtO.Srtd lt (ins lt x l)
  | [], _ => List.pairwise_singleton _ _
  | y :: r, h => by
    unfold ins
    have h1 := List.pairwise_cons.mp h
    by_cases c : lt y x = true
    · rw [if_pos c]
      refine List.pairwise_cons.mpr ⟨fun z hz => ?_, ins_srtd' O x r h1.2⟩
      rcases List.mem_cons.mp ((ins_perm x r).mem_iff.mp hz) with e | hz
      · subst e; exact O.asym _ _ c
      · exact h1.1 z hz
    · rw [if_neg c]
      have c' : lt y x = false := by simpa using c
      refine List.pairwise_cons.mpr ⟨fun z hz => ?_, h⟩
      rcases List.mem_cons.mp hz with e | hz
      · subst e; exact c'
      · exact O.tr x y z c' (h1.1 z hz)
theorem isort_srtd (O : SrtO.Swo lt) : ∀ l : List α, SrtO.Srtd lt (isort lt l)
  | [] => List.Pairwise.nil
  | x :: r => ins_srtd' O x _ (isort_srtd O r)
theorem ins_cls (O : SrtO.Swo lt) (x z : α) : ∀ l : List α, (ins lt x l).filter (SrtO.eqv lt z) = (x :: l).filter (SrtO.eqv lt z)
  | [] => rfl
  | y :: r => by
    unfold ins
    by_cases c : lt y x = true
    · rw [if_pos c]
      have ih := ins_cls O x z r
      rw [List.filter_cons, ih]
      by_cases a : SrtO.eqv lt z y = true
      · have b : SrtO.eqv lt z x = false := by
          rcases SrtO.bcase (SrtO.eqv lt z x) with b | b
          · obtain ⟨a1, a2⟩ := SrtO.eqv_iff.mp a
            obtain ⟨b1, b2⟩ := SrtO.eqv_iff.mp b
            have := O.tr x z y b1 a2
            rw [this] at c; cases c
          · exact b
        simp [List.filter_cons, a, b]
      · simp [List.filter_cons, a]
    · rw [if_neg c]
theorem isort_stb (O : SrtO.Swo lt) : ∀ l : List α, SrtO.Stb lt (isort lt l) l
  | [] => .refl _
  | x :: r => ⟨isort_perm (x :: r), fun z => by
    show (ins lt x (isort lt r)).filter _ = _
    rw [ins_cls O, List.filter_cons, List.filter_cons, (isort_stb O r).cls z]⟩
end
theorem swo_lexL : SrtO.Swo HT.lexLt := ⟨MiS.lexLt_asym, MiS.lexLt_tr⟩
def ltI (x y : Int) : Bool := decide (x < y)
theorem swo_ltI : SrtO.Swo ltI := ⟨fun x y h => by have := of_decide_eq_true h; exact decide_eq_false (by omega), fun x y z h1 h2 => by
  have a := of_decide_eq_false h1
  have b := of_decide_eq_false h2
  exact decide_eq_false (by omega)⟩
theorem isortI_uniq {ns ns' : List Int} (p : ns'.Perm ns) (s : ns'.Pairwise (· ≤ ·)) : ns' = isort ltI ns := by
  refine SrtO.stb_uniq swo_ltI (s.imp fun h => decide_eq_false (by omega)) (isort_srtd swo_ltI _) ⟨p.trans (isort_perm _).symm, fun x => ?_⟩
  have key : ∀ l : List Int, l.filter (SrtO.eqv ltI x) = List.replicate (l.count x) x := fun l => by
    have e : SrtO.eqv ltI x = fun y => y == x := by
      funext y
      unfold SrtO.eqv ltI
      by_cases e : y = x
      · subst e; simp
      · have : (y == x) = false := by simpa using e
        rw [this]
        rcases Int.lt_or_gt_of_ne e with h | h
        · simp [h]
        · simp [h]
    rw [e, List.filter_beq]
  rw [key, key]
  congr 1
  exact (p.trans (isort_perm _).symm).count_eq x

/-! ### tuples of ints, told by the heap -/
def TupsAt (H : Hp) (xs : List V) (kss : List (List Int)) : Prop := Paired (fun x ks => ∃ t, x = V.ref t ∧ H t = some (.tup (ks.map V.int))) xs kss
theorem tups_of_map {H : Hp} (k : V → List Int) : ∀ {xs : List V}, (∀ x ∈ xs, ∃ t, x = V.ref t ∧ H t = some (.tup ((k x).map V.int))) → TupsAt H xs (xs.map k)
  | [], _ => .nil
  | x :: xs, h => .cons (h x List.mem_cons_self) (tups_of_map k fun y hy => h y (List.mem_cons_of_mem _ hy))
theorem TupsAt.mem {H : Hp} {xs : List V} {kss : List (List Int)} (h : TupsAt H xs kss) : ∀ x ∈ xs, ∃ t ks, x = V.ref t ∧ H t = some (.tup (ks.map V.int)) ∧ ks ∈ kss := by
  induction h with
  | nil => intro x hx; exact absurd hx (by simp)
  | cons a _ ih =>
    intro y hy
    rcases List.mem_cons.mp hy with e | hy
    · subst e
      obtain ⟨t, e, q⟩ := a
      exact ⟨t, _, e, q, List.mem_cons_self⟩
    · obtain ⟨t, ks, e, q, m⟩ := ih y hy
      exact ⟨t, ks, e, q, List.mem_cons_of_mem _ m⟩
section
variable {X : Cx} {pins : List (Addr × Obj)} {σ : L2.St} {H : Hp} {s : Shared}
theorem tupI_raw (I : Inv X pins σ H s) {t : Addr} {ns : List Int} (h : H t = some (.tup (ns.map V.int))) : TS.TupInts s.heap (.ref t) ns := by
  obtain ⟨its, rv, hT, _⟩ := I.tuple (SqT.of h)
  exact ⟨t, its.toArray, rfl, hT, by simpa using rv.ints⟩
/-- the list that a sort has left, seen as values -/
theorem out_tups (I : Inv X pins σ H s) {xs : List V} {its : List Value} {kss : List (List Int)} (rv : Vals xs its) (h : TupsAt H xs kss) {out : List Value} (h1 : SrtO.Srtd (fun v u => HT.lexLt (TS.intsOf s.heap v) (TS.intsOf s.heap u)) out)
    (h2 : SrtO.Stb (fun v u => HT.lexLt (TS.intsOf s.heap v) (TS.intsOf s.heap u)) out its) : Vals (out.map backV) out ∧ TupsAt H (out.map backV) (isort HT.lexLt kss) := by
  obtain ⟨e1, e2⟩ := refs_back rv fun x m => by
    obtain ⟨t, _, e, _⟩ := h.mem x m
    exact ⟨t, e⟩
  have ki : kss = its.map (TS.intsOf s.heap) := by
    clear e1 e2 h1 h2
    induction h generalizing its with
    | nil => cases rv; rfl
    | cons a _ ih =>
      cases rv with
      | cons r rr =>
        obtain ⟨t, e, q⟩ := a
        subst e
        cases r
        rw [List.map_cons, ← ih rr, (tupI_raw I q).ints]
  have h3 : ∀ u ∈ out, ∃ a, u = Value.ref a := fun u hu => e2 u (h2.perm.mem_iff.mp hu)
  refine ⟨vals_back h3, ?_⟩
  have ek : isort HT.lexLt kss = out.map (TS.intsOf s.heap) := by
    refine (SrtO.stb_uniq swo_lexL (SrtO.srtd_map h1) (isort_srtd swo_lexL _) ?_).symm
    rw [ki]
    exact (SrtO.Stb.map swo_lexL _ h2).trans ⟨(isort_perm _).symm, fun x => ((isort_stb swo_lexL _).cls x).symm⟩
  have em : out.map (TS.intsOf s.heap) = (out.map backV).map fun x => TS.intsOf s.heap (match x with | .ref a => .ref a | _ => .none) := by
    rw [List.map_map]
    refine List.map_congr_left fun u hu => ?_
    obtain ⟨a, e⟩ := h3 u hu
    subst e; rfl
  rw [ek, em]
  refine tups_of_map _ fun x hx => ?_
  obtain ⟨u, hu, e⟩ := List.mem_map.mp hx
  obtain ⟨a, e'⟩ := h3 u hu
  subst e' e
  have hm : V.ref a ∈ xs := by rw [e1]; exact List.mem_map.mpr ⟨_, h2.perm.mem_iff.mp hu, rfl⟩
  obtain ⟨t, ks, e, q, _⟩ := h.mem _ hm
  cases e
  refine ⟨a, rfl, ?_⟩
  show H a = some (.tup ((TS.intsOf s.heap (.ref a)).map V.int))
  rw [(tupI_raw I q).ints]
  exact q
end
def rSortedTI (K : PySem.W.Frag) : List V → Hp → VK → Prop := fun vs H Q => ∃ a xs kss, vs = [V.ref a] ∧ SqL K H a xs ∧ TupsAt H xs kss ∧ (∀ ks ∈ kss, ks ≠ []) ∧ ∀ ys p, TupsAt H ys (isort HT.lexLt kss) → H p = none → Q (.ref p) (upd H p (.lst ys))
/-- a dict whose keys are tuples of ints -/
def rSortedDI (K : PySem.W.Frag) : List V → Hp → VK → Prop := fun vs H Q => ∃ a kvs kss, vs = [V.ref a] ∧ H a = some (.dT kvs) ∧ kvs.map (·.1) = kss.map (·.map Sum.inl) ∧ (∀ ks ∈ kss, ks ≠ []) ∧ ∀ ys p, TupsAt H ys (isort HT.lexLt kss) → H p = none → Q (.ref p) (upd H p (.lst ys))
section
variable {X : Cx}
theorem cr_sortedTI : CallR X (.builtin "sorted") (rSortedTI X.K) := by
  intro pins s σ H vs us Q I r h
  obtain ⟨a, xs, kss, rfl, hs, hx, hne, q⟩ := h
  obtain ⟨its, rv, hl, hz⟩ := I.list hs
  rw [Vals.ref1 r]
  have hp : ∀ v ∈ its, TS.TupInts s.heap v (TS.intsOf s.heap v) ∧ TS.intsOf s.heap v ≠ [] := fun v hv => by
    obtain ⟨e1, e2⟩ := refs_back rv fun x m => by
      obtain ⟨t, _, e, _⟩ := hx.mem x m
      exact ⟨t, e⟩
    obtain ⟨t, rfl⟩ := e2 v hv
    have hm : V.ref t ∈ xs := by rw [e1]; exact List.mem_map.mpr ⟨_, hv, rfl⟩
    obtain ⟨t', ks, e, ht, hk⟩ := hx.mem _ hm
    cases e
    have z := tupI_raw I ht
    rw [z.ints]
    exact ⟨z, hne _ hk⟩
  refine SrtO.sorted_ord (MiS.swo_tups (TS.intsOf s.heap)) hl.isList (by rw [← rv.length]; exact hz) (fun h2 h₁ a' ha' kk => ?_) fun out h1 h2 => ?_
  · refine MiS.tups_sortableO (s := { s with heap := h₁ }) (by omega) (fun v hv => ⟨(hp v hv).1.keeps fun b o e _ => (kk b o e).2, (hp v hv).2⟩) fun o e => ?_
    have e' : some o = some (seqObj "list" its.toArray 0) := e.symm.trans ha'
    cases e'
    intro c
    exact absurd (Value.type.inj c) (by decide)
  · obtain ⟨ep, he'⟩ := PyProof.Rows.sortedAll_at s.heap its out.toArray
    obtain ⟨k1, k2⟩ := out_tups I rv hx h1 h2
    have hlen : (out.map backV).length ≤ sizeLine := by
      rw [List.length_map, h2.len, ← rv.length]; exact hz
    exact ⟨.ref _, upd H (s.heap.objs.size + 1) (.lst (out.map backV)), I.laid (t' := s.toks) (fun _ _ => PyProof.Rows.sortedAll_old) (Nat.le_succ _) ⟨hlen, out, ep, k1, he'⟩, rfl, q _ _ k2 (I.hok.fresh (Nat.le_succ _))⟩
theorem cr_sortedDI (hc : X.calm = true) : CallR X (.builtin "sorted") (rSortedDI X.K) := by
  intro pins s σ H vs us Q I r h
  obtain ⟨d, kvs, kss, rfl, hd, hk, hne, q⟩ := h
  rw [Vals.ref1 r]
  obtain ⟨hz, lo, xs, rel, od, es, ep, ho, hx, hdt, he, hkey, _⟩ := dt_of I.hok hd
  have hn : es.size = kvs.length := by rw [size_of_entries he, Paired.length rel]
  have hraw : DT.Raw s.heap d es ep := ⟨od, ho, hx, hdt⟩
  have hkss : kss.length = kvs.length := by rw [← List.length_map (f := fun l : List Int => l.map (Sum.inl (β := Str))), ← hk, List.length_map]
  -- the keys' own tuples
  have at_ : ∀ (j : Nat) (v : Value), (∃ e : DictEntry, es[j]? = some e ∧ v = e.key) → ∃ t ks, v = .ref t ∧ kss[j]? = some ks ∧ H t = some (.tup (ks.map V.int)) := fun j v ⟨e, h1, h2⟩ => by
    have hj : j < kvs.length := by rw [← hn]; exact (Array.getElem?_eq_some_iff.mp h1).1
    obtain ⟨⟨k, u⟩, hkv⟩ : ∃ p, kvs[j]? = some p := ⟨_, List.getElem?_eq_getElem hj⟩
    obtain ⟨b, hb, e1, e2, _⟩ := L2.paired_get rel hkv
    have q := entry_at he j
    rw [hb, h1] at q
    cases q
    have e3 : (kvs.map (·.1))[j]? = some k := by rw [List.getElem?_map, hkv]; rfl
    rw [hk, List.getElem?_map] at e3
    cases e4 : kss[j]? with
    | none => rw [e4] at e3; cases e3
    | some ks =>
      rw [e4] at e3
      have e5 : ks.map Sum.inl = k := by simpa using e3
      refine ⟨b.2.1, ks, by rw [h2]; rfl, rfl, ?_⟩
      have : (ks.map V.int) = k.map kV := by rw [← e5, List.map_map]; rfl
      rw [this]
      exact e2
  have all_ : ∀ {vs : List Value}, vs.length = es.size → (∀ (j : Nat) (v : Value), vs[j]? = some v → ∃ e : DictEntry, es[j]? = some e ∧ v = e.key) → ∃ ys, Vals ys vs ∧ TupsAt H ys kss := fun {vs} hl hp => by
    have hh : ∀ (n : Nat) (vs : List Value) (ks : List (List Int)), vs.length = ks.length → (∀ (j : Nat) (v : Value) (k : List Int), vs[j]? = some v → ks[j]? = some k → ∃ t, v = Value.ref t ∧ H t = some (.tup (k.map V.int))) → ∃ ys, Vals ys vs ∧ TupsAt H ys ks := fun n vs => by
      induction vs with
      | nil => intro ks hl _; cases ks with
        | nil => exact ⟨[], .nil, .nil⟩
        | cons _ _ => simp at hl
      | cons v vs ih => intro ks hl hp; cases ks with
        | nil => simp at hl
        | cons k ks =>
          obtain ⟨ys, h1, h2⟩ := ih ks (by simpa using hl) fun j v k a b => hp (j + 1) v k (by simpa using a) (by simpa using b)
          obtain ⟨t, e, q⟩ := hp 0 v k rfl rfl
          subst e
          exact ⟨.ref t :: ys, .cons rfl h1, .cons ⟨t, rfl, q⟩ h2⟩
    refine hh 0 vs kss (by rw [hl, hn, hkss]) fun j v k a b => ?_
    obtain ⟨t, ks, e1, e2, e3⟩ := at_ j v (hp j v a)
    rw [b] at e2; cases e2
    exact ⟨t, e1, e3⟩
  have hp : ∀ {vs : List Value}, vs.length = es.size → (∀ (j : Nat) (v : Value), vs[j]? = some v → ∃ e : DictEntry, es[j]? = some e ∧ v = e.key) → ∀ v ∈ vs, TS.TupInts s.heap v (TS.intsOf s.heap v) ∧ TS.intsOf s.heap v ≠ [] := fun {vs} hl hpv v hv => by
    obtain ⟨j, hj⟩ := List.mem_iff_getElem?.mp hv
    obtain ⟨t, ks, e1, e2, e3⟩ := at_ j v (hpv j v hj)
    subst e1
    have z := tupI_raw I e3
    rw [z.ints]
    exact ⟨z, hne _ (List.mem_of_getElem? e2)⟩
  refine MiS.sortedS (MiS.swo_tups (TS.intsOf s.heap)) (MiS.srcRaw lo es ep) (I.ok.hd hc) hraw (by rw [hn]; exact hz) (fun vs hl hpv h2 h₁ a tk ha kk => ?_) fun vs out h' tk c D hl hpv h1 h2 hkp hD hat => ?_
  · refine MiS.tups_sortableO (s := { s with heap := h₁, toks := tk }) (by omega) (fun v hv => ⟨(hp hl hpv v hv).1.keeps fun b o e _ => (kk b o e).2, (hp hl hpv v hv).2⟩) fun o e => ?_
    have e' : some o = some (seqObj "list" vs.toArray 0) := e.symm.trans ha
    cases e'
    intro c
    exact absurd (Value.type.inj c) (by decide)
  · obtain ⟨ys, rv, ht⟩ := all_ hl hpv
    obtain ⟨k1, k2⟩ := out_tups I rv ht h1 h2
    have hlen : (out.map backV).length ≤ sizeLine := by
      rw [List.length_map, h2.len, hl, hn]; exact hz
    exact ⟨.ref D, upd H D (.lst (out.map backV)), I.laid (t' := tk) hkp hD ⟨hlen, out, c, k1, hat⟩, rfl, q _ _ k2 (I.hok.fresh hD)⟩
end
end Mi

set_option Elab.async false
set_option linter.all false
set_option maxRecDepth 100000
/-! Mi, part 14: sorted by values; isinstance; enumerate. -/
namespace Mi
open PySem PySem.Spec L2

def tupsOf : List MV → Option (List (List Int))
  | [] => some []
  | .tup xs :: r => match intsOf xs, tupsOf r with
    | some ks, some kss => if ks.isEmpty then none else some (ks :: kss)
    | _, _ => none
  | _ :: _ => none
def mkT (ks : List Int) : MV := .tup (ks.map .int)
theorem tupsOf_ok {K : PySem.W.Frag} {C : Str → Addr} {H : Hp} {P : Addr → Prop} : ∀ {ms : List MV} {kss : List (List Int)} {xs : List V}, tupsOf ms = some kss → RlL K C H P ms xs → TupsAt H xs kss ∧ ∀ ks ∈ kss, ks ≠ []
  | [], _, _, e, h => by cases e; cases h; exact ⟨.nil, fun ks h => absurd h (by simp)⟩
  | .tup ys :: r, _, _, e, ⟨x, xr, ex, ⟨a, zs, e1, h1, h2⟩, h3⟩ => by
    simp only [tupsOf] at e
    split at e
    · rename_i ks kss' q1 q2
      split at e
      · cases e
      · rename_i hne
        cases e
        subst ex e1
        obtain ⟨i1, i2⟩ := tupsOf_ok q2 h3
        have := intsOf_ok q1 h2
        subst this
        refine ⟨.cons ⟨a, rfl, h1⟩ i1, fun k hk => ?_⟩
        rcases List.mem_cons.mp hk with e | hk
        · subst e; simpa using hne
        · exact i2 k hk
    · cases e
  | .non :: _, _, _, e, _ => by simp [tupsOf] at e
  | .bl _ :: _, _, _, e, _ => by simp [tupsOf] at e
  | .int _ :: _, _, _, e, _ => by simp [tupsOf] at e
  | .str _ :: _, _, _, e, _ => by simp [tupsOf] at e
  | .lst _ :: _, _, _, e, _ => by simp [tupsOf] at e
  | .dct _ _ _ :: _, _, _, e, _ => by simp [tupsOf] at e
  | .obj _ _ _ :: _, _, _, e, _ => by simp [tupsOf] at e
  | .scr _ :: _, _, _, e, _ => by simp [tupsOf] at e
  | .ktp _ :: _, _, _, e, _ => by simp [tupsOf] at e
theorem rl_tups {K : PySem.W.Frag} {C : Str → Addr} {H : Hp} {P : Addr → Prop} {ys : List V} {kss : List (List Int)} (h : TupsAt H ys kss) : RlL K C H P (kss.map mkT) ys := by
  induction h with
  | nil => rfl
  | cons a _ ih =>
    obtain ⟨t, e, q⟩ := a
    exact ⟨_, _, rfl, ⟨t, _, e, q, rlInts _⟩, ih⟩
def bSortL : List MV → Rs MV
  | [.lst ms] => match intsOf ms with
    | some ns => .ok (.lst ((isort ltI ns).map .int))
    | none => match tupsOf ms with
      | some kss => .ok (.lst ((isort HT.lexLt kss).map mkT))
      | none => .no
  | _ => .no
def bSortD : List MV → Rs MV
  | [.dct true ks _] => match tupsOf ks with
    | some kss => .ok (.lst ((isort HT.lexLt kss).map mkT))
    | none => .no
  | _ => .no
def bSorted : List MV → Rs MV
  | [.dct t ks vs] => bSortD [.dct t ks vs]
  | x => bSortL x
theorem keysOf_ints : ∀ {ms : List MV} {ns : List Int}, intsOf ms = some ns → keysOf ms = some (ns.map Sum.inl)
  | [], _, e => by cases e; rfl
  | .int i :: r, _, e => by
    simp only [intsOf, Option.map_eq_some_iff] at e
    obtain ⟨ns, e1, e2⟩ := e
    subst e2
    simp [keysOf, keyOf, keysOf_ints e1]
  | .non :: _, _, e => by simp [intsOf] at e
  | .bl _ :: _, _, e => by simp [intsOf] at e
  | .str _ :: _, _, e => by simp [intsOf] at e
  | .tup _ :: _, _, e => by simp [intsOf] at e
  | .lst _ :: _, _, e => by simp [intsOf] at e
  | .dct _ _ _ :: _, _, e => by simp [intsOf] at e
  | .obj _ _ _ :: _, _, e => by simp [intsOf] at e
  | .scr _ :: _, _, e => by simp [intsOf] at e
  | .ktp _ :: _, _, e => by simp [intsOf] at e
theorem tkeysOf_tups : ∀ {ms : List MV} {kss : List (List Int)}, tupsOf ms = some kss → tkeysOf ms = some (kss.map (·.map Sum.inl)) ∧ ∀ ks ∈ kss, ks ≠ []
  | [], _, e => by cases e; exact ⟨rfl, fun ks h => absurd h (by simp)⟩
  | .tup ys :: r, _, e => by
    simp only [tupsOf] at e
    split at e
    · rename_i ks kss' q1 q2
      split at e
      · cases e
      · rename_i hne
        cases e
        obtain ⟨i1, i2⟩ := tkeysOf_tups q2
        refine ⟨by simp [tkeysOf, tkeyOf, keysOf_ints q1, i1], fun k hk => ?_⟩
        rcases List.mem_cons.mp hk with e | hk
        · subst e; simpa using hne
        · exact i2 k hk
    · cases e
  | .non :: _, _, e => by simp [tupsOf] at e
  | .bl _ :: _, _, e => by simp [tupsOf] at e
  | .int _ :: _, _, e => by simp [tupsOf] at e
  | .str _ :: _, _, e => by simp [tupsOf] at e
  | .lst _ :: _, _, e => by simp [tupsOf] at e
  | .dct _ _ _ :: _, _, e => by simp [tupsOf] at e
  | .obj _ _ _ :: _, _, e => by simp [tupsOf] at e
  | .scr _ :: _, _, e => by simp [tupsOf] at e
  | .ktp _ :: _, _, e => by simp [tupsOf] at e
section
variable {T : Tb} {X : Cx}
theorem CallN.or {f : Value} {g g' h : List MV → Rs MV} (a : CallN T X f g) (b : CallN T X f g') (c : ∀ x m, h x = .ok m → g x = .ok m ∨ g' x = .ok m) : CallN T X f h := by
  obtain ⟨r, h1, h2⟩ := a
  obtain ⟨r', h3, h4⟩ := b
  exact ⟨_, h1.or h3, fun H P G ms xs m Q rs em q => (c _ _ em).imp (fun z => h2 H P G ms xs m Q rs z q) (fun z => h4 H P G ms xs m Q rs z q)⟩
theorem cn_sortL : CallN T X (.builtin "sorted") bSortL := ⟨_, cr_sortedI.or cr_sortedTI, fun H P G ms xs m Q rs em q => by
  unfold bSortL at em
  split at em
  · rename_i ms
    obtain ⟨x, rfl, r⟩ := pr1 rs
    obtain ⟨a, ys, rfl, _, h1, h2⟩ := r
    split at em
    · rename_i ns e1
      cases em
      have := intsOf_ok e1 h2
      subst this
      refine .inl ⟨a, ns, rfl, SqL.of h1, fun ns' p hp hs hn => ?_⟩
      rw [isortI_uniq hp hs]
      exact q _ _ (same_upd hn) hn (own_lst hn (rlInts _))
    · split at em
      · rename_i kss e2
        cases em
        obtain ⟨t1, t2⟩ := tupsOf_ok e2 h2
        exact .inr ⟨a, ys, kss, rfl, SqL.of h1, t1, t2, fun zs p ht hn => q _ _ (same_upd hn) hn (own_lst hn (rl_tups ht))⟩
      · cases em
  · cases em⟩
theorem cn_sortD (hc : X.calm = true) : CallN T X (.builtin "sorted") bSortD := ⟨_, cr_sortedDI hc, fun H P G ms xs m Q rs em q => by
  unfold bSortD at em
  split at em
  · rename_i ks vs
    obtain ⟨x, rfl, r⟩ := pr1 rs
    obtain ⟨a, ys, rfl, _, ⟨o, h1, h3⟩, h2⟩ := r
    split at em
    · rename_i kss e2
      cases em
      obtain ⟨t1, t2⟩ := tkeysOf_tups e2
      rcases dctH_cases h1 with ⟨z, _⟩ | ⟨_, kk, g1, g2, rfl⟩
      · cases z
      · rw [t1] at g1
        cases g1
        refine ⟨a, _, kss, rfl, h3, ?_, t2, fun zs p ht hn => q _ _ (same_upd hn) hn (own_lst hn (rl_tups ht))⟩
        rw [List.map_fst_zip (by rw [g2]; exact Nat.le_refl _)]
    · cases em
  · cases em⟩
theorem cn_sorted (hc : X.calm = true := by rfl) : CallN T X (.builtin "sorted") bSorted := cn_sortL.or (cn_sortD hc) fun x m e => by
  unfold bSorted at e
  split at e
  · exact .inr e
  · exact .inl e
theorem nx_sorted : noExL bSorted := fun x c e => by
  unfold bSorted at e
  split at e
  · unfold bSortD at e
    split at e <;> (try split at e) <;> cases e
  · unfold bSortL at e
    split at e <;> (try split at e) <;> (try split at e) <;> cases e
/-- list(..) of a constant tuple of the module too -/
def bListA : List MV → Rs MV
  | [.ktp ms] => .ok (.lst ms)
  | x => bList x
theorem cn_listA : CallN T X (.type "list") bListA := by
  have k : CallN T X (.type "list") (fun x => match x with | [.ktp ms] => .ok (.lst ms) | _ => .no) := ⟨_, call_list_of, fun H P G ms xs m Q rs em q => by
    dsimp only at em
    split at em
    · obtain ⟨x, rfl, r⟩ := pr1 rs
      obtain ⟨a, ys, rfl, h1, h2⟩ := r
      cases em
      exact ⟨a, ys, rfl, .inr h1.seq, fun l hl => q _ _ (same_upd hl) hl (own_lst hl h2)⟩
    · cases em⟩
  refine k.or cn_list fun x m e => ?_
  unfold bListA at e
  split at e
  · exact .inl e
  · exact .inr e
theorem nx_listA : noExL bListA := fun x c e => by
  unfold bListA bList at e
  split at e <;> (try split at e) <;> cases e
end

/-! ### isinstance -/
inductive TyN where
  | int | bool | str | tuple | list | dict
def tyS : TyN → String
  | .int => "int" | .bool => "bool" | .str => "str" | .tuple => "tuple" | .list => "list" | .dict => "dict"
def isiB : MV → TyN → Option Bool
  | .non, _ => some false
  | .bl _, .int => some true
  | .bl _, .bool => some true
  | .bl _, _ => some false
  | .int _, .int => some true
  | .int _, _ => some false
  | .str _, .str => some true
  | .str _, _ => some false
  | .tup _, .tuple => some true
  | .tup _, _ => some false
  | .ktp _, .tuple => some true
  | .ktp _, _ => some false
  | .lst _, .list => some true
  | .lst _, _ => some false
  | .scr _, .list => some true
  | .scr _, _ => some false
  | .dct _ _ _, .dict => some true
  | .dct _ _ _, _ => some false
  | .obj _ _ _, _ => none
def dIsi (n : TyN) (d : ED) : ED := fun ρ => (d ρ).bind fun m => match isiB m n with
  | some b => .ok (.bl b)
  | none => .no
section
variable {K : PySem.W.Frag} {C : Str → Addr} {H : Hp} {P G : Addr → Prop}
def tyM : MV → String
  | .non => "NoneType" | .bl _ => "bool" | .int _ => "int" | .str _ => "str" | .tup _ => "tuple" | .ktp _ => "tuple" | .lst _ => "list" | .scr _ => "list" | .dct _ _ _ => "dict" | .obj _ _ _ => ""
theorem tyx {m : MV} {x : V} (h : Ra K C H P G m x) (hm : ∀ c ns vs, m ≠ .obj c ns vs) : TyX K H x (.type (tyM m)) := by
  cases m with
  | non => obtain rfl : x = .non := h; exact .base .non
  | bl b => obtain rfl : x = .bl b := h; exact .base (.bl b)
  | int i => obtain rfl : x = .int i := h; exact .base (.int i)
  | str i => obtain rfl : x = .str i := h; exact .base (.str i)
  | tup ms => obtain ⟨a, xs, rfl, h1, _⟩ := h; exact .base (.tup h1)
  | ktp ms => obtain ⟨a, xs, rfl, ⟨o, _, _, hk, hc, _⟩, _⟩ := h; exact .kTuple hk hc
  | lst ms => obtain ⟨a, xs, rfl, _, h1, _⟩ := h; exact .base (.lst h1)
  | scr ns =>
    obtain ⟨a, rfl, h⟩ := h
    rcases h with ⟨_, h⟩ | ⟨o, h⟩ | ⟨o, _, _, hk, hc, _⟩
    · exact .base (.lst h)
    · exact .base (.frz h)
    · exact .kList hk hc
  | dct t ks vs =>
    obtain ⟨a, xs, rfl, _, ⟨o, h1, h2⟩, _⟩ := h
    rcases dctH_cases h1 with ⟨_, _, _, _, rfl⟩ | ⟨_, _, _, _, rfl⟩
    · exact .base (.dK h2)
    · exact .base (.dT h2)
  | obj c ns vs => exact absurd rfl (hm c ns vs)
theorem isi_kit : ∀ {m : MV} {n : TyN} {b : Bool}, isiB m n = some b → kitB (tyM m) (tyS n) = some b := by
  have k : ∀ (a : String) (n : TyN) (b : Bool), (a, n, b) ∈ [("NoneType", TyN.int, false), ("NoneType", .bool, false), ("NoneType", .str, false), ("NoneType", .tuple, false), ("NoneType", .list, false), ("NoneType", .dict, false),
      ("bool", .int, true), ("bool", .bool, true), ("bool", .str, false), ("bool", .tuple, false), ("bool", .list, false), ("bool", .dict, false),
      ("int", .int, true), ("int", .bool, false), ("int", .str, false), ("int", .tuple, false), ("int", .list, false), ("int", .dict, false),
      ("str", .int, false), ("str", .bool, false), ("str", .str, true), ("str", .tuple, false), ("str", .list, false), ("str", .dict, false),
      ("tuple", .int, false), ("tuple", .bool, false), ("tuple", .str, false), ("tuple", .tuple, true), ("tuple", .list, false), ("tuple", .dict, false),
      ("list", .int, false), ("list", .bool, false), ("list", .str, false), ("list", .tuple, false), ("list", .list, true), ("list", .dict, false),
      ("dict", .int, false), ("dict", .bool, false), ("dict", .str, false), ("dict", .tuple, false), ("dict", .list, false), ("dict", .dict, true)] → kitB a (tyS n) = some b := by
    have h : ([("NoneType", TyN.int, false), ("NoneType", .bool, false), ("NoneType", .str, false), ("NoneType", .tuple, false), ("NoneType", .list, false), ("NoneType", .dict, false),
      ("bool", .int, true), ("bool", .bool, true), ("bool", .str, false), ("bool", .tuple, false), ("bool", .list, false), ("bool", .dict, false),
      ("int", .int, true), ("int", .bool, false), ("int", .str, false), ("int", .tuple, false), ("int", .list, false), ("int", .dict, false),
      ("str", .int, false), ("str", .bool, false), ("str", .str, true), ("str", .tuple, false), ("str", .list, false), ("str", .dict, false),
      ("tuple", .int, false), ("tuple", .bool, false), ("tuple", .str, false), ("tuple", .tuple, true), ("tuple", .list, false), ("tuple", .dict, false),
      ("list", .int, false), ("list", .bool, false), ("list", .str, false), ("list", .tuple, false), ("list", .list, true), ("list", .dict, false),
      ("dict", .int, false), ("dict", .bool, false), ("dict", .str, false), ("dict", .tuple, false), ("dict", .list, false), ("dict", .dict, true)] : List (String × TyN × Bool)).all (fun z => kitB z.1 (tyS z.2.1) == some z.2.2) = true := by decide +kernel
    intro a n b hm
    simpa using List.all_eq_true.mp h _ hm
  intro m n b e
  cases m <;> cases n <;> first | (cases e; exact k _ _ _ (by simp [tyM])) | cases e
end
section
variable {T : Tb} {X : Cx} {W : WX} {e : Expr} {d : ED} {p q pos : Pos}
theorem se_isi (n : TyN) {ty : Str} (hm : X.mg "isinstance" = none) (hmt : X.mg ty = none) (he : SB T X W e d) (hty : bootBuiltins ty = some (.type (tyS n)) := by decide +kernel) (hgt : Gl X ty := by rfl) (hnt : ty ≠ "__name__" := by decide) (hdt : (ty == ("__debug__" : Str)) = false := by decide) (hg : Gl X "isinstance" := by rfl)
    (hs1 : starEach [e, .Name ty q] X.env = (false, eval e X.env) :: starEach [.Name ty q] X.env := by rfl) (hs2 : starEach [.Name ty q] X.env = (false, eval (.Name ty q) X.env) :: starEach [] X.env := by rfl) (hpl : (backTo pos (starEach [.Name ty q] X.env)).any (·.1) = false := by rfl) :
    SE T X W (.Call (.Name "isinstance" p) [e, .Name ty q] [] pos) (dIsi n d) := fun B =>
  (pe_callB call_isi hg hm PyProof.Rows.boot_isinstance (pa_cons (he B) (pa_cons (pe_bltn (v := .ty (tyS n)) hgt hmt hty rfl hnt hdt) pa_nil hs2) hs1) (by decide) (by decide) hs1 hpl).imp fun σ H Q ⟨ρ, R, z⟩ => by
    refine ⟨ρ, R, ?_⟩
    unfold dIsi at z
    cases e1 : d ρ with
    | ex c => rw [e1] at z; exact z
    | no => rw [e1] at z; exact z
    | ok m =>
      rw [e1] at z
      simp only [Rs.bind_ok] at z
      intro x H1 s1 r1
      cases e2 : isiB m n with
      | none => rw [e2] at z; exact z.elim
      | some b =>
        rw [e2] at z
        exact ⟨x, .ty (tyS n), _, _, b, rfl, .ty _, tyx r1 (fun c ns vs h => by subst h; cases n <;> cases e2), kit_ty (isi_kit e2), z _ H1 s1 rfl⟩
end

/-! ### enumerate(list) -/
def enumM : Nat → List MV → List MV
  | _, [] => []
  | n, m :: ms => .tup [.int n, m] :: enumM (n + 1) ms
theorem enumM_len : ∀ (n : Nat) (ms : List MV), (enumM n ms).length = ms.length
  | _, [] => rfl
  | n, m :: ms => by simp [enumM, enumM_len (n + 1) ms]
theorem enumM_get : ∀ (n : Nat) (ms : List MV) (i : Nat) (m : MV), ms[i]? = some m → (enumM n ms)[i]? = some (.tup [.int (n + i : Nat), m])
  | _, [], _, _, h => by simp at h
  | n, a :: ms, 0, m, h => by cases h; rfl
  | n, a :: ms, i + 1, m, h => by
    simp only [enumM, List.getElem?_cons_succ]
    rw [enumM_get (n + 1) ms i m (by simpa using h)]
    congr 5
    omega
def iEnumD (d : ED) : ID := fun ρ => (d ρ).bind fun m => match m with
  | .lst ms => .ok (enumM 0 ms)
  | _ => .no
section
variable {T : Tb} {X : Cx} {W : WX} {e : Expr} {d : ED} {p pos tpos : Pos} {elts : List Expr} {kk : Nat}
theorem it_enum {K : PySem.W.Frag} {H0 : Hp} {P : Addr → Prop} {a : Addr} {xs : List V} {ms : List MV} {H1 : Hp} (hk : ∀ H, Same H0 H → H a = some (.lst xs)) (r : RlL K T.C H1 P ms xs) (hr : ∀ H, Same H0 H → RlL K T.C H P ms xs) : ItOk K T H0 P (Ite K a) (enumM 0 ms) :=
  ⟨fun H s i hi => by
    rw [enumM_len] at hi
    obtain ⟨m, hm⟩ : ∃ m, ms[i]? = some m := ⟨_, List.getElem?_eq_getElem hi⟩
    obtain ⟨x, hx, _⟩ := r.get hm
    exact ⟨xs, x, SqL.of (hk H s), hx⟩,
  fun H s i v H' ⟨t, x, e, hn, e', y⟩ hi => by
    rw [enumM_len] at hi
    obtain ⟨m, hm⟩ : ∃ m, ms[i]? = some m := ⟨_, List.getElem?_eq_getElem hi⟩
    obtain ⟨x', hx, hr'⟩ := (hr _ s).get hm
    have := y xs (SqL.of (hk _ s))
    rw [hx] at this
    cases this
    subst e e'
    exact ⟨.tup [.int (i : Nat), m], by rw [enumM_get 0 ms i m hm, Nat.zero_add], same_upd hn, ⟨t, _, rfl, upd_same, ⟨_, _, rfl, rfl, ⟨x, [], rfl, hr'.same (same_upd hn), rfl⟩⟩⟩⟩,
  fun H s i hi => by rw [enumM_len] at hi; exact ⟨xs, SqL.of (hk H s), by rw [← r.length]; exact hi⟩⟩
theorem si_enum (hm : X.mg "enumerate" = none) (h : SE T X W e d) (hg : Gl X "enumerate" := by rfl) (hs : starEach [e] X.env = [(false, eval e X.env)] := by rfl) : SI T X W (.Tuple elts kk tpos) (.Call (.Name "enumerate" p) [e] [] pos) (iEnumD d) := fun B =>
  (pi_enum hg hm (pa_cons (h B) pa_nil hs) hs).imp fun σ H R ⟨ρ, S, q⟩ => by
    refine ⟨ρ, S, ?_⟩
    unfold iEnumD at q
    cases e1 : d ρ with
    | ex c => rw [e1] at q; exact q
    | no => rw [e1] at q; exact q
    | ok m =>
      rw [e1] at q
      simp only [Rs.bind_ok] at q
      intro v H' s r
      cases m with
      | lst ms =>
        obtain ⟨a, xs, rfl, p, h1, h2⟩ := r
        refine ⟨a, xs, rfl, SqL.of h1, q _ H' s (it_enum (H1 := H') (fun H'' z => z _ _ (cutH_some.mpr ⟨p.2, h1⟩)) h2.tr fun H'' z => ?_)⟩
        have no : ∀ {a : Addr} {o : HO}, H' a = some o → (∃ xs, o = .tup xs) ∨ (∃ q u, o = .frz q u) → ¬ OwnAt σ ρ a := fun h t w => by
          obtain ⟨_, u, e2, e3, e4⟩ := (S.grow s).owned w
          rw [h] at e2; cases e2
          rcases t with ⟨xs, t⟩ | ⟨y, u, t⟩
          · exact e3 _ t
          · exact e4 _ _ t
        exact RlL.keep ⟨fun a o h t => z a o (cutH_some.mpr ⟨no h t, h⟩), fun a o h t => ⟨z a o (cutH_some.mpr ⟨t.2, h⟩), t, by rw [h]; simp⟩⟩ _ h2
      | _ => exact q.elim
end
end Mi

set_option Elab.async false
set_option linter.all false
set_option maxRecDepth 100000
/-! Mi, part 15: calls by name in short; in, over everything. -/
namespace Mi
open PySem PySem.Spec L2

/-- the module's def x computes g -/
structure FnU (P : Program) (w : World) (K : PySem.W.Frag) (mg : Str → Option Value) (base : Heap) (T : Tb) (k : Nat) (x : Str) (g : FD) : Prop where
  ex : ∃ f fd ps, FnS P w K mg base T k f fd ps g ∧ mg x = some (.ref f) ∧ PySem.W.keepIn K (.ref f) = true ∧ Binds K fd ps []
theorem FnU.mono {P : Program} {w : World} {K : PySem.W.Frag} {mg : Str → Option Value} {base : Heap} {T : Tb} {j k : Nat} {x : Str} {g : FD} (U : FnU P w K mg base T j x g) (h : j ≤ k) : FnU P w K mg base T k x g := by
  obtain ⟨f, fd, ps, F, r⟩ := U.ex
  exact ⟨f, fd, ps, F.mono h, r⟩
section
variable {T : Tb} {X : Cx} {W : WX} {k j : Nat} {g g1 g2 : FD} {x x1 x2 : Str} {p p1 p2 lp sp pos : Pos} {e ie : Expr} {es : List Expr} {da : AD} {di : ED}
theorem se_callU (U : FnU X.prog X.w X.K X.mg X.base T k x g) (hr : Room j X.A) (tk : Takes X W) (ha : SA T X W true (e :: es) da) (hkj : k ≤ j := by decide) (hg : Gl X x := by rfl) (hdb : (x == ("__debug__" : Str)) = false := by decide)
    (he : starEach (e :: es) X.env = (false, eval e X.env) :: starEach es X.env := by rfl) (hpl : (backTo pos (starEach es X.env)).any (·.1) = false := by rfl) : SE T X W (.Call (.Name x p) (e :: es) [] pos) (dCall g da) := by
  obtain ⟨f, fd, ps, F, hm, hk, hb⟩ := U.ex
  exact se_call F (hr.mono hkj) hm hk hb tk ha hg hdb he hpl
theorem se_callUF (U : FnU X.prog X.w X.K X.mg X.base T k x g) (hr : Room j X.A) (tk : Takes X W) (ha : SA T X W false (e :: es) da) (hkj : k ≤ j := by decide) (hg : Gl X x := by rfl) (hdb : (x == ("__debug__" : Str)) = false := by decide)
    (he : starEach (e :: es) X.env = (false, eval e X.env) :: starEach es X.env := by rfl) (hpl : (backTo pos (starEach es X.env)).any (·.1) = false := by rfl) : SE T X W (.Call (.Name x p) (e :: es) [] pos) (dCall (flatOnly g) da) := by
  obtain ⟨f, fd, ps, F, hm, hk, hb⟩ := U.ex
  exact se_callF F (hr.mono hkj) hm hk hb tk ha hg hdb he hpl
/-- [f, g][i](..) -/
def dSel (gs : List FD) (di : ED) (da : AD) : ED := fun ρ => (di ρ).bind fun m => match m with
  | .int i => (match L2.atI gs i with
    | some g => (da ρ).bind g
    | none => .no)
  | _ => .no
theorem ixN_two {i : Int} {n : Nat} (h : L2.ixN 2 i = some n) : n = 0 ∨ n = 1 := by
  have := (ixN_seq h).2.1
  omega
theorem se_sel2 (U1 : FnU X.prog X.w X.K X.mg X.base T k x1 g1) (U2 : FnU X.prog X.w X.K X.mg X.base T k x2 g2) (hr : Room j X.A) (tk : Takes X W) (hi : SE T X W ie di) (ha : SA T X W true (e :: es) da) (hkj : k ≤ j := by decide)
    (hg1 : Gl X x1 := by rfl) (hg2 : Gl X x2 := by rfl) (hd1 : (x1 == ("__debug__" : Str)) = false := by decide) (hd2 : (x2 == ("__debug__" : Str)) = false := by decide)
    (hs1 : starEach [.Name x1 p1, .Name x2 p2] X.env = (false, eval (.Name x1 p1) X.env) :: starEach [.Name x2 p2] X.env := by rfl) (hs2 : starEach [.Name x2 p2] X.env = (false, eval (.Name x2 p2) X.env) :: starEach [] X.env := by rfl) (hpi : PlainIx ie := by exact fun _ _ => rfl)
    (he : starEach (e :: es) X.env = (false, eval e X.env) :: starEach es X.env := by rfl) (hpl : (backTo pos (starEach es X.env)).any (·.1) = false := by rfl)
    (hev : eval (.Call (.Subscript (.List [.Name x1 p1, .Name x2 p2] lp) ie sp) (e :: es) [] pos) X.env = (do callWith pos (← eval (.Subscript (.List [.Name x1 p1, .Name x2 p2] lp) ie sp) X.env) [] (backTo pos (starEach (e :: es) X.env)) (backToKw pos (keywordEach [] X.env))) := by rfl) :
    SE T X W (.Call (.Subscript (.List [.Name x1 p1, .Name x2 p2] lp) ie sp) (e :: es) [] pos) (dSel [g1, g2] di da) := fun B => by
  obtain ⟨f1, fd1, ps1, F1, hm1, hk1, hb1⟩ := U1.ex
  obtain ⟨f2, fd2, ps2, F2, hm2, hk2, hb2⟩ := U2.ex
  refine ⟨fun pins s σ H Q I ⟨ρ, R, q⟩ => ?_⟩
  have sel : PE X (.Subscript (.List [.Name x1 p1, .Name x2 p2] lp) ie sp) _ := pe_ix ix_seq (pe_lst (pa_cons (pe_glob (v := .ref f1) hg1 hm1 rfl hd1) (pa_cons (pe_glob (v := .ref f2) hg2 hm2 rfl hd2) pa_nil hs2) hs1)) (hi B) hpi
  unfold dSel at q
  -- the answers of the index
  have pre : tOp (rIx X.K) (tLst (tCons (tC (.ref f1)) (tCons (tC (.ref f2)) tNil))) (tE X.K T B W di) σ H (fun v H1 => Same H H1 ∧ ((∃ i, di ρ = .ok (.int i) ∧ L2.atI [g1, g2] i = some g1 ∧ v = .ref f1) ∨ (∃ i, di ρ = .ok (.int i) ∧ L2.atI [g1, g2] i = some g2 ∧ v = .ref f2))) := by
    refine ⟨line1000 (by show 2 ≤ 1000; decide), fun p hp => ⟨ρ, R.grow (same_upd hp), ?_⟩⟩
    cases e1 : di ρ with
    | ex c => rw [e1] at q; exact fun cls dd H' s z => q cls dd H' ((same_upd hp).trans s) z
    | no => rw [e1] at q; exact q.elim
    | ok m =>
      rw [e1] at q
      intro v H' s r
      cases m with
      | int i =>
        obtain rfl : v = .int i := r
        simp only [Rs.bind_ok] at q
        cases e2 : L2.ixN 2 i with
        | none =>
          have : L2.atI [g1, g2] i = none := by unfold L2.atI; rw [show ([g1, g2] : List FD).length = 2 from rfl, e2]; rfl
          rw [this] at q; exact q.elim
        | some n =>
          have a1 : ∀ {α : Type} (a b : α), L2.atI [a, b] i = [a, b][n]? := fun a b => by unfold L2.atI; rw [show ([a, b] : List _).length = 2 from rfl, e2]; rfl
          rcases ixN_two e2 with rfl | rfl
          · exact .inl ⟨p, _, i, .ref f1, rfl, rfl, SqL.of (s _ _ upd_same), a1 _ _, (same_upd hp).trans s, .inl ⟨i, rfl, a1 _ _, rfl⟩⟩
          · exact .inl ⟨p, _, i, .ref f2, rfl, rfl, SqL.of (s _ _ upd_same), a1 _ _, (same_upd hp).trans s, .inr ⟨i, rfl, a1 _ _, rfl⟩⟩
      | _ => exact q.elim
  have go : ∀ {f : Addr} {fd : FuncData} {ps : List Str} {g : FD} {i : Int} {u : Value} {s1 : Shared} {H1 : Hp}, FnS X.prog X.w X.K X.mg X.base T k f fd ps g → PySem.W.keepIn X.K (.ref f) = true → Binds X.K fd ps [] → di ρ = .ok (.int i) → L2.atI [g1, g2] i = some g → L2.Inv X pins σ H1 s1 → Same H H1 → RelV (.ref f) u →
      wpAny (model X.prog X.w) X.A (callWith pos u [] (backTo pos (starEach (e :: es) X.env)) (backToKw pos (keywordEach [] X.env))) (EP X pins σ Q) X.xe s1 := fun {f fd ps g i u s1 H1} F hk hb e1 e2 I1 s r => by
    cases r
    simp only [e1, Rs.bind_ok, e2] at q
    have arg : tA X.K T B W true da σ H1 (fun vs H2 => spF X.K T g vs H2 Q (WE W σ)) := by
      refine ⟨ρ, R.grow s, ?_⟩
      cases e3 : da ρ with
      | ex c => rw [e3] at q; exact fun cls dd H' s' z => q cls dd H' (s.trans s') z
      | no => rw [e3] at q; exact q.elim
      | ok ms =>
        simp only [e3, Rs.bind_ok] at q
        intro vs H2 s2 r2
        refine ⟨ms, Pf B σ ρ, r2, ?_⟩
        cases e4 : g ms with
        | ok m => rw [e4] at q; exact fun v H' s' r => q v H' ((s.trans s2).trans s') (((R.grow s).grow s2).up r)
        | ex c => rw [e4] at q; exact fun cls dd H' s' z => q cls dd H' ((s.trans s2).trans s') z
        | no => rw [e4] at q; exact q.elim
    refine PySem.W.callWith_K (h₀ := X.base) I1.ok.mod.kin hk (thn ((ha B).run pos pins s1 σ H1 _ I1 arg) fun us s2 ⟨vs, H2, I2, r2, q2⟩ => ⟨I2.kIn, ?_⟩) he hpl
    exact run_fnS F (hr.mono hkj) hb (passAt tk σ) I2 r2 q2
  rw [hev]
  refine wpAny_bind (thn (sel.run pins s σ H _ I pre) fun u s1 ⟨v, H1, I1, r1, sm, q1⟩ => ?_)
  rcases q1 with ⟨i, e1, e2, rfl⟩ | ⟨i, e1, e2, rfl⟩
  · exact go F1 hk1 hb1 e1 e2 I1 sm r1
  · exact go F2 hk2 hb2 e1 e2 I1 sm r1
end
/-! ### in, over everything -/
def opInA : MV → MV → Rs MV := fun x y => match y with
  | .dct _ _ _ => opInDc x y
  | .lst _ => opInL x y
  | .str _ => opInS x y
  | _ => opInT x y
section
variable {T : Tb} {X : Cx} {k : Nat}
def inA1 : MV → MV → Rs MV := fun x y => match y with | .str _ => opInS x y | _ => opInT x y
def inA2 : MV → MV → Rs MV := fun x y => match y with | .lst _ => opInL x y | _ => inA1 x y
theorem opInA_eq (x y : MV) : opInA x y = (match y with | .dct _ _ _ => opInDc x y | _ => inA2 x y) := by cases y <;> rfl
theorem os_inA (hr : Room k X.A) : OpS T X (compareOp .In) opInA := OpS.or (os_inD hr) (OpS.or (os_inL hr) (OpS.or os_inS (os_inT hr) (h := inA1) fun x y m e => by
    unfold inA1 at e
    cases y <;> first | exact .inr e | exact .inl e) (h := inA2) fun x y m e => by
    unfold inA2 at e
    cases y <;> first | exact .inr e | exact .inl e) fun x y m e => by
  rw [opInA_eq] at e
  cases y <;> first | exact .inr e | exact .inl e
theorem negB_ok {g : MV → MV → Rs MV} {x y m : MV} (h : negB g x y = .ok m) : ∃ b, g x y = .ok (.bl b) ∧ m = .bl (!b) := by
  unfold negB at h
  cases e : g x y with
  | ok z =>
    rw [e] at h
    simp only [Rs.bind_ok] at h
    cases z with
    | bl b => cases h; exact ⟨b, rfl, rfl⟩
    | _ => cases h
  | ex c => rw [e] at h; cases h
  | no => rw [e] at h; cases h
theorem negB_of {g : MV → MV → Rs MV} {x y : MV} {b : Bool} (h : g x y = .ok (.bl b)) : negB g x y = .ok (.bl (!b)) := by
  unfold negB; rw [h]; rfl
theorem os_notInA (hr : Room k X.A) : OpS T X (compareOp .NotIn) (negB opInA) := OpS.or (os_notInD hr) (OpS.or (os_notInL hr) (OpS.or os_notInS (os_notInT hr) (h := negB inA1) fun x y m e => by
    obtain ⟨b, e1, rfl⟩ := negB_ok e
    unfold inA1 at e1
    cases y <;> first | exact .inr (negB_of e1) | exact .inl (negB_of e1)) (h := negB inA2) fun x y m e => by
    obtain ⟨b, e1, rfl⟩ := negB_ok e
    unfold inA2 at e1
    cases y <;> first | exact .inr (negB_of e1) | exact .inl (negB_of e1)) fun x y m e => by
  obtain ⟨b, e1, rfl⟩ := negB_ok e
  rw [opInA_eq] at e1
  cases y <;> first | exact .inr (negB_of e1) | exact .inl (negB_of e1)
theorem nx_inA : noEx opInA := fun x y c e => by
  unfold opInA at e
  split at e
  · unfold opInDc at e; split at e <;> (try split at e) <;> cases e
  · unfold opInL at e; split at e <;> (try split at e) <;> cases e
  · unfold opInS at e; split at e <;> (try split at e) <;> cases e
  · unfold opInT at e; split at e <;> (try split at e) <;> cases e
theorem nx_neg {g : MV → MV → Rs MV} (h : noEx g) : noEx (negB g) := fun x y c e => by
  unfold negB at e
  cases q : g x y with
  | ok z => rw [q] at e; simp only [Rs.bind_ok] at e; cases z <;> cases e
  | ex c' => exact h _ _ _ q
  | no => rw [q] at e; cases e
end
end Mi

set_option Elab.async false
set_option linter.all false
set_option maxRecDepth 100000
/-! Mi, part 16: small rules that the printed derivations want. -/
namespace Mi
open PySem PySem.Spec L2

theorem nx_add : noEx opAdd := fun x y c e => by unfold opAdd at e; split at e <;> (try split at e) <;> cases e
theorem nx_sub : noEx opSub := fun x y c e => by unfold opSub at e; split at e <;> (try split at e) <;> cases e
theorem nx_mul : noEx opMul := fun x y c e => by unfold opMul at e; split at e <;> (try split at e) <;> cases e
theorem nx_fdv : noEx opFdv := fun x y c e => by unfold opFdv at e; split at e <;> (try split at e) <;> (try split at e) <;> cases e
theorem nx_mod : noEx opMod := fun x y c e => by unfold opMod at e; split at e <;> (try split at e) <;> cases e
theorem nx_pow : noEx opPow := fun x y c e => by unfold opPow at e; split at e <;> (try split at e) <;> cases e
theorem nx_shl : noEx opShl := fun x y c e => by unfold opShl at e; split at e <;> (try split at e) <;> cases e
theorem nx_shr : noEx opShr := fun x y c e => by unfold opShr at e; split at e <;> (try split at e) <;> cases e
theorem nx_and : noEx opAnd := fun x y c e => by unfold opAnd at e; split at e <;> (try split at e) <;> cases e
theorem nx_or : noEx opOr := fun x y c e => by unfold opOr at e; split at e <;> (try split at e) <;> cases e
theorem nx_lt : noEx opLt := fun x y c e => by unfold opLt at e; split at e <;> (try split at e) <;> cases e
theorem nx_le : noEx opLe := fun x y c e => by unfold opLe at e; split at e <;> (try split at e) <;> cases e
theorem nx_gt : noEx opGt := fun x y c e => by unfold opGt at e; split at e <;> (try split at e) <;> cases e
theorem nx_ge : noEx opGe := fun x y c e => by unfold opGe at e; split at e <;> (try split at e) <;> cases e
theorem nx_eq : noEx opEq := fun x y c e => by unfold opEq at e; split at e <;> cases e
theorem nx_ne : noEx opNe := fun x y c e => by unfold opNe at e; split at e <;> cases e
theorem nx_isN : noEx opIsN := fun x y c e => by unfold opIsN at e; split at e <;> (try split at e) <;> cases e
theorem nx_notN : noEx opNotN := fun x y c e => by unfold opNotN at e; split at e <;> (try split at e) <;> cases e
theorem nx_lenS : noExL bLenS := fun x c e => by unfold bLenS at e; split at e <;> (try split at e) <;> cases e
theorem nx_int : noExL bInt := fun x c e => by unfold bInt at e; split at e <;> (try split at e) <;> cases e
theorem nx_abs : noExL bAbs := fun x c e => by unfold bAbs at e; split at e <;> (try split at e) <;> cases e
theorem nx_str : noExL bStr := fun x c e => by unfold bStr at e; split at e <;> (try split at e) <;> cases e
theorem nx_tuple : noExL bTuple := fun x c e => by unfold bTuple at e; split at e <;> (try split at e) <;> cases e
theorem nx_all : noExL bAll := fun x c e => by unfold bAll at e; split at e <;> (try split at e) <;> cases e
theorem nx_any : noExL bAny := fun x c e => by unfold bAny at e; split at e <;> (try split at e) <;> cases e
theorem nx_sum : noExL bSum := fun x c e => by unfold bSum at e; split at e <;> (try split at e) <;> cases e
theorem nx_max : noExL bMax := fun x c e => by unfold bMax at e; split at e <;> (try split at e) <;> cases e
theorem nx_min : noExL bMin := fun x c e => by unfold bMin at e; split at e <;> (try split at e) <;> cases e
section
variable {T : Tb} {X : Cx} {W : WX} {e : Expr} {d : ED} {pos p p2 : Pos}
theorem ios_add : OpS T X (inplaceOp .Add) opAddI := os_int (g' := fun i j => .int (i + j)) iop_add (fun x y m e => by
  unfold opAddI at e; split at e <;> cases e; exact ⟨_, _, rfl, rfl, rfl⟩) fun _ _ _ _ => rfl
theorem ios_sub : OpS T X (inplaceOp .Sub) opSub := os_int (g' := fun i j => .int (i - j)) iop_sub (fun x y m e => by
  unfold opSub at e; split at e <;> cases e; exact ⟨_, _, rfl, rfl, rfl⟩) fun _ _ _ _ => rfl
def opMulI : MV → MV → Rs MV
  | .int i, .int j => if mulOk i j then .ok (.int (i * j)) else .no
  | _, _ => .no
theorem iop_mulA : OpR X (inplaceOp .Mult) (rI (fun i j => mulOk i j = true) fun i j => .int (i * j)) := opI fun i j _ _ _ _ _ hc q => PyProof.Rows.imul_int q (by
  unfold mulOk at hc
  simp only [Bool.or_eq_true, Bool.and_eq_true, decide_eq_true_eq] at hc
  have e64 : (2 : Int) ^ 64 = 18446744073709551616 := by decide
  rw [← e64] at hc
  rcases hc with (h | h) | h
  · exact (show CMul i j from .inl h).ok
  · exact (show CMul i j from .inr h).ok
  · exact (show CMulW i j from h).ok)
theorem ios_mul : OpS T X (inplaceOp .Mult) opMulI := os_intC (g' := fun i j => .int (i * j)) iop_mulA (fun x y m e => by
  unfold opMulI at e; split at e
  · split at e <;> cases e; exact ⟨_, _, rfl, rfl, by assumption, rfl⟩
  · cases e) fun _ _ _ _ => rfl
def opFdvI : MV → MV → Rs MV
  | .int i, .int j => if 0 < j ∧ j < 1073741824 then .ok (.int (i / j)) else .no
  | _, _ => .no
theorem ios_fdv : OpS T X (inplaceOp .FloorDiv) opFdvI := os_intC (g' := fun i j => .int (i / j)) iop_fdiv (fun x y m e => by
  unfold opFdvI at e; split at e
  · split at e <;> cases e; exact ⟨_, _, rfl, rfl, by assumption, rfl⟩
  · cases e) fun _ _ _ _ => rfl
/-! ### -x -/
def dNeg (d : ED) : ED := fun ρ => (d ρ).bind fun m => match m with
  | .int i => .ok (.int (-i))
  | _ => .no
theorem se_neg (h : SE T X W e d) : SE T X W (.UnaryOp .USub e pos) (dNeg d) := fun B => (pe_un un_neg (h B)).imp fun σ H Q ⟨ρ, R, q⟩ => by
  refine ⟨ρ, R, ?_⟩
  unfold dNeg at q
  cases e1 : d ρ with
  | ex c => rw [e1] at q; exact q
  | no => rw [e1] at q; exact q
  | ok m =>
    rw [e1] at q
    intro v H' s r
    cases m with
    | int i => exact ⟨i, r, q _ H' s rfl⟩
    | _ => exact q.elim
/-! ### a + b as a new list -/
theorem sn_cat {a b : Expr} {da db : ED} (ha : SB T X W a da) (hb : SB T X W b db) : SN T X W (.BinOp a .Add b pos) (dBin opAddL da db) := fun B => (pe_op op_cat (ha B) (hb B)).imp fun σ H Q ⟨ρ, R, q⟩ => by
  refine ⟨ρ, R, ?_⟩
  unfold dBin at q
  cases e1 : da ρ with
  | ex c => rw [e1] at q; exact q
  | no => rw [e1] at q; exact q
  | ok mx =>
    rw [e1] at q
    intro x H1 s1 rx
    refine ⟨ρ, R.grow s1, ?_⟩
    cases e2 : db ρ with
    | ex c => rw [e2] at q; exact fun cls dd H' s' z => q cls dd H' (s1.trans s') z
    | no => rw [e2] at q; exact q
    | ok my =>
      rw [e2] at q
      intro y H2 s2 ry
      simp only [Rs.bind_ok] at q
      cases e3 : opAddL mx my with
      | ex c => unfold opAddL at e3; split at e3 <;> (try split at e3) <;> cases e3
      | no => rw [e3] at q; exact q.elim
      | ok m =>
        rw [e3] at q
        unfold opAddL at e3
        split at e3
        · split at e3 <;> cases e3
          obtain ⟨a, xs, rfl, _, ha, hx⟩ := rx
          obtain ⟨b, ys, rfl, _, hb, hy⟩ := ry
          refine ⟨a, b, xs, ys, rfl, rfl, s2 _ _ ha, hb, big_line (by rw [← hx.length, ← hy.length]; assumption), fun p hp => q p _ ((s1.trans s2).trans (same_upd hp)) (s1.free (s2.free hp)) ⟨_, upd_same, ?_⟩⟩
          exact RlL.keep ⟨fun a o h _ => same_upd hp a o h, fun a o h z => ⟨same_upd hp a o h, z, ne_of_none h hp⟩⟩ _ ((hx.same s2).append hy)
        · cases e3
/-! ### name = [..], never changed -/
section
variable {elt tg iter : Expr} {ifs : List Expr} {scope : Scope} {it : ID} {g : GD} {t : TD}
theorem ss_setLc (i : Nat) {y : Str} {py spos : Pos} (own : List (Str × Nat)) (vs : List Nat) (hv : own.map (·.2) = vs) (hc : X.calm = true) (hN : X.N.Nodup) (hi : SIc T X W tg iter it) (ok : BlkOk X.N X.env.scope scope own)
    (keep : ∀ m ρ ρ', g m ρ = some ρ' → GStep vs ρ ρ')
    (hg : ∀ (s : Shared) (H : Hp) (C : Addr) (cl : List (Str × Addr)) (fp : List Addr), SG T (X.blk s H scope (compEnvC scope cl C X.env) fp) tg g vs)
    (ht : ∀ (s : Shared) (H : Hp) (C : Addr) (cl : List (Str × Addr)) (fp : List Addr), STs T (X.blk s H scope (compEnvC scope cl C X.env) fp) WF ifs t)
    (he : ∀ (s : Shared) (H : Hp) (C : Addr) (cl : List (Str × Addr)) (fp : List Addr), SE T (X.blk s H scope (compEnvC scope cl C X.env) fp) WF elt d) (hs : ∀ x, foldedSetIterable iter X.env x = pure x := by intro _; rfl)
    (hy : X.N[i]? = some y := by rfl) (hyl : X.env.scope.names.lookup y = some .local := by rfl) (hsw : swapsWith (.ListComp elt [⟨tg, iter, ifs, 0⟩] scope pos) (some (.Name y py)) spos.line X.env = pure true := by exact sw_true rfl rfl rfl rfl) :
    SS T X W (.Assign [.Name y py] (.ListComp elt [⟨tg, iter, ifs, 0⟩] scope pos) spos) (sSet i (dLc vs it g t d)) := fun B => by
  refine (ss_ownLc i own vs hv hc hN hi ok keep hg ht he hs hy hyl hsw B).imp fun D σ H h => ?_
  obtain ⟨ρ, R, q⟩ := tS_iff.mp h
  refine tS_iff.mpr ⟨ρ, R, ?_⟩
  unfold sSet at q
  unfold sOwn
  cases e1 : dLc vs it g t d ρ with
  | ex c => rw [e1] at q; exact q
  | no => rw [e1] at q; exact q
  | ok m =>
    rw [e1] at q
    intro σ' H' R'
    by_cases hl : i < ρ.length
    · have R2 := R'.frz (i := i) (m := m) (by rw [List.getElem?_set_self hl])
      rw [List.set_set] at R2
      exact q σ' H' R2
    · have e2 : ∀ x, ρ.set i x = ρ := fun x => List.set_eq_of_length_le (by omega)
      simp only [e2] at R' q
      exact q σ' H' R'
end
end
end Mi

set_option Elab.async false
set_option linter.all false
set_option maxRecDepth 100000
/-! Mi, part 17: a, b, c = x, y, z. -/
namespace Mi
open PySem PySem.Spec L2
section
variable {T : Tb} {X : Cx} {W : WX} {pos : Pos}
def sPar3 (i j k : Nat) (d : AD) : SD := fun ρ => match d ρ with
  | .ok [m, n, o] => .nx (((ρ.set i (.val m)).set j (.val n)).set k (.val o))
  | .ok _ => .no
  | .ex c => .ex c ρ
  | .no => .no
theorem ss_par3 (i j k : Nat) {x y z : Str} {a b c : Expr} {da : AD} {px py pz pt : Pos} {kt k2 pt2} (hN : X.N.Nodup) (ha : SA T X W true [a, b, c] da) (hc : X.calm = true := by rfl) (hi : X.N[i]? = some x := by rfl) (hj : X.N[j]? = some y := by rfl) (hk : X.N[k]? = some z := by rfl) (hij : i ≠ j := by decide) (hik : i ≠ k := by decide) (hjk : j ≠ k := by decide)
    (hx : X.env.scope.names.lookup x = some .local := by rfl) (hy : X.env.scope.names.lookup y = some .local := by rfl) (hz : X.env.scope.names.lookup z = some .local := by rfl)
    (hw : swappedStores [.Tuple [.Name x px, .Name y py, .Name z pz] kt pt] (.Tuple [a, b, c] k2 pt2) X.env = pure (some [x, y, z]) := by rfl)
    (hs : swapsWithSole [.Tuple [.Name x px, .Name y py, .Name z pz] kt pt] (.Tuple [a, b, c] k2 pt2) pos.line X.env = pure false := by rfl) :
    SS T X W (.Assign [.Tuple [.Name x px, .Name y py, .Name z pz] kt pt] (.Tuple [a, b, c] k2 pt2) pos) (sPar3 i j k da) := .mk fun B => ⟨_, ps_par3 hc hN hi hj hk hij hik hjk hx hy hz (ha B) hw hs, fun D σ H ρ R p => by
  refine ⟨ρ, R, ?_⟩
  unfold sPar3 at p
  cases e : da ρ with
  | ok ms =>
    rw [e] at p
    intro vs H' s rs
    match ms, rs, p with
    | [m, n, o], ⟨v, _, e1, r1, w, _, e2, r2, t, _, e3, r3, e4⟩, p =>
      subst e4 e3 e2 e1
      have R1 := RS.set (i := i) (R.grow s) r1
      have k1 : ∀ a, Pf B σ ρ a → Pf B (σ.set i (some v)) (ρ.set i (.val m)) a := fun a q => ⟨q.1, fun z => q.2 (ownAt_set z)⟩
      have R2 := RS.set (i := j) R1 (r2.imp fun a _ _ q => k1 a q)
      exact ⟨v, w, t, rfl, p _ H' (RS.set R2 (r3.imp fun a _ _ q => ⟨q.1, fun z => (k1 a q).2 (ownAt_set z)⟩))⟩
    | [], _, p => exact p.elim
    | [_], _, p => exact p.elim
    | [_, _], _, p => exact p.elim
    | _ :: _ :: _ :: _ :: _, _, p => exact p.elim
  | ex c => rw [e] at p; exact fun cls dd H' s z => p cls dd σ H' (R.grow s) z
  | no => rw [e] at p; exact p⟩
end
end Mi

set_option Elab.async false
set_option linter.all false
set_option maxRecDepth 100000
/-! Mi, part 18: constants of the module, as the written part has them. -/
namespace Mi
open PySem PySem.Spec L2

mutual
def conV (K : PySem.W.Frag) : MV → Value → Bool
  | .non, .none => true
  | .bl b, .bool c => b == c
  | .int i, .int j _ => decide (i = j)
  | .str x, .str y _ => decide (x = y)
  | .ktp ms, .ref a => match K.lookup a with
    | some ⟨.type c, _, .seq its _, _⟩ => decide (c = "tuple") && (decide (its.size ≤ sizeLine) && conL K ms its.toList)
    | _ => false
  | _, _ => false
def conL (K : PySem.W.Frag) : List MV → List Value → Bool
  | [], [] => true
  | m :: ms, u :: us => conV K m u && conL K ms us
  | _, _ => false
end
mutual
theorem conV_ok {K : PySem.W.Frag} {C : Str → Addr} : ∀ {m : MV} {u : Value}, conV K m u = true → ∃ v, RelV v u ∧ ∀ H P, Rl K C H P m v
  | .non, u, h => by
    cases u with
    | none => exact ⟨.non, rfl, fun _ _ => rfl⟩
    | _ => simp [conV] at h
  | .bl b, u, h => by
    cases u with
    | bool c => have e : b = c := by simpa [conV] using h
                subst e; exact ⟨.bl b, rfl, fun _ _ => rfl⟩
    | _ => simp [conV] at h
  | .int i, u, h => by
    cases u with
    | int j t => have e : i = j := by simpa [conV] using h
                 subst e; exact ⟨.int i, ⟨t, rfl⟩, fun _ _ => rfl⟩
    | _ => simp [conV] at h
  | .str i, u, h => by
    cases u with
    | str j t => have e : i = j := by simpa [conV] using h
                 subst e; exact ⟨.str i, ⟨t, rfl⟩, fun _ _ => rfl⟩
    | _ => simp [conV] at h
  | .ktp ms, u, h => by
    cases u with
    | ref a =>
      unfold conV at h
      split at h
      · rename_i c dd its n sl q
        simp only [Bool.and_eq_true, decide_eq_true_eq] at h
        obtain ⟨h1, h2, h3⟩ := h
        obtain ⟨xs, r1, r2⟩ := conL_ok (C := C) h3
        subst h1
        exact ⟨.ref a, rfl, fun H P => ⟨a, xs, rfl, ⟨_, its, n, q, rfl, rfl, h2, r1⟩, r2 H P⟩⟩
      · cases h
    | _ => simp [conV] at h
  | .tup _, u, h => by cases u <;> simp [conV] at h
  | .lst _, u, h => by cases u <;> simp [conV] at h
  | .dct _ _ _, u, h => by cases u <;> simp [conV] at h
  | .obj _ _ _, u, h => by cases u <;> simp [conV] at h
  | .scr _, u, h => by cases u <;> simp [conV] at h
theorem conL_ok {K : PySem.W.Frag} {C : Str → Addr} : ∀ {ms : List MV} {us : List Value}, conL K ms us = true → ∃ xs, Vals xs us ∧ ∀ H P, RlL K C H P ms xs
  | [], [], _ => ⟨[], .nil, fun _ _ => rfl⟩
  | [], _ :: _, h => by simp [conL] at h
  | _ :: _, [], h => by simp [conL] at h
  | m :: ms, u :: us, h => by
    unfold conL at h
    simp only [Bool.and_eq_true] at h
    obtain ⟨v, a1, a2⟩ := conV_ok (C := C) h.1
    obtain ⟨xs, b1, b2⟩ := conL_ok (C := C) h.2
    exact ⟨v :: xs, .cons a1 b1, fun H P => ⟨v, xs, rfl, a2 H P, b2 H P⟩⟩
end
def CXw : CXT := fun outer H s E e s' => ∃ P w, L2.CX P w outer H s E e s'
theorem fnok_cx {P : Program} {w : World} {K : PySem.W.Frag} {mg : Str → Option Value} {base : Heap} {k : Nat} {f : Addr} {fd : FuncData} {ps : List Str} {sp : Sp} (F : FnOk P w K mg base (L2.CX P w) k f fd ps sp) : FnOk P w K mg base CXw k f fd ps sp :=
  ⟨F.len, fun A outer s H args us vs Q E hr he hb hv hs => codeAny_mono (F.run A outer s H args us vs Q E hr he hb hv hs) fun r s' hq => by
    cases r with
    | error e => exact ⟨P, w, hq⟩
    | ok fl => cases fl <;> exact hq⟩
theorem cxw_no (H : Hp) (s : Shared) (e : Value) (s' : Shared) : CXw [] H s (fun _ _ _ => False) e s' → False := fun ⟨_, _, _, _, _, _, _, _, _, _, _, _, _, _, hE⟩ => hE
def conG (K : PySem.W.Frag) (x : Str) (m : MV) : Bool := match PySem.W.nsIn K mainGlobals x with
  | some (some u) => conV K m u
  | _ => false
theorem conG_ok {K : PySem.W.Frag} {C : Str → Addr} {h : Heap} {mg : Str → Option Value} (X : K.In h) (G : h.Ns mainGlobals mg) {x : Str} {m : MV} (e : conG K x m = true) : ∃ v u, mg x = some u ∧ RelV v u ∧ ∀ H P, Rl K C H P m v := by
  unfold conG at e
  split at e
  · rename_i u q
    obtain ⟨v, a, b⟩ := conV_ok (C := C) e
    exact ⟨v, u, PySem.W.mg_of X G q, a, b⟩
  · cases e
end Mi

set_option Elab.async false
set_option linter.all false
set_option maxRecDepth 100000
/-! Plain part: loops by a word that stays; the draws that every law makes of its script. -/
namespace Mi
open PySem PySem.Spec

theorem forL_inv {live : List Bool} {vs : List Nat} {g : GD} {b : SD} (Inv : Nat → Rho → Prop) : ∀ (ms : List MV) (i : Nat) (ρ : Rho), Inv i ρ →
    (∀ j m ρ, ms[j]? = some m → Inv (i + j) ρ → ∃ ρ1 ρ2, noOwn vs ρ = true ∧ g m ρ = some ρ1 ∧ (b ρ1 = .nx ρ2 ∨ b ρ1 = .ct ρ2) ∧ Inv (i + j + 1) (kill live ρ2)) → ∃ ρ', forL live vs g b ms ρ = .nx ρ' ∧ Inv (i + ms.length) ρ'
  | [], i, ρ, h, _ => ⟨ρ, rfl, h⟩
  | m :: ms, i, ρ, h, st => by
    obtain ⟨ρ1, ρ2, h1, h2, h3, h4⟩ := st 0 m ρ rfl h
    obtain ⟨ρ', e, h5⟩ := forL_inv Inv ms (i + 1) (kill live ρ2) h4 fun j m ρ hm hi => by
      have := st (j + 1) m ρ (by simpa using hm) (by rw [show i + (j + 1) = i + 1 + j from by omega]; exact hi)
      rw [show i + (j + 1) + 1 = i + 1 + j + 1 from by omega] at this
      exact this
    refine ⟨ρ', ?_, by rw [List.length_cons, show i + (ms.length + 1) = i + 1 + ms.length from by omega]; exact h5⟩
    unfold forL
    rw [if_pos h1, h2]
    rcases h3 with h3 | h3 <;> simp only [h3] <;> exact e

theorem sSeq_nx {a b : SD} {ρ ρ' : Rho} (h : a ρ = .nx ρ') : sSeq a b ρ = b ρ' := by unfold sSeq; rw [h]
theorem sSeq_rt {a b : SD} {ρ : Rho} {m : MV} (h : a ρ = .rt m) : sSeq a b ρ = .rt m := by unfold sSeq; rw [h]
theorem sFor_ok {live : List Bool} {vs : List Nat} {it : ID} {g : GD} {b : SD} {ρ : Rho} {ms : List MV} {r : SR} (h : it ρ = .ok ms) (e : forL live vs g b ms (kill live ρ) = r) : sFor live vs it g b ρ = r := by unfold sFor; rw [h]; exact e
section
variable {a b : ED} {ρ : Rho} {x y : MV} {g : MV → MV → Rs MV} {r : Rs MV} {d : AD} {xs : List MV} {f : FD} {t u : TD} {s s' : SD} {i : Nat} {rs : SR}
theorem dVar_ok (h : lk ρ i = .val x) : dVar i ρ = .ok x := by unfold dVar; rw [h]
theorem dVarB_val (h : lk ρ i = .val x) : dVarB i ρ = .ok x := by unfold dVarB; rw [h]
theorem dVarB_own (h : lk ρ i = .own x) : dVarB i ρ = .ok x := by unfold dVarB; rw [h]
theorem dBin_ok (h1 : a ρ = .ok x) (h2 : b ρ = .ok y) (h3 : g x y = r) : dBin g a b ρ = r := by unfold dBin; rw [h1, Rs.bind_ok, h2]; exact h3
theorem dCons_ok (h1 : a ρ = .ok x) (h2 : d ρ = .ok xs) : dCons a d ρ = .ok (x :: xs) := by unfold dCons; rw [h1, Rs.bind_ok, h2]; rfl
theorem dCall_ok (h1 : d ρ = .ok xs) (h2 : f xs = r) : dCall f d ρ = r := by unfold dCall; rw [h1]; exact h2
theorem dTst_ok {k : Bool} (h : a ρ = .ok (.bl k)) : dTst a ρ = .ok k := by unfold dTst; rw [h]; rfl
theorem sSet_ok (h : a ρ = .ok x) : sSet i a ρ = .nx (ρ.set i (.val x)) := by unfold sSet; rw [h]
theorem sRet_ok (h : a ρ = .ok x) : sRet a ρ = .rt x := by unfold sRet; rw [h]
theorem sIf_t (h : t ρ = .ok true) (e : s ρ = rs) : sIf t s s' ρ = rs := by unfold sIf; rw [h]; exact e
theorem sIf_f (h : t ρ = .ok false) (e : s' ρ = rs) : sIf t s s' ρ = rs := by unfold sIf; rw [h]; exact e
theorem dAnd_t (h : t ρ = .ok true) : dAnd t u ρ = u ρ := by unfold dAnd; rw [h]; rfl
theorem dAnd_f (h : t ρ = .ok false) : dAnd t u ρ = .ok false := by unfold dAnd; rw [h]; rfl
theorem dOr_t (h : t ρ = .ok true) : dOr t u ρ = .ok true := by unfold dOr; rw [h]; rfl
theorem dOr_f (h : t ρ = .ok false) : dOr t u ρ = u ρ := by unfold dOr; rw [h]; rfl
theorem dNot_ok {k : Bool} (h : t ρ = .ok k) : dNot t ρ = .ok (!k) := by unfold dNot; rw [h]; rfl
theorem dIf_t (h : t ρ = .ok true) : dIf t a b ρ = a ρ := by unfold dIf; rw [h]; rfl
theorem dIf_f (h : t ρ = .ok false) : dIf t a b ρ = b ρ := by unfold dIf; rw [h]; rfl
theorem ix_lst {i : Int} {D : List MV} (h : L2.atI D i = some x) : opIx (.lst D) (.int i) = .ok x := by unfold opIx; simp only [h]
theorem ix_tup {i : Int} {D : List MV} (h : L2.atI D i = some x) : opIx (.tup D) (.int i) = .ok x := by unfold opIx; simp only [h]
end
def endR : SR → Rs MV
  | .nx _ => .ok .non
  | .rt v => .ok v
  | .ex c _ => .ex c
  | _ => .no
theorem fnD_end {n m : Nat} {b : SD} {ms : List MV} (h : ms.length = n) : fnD n m b ms = endR (b (ms.map .val ++ List.replicate m .un)) := by
  unfold fnD
  rw [if_pos h]
  cases b (ms.map .val ++ List.replicate m .un) <;> rfl
theorem end_ret {d : ED} {ρ : Rho} : endR (sRet d ρ) = d ρ := by
  unfold sRet
  cases d ρ <;> rfl
theorem end_ifT {t : TD} {d : ED} {rest u : SD} {ρ : Rho} (h : t ρ = .ok true) : endR (sSeq (sIf t (sRet d) u) rest ρ) = d ρ := by
  unfold sSeq sIf sRet
  rw [h]
  cases d ρ <;> rfl
theorem ifF_next {t : TD} {s rest : SD} {ρ : Rho} (h : t ρ = .ok false) : sSeq (sIf t s sNext) rest ρ = rest ρ := sSeq_nx (sIf_f h rfl)
theorem dSel_ok {gs : List FD} {di : ED} {da : AD} {ρ : Rho} {i : Int} {g : FD} {as : List MV} (h1 : di ρ = .ok (.int i)) (h2 : L2.atI gs i = some g) (h3 : da ρ = .ok as) : dSel gs di da ρ = g as := by
  unfold dSel
  rw [h1]
  simp only [Rs.bind_ok, h2, h3]
/-! ### the draws -/
def b_draws : SD :=
  (sSeq (sOwn 2 (dLst dNil))
  (sSeq (sSet 3 (dC (.int 7)))
  (sSeq (sFor [false, true, true, true, false, false, false] [4] (iSeq (dSl (dVar 0) oNone (oSome (dC (.int 63))))) (gVar 4)
   (sSeq (sSet 6 (dCall bAbs (dCons (dVar 4) dNil)))
   (sSeq (sSet 3 (dBin opMod (dCall bInt (dCons (dBin opAdd (dBin opAdd (dBin opMul (dVar 3) (dC (.int 48271))) (dVar 6)) (dC (.int 11))) dNil)) (dC (.int 2147483647))))
   (sIf (dTst (dBin opGe (dVar 6) (dBin opPow (dC (.int 10)) (dC (.int 18)))))
    (sFor [false, true, true, true, false, false, true] [5] (iCall rng1 (dCons (dC (.int 60)) dNil)) (gVar 5)
     (sIf (dTst (dBin opGt (dVar 6) (dC (.int 0))))
      (sSeq (sMut 2 (dCons (dBin opMod (dCall bInt (dCons (dVar 6) dNil)) (dC (.int 1009))) dNil) hApp)
      (sSet 6 (dBin opFdv (dVar 6) (dC (.int 1009)))))
      sNext))
    (sMut 2 (dCons (dBin opMod (dBin opFdv (dCall bInt (dCons (dBin opAdd (dBin opMul (dVar 3) (dC (.int 16807))) (dC (.int 5))) dNil)) (dC (.int 3))) (dC (.int 65521))) dNil) hApp)))))
  (sSeq (sFor [false, true, true, true, false, false, false] [5] (iCall rng1 (dCons (dVar 1) dNil)) (gVar 5)
   (sIf (dTst (dBin opLt (dCall bLenS (dCons (dVarB 2) dNil)) (dVar 1)))
    (sSeq (sSet 3 (dBin opMod (dCall bInt (dCons (dBin opAdd (dBin opAdd (dBin opMul (dVar 3) (dC (.int 69621))) (dVar 5)) (dC (.int 1))) dNil)) (dC (.int 2147483647))))
    (sMut 2 (dCons (dBin opMod (dBin opFdv (dCall bInt (dCons (dVar 3) dNil)) (dC (.int 7))) (dC (.int 65521))) dNil) hApp))
    sNext))
  (sFrz 2 (sRet (dSl (dVarB 2) oNone (oSome (dVar 1)))))))))
def fd_draws : FD := fnD 2 5 b_draws
def drOk (ds : List Int) : Prop := ∀ d ∈ ds, 0 ≤ d ∧ d ≤ 65520
theorem drOk.snoc {ds : List Int} {d : Int} (h : drOk ds) (h1 : 0 ≤ d) (h2 : d ≤ 65520) : drOk (ds ++ [d]) := fun x hx => by
  rcases List.mem_append.mp hx with hx | hx
  · exact h x hx
  · rw [List.mem_singleton.mp hx]; exact ⟨h1, h2⟩
theorem inv_mod {a m : Int} (h : 0 < m) : 0 ≤ a % m ∧ a % m < m := ⟨Int.emod_nonneg _ (by omega), Int.emod_lt_of_pos _ h⟩
theorem mapI_snoc (ds : List Int) (d : Int) : ds.map MV.int ++ [MV.int d] = (ds ++ [d]).map MV.int := by simp
theorem mul_lit (a b : Int) (h : (decide (-18446744073709551616 < b) && decide (b < 18446744073709551616)) = true) : mulOk a b = true := by unfold mulOk; rw [h]; simp
/-- the inner loop: a large number's digits -/
theorem draw_digits (m seed : Int) (N : Nat) (ds : List Int) (num : Int) (hd : drOk ds) (hl : ds.length + 60 ≤ N) (hN : N < 10000) (hn : 0 ≤ num) :
    ∃ ds' num', forL [false, true, true, true, false, false, true] [5] (gVar 5)
     (sIf (dTst (dBin opGt (dVar 6) (dC (.int 0))))
      (sSeq (sMut 2 (dCons (dBin opMod (dCall bInt (dCons (dVar 6) dNil)) (dC (.int 1009))) dNil) hApp)
      (sSet 6 (dBin opFdv (dVar 6) (dC (.int 1009)))))
      sNext) (rngI 0 60) [.un, .val (.int m), .own (.lst (ds.map .int)), .val (.int seed), .un, .un, .val (.int num)]
      = .nx [.un, .val (.int m), .own (.lst (ds'.map .int)), .val (.int seed), .un, .un, .val (.int num')] ∧ drOk ds' ∧ ds'.length ≤ ds.length + 60 := by
  obtain ⟨ρ', e, ds', num', h1, h2, h3, h4⟩ := forL_inv (fun i ρ => ∃ ds' num', ρ = [.un, .val (.int m), .own (.lst (ds'.map .int)), .val (.int seed), .un, .un, .val (.int num')] ∧ drOk ds' ∧ ds'.length ≤ ds.length + i ∧ 0 ≤ num')
    (rngI 0 60) 0 _ ⟨ds, num, rfl, hd, by omega, hn⟩ (live := [false, true, true, true, false, false, true]) (vs := [5]) (g := gVar 5) (b := (sIf (dTst (dBin opGt (dVar 6) (dC (.int 0))))
      (sSeq (sMut 2 (dCons (dBin opMod (dCall bInt (dCons (dVar 6) dNil)) (dC (.int 1009))) dNil) hApp)
      (sSet 6 (dBin opFdv (dVar 6) (dC (.int 1009)))))
      sNext)) (fun j x ρ hx hi => by
    obtain ⟨ds', num', rfl, h2, h3, h4⟩ := hi
    have hj : j < 60 := by
      have := (List.getElem?_eq_some_iff.mp hx).1
      rwa [rngI_len] at this
    refine ⟨[.un, .val (.int m), .own (.lst (ds'.map .int)), .val (.int seed), .un, .val x, .val (.int num')], ?_⟩
    by_cases c : 0 < num'
    · refine ⟨[.un, .val (.int m), .own (.lst ((ds' ++ [num' % 1009]).map .int)), .val (.int seed), .un, .val x, .val (.int (num' / 1009))], rfl, rfl, .inl ?_, ds' ++ [num' % 1009], num' / 1009, rfl, h2.snoc (inv_mod (by omega)).1 (by have := (inv_mod (a := num') (m := 1009) (by omega)).2; omega), by simp; omega, Int.ediv_nonneg h4 (by omega)⟩
      have hlen : (ds'.map MV.int).length < big := by rw [List.length_map]; show ds'.length < 16000000; omega
      simp only [sIf, dTst, dBin, dVar, dC, lk, Rs.bind, opGt, c, decide_true, sSeq, sMut, lstOf, dCons, dNil, dCall, bInt, opMod, hApp, hlen, if_true, List.set, sSet, opFdv, show (0 : Int) < 1009 from by decide, true_and, show (1009 : Int) < 1073741824 from by decide, true_or, mapI_snoc]
    · refine ⟨[.un, .val (.int m), .own (.lst (ds'.map .int)), .val (.int seed), .un, .val x, .val (.int num')], rfl, rfl, .inl ?_, ds', num', rfl, h2, by omega, h4⟩
      simp only [sIf, dTst, dBin, dVar, dC, lk, Rs.bind, opGt, c, decide_false, sNext])
  subst h1
  exact ⟨ds', num', e, h2, by rw [rngI_len] at h3; simpa using h3⟩

abbrev g1 : SD := (sSeq (sSet 6 (dCall bAbs (dCons (dVar 4) dNil)))
   (sSeq (sSet 3 (dBin opMod (dCall bInt (dCons (dBin opAdd (dBin opAdd (dBin opMul (dVar 3) (dC (.int 48271))) (dVar 6)) (dC (.int 11))) dNil)) (dC (.int 2147483647))))
   (sIf (dTst (dBin opGe (dVar 6) (dBin opPow (dC (.int 10)) (dC (.int 18)))))
    (sFor [false, true, true, true, false, false, true] [5] (iCall rng1 (dCons (dC (.int 60)) dNil)) (gVar 5)
     (sIf (dTst (dBin opGt (dVar 6) (dC (.int 0))))
      (sSeq (sMut 2 (dCons (dBin opMod (dCall bInt (dCons (dVar 6) dNil)) (dC (.int 1009))) dNil) hApp)
      (sSet 6 (dBin opFdv (dVar 6) (dC (.int 1009)))))
      sNext))
    (sMut 2 (dCons (dBin opMod (dBin opFdv (dCall bInt (dCons (dBin opAdd (dBin opMul (dVar 3) (dC (.int 16807))) (dC (.int 5))) dNil)) (dC (.int 3))) (dC (.int 65521))) dNil) hApp))))
abbrev g2 : SD := (sIf (dTst (dBin opLt (dCall bLenS (dCons (dVarB 2) dNil)) (dVar 1)))
    (sSeq (sSet 3 (dBin opMod (dCall bInt (dCons (dBin opAdd (dBin opAdd (dBin opMul (dVar 3) (dC (.int 69621))) (dVar 5)) (dC (.int 1))) dNil)) (dC (.int 2147483647))))
    (sMut 2 (dCons (dBin opMod (dBin opFdv (dCall bInt (dCons (dVar 3) dNil)) (dC (.int 7))) (dC (.int 65521))) dNil) hApp))
    sNext)
def stD (m : Int) (ds : List Int) (seed : Int) : Rho := [.un, .val (.int m), .own (.lst (ds.map .int)), .val (.int seed), .un, .un, .un]
theorem pow18 : opPow (.int 10) (.int 18) = .ok (.int 1000000000000000000) := by rfl
theorem draw_one (m seed c : Int) (ds : List Int) (hd : drOk ds) (hl : ds.length + 60 < 10000) (hs : 0 ≤ seed) :
    ∃ (ds' : List Int) (seed' : Int) (x : Sl) (u : Int), g1 [.un, .val (.int m), .own (.lst (ds.map .int)), .val (.int seed), .val (.int c), .un, .un] = .nx [.un, .val (.int m), .own (.lst (ds'.map .int)), .val (.int seed'), x, .un, .val (.int u)] ∧ drOk ds' ∧ ds'.length ≤ ds.length + 60 ∧ 0 ≤ seed' := by
  have habs : bAbs [.int c] = .ok (.int (if c < 0 then -c else c)) := rfl
  generalize hnum : (if c < 0 then -c else c) = num at habs
  have hn : 0 ≤ num := by rw [← hnum]; split <;> omega
  have hm : mulOk seed 48271 = true := mul_lit _ _ (by decide)
  have hs' : 0 ≤ (seed * 48271 + num + 11) % 2147483647 := (inv_mod (by omega)).1
  generalize hse : (seed * 48271 + num + 11) % 2147483647 = seed' at hs'
  have hm2 : mulOk seed' 16807 = true := mul_lit _ _ (by decide)
  by_cases c18 : 1000000000000000000 ≤ num
  · obtain ⟨ds', num', e, h1, h2⟩ := draw_digits m seed' 9999 ds num hd (by omega) (by omega) hn
    refine ⟨ds', seed', .un, num', ?_, h1, h2, hs'⟩
    simp only [g1, sSeq, sSet, dCall, dCons, dNil, dVar, lk, Rs.bind, habs, List.set, dBin, dC, opMul, hm, if_true, opAdd, bInt, opMod, show (0 : Int) < 2147483647 from by decide, hse, sIf, dTst, opGe, pow18, c18, decide_true, sFor, iCall, rng1, show inR 60 = true from by decide, kill, Bool.false_eq_true, if_false, show (60 : Int).toNat = 60 from rfl]
    exact e
  · have hq : 0 ≤ (seed' * 16807 + 5) / 3 % 65521 := (inv_mod (by omega)).1
    have hq2 : (seed' * 16807 + 5) / 3 % 65521 < 65521 := (inv_mod (by omega)).2
    have hlen : (ds.map MV.int).length < big := by rw [List.length_map]; show ds.length < 16000000; omega
    refine ⟨ds ++ [(seed' * 16807 + 5) / 3 % 65521], seed', .val (.int c), num, ?_, hd.snoc hq (by omega), by simp, hs'⟩
    simp only [g1, sSeq, sSet, dCall, dCons, dNil, dVar, lk, Rs.bind, habs, List.set, dBin, dC, opMul, hm, if_true, opAdd, bInt, opMod, show (0 : Int) < 2147483647 from by decide, hse, sIf, dTst, opGe, pow18, c18, decide_false, sMut, lstOf, hm2, opFdv, show (0 : Int) < 3 from by decide, show (3 : Int) < 1073741824 from by decide, true_and, true_or, show (0 : Int) < 65521 from by decide, hApp, hlen, mapI_snoc]
theorem draws1 (m : Int) (ns : List Int) (hns : ns.length ≤ 63) : ∃ ds seed, forL [false, true, true, true, false, false, false] [4] (gVar 4) g1 (ns.map .int) (stD m [] 7) = .nx (stD m ds seed) ∧ drOk ds ∧ ds.length ≤ 60 * ns.length ∧ 0 ≤ seed := by
  obtain ⟨ρ', e, ds, seed, rfl, h1, h2, h3⟩ := forL_inv (live := [false, true, true, true, false, false, false]) (vs := [4]) (g := gVar 4) (b := g1) (fun i ρ => ∃ ds seed, ρ = stD m ds seed ∧ drOk ds ∧ ds.length ≤ 60 * i ∧ 0 ≤ seed) (ns.map .int) 0 _ ⟨[], 7, rfl, fun _ h => absurd h (by simp), by simp, by decide⟩ (fun j x ρ hx hi => by
    obtain ⟨ds, seed, rfl, h1, h2, h3⟩ := hi
    have hj : j < ns.length := by
      have := (List.getElem?_eq_some_iff.mp hx).1
      rwa [List.length_map] at this
    obtain ⟨c, rfl⟩ : ∃ c, x = .int c := by
      rw [List.getElem?_map] at hx
      cases e : ns[j]? with
      | none => rw [e] at hx; cases hx
      | some c => rw [e] at hx; cases hx; exact ⟨c, rfl⟩
    obtain ⟨ds', seed', y, u, h, k1, k2, k3⟩ := draw_one m seed c ds h1 (by omega) h3
    exact ⟨_, _, rfl, rfl, .inl h, ds', seed', rfl, k1, by omega, k3⟩)
  exact ⟨ds, seed, e, h1, by simpa using h2, h3⟩
theorem draws2 (m : Int) (n : Nat) (hm0 : m = n) (hn : n ≤ 1000) (ds0 : List Int) (seed0 : Int) (h0 : drOk ds0) (hl0 : ds0.length ≤ 5000) (hs0 : 0 ≤ seed0) :
    ∃ ds seed, forL [false, true, true, true, false, false, false] [5] (gVar 5) g2 (rngI 0 n) (stD m ds0 seed0) = .nx (stD m ds seed) ∧ drOk ds ∧ n ≤ ds.length ∧ ds.length ≤ 10000 := by
  obtain ⟨ρ', e, ds, seed, rfl, h1, h2, h3, h4⟩ := forL_inv (live := [false, true, true, true, false, false, false]) (vs := [5]) (g := gVar 5) (b := g2) (fun i ρ => ∃ ds seed, ρ = stD m ds seed ∧ drOk ds ∧ ds.length ≤ 5000 + i ∧ (n ≤ ds.length ∨ i ≤ ds.length) ∧ 0 ≤ seed) (rngI 0 n) 0 _ ⟨ds0, seed0, rfl, h0, by omega, .inr (by omega), hs0⟩ (fun j x ρ hx hi => by
    obtain ⟨ds, seed, rfl, h1, h2, h3, h4⟩ := hi
    have hj : j < n := by
      have := (List.getElem?_eq_some_iff.mp hx).1
      rwa [rngI_len] at this
    rw [rngI_get n 0 j hj] at hx
    cases hx
    refine ⟨[.un, .val (.int m), .own (.lst (ds.map .int)), .val (.int seed), .un, .val (.int (0 + (j : Int))), .un], ?_⟩
    have hlen : (ds.map MV.int).length < big := by rw [List.length_map]; show ds.length < 16000000; omega
    by_cases c : (ds.length : Int) < m
    · have hm : mulOk seed 69621 = true := mul_lit _ _ (by decide)
      have hs' : 0 ≤ (seed * 69621 + (0 + (j : Int)) + 1) % 2147483647 := (inv_mod (by omega)).1
      generalize hse : (seed * 69621 + (0 + (j : Int)) + 1) % 2147483647 = seed' at hs'
      have hq : 0 ≤ seed' / 7 % 65521 := (inv_mod (by omega)).1
      have hq2 : seed' / 7 % 65521 < 65521 := (inv_mod (by omega)).2
      refine ⟨[.un, .val (.int m), .own (.lst ((ds ++ [seed' / 7 % 65521]).map .int)), .val (.int seed'), .un, .val (.int (0 + (j : Int))), .un], rfl, rfl, .inl ?_, ds ++ [seed' / 7 % 65521], seed', rfl, h1.snoc hq (by omega), by simp; omega, by rcases h3 with h | h <;> simp <;> omega, hs'⟩
      simp only [g2, sIf, dTst, dBin, dCall, dCons, dNil, dVarB, dVar, lk, Rs.bind, bLenS, List.length_map, opLt, c, decide_true, sSeq, sSet, dC, opMul, hm, if_true, opAdd, bInt, opMod, show (0 : Int) < 2147483647 from by decide, hse, List.set, sMut, lstOf, opFdv, show (0 : Int) < 7 from by decide, show (7 : Int) < 1073741824 from by decide, true_and, true_or, show (0 : Int) < 65521 from by decide, hApp, hlen, mapI_snoc]
      have hlen' : ds.length < big := by show ds.length < 16000000; omega
      simp only [hlen', if_true]
    · refine ⟨[.un, .val (.int m), .own (.lst (ds.map .int)), .val (.int seed), .un, .val (.int (0 + (j : Int))), .un], rfl, rfl, .inl ?_, ds, seed, rfl, h1, by omega, .inl (by omega), h4⟩
      simp only [g2, sIf, dTst, dBin, dCall, dCons, dNil, dVarB, dVar, lk, Rs.bind, bLenS, List.length_map, opLt, c, decide_false, sNext])
  rw [rngI_len] at h2 h3
  exact ⟨ds, seed, e, h1, by rcases h3 with h | h <;> omega, by omega⟩
theorem sIx_pos (n k : Nat) (d : Nat) : HT.sIx n d (some (k : Int)) = min k n := HT.sIx_nat n d k
theorem cut63 {α : Type} (ns : List α) : cutM ns none (some (63 : Int)) = ns.take 63 := by
  unfold cutM
  have e : HT.sIx ns.length ns.length (some (63 : Int)) = min 63 ns.length := HT.sIx_nat ns.length ns.length 63
  rw [e, HT.sIx_none, List.drop_zero, Nat.sub_zero]
  by_cases h : 63 ≤ ns.length
  · rw [Nat.min_eq_left h]
  · rw [Nat.min_eq_right (by omega), List.take_of_length_le (Nat.le_refl _), List.take_of_length_le (by omega)]
theorem cutN {α : Type} (ds : List α) (n : Nat) (h : n ≤ ds.length) : cutM ds none (some (n : Int)) = ds.take n := by
  unfold cutM
  rw [HT.sIx_nat, HT.sIx_none, List.drop_zero, Nat.sub_zero, Nat.min_eq_left h]
theorem rng1_nat (n : Nat) (h : inR (n : Int) = true) : rng1 [.int n] = .ok (rngI 0 n) := by
  have e : rng1 [.int n] = if inR (n : Int) then Rs.ok (rngI 0 (n : Int).toNat) else .no := rfl
  rw [e, if_pos h, Int.toNat_natCast]
theorem iCall_ok {g : List MV → Rs (List MV)} {d : AD} {ρ : Rho} {as : List MV} {r : Rs (List MV)} (h1 : d ρ = .ok as) (h2 : g as = r) : iCall g d ρ = r := by unfold iCall; rw [h1]; exact h2
theorem draws_run (ns : List Int) (n : Nat) (hn : n ≤ 1000) : ∃ ds : List Int, b_draws [.val (.scr ns), .val (.int n), .un, .un, .un, .un, .un] = .rt (.lst (ds.map .int)) ∧ ds.length = n ∧ drOk ds := by
  obtain ⟨d1, s1, e1, k1, k2, k3⟩ := draws1 n (ns.take 63) (by rw [List.length_take]; exact Nat.min_le_left _ _)
  have hd1 : d1.length ≤ 5000 := by
    have : (ns.take 63).length ≤ 63 := by rw [List.length_take]; exact Nat.min_le_left _ _
    omega
  obtain ⟨d2, s2, e2, j1, j2, j3⟩ := draws2 n n rfl hn d1 s1 k1 hd1 k3
  refine ⟨d2.take n, ?_, by rw [List.length_take]; exact Nat.min_eq_left j2, fun x hx => j1 x (List.mem_of_mem_take hx)⟩
  have hr : inR (n : Int) = true := by unfold inR; simp only [Bool.and_eq_true, decide_eq_true_eq]; omega
  have hcut2 : cutM (d2.map MV.int) none (some (n : Int)) = (d2.take n).map .int := by
    rw [cutN _ _ (by rw [List.length_map]; exact j2), List.map_take]
  have hL1 : iSeq (dSl (dVar 0) oNone (oSome (dC (.int 63)))) [.val (.scr ns), .val (.int n), .own (.lst []), .val (.int 7), .un, .un, .un] = .ok ((ns.take 63).map .int) := by
    simp only [iSeq, dSl, dVar, lk, Rs.bind, oNone, oSome, dC, opSl, seqOf, cut63]
  have hL2 : iCall rng1 (dCons (dVar 1) dNil) (stD n d1 s1) = .ok (rngI 0 n) :=
    iCall_ok (show (dCons (dVar 1) dNil) (stD n d1 s1) = .ok [.int n] from rfl) (rng1_nat n hr)
  have a1 : sOwn 2 (dLst dNil) [.val (.scr ns), .val (.int n), .un, .un, .un, .un, .un] = .nx [.val (.scr ns), .val (.int n), .own (.lst []), .un, .un, .un, .un] := rfl
  have a2 : sSet 3 (dC (.int 7)) [.val (.scr ns), .val (.int n), .own (.lst []), .un, .un, .un, .un] = .nx [.val (.scr ns), .val (.int n), .own (.lst []), .val (.int 7), .un, .un, .un] := rfl
  have l1 : kill [false, true, true, true, false, false, false] [.val (.scr ns), .val (.int n), .own (.lst []), .val (.int 7), .un, .un, .un] = stD n [] 7 := rfl
  have l2 : kill [false, true, true, true, false, false, false] (stD n d1 s1) = stD n d1 s1 := rfl
  have f1 : (sFor [false, true, true, true, false, false, false] [4] (iSeq (dSl (dVar 0) oNone (oSome (dC (.int 63))))) (gVar 4) g1) [.val (.scr ns), .val (.int n), .own (.lst []), .val (.int 7), .un, .un, .un] = .nx (stD n d1 s1) := sFor_ok hL1 (by rw [l1]; exact e1)
  have f2 : (sFor [false, true, true, true, false, false, false] [5] (iCall rng1 (dCons (dVar 1) dNil)) (gVar 5) g2) (stD n d1 s1) = .nx (stD n d2 s2) := sFor_ok hL2 (by rw [l2]; exact e2)
  have f3 : (sFrz 2 (sRet (dSl (dVarB 2) oNone (oSome (dVar 1))))) (stD n d2 s2) = .rt (.lst ((d2.take n).map .int)) := by
    simp only [stD, sFrz, lk, List.set, sRet, dSl, dVarB, Rs.bind, oNone, oSome, dVar, opSl, hcut2]
  unfold b_draws
  rw [sSeq_nx a1, sSeq_nx a2, sSeq_nx f1, sSeq_nx f2, f3]
/-- the draws: as many as asked, each from 0 to 65520 -/
theorem draws_ok (ns : List Int) (n : Nat) (hn : n ≤ 1000) : ∃ ds : List Int, fd_draws [.scr ns, .int n] = .ok (.lst (ds.map .int)) ∧ ds.length = n ∧ drOk ds := by
  obtain ⟨ds, e, h1, h2⟩ := draws_run ns n hn
  refine ⟨ds, ?_, h1, h2⟩
  unfold fd_draws fnD
  have l : ([MV.scr ns, MV.int n] : List MV).length = 2 := rfl
  have m : (([MV.scr ns, MV.int n] : List MV).map Sl.val ++ List.replicate 5 Sl.un) = [.val (.scr ns), .val (.int n), .un, .un, .un, .un, .un] := rfl
  rw [if_pos l, m, e]
end Mi

set_option Elab.async false
set_option linter.all false
set_option maxRecDepth 100000
set_option maxHeartbeats 4000000
/-! law_k64_what_few_folds_find: the defs as plain functions. Printed by gen.py. -/
namespace G
open PySem PySem.Spec L2 Mi
def top (i : Nat) : Stmt := PySem.Challenge.pw_creasewrit_k64_what_few_folds_find.main.body.getD i (.Pass ⟨0, 0, 0, 0⟩)
def fuel : Nat := 100000
/-- which errors are which -/
def subT : Str → Str → Option Bool := fun c h =>
  if c = "FoldError" then (if h = "FoldError" then some true else if h = "BadPoint" then some false else if h = "BadLine" then some false else if h = "Same" then some false else none) else
  if c = "BadPoint" then (if h = "FoldError" then some true else if h = "BadPoint" then some true else if h = "BadLine" then some false else if h = "Same" then some false else none) else
  if c = "BadLine" then (if h = "FoldError" then some true else if h = "BadPoint" then some false else if h = "BadLine" then some true else if h = "Same" then some false else none) else
  if c = "Same" then (if h = "FoldError" then some true else if h = "BadPoint" then some false else if h = "BadLine" then some false else if h = "Same" then some true else none) else
  none
abbrev TT (C : Str → Addr) : Tb := ⟨C, subT⟩
abbrev st__law_draws : Stmt := top 31
abbrev st_is_integer : Stmt := top 6
abbrev st__are_integers : Stmt := top 8
abbrev st_divisor : Stmt := top 7
abbrev st_is_line : Stmt := top 10
abbrev st_check_lines : Stmt := top 14
abbrev st_point : Stmt := top 11
abbrev st_cross : Stmt := top 15
abbrev st_meets : Stmt := top 25
abbrev st_is_point : Stmt := top 9
abbrev st_check_points : Stmt := top 13
abbrev st_in_sheet : Stmt := top 17
abbrev st_root : Stmt := top 18
abbrev st_line : Stmt := top 12
abbrev st__size : Stmt := top 24
abbrev st_lays : Stmt := top 23
abbrev st_joined : Stmt := top 16
abbrev st_through : Stmt := top 20
abbrev st_onto : Stmt := top 21
abbrev st_square_to : Stmt := top 22
abbrev st__creases : Stmt := top 28
abbrev st_after_folds : Stmt := top 29
abbrev st__law_meets : Stmt := top 32
abbrev st__law_crease : Stmt := top 33
abbrev st__law_refused : Stmt := top 34
abbrev st_law : Stmt := top 35
/-- a class of errors, by the written part -/
structure ExcK (K : PySem.W.Frag) (mg : Str → Option Value) (T : Tb) (c : Str) : Prop where
  q : PySem.W.excIn K (T.C c) [.type "ValueError", .type "Exception", .type "BaseException", .type "object"] "ValueError.__new__" = true
  g : mg c = some (.ref (T.C c))
  k : PySem.W.keepIn K (.ref (T.C c)) = true
  s : PySem.W.subIn K (.ref (T.C c)) (.type "BaseException") = some true
  t : PySem.W.typeIn K (.ref (T.C c)) = some (.type "type")
theorem ExcK.f {X : Cx} {T : Tb} {c : Str} (h : ExcK X.K X.mg T c) : ExcF X T c := ⟨h.q, h.g, h.k, raises_own h.s h.t⟩
structure GlK (K : PySem.W.Frag) (mg : Str → Option Value) (T : Tb) (x : Str) (m : MV) : Prop where
  ex : ∃ v u, mg x = some u ∧ RelV v u ∧ ∀ H P, Rl K T.C H P m v
theorem se_gl {T : Tb} {X : Cx} {W : WX} {x : Str} {m : MV} {pos : Pos} (h : GlK X.K X.mg T x m) (hg : Gl X x := by rfl) (hd : (x == ("__debug__" : Str)) = false := by decide) : SE T X W (.Name x pos) (dC m) := se_glob h.ex hg hd
def c_EDGES : MV := .ktp [.ktp [.int 0, .int 1, .int 0], .ktp [.int 1, .int 0, .int 1], .ktp [.int 0, .int 1, .int 1], .ktp [.int 1, .int 0, .int 0]]
structure Fx (K : PySem.W.Frag) (mg : Str → Option Value) (T : Tb) : Prop where
  b_abs : mg "abs" = none
  b_all : mg "all" = none
  b_bool : mg "bool" = none
  b_enumerate : mg "enumerate" = none
  b_int : mg "int" = none
  b_isinstance : mg "isinstance" = none
  b_len : mg "len" = none
  b_list : mg "list" = none
  b_range : mg "range" = none
  b_sorted : mg "sorted" = none
  b_tuple : mg "tuple" = none
  c_EDGES : GlK K mg T "EDGES" c_EDGES
  x_BadLine : ExcK K mg T "BadLine"
  x_BadPoint : ExcK K mg T "BadPoint"
  x_Same : ExcK K mg T "Same"
  sub : SubOk K T
  d__law_draws : ∃ f fd, FunD K "_law_draws" "_law_draws" (defArgs st__law_draws) (defBody st__law_draws) (defScope st__law_draws) [] [] f fd ∧ mg "_law_draws" = some (.ref f)
  d_is_integer : ∃ f fd, FunD K "is_integer" "is_integer" (defArgs st_is_integer) (defBody st_is_integer) (defScope st_is_integer) [] [] f fd ∧ mg "is_integer" = some (.ref f)
  d__are_integers : ∃ f fd, FunD K "_are_integers" "_are_integers" (defArgs st__are_integers) (defBody st__are_integers) (defScope st__are_integers) [] [] f fd ∧ mg "_are_integers" = some (.ref f)
  d_divisor : ∃ f fd, FunD K "divisor" "divisor" (defArgs st_divisor) (defBody st_divisor) (defScope st_divisor) [] [] f fd ∧ mg "divisor" = some (.ref f)
  d_is_line : ∃ f fd, FunD K "is_line" "is_line" (defArgs st_is_line) (defBody st_is_line) (defScope st_is_line) [] [] f fd ∧ mg "is_line" = some (.ref f)
  d_check_lines : ∃ f fd, FunD K "check_lines" "check_lines" (defArgs st_check_lines) (defBody st_check_lines) (defScope st_check_lines) [] [] f fd ∧ mg "check_lines" = some (.ref f)
  d_point : ∃ f fd, FunD K "point" "point" (defArgs st_point) (defBody st_point) (defScope st_point) [] [] f fd ∧ mg "point" = some (.ref f)
  d_cross : ∃ f fd, FunD K "cross" "cross" (defArgs st_cross) (defBody st_cross) (defScope st_cross) [] [] f fd ∧ mg "cross" = some (.ref f)
  d_meets : ∃ f fd, FunD K "meets" "meets" (defArgs st_meets) (defBody st_meets) (defScope st_meets) [] [] f fd ∧ mg "meets" = some (.ref f)
  d_is_point : ∃ f fd, FunD K "is_point" "is_point" (defArgs st_is_point) (defBody st_is_point) (defScope st_is_point) [] [] f fd ∧ mg "is_point" = some (.ref f)
  d_check_points : ∃ f fd, FunD K "check_points" "check_points" (defArgs st_check_points) (defBody st_check_points) (defScope st_check_points) [] [] f fd ∧ mg "check_points" = some (.ref f)
  d_in_sheet : ∃ f fd, FunD K "in_sheet" "in_sheet" (defArgs st_in_sheet) (defBody st_in_sheet) (defScope st_in_sheet) [] [] f fd ∧ mg "in_sheet" = some (.ref f)
  d_root : ∃ f fd, FunD K "root" "root" (defArgs st_root) (defBody st_root) (defScope st_root) [] [] f fd ∧ mg "root" = some (.ref f)
  d_line : ∃ f fd, FunD K "line" "line" (defArgs st_line) (defBody st_line) (defScope st_line) [] [] f fd ∧ mg "line" = some (.ref f)
  d__size : ∃ f fd, FunD K "_size" "_size" (defArgs st__size) (defBody st__size) (defScope st__size) [] [] f fd ∧ mg "_size" = some (.ref f)
  d_lays : ∃ f fd, FunD K "lays" "lays" (defArgs st_lays) (defBody st_lays) (defScope st_lays) [] [] f fd ∧ mg "lays" = some (.ref f)
  d_joined : ∃ f fd, FunD K "joined" "joined" (defArgs st_joined) (defBody st_joined) (defScope st_joined) [] [] f fd ∧ mg "joined" = some (.ref f)
  d_through : ∃ f fd, FunD K "through" "through" (defArgs st_through) (defBody st_through) (defScope st_through) [] [] f fd ∧ mg "through" = some (.ref f)
  d_onto : ∃ f fd, FunD K "onto" "onto" (defArgs st_onto) (defBody st_onto) (defScope st_onto) [] [] f fd ∧ mg "onto" = some (.ref f)
  d_square_to : ∃ f fd, FunD K "square_to" "square_to" (defArgs st_square_to) (defBody st_square_to) (defScope st_square_to) [] [] f fd ∧ mg "square_to" = some (.ref f)
  d__creases : ∃ f fd, FunD K "_creases" "_creases" (defArgs st__creases) (defBody st__creases) (defScope st__creases) [] [] f fd ∧ mg "_creases" = some (.ref f)
  d_after_folds : ∃ f fd, FunD K "after_folds" "after_folds" (defArgs st_after_folds) (defBody st_after_folds) (defScope st_after_folds) [] [] f fd ∧ mg "after_folds" = some (.ref f)
  d__law_meets : ∃ f fd, FunD K "_law_meets" "_law_meets" (defArgs st__law_meets) (defBody st__law_meets) (defScope st__law_meets) [] [] f fd ∧ mg "_law_meets" = some (.ref f)
  d__law_crease : ∃ f fd, FunD K "_law_crease" "_law_crease" (defArgs st__law_crease) (defBody st__law_crease) (defScope st__law_crease) [] [] f fd ∧ mg "_law_crease" = some (.ref f)
  d__law_refused : ∃ f fd, FunD K "_law_refused" "_law_refused" (defArgs st__law_refused) (defBody st__law_refused) (defScope st__law_refused) [] [] f fd ∧ mg "_law_refused" = some (.ref f)
  d_law : ∃ f fd, FunD K "law" "law" (defArgs st_law) (defBody st_law) (defScope st_law) [] [] f fd ∧ mg "law" = some (.ref f)
section
variable {P : Program} {w : World} {K : PySem.W.Frag} {mg : Str → Option Value} {base : Heap} {C : Str → Addr}
/-! _law_draws -/
theorem sc__law_draws : FnScope ["script", "many", "draws", "seed", "cell", "k", "number"] ["script", "many"] (defScope st__law_draws) := ⟨rfl, rfl, rfl, by decide +kernel, rfl, by decide +kernel, by decide +kernel⟩
def b__law_draws : SD :=
  (sSeq (sOwn 2 (dLst dNil))
  (sSeq (sSet 3 (dC (.int 7)))
  (sSeq (sFor [false, true, true, true, false, false, false] [4] (iSeq (dSl (dVar 0) oNone (oSome (dC (.int 63))))) (gVar 4)
   (sSeq (sSet 6 (dCall bAbs (dCons (dVar 4) dNil)))
   (sSeq (sSet 3 (dBin opMod (dCall bInt (dCons (dBin opAdd (dBin opAdd (dBin opMul (dVar 3) (dC (.int 48271))) (dVar 6)) (dC (.int 11))) dNil)) (dC (.int 2147483647))))
   (sIf (dTst (dBin opGe (dVar 6) (dBin opPow (dC (.int 10)) (dC (.int 18)))))
    (sFor [false, true, true, true, false, false, true] [5] (iCall rng1 (dCons (dC (.int 60)) dNil)) (gVar 5)
     (sIf (dTst (dBin opGt (dVar 6) (dC (.int 0))))
      (sSeq (sMut 2 (dCons (dBin opMod (dCall bInt (dCons (dVar 6) dNil)) (dC (.int 1009))) dNil) hApp)
      (sSet 6 (dBin opFdv (dVar 6) (dC (.int 1009)))))
      sNext))
    (sMut 2 (dCons (dBin opMod (dBin opFdv (dCall bInt (dCons (dBin opAdd (dBin opMul (dVar 3) (dC (.int 16807))) (dC (.int 5))) dNil)) (dC (.int 3))) (dC (.int 65521))) dNil) hApp)))))
  (sSeq (sFor [false, true, true, true, false, false, false] [5] (iCall rng1 (dCons (dVar 1) dNil)) (gVar 5)
   (sIf (dTst (dBin opLt (dCall bLenS (dCons (dVarB 2) dNil)) (dVar 1)))
    (sSeq (sSet 3 (dBin opMod (dCall bInt (dCons (dBin opAdd (dBin opAdd (dBin opMul (dVar 3) (dC (.int 69621))) (dVar 5)) (dC (.int 1))) dNil)) (dC (.int 2147483647))))
    (sMut 2 (dCons (dBin opMod (dBin opFdv (dCall bInt (dCons (dVar 3) dNil)) (dC (.int 7))) (dC (.int 65521))) dNil) hApp))
    sNext))
  (sFrz 2 (sRet (dSl (dVarB 2) oNone (oSome (dVar 1)))))))))
def fd__law_draws : FD := fnD 2 5 b__law_draws
theorem ok__law_draws (F : Fx K mg (TT C))  : FnU P w K mg base (TT C) 2 "_law_draws" fd__law_draws := by
  obtain ⟨f, fd, D, hm⟩ := F.d__law_draws
  refine ⟨f, fd, ["script", "many"], fn_def (N := ["script", "many", "draws", "seed", "cell", "k", "number"]) (k := 1) D sc__law_draws (by decide) fun cdv A outer s H E hr tk => ?_, hm, D.kp, D.bindsN fun _ _ _ _ _ _ us hl => match us, hl with | [_, _], _ => rfl⟩
  have S := sc__law_draws
  exact (ss_cons (ss_own 2 S.nd (sn_lst sa_nil))
  (ss_cons (ss_set 3 S.nd se_int)
  (ss_cons (ss_for (vs := [4]) [false, true, true, true, false, false, false] (passes_of rfl) rfl (si_seq (se_sl (se_var 0).b so_none (so_some se_int))) (sg_var 4 S.nd)
   (ss_cons (ss_set 6 S.nd (se_callB cs_abs nx_abs F.b_abs (sa_consB (se_var 4).b sa_nil)))
   (ss_cons (ss_set 3 S.nd (se_bin os_mod nx_mod (se_callT cs_int nx_int F.b_int (sa_consB (se_bin os_add nx_add (se_bin os_add nx_add (se_bin os_mul nx_mul (se_var 3).b se_int.b).b (se_var 6).b).b se_int.b).b sa_nil)).b se_int.b))
   (ss_one (ss_if (st_cmp os_ge nx_ge (se_var 6).b (se_bin os_pow nx_pow se_int.b se_int.b).b (nomark _))
    (ss_one (ss_for (vs := [5]) [false, true, true, true, false, false, true] (passes_of rfl) rfl (si_rng1 F.b_range (sa_consB se_int.b sa_nil)) (sg_var 5 S.nd)
     (ss_one (ss_if (st_cmp os_gt nx_gt (se_var 6).b se_int.b (nomark _))
      (ss_cons (ss_append 2 (sa_cons (se_bin os_mod nx_mod (se_callT cs_int nx_int F.b_int (sa_consB (se_var 6).b sa_nil)).b se_int.b) sa_nil))
      (ss_one (ss_set 6 S.nd (se_bin os_fdv nx_fdv (se_var 6).b se_int.b))))
      ss_nil))))
    (ss_one (ss_append 2 (sa_cons (se_bin os_mod nx_mod (se_bin os_fdv nx_fdv (se_callT cs_int nx_int F.b_int (sa_consB (se_bin os_add nx_add (se_bin os_mul nx_mul (se_var 3).b se_int.b).b se_int.b).b sa_nil)).b se_int.b).b se_int.b) sa_nil))))))))
  (ss_cons (ss_for (vs := [5]) [false, true, true, true, false, false, false] (passes_of rfl) rfl (si_rng1 F.b_range (sa_consB (se_var 1).b sa_nil)) (sg_var 5 S.nd)
   (ss_one (ss_if (st_cmp (os_lt hr) nx_lt (se_callB cs_lenS nx_lenS F.b_len (sa_consB (sb_var 2) sa_nil)).b (se_var 1).b (nomark _))
    (ss_cons (ss_set 3 S.nd (se_bin os_mod nx_mod (se_callT cs_int nx_int F.b_int (sa_consB (se_bin os_add nx_add (se_bin os_add nx_add (se_bin os_mul nx_mul (se_var 3).b se_int.b).b (se_var 5).b).b se_int.b).b sa_nil)).b se_int.b))
    (ss_one (ss_append 2 (sa_cons (se_bin os_mod nx_mod (se_bin os_fdv nx_fdv (se_callT cs_int nx_int F.b_int (sa_consB (se_var 3).b sa_nil)).b se_int.b).b se_int.b) sa_nil))))
    ss_nil)))
  (ss_one (SS.frz 2 (ss_ret (se_sl (sb_var 2) so_none (so_some (se_var 1))).b)))))))
/-! is_integer -/
theorem sc_is_integer : FnScope ["value"] ["value"] (defScope st_is_integer) := ⟨rfl, rfl, rfl, by decide +kernel, rfl, by decide +kernel, by decide +kernel⟩
def b_is_integer : SD :=
  (sRet (dAndV (dIsi .int (dVar 0)) (dNotV (dIsi .bool (dVar 0)))))
def fd_is_integer : FD := fnD 1 0 b_is_integer
theorem ok_is_integer (F : Fx K mg (TT C))  : FnU P w K mg base (TT C) 2 "is_integer" fd_is_integer := by
  obtain ⟨f, fd, D, hm⟩ := F.d_is_integer
  refine ⟨f, fd, ["value"], fn_def (N := ["value"]) (k := 1) D sc_is_integer (by decide) fun cdv A outer s H E hr tk => ?_, hm, D.kp, D.bindsN fun _ _ _ _ _ _ us hl => match us, hl with | [_], _ => rfl⟩
  have S := sc_is_integer
  exact (ss_one (ss_ret (se_and (se_isi .int F.b_isinstance F.b_int (se_var 0).b) (se_one (se_not (se_isi .bool F.b_isinstance F.b_bool (se_var 0).b)))).b))
/-! _are_integers -/
theorem sc__are_integers : FnScope ["value", "one"] ["value"] (defScope st__are_integers) := ⟨rfl, rfl, rfl, by decide +kernel, rfl, by decide +kernel, by decide +kernel⟩
def b__are_integers : SD :=
  (sRet (dAndV (dIsi .tuple (dVar 0)) (dAndV (dBin opEq (dCall bLenS (dCons (dVar 0) dNil)) (dC (.int 3))) (dCall bAll (dCons (dLc [1] (iSeq (dVar 0)) (gVar 1) yes (dCall fd_is_integer (dCons (dVar 1) dNil))) dNil)))))
def fd__are_integers : FD := fnD 1 1 b__are_integers
theorem ok__are_integers (F : Fx K mg (TT C)) (U_is_integer : FnU P w K mg base (TT C) 2 "is_integer" fd_is_integer) : FnU P w K mg base (TT C) 4 "_are_integers" fd__are_integers := by
  obtain ⟨f, fd, D, hm⟩ := F.d__are_integers
  refine ⟨f, fd, ["value"], fn_def (N := ["value", "one"]) (k := 3) D sc__are_integers (by decide) fun cdv A outer s H E hr tk => ?_, hm, D.kp, D.bindsN fun _ _ _ _ _ _ us hl => match us, hl with | [_], _ => rfl⟩
  have S := sc__are_integers
  exact (ss_one (ss_ret (se_and (se_isi .tuple F.b_isinstance F.b_tuple (se_var 0).b) (se_and (se_cmp (os_eq hr) nx_eq (se_callB cs_lenS nx_lenS F.b_len (sa_consB (se_var 0).b sa_nil)).b se_int.b (nomark _)) (se_one (se_callB cs_all nx_all F.b_all (sa_consB (sn_lc [("one", 1)] [1] rfl rfl S.nd (sic_seq (se_var 0).b) (blkOk_by rfl) (gk_var (by decide)) (fun _ _ _ _ _ => (sg_var 1 S.nd)) (fun _ _ _ _ _ => sts_nil) (fun _ _ _ _ _ => (se_callU U_is_integer hr takes_none5 (sa_cons (se_var 1) sa_nil)))).se.b sa_nil))))).b))
/-! divisor -/
theorem sc_divisor : FnScope ["numbers", "found", "number", "one"] ["numbers"] (defScope st_divisor) := ⟨rfl, rfl, rfl, by decide +kernel, rfl, by decide +kernel, by decide +kernel⟩
def b_divisor : SD :=
  (sSeq (sSet 1 (dC (.int 0)))
  (sSeq (sFor [false, true, false, false] [2] (iSeq (dVar 0)) (gVar 2)
   (sSeq (sSet 3 (dCall bAbs (dCons (dVar 2) dNil)))
   (sWhile fuel [false, true, false, true] (dTst (dBin opGt (dVar 3) (dC (.int 0))))
    (sPar 1 3 (dCons (dVar 3) (dCons (dBin opMod (dVar 1) (dVar 3)) dNil))))))
  (sRet (dVar 1))))
def fd_divisor : FD := fnD 1 3 b_divisor
theorem ok_divisor (F : Fx K mg (TT C))  : FnU P w K mg base (TT C) 2 "divisor" fd_divisor := by
  obtain ⟨f, fd, D, hm⟩ := F.d_divisor
  refine ⟨f, fd, ["numbers"], fn_def (N := ["numbers", "found", "number", "one"]) (k := 1) D sc_divisor (by decide) fun cdv A outer s H E hr tk => ?_, hm, D.kp, D.bindsN fun _ _ _ _ _ _ us hl => match us, hl with | [_], _ => rfl⟩
  have S := sc_divisor
  exact (ss_cons (ss_set 1 S.nd se_int)
  (ss_cons (ss_for (vs := [2]) [false, true, false, false] (passes_of rfl) rfl (si_seq (se_var 0)) (sg_var 2 S.nd)
   (ss_cons (ss_set 3 S.nd (se_callB cs_abs nx_abs F.b_abs (sa_consB (se_var 2).b sa_nil)))
   (ss_one (ss_while fuel [false, true, false, true] (passes_of rfl) (st_cmp os_gt nx_gt (se_var 3).b se_int.b (nomark _))
    (ss_one (ss_par 1 3 S.nd (sa_cons (se_var 3) (sa_cons (se_bin os_mod nx_mod (se_var 1).b (se_var 3).b) sa_nil))))))))
  (ss_one (ss_ret (se_var 1).b))))
/-! is_line -/
theorem sc_is_line : FnScope ["value"] ["value"] (defScope st_is_line) := ⟨rfl, rfl, rfl, by decide +kernel, rfl, by decide +kernel, by decide +kernel⟩
def b_is_line : SD :=
  (sSeq (sIf (dOr (dNot (dTst (dCall fd__are_integers (dCons (dVar 0) dNil)))) (dTst (dBin opNe (dCall fd_divisor (dCons (dVar 0) dNil)) (dC (.int 1)))))
   (sRet (dC (.bl false)))
   sNext)
  (sRet (dOrV (dBin opGt (dBin opIx (dVar 0) (dC (.int 0))) (dC (.int 0))) (dAndV (dBin opEq (dBin opIx (dVar 0) (dC (.int 0))) (dC (.int 0))) (dBin opGt (dBin opIx (dVar 0) (dC (.int 1))) (dC (.int 0)))))))
def fd_is_line : FD := fnD 1 0 b_is_line
theorem ok_is_line (F : Fx K mg (TT C)) (U__are_integers : FnU P w K mg base (TT C) 4 "_are_integers" fd__are_integers) (U_divisor : FnU P w K mg base (TT C) 2 "divisor" fd_divisor) : FnU P w K mg base (TT C) 6 "is_line" fd_is_line := by
  obtain ⟨f, fd, D, hm⟩ := F.d_is_line
  refine ⟨f, fd, ["value"], fn_def (N := ["value"]) (k := 5) D sc_is_line (by decide) fun cdv A outer s H E hr tk => ?_, hm, D.kp, D.bindsN fun _ _ _ _ _ _ us hl => match us, hl with | [_], _ => rfl⟩
  have S := sc_is_line
  exact (ss_cons (ss_if (sw_or (st_not (st_val (se_callU U__are_integers hr tk (sa_cons (se_var 0) sa_nil)))) (sw_or1 (st_cmp (os_ne hr) nx_ne (se_callU U_divisor hr tk (sa_cons (se_var 0) sa_nil)).b se_int.b (nomark _)))).t
   (ss_one (ss_ret se_bl.b))
   ss_nil)
  (ss_one (ss_ret (se_or (se_cmp os_gt nx_gt (se_ix (se_var 0).b se_int.b).b se_int.b (nomark _)) (se_one (se_and (se_cmp (os_eq hr) nx_eq (se_ix (se_var 0).b se_int.b).b se_int.b (nomark _)) (se_one (se_cmp os_gt nx_gt (se_ix (se_var 0).b se_int.b).b se_int.b (nomark _)))))).b)))
/-! check_lines -/
theorem sc_check_lines : FnScope ["values", "value"] ["values"] (defScope st_check_lines) := ⟨rfl, rfl, rfl, by decide +kernel, rfl, by decide +kernel, by decide +kernel⟩
def b_check_lines : SD :=
  (sIf (dNot (dTst (dCall bAll (dCons (dLc [1] (iSeq (dVar 0)) (gVar 1) yes (dCall fd_is_line (dCons (dVar 1) dNil))) dNil))))
   (sRaise "BadLine")
   sNext)
def fd_check_lines : FD := fnD 1 1 b_check_lines
theorem ok_check_lines (F : Fx K mg (TT C)) (U_is_line : FnU P w K mg base (TT C) 6 "is_line" fd_is_line) : FnU P w K mg base (TT C) 8 "check_lines" fd_check_lines := by
  obtain ⟨f, fd, D, hm⟩ := F.d_check_lines
  refine ⟨f, fd, ["values"], fn_def (N := ["values", "value"]) (k := 7) D sc_check_lines (by decide) fun cdv A outer s H E hr tk => ?_, hm, D.kp, D.bindsN fun _ _ _ _ _ _ us hl => match us, hl with | [_], _ => rfl⟩
  have S := sc_check_lines
  exact (ss_one (ss_if (st_not (st_val (se_callB cs_all nx_all F.b_all (sa_consB (sn_lc [("value", 1)] [1] rfl rfl S.nd (sic_seq (se_var 0).b) (blkOk_by rfl) (gk_var (by decide)) (fun _ _ _ _ _ => (sg_var 1 S.nd)) (fun _ _ _ _ _ => sts_nil) (fun _ _ _ _ _ => (se_callU U_is_line hr takes_none5 (sa_cons (se_var 1) sa_nil)))).se.b sa_nil))))
   (ss_one (ss_raise F.x_BadLine.f tk))
   ss_nil))
/-! point -/
theorem sc_point : FnScope ["x", "y", "w", "by"] ["x", "y", "w"] (defScope st_point) := ⟨rfl, rfl, rfl, by decide +kernel, rfl, by decide +kernel, by decide +kernel⟩
def b_point : SD :=
  (sSeq (sIf (dOr (dNot (dTst (dCall fd__are_integers (dCons (dTup (dCons (dVar 0) (dCons (dVar 1) (dCons (dVar 2) dNil)))) dNil)))) (dTst (dBin opEq (dVar 2) (dC (.int 0)))))
   (sRaise "BadPoint")
   sNext)
  (sSeq (sSet 3 (dIf (dTst (dBin opGt (dVar 2) (dC (.int 0)))) (dCall fd_divisor (dCons (dTup (dCons (dVar 0) (dCons (dVar 1) (dCons (dVar 2) dNil)))) dNil)) (dBin opSub (dC (.int 0)) (dCall fd_divisor (dCons (dTup (dCons (dVar 0) (dCons (dVar 1) (dCons (dVar 2) dNil)))) dNil)))))
  (sRet (dTup (dCons (dBin opFdv (dVar 0) (dVar 3)) (dCons (dBin opFdv (dVar 1) (dVar 3)) (dCons (dBin opFdv (dVar 2) (dVar 3)) dNil)))))))
def fd_point : FD := fnD 3 1 b_point
theorem ok_point (F : Fx K mg (TT C)) (U__are_integers : FnU P w K mg base (TT C) 4 "_are_integers" fd__are_integers) (U_divisor : FnU P w K mg base (TT C) 2 "divisor" fd_divisor) : FnU P w K mg base (TT C) 6 "point" fd_point := by
  obtain ⟨f, fd, D, hm⟩ := F.d_point
  refine ⟨f, fd, ["x", "y", "w"], fn_def (N := ["x", "y", "w", "by"]) (k := 5) D sc_point (by decide) fun cdv A outer s H E hr tk => ?_, hm, D.kp, D.bindsN fun _ _ _ _ _ _ us hl => match us, hl with | [_, _, _], _ => rfl⟩
  have S := sc_point
  exact (ss_cons (ss_if (sw_or (st_not (st_val (se_callU U__are_integers hr tk (sa_cons (se_tup (sa_cons (se_var 0) (sa_cons (se_var 1) (sa_cons (se_var 2) sa_nil)))) sa_nil)))) (sw_or1 (st_cmp (os_eq hr) nx_eq (se_var 2).b se_int.b (nomark _)))).t
   (ss_one (ss_raise F.x_BadPoint.f tk))
   ss_nil)
  (ss_cons (ss_set 3 S.nd (se_if (st_cmp os_gt nx_gt (se_var 2).b se_int.b (nomark _)) (se_callU U_divisor hr tk (sa_cons (se_tup (sa_cons (se_var 0) (sa_cons (se_var 1) (sa_cons (se_var 2) sa_nil)))) sa_nil)) (se_bin os_sub nx_sub se_int.b (se_callU U_divisor hr tk (sa_cons (se_tup (sa_cons (se_var 0) (sa_cons (se_var 1) (sa_cons (se_var 2) sa_nil)))) sa_nil)).b)))
  (ss_one (ss_ret (se_tup (sa_cons (se_bin os_fdv nx_fdv (se_var 0).b (se_var 3).b) (sa_cons (se_bin os_fdv nx_fdv (se_var 1).b (se_var 3).b) (sa_cons (se_bin os_fdv nx_fdv (se_var 2).b (se_var 3).b) sa_nil)))).b))))
/-! cross -/
theorem sc_cross : FnScope ["first", "second", "under"] ["first", "second"] (defScope st_cross) := ⟨rfl, rfl, rfl, by decide +kernel, rfl, by decide +kernel, by decide +kernel⟩
def b_cross : SD :=
  (sSeq (sDrop (dCall fd_check_lines (dCons (dLst (dCons (dVar 0) (dCons (dVar 1) dNil))) dNil)))
  (sSeq (sSet 2 (dBin opSub (dBin opMul (dBin opIx (dVar 0) (dC (.int 0))) (dBin opIx (dVar 1) (dC (.int 1)))) (dBin opMul (dBin opIx (dVar 0) (dC (.int 1))) (dBin opIx (dVar 1) (dC (.int 0))))))
  (sSeq (sIf (dTst (dBin opEq (dVar 2) (dC (.int 0))))
   (sRet (dC .non))
   sNext)
  (sRet (dCall fd_point (dCons (dBin opSub (dBin opMul (dBin opIx (dVar 0) (dC (.int 2))) (dBin opIx (dVar 1) (dC (.int 1)))) (dBin opMul (dBin opIx (dVar 0) (dC (.int 1))) (dBin opIx (dVar 1) (dC (.int 2))))) (dCons (dBin opSub (dBin opMul (dBin opIx (dVar 0) (dC (.int 0))) (dBin opIx (dVar 1) (dC (.int 2)))) (dBin opMul (dBin opIx (dVar 0) (dC (.int 2))) (dBin opIx (dVar 1) (dC (.int 0))))) (dCons (dVar 2) dNil))))))))
def fd_cross : FD := fnD 2 1 b_cross
theorem ok_cross (F : Fx K mg (TT C)) (U_check_lines : FnU P w K mg base (TT C) 8 "check_lines" fd_check_lines) (U_point : FnU P w K mg base (TT C) 6 "point" fd_point) : FnU P w K mg base (TT C) 10 "cross" fd_cross := by
  obtain ⟨f, fd, D, hm⟩ := F.d_cross
  refine ⟨f, fd, ["first", "second"], fn_def (N := ["first", "second", "under"]) (k := 9) D sc_cross (by decide) fun cdv A outer s H E hr tk => ?_, hm, D.kp, D.bindsN fun _ _ _ _ _ _ us hl => match us, hl with | [_, _], _ => rfl⟩
  have S := sc_cross
  exact (ss_cons (ss_drop (se_callU U_check_lines hr tk (sa_cons (sn_lst (sa_cons (se_var 0) (sa_cons (se_var 1) sa_nil))).se sa_nil)))
  (ss_cons (ss_set 2 S.nd (se_bin os_sub nx_sub (se_bin os_mul nx_mul (se_ix (se_var 0).b se_int.b).b (se_ix (se_var 1).b se_int.b).b).b (se_bin os_mul nx_mul (se_ix (se_var 0).b se_int.b).b (se_ix (se_var 1).b se_int.b).b).b))
  (ss_cons (ss_if (st_cmp (os_eq hr) nx_eq (se_var 2).b se_int.b (nomark _))
   (ss_one (ss_ret se_non.b))
   ss_nil)
  (ss_one (ss_ret (se_callU U_point hr tk (sa_cons (se_bin os_sub nx_sub (se_bin os_mul nx_mul (se_ix (se_var 0).b se_int.b).b (se_ix (se_var 1).b se_int.b).b).b (se_bin os_mul nx_mul (se_ix (se_var 0).b se_int.b).b (se_ix (se_var 1).b se_int.b).b).b) (sa_cons (se_bin os_sub nx_sub (se_bin os_mul nx_mul (se_ix (se_var 0).b se_int.b).b (se_ix (se_var 1).b se_int.b).b).b (se_bin os_mul nx_mul (se_ix (se_var 0).b se_int.b).b (se_ix (se_var 1).b se_int.b).b).b) (sa_cons (se_var 2) sa_nil)))).b)))))
/-! meets -/
theorem sc_meets : FnScope ["lines", "found", "number", "first", "second", "here"] ["lines"] (defScope st_meets) := ⟨rfl, rfl, rfl, by decide +kernel, rfl, by decide +kernel, by decide +kernel⟩
def b_meets : SD :=
  (sSeq (sOwn 1 (dDct true))
  (sSeq (sFor [true, true, false, false, false, false] [2, 3] (iEnumD (dVar 0)) (gTups 2 (gsCons (gVar 2) (gsCons (gVar 3) gsNil)))
   (sFor [true, true, false, true, false, false] [4] (iSeq (dSl (dVar 0) (oSome (dBin opAdd (dVar 2) (dC (.int 1)))) oNone)) (gVar 4)
    (sSeq (sSet 5 (dCall fd_cross (dCons (dVar 3) (dCons (dVar 4) dNil))))
    (sIf (dTst (dBin opNotN (dVar 5) (dC .non)))
     (sDPutD 1 (dVar 5) (dC (.bl true)))
     sNext))))
  (sFrz 1 (sRet (dCall bSorted (dCons (dVarB 1) dNil))))))
def fd_meets : FD := fnD 1 5 b_meets
theorem ok_meets (F : Fx K mg (TT C)) (U_cross : FnU P w K mg base (TT C) 10 "cross" fd_cross) : FnU P w K mg base (TT C) 12 "meets" fd_meets := by
  obtain ⟨f, fd, D, hm⟩ := F.d_meets
  refine ⟨f, fd, ["lines"], fn_def (N := ["lines", "found", "number", "first", "second", "here"]) (k := 11) D sc_meets (by decide) fun cdv A outer s H E hr tk => ?_, hm, D.kp, D.bindsN fun _ _ _ _ _ _ us hl => match us, hl with | [_], _ => rfl⟩
  have S := sc_meets
  exact (ss_cons (ss_own 1 S.nd sn_dctT)
  (ss_cons (ss_for (vs := [2, 3]) [true, true, false, false, false, false] (passes_of rfl) rfl (si_enum F.b_enumerate (se_var 0)) (sg_tup rfl (sgs_cons (sg_var 2 S.nd) (sgs_cons (sg_var 3 S.nd) sgs_nil)))
   (ss_one (ss_for (vs := [4]) [true, true, false, true, false, false] (passes_of rfl) rfl (si_seq (se_sl (se_var 0).b (so_some (se_bin os_add nx_add (se_var 2).b se_int.b)) so_none)) (sg_var 4 S.nd)
    (ss_cons (ss_set 5 S.nd (se_callU U_cross hr tk (sa_cons (se_var 3) (sa_cons (se_var 4) sa_nil))))
    (ss_one (ss_if (st_cmp os_notN nx_notN (se_var 5).b se_non.b (nomark _))
     (ss_one (ss_dput 1 hr (se_var 5) se_bl))
     ss_nil))))))
  (ss_one (SS.frz 1 (ss_ret (sn_callB cn_sorted nx_sorted F.b_sorted (sa_consB (sb_var 1) sa_nil)).se.b)))))
/-! is_point -/
theorem sc_is_point : FnScope ["value"] ["value"] (defScope st_is_point) := ⟨rfl, rfl, rfl, by decide +kernel, rfl, by decide +kernel, by decide +kernel⟩
def b_is_point : SD :=
  (sRet (dAndV (dCall fd__are_integers (dCons (dVar 0) dNil)) (dAndV (dBin opGt (dBin opIx (dVar 0) (dC (.int 2))) (dC (.int 0))) (dBin opEq (dCall fd_divisor (dCons (dVar 0) dNil)) (dC (.int 1))))))
def fd_is_point : FD := fnD 1 0 b_is_point
theorem ok_is_point (F : Fx K mg (TT C)) (U__are_integers : FnU P w K mg base (TT C) 4 "_are_integers" fd__are_integers) (U_divisor : FnU P w K mg base (TT C) 2 "divisor" fd_divisor) : FnU P w K mg base (TT C) 6 "is_point" fd_is_point := by
  obtain ⟨f, fd, D, hm⟩ := F.d_is_point
  refine ⟨f, fd, ["value"], fn_def (N := ["value"]) (k := 5) D sc_is_point (by decide) fun cdv A outer s H E hr tk => ?_, hm, D.kp, D.bindsN fun _ _ _ _ _ _ us hl => match us, hl with | [_], _ => rfl⟩
  have S := sc_is_point
  exact (ss_one (ss_ret (se_and (se_callU U__are_integers hr tk (sa_cons (se_var 0) sa_nil)) (se_and (se_cmp os_gt nx_gt (se_ix (se_var 0).b se_int.b).b se_int.b (nomark _)) (se_one (se_cmp (os_eq hr) nx_eq (se_callU U_divisor hr tk (sa_cons (se_var 0) sa_nil)).b se_int.b (nomark _))))).b))
/-! check_points -/
theorem sc_check_points : FnScope ["values", "value"] ["values"] (defScope st_check_points) := ⟨rfl, rfl, rfl, by decide +kernel, rfl, by decide +kernel, by decide +kernel⟩
def b_check_points : SD :=
  (sIf (dNot (dTst (dCall bAll (dCons (dLc [1] (iSeq (dVar 0)) (gVar 1) yes (dCall fd_is_point (dCons (dVar 1) dNil))) dNil))))
   (sRaise "BadPoint")
   sNext)
def fd_check_points : FD := fnD 1 1 b_check_points
theorem ok_check_points (F : Fx K mg (TT C)) (U_is_point : FnU P w K mg base (TT C) 6 "is_point" fd_is_point) : FnU P w K mg base (TT C) 8 "check_points" fd_check_points := by
  obtain ⟨f, fd, D, hm⟩ := F.d_check_points
  refine ⟨f, fd, ["values"], fn_def (N := ["values", "value"]) (k := 7) D sc_check_points (by decide) fun cdv A outer s H E hr tk => ?_, hm, D.kp, D.bindsN fun _ _ _ _ _ _ us hl => match us, hl with | [_], _ => rfl⟩
  have S := sc_check_points
  exact (ss_one (ss_if (st_not (st_val (se_callB cs_all nx_all F.b_all (sa_consB (sn_lc [("value", 1)] [1] rfl rfl S.nd (sic_seq (se_var 0).b) (blkOk_by rfl) (gk_var (by decide)) (fun _ _ _ _ _ => (sg_var 1 S.nd)) (fun _ _ _ _ _ => sts_nil) (fun _ _ _ _ _ => (se_callU U_is_point hr takes_none5 (sa_cons (se_var 1) sa_nil)))).se.b sa_nil))))
   (ss_one (ss_raise F.x_BadPoint.f tk))
   ss_nil))
/-! in_sheet -/
theorem sc_in_sheet : FnScope ["here"] ["here"] (defScope st_in_sheet) := ⟨rfl, rfl, rfl, by decide +kernel, rfl, by decide +kernel, by decide +kernel⟩
def b_in_sheet : SD :=
  (sSeq (sDrop (dCall fd_check_points (dCons (dLst (dCons (dVar 0) dNil)) dNil)))
  (sRet (dAndV (dChain opLe opLe (dC (.int 0)) (dBin opIx (dVar 0) (dC (.int 0))) (dBin opIx (dVar 0) (dC (.int 2)))) (dChain opLe opLe (dC (.int 0)) (dBin opIx (dVar 0) (dC (.int 1))) (dBin opIx (dVar 0) (dC (.int 2)))))))
def fd_in_sheet : FD := fnD 1 0 b_in_sheet
theorem ok_in_sheet (F : Fx K mg (TT C)) (U_check_points : FnU P w K mg base (TT C) 8 "check_points" fd_check_points) : FnU P w K mg base (TT C) 10 "in_sheet" fd_in_sheet := by
  obtain ⟨f, fd, D, hm⟩ := F.d_in_sheet
  refine ⟨f, fd, ["here"], fn_def (N := ["here"]) (k := 9) D sc_in_sheet (by decide) fun cdv A outer s H E hr tk => ?_, hm, D.kp, D.bindsN fun _ _ _ _ _ _ us hl => match us, hl with | [_], _ => rfl⟩
  have S := sc_in_sheet
  exact (ss_cons (ss_drop (se_callU U_check_points hr tk (sa_cons (sn_lst (sa_cons (se_var 0) sa_nil)).se sa_nil)))
  (ss_one (ss_ret (se_and (se_chain os_le nx_le os_le nx_le se_int.b (se_ix (se_var 0).b se_int.b).b (se_ix (se_var 0).b se_int.b).b) (se_one (se_chain os_le nx_le os_le nx_le se_int.b (se_ix (se_var 0).b se_int.b).b (se_ix (se_var 0).b se_int.b).b))).b)))
/-! root -/
theorem sc_root : FnScope ["number", "low", "high", "middle"] ["number"] (defScope st_root) := ⟨rfl, rfl, rfl, by decide +kernel, rfl, by decide +kernel, by decide +kernel⟩
def b_root : SD :=
  (sSeq (sIf (dOr (dNot (dTst (dCall fd_is_integer (dCons (dVar 0) dNil)))) (dTst (dBin opLt (dVar 0) (dC (.int 0)))))
   (sRaise "BadPoint")
   sNext)
  (sSeq (sAsg [1, 2] (gTups 2 (gsCons (gVar 1) (gsCons (gVar 2) gsNil))) (dTup (dCons (dC (.int 0)) (dCons (dC (.int 1)) dNil))))
  (sSeq (sWhile fuel [true, true, true, false] (dTst (dBin opLe (dBin opMul (dVar 2) (dVar 2)) (dVar 0)))
   (sAug 2 opMulI (dC (.int 2))))
  (sSeq (sWhile fuel [true, true, true, false] (dTst (dBin opGt (dBin opSub (dVar 2) (dVar 1)) (dC (.int 1))))
   (sSeq (sSet 3 (dBin opFdv (dBin opAdd (dVar 1) (dVar 2)) (dC (.int 2))))
   (sIf (dTst (dBin opLe (dBin opMul (dVar 3) (dVar 3)) (dVar 0)))
    (sSet 1 (dVar 3))
    (sSet 2 (dVar 3)))))
  (sRet (dIf (dTst (dBin opEq (dBin opMul (dVar 1) (dVar 1)) (dVar 0))) (dVar 1) (dC .non)))))))
def fd_root : FD := fnD 1 3 b_root
theorem ok_root (F : Fx K mg (TT C)) (U_is_integer : FnU P w K mg base (TT C) 2 "is_integer" fd_is_integer) : FnU P w K mg base (TT C) 4 "root" fd_root := by
  obtain ⟨f, fd, D, hm⟩ := F.d_root
  refine ⟨f, fd, ["number"], fn_def (N := ["number", "low", "high", "middle"]) (k := 3) D sc_root (by decide) fun cdv A outer s H E hr tk => ?_, hm, D.kp, D.bindsN fun _ _ _ _ _ _ us hl => match us, hl with | [_], _ => rfl⟩
  have S := sc_root
  exact (ss_cons (ss_if (sw_or (st_not (st_val (se_callU U_is_integer hr tk (sa_cons (se_var 0) sa_nil)))) (sw_or1 (st_cmp (os_lt hr) nx_lt (se_var 0).b se_int.b (nomark _)))).t
   (ss_one (ss_raise F.x_BadPoint.f tk))
   ss_nil)
  (ss_cons (ss_asg (vs := [1, 2]) (se_tup (sa_cons se_int (sa_cons se_int sa_nil))) (sg_tup rfl (sgs_cons (sg_var 1 S.nd) (sgs_cons (sg_var 2 S.nd) sgs_nil))))
  (ss_cons (ss_while fuel [true, true, true, false] (passes_of rfl) (st_cmp os_le nx_le (se_bin os_mul nx_mul (se_var 2).b (se_var 2).b).b (se_var 0).b (nomark _))
   (ss_one (ss_aug 2 S.nd ios_mul se_int.b)))
  (ss_cons (ss_while fuel [true, true, true, false] (passes_of rfl) (st_cmp os_gt nx_gt (se_bin os_sub nx_sub (se_var 2).b (se_var 1).b).b se_int.b (nomark _))
   (ss_cons (ss_set 3 S.nd (se_bin os_fdv nx_fdv (se_bin os_add nx_add (se_var 1).b (se_var 2).b).b se_int.b))
   (ss_one (ss_if (st_cmp os_le nx_le (se_bin os_mul nx_mul (se_var 3).b (se_var 3).b).b (se_var 0).b (nomark _))
    (ss_one (ss_set 1 S.nd (se_var 3)))
    (ss_one (ss_set 2 S.nd (se_var 3)))))))
  (ss_one (ss_ret (se_if (st_cmp (os_eq hr) nx_eq (se_bin os_mul nx_mul (se_var 1).b (se_var 1).b).b (se_var 0).b (nomark _)) (se_var 1) se_non).b))))))
/-! line -/
theorem sc_line : FnScope ["a", "b", "c", "by"] ["a", "b", "c"] (defScope st_line) := ⟨rfl, rfl, rfl, by decide +kernel, rfl, by decide +kernel, by decide +kernel⟩
def b_line : SD :=
  (sSeq (sIf (dOr (dNot (dTst (dCall fd__are_integers (dCons (dTup (dCons (dVar 0) (dCons (dVar 1) (dCons (dVar 2) dNil)))) dNil)))) (dAnd (dTst (dBin opEq (dVar 0) (dC (.int 0)))) (dTst (dBin opEq (dVar 1) (dC (.int 0))))))
   (sRaise "BadLine")
   sNext)
  (sSeq (sSet 3 (dIf (dOr (dTst (dBin opGt (dVar 0) (dC (.int 0)))) (dAnd (dTst (dBin opEq (dVar 0) (dC (.int 0)))) (dTst (dBin opGt (dVar 1) (dC (.int 0)))))) (dCall fd_divisor (dCons (dTup (dCons (dVar 0) (dCons (dVar 1) (dCons (dVar 2) dNil)))) dNil)) (dBin opSub (dC (.int 0)) (dCall fd_divisor (dCons (dTup (dCons (dVar 0) (dCons (dVar 1) (dCons (dVar 2) dNil)))) dNil)))))
  (sRet (dTup (dCons (dBin opFdv (dVar 0) (dVar 3)) (dCons (dBin opFdv (dVar 1) (dVar 3)) (dCons (dBin opFdv (dVar 2) (dVar 3)) dNil)))))))
def fd_line : FD := fnD 3 1 b_line
theorem ok_line (F : Fx K mg (TT C)) (U__are_integers : FnU P w K mg base (TT C) 4 "_are_integers" fd__are_integers) (U_divisor : FnU P w K mg base (TT C) 2 "divisor" fd_divisor) : FnU P w K mg base (TT C) 6 "line" fd_line := by
  obtain ⟨f, fd, D, hm⟩ := F.d_line
  refine ⟨f, fd, ["a", "b", "c"], fn_def (N := ["a", "b", "c", "by"]) (k := 5) D sc_line (by decide) fun cdv A outer s H E hr tk => ?_, hm, D.kp, D.bindsN fun _ _ _ _ _ _ us hl => match us, hl with | [_, _, _], _ => rfl⟩
  have S := sc_line
  exact (ss_cons (ss_if (sw_or (st_not (st_val (se_callU U__are_integers hr tk (sa_cons (se_tup (sa_cons (se_var 0) (sa_cons (se_var 1) (sa_cons (se_var 2) sa_nil)))) sa_nil)))) (sw_or1 (sw_and (st_cmp (os_eq hr) nx_eq (se_var 0).b se_int.b (nomark _)) (sw_and1 (st_cmp (os_eq hr) nx_eq (se_var 1).b se_int.b (nomark _)))).t)).t
   (ss_one (ss_raise F.x_BadLine.f tk))
   ss_nil)
  (ss_cons (ss_set 3 S.nd (se_if (sw_or (st_cmp os_gt nx_gt (se_var 0).b se_int.b (nomark _)) (sw_or1 (sw_and (st_cmp (os_eq hr) nx_eq (se_var 0).b se_int.b (nomark _)) (sw_and1 (st_cmp os_gt nx_gt (se_var 1).b se_int.b (nomark _)))).t)).t (se_callU U_divisor hr tk (sa_cons (se_tup (sa_cons (se_var 0) (sa_cons (se_var 1) (sa_cons (se_var 2) sa_nil)))) sa_nil)) (se_bin os_sub nx_sub se_int.b (se_callU U_divisor hr tk (sa_cons (se_tup (sa_cons (se_var 0) (sa_cons (se_var 1) (sa_cons (se_var 2) sa_nil)))) sa_nil)).b)))
  (ss_one (ss_ret (se_tup (sa_cons (se_bin os_fdv nx_fdv (se_var 0).b (se_var 3).b) (sa_cons (se_bin os_fdv nx_fdv (se_var 1).b (se_var 3).b) (sa_cons (se_bin os_fdv nx_fdv (se_var 2).b (se_var 3).b) sa_nil)))).b))))
/-! _size -/
theorem sc__size : FnScope ["first", "second"] ["first", "second"] (defScope st__size) := ⟨rfl, rfl, rfl, by decide +kernel, rfl, by decide +kernel, by decide +kernel⟩
def b__size : SD :=
  (sRet (dIf (dTst (dBin opNe (dVar 0) (dC (.int 0)))) (dVar 0) (dVar 1)))
def fd__size : FD := fnD 2 0 b__size
theorem ok__size (F : Fx K mg (TT C))  : FnU P w K mg base (TT C) 2 "_size" fd__size := by
  obtain ⟨f, fd, D, hm⟩ := F.d__size
  refine ⟨f, fd, ["first", "second"], fn_def (N := ["first", "second"]) (k := 1) D sc__size (by decide) fun cdv A outer s H E hr tk => ?_, hm, D.kp, D.bindsN fun _ _ _ _ _ _ us hl => match us, hl with | [_, _], _ => rfl⟩
  have S := sc__size
  exact (ss_one (ss_ret (se_if (st_cmp (os_ne hr) nx_ne (se_var 0).b se_int.b (nomark _)) (se_var 0) (se_var 1)).b))
/-! lays -/
theorem sc_lays : FnScope ["first", "second", "both", "square", "found", "sign", "a", "b", "c", "d", "e", "f"] ["first", "second"] (defScope st_lays) := ⟨rfl, rfl, rfl, by decide +kernel, rfl, by decide +kernel, by decide +kernel⟩
def b_lays : SD :=
  (sSeq (sDrop (dCall fd_check_lines (dCons (dLst (dCons (dVar 0) (dCons (dVar 1) dNil))) dNil)))
  (sSeq (sIf (dTst (dBin opEq (dVar 0) (dVar 1)))
   (sRaise "Same")
   sNext)
  (sSeq (sAsg [6, 7, 8] (gTups 3 (gsCons (gVar 6) (gsCons (gVar 7) (gsCons (gVar 8) gsNil)))) (dVar 0))
  (sSeq (sAsg [9, 10, 11] (gTups 3 (gsCons (gVar 9) (gsCons (gVar 10) (gsCons (gVar 11) gsNil)))) (dVar 1))
  (sSeq (sIf (dTst (dBin opEq (dBin opMul (dVar 6) (dVar 10)) (dBin opMul (dVar 7) (dVar 9))))
   (sRet (dTup (dCons (dCall fd_line (dCons (dBin opMul (dBin opMul (dC (.int 2)) (dVar 6)) (dCall fd__size (dCons (dVar 9) (dCons (dVar 10) dNil)))) (dCons (dBin opMul (dBin opMul (dC (.int 2)) (dVar 7)) (dCall fd__size (dCons (dVar 9) (dCons (dVar 10) dNil)))) (dCons (dBin opAdd (dBin opMul (dVar 8) (dCall fd__size (dCons (dVar 9) (dCons (dVar 10) dNil)))) (dBin opMul (dVar 11) (dCall fd__size (dCons (dVar 6) (dCons (dVar 7) dNil))))) dNil)))) dNil)))
   sNext)
  (sSeq (sSet 2 (dCall fd_root (dCons (dBin opMul (dBin opAdd (dBin opMul (dVar 6) (dVar 6)) (dBin opMul (dVar 7) (dVar 7))) (dBin opAdd (dBin opMul (dVar 9) (dVar 9)) (dBin opMul (dVar 10) (dVar 10)))) dNil)))
  (sSeq (sIf (dTst (dBin opIsN (dVar 2) (dC .non)))
   (sRet (dTup dNil))
   sNext)
  (sSeq (sSet 3 (dBin opAdd (dBin opMul (dVar 6) (dVar 6)) (dBin opMul (dVar 7) (dVar 7))))
  (sSeq (sOwn 4 (dLst dNil))
  (sSeq (sFor [false, false, true, true, true, false, true, true, true, true, true, true] [5] (iSeq (dTup (dCons (dC (.int 1)) (dCons (dNeg (dC (.int 1))) dNil)))) (gVar 5)
   (sMut 4 (dCons (dCall fd_line (dCons (dBin opAdd (dBin opMul (dVar 6) (dVar 2)) (dBin opMul (dBin opMul (dVar 5) (dVar 3)) (dVar 9))) (dCons (dBin opAdd (dBin opMul (dVar 7) (dVar 2)) (dBin opMul (dBin opMul (dVar 5) (dVar 3)) (dVar 10))) (dCons (dBin opAdd (dBin opMul (dVar 8) (dVar 2)) (dBin opMul (dBin opMul (dVar 5) (dVar 3)) (dVar 11))) dNil)))) dNil) hApp))
  (sFrz 4 (sRet (dCall bTuple (dCons (dCall bSorted (dCons (dVarB 4) dNil)) dNil))))))))))))))
def fd_lays : FD := fnD 2 10 b_lays
theorem ok_lays (F : Fx K mg (TT C)) (U__size : FnU P w K mg base (TT C) 2 "_size" fd__size) (U_check_lines : FnU P w K mg base (TT C) 8 "check_lines" fd_check_lines) (U_line : FnU P w K mg base (TT C) 6 "line" fd_line) (U_root : FnU P w K mg base (TT C) 4 "root" fd_root) : FnU P w K mg base (TT C) 10 "lays" fd_lays := by
  obtain ⟨f, fd, D, hm⟩ := F.d_lays
  refine ⟨f, fd, ["first", "second"], fn_def (N := ["first", "second", "both", "square", "found", "sign", "a", "b", "c", "d", "e", "f"]) (k := 9) D sc_lays (by decide) fun cdv A outer s H E hr tk => ?_, hm, D.kp, D.bindsN fun _ _ _ _ _ _ us hl => match us, hl with | [_, _], _ => rfl⟩
  have S := sc_lays
  exact (ss_cons (ss_drop (se_callU U_check_lines hr tk (sa_cons (sn_lst (sa_cons (se_var 0) (sa_cons (se_var 1) sa_nil))).se sa_nil)))
  (ss_cons (ss_if (st_cmp (os_eq hr) nx_eq (se_var 0).b (se_var 1).b (nomark _))
   (ss_one (ss_raise F.x_Same.f tk))
   ss_nil)
  (ss_cons (ss_asg (vs := [6, 7, 8]) (se_var 0) (sg_tup rfl (sgs_cons (sg_var 6 S.nd) (sgs_cons (sg_var 7 S.nd) (sgs_cons (sg_var 8 S.nd) sgs_nil)))))
  (ss_cons (ss_asg (vs := [9, 10, 11]) (se_var 1) (sg_tup rfl (sgs_cons (sg_var 9 S.nd) (sgs_cons (sg_var 10 S.nd) (sgs_cons (sg_var 11 S.nd) sgs_nil)))))
  (ss_cons (ss_if (st_cmp (os_eq hr) nx_eq (se_bin os_mul nx_mul (se_var 6).b (se_var 10).b).b (se_bin os_mul nx_mul (se_var 7).b (se_var 9).b).b (nomark _))
   (ss_one (ss_ret (se_tup (sa_cons (se_callU U_line hr tk (sa_cons (se_bin os_mul nx_mul (se_bin os_mul nx_mul se_int.b (se_var 6).b).b (se_callU U__size hr tk (sa_cons (se_var 9) (sa_cons (se_var 10) sa_nil))).b) (sa_cons (se_bin os_mul nx_mul (se_bin os_mul nx_mul se_int.b (se_var 7).b).b (se_callU U__size hr tk (sa_cons (se_var 9) (sa_cons (se_var 10) sa_nil))).b) (sa_cons (se_bin os_add nx_add (se_bin os_mul nx_mul (se_var 8).b (se_callU U__size hr tk (sa_cons (se_var 9) (sa_cons (se_var 10) sa_nil))).b).b (se_bin os_mul nx_mul (se_var 11).b (se_callU U__size hr tk (sa_cons (se_var 6) (sa_cons (se_var 7) sa_nil))).b).b) sa_nil)))) sa_nil)).b))
   ss_nil)
  (ss_cons (ss_set 2 S.nd (se_callU U_root hr tk (sa_cons (se_bin os_mul nx_mul (se_bin os_add nx_add (se_bin os_mul nx_mul (se_var 6).b (se_var 6).b).b (se_bin os_mul nx_mul (se_var 7).b (se_var 7).b).b).b (se_bin os_add nx_add (se_bin os_mul nx_mul (se_var 9).b (se_var 9).b).b (se_bin os_mul nx_mul (se_var 10).b (se_var 10).b).b).b) sa_nil)))
  (ss_cons (ss_if (st_cmp os_isN nx_isN (se_var 2).b se_non.b (nomark _))
   (ss_one (ss_ret (se_tup sa_nil).b))
   ss_nil)
  (ss_cons (ss_set 3 S.nd (se_bin os_add nx_add (se_bin os_mul nx_mul (se_var 6).b (se_var 6).b).b (se_bin os_mul nx_mul (se_var 7).b (se_var 7).b).b))
  (ss_cons (ss_own 4 S.nd (sn_lst sa_nil))
  (ss_cons (ss_for (vs := [5]) [false, false, true, true, true, false, true, true, true, true, true, true] (passes_of rfl) rfl (si_seq (se_tup (sa_cons se_int (sa_cons (se_neg se_int) sa_nil)))) (sg_var 5 S.nd)
   (ss_one (ss_append 4 (sa_cons (se_callU U_line hr tk (sa_cons (se_bin os_add nx_add (se_bin os_mul nx_mul (se_var 6).b (se_var 2).b).b (se_bin os_mul nx_mul (se_bin os_mul nx_mul (se_var 5).b (se_var 3).b).b (se_var 9).b).b) (sa_cons (se_bin os_add nx_add (se_bin os_mul nx_mul (se_var 7).b (se_var 2).b).b (se_bin os_mul nx_mul (se_bin os_mul nx_mul (se_var 5).b (se_var 3).b).b (se_var 10).b).b) (sa_cons (se_bin os_add nx_add (se_bin os_mul nx_mul (se_var 8).b (se_var 2).b).b (se_bin os_mul nx_mul (se_bin os_mul nx_mul (se_var 5).b (se_var 3).b).b (se_var 11).b).b) sa_nil)))) sa_nil))))
  (ss_one (SS.frz 4 (ss_ret (se_callT cs_tuple nx_tuple F.b_tuple (sa_consB (sn_callB cn_sorted nx_sorted F.b_sorted (sa_consB (sb_var 4) sa_nil)).se.b sa_nil)).b)))))))))))))
/-! joined -/
theorem sc_joined : FnScope ["first", "second", "a", "b"] ["first", "second"] (defScope st_joined) := ⟨rfl, rfl, rfl, by decide +kernel, rfl, by decide +kernel, by decide +kernel⟩
def b_joined : SD :=
  (sSeq (sSet 2 (dBin opSub (dBin opMul (dBin opIx (dVar 0) (dC (.int 1))) (dBin opIx (dVar 1) (dC (.int 2)))) (dBin opMul (dBin opIx (dVar 1) (dC (.int 1))) (dBin opIx (dVar 0) (dC (.int 2))))))
  (sSeq (sSet 3 (dBin opSub (dBin opMul (dBin opIx (dVar 1) (dC (.int 0))) (dBin opIx (dVar 0) (dC (.int 2)))) (dBin opMul (dBin opIx (dVar 0) (dC (.int 0))) (dBin opIx (dVar 1) (dC (.int 2))))))
  (sRet (dCall fd_line (dCons (dVar 2) (dCons (dVar 3) (dCons (dBin opSub (dBin opMul (dBin opIx (dVar 1) (dC (.int 0))) (dBin opIx (dVar 0) (dC (.int 1)))) (dBin opMul (dBin opIx (dVar 0) (dC (.int 0))) (dBin opIx (dVar 1) (dC (.int 1))))) dNil)))))))
def fd_joined : FD := fnD 2 2 b_joined
theorem ok_joined (F : Fx K mg (TT C)) (U_line : FnU P w K mg base (TT C) 6 "line" fd_line) : FnU P w K mg base (TT C) 8 "joined" fd_joined := by
  obtain ⟨f, fd, D, hm⟩ := F.d_joined
  refine ⟨f, fd, ["first", "second"], fn_def (N := ["first", "second", "a", "b"]) (k := 7) D sc_joined (by decide) fun cdv A outer s H E hr tk => ?_, hm, D.kp, D.bindsN fun _ _ _ _ _ _ us hl => match us, hl with | [_, _], _ => rfl⟩
  have S := sc_joined
  exact (ss_cons (ss_set 2 S.nd (se_bin os_sub nx_sub (se_bin os_mul nx_mul (se_ix (se_var 0).b se_int.b).b (se_ix (se_var 1).b se_int.b).b).b (se_bin os_mul nx_mul (se_ix (se_var 1).b se_int.b).b (se_ix (se_var 0).b se_int.b).b).b))
  (ss_cons (ss_set 3 S.nd (se_bin os_sub nx_sub (se_bin os_mul nx_mul (se_ix (se_var 1).b se_int.b).b (se_ix (se_var 0).b se_int.b).b).b (se_bin os_mul nx_mul (se_ix (se_var 0).b se_int.b).b (se_ix (se_var 1).b se_int.b).b).b))
  (ss_one (ss_ret (se_callU U_line hr tk (sa_cons (se_var 2) (sa_cons (se_var 3) (sa_cons (se_bin os_sub nx_sub (se_bin os_mul nx_mul (se_ix (se_var 1).b se_int.b).b (se_ix (se_var 0).b se_int.b).b).b (se_bin os_mul nx_mul (se_ix (se_var 0).b se_int.b).b (se_ix (se_var 1).b se_int.b).b).b) sa_nil)))).b))))
/-! through -/
theorem sc_through : FnScope ["first", "second"] ["first", "second"] (defScope st_through) := ⟨rfl, rfl, rfl, by decide +kernel, rfl, by decide +kernel, by decide +kernel⟩
def b_through : SD :=
  (sSeq (sDrop (dCall fd_check_points (dCons (dLst (dCons (dVar 0) (dCons (dVar 1) dNil))) dNil)))
  (sSeq (sIf (dTst (dBin opEq (dVar 0) (dVar 1)))
   (sRaise "Same")
   sNext)
  (sRet (dCall fd_joined (dCons (dVar 0) (dCons (dVar 1) dNil))))))
def fd_through : FD := fnD 2 0 b_through
theorem ok_through (F : Fx K mg (TT C)) (U_check_points : FnU P w K mg base (TT C) 8 "check_points" fd_check_points) (U_joined : FnU P w K mg base (TT C) 8 "joined" fd_joined) : FnU P w K mg base (TT C) 10 "through" fd_through := by
  obtain ⟨f, fd, D, hm⟩ := F.d_through
  refine ⟨f, fd, ["first", "second"], fn_def (N := ["first", "second"]) (k := 9) D sc_through (by decide) fun cdv A outer s H E hr tk => ?_, hm, D.kp, D.bindsN fun _ _ _ _ _ _ us hl => match us, hl with | [_, _], _ => rfl⟩
  have S := sc_through
  exact (ss_cons (ss_drop (se_callU U_check_points hr tk (sa_cons (sn_lst (sa_cons (se_var 0) (sa_cons (se_var 1) sa_nil))).se sa_nil)))
  (ss_cons (ss_if (st_cmp (os_eq hr) nx_eq (se_var 0).b (se_var 1).b (nomark _))
   (ss_one (ss_raise F.x_Same.f tk))
   ss_nil)
  (ss_one (ss_ret (se_callU U_joined hr tk (sa_cons (se_var 0) (sa_cons (se_var 1) sa_nil))).b))))
/-! onto -/
theorem sc_onto : FnScope ["first", "second", "a", "b", "c", "x", "y", "w", "u", "v", "z"] ["first", "second"] (defScope st_onto) := ⟨rfl, rfl, rfl, by decide +kernel, rfl, by decide +kernel, by decide +kernel⟩
def b_onto : SD :=
  (sSeq (sDrop (dCall fd_check_points (dCons (dLst (dCons (dVar 0) (dCons (dVar 1) dNil))) dNil)))
  (sSeq (sIf (dTst (dBin opEq (dVar 0) (dVar 1)))
   (sRaise "Same")
   sNext)
  (sSeq (sAsg [5, 6, 7] (gTups 3 (gsCons (gVar 5) (gsCons (gVar 6) (gsCons (gVar 7) gsNil)))) (dVar 0))
  (sSeq (sAsg [8, 9, 10] (gTups 3 (gsCons (gVar 8) (gsCons (gVar 9) (gsCons (gVar 10) gsNil)))) (dVar 1))
  (sSeq (sSet 2 (dBin opMul (dBin opMul (dBin opMul (dC (.int 2)) (dVar 7)) (dVar 10)) (dBin opSub (dBin opMul (dVar 8) (dVar 7)) (dBin opMul (dVar 5) (dVar 10)))))
  (sSeq (sSet 3 (dBin opMul (dBin opMul (dBin opMul (dC (.int 2)) (dVar 7)) (dVar 10)) (dBin opSub (dBin opMul (dVar 9) (dVar 7)) (dBin opMul (dVar 6) (dVar 10)))))
  (sSeq (sSet 4 (dBin opSub (dBin opMul (dBin opMul (dBin opAdd (dBin opMul (dVar 8) (dVar 8)) (dBin opMul (dVar 9) (dVar 9))) (dVar 7)) (dVar 7)) (dBin opMul (dBin opMul (dBin opAdd (dBin opMul (dVar 5) (dVar 5)) (dBin opMul (dVar 6) (dVar 6))) (dVar 10)) (dVar 10))))
  (sRet (dCall fd_line (dCons (dVar 2) (dCons (dVar 3) (dCons (dVar 4) dNil))))))))))))
def fd_onto : FD := fnD 2 9 b_onto
theorem ok_onto (F : Fx K mg (TT C)) (U_check_points : FnU P w K mg base (TT C) 8 "check_points" fd_check_points) (U_line : FnU P w K mg base (TT C) 6 "line" fd_line) : FnU P w K mg base (TT C) 10 "onto" fd_onto := by
  obtain ⟨f, fd, D, hm⟩ := F.d_onto
  refine ⟨f, fd, ["first", "second"], fn_def (N := ["first", "second", "a", "b", "c", "x", "y", "w", "u", "v", "z"]) (k := 9) D sc_onto (by decide) fun cdv A outer s H E hr tk => ?_, hm, D.kp, D.bindsN fun _ _ _ _ _ _ us hl => match us, hl with | [_, _], _ => rfl⟩
  have S := sc_onto
  exact (ss_cons (ss_drop (se_callU U_check_points hr tk (sa_cons (sn_lst (sa_cons (se_var 0) (sa_cons (se_var 1) sa_nil))).se sa_nil)))
  (ss_cons (ss_if (st_cmp (os_eq hr) nx_eq (se_var 0).b (se_var 1).b (nomark _))
   (ss_one (ss_raise F.x_Same.f tk))
   ss_nil)
  (ss_cons (ss_asg (vs := [5, 6, 7]) (se_var 0) (sg_tup rfl (sgs_cons (sg_var 5 S.nd) (sgs_cons (sg_var 6 S.nd) (sgs_cons (sg_var 7 S.nd) sgs_nil)))))
  (ss_cons (ss_asg (vs := [8, 9, 10]) (se_var 1) (sg_tup rfl (sgs_cons (sg_var 8 S.nd) (sgs_cons (sg_var 9 S.nd) (sgs_cons (sg_var 10 S.nd) sgs_nil)))))
  (ss_cons (ss_set 2 S.nd (se_bin os_mul nx_mul (se_bin os_mul nx_mul (se_bin os_mul nx_mul se_int.b (se_var 7).b).b (se_var 10).b).b (se_bin os_sub nx_sub (se_bin os_mul nx_mul (se_var 8).b (se_var 7).b).b (se_bin os_mul nx_mul (se_var 5).b (se_var 10).b).b).b))
  (ss_cons (ss_set 3 S.nd (se_bin os_mul nx_mul (se_bin os_mul nx_mul (se_bin os_mul nx_mul se_int.b (se_var 7).b).b (se_var 10).b).b (se_bin os_sub nx_sub (se_bin os_mul nx_mul (se_var 9).b (se_var 7).b).b (se_bin os_mul nx_mul (se_var 6).b (se_var 10).b).b).b))
  (ss_cons (ss_set 4 S.nd (se_bin os_sub nx_sub (se_bin os_mul nx_mul (se_bin os_mul nx_mul (se_bin os_add nx_add (se_bin os_mul nx_mul (se_var 8).b (se_var 8).b).b (se_bin os_mul nx_mul (se_var 9).b (se_var 9).b).b).b (se_var 7).b).b (se_var 7).b).b (se_bin os_mul nx_mul (se_bin os_mul nx_mul (se_bin os_add nx_add (se_bin os_mul nx_mul (se_var 5).b (se_var 5).b).b (se_bin os_mul nx_mul (se_var 6).b (se_var 6).b).b).b (se_var 10).b).b (se_var 10).b).b))
  (ss_one (ss_ret (se_callU U_line hr tk (sa_cons (se_var 2) (sa_cons (se_var 3) (sa_cons (se_var 4) sa_nil)))).b)))))))))
/-! square_to -/
theorem sc_square_to : FnScope ["here", "there"] ["here", "there"] (defScope st_square_to) := ⟨rfl, rfl, rfl, by decide +kernel, rfl, by decide +kernel, by decide +kernel⟩
def b_square_to : SD :=
  (sSeq (sDrop (dCall fd_check_points (dCons (dLst (dCons (dVar 0) dNil)) dNil)))
  (sSeq (sDrop (dCall fd_check_lines (dCons (dLst (dCons (dVar 1) dNil)) dNil)))
  (sRet (dCall fd_line (dCons (dBin opMul (dBin opIx (dVar 1) (dC (.int 1))) (dBin opIx (dVar 0) (dC (.int 2)))) (dCons (dBin opSub (dC (.int 0)) (dBin opMul (dBin opIx (dVar 1) (dC (.int 0))) (dBin opIx (dVar 0) (dC (.int 2))))) (dCons (dBin opSub (dBin opMul (dBin opIx (dVar 1) (dC (.int 1))) (dBin opIx (dVar 0) (dC (.int 0)))) (dBin opMul (dBin opIx (dVar 1) (dC (.int 0))) (dBin opIx (dVar 0) (dC (.int 1))))) dNil)))))))
def fd_square_to : FD := fnD 2 0 b_square_to
theorem ok_square_to (F : Fx K mg (TT C)) (U_check_lines : FnU P w K mg base (TT C) 8 "check_lines" fd_check_lines) (U_check_points : FnU P w K mg base (TT C) 8 "check_points" fd_check_points) (U_line : FnU P w K mg base (TT C) 6 "line" fd_line) : FnU P w K mg base (TT C) 10 "square_to" fd_square_to := by
  obtain ⟨f, fd, D, hm⟩ := F.d_square_to
  refine ⟨f, fd, ["here", "there"], fn_def (N := ["here", "there"]) (k := 9) D sc_square_to (by decide) fun cdv A outer s H E hr tk => ?_, hm, D.kp, D.bindsN fun _ _ _ _ _ _ us hl => match us, hl with | [_, _], _ => rfl⟩
  have S := sc_square_to
  exact (ss_cons (ss_drop (se_callU U_check_points hr tk (sa_cons (sn_lst (sa_cons (se_var 0) sa_nil)).se sa_nil)))
  (ss_cons (ss_drop (se_callU U_check_lines hr tk (sa_cons (sn_lst (sa_cons (se_var 1) sa_nil)).se sa_nil)))
  (ss_one (ss_ret (se_callU U_line hr tk (sa_cons (se_bin os_mul nx_mul (se_ix (se_var 1).b se_int.b).b (se_ix (se_var 0).b se_int.b).b) (sa_cons (se_bin os_sub nx_sub se_int.b (se_bin os_mul nx_mul (se_ix (se_var 1).b se_int.b).b (se_ix (se_var 0).b se_int.b).b).b) (sa_cons (se_bin os_sub nx_sub (se_bin os_mul nx_mul (se_ix (se_var 1).b se_int.b).b (se_ix (se_var 0).b se_int.b).b).b (se_bin os_mul nx_mul (se_ix (se_var 1).b se_int.b).b (se_ix (se_var 0).b se_int.b).b).b) sa_nil)))).b))))
/-! _creases -/
theorem sc__creases : FnScope ["lines", "points", "found", "number", "first", "second", "there", "here", "crease"] ["lines"] (defScope st__creases) := ⟨rfl, rfl, rfl, by decide +kernel, rfl, by decide +kernel, by decide +kernel⟩
def b__creases : SD :=
  (sSeq (sSet 1 (dLc [7] (iSeq (dCall fd_meets (dCons (dVar 0) dNil))) (gVar 7) (dTst (dCall fd_in_sheet (dCons (dVar 7) dNil))) (dVar 7)))
  (sSeq (sOwn 2 (dDct true))
  (sSeq (sFor [true, true, true, false, false, false, false, false, false] [3, 4] (iEnumD (dVar 1)) (gTups 2 (gsCons (gVar 3) (gsCons (gVar 4) gsNil)))
   (sSeq (sFor [true, true, true, false, true, false, false, false, false] [5] (iSeq (dSl (dVar 1) (oSome (dBin opAdd (dVar 3) (dC (.int 1)))) oNone)) (gVar 5)
    (sSeq (sDPutD 2 (dCall fd_through (dCons (dVar 4) (dCons (dVar 5) dNil))) (dC (.bl true)))
    (sDPutD 2 (dCall fd_onto (dCons (dVar 4) (dCons (dVar 5) dNil))) (dC (.bl true)))))
   (sFor [true, true, true, false, true, false, false, false, false] [6] (iSeq (dVar 0)) (gVar 6)
    (sDPutD 2 (dCall fd_square_to (dCons (dVar 4) (dCons (dVar 6) dNil))) (dC (.bl true))))))
  (sSeq (sFor [true, false, true, false, false, false, false, false, false] [3, 4] (iEnumD (dVar 0)) (gTups 2 (gsCons (gVar 3) (gsCons (gVar 4) gsNil)))
   (sFor [true, false, true, false, true, false, false, false, false] [5] (iSeq (dSl (dVar 0) (oSome (dBin opAdd (dVar 3) (dC (.int 1)))) oNone)) (gVar 5)
    (sFor [true, false, true, false, true, false, false, false, false] [8] (iSeq (dCall fd_lays (dCons (dVar 4) (dCons (dVar 5) dNil)))) (gVar 8)
     (sDPutD 2 (dVar 8) (dC (.bl true))))))
  (sFrz 2 (sRet (dLc [8] (iSeq (dCall bSorted (dCons (dVarB 2) dNil))) (gVar 8) (dTst (dBin (negB opInA) (dVar 8) (dVar 0))) (dVar 8))))))))
def fd__creases : FD := fnD 1 8 b__creases
theorem ok__creases (F : Fx K mg (TT C)) (U_in_sheet : FnU P w K mg base (TT C) 10 "in_sheet" fd_in_sheet) (U_lays : FnU P w K mg base (TT C) 10 "lays" fd_lays) (U_meets : FnU P w K mg base (TT C) 12 "meets" fd_meets) (U_onto : FnU P w K mg base (TT C) 10 "onto" fd_onto) (U_square_to : FnU P w K mg base (TT C) 10 "square_to" fd_square_to) (U_through : FnU P w K mg base (TT C) 10 "through" fd_through) : FnU P w K mg base (TT C) 14 "_creases" fd__creases := by
  obtain ⟨f, fd, D, hm⟩ := F.d__creases
  refine ⟨f, fd, ["lines"], fn_def (N := ["lines", "points", "found", "number", "first", "second", "there", "here", "crease"]) (k := 13) D sc__creases (by decide) fun cdv A outer s H E hr tk => ?_, hm, D.kp, D.bindsN fun _ _ _ _ _ _ us hl => match us, hl with | [_], _ => rfl⟩
  have S := sc__creases
  exact (ss_cons (ss_setLc 1 [("here", 7)] [7] rfl rfl S.nd (sic_seq (se_callU U_meets hr tk (sa_cons (se_var 0) sa_nil)).b) (blkOk_by rfl) (gk_var (by decide)) (fun _ _ _ _ _ => (sg_var 7 S.nd)) (fun _ _ _ _ _ => (sts_one (st_val (se_callU U_in_sheet hr takes_none5 (sa_cons (se_var 7) sa_nil))))) (fun _ _ _ _ _ => (se_var 7)))
  (ss_cons (ss_own 2 S.nd sn_dctT)
  (ss_cons (ss_for (vs := [3, 4]) [true, true, true, false, false, false, false, false, false] (passes_of rfl) rfl (si_enum F.b_enumerate (se_var 1)) (sg_tup rfl (sgs_cons (sg_var 3 S.nd) (sgs_cons (sg_var 4 S.nd) sgs_nil)))
   (ss_cons (ss_for (vs := [5]) [true, true, true, false, true, false, false, false, false] (passes_of rfl) rfl (si_seq (se_sl (se_var 1).b (so_some (se_bin os_add nx_add (se_var 3).b se_int.b)) so_none)) (sg_var 5 S.nd)
    (ss_cons (ss_dput 2 hr (se_callU U_through hr tk (sa_cons (se_var 4) (sa_cons (se_var 5) sa_nil))) se_bl)
    (ss_one (ss_dput 2 hr (se_callU U_onto hr tk (sa_cons (se_var 4) (sa_cons (se_var 5) sa_nil))) se_bl))))
   (ss_one (ss_for (vs := [6]) [true, true, true, false, true, false, false, false, false] (passes_of rfl) rfl (si_seq (se_var 0)) (sg_var 6 S.nd)
    (ss_one (ss_dput 2 hr (se_callU U_square_to hr tk (sa_cons (se_var 4) (sa_cons (se_var 6) sa_nil))) se_bl))))))
  (ss_cons (ss_for (vs := [3, 4]) [true, false, true, false, false, false, false, false, false] (passes_of rfl) rfl (si_enum F.b_enumerate (se_var 0)) (sg_tup rfl (sgs_cons (sg_var 3 S.nd) (sgs_cons (sg_var 4 S.nd) sgs_nil)))
   (ss_one (ss_for (vs := [5]) [true, false, true, false, true, false, false, false, false] (passes_of rfl) rfl (si_seq (se_sl (se_var 0).b (so_some (se_bin os_add nx_add (se_var 3).b se_int.b)) so_none)) (sg_var 5 S.nd)
    (ss_one (ss_for (vs := [8]) [true, false, true, false, true, false, false, false, false] (passes_of rfl) rfl (si_seq (se_callU U_lays hr tk (sa_cons (se_var 4) (sa_cons (se_var 5) sa_nil)))) (sg_var 8 S.nd)
     (ss_one (ss_dput 2 hr (se_var 8) se_bl)))))))
  (ss_one (SS.frz 2 (ss_ret (sn_lc [("crease", 8)] [8] rfl rfl S.nd (sic_seq (sn_callB cn_sorted nx_sorted F.b_sorted (sa_consB (sb_var 2) sa_nil)).se.b) (blkOk_by rfl) (gk_var (by decide)) (fun _ _ _ _ _ => (sg_var 8 S.nd)) (fun _ _ _ _ _ => (sts_one (st_cmp (os_notInA hr) (nx_neg nx_inA) (se_var 8).b (se_var 0).b (by rfl)))) (fun _ _ _ _ _ => (se_var 8))).se.b)))))))
/-! after_folds -/
theorem sc_after_folds : FnScope ["number", "rows", "found", "_fold", "row", "longer", "here", "crease"] ["number"] (defScope st_after_folds) := ⟨rfl, rfl, rfl, by decide +kernel, rfl, by decide +kernel, by decide +kernel⟩
def b_after_folds : SD :=
  (sSeq (sIf (dOr (dNot (dTst (dCall fd_is_integer (dCons (dVar 0) dNil)))) (dNot (dTst (dChain opLe opLe (dC (.int 0)) (dVar 0) (dC (.int 2))))))
   (sRaise "BadPoint")
   sNext)
  (sSeq (sSet 1 (dLst (dCons (dCall bListA (dCons (dC c_EDGES) dNil)) dNil)))
  (sSeq (sOwn 2 (dDct true))
  (sSeq (sFor [false, true, true, false, false, false, false, false] [3] (iCall rng1 (dCons (dVar 0) dNil)) (gVar 3)
   (sSeq (sOwn 5 (dLst dNil))
   (sSeq (sFor [false, true, true, false, false, true, false, false] [4] (iSeq (dVar 1)) (gVar 4)
    (sMut 5 (dCons (dLc [7] (iSeq (dCall fd__creases (dCons (dVar 4) dNil))) (gVar 7) yes (dBin opAdd (dVar 4) (dLst (dCons (dVar 7) dNil)))) dNil) hExt))
   (sFrz 5 (sSet 1 (dBin opAdd (dVar 1) (dVarB 5)))))))
  (sSeq (sFor [false, false, true, false, false, false, false, false] [4] (iSeq (dVar 1)) (gVar 4)
   (sFor [false, false, true, false, false, false, false, false] [6] (iSeq (dCall fd_meets (dCons (dVar 4) dNil))) (gVar 6)
    (sIf (dTst (dCall fd_in_sheet (dCons (dVar 6) dNil)))
     (sDPutD 2 (dVar 6) (dC (.bl true)))
     sNext)))
  (sFrz 2 (sRet (dCall bTuple (dCons (dCall bSorted (dCons (dVarB 2) dNil)) dNil)))))))))
def fd_after_folds : FD := fnD 1 7 b_after_folds
theorem ok_after_folds (F : Fx K mg (TT C)) (U__creases : FnU P w K mg base (TT C) 14 "_creases" fd__creases) (U_in_sheet : FnU P w K mg base (TT C) 10 "in_sheet" fd_in_sheet) (U_is_integer : FnU P w K mg base (TT C) 2 "is_integer" fd_is_integer) (U_meets : FnU P w K mg base (TT C) 12 "meets" fd_meets) : FnU P w K mg base (TT C) 16 "after_folds" fd_after_folds := by
  obtain ⟨f, fd, D, hm⟩ := F.d_after_folds
  refine ⟨f, fd, ["number"], fn_def (N := ["number", "rows", "found", "_fold", "row", "longer", "here", "crease"]) (k := 15) D sc_after_folds (by decide) fun cdv A outer s H E hr tk => ?_, hm, D.kp, D.bindsN fun _ _ _ _ _ _ us hl => match us, hl with | [_], _ => rfl⟩
  have S := sc_after_folds
  exact (ss_cons (ss_if (sw_or (st_not (st_val (se_callU U_is_integer hr tk (sa_cons (se_var 0) sa_nil)))) (sw_or1 (st_not (st_chain os_le nx_le os_le nx_le se_int.b (se_var 0).b se_int.b)))).t
   (ss_one (ss_raise F.x_BadPoint.f tk))
   ss_nil)
  (ss_cons (ss_set 1 S.nd (sn_lst (sa_cons (sn_callT cn_listA nx_listA F.b_list (sa_consB (se_gl F.c_EDGES).b sa_nil)).se sa_nil)).se)
  (ss_cons (ss_own 2 S.nd sn_dctT)
  (ss_cons (ss_for (vs := [3]) [false, true, true, false, false, false, false, false] (passes_of rfl) rfl (si_rng1 F.b_range (sa_consB (se_var 0).b sa_nil)) (sg_var 3 S.nd)
   (ss_cons (ss_own 5 S.nd (sn_lst sa_nil))
   (ss_cons (ss_for (vs := [4]) [false, true, true, false, false, true, false, false] (passes_of rfl) rfl (si_seq (se_var 1)) (sg_var 4 S.nd)
    (ss_one (ss_extend 5 (sa_cons (sn_lc [("crease", 7)] [7] rfl rfl S.nd (sic_seq (se_callU U__creases hr tk (sa_cons (se_var 4) sa_nil)).b) (blkOk_by rfl) (gk_var (by decide)) (fun _ _ _ _ _ => (sg_var 7 S.nd)) (fun _ _ _ _ _ => sts_nil) (fun _ _ _ _ _ => (se_bin os_add nx_add (se_var 4).b (sn_lst (sa_cons (se_var 7) sa_nil)).se.b))).se sa_nil))))
   (ss_one (SS.frz 5 (ss_set 1 S.nd (se_bin os_add nx_add (se_var 1).b (sb_var 5))))))))
  (ss_cons (ss_for (vs := [4]) [false, false, true, false, false, false, false, false] (passes_of rfl) rfl (si_seq (se_var 1)) (sg_var 4 S.nd)
   (ss_one (ss_for (vs := [6]) [false, false, true, false, false, false, false, false] (passes_of rfl) rfl (si_seq (se_callU U_meets hr tk (sa_cons (se_var 4) sa_nil))) (sg_var 6 S.nd)
    (ss_one (ss_if (st_val (se_callU U_in_sheet hr tk (sa_cons (se_var 6) sa_nil)))
     (ss_one (ss_dput 2 hr (se_var 6) se_bl))
     ss_nil)))))
  (ss_one (SS.frz 2 (ss_ret (se_callT cs_tuple nx_tuple F.b_tuple (sa_consB (sn_callB cn_sorted nx_sorted F.b_sorted (sa_consB (sb_var 2) sa_nil)).se.b sa_nil)).b))))))))
/-! _law_meets -/
theorem sc__law_meets : FnScope ["lines", "found", "k", "j", "here"] ["lines"] (defScope st__law_meets) := ⟨rfl, rfl, rfl, by decide +kernel, rfl, by decide +kernel, by decide +kernel⟩
def b__law_meets : SD :=
  (sSeq (sOwn 1 (dLst dNil))
  (sSeq (sFor [true, true, false, false, false] [2] (iCall rng1 (dCons (dCall bLenS (dCons (dVar 0) dNil)) dNil)) (gVar 2)
   (sFor [true, true, true, false, false] [3] (iCall rng1 (dCons (dVar 2) dNil)) (gVar 3)
    (sSeq (sSet 4 (dCall fd_cross (dCons (dBin opIx (dVar 0) (dVar 2)) (dCons (dBin opIx (dVar 0) (dVar 3)) dNil))))
    (sIf (dAnd (dTst (dBin opNotN (dVar 4) (dC .non))) (dAnd (dTst (dCall fd_in_sheet (dCons (dVar 4) dNil))) (dTst (dBin (negB opInA) (dVar 4) (dVarB 1)))))
     (sMut 1 (dCons (dVar 4) dNil) hApp)
     sNext))))
  (sFrz 1 (sRet (dCall bSorted (dCons (dVarB 1) dNil))))))
def fd__law_meets : FD := fnD 1 4 b__law_meets
theorem ok__law_meets (F : Fx K mg (TT C)) (U_cross : FnU P w K mg base (TT C) 10 "cross" fd_cross) (U_in_sheet : FnU P w K mg base (TT C) 10 "in_sheet" fd_in_sheet) : FnU P w K mg base (TT C) 12 "_law_meets" fd__law_meets := by
  obtain ⟨f, fd, D, hm⟩ := F.d__law_meets
  refine ⟨f, fd, ["lines"], fn_def (N := ["lines", "found", "k", "j", "here"]) (k := 11) D sc__law_meets (by decide) fun cdv A outer s H E hr tk => ?_, hm, D.kp, D.bindsN fun _ _ _ _ _ _ us hl => match us, hl with | [_], _ => rfl⟩
  have S := sc__law_meets
  exact (ss_cons (ss_own 1 S.nd (sn_lst sa_nil))
  (ss_cons (ss_for (vs := [2]) [true, true, false, false, false] (passes_of rfl) rfl (si_rng1 F.b_range (sa_consB (se_callB cs_lenS nx_lenS F.b_len (sa_consB (se_var 0).b sa_nil)).b sa_nil)) (sg_var 2 S.nd)
   (ss_one (ss_for (vs := [3]) [true, true, true, false, false] (passes_of rfl) rfl (si_rng1 F.b_range (sa_consB (se_var 2).b sa_nil)) (sg_var 3 S.nd)
    (ss_cons (ss_set 4 S.nd (se_callU U_cross hr tk (sa_cons (se_ix (se_var 0).b (se_var 2).b) (sa_cons (se_ix (se_var 0).b (se_var 3).b) sa_nil))))
    (ss_one (ss_if (sw_and (st_cmp os_notN nx_notN (se_var 4).b se_non.b (nomark _)) (sw_and (st_val (se_callU U_in_sheet hr tk (sa_cons (se_var 4) sa_nil))) (sw_and1 (st_cmp (os_notInA hr) (nx_neg nx_inA) (se_var 4).b (sb_var 1) (by rfl))))).t
     (ss_one (ss_append 1 (sa_cons (se_var 4) sa_nil)))
     ss_nil))))))
  (ss_one (SS.frz 1 (ss_ret (sn_callB cn_sorted nx_sorted F.b_sorted (sa_consB (sb_var 1) sa_nil)).se.b)))))
/-! _law_crease -/
theorem sc__law_crease : FnScope ["draws", "lines", "points", "creases", "way", "k", "j", "one", "two"] ["draws", "lines"] (defScope st__law_crease) := ⟨rfl, rfl, rfl, by decide +kernel, rfl, by decide +kernel, by decide +kernel⟩
def b__law_crease : SD :=
  (sSeq (sSet 2 (dCall fd__law_meets (dCons (dVar 1) dNil)))
  (sSeq (sPar3 4 5 6 (dCons (dBin opMod (dCall bInt (dCons (dBin opIx (dVar 0) (dC (.int 0))) dNil)) (dC (.int 4))) (dCons (dBin opMod (dCall bInt (dCons (dBin opIx (dVar 0) (dC (.int 1))) dNil)) (dCall bLenS (dCons (dVar 2) dNil))) (dCons (dBin opMod (dCall bInt (dCons (dBin opIx (dVar 0) (dC (.int 2))) dNil)) (dCall bLenS (dCons (dVar 2) dNil))) dNil))))
  (sSeq (sIf (dAnd (dTst (dBin opLt (dVar 4) (dC (.int 2)))) (dTst (dBin opNe (dVar 5) (dVar 6))))
   (sRet (dSel [fd_through, fd_onto] (dVar 4) (dCons (dBin opIx (dVar 2) (dVar 5)) (dCons (dBin opIx (dVar 2) (dVar 6)) dNil))))
   sNext)
  (sSeq (sIf (dTst (dBin opEq (dVar 4) (dC (.int 2))))
   (sRet (dCall fd_square_to (dCons (dBin opIx (dVar 2) (dVar 5)) (dCons (dBin opIx (dVar 1) (dBin opMod (dCall bInt (dCons (dBin opIx (dVar 0) (dC (.int 2))) dNil)) (dCall bLenS (dCons (dVar 1) dNil)))) dNil))))
   sNext)
  (sSeq (sPar 7 8 (dCons (dBin opIx (dVar 1) (dBin opMod (dCall bInt (dCons (dBin opIx (dVar 0) (dC (.int 1))) dNil)) (dCall bLenS (dCons (dVar 1) dNil)))) (dCons (dBin opIx (dVar 1) (dBin opMod (dCall bInt (dCons (dBin opIx (dVar 0) (dC (.int 2))) dNil)) (dCall bLenS (dCons (dVar 1) dNil)))) dNil)))
  (sSeq (sSet 3 (dIf (dTst (dBin opNe (dVar 7) (dVar 8))) (dCall fd_lays (dCons (dVar 7) (dCons (dVar 8) dNil))) (dTup dNil)))
  (sRet (dIf (dTst (dBin opGt (dCall bLenS (dCons (dVar 3) dNil)) (dC (.int 0)))) (dBin opIx (dVar 3) (dBin opMod (dCall bInt (dCons (dBin opIx (dVar 0) (dC (.int 3))) dNil)) (dCall bLenS (dCons (dVar 3) dNil)))) (dBin opIx (dVar 1) (dC (.int 0)))))))))))
def fd__law_crease : FD := fnD 2 7 b__law_crease
theorem ok__law_crease (F : Fx K mg (TT C)) (U__law_meets : FnU P w K mg base (TT C) 12 "_law_meets" fd__law_meets) (U_lays : FnU P w K mg base (TT C) 10 "lays" fd_lays) (U_onto : FnU P w K mg base (TT C) 10 "onto" fd_onto) (U_square_to : FnU P w K mg base (TT C) 10 "square_to" fd_square_to) (U_through : FnU P w K mg base (TT C) 10 "through" fd_through) : FnU P w K mg base (TT C) 14 "_law_crease" fd__law_crease := by
  obtain ⟨f, fd, D, hm⟩ := F.d__law_crease
  refine ⟨f, fd, ["draws", "lines"], fn_def (N := ["draws", "lines", "points", "creases", "way", "k", "j", "one", "two"]) (k := 13) D sc__law_crease (by decide) fun cdv A outer s H E hr tk => ?_, hm, D.kp, D.bindsN fun _ _ _ _ _ _ us hl => match us, hl with | [_, _], _ => rfl⟩
  have S := sc__law_crease
  exact (ss_cons (ss_set 2 S.nd (se_callU U__law_meets hr tk (sa_cons (se_var 1) sa_nil)))
  (ss_cons (ss_par3 4 5 6 S.nd (sa_cons (se_bin os_mod nx_mod (se_callT cs_int nx_int F.b_int (sa_consB (se_ix (se_var 0).b se_int.b).b sa_nil)).b se_int.b) (sa_cons (se_bin os_mod nx_mod (se_callT cs_int nx_int F.b_int (sa_consB (se_ix (se_var 0).b se_int.b).b sa_nil)).b (se_callB cs_lenS nx_lenS F.b_len (sa_consB (se_var 2).b sa_nil)).b) (sa_cons (se_bin os_mod nx_mod (se_callT cs_int nx_int F.b_int (sa_consB (se_ix (se_var 0).b se_int.b).b sa_nil)).b (se_callB cs_lenS nx_lenS F.b_len (sa_consB (se_var 2).b sa_nil)).b) sa_nil))))
  (ss_cons (ss_if (sw_and (st_cmp (os_lt hr) nx_lt (se_var 4).b se_int.b (nomark _)) (sw_and1 (st_cmp (os_ne hr) nx_ne (se_var 5).b (se_var 6).b (nomark _)))).t
   (ss_one (ss_ret (se_sel2 (k := 10) (U_through.mono (by decide)) (U_onto.mono (by decide)) hr tk (se_var 4) (sa_cons (se_ix (se_var 2).b (se_var 5).b) (sa_cons (se_ix (se_var 2).b (se_var 6).b) sa_nil))).b))
   ss_nil)
  (ss_cons (ss_if (st_cmp (os_eq hr) nx_eq (se_var 4).b se_int.b (nomark _))
   (ss_one (ss_ret (se_callU U_square_to hr tk (sa_cons (se_ix (se_var 2).b (se_var 5).b) (sa_cons (se_ix (se_var 1).b (se_bin os_mod nx_mod (se_callT cs_int nx_int F.b_int (sa_consB (se_ix (se_var 0).b se_int.b).b sa_nil)).b (se_callB cs_lenS nx_lenS F.b_len (sa_consB (se_var 1).b sa_nil)).b).b) sa_nil))).b))
   ss_nil)
  (ss_cons (ss_par 7 8 S.nd (sa_cons (se_ix (se_var 1).b (se_bin os_mod nx_mod (se_callT cs_int nx_int F.b_int (sa_consB (se_ix (se_var 0).b se_int.b).b sa_nil)).b (se_callB cs_lenS nx_lenS F.b_len (sa_consB (se_var 1).b sa_nil)).b).b) (sa_cons (se_ix (se_var 1).b (se_bin os_mod nx_mod (se_callT cs_int nx_int F.b_int (sa_consB (se_ix (se_var 0).b se_int.b).b sa_nil)).b (se_callB cs_lenS nx_lenS F.b_len (sa_consB (se_var 1).b sa_nil)).b).b) sa_nil)))
  (ss_cons (ss_set 3 S.nd (se_if (st_cmp (os_ne hr) nx_ne (se_var 7).b (se_var 8).b (nomark _)) (se_callU U_lays hr tk (sa_cons (se_var 7) (sa_cons (se_var 8) sa_nil))) (se_tup sa_nil)))
  (ss_one (ss_ret (se_if (st_cmp os_gt nx_gt (se_callB cs_lenS nx_lenS F.b_len (sa_consB (se_var 3).b sa_nil)).b se_int.b (nomark _)) (se_ix (se_var 3).b (se_bin os_mod nx_mod (se_callT cs_int nx_int F.b_int (sa_consB (se_ix (se_var 0).b se_int.b).b sa_nil)).b (se_callB cs_lenS nx_lenS F.b_len (sa_consB (se_var 3).b sa_nil)).b).b) (se_ix (se_var 1).b se_int.b)).b))))))))
/-! _law_refused -/
theorem sc__law_refused : FnScope ["value"] ["value"] (defScope st__law_refused) := ⟨rfl, rfl, rfl, by decide +kernel, rfl, by decide +kernel, by decide +kernel⟩
def b__law_refused : SD :=
  (sSeq (sTry subT (sDrop (dCall fd_after_folds (dCons (dVar 0) dNil))) [("BadPoint", (sRet (dC (.bl true))))])
  (sRet (dC (.bl false))))
def fd__law_refused : FD := fnD 1 0 b__law_refused
theorem ok__law_refused (F : Fx K mg (TT C)) (U_after_folds : FnU P w K mg base (TT C) 16 "after_folds" fd_after_folds) : FnU P w K mg base (TT C) 18 "_law_refused" fd__law_refused := by
  obtain ⟨f, fd, D, hm⟩ := F.d__law_refused
  refine ⟨f, fd, ["value"], fn_def (N := ["value"]) (k := 17) D sc__law_refused (by decide) fun cdv A outer s H E hr tk => ?_, hm, D.kp, D.bindsN fun _ _ _ _ _ _ us hl => match us, hl with | [_], _ => rfl⟩
  have S := sc__law_refused
  exact (ss_cons (ss_try F.sub tk (fun _ _ _ tk2 po2 => (ss_one (ss_drop (se_callU U_after_folds hr tk2 (sa_cons (se_var 0) sa_nil)))))
   (SH.cons ⟨rfl, by decide, .inl F.x_BadPoint.g⟩ (fun _ _ _ _ _ _ _ => (ss_one (ss_ret se_bl.b))) SH.nil) (by intro z hz; rcases List.mem_cons.mp hz with e | hz; (subst e; intro ρ c ρ2 h; exact nomatch h); cases hz))
  (ss_one (ss_ret se_bl.b)))
/-! law -/
theorem sc_law : FnScope ["script", "draws", "corners", "lines", "fold", "found", "known", "here", "crease", "x", "y", "w", "value"] ["script"] (defScope st_law) := ⟨rfl, rfl, rfl, by decide +kernel, rfl, by decide +kernel, by decide +kernel⟩
def b_law : SD :=
  (sSeq (sSet 1 (dCall fd__law_draws (dCons (dVar 0) (dCons (dC (.int 20)) dNil))))
  (sSeq (sSet 2 (dLst (dCons (dTup (dCons (dC (.int 0)) (dCons (dC (.int 0)) (dCons (dC (.int 1)) dNil)))) (dCons (dTup (dCons (dC (.int 0)) (dCons (dC (.int 1)) (dCons (dC (.int 1)) dNil)))) (dCons (dTup (dCons (dC (.int 1)) (dCons (dC (.int 0)) (dCons (dC (.int 1)) dNil)))) (dCons (dTup (dCons (dC (.int 1)) (dCons (dC (.int 1)) (dCons (dC (.int 1)) dNil)))) dNil))))))
  (sSeq (sIf (dOr (dTst (dBin opNe (dCall fd_after_folds (dCons (dC (.int 0)) dNil)) (dCall bTuple (dCons (dVar 2) dNil)))) (dTst (dBin opNe (dCall fd_after_folds (dCons (dC (.int 1)) dNil)) (dCall bTuple (dCons (dCall bSorted (dCons (dBin opAdd (dVar 2) (dLst (dCons (dTup (dCons (dC (.int 1)) (dCons (dC (.int 0)) (dCons (dC (.int 2)) dNil)))) (dCons (dTup (dCons (dC (.int 0)) (dCons (dC (.int 1)) (dCons (dC (.int 2)) dNil)))) (dCons (dTup (dCons (dC (.int 2)) (dCons (dC (.int 1)) (dCons (dC (.int 2)) dNil)))) (dCons (dTup (dCons (dC (.int 1)) (dCons (dC (.int 2)) (dCons (dC (.int 2)) dNil)))) dNil)))))) dNil)) dNil)))))
   (sRet (dC (.bl false)))
   sNext)
  (sSeq (sIf (dNot (dTst (dCall bAll (dCons (dLc [12] (iSeq (dTup (dCons (dNeg (dC (.int 1))) (dCons (dC (.int 3)) (dCons (dC (.bl true)) (dCons (dC .non) (dCons (dC (.str "1")) dNil))))))) (gVar 12) yes (dCall fd__law_refused (dCons (dVar 12) dNil))) dNil))))
   (sRet (dC (.bl false)))
   sNext)
  (sSeq (sOwn 3 (dLst (dCons (dTup (dCons (dC (.int 0)) (dCons (dC (.int 1)) (dCons (dC (.int 0)) dNil)))) (dCons (dTup (dCons (dC (.int 1)) (dCons (dC (.int 0)) (dCons (dC (.int 1)) dNil)))) (dCons (dTup (dCons (dC (.int 0)) (dCons (dC (.int 1)) (dCons (dC (.int 1)) dNil)))) (dCons (dTup (dCons (dC (.int 1)) (dCons (dC (.int 0)) (dCons (dC (.int 0)) dNil)))) dNil))))))
  (sSeq (sFor [false, true, false, true, false, false, false, false, false, false, false, false, false] [4] (iCall rng1 (dCons (dC (.int 2)) dNil)) (gVar 4)
   (sSeq (sSet 8 (dCall (flatOnly fd__law_crease) (dCons (dSl (dVar 1) (oSome (dBin opMul (dC (.int 4)) (dVar 4))) oNone) (dCons (dVarB 3) dNil))))
   (sIf (dTst (dBin (negB opInA) (dVar 8) (dVarB 3)))
    (sMut 3 (dCons (dVar 8) dNil) hApp)
    sNext)))
  (sSeq (sIf (dTst (dBin opGt (dBin opMod (dCall bInt (dCons (dBin opIx (dVar 1) (dC (.int 10))) dNil)) (dC (.int 6))) (dC (.int 0))))
   (sFrz 3 (sRet (dCall bAll (dCons (dLc [7] (iSeq (dCall fd__law_meets (dCons (dVar 3) dNil))) (gVar 7) yes (dCall fd_in_sheet (dCons (dVar 7) dNil))) dNil))))
   sNext)
  (sSeq (sSet 5 (dCall fd_after_folds (dCons (dC (.int 2)) dNil)))
  (sSeq (sOwn 6 (dDct true))
  (sSeq (sFor [false, false, false, true, false, true, true, false, false, false, false, false, false] [7] (iSeq (dVar 5)) (gVar 7)
   (sDPutD 6 (dVar 7) (dC (.bl true))))
  (sSeq (sFrz 3 (sFrz 6 (sIf (dOr (dTst (dBin opNe (dCall bListA (dCons (dVar 5) dNil)) (dCall bSorted (dCons (dVarB 6) dNil)))) (dOr (dNot (dTst (dCall bAll (dCons (dLc [7] (iSeq (dVar 5)) (gVar 7) yes (dCall fd_in_sheet (dCons (dVar 7) dNil))) dNil)))) (dNot (dTst (dCall bAll (dCons (dLc [7] (iSeq (dCall fd__law_meets (dCons (dVar 3) dNil))) (gVar 7) yes (dBin opInA (dVar 7) (dVarB 6))) dNil))))))
   (sRet (dC (.bl false)))
   sNext)))
  (sSeq (sFor [false, false, false, false, false, false, true, false, false, false, false, false, false] [9, 10, 11] (iSeq (dVar 5)) (gTups 3 (gsCons (gVar 9) (gsCons (gVar 10) (gsCons (gVar 11) gsNil))))
   (sFrz 6 (sIf (dOr (dTst (dBin (negB opInA) (dTup (dCons (dBin opSub (dVar 11) (dVar 10)) (dCons (dVar 9) (dCons (dVar 11) dNil)))) (dVarB 6))) (dTst (dBin (negB opInA) (dTup (dCons (dBin opSub (dVar 11) (dVar 9)) (dCons (dVar 10) (dCons (dVar 11) dNil)))) (dVarB 6))))
    (sRet (dC (.bl false)))
    sNext)))
  (sRet (dC (.bl true)))))))))))))))
def fd_law : FD := fnD 1 12 b_law
theorem okl (F : Fx K mg (TT C)) (U__law_crease : ∀ base : Heap, FnU P w K mg base (TT C) 14 "_law_crease" fd__law_crease) (U__law_draws : ∀ base : Heap, FnU P w K mg base (TT C) 2 "_law_draws" fd__law_draws) (U__law_meets : ∀ base : Heap, FnU P w K mg base (TT C) 12 "_law_meets" fd__law_meets) (U__law_refused : ∀ base : Heap, FnU P w K mg base (TT C) 18 "_law_refused" fd__law_refused) (U_after_folds : ∀ base : Heap, FnU P w K mg base (TT C) 16 "after_folds" fd_after_folds) (U_in_sheet : ∀ base : Heap, FnU P w K mg base (TT C) 10 "in_sheet" fd_in_sheet) : ∃ f fd, mg "law" = some (.ref f) ∧ (∀ (s : Shared) (v : Value), BindsTo s fd ⟨[v], []⟩ [("script", v)]) ∧ ∀ base : Heap, FnS P w K mg base (TT C) 20 f fd ["script"] fd_law := by
  obtain ⟨f, fd, D, hm⟩ := F.d_law
  have b := FunD.bindsA (ps := ["script"]) D fun _ _ _ _ _ _ us hl => match us, hl with | [_], _ => rfl
  refine ⟨f, fd, hm, fun s v => b s [v] rfl, fun base => ?_⟩
  have U__law_crease := U__law_crease base
  have U__law_draws := U__law_draws base
  have U__law_meets := U__law_meets base
  have U__law_refused := U__law_refused base
  have U_after_folds := U_after_folds base
  have U_in_sheet := U_in_sheet base
  refine fn_def (N := ["script", "draws", "corners", "lines", "fold", "found", "known", "here", "crease", "x", "y", "w", "value"]) (k := 19) D sc_law (by decide) fun cdv A outer s H E hr tk => ?_
  have S := sc_law
  exact (ss_cons (ss_set 1 S.nd (se_callU U__law_draws hr tk (sa_cons (se_var 0) (sa_cons se_int sa_nil))))
  (ss_cons (ss_set 2 S.nd (sn_lst (sa_cons (se_tup (sa_cons se_int (sa_cons se_int (sa_cons se_int sa_nil)))) (sa_cons (se_tup (sa_cons se_int (sa_cons se_int (sa_cons se_int sa_nil)))) (sa_cons (se_tup (sa_cons se_int (sa_cons se_int (sa_cons se_int sa_nil)))) (sa_cons (se_tup (sa_cons se_int (sa_cons se_int (sa_cons se_int sa_nil)))) sa_nil))))).se)
  (ss_cons (ss_if (sw_or (st_cmp (os_ne hr) nx_ne (se_callU U_after_folds hr tk (sa_cons se_int sa_nil)).b (se_callT cs_tuple nx_tuple F.b_tuple (sa_consB (se_var 2).b sa_nil)).b (nomark _)) (sw_or1 (st_cmp (os_ne hr) nx_ne (se_callU U_after_folds hr tk (sa_cons se_int sa_nil)).b (se_callT cs_tuple nx_tuple F.b_tuple (sa_consB (sn_callB cn_sorted nx_sorted F.b_sorted (sa_consB (se_bin os_add nx_add (se_var 2).b (sn_lst (sa_cons (se_tup (sa_cons se_int (sa_cons se_int (sa_cons se_int sa_nil)))) (sa_cons (se_tup (sa_cons se_int (sa_cons se_int (sa_cons se_int sa_nil)))) (sa_cons (se_tup (sa_cons se_int (sa_cons se_int (sa_cons se_int sa_nil)))) (sa_cons (se_tup (sa_cons se_int (sa_cons se_int (sa_cons se_int sa_nil)))) sa_nil))))).se.b).b sa_nil)).se.b sa_nil)).b (nomark _)))).t
   (ss_one (ss_ret se_bl.b))
   ss_nil)
  (ss_cons (ss_if (st_not (st_val (se_callB cs_all nx_all F.b_all (sa_consB (sn_lc [("value", 12)] [12] rfl rfl S.nd (sic_seq (se_tup (sa_cons (se_neg se_int) (sa_cons se_int (sa_cons se_bl (sa_cons se_non (sa_cons se_str sa_nil)))))).b) (blkOk_by rfl) (gk_var (by decide)) (fun _ _ _ _ _ => (sg_var 12 S.nd)) (fun _ _ _ _ _ => sts_nil) (fun _ _ _ _ _ => (se_callU U__law_refused hr takes_none5 (sa_cons (se_var 12) sa_nil)))).se.b sa_nil))))
   (ss_one (ss_ret se_bl.b))
   ss_nil)
  (ss_cons (ss_own 3 S.nd (sn_lst (sa_cons (se_tup (sa_cons se_int (sa_cons se_int (sa_cons se_int sa_nil)))) (sa_cons (se_tup (sa_cons se_int (sa_cons se_int (sa_cons se_int sa_nil)))) (sa_cons (se_tup (sa_cons se_int (sa_cons se_int (sa_cons se_int sa_nil)))) (sa_cons (se_tup (sa_cons se_int (sa_cons se_int (sa_cons se_int sa_nil)))) sa_nil))))))
  (ss_cons (ss_for (vs := [4]) [false, true, false, true, false, false, false, false, false, false, false, false, false] (passes_of rfl) rfl (si_rng1 F.b_range (sa_consB se_int.b sa_nil)) (sg_var 4 S.nd)
   (ss_cons (ss_set 8 S.nd (se_callUF U__law_crease hr tk (sa_consB (se_sl (se_var 1).b (so_some (se_bin os_mul nx_mul se_int.b (se_var 4).b)) so_none).b (sa_consB (sb_var 3) sa_nil))))
   (ss_one (ss_if (st_cmp (os_notInA hr) (nx_neg nx_inA) (se_var 8).b (sb_var 3) (by rfl))
    (ss_one (ss_append 3 (sa_cons (se_var 8) sa_nil)))
    ss_nil))))
  (ss_cons (ss_if (st_cmp os_gt nx_gt (se_bin os_mod nx_mod (se_callT cs_int nx_int F.b_int (sa_consB (se_ix (se_var 1).b se_int.b).b sa_nil)).b se_int.b).b se_int.b (nomark _))
   (ss_one (SS.frz 3 (ss_ret (se_callB cs_all nx_all F.b_all (sa_consB (sn_lc [("here", 7)] [7] rfl rfl S.nd (sic_seq (se_callU U__law_meets hr tk (sa_cons (se_var 3) sa_nil)).b) (blkOk_by rfl) (gk_var (by decide)) (fun _ _ _ _ _ => (sg_var 7 S.nd)) (fun _ _ _ _ _ => sts_nil) (fun _ _ _ _ _ => (se_callU U_in_sheet hr takes_none5 (sa_cons (se_var 7) sa_nil)))).se.b sa_nil)).b)))
   ss_nil)
  (ss_cons (ss_set 5 S.nd (se_callU U_after_folds hr tk (sa_cons se_int sa_nil)))
  (ss_cons (ss_own 6 S.nd sn_dctT)
  (ss_cons (ss_for (vs := [7]) [false, false, false, true, false, true, true, false, false, false, false, false, false] (passes_of rfl) rfl (si_seq (se_var 5)) (sg_var 7 S.nd)
   (ss_one (ss_dput 6 hr (se_var 7) se_bl)))
  (ss_cons (SS.frz 3 (SS.frz 6 (ss_if (sw_or (st_cmp (os_ne hr) nx_ne (sn_callT cn_listA nx_listA F.b_list (sa_consB (se_var 5).b sa_nil)).se.b (sn_callB cn_sorted nx_sorted F.b_sorted (sa_consB (sb_var 6) sa_nil)).se.b (nomark _)) (sw_or (st_not (st_val (se_callB cs_all nx_all F.b_all (sa_consB (sn_lc [("here", 7)] [7] rfl rfl S.nd (sic_seq (se_var 5).b) (blkOk_by rfl) (gk_var (by decide)) (fun _ _ _ _ _ => (sg_var 7 S.nd)) (fun _ _ _ _ _ => sts_nil) (fun _ _ _ _ _ => (se_callU U_in_sheet hr takes_none5 (sa_cons (se_var 7) sa_nil)))).se.b sa_nil)))) (sw_or1 (st_not (st_val (se_callB cs_all nx_all F.b_all (sa_consB (sn_lc [("here", 7)] [7] rfl rfl S.nd (sic_seq (se_callU U__law_meets hr tk (sa_cons (se_var 3) sa_nil)).b) (blkOk_by rfl) (gk_var (by decide)) (fun _ _ _ _ _ => (sg_var 7 S.nd)) (fun _ _ _ _ _ => sts_nil) (fun _ _ _ _ _ => (se_cmp (os_inA hr) nx_inA (se_var 7).b (sb_var 6) (by rfl)))).se.b sa_nil))))))).t
   (ss_one (ss_ret se_bl.b))
   ss_nil)))
  (ss_cons (ss_for (vs := [9, 10, 11]) [false, false, false, false, false, false, true, false, false, false, false, false, false] (passes_of rfl) rfl (si_seq (se_var 5)) (sg_tup rfl (sgs_cons (sg_var 9 S.nd) (sgs_cons (sg_var 10 S.nd) (sgs_cons (sg_var 11 S.nd) sgs_nil))))
   (ss_one (SS.frz 6 (ss_if (sw_or (st_cmp (os_notInA hr) (nx_neg nx_inA) (se_tup (sa_cons (se_bin os_sub nx_sub (se_var 11).b (se_var 10).b) (sa_cons (se_var 9) (sa_cons (se_var 11) sa_nil)))).b (sb_var 6) (by rfl)) (sw_or1 (st_cmp (os_notInA hr) (nx_neg nx_inA) (se_tup (sa_cons (se_bin os_sub nx_sub (se_var 11).b (se_var 9).b) (sa_cons (se_var 10) (sa_cons (se_var 11) sa_nil)))).b (sb_var 6) (by rfl)))).t
    (ss_one (ss_ret se_bl.b))
    ss_nil))))
  (ss_one (ss_ret se_bl.b))))))))))))))
end
end G

set_option Elab.async false
set_option linter.all false
set_option maxRecDepth 1000000
set_option maxHeartbeats 4000000
namespace G
open PySem PySem.Spec Mi
theorem draws_is : fd__law_draws = Mi.fd_draws := rfl
/-- int(draws[i]) % m -/
theorem rdMod {ρ : Rho} {s : Nat} {D : List MV} {i d m : Int} {dm : ED} (h : lk ρ s = .val (.lst D)) (ha : L2.atI D i = some (.int d)) (hm : dm ρ = .ok (.int m)) (hp : 0 < m) :
    (dBin opMod (dCall bInt (dCons (dBin opIx (dVar s) (dC (.int i))) dNil)) dm) ρ = .ok (.int (d % m)) := by
  simp only [dBin, dCall, dCons, dNil, dVar, h, dC, Rs.bind, opIx, ha, bInt, hm, opMod, hp, if_true]
theorem ixv {ρ : Rho} {s t : Nat} {D : List MV} {i : Int} {v : MV} (h : lk ρ s = .val (.lst D)) (h2 : lk ρ t = .val (.int i)) (ha : L2.atI D i = some v) : (dBin opIx (dVar s) (dVar t)) ρ = .ok v := by
  simp only [dBin, dVar, h, h2, Rs.bind, opIx, ha]
theorem modNat {d : Int} {n : Nat} (h : 0 < n) : ∃ k : Nat, d % (n : Int) = (k : Int) ∧ k < n := by
  have h1 := Int.emod_nonneg d (show (n : Int) ≠ 0 by omega)
  have h2 := Int.emod_lt_of_pos d (show (0 : Int) < n by omega)
  exact ⟨(d % (n : Int)).toNat, by omega, by omega⟩
def laysC (x y : MV) : Rs MV := if meq x y then .ok (.tup []) else fd_lays [x, y]
def through_ (w : Nat) (p q : MV) : Rs MV := if w = 0 then fd_through [p, q] else fd_onto [p, q]
/-- every crease that _law_crease may choose -/
def Choice (L P : List MV) (r : Rs MV) : Prop :=
  (∃ (w k j : Nat) (p q : MV), w < 2 ∧ k ≠ j ∧ P[k]? = some p ∧ P[j]? = some q ∧ r = through_ w p q) ∨
  (∃ (k a : Nat) (p l : MV), P[k]? = some p ∧ L[a]? = some l ∧ r = fd_square_to [p, l]) ∨
  (∃ (a b : Nat) (x y : MV) (cs : List MV), L[a]? = some x ∧ L[b]? = some y ∧ laysC x y = .ok (.tup cs) ∧ ((∃ (i : Nat) (c : MV), cs[i]? = some c ∧ r = .ok c) ∨ (cs = [] ∧ ∃ c, L[0]? = some c ∧ r = .ok c)))
theorem crease_in (L P : List MV) (d0 d1 d2 d3 : Int) (rest : List MV) (hP : fd__law_meets [.lst L] = .ok (.lst P)) (hp : 0 < P.length) (hl : 0 < L.length) (hs : ∀ x ∈ L, shp x = true) (hpos : 0 ≤ d0 ∧ 0 ≤ d1 ∧ 0 ≤ d2 ∧ 0 ≤ d3)
    (hlays : ∀ x ∈ L, ∀ y ∈ L, ∃ cs, laysC x y = .ok (.tup cs)) (r : Rs MV) (hr : fd__law_crease [.lst (.int d0 :: .int d1 :: .int d2 :: .int d3 :: rest), .lst L] = r) : Choice L P r := by
  obtain ⟨w, hw, hw4⟩ := modNat (d := d0) (n := 4) (by decide)
  obtain ⟨k, hk, hkl⟩ := modNat (d := d1) hp
  obtain ⟨j, hj, hjl⟩ := modNat (d := d2) hp
  obtain ⟨a, ha, hal⟩ := modNat (d := d2) hl
  obtain ⟨b, hb, hbl⟩ := modNat (d := d1) hl
  obtain ⟨pk, hpk⟩ : ∃ p, P[k]? = some p := ⟨_, List.getElem?_eq_getElem hkl⟩
  obtain ⟨pj, hpj⟩ : ∃ p, P[j]? = some p := ⟨_, List.getElem?_eq_getElem hjl⟩
  obtain ⟨la, hla⟩ : ∃ p, L[a]? = some p := ⟨_, List.getElem?_eq_getElem hal⟩
  obtain ⟨lb, hlb⟩ : ∃ p, L[b]? = some p := ⟨_, List.getElem?_eq_getElem hbl⟩
  have D0 : L2.atI (.int d0 :: .int d1 :: .int d2 :: .int d3 :: rest) (0 : Int) = some (MV.int d0) := L2.atI_nat (j := 0) rfl
  have D1 : L2.atI (.int d0 :: .int d1 :: .int d2 :: .int d3 :: rest) (1 : Int) = some (MV.int d1) := L2.atI_nat (j := 1) rfl
  have D2 : L2.atI (.int d0 :: .int d1 :: .int d2 :: .int d3 :: rest) (2 : Int) = some (MV.int d2) := L2.atI_nat (j := 2) rfl
  have D3 : L2.atI (.int d0 :: .int d1 :: .int d2 :: .int d3 :: rest) (3 : Int) = some (MV.int d3) := L2.atI_nat (j := 3) rfl
  generalize hD : (MV.int d0 :: MV.int d1 :: MV.int d2 :: MV.int d3 :: rest) = D at *
  have hw' : d0 % 4 = (w : Int) := hw
  -- the body
  subst hr
  unfold fd__law_crease
  have l2 : ([MV.lst D, MV.lst L] : List MV).length = 2 := rfl
  have m2 : (([MV.lst D, MV.lst L] : List MV).map Sl.val ++ List.replicate 7 Sl.un) = [.val (.lst D), .val (.lst L), .un, .un, .un, .un, .un, .un, .un] := rfl
  rw [fnD_end l2, m2]
  have s1 : sSet 2 (dCall fd__law_meets (dCons (dVar 1) dNil)) [.val (.lst D), .val (.lst L), .un, .un, .un, .un, .un, .un, .un] = .nx [.val (.lst D), .val (.lst L), .val (.lst P), .un, .un, .un, .un, .un, .un] := (sSet_ok (dCall_ok (dCons_ok (dVar_ok rfl) rfl) hP)).trans rfl
  have lenP : ∀ ρ : Rho, lk ρ 2 = .val (.lst P) → (dCall bLenS (dCons (dVar 2) dNil)) ρ = .ok (.int (P.length : Int)) := fun ρ h => by
    simp only [dCall, dCons, dNil, dVar, h, Rs.bind, bLenS]
  have lenL : ∀ ρ : Rho, lk ρ 1 = .val (.lst L) → (dCall bLenS (dCons (dVar 1) dNil)) ρ = .ok (.int (L.length : Int)) := fun ρ h => by
    simp only [dCall, dCons, dNil, dVar, h, Rs.bind, bLenS]
  have s2 : ∀ x y z : ED, ∀ vx vy vz : MV, ∀ ρ : Rho, x ρ = .ok vx → y ρ = .ok vy → z ρ = .ok vz → sPar3 4 5 6 (dCons x (dCons y (dCons z dNil))) ρ = .nx (((ρ.set 4 (.val vx)).set 5 (.val vy)).set 6 (.val vz)) := fun x y z vx vy vz ρ h1 h2 h3 => by
    simp only [sPar3, dCons, dNil, Rs.bind, h1, h2, h3]
  have s2' := s2 _ _ _ _ _ _ [.val (.lst D), .val (.lst L), .val (.lst P), .un, .un, .un, .un, .un, .un] (rdMod (s := 0) (dm := dC (.int 4)) rfl D0 rfl (by decide)) (rdMod (s := 0) rfl D1 (lenP _ rfl) (by omega)) (rdMod (s := 0) rfl D2 (lenP _ rfl) (by omega))
  rw [hw', hk, hj] at s2'
  simp only [List.set] at s2'
  unfold b__law_crease
  rw [sSeq_nx s1, sSeq_nx s2']
  have ixL : ∀ (ρ : Rho) (i : Int) (d : Int) (n : Nat) (v : MV), lk ρ 0 = .val (.lst D) → lk ρ 1 = .val (.lst L) → L2.atI D i = some (.int d) → d % (L.length : Int) = (n : Int) → L[n]? = some v →
      (dBin opIx (dVar 1) (dBin opMod (dCall bInt (dCons (dBin opIx (dVar 0) (dC (.int i))) dNil)) (dCall bLenS (dCons (dVar 1) dNil)))) ρ = .ok v := fun ρ i d n v h0 h1 hd hm hv => by
    have e := rdMod (s := 0) (dm := dCall bLenS (dCons (dVar 1) dNil)) h0 hd (lenL ρ h1) (by omega)
    rw [hm] at e
    exact dBin_ok (dVar_ok h1) e (ix_lst (L2.atI_nat hv))
  -- the state
  generalize hρ : ([Sl.val (.lst D), Sl.val (.lst L), Sl.val (.lst P), .un, Sl.val (.int (w : Int)), Sl.val (.int (k : Int)), Sl.val (.int (j : Int)), .un, .un] : Rho) = ρ
  have v0 : lk ρ 0 = .val (.lst D) := by rw [← hρ]; rfl
  have v1 : lk ρ 1 = .val (.lst L) := by rw [← hρ]; rfl
  have v2 : lk ρ 2 = .val (.lst P) := by rw [← hρ]; rfl
  have v4 : lk ρ 4 = .val (.int w) := by rw [← hρ]; rfl
  have v5 : lk ρ 5 = .val (.int k) := by rw [← hρ]; rfl
  have v6 : lk ρ 6 = .val (.int j) := by rw [← hρ]; rfl
  have mem : ∀ {n : Nat} {v : MV}, L[n]? = some v → v ∈ L := fun h => List.mem_of_getElem? h
  have shpI : ∀ i : Int, shp (.int i) = true := fun i => rfl
  have meqI : ∀ i j : Int, meq (.int i) (.int j) = decide (i = j) := fun i j => by
    show (i == j) = _
    rw [Bool.beq_eq_decide_eq]
  have tlt : (dTst (dBin opLt (dVar 4) (dC (.int 2)))) ρ = .ok (decide ((w : Int) < 2)) := dTst_ok (dBin_ok (dVar_ok v4) rfl rfl)
  have tne : (dTst (dBin opNe (dVar 5) (dVar 6))) ρ = .ok (!decide ((k : Int) = j)) := dTst_ok (dBin_ok (dVar_ok v5) (dVar_ok v6) (by
    show (if shp (.int (k : Int)) && shp (.int (j : Int)) then Rs.ok (MV.bl (!meq (.int k) (.int j))) else .no) = _
    rw [meqI]; rfl))
  have teq : (dTst (dBin opEq (dVar 4) (dC (.int 2)))) ρ = .ok (decide ((w : Int) = 2)) := dTst_ok (dBin_ok (dVar_ok v4) rfl (by
    show (if shp (.int (w : Int)) && shp (.int 2) then Rs.ok (MV.bl (meq (.int w) (.int 2))) else .no) = _
    rw [meqI]; rfl))
  by_cases c2 : (w : Int) < 2 ∧ k ≠ j
  · have t1 : (dAnd (dTst (dBin opLt (dVar 4) (dC (.int 2)))) (dTst (dBin opNe (dVar 5) (dVar 6)))) ρ = .ok true := by
      rw [dAnd_t (by rw [tlt, decide_eq_true c2.1]), tne]
      have : ¬ (k : Int) = j := by omega
      simp [this]
    rw [end_ifT t1]
    refine .inl ⟨w, k, j, pk, pj, by omega, c2.2, hpk, hpj, ?_⟩
    have ar : (dCons (dBin opIx (dVar 2) (dVar 5)) (dCons (dBin opIx (dVar 2) (dVar 6)) dNil)) ρ = .ok [pk, pj] := dCons_ok (ixv v2 v5 (L2.atI_nat hpk)) (dCons_ok (ixv v2 v6 (L2.atI_nat hpj)) rfl)
    have hw2 : w = 0 ∨ w = 1 := by omega
    unfold through_
    rcases hw2 with e | e
    · rw [if_pos e]
      exact dSel_ok (dVar_ok v4) (by rw [e]; exact L2.atI_nat (j := 0) rfl) ar
    · rw [if_neg (by omega)]
      exact dSel_ok (dVar_ok v4) (by rw [e]; exact L2.atI_nat (j := 1) rfl) ar
  · have t1 : (dAnd (dTst (dBin opLt (dVar 4) (dC (.int 2)))) (dTst (dBin opNe (dVar 5) (dVar 6)))) ρ = .ok false := by
      by_cases c3 : (w : Int) < 2
      · rw [dAnd_t (by rw [tlt, decide_eq_true c3]), tne]
        have : (k : Int) = j := by
          have : ¬ k ≠ j := fun h => c2 ⟨c3, h⟩
          omega
        simp [this]
      · exact dAnd_f (by rw [tlt, decide_eq_false c3])
    rw [ifF_next t1]
    by_cases c4 : (w : Int) = 2
    · have t2 : (dTst (dBin opEq (dVar 4) (dC (.int 2)))) ρ = .ok true := by rw [teq, decide_eq_true c4]
      rw [end_ifT t2]
      refine .inr (.inl ⟨k, a, pk, la, hpk, hla, ?_⟩)
      exact dCall_ok (dCons_ok (ixv v2 v5 (L2.atI_nat hpk)) (dCons_ok (ixL ρ 2 d2 a la v0 v1 D2 ha hla) rfl)) rfl
    · have t2 : (dTst (dBin opEq (dVar 4) (dC (.int 2)))) ρ = .ok false := by rw [teq, decide_eq_false c4]
      rw [ifF_next t2]
      obtain ⟨cs, hcs⟩ := hlays lb (mem hlb) la (mem hla)
      refine .inr (.inr ⟨b, a, lb, la, cs, hlb, hla, hcs, ?_⟩)
      have s3 : sPar 7 8 (dCons (dBin opIx (dVar 1) (dBin opMod (dCall bInt (dCons (dBin opIx (dVar 0) (dC (.int 1))) dNil)) (dCall bLenS (dCons (dVar 1) dNil)))) (dCons (dBin opIx (dVar 1) (dBin opMod (dCall bInt (dCons (dBin opIx (dVar 0) (dC (.int 2))) dNil)) (dCall bLenS (dCons (dVar 1) dNil)))) dNil)) ρ = .nx ((ρ.set 7 (.val lb)).set 8 (.val la)) := by
        unfold sPar
        rw [dCons_ok (ixL ρ 1 d1 b lb v0 v1 D1 hb hlb) (dCons_ok (ixL ρ 2 d2 a la v0 v1 D2 ha hla) rfl)]
      rw [sSeq_nx s3, ← hρ]
      simp only [List.set]
      have s4 : sSet 3 (dIf (dTst (dBin opNe (dVar 7) (dVar 8))) (dCall fd_lays (dCons (dVar 7) (dCons (dVar 8) dNil))) (dTup dNil)) [Sl.val (.lst D), Sl.val (.lst L), Sl.val (.lst P), .un, Sl.val (.int (w : Int)), Sl.val (.int (k : Int)), Sl.val (.int (j : Int)), .val lb, .val la] =
          .nx [Sl.val (.lst D), Sl.val (.lst L), Sl.val (.lst P), .val (.tup cs), Sl.val (.int (w : Int)), Sl.val (.int (k : Int)), Sl.val (.int (j : Int)), .val lb, .val la] := by
        refine (sSet_ok (x := .tup cs) ?_).trans rfl
        have tn : (dTst (dBin opNe (dVar 7) (dVar 8))) [Sl.val (.lst D), Sl.val (.lst L), Sl.val (.lst P), .un, Sl.val (.int (w : Int)), Sl.val (.int (k : Int)), Sl.val (.int (j : Int)), .val lb, .val la] = .ok (!meq lb la) := dTst_ok (dBin_ok (dVar_ok rfl) (dVar_ok rfl) (by
          unfold opNe
          rw [hs _ (mem hlb), hs _ (mem hla)]; rfl))
        unfold laysC at hcs
        by_cases q : meq lb la = true
        · rw [dIf_f (by rw [tn, q]; rfl)]
          rw [if_pos q] at hcs
          exact hcs
        · have q' : meq lb la = false := by simpa using q
          rw [dIf_t (by rw [tn, q']; rfl)]
          rw [if_neg q] at hcs
          exact dCall_ok (dCons_ok (dVar_ok rfl) (dCons_ok (dVar_ok rfl) rfl)) hcs
      rw [sSeq_nx s4, end_ret]
      have lenC : (dCall bLenS (dCons (dVar 3) dNil)) [Sl.val (.lst D), Sl.val (.lst L), Sl.val (.lst P), .val (.tup cs), Sl.val (.int (w : Int)), Sl.val (.int (k : Int)), Sl.val (.int (j : Int)), .val lb, .val la] = .ok (.int (cs.length : Int)) := dCall_ok (dCons_ok (dVar_ok rfl) rfl) rfl
      have tg : (dTst (dBin opGt (dCall bLenS (dCons (dVar 3) dNil)) (dC (.int 0)))) [Sl.val (.lst D), Sl.val (.lst L), Sl.val (.lst P), .val (.tup cs), Sl.val (.int (w : Int)), Sl.val (.int (k : Int)), Sl.val (.int (j : Int)), .val lb, .val la] = .ok (decide ((0 : Int) < cs.length)) := dTst_ok (dBin_ok lenC rfl rfl)
      by_cases c5 : 0 < cs.length
      · rw [dIf_t (by rw [tg, decide_eq_true (by omega)])]
        obtain ⟨i, hi, hil⟩ := modNat (d := d3) c5
        obtain ⟨cc, hcc⟩ : ∃ p, cs[i]? = some p := ⟨_, List.getElem?_eq_getElem hil⟩
        refine .inl ⟨i, cc, hcc, ?_⟩
        have e := rdMod (ρ := [Sl.val (.lst D), Sl.val (.lst L), Sl.val (.lst P), .val (.tup cs), Sl.val (.int (w : Int)), Sl.val (.int (k : Int)), Sl.val (.int (j : Int)), .val lb, .val la]) (s := 0) rfl D3 lenC (by omega)
        rw [hi] at e
        exact dBin_ok (dVar_ok rfl) e (ix_tup (L2.atI_nat hcc))
      · rw [dIf_f (by rw [tg, decide_eq_false (by omega)])]
        obtain ⟨c0, hc0⟩ : ∃ p, L[0]? = some p := ⟨_, List.getElem?_eq_getElem hl⟩
        exact .inr ⟨List.length_eq_zero_iff.mp (by omega), c0, hc0, dBin_ok (dVar_ok rfl) rfl (ix_lst (L2.atI_nat (j := 0) hc0))⟩
end G

set_option Elab.async false
set_option linter.all false
set_option maxRecDepth 1000000
set_option maxHeartbeats 0
namespace G
open PySem PySem.Spec Mi
def known : List (List Int) := [[0, 0, 1], [0, 1, 1], [0, 1, 2], [0, 1, 4], [0, 1, 8], [0, 3, 4], [0, 3, 8], [0, 5, 8], [0, 7, 8], [1, 0, 1], [1, 0, 2], [1, 0, 4], [1, 0, 8], [1, 1, 1], [1, 1, 2], [1, 2, 2], [1, 4, 4], [1, 8, 8], [2, 1, 2], [3, 0, 4], [3, 0, 8], [3, 4, 4], [3, 4, 8], [3, 8, 8], [4, 1, 4], [4, 3, 4], [4, 3, 8], [4, 5, 8], [5, 0, 8], [5, 4, 8], [5, 8, 8], [7, 0, 8], [7, 8, 8], [8, 1, 8], [8, 3, 8], [8, 5, 8], [8, 7, 8]]
def kDct : MV := .dct true (known.map mkT) (known.map fun _ => .bl true)
def keyR : Rs MV → Option (List Int)
  | .ok (.tup xs) => intsOf xs
  | _ => none
def ddp : List (Option (List Int)) → List (Option (List Int))
  | [] => []
  | x :: r => let d := ddp r; if d.contains x then d else x :: d
def keysL : List MV → Option (List (List Int))
  | [] => some []
  | .tup xs :: r => match intsOf xs, keysL r with
    | some k, some ks => some (k :: ks)
    | _, _ => none
  | _ => none
def resK : Rs MV → Option (List (List Int))
  | .ok (.lst ms) => keysL ms
  | _ => none
def meetsK (ls : List (List Int)) : Option (List (List Int)) := resK (fd__law_meets [.lst (ls.map mkT)])
def chs (L P : List MV) : List (Rs MV) :=
  (P.zipIdx.flatMap fun p => P.zipIdx.flatMap fun q => if p.2 = q.2 then [] else [through_ 0 p.1 q.1, through_ 1 p.1 q.1]) ++
  (P.flatMap fun p => L.map fun l => fd_square_to [p, l]) ++
  (L.flatMap fun x => L.flatMap fun y => match laysC x y with
    | .ok (.tup cs) => (if cs.isEmpty then (match L[0]? with | some c => [.ok c] | none => []) else cs.map .ok)
    | _ => [])
def nx (ls : List (List Int)) (c : List Int) : List (List Int) := if ls.contains c then ls else ls ++ [c]
def bTrue : Rs MV → Bool
  | .ok (.bl true) => true
  | _ => false
def isTup : Rs MV → Bool
  | .ok (.tup _) => true
  | _ => false
def okc (q : List (List Int) → Bool) (ls : List (List Int)) : Option (List Int) → Bool
  | some c => shp (mkT c) && ((inL (mkT c) (ls.map mkT) == ls.contains c) && (decide (ls.length < 1000) && q (nx ls c)))
  | none => false
def chk1 (q : List (List Int) → Bool) (ls ps : List (List Int)) : Bool :=
  decide (0 < ps.length) && (decide (0 < ls.length) && (shp (.lst (ls.map mkT)) && ((ls.all fun x => shp (mkT x)) && ((ls.all fun x => ls.all fun y => isTup (laysC (mkT x) (mkT y))) &&
    (ddp ((chs (ls.map mkT) (ps.map mkT)).map keyR)).all (okc q ls)))))
def optB (f : List (List Int) → Bool) : Option (List (List Int)) → Bool
  | some ps => f ps
  | none => false
def chk (q : List (List Int) → Bool) (ls : List (List Int)) : Bool := optB (chk1 q ls) (meetsK ls)
def okp (p : List Int) : Bool := bTrue (fd_in_sheet [mkT p]) && bTrue (opInA (mkT p) kDct)
def check2 (ls : List (List Int)) : Bool := optB (fun ps => decide (ps.length < 1000) && ps.all okp) (meetsK ls)
def ls0 : List (List Int) := [[0, 1, 0], [1, 0, 1], [0, 1, 1], [1, 0, 0]]
theorem check_one : chk (fun _ => true) ls0 = true := by kernel_rfl
end G

set_option Elab.async false
set_option linter.all false
set_option maxRecDepth 1000000
set_option maxHeartbeats 0
namespace G
open PySem PySem.Spec Mi
theorem check_two : chk (chk check2) ls0 = true := by kernel_rfl
theorem af2_eq : fd_after_folds [.int 2] = .ok (.tup (known.map mkT)) := by kernel_rfl
end G

set_option Elab.async false
set_option linter.all false
set_option maxRecDepth 1000000
set_option maxHeartbeats 4000000
namespace G
open PySem PySem.Spec Mi
theorem keyR_ok {r : Rs MV} {c : List Int} (h : keyR r = some c) : r = .ok (mkT c) := by
  unfold keyR at h
  split at h
  · rename_i xs
    have : ∀ (xs : List MV) (c : List Int), intsOf xs = some c → xs = c.map .int := fun xs => by
      induction xs with
      | nil => intro c e; cases e; rfl
      | cons x xs ih =>
        intro c e
        cases x with
        | int i =>
          simp only [intsOf, Option.map_eq_some_iff] at e
          obtain ⟨ns, e1, e2⟩ := e
          subst e2
          rw [ih ns e1]; rfl
        | _ => simp [intsOf] at e
    rw [this xs c h]; rfl
  · cases h
theorem ints_map {xs : List MV} {c : List Int} (h : intsOf xs = some c) : xs = c.map .int := by
  have := keyR_ok (r := .ok (.tup xs)) h
  unfold mkT at this
  cases this; rfl
theorem keysL_ok : ∀ {ms : List MV} {ks : List (List Int)}, keysL ms = some ks → ms = ks.map mkT
  | [], _, h => by cases h; rfl
  | .tup xs :: r, _, h => by
    simp only [keysL] at h
    split at h
    · rename_i k ks e1 e2
      cases h
      rw [ints_map e1, keysL_ok e2]; rfl
    · cases h
  | .non :: _, _, h => by simp [keysL] at h
  | .bl _ :: _, _, h => by simp [keysL] at h
  | .int _ :: _, _, h => by simp [keysL] at h
  | .str _ :: _, _, h => by simp [keysL] at h
  | .lst _ :: _, _, h => by simp [keysL] at h
  | .dct _ _ _ :: _, _, h => by simp [keysL] at h
  | .obj _ _ _ :: _, _, h => by simp [keysL] at h
  | .scr _ :: _, _, h => by simp [keysL] at h
  | .ktp _ :: _, _, h => by simp [keysL] at h
theorem resK_ok {r : Rs MV} {ps : List (List Int)} (h : resK r = some ps) : r = .ok (.lst (ps.map mkT)) := by
  unfold resK at h
  split at h
  · rw [keysL_ok h]
  · cases h
theorem meetsK_ok {ls ps : List (List Int)} (h : meetsK ls = some ps) : fd__law_meets [.lst (ls.map mkT)] = .ok (.lst (ps.map mkT)) := resK_ok h
theorem mem_ddp {x : Option (List Int)} : ∀ {l : List (Option (List Int))}, x ∈ l → x ∈ ddp l
  | [], h => h
  | y :: r, h => by
    unfold ddp
    by_cases c : (ddp r).contains y = true
    · simp only [c, if_true]
      rcases List.mem_cons.mp h with e | h
      · subst e; simpa using c
      · exact mem_ddp h
    · simp only [c, if_false]
      rcases List.mem_cons.mp h with e | h
      · subst e; exact List.mem_cons_self
      · exact List.mem_cons_of_mem _ (mem_ddp h)
theorem choice_mem {L P : List MV} {r : Rs MV} (h : Choice L P r) : r ∈ chs L P := by
  unfold chs
  rcases h with ⟨w, k, j, p, q, hw, hkj, hp, hq, rfl⟩ | ⟨k, a, p, l, hp, hl, rfl⟩ | ⟨a, b, x, y, cs, hx, hy, hc, h⟩
  · refine List.mem_append_left _ (List.mem_append_left _ (List.mem_flatMap.mpr ⟨(p, k), ?_, List.mem_flatMap.mpr ⟨(q, j), ?_, ?_⟩⟩))
    · exact List.mem_zipIdx_iff_getElem?.mpr hp
    · exact List.mem_zipIdx_iff_getElem?.mpr hq
    · rw [if_neg hkj]
      have : w = 0 ∨ w = 1 := by omega
      rcases this with rfl | rfl
      · exact List.mem_cons_self
      · exact List.mem_cons_of_mem _ List.mem_cons_self
  · refine List.mem_append_left _ (List.mem_append_right _ (List.mem_flatMap.mpr ⟨p, List.mem_of_getElem? hp, List.mem_map.mpr ⟨l, List.mem_of_getElem? hl, rfl⟩⟩))
  · refine List.mem_append_right _ (List.mem_flatMap.mpr ⟨x, List.mem_of_getElem? hx, List.mem_flatMap.mpr ⟨y, List.mem_of_getElem? hy, ?_⟩⟩)
    rw [hc]
    simp only
    rcases h with ⟨i, c, hi, rfl⟩ | ⟨rfl, c, h0, rfl⟩
    · have : cs ≠ [] := fun e => by subst e; simp at hi
      rw [if_neg (by simpa using this)]
      exact List.mem_map.mpr ⟨c, List.mem_of_getElem? hi, rfl⟩
    · simp only [List.isEmpty_nil, if_true, h0]
      exact List.mem_singleton.mpr rfl
theorem bA {a b : Bool} (h : (a && b) = true) : a = true ∧ b = true := by cases a <;> cases b <;> first | exact ⟨rfl, rfl⟩ | cases h
theorem isTup_ok {r : Rs MV} (h : isTup r = true) : ∃ cs, r = .ok (.tup cs) := by
  unfold isTup at h
  split at h
  · exact ⟨_, rfl⟩
  · cases h
theorem okc_ok {q : List (List Int) → Bool} {ls : List (List Int)} {o : Option (List Int)} (h : okc q ls o = true) : ∃ c, o = some c ∧ shp (mkT c) = true ∧ inL (mkT c) (ls.map mkT) = ls.contains c ∧ ls.length < 1000 ∧ q (nx ls c) = true := by
  cases o with
  | none => cases h
  | some c =>
    obtain ⟨h1, h⟩ := bA h
    obtain ⟨h2, h⟩ := bA h
    obtain ⟨h3, h4⟩ := bA h
    exact ⟨c, rfl, h1, eq_of_beq h2, of_decide_eq_true h3, h4⟩
theorem optB_get {f : List (List Int) → Bool} {o : Option (List (List Int))} (h : optB f o = true) : ∃ ps, o = some ps ∧ f ps = true := by
  cases o with
  | none => cases h
  | some ps => exact ⟨ps, rfl, h⟩
theorem chk_get {q : List (List Int) → Bool} {ls : List (List Int)} (h : chk q ls = true) : ∃ ps, meetsK ls = some ps ∧ chk1 q ls ps = true := optB_get (f := chk1 q ls) (o := meetsK ls) h
/-- what a check says of one fold -/
theorem chk_ok {q : List (List Int) → Bool} {ls : List (List Int)} (h : chk q ls = true) (d0 d1 d2 d3 : Int) (rest : List MV) (hpos : 0 ≤ d0 ∧ 0 ≤ d1 ∧ 0 ≤ d2 ∧ 0 ≤ d3) :
    shp (.lst (ls.map mkT)) = true ∧ ∃ c, fd__law_crease [.lst (.int d0 :: .int d1 :: .int d2 :: .int d3 :: rest), .lst (ls.map mkT)] = .ok (mkT c) ∧ shp (mkT c) = true ∧ inL (mkT c) (ls.map mkT) = ls.contains c ∧ ls.length < 1000 ∧ q (nx ls c) = true := by
  obtain ⟨ps, hps, h⟩ := chk_get h
  unfold chk1 at h
  obtain ⟨h1, h⟩ := bA h
  obtain ⟨h2, h⟩ := bA h
  obtain ⟨h3, h⟩ := bA h
  obtain ⟨h4, h⟩ := bA h
  obtain ⟨h5, h6⟩ := bA h
  refine ⟨h3, ?_⟩
  have l1 : 0 < (ps.map mkT).length := by rw [List.length_map]; exact of_decide_eq_true h1
  have l2 : 0 < (ls.map mkT).length := by rw [List.length_map]; exact of_decide_eq_true h2
  have g1 : ∀ x ∈ ls.map mkT, shp x = true := fun x hx => by
    obtain ⟨y, hy, e⟩ := List.mem_map.mp hx
    rw [← e]
    exact List.all_eq_true.mp h4 y hy
  have g2 : ∀ x ∈ ls.map mkT, ∀ y ∈ ls.map mkT, ∃ cs, laysC x y = .ok (.tup cs) := fun x hx y hy => by
    obtain ⟨x', hx', e1⟩ := List.mem_map.mp hx
    obtain ⟨y', hy', e2⟩ := List.mem_map.mp hy
    rw [← e1, ← e2]
    exact isTup_ok (List.all_eq_true.mp (List.all_eq_true.mp h5 x' hx') y' hy')
  generalize hr : fd__law_crease [.lst (.int d0 :: .int d1 :: .int d2 :: .int d3 :: rest), .lst (ls.map mkT)] = r
  have ch := crease_in (ls.map mkT) (ps.map mkT) d0 d1 d2 d3 rest (meetsK_ok hps) l1 l2 g1 hpos g2 r hr
  have m := mem_ddp (List.mem_map_of_mem (f := keyR) (choice_mem ch))
  obtain ⟨c, hc, k⟩ := okc_ok (List.all_eq_true.mp h6 _ m)
  exact ⟨c, keyR_ok hc, k⟩
end G

set_option Elab.async false
set_option linter.all false
set_option maxRecDepth 1000000
set_option maxHeartbeats 4000000
namespace G
open PySem PySem.Spec Mi
theorem end_step {a b : SD} {ρ ρ' : Rho} {r : Rs MV} (h : a ρ = .nx ρ') (e : endR (b ρ') = r) : endR (sSeq a b ρ) = r := by rw [sSeq_nx h]; exact e
theorem end_rt {a b : SD} {ρ : Rho} {m : MV} (h : a ρ = .rt m) : endR (sSeq a b ρ) = .ok m := by rw [sSeq_rt h]; rfl
theorem forL_nx {live : List Bool} {vs : List Nat} {g : GD} {b : SD} {m : MV} {ms : List MV} {ρ ρ1 ρ2 : Rho} (h1 : noOwn vs ρ = true) (h2 : g m ρ = some ρ1) (h3 : b ρ1 = .nx ρ2) : forL live vs g b (m :: ms) ρ = forL live vs g b ms (kill live ρ2) := by
  rw [forL, if_pos h1, h2]
  simp only [h3]
theorem flat_ints : ∀ c : List Int, flatL (c.map MV.int) = true
  | [] => rfl
  | x :: c => by show (flatM (MV.int x) && flatL (c.map MV.int)) = true; rw [flat_ints c]; rfl
theorem flat_mkT (c : List Int) : flatM (mkT c) = true := flat_ints c
theorem flatOnly_ok {g : FD} {ms : List MV} {m : MV} (h : g ms = .ok m) (hf : flatM m = true) : flatOnly g ms = .ok m := by
  unfold flatOnly
  rw [h, Rs.bind_ok, if_pos hf]
theorem cutFrom {α : Type} (xs : List α) (k : Nat) : cutM xs (some (k : Int)) none = xs.drop k := by
  unfold cutM
  rw [HT.sIx_nat, HT.sIx_none]
  by_cases h : k ≤ xs.length
  · rw [Nat.min_eq_left h, List.take_of_length_le (by rw [List.length_drop]; exact Nat.le_refl _)]
  · rw [Nat.min_eq_right (by omega), Nat.sub_self, List.take_zero, List.drop_eq_nil_of_le (by omega)]
theorem four_of {l : List Int} (h : 4 ≤ l.length) : ∃ a b c d r, l = a :: b :: c :: d :: r := by
  match l, h with
  | a :: b :: c :: d :: r, _ => exact ⟨a, b, c, d, r, rfl⟩
theorem dSl_from {ρ : Rho} {i k : Nat} {D : List MV} {e : ED} (h : lk ρ i = .val (.lst D)) (he : e ρ = .ok (.int (k : Int))) : (dSl (dVar i) (oSome e) oNone) ρ = .ok (.lst (D.drop k)) := by
  unfold dSl
  rw [dVar_ok h, Rs.bind_ok]
  have : oSome e ρ = .ok (some (k : Int)) := by unfold oSome; rw [he]; rfl
  rw [this, Rs.bind_ok]
  show opSl (.lst D) (some (k : Int)) none = _
  show Rs.ok (MV.lst (cutM D (some (k : Int)) none)) = _
  rw [cutFrom]
theorem sMut_app {ρ : Rho} {i j : Nat} {L : List MV} {m : MV} (h : lk ρ i = .own (.lst L)) (hj : lk ρ j = .val m) (hl : L.length < big) : sMut i (dCons (dVar j) dNil) hApp ρ = .nx (ρ.set i (.own (.lst (L ++ [m])))) := by
  unfold sMut
  rw [h]
  have e : (dCons (dVar j) dNil) ρ = .ok [m] := dCons_ok (dVar_ok hj) rfl
  have e2 : hApp L [m] = some (L ++ [m]) := by show (if L.length < big then some (L ++ [m]) else none) = _; rw [if_pos hl]
  simp only [lstOf, e, e2]
theorem inA_lst {x : MV} {L : List MV} (h1 : shp x = true) (h2 : shp (.lst L) = true) : opInA x (.lst L) = .ok (.bl (inL x L)) := by
  show (if shp x && shp (.lst L) then Rs.ok (MV.bl (inL x L)) else .no) = _
  rw [h1, h2]; rfl
/-- the state of the folding loop -/
def stL (ds : List Int) (ls : List (List Int)) (a b : Sl) : Rho := [.un, .val (.lst (ds.map .int)), .un, .own (.lst (ls.map mkT)), a, .un, .un, .un, b, .un, .un, .un, .un]
theorem body_step {q : List (List Int) → Bool} {ls : List (List Int)} (h : chk q ls = true) (ds : List Int) (hd : drOk ds) (f : Nat) (hf : 4 * f + 4 ≤ ds.length) (hm : opMul (.int 4) (.int (f : Int)) = .ok (.int ((4 * f : Nat) : Int))) :
    ∃ c, q (nx ls c) = true ∧ (sSeq (sSet 8 (dCall (flatOnly fd__law_crease) (dCons (dSl (dVar 1) (oSome (dBin opMul (dC (.int 4)) (dVar 4))) oNone) (dCons (dVarB 3) dNil))))
      (sIf (dTst (dBin (negB opInA) (dVar 8) (dVarB 3))) (sMut 3 (dCons (dVar 8) dNil) hApp) sNext)) (stL ds ls (.val (.int (f : Int))) .un) = .nx (stL ds (nx ls c) (.val (.int (f : Int))) (.val (mkT c))) := by
  obtain ⟨d0, d1, d2, d3, r, hr⟩ := four_of (l := ds.drop (4 * f)) (by rw [List.length_drop]; omega)
  have pos : ∀ x ∈ ds.drop (4 * f), 0 ≤ x := fun x hx => (hd x (List.mem_of_mem_drop hx)).1
  rw [hr] at pos
  obtain ⟨hs, c, e, h1, h2, h3, h4⟩ := chk_ok h d0 d1 d2 d3 (r.map .int) ⟨pos _ (by simp), pos _ (by simp), pos _ (by simp), pos _ (by simp)⟩
  refine ⟨c, h4, ?_⟩
  have sl : (dSl (dVar 1) (oSome (dBin opMul (dC (.int 4)) (dVar 4))) oNone) (stL ds ls (.val (.int (f : Int))) .un) = .ok (.lst (.int d0 :: .int d1 :: .int d2 :: .int d3 :: r.map .int)) := by
    rw [dSl_from (k := 4 * f) (D := ds.map .int) rfl (dBin_ok rfl (dVar_ok rfl) hm), ← List.map_drop, hr]; rfl
  have st : sSet 8 (dCall (flatOnly fd__law_crease) (dCons (dSl (dVar 1) (oSome (dBin opMul (dC (.int 4)) (dVar 4))) oNone) (dCons (dVarB 3) dNil))) (stL ds ls (.val (.int (f : Int))) .un) = .nx (stL ds ls (.val (.int (f : Int))) (.val (mkT c))) :=
    (sSet_ok (dCall_ok (dCons_ok sl (dCons_ok (dVarB_own rfl) rfl)) (flatOnly_ok e (flat_mkT c)))).trans rfl
  rw [sSeq_nx st]
  have tn : (dTst (dBin (negB opInA) (dVar 8) (dVarB 3))) (stL ds ls (.val (.int (f : Int))) (.val (mkT c))) = .ok (!ls.contains c) := dTst_ok (dBin_ok (dVar_ok rfl) (dVarB_own rfl) (negB_of (by rw [inA_lst h1 hs, h2])))
  unfold nx
  by_cases q1 : ls.contains c = true
  · rw [if_pos q1]
    exact sIf_f (by rw [tn, q1]; rfl) rfl
  · have q2 : ls.contains c = false := by simpa using q1
    rw [if_neg q1]
    refine sIf_t (by rw [tn, q2]; rfl) ((sMut_app (L := ls.map mkT) (m := mkT c) rfl rfl (by rw [List.length_map]; show ls.length < 16000000; omega)).trans ?_)
    show SR.nx _ = SR.nx _
    unfold stL
    rw [List.map_append]; rfl
/-- two folds -/
theorem two_folds (ds : List Int) (hd : drOk ds) (hl : ds.length = 20) (h : chk (chk check2) ls0 = true) : ∃ ls, check2 ls = true ∧
    forL [false, true, false, true, false, false, false, false, false, false, false, false, false] [4] (gVar 4)
     (sSeq (sSet 8 (dCall (flatOnly fd__law_crease) (dCons (dSl (dVar 1) (oSome (dBin opMul (dC (.int 4)) (dVar 4))) oNone) (dCons (dVarB 3) dNil))))
      (sIf (dTst (dBin (negB opInA) (dVar 8) (dVarB 3))) (sMut 3 (dCons (dVar 8) dNil) hApp) sNext)) [.int 0, .int 1] (stL ds ls0 .un .un) = .nx (stL ds ls .un .un) := by
  obtain ⟨c, hc, e1⟩ := body_step h ds hd 0 (by omega) rfl
  obtain ⟨c', hc', e2⟩ := body_step hc ds hd 1 (by omega) rfl
  refine ⟨nx (nx ls0 c) c', hc', ?_⟩
  rw [forL_nx (ρ1 := stL ds ls0 (.val (.int ((0 : Nat) : Int))) .un) rfl rfl e1]
  have k1 : kill [false, true, false, true, false, false, false, false, false, false, false, false, false] (stL ds (nx ls0 c) (.val (.int ((0 : Nat) : Int))) (.val (mkT c))) = stL ds (nx ls0 c) .un .un := rfl
  rw [k1, forL_nx (ρ1 := stL ds (nx ls0 c) (.val (.int ((1 : Nat) : Int))) .un) rfl rfl e2]
  rfl
end G

set_option Elab.async false
set_option linter.all false
set_option maxRecDepth 1000000
set_option maxHeartbeats 4000000
namespace G
open PySem PySem.Spec Mi
theorem bTrue_ok {r : Rs MV} (h : bTrue r = true) : r = .ok (.bl true) := by
  unfold bTrue at h
  split at h
  · rfl
  · cases h
theorem lc_all {ρ : Rho} {v : Nat} {d : ED} : ∀ {ms : List MV}, (∀ m ∈ ms, d ((wipeR ρ [v]).set v (.val m)) = .ok (.bl true)) → lcL [v] (gVar v) yes d ms ρ = some (ms.map fun _ => .bl true)
  | [], _ => rfl
  | m :: ms, h => by
    have ih := lc_all (ms := ms) fun x hx => h x (List.mem_cons_of_mem _ hx)
    have e := h m List.mem_cons_self
    rw [lcL]
    simp only [gVar, yes, e, ih, Option.map_some, List.map_cons]
theorem bls_true : ∀ ms : List MV, blsOf (ms.map fun _ => MV.bl true) = some (ms.map fun _ => true)
  | [] => rfl
  | m :: ms => by simp [blsOf, bls_true ms]
theorem bAll_true (ms : List MV) : bAll [.lst (ms.map fun _ => .bl true)] = .ok (.bl true) := by
  unfold bAll
  simp only [bls_true]
  congr 2
  rw [List.all_eq_true]
  intro x hx
  obtain ⟨_, _, e⟩ := List.mem_map.mp hx
  rw [← e]; rfl
theorem all_lc {ρ : Rho} {v : Nat} {it : ID} {d : ED} {ms : List MV} (h1 : it ρ = .ok ms) (h2 : noOwn [v] ρ = true) (h3 : ms.length ≤ big) (h : ∀ m ∈ ms, d ((wipeR ρ [v]).set v (.val m)) = .ok (.bl true)) :
    (dCall bAll (dCons (dLc [v] it (gVar v) yes d) dNil)) ρ = .ok (.bl true) := by
  refine dCall_ok (xs := [.lst (ms.map fun _ => .bl true)]) (dCons_ok ?_ rfl) (bAll_true ms)
  unfold dLc
  rw [h1, Rs.bind_ok, h2, decide_eq_true h3, lc_all h]
  rfl
theorem iSeq_lst {d : ED} {ρ : Rho} {ms : List MV} (h : d ρ = .ok (.lst ms)) : iSeq d ρ = .ok ms := by unfold iSeq; rw [h]; rfl
theorem check2_get {ls : List (List Int)} (h : check2 ls = true) : ∃ ps : List (List Int), fd__law_meets [.lst (ls.map mkT)] = .ok (.lst (ps.map mkT)) ∧ ps.length < 1000 ∧ ∀ p ∈ ps, fd_in_sheet [mkT p] = .ok (.bl true) ∧ opInA (mkT p) kDct = .ok (.bl true) := by
  obtain ⟨ps, h1, h2⟩ := optB_get h
  obtain ⟨h3, h4⟩ := bA h2
  refine ⟨ps, meetsK_ok h1, of_decide_eq_true h3, fun p hp => ?_⟩
  obtain ⟨h5, h6⟩ := bA (List.all_eq_true.mp h4 p hp)
  exact ⟨bTrue_ok h5, bTrue_ok h6⟩
theorem sFrz_own {i : Nat} {a : SD} {ρ : Rho} {m : MV} (h : lk ρ i = .own m) : sFrz i a ρ = a (ρ.set i (.val m)) := by unfold sFrz; rw [h]
theorem law_true (ns : List Int) (hl : ns.length ≤ 63) : fd_law [.scr ns] = .ok (.bl true) := by
  obtain ⟨ds, e1, hlen, hd⟩ := draws_ok ns 20 (by omega)
  have e1' : fd__law_draws [.scr ns, .int 20] = .ok (.lst (ds.map .int)) := e1
  obtain ⟨ls, hc2, hloop⟩ := two_folds ds hd hlen check_two
  obtain ⟨ps, hm, hpl, hps⟩ := check2_get hc2
  have l1 : ([MV.scr ns] : List MV).length = 1 := rfl
  have m1 : (([MV.scr ns] : List MV).map Sl.val ++ List.replicate 12 Sl.un) = [.val (.scr ns), .un, .un, .un, .un, .un, .un, .un, .un, .un, .un, .un, .un] := rfl
  unfold fd_law
  rw [fnD_end l1, m1]
  unfold b_law
  -- draws
  refine end_step ((sSet_ok (dCall_ok (dCons_ok (dVar_ok rfl) (dCons_ok rfl rfl)) e1')).trans rfl) ?_
  show endR ((sSeq _ _) [.val (.scr ns), .val (.lst (ds.map .int)), .un, .un, .un, .un, .un, .un, .un, .un, .un, .un, .un]) = _
  generalize hD : MV.lst (ds.map MV.int) = D
  refine end_step (ρ' := [.val (.scr ns), .val D, .val (.lst [mkT [0, 0, 1], mkT [0, 1, 1], mkT [1, 0, 1], mkT [1, 1, 1]]), .un, .un, .un, .un, .un, .un, .un, .un, .un, .un]) (by kernel_rfl) ?_
  refine end_step (ρ' := [.val (.scr ns), .val D, .val (.lst [mkT [0, 0, 1], mkT [0, 1, 1], mkT [1, 0, 1], mkT [1, 1, 1]]), .un, .un, .un, .un, .un, .un, .un, .un, .un, .un]) (by kernel_rfl) ?_
  refine end_step (ρ' := [.val (.scr ns), .val D, .val (.lst [mkT [0, 0, 1], mkT [0, 1, 1], mkT [1, 0, 1], mkT [1, 1, 1]]), .un, .un, .un, .un, .un, .un, .un, .un, .un, .un]) (by kernel_rfl) ?_
  refine end_step (ρ' := [.val (.scr ns), .val D, .val (.lst [mkT [0, 0, 1], mkT [0, 1, 1], mkT [1, 0, 1], mkT [1, 1, 1]]), .own (.lst (ls0.map mkT)), .un, .un, .un, .un, .un, .un, .un, .un, .un]) (by kernel_rfl) ?_
  subst hD
  -- two folds
  refine end_step (ρ' := stL ds ls .un .un) (sFor_ok (ms := [.int 0, .int 1]) (by kernel_rfl) hloop) ?_
  -- the tenth draw
  obtain ⟨d10, h10⟩ : ∃ d, ds[10]? = some d := ⟨_, List.getElem?_eq_getElem (by omega)⟩
  have h10' : L2.atI (ds.map MV.int) (10 : Int) = some (MV.int d10) := L2.atI_nat (j := 10) (by rw [List.getElem?_map, h10]; rfl)
  have t10 : (dTst (dBin opGt (dBin opMod (dCall bInt (dCons (dBin opIx (dVar 1) (dC (.int 10))) dNil)) (dC (.int 6))) (dC (.int 0)))) (stL ds ls .un .un) = .ok (decide ((0 : Int) < d10 % 6)) :=
    dTst_ok (dBin_ok (rdMod (dm := dC (.int 6)) rfl h10' rfl (by decide)) rfl rfl)
  by_cases c : (0 : Int) < d10 % 6
  · refine end_rt (sIf_t (by rw [t10, decide_eq_true c]) ((sFrz_own (m := .lst (ls.map mkT)) rfl).trans ?_))
    have q3 : (stL ds ls .un .un).set 3 (.val (.lst (ls.map mkT))) = [.un, .val (.lst (ds.map .int)), .un, .val (.lst (ls.map mkT)), .un, .un, .un, .un, .un, .un, .un, .un, .un] := rfl
    rw [q3]
    refine sRet_ok (all_lc (ms := ps.map mkT) (iSeq_lst (dCall_ok (dCons_ok (dVar_ok rfl) rfl) hm)) rfl (by rw [List.length_map]; show ps.length ≤ 16000000; omega) fun m hm' => ?_)
    obtain ⟨p, hp, rfl⟩ := List.mem_map.mp hm'
    exact dCall_ok (dCons_ok (dVar_ok rfl) rfl) (hps p hp).1
  · refine end_step (sIf_f (by rw [t10, decide_eq_false c]) rfl) ?_
    have s5 : ∀ ρ : Rho, sSet 5 (dCall fd_after_folds (dCons (dC (.int 2)) dNil)) ρ = .nx (ρ.set 5 (.val (.tup (known.map mkT)))) := fun ρ => sSet_ok (dCall_ok (xs := [.int 2]) rfl af2_eq)
    refine end_step (s5 _) ?_
    have q5 : (stL ds ls .un .un).set 5 (.val (.tup (known.map mkT))) = [.un, .val (.lst (ds.map .int)), .un, .own (.lst (ls.map mkT)), .un, .val (.tup (known.map mkT)), .un, .un, .un, .un, .un, .un, .un] := rfl
    rw [q5]
    generalize hL : MV.lst (ls.map mkT) = L at hm ⊢
    generalize hD : MV.lst (ds.map MV.int) = D
    refine end_step (ρ' := [.un, .val D, .un, .own L, .un, .val (.tup (known.map mkT)), .own (.dct true [] []), .un, .un, .un, .un, .un, .un]) (by kernel_rfl) ?_
    refine end_step (ρ' := [.un, .un, .un, .own L, .un, .val (.tup (known.map mkT)), .own kDct, .un, .un, .un, .un, .un, .un]) (by kernel_rfl) ?_
    refine end_step (ρ' := [.un, .un, .un, .val L, .un, .val (.tup (known.map mkT)), .val kDct, .un, .un, .un, .un, .un, .un]) ?_ ?_
    · refine (sFrz_own (m := L) rfl).trans ((sFrz_own (m := kDct) rfl).trans ?_)
      have q6 : (([Sl.un, .un, .un, .own L, .un, .val (.tup (known.map mkT)), .own kDct, .un, .un, .un, .un, .un, .un] : Rho).set 3 (.val L)).set 6 (.val kDct) = [.un, .un, .un, .val L, .un, .val (.tup (known.map mkT)), .val kDct, .un, .un, .un, .un, .un, .un] := rfl
      rw [q6]
      refine sIf_f ?_ rfl
      rw [dOr_f (by kernel_rfl), dOr_f (by kernel_rfl)]
      refine dNot_ok (k := true) (dTst_ok (all_lc (ms := ps.map mkT) (iSeq_lst (dCall_ok (dCons_ok (dVar_ok rfl) rfl) hm)) rfl (by rw [List.length_map]; show ps.length ≤ 16000000; omega) fun m hm' => ?_))
      obtain ⟨p, hp, rfl⟩ := List.mem_map.mp hm'
      exact dBin_ok (dVar_ok rfl) (dVarB_val rfl) (hps p hp).2
    · refine end_step (ρ' := [.un, .un, .un, .un, .un, .un, .val kDct, .un, .un, .un, .un, .un, .un]) (by kernel_rfl) ?_
      rfl
end G

namespace G
open PySem PySem.Spec L2 Mi
def D__law_draws : He.DefD := ⟨("_law_draws", none), "_law_draws", "_law_draws", defArgs st__law_draws, defBody st__law_draws, defScope st__law_draws, [], []⟩
def D_is_integer : He.DefD := ⟨("is_integer", none), "is_integer", "is_integer", defArgs st_is_integer, defBody st_is_integer, defScope st_is_integer, [], []⟩
def D__are_integers : He.DefD := ⟨("_are_integers", none), "_are_integers", "_are_integers", defArgs st__are_integers, defBody st__are_integers, defScope st__are_integers, [], []⟩
def D_divisor : He.DefD := ⟨("divisor", none), "divisor", "divisor", defArgs st_divisor, defBody st_divisor, defScope st_divisor, [], []⟩
def D_is_line : He.DefD := ⟨("is_line", none), "is_line", "is_line", defArgs st_is_line, defBody st_is_line, defScope st_is_line, [], []⟩
def D_check_lines : He.DefD := ⟨("check_lines", none), "check_lines", "check_lines", defArgs st_check_lines, defBody st_check_lines, defScope st_check_lines, [], []⟩
def D_point : He.DefD := ⟨("point", none), "point", "point", defArgs st_point, defBody st_point, defScope st_point, [], []⟩
def D_cross : He.DefD := ⟨("cross", none), "cross", "cross", defArgs st_cross, defBody st_cross, defScope st_cross, [], []⟩
def D_meets : He.DefD := ⟨("meets", none), "meets", "meets", defArgs st_meets, defBody st_meets, defScope st_meets, [], []⟩
def D_is_point : He.DefD := ⟨("is_point", none), "is_point", "is_point", defArgs st_is_point, defBody st_is_point, defScope st_is_point, [], []⟩
def D_check_points : He.DefD := ⟨("check_points", none), "check_points", "check_points", defArgs st_check_points, defBody st_check_points, defScope st_check_points, [], []⟩
def D_in_sheet : He.DefD := ⟨("in_sheet", none), "in_sheet", "in_sheet", defArgs st_in_sheet, defBody st_in_sheet, defScope st_in_sheet, [], []⟩
def D_root : He.DefD := ⟨("root", none), "root", "root", defArgs st_root, defBody st_root, defScope st_root, [], []⟩
def D_line : He.DefD := ⟨("line", none), "line", "line", defArgs st_line, defBody st_line, defScope st_line, [], []⟩
def D__size : He.DefD := ⟨("_size", none), "_size", "_size", defArgs st__size, defBody st__size, defScope st__size, [], []⟩
def D_lays : He.DefD := ⟨("lays", none), "lays", "lays", defArgs st_lays, defBody st_lays, defScope st_lays, [], []⟩
def D_joined : He.DefD := ⟨("joined", none), "joined", "joined", defArgs st_joined, defBody st_joined, defScope st_joined, [], []⟩
def D_through : He.DefD := ⟨("through", none), "through", "through", defArgs st_through, defBody st_through, defScope st_through, [], []⟩
def D_onto : He.DefD := ⟨("onto", none), "onto", "onto", defArgs st_onto, defBody st_onto, defScope st_onto, [], []⟩
def D_square_to : He.DefD := ⟨("square_to", none), "square_to", "square_to", defArgs st_square_to, defBody st_square_to, defScope st_square_to, [], []⟩
def D__creases : He.DefD := ⟨("_creases", none), "_creases", "_creases", defArgs st__creases, defBody st__creases, defScope st__creases, [], []⟩
def D_after_folds : He.DefD := ⟨("after_folds", none), "after_folds", "after_folds", defArgs st_after_folds, defBody st_after_folds, defScope st_after_folds, [], []⟩
def D__law_meets : He.DefD := ⟨("_law_meets", none), "_law_meets", "_law_meets", defArgs st__law_meets, defBody st__law_meets, defScope st__law_meets, [], []⟩
def D__law_crease : He.DefD := ⟨("_law_crease", none), "_law_crease", "_law_crease", defArgs st__law_crease, defBody st__law_crease, defScope st__law_crease, [], []⟩
def D__law_refused : He.DefD := ⟨("_law_refused", none), "_law_refused", "_law_refused", defArgs st__law_refused, defBody st__law_refused, defScope st__law_refused, [], []⟩
def D_law : He.DefD := ⟨("law", none), "law", "law", defArgs st_law, defBody st_law, defScope st_law, [], []⟩
def fnD_ : List He.DefD := [D__law_draws, D_is_integer, D__are_integers, D_divisor, D_is_line, D_check_lines, D_point, D_cross, D_meets, D_is_point, D_check_points, D_in_sheet, D_root, D_line, D__size, D_lays, D_joined, D_through, D_onto, D_square_to, D__creases, D_after_folds, D__law_meets, D__law_crease, D__law_refused, D_law]
def fa : List He.Fa := [.free "abs", .free "all", .free "bool", .free "enumerate", .free "int", .free "isinstance", .free "len", .free "list", .free "range", .free "sorted", .free "tuple", .glo "_law_draws", .glo "is_integer", .glo "_are_integers", .glo "divisor", .glo "is_line", .glo "check_lines", .glo "point", .glo "cross", .glo "meets", .glo "is_point", .glo "check_points", .glo "in_sheet", .glo "root", .glo "line", .glo "_size", .glo "lays", .glo "joined", .glo "through", .glo "onto", .glo "square_to", .glo "_creases", .glo "after_folds", .glo "_law_meets", .glo "_law_crease", .glo "_law_refused", .glo "law", .glo "FoldError", .glo "BadPoint", .glo "BadLine", .glo "Same", .exc "BadLine", .exc "BadPoint", .exc "Same", .exm "FoldError" "FoldError" true, .exm "FoldError" "BadPoint" false, .exm "FoldError" "BadLine" false, .exm "FoldError" "Same" false, .exm "BadPoint" "FoldError" true, .exm "BadPoint" "BadPoint" true, .exm "BadPoint" "BadLine" false, .exm "BadPoint" "Same" false, .exm "BadLine" "FoldError" true, .exm "BadLine" "BadPoint" false, .exm "BadLine" "BadLine" true, .exm "BadLine" "Same" false, .exm "Same" "FoldError" true, .exm "Same" "BadPoint" false, .exm "Same" "BadLine" false, .exm "Same" "Same" true]
def exB (K : PySem.W.Frag) : Bool := conG K "EDGES" c_EDGES
abbrev R : PySem.W.OpenRow := PySem.W.OpenLaw.row PySem.Challenge.rw_creasewrit_k64_what_few_folds_find
abbrev hk : PySem.W.Hook := He.hookX 5 fa fnD_ [] [] exB
def ob (s : PySem.W.SharedT) : He.AlX := He.obsX 5 fa fnD_ [] [] exB (HandSHeadRun.getT s)
theorem ob_eq (s : PySem.W.SharedT) : ob s = hk.obs s.abs := He.obsX_eq (HandSHeadRun.getT_eq s)
def loose : List PySem.Str := ["FoldError", "BadPoint", "BadLine", "Same", "is_integer", "divisor", "_are_integers", "is_point", "is_line", "point", "line", "check_points", "check_lines", "cross", "joined", "in_sheet", "root", "through", "onto", "square_to", "lays", "_size", "meets", "EDGES", "_creases", "after_folds", "_law_draws", "_law_meets", "_law_crease", "_law_refused"]
theorem run (w : World) : HandSHeadRun.RunEq R (PySem.W.view R.prog [35]) hk ob 20000 loose w := by
  intro os
  kernel_rfl
theorem subOk {K : PySem.W.Frag} (c : He.SaysD fa fnD_ K) : SubOk K (TT (He.ga K)) := fun c1 h1 b e => by
  have e : subT c1 h1 = some b := e
  unfold subT at e
  by_cases q_FoldError : c1 = "FoldError"
  · subst q_FoldError
    rw [if_pos rfl] at e
    by_cases r_FoldError : h1 = "FoldError"
    · subst r_FoldError; rw [if_pos rfl] at e; cases e; exact He.exm_ok (c.fact 44 (f := .exm "FoldError" "FoldError" true) rfl)
    rw [if_neg r_FoldError] at e
    by_cases r_BadPoint : h1 = "BadPoint"
    · subst r_BadPoint; rw [if_pos rfl] at e; cases e; exact He.exm_ok (c.fact 45 (f := .exm "FoldError" "BadPoint" false) rfl)
    rw [if_neg r_BadPoint] at e
    by_cases r_BadLine : h1 = "BadLine"
    · subst r_BadLine; rw [if_pos rfl] at e; cases e; exact He.exm_ok (c.fact 46 (f := .exm "FoldError" "BadLine" false) rfl)
    rw [if_neg r_BadLine] at e
    by_cases r_Same : h1 = "Same"
    · subst r_Same; rw [if_pos rfl] at e; cases e; exact He.exm_ok (c.fact 47 (f := .exm "FoldError" "Same" false) rfl)
    rw [if_neg r_Same] at e
    cases e
  rw [if_neg q_FoldError] at e
  by_cases q_BadPoint : c1 = "BadPoint"
  · subst q_BadPoint
    rw [if_pos rfl] at e
    by_cases r_FoldError : h1 = "FoldError"
    · subst r_FoldError; rw [if_pos rfl] at e; cases e; exact He.exm_ok (c.fact 48 (f := .exm "BadPoint" "FoldError" true) rfl)
    rw [if_neg r_FoldError] at e
    by_cases r_BadPoint : h1 = "BadPoint"
    · subst r_BadPoint; rw [if_pos rfl] at e; cases e; exact He.exm_ok (c.fact 49 (f := .exm "BadPoint" "BadPoint" true) rfl)
    rw [if_neg r_BadPoint] at e
    by_cases r_BadLine : h1 = "BadLine"
    · subst r_BadLine; rw [if_pos rfl] at e; cases e; exact He.exm_ok (c.fact 50 (f := .exm "BadPoint" "BadLine" false) rfl)
    rw [if_neg r_BadLine] at e
    by_cases r_Same : h1 = "Same"
    · subst r_Same; rw [if_pos rfl] at e; cases e; exact He.exm_ok (c.fact 51 (f := .exm "BadPoint" "Same" false) rfl)
    rw [if_neg r_Same] at e
    cases e
  rw [if_neg q_BadPoint] at e
  by_cases q_BadLine : c1 = "BadLine"
  · subst q_BadLine
    rw [if_pos rfl] at e
    by_cases r_FoldError : h1 = "FoldError"
    · subst r_FoldError; rw [if_pos rfl] at e; cases e; exact He.exm_ok (c.fact 52 (f := .exm "BadLine" "FoldError" true) rfl)
    rw [if_neg r_FoldError] at e
    by_cases r_BadPoint : h1 = "BadPoint"
    · subst r_BadPoint; rw [if_pos rfl] at e; cases e; exact He.exm_ok (c.fact 53 (f := .exm "BadLine" "BadPoint" false) rfl)
    rw [if_neg r_BadPoint] at e
    by_cases r_BadLine : h1 = "BadLine"
    · subst r_BadLine; rw [if_pos rfl] at e; cases e; exact He.exm_ok (c.fact 54 (f := .exm "BadLine" "BadLine" true) rfl)
    rw [if_neg r_BadLine] at e
    by_cases r_Same : h1 = "Same"
    · subst r_Same; rw [if_pos rfl] at e; cases e; exact He.exm_ok (c.fact 55 (f := .exm "BadLine" "Same" false) rfl)
    rw [if_neg r_Same] at e
    cases e
  rw [if_neg q_BadLine] at e
  by_cases q_Same : c1 = "Same"
  · subst q_Same
    rw [if_pos rfl] at e
    by_cases r_FoldError : h1 = "FoldError"
    · subst r_FoldError; rw [if_pos rfl] at e; cases e; exact He.exm_ok (c.fact 56 (f := .exm "Same" "FoldError" true) rfl)
    rw [if_neg r_FoldError] at e
    by_cases r_BadPoint : h1 = "BadPoint"
    · subst r_BadPoint; rw [if_pos rfl] at e; cases e; exact He.exm_ok (c.fact 57 (f := .exm "Same" "BadPoint" false) rfl)
    rw [if_neg r_BadPoint] at e
    by_cases r_BadLine : h1 = "BadLine"
    · subst r_BadLine; rw [if_pos rfl] at e; cases e; exact He.exm_ok (c.fact 58 (f := .exm "Same" "BadLine" false) rfl)
    rw [if_neg r_BadLine] at e
    by_cases r_Same : h1 = "Same"
    · subst r_Same; rw [if_pos rfl] at e; cases e; exact He.exm_ok (c.fact 59 (f := .exm "Same" "Same" true) rfl)
    rw [if_neg r_Same] at e
    cases e
  rw [if_neg q_Same] at e
  cases e
theorem facts {w : World} {K : PySem.W.Frag} {h : Heap} {mg : Str → Option Value} (X : K.In h) (G : h.Ns mainGlobals mg) (cx : He.SaysX fa fnD_ [] [] exB w h K) : Fx K mg (TT (He.ga K)) := by
  have c : He.SaysD fa fnD_ K := congrArg (fun z : He.AlT => z.1) cx.t
  have m : exB K = true := cx.more
  simp only [exB, Bool.and_eq_true] at m
  exact {
    b_abs := He.free_ok X G (c.fact 0 (f := .free "abs") rfl)
    b_all := He.free_ok X G (c.fact 1 (f := .free "all") rfl)
    b_bool := He.free_ok X G (c.fact 2 (f := .free "bool") rfl)
    b_enumerate := He.free_ok X G (c.fact 3 (f := .free "enumerate") rfl)
    b_int := He.free_ok X G (c.fact 4 (f := .free "int") rfl)
    b_isinstance := He.free_ok X G (c.fact 5 (f := .free "isinstance") rfl)
    b_len := He.free_ok X G (c.fact 6 (f := .free "len") rfl)
    b_list := He.free_ok X G (c.fact 7 (f := .free "list") rfl)
    b_range := He.free_ok X G (c.fact 8 (f := .free "range") rfl)
    b_sorted := He.free_ok X G (c.fact 9 (f := .free "sorted") rfl)
    b_tuple := He.free_ok X G (c.fact 10 (f := .free "tuple") rfl)
    c_EDGES := ⟨conG_ok X G m⟩
    x_BadLine := ⟨(He.exc_ok (c.fact 41 (f := .exc "BadLine") rfl)).1, He.glo_ok X G (c.fact 39 (f := .glo "BadLine") rfl), (He.exc_ok (c.fact 41 (f := .exc "BadLine") rfl)).2.1, (He.exc_ok (c.fact 41 (f := .exc "BadLine") rfl)).2.2.1, (He.exc_ok (c.fact 41 (f := .exc "BadLine") rfl)).2.2.2⟩
    x_BadPoint := ⟨(He.exc_ok (c.fact 42 (f := .exc "BadPoint") rfl)).1, He.glo_ok X G (c.fact 38 (f := .glo "BadPoint") rfl), (He.exc_ok (c.fact 42 (f := .exc "BadPoint") rfl)).2.1, (He.exc_ok (c.fact 42 (f := .exc "BadPoint") rfl)).2.2.1, (He.exc_ok (c.fact 42 (f := .exc "BadPoint") rfl)).2.2.2⟩
    x_Same := ⟨(He.exc_ok (c.fact 43 (f := .exc "Same") rfl)).1, He.glo_ok X G (c.fact 40 (f := .glo "Same") rfl), (He.exc_ok (c.fact 43 (f := .exc "Same") rfl)).2.1, (He.exc_ok (c.fact 43 (f := .exc "Same") rfl)).2.2.1, (He.exc_ok (c.fact 43 (f := .exc "Same") rfl)).2.2.2⟩
    sub := subOk c
    d__law_draws := by
      obtain ⟨fd, D⟩ := c.def_ 0 (d := D__law_draws) rfl
      exact ⟨_, fd, D, He.glo_ok X G (c.fact 11 (f := .glo "_law_draws") rfl)⟩
    d_is_integer := by
      obtain ⟨fd, D⟩ := c.def_ 1 (d := D_is_integer) rfl
      exact ⟨_, fd, D, He.glo_ok X G (c.fact 12 (f := .glo "is_integer") rfl)⟩
    d__are_integers := by
      obtain ⟨fd, D⟩ := c.def_ 2 (d := D__are_integers) rfl
      exact ⟨_, fd, D, He.glo_ok X G (c.fact 13 (f := .glo "_are_integers") rfl)⟩
    d_divisor := by
      obtain ⟨fd, D⟩ := c.def_ 3 (d := D_divisor) rfl
      exact ⟨_, fd, D, He.glo_ok X G (c.fact 14 (f := .glo "divisor") rfl)⟩
    d_is_line := by
      obtain ⟨fd, D⟩ := c.def_ 4 (d := D_is_line) rfl
      exact ⟨_, fd, D, He.glo_ok X G (c.fact 15 (f := .glo "is_line") rfl)⟩
    d_check_lines := by
      obtain ⟨fd, D⟩ := c.def_ 5 (d := D_check_lines) rfl
      exact ⟨_, fd, D, He.glo_ok X G (c.fact 16 (f := .glo "check_lines") rfl)⟩
    d_point := by
      obtain ⟨fd, D⟩ := c.def_ 6 (d := D_point) rfl
      exact ⟨_, fd, D, He.glo_ok X G (c.fact 17 (f := .glo "point") rfl)⟩
    d_cross := by
      obtain ⟨fd, D⟩ := c.def_ 7 (d := D_cross) rfl
      exact ⟨_, fd, D, He.glo_ok X G (c.fact 18 (f := .glo "cross") rfl)⟩
    d_meets := by
      obtain ⟨fd, D⟩ := c.def_ 8 (d := D_meets) rfl
      exact ⟨_, fd, D, He.glo_ok X G (c.fact 19 (f := .glo "meets") rfl)⟩
    d_is_point := by
      obtain ⟨fd, D⟩ := c.def_ 9 (d := D_is_point) rfl
      exact ⟨_, fd, D, He.glo_ok X G (c.fact 20 (f := .glo "is_point") rfl)⟩
    d_check_points := by
      obtain ⟨fd, D⟩ := c.def_ 10 (d := D_check_points) rfl
      exact ⟨_, fd, D, He.glo_ok X G (c.fact 21 (f := .glo "check_points") rfl)⟩
    d_in_sheet := by
      obtain ⟨fd, D⟩ := c.def_ 11 (d := D_in_sheet) rfl
      exact ⟨_, fd, D, He.glo_ok X G (c.fact 22 (f := .glo "in_sheet") rfl)⟩
    d_root := by
      obtain ⟨fd, D⟩ := c.def_ 12 (d := D_root) rfl
      exact ⟨_, fd, D, He.glo_ok X G (c.fact 23 (f := .glo "root") rfl)⟩
    d_line := by
      obtain ⟨fd, D⟩ := c.def_ 13 (d := D_line) rfl
      exact ⟨_, fd, D, He.glo_ok X G (c.fact 24 (f := .glo "line") rfl)⟩
    d__size := by
      obtain ⟨fd, D⟩ := c.def_ 14 (d := D__size) rfl
      exact ⟨_, fd, D, He.glo_ok X G (c.fact 25 (f := .glo "_size") rfl)⟩
    d_lays := by
      obtain ⟨fd, D⟩ := c.def_ 15 (d := D_lays) rfl
      exact ⟨_, fd, D, He.glo_ok X G (c.fact 26 (f := .glo "lays") rfl)⟩
    d_joined := by
      obtain ⟨fd, D⟩ := c.def_ 16 (d := D_joined) rfl
      exact ⟨_, fd, D, He.glo_ok X G (c.fact 27 (f := .glo "joined") rfl)⟩
    d_through := by
      obtain ⟨fd, D⟩ := c.def_ 17 (d := D_through) rfl
      exact ⟨_, fd, D, He.glo_ok X G (c.fact 28 (f := .glo "through") rfl)⟩
    d_onto := by
      obtain ⟨fd, D⟩ := c.def_ 18 (d := D_onto) rfl
      exact ⟨_, fd, D, He.glo_ok X G (c.fact 29 (f := .glo "onto") rfl)⟩
    d_square_to := by
      obtain ⟨fd, D⟩ := c.def_ 19 (d := D_square_to) rfl
      exact ⟨_, fd, D, He.glo_ok X G (c.fact 30 (f := .glo "square_to") rfl)⟩
    d__creases := by
      obtain ⟨fd, D⟩ := c.def_ 20 (d := D__creases) rfl
      exact ⟨_, fd, D, He.glo_ok X G (c.fact 31 (f := .glo "_creases") rfl)⟩
    d_after_folds := by
      obtain ⟨fd, D⟩ := c.def_ 21 (d := D_after_folds) rfl
      exact ⟨_, fd, D, He.glo_ok X G (c.fact 32 (f := .glo "after_folds") rfl)⟩
    d__law_meets := by
      obtain ⟨fd, D⟩ := c.def_ 22 (d := D__law_meets) rfl
      exact ⟨_, fd, D, He.glo_ok X G (c.fact 33 (f := .glo "_law_meets") rfl)⟩
    d__law_crease := by
      obtain ⟨fd, D⟩ := c.def_ 23 (d := D__law_crease) rfl
      exact ⟨_, fd, D, He.glo_ok X G (c.fact 34 (f := .glo "_law_crease") rfl)⟩
    d__law_refused := by
      obtain ⟨fd, D⟩ := c.def_ 24 (d := D__law_refused) rfl
      exact ⟨_, fd, D, He.glo_ok X G (c.fact 35 (f := .glo "_law_refused") rfl)⟩
    d_law := by
      obtain ⟨fd, D⟩ := c.def_ 25 (d := D_law) rfl
      exact ⟨_, fd, D, He.glo_ok X G (c.fact 36 (f := .glo "law") rfl)⟩
  }
theorem all {P : Program} {w : World} {K : PySem.W.Frag} {mg : Str → Option Value} {C : Str → Addr} (F : Fx K mg (TT C)) : ∃ f fd, mg "law" = some (.ref f) ∧ (∀ (s : Shared) (v : Value), BindsTo s fd ⟨[v], []⟩ [("script", v)]) ∧ ∀ base : Heap, FnS P w K mg base (TT C) 20 f fd ["script"] fd_law := by
  have U__law_draws : ∀ base : Heap, FnU P w K mg base (TT C) 2 "_law_draws" fd__law_draws := fun base => ok__law_draws F 
  have U_is_integer : ∀ base : Heap, FnU P w K mg base (TT C) 2 "is_integer" fd_is_integer := fun base => ok_is_integer F 
  have U__are_integers : ∀ base : Heap, FnU P w K mg base (TT C) 4 "_are_integers" fd__are_integers := fun base => ok__are_integers F (U_is_integer base)
  have U_divisor : ∀ base : Heap, FnU P w K mg base (TT C) 2 "divisor" fd_divisor := fun base => ok_divisor F 
  have U_is_line : ∀ base : Heap, FnU P w K mg base (TT C) 6 "is_line" fd_is_line := fun base => ok_is_line F (U__are_integers base) (U_divisor base)
  have U_check_lines : ∀ base : Heap, FnU P w K mg base (TT C) 8 "check_lines" fd_check_lines := fun base => ok_check_lines F (U_is_line base)
  have U_point : ∀ base : Heap, FnU P w K mg base (TT C) 6 "point" fd_point := fun base => ok_point F (U__are_integers base) (U_divisor base)
  have U_cross : ∀ base : Heap, FnU P w K mg base (TT C) 10 "cross" fd_cross := fun base => ok_cross F (U_check_lines base) (U_point base)
  have U_meets : ∀ base : Heap, FnU P w K mg base (TT C) 12 "meets" fd_meets := fun base => ok_meets F (U_cross base)
  have U_is_point : ∀ base : Heap, FnU P w K mg base (TT C) 6 "is_point" fd_is_point := fun base => ok_is_point F (U__are_integers base) (U_divisor base)
  have U_check_points : ∀ base : Heap, FnU P w K mg base (TT C) 8 "check_points" fd_check_points := fun base => ok_check_points F (U_is_point base)
  have U_in_sheet : ∀ base : Heap, FnU P w K mg base (TT C) 10 "in_sheet" fd_in_sheet := fun base => ok_in_sheet F (U_check_points base)
  have U_root : ∀ base : Heap, FnU P w K mg base (TT C) 4 "root" fd_root := fun base => ok_root F (U_is_integer base)
  have U_line : ∀ base : Heap, FnU P w K mg base (TT C) 6 "line" fd_line := fun base => ok_line F (U__are_integers base) (U_divisor base)
  have U__size : ∀ base : Heap, FnU P w K mg base (TT C) 2 "_size" fd__size := fun base => ok__size F 
  have U_lays : ∀ base : Heap, FnU P w K mg base (TT C) 10 "lays" fd_lays := fun base => ok_lays F (U__size base) (U_check_lines base) (U_line base) (U_root base)
  have U_joined : ∀ base : Heap, FnU P w K mg base (TT C) 8 "joined" fd_joined := fun base => ok_joined F (U_line base)
  have U_through : ∀ base : Heap, FnU P w K mg base (TT C) 10 "through" fd_through := fun base => ok_through F (U_check_points base) (U_joined base)
  have U_onto : ∀ base : Heap, FnU P w K mg base (TT C) 10 "onto" fd_onto := fun base => ok_onto F (U_check_points base) (U_line base)
  have U_square_to : ∀ base : Heap, FnU P w K mg base (TT C) 10 "square_to" fd_square_to := fun base => ok_square_to F (U_check_lines base) (U_check_points base) (U_line base)
  have U__creases : ∀ base : Heap, FnU P w K mg base (TT C) 14 "_creases" fd__creases := fun base => ok__creases F (U_in_sheet base) (U_lays base) (U_meets base) (U_onto base) (U_square_to base) (U_through base)
  have U_after_folds : ∀ base : Heap, FnU P w K mg base (TT C) 16 "after_folds" fd_after_folds := fun base => ok_after_folds F (U__creases base) (U_in_sheet base) (U_is_integer base) (U_meets base)
  have U__law_meets : ∀ base : Heap, FnU P w K mg base (TT C) 12 "_law_meets" fd__law_meets := fun base => ok__law_meets F (U_cross base) (U_in_sheet base)
  have U__law_crease : ∀ base : Heap, FnU P w K mg base (TT C) 14 "_law_crease" fd__law_crease := fun base => ok__law_crease F (U__law_meets base) (U_lays base) (U_onto base) (U_square_to base) (U_through base)
  have U__law_refused : ∀ base : Heap, FnU P w K mg base (TT C) 18 "_law_refused" fd__law_refused := fun base => ok__law_refused F (U_after_folds base)
  exact okl F U__law_crease U__law_draws U__law_meets U__law_refused U_after_folds U_in_sheet
/-- the script, as the law is handed it -/
theorem start_scr {K : PySem.W.Frag} {C : Str → Addr} {H : Hp} {a : Addr} {ns : List Int} (h : SqL K H a (ns.map V.int)) : RlL K C H (fun _ => True) [.scr ns] [.ref a] := by
  refine ⟨_, _, rfl, ⟨a, rfl, ?_⟩, rfl⟩
  rcases h with (h | ⟨o, h⟩) | h
  · exact .inl ⟨trivial, h⟩
  · exact .inr (.inl ⟨o, h⟩)
  · exact .inr (.inr h)
end G
open PySem PySem.W PySem.Calls PyProof.Rows
theorem PySem.Challenge.cw_creasewrit_k64_what_few_folds_find_holds : PySem.Challenge.rw_creasewrit_k64_what_few_folds_find.Holds := by
  w_on; o_law
  refine HandSHeadRun.head_any (r := OpenLaw.row PySem.Challenge.rw_creasewrit_k64_what_few_folds_find) (q := view (OpenLaw.row PySem.Challenge.rw_creasewrit_k64_what_few_folds_find).prog [35]) (H := G.hk) (ob := G.ob) (M := 20000) (loose := G.loose) (d := HandSHeadRun.topDef (OpenLaw.row PySem.Challenge.rw_creasewrit_k64_what_few_folds_find).prog 35) (kwd := []) G.ob_eq
    (by kernel_rfl) (fun s => by kernel_rfl) G.run (by kernel_rfl) (by kernel_rfl) (by kernel_rfl) (by rfl) (by first | assumption | decide +kernel) (by decide +kernel) ⟨rfl, rfl, rfl, rfl, rfl, by decide +kernel⟩ ?hw ?hc
  case hw => w_witness2
  case hc =>
    refine L2.walk_ofE (l := PySem.Challenge.rw_creasewrit_k64_what_few_folds_find) (n := 63) (k := 20) (x := "script") (CX := Mi.CXw) rfl (by decide) (by kernel_rfl) ⟨rfl, by decide, by decide⟩ ?F Mi.cxw_no
    intro w mg fa h Y Gn hmg0
    obtain ⟨K, KX, cx⟩ := Y
    have hmg : mg ("law" : PySem.Str) = some (.ref fa) := by
      have e : (HandSHeadRun.topDef (OpenLaw.row PySem.Challenge.rw_creasewrit_k64_what_few_folds_find).prog 35).name = ("law" : PySem.Str) := by kernel_rfl
      rw [← e]
      exact hmg0
    obtain ⟨f, fd, hf, hb, hF⟩ := G.all (P := (PySem.Challenge.rw_creasewrit_k64_what_few_folds_find).prog) (w := w) (G.facts KX Gn cx)
    rw [hmg] at hf
    cases hf
    refine ⟨K, fd, Mi.spF K (G.TT (He.ga K)) G.fd_law, KX, hb, fun H a ns hl _ hS => ⟨_, _, G.start_scr hS, ?_⟩, fun base _ _ => Mi.fnok_cx (hF base)⟩
    rw [G.law_true ns hl]
    exact fun v H' _ r => r

