import PyProof.Rows.All
import Wide.All
import OpenK.AllK
import Wide.FinOn
import HandS.ForMost
import HandS.Deep
import HandS.TupAny
import HandS.IsInst
import HandS.Zip
import HandS.SortInts
import HandS.DictComp
import HandS.TupMul
import HandS.SetFor
import KE.SortData
import KE.DataMinMax
import KE.DataCmp
import HandS.Small
import HandS.Strs
import KE.GoesEnum
import KE.GoesMore
import HandS.Walk
import HandS.Conv
import HandS.Style
import HandS.NoneIn
import KE.Datum
import KE.DatumOrd
import PySem.Challenge.RW_hiddenforks_k73_whole_somebody
set_option Elab.async false
set_option linter.all false
set_option autoImplicit false
set_option maxRecDepth 100000
namespace Q
open PySem L2

abbrev D := PyData

/-- what a node is: a dict by its keys, an instance by its class and its fields -/
inductive Kind where
  | dK (ks : List Key)
  | dT (ks : List (List Key))
  | obj (c : Str) (fs : List Str)
/-- owned trees -/
inductive MV where
  | val (d : D)
  | lst (ms : List MV)
  | nd (k : Kind) (ms : List MV)

def keyD : Key → D
  | .inl i => .int i
  | .inr x => .str x
def kindD : Kind → D
  | .dK ks => .tuple [.int 0, .list (ks.map keyD)]
  | .dT ks => .tuple [.int 1, .list (ks.map fun k => .tuple (k.map keyD))]
  | .obj c fs => .tuple [.int 2, .str c, .list (fs.map .str)]
/-- a node as data: nothing but its parts can be read of it -/
def ndD (k : Kind) (ds : List D) : D := .dict ((.none, kindD k) :: ds.map fun d => (.none, d))

mutual
def freeze : MV → D
  | .val d => d
  | .lst ms => .list (freezes ms)
  | .nd k ms => ndD k (freezes ms)
def freezes : List MV → List D
  | [] => []
  | m :: ms => freeze m :: freezes ms
end

def isVal : MV → Bool
  | .val _ => true
  | _ => false
inductive Fl where
  | val | shal | deep
  deriving DecidableEq
def flagOf : MV → Fl
  | .val _ => .val
  | .lst ms => if ms.all isVal then .shal else .deep
  | .nd _ _ => .deep

/-- what is borrowed: data with its flag, or a tree -/
inductive Bf where
  | fl (f : Fl)
  | tree (m : MV)
inductive Slot where
  | unset
  | own (m : MV)
  | io (m : MV)
  | lck (m : MV)
  | bor (b : Bf) (d : D)
abbrev Env := List Slot

def flat : D → Bool
  | .none => true
  | .bool _ => true
  | .int _ => true
  | .str _ => true
  | _ => false
def childFl (fl : Fl) (c : D) : Fl := match fl with
  | .deep => if flat c then .val else .deep
  | _ => .val

inductive BOp where
  | add | sub | mul | fdiv | mod | pow
inductive COp where
  | eq | ne | lt | le | gt | ge | isin | notin | ltD
inductive Ty where
  | int | bool | str | list | tuple
inductive Blt where
  | len | abs | int | min2 | max2 | list | tuple | all | any | isi (tys : List Ty) | sorted | min1 | max1 | sortD | minD | maxD

/-- methods of lists and dicts that change them -/
inductive MOp where
  | app | ext | pop | popI
/-- what is made of data by several words at once -/
inductive Ext where
  | sset | lset | lrng1 | lrng2 | trng1 | trng2 | rev | rev2
inductive Tg where
  | name (i : Nat)
  | tup (ts : List Tg)

inductive Mode where
  | v | d | io

/-- a call with keywords: the def, how many by position, the keywords, where each parameter's value stands, how each is handed -/
structure KwI where
  j : Nat
  np : Nat
  ks : List Str
  perm : List Nat
  ms : List Mode

mutual
inductive E where
  | var (i : Nat)
  | cst (d : D)
  | gl (k : Nat)
  | tup (es : List E)
  | lst (es : List E)
  | bin (op : BOp) (a b : E)
  | neg (a : E)
  | cmp (op : COp) (a b : E)
  | chn (o1 o2 : COp) (a b c : E)
  | isN (a : E)
  | notN (a : E)
  | and (a b : E)
  | or (a b : E)
  | not (a : E)
  | ite (c a b : E)
  | idx (a b : E)
  | slc (a : E) (lo hi : Option E)
  | call (j : Nat) (args : List E)
  | callK (i : Nat) (args : List E)
  | callT (j : Nat) (a : E)
  | blt (f : Blt) (args : List E)
  | comp (elt : E) (tg : Tg) (it : It) (cond : Option E) (own : List Nat)
  | fld (a : E) (f : Str)
  | mop (op : MOp) (p : E) (args : List E)
  | ext (f : Ext) (args : List E)
  | comp2 (elt : E) (tg : Tg) (it : It) (tg1 : Tg) (k1 : Nat) (a1 : E) (b1 : Option E) (cond : Option E) (own own1 : List Nat)
  | dct (ks : List Key) (es : List E)
  | dnew (t : Bool)
  | dctV (kvs : List (Nat × Nat))
  | dcomp (ke ve : E) (tg : Tg) (it : It) (own : List Nat)
  | inT (neg : Bool) (k p : E)
  | lenT (p : E)
  | getT (p k df : E)
  | callM (j : Nat) (m : Str) (args : List E)
  | callD (j : Nat) (args : List E)
  | new (c : Str) (j : Nat) (args : List E)
  | mv (i : Nat)
  | callF (j : Nat) (m : Str) (r : E) (args : List E)
  | mk (c : Str) (j : Nat) (args : List E)
  | frz (a : E)
inductive It where
  | seq (e : E)
  | rng1 (a : E)
  | rng2 (a b : E)
  | enum (a : E)
  | zip (a b : E)
end

inductive S where
  | pass
  | ret (e : E)
  | retN
  | asg (tg : Tg) (e : E)
  | par (i j : Nat) (a b : E)
  | setI (x : Nat) (ix e : E)
  | app (x : Nat) (e : E)
  | expr (e : E)
  | aug (i : Nat) (op : BOp) (e : E)
  | ifs (c : E) (a b : List S)
  | forS (tg : Tg) (it : It) (body : List S)
  | whil (fuel : Nat) (c : E) (body : List S)
  | putT (p k e : E)
  | fldT (c : Str) (p : E) (f : Str) (e : E)
  | fldsT (i : Nat) (fs : List Str) (e : E)
  | stuck
  | forget (is : List Nat)
  | frzV (i : Nat)
  | parN (is : List Nat) (es : List E)

structure CtxQ where
  call : Nat → Env → Option (MV × Env)
  modes : Nat → List Mode
  glob : Nat → Option D
  kws : List KwI
  cls : Nat → Option Str
  dfl : Nat → List D

/-! ### operations on data -/
abbrev big : Int := 18446744073709551616
abbrev nSeq : Nat := sizeLine
def items? : D → Option (List D)
  | .list xs => some xs
  | .tuple xs => some xs
  | _ => none
def binR (op : BOp) (d1 : D) (f1 : Fl) (d2 : D) (f2 : Fl) : Option MV :=
  match op, d1, d2 with
  | .add, .int i, .int j => some (.val (.int (i + j)))
  | .sub, .int i, .int j => some (.val (.int (i - j)))
  | .mul, .int i, .int j => if (-big < i && i < big) || (-big < j && j < big) then some (.val (.int (i * j))) else none
  | .fdiv, .int i, .int j => if 0 < j && j < 1073741824 then some (.val (.int (i / j))) else none
  | .mod, .int i, .int j => if 0 < j then some (.val (.int (i % j))) else none
  | .pow, .int i, .int j => if 0 ≤ j && j ≤ 1000 && -big < i && i < big then some (.val (.int (i ^ j.toNat))) else none
  | .add, .str x, .str y => if x.length + y.length ≤ nSeq then some (.val (.str (x ++ y))) else none
  | .add, .tuple xs, .tuple ys => if xs.length + ys.length ≤ nSeq && (f1 != .deep && f2 != .deep) then some (.val (.tuple (xs ++ ys))) else none
  | .add, .list xs, .list ys => if xs.length + ys.length ≤ nSeq && (f1 != .deep && f2 != .deep) then some (.lst ((xs ++ ys).map .val)) else none
  | .mul, .list xs, .int k => if xs.length * k.toNat ≤ nSeq && -(2 ^ 63) ≤ k && k < 2 ^ 63 && f1 != .deep then some (.lst ((List.replicate k.toNat xs).flatten.map .val)) else none
  | .mul, .tuple xs, .int k => if !xs.isEmpty && 2 ≤ k && k ≤ 1000 && xs.length ≤ 1000 && f1 != .deep then some (.val (.tuple (List.replicate k.toNat xs).flatten)) else none
  | _, _, _ => none
end Q
namespace Q
open PySem L2

def KT (K : PySem.W.Frag) (a : Addr) (xs : List V) : Prop :=
  ∃ (o : Obj) (its : Array Value) (n : Nat), K.lookup a = some o ∧ o.cls = .type "tuple" ∧ o.data = .seq its n ∧ its.size ≤ sizeLine ∧ Vals xs its.toList
def KLx (K : PySem.W.Frag) (a : Addr) (xs : List V) : Prop :=
  ∃ (its : List Value) (n : Nat), K.lookup a = some { cls := .type "list", data := .seq its.toArray n } ∧ Vals xs its ∧ xs.length ≤ sizeLine
/-- a list that is read: tracked, frozen, or the module's -/
def RL (K : PySem.W.Frag) (H : Hp) (a : Addr) (xs : List V) : Prop := Rd H a (.lst xs) ∨ KLx K a xs
theorem RL.sq {K : PySem.W.Frag} {H : Hp} {a : Addr} {xs : List V} (h : RL K H a xs) : SqL K H a xs := by
  rcases h with h | ⟨its, n, e, r, l⟩
  · exact .inl h
  · exact .inr ⟨_, its.toArray, n, e, rfl, rfl, rfl, by rw [List.size_toArray, ← r.length]; exact l, by simpa using r⟩
def LsA (K : PySem.W.Frag) (A : Addr → Prop) (H : Hp) (a : Addr) (xs : List V) : Prop := (Rd H a (.lst xs) ∧ ¬ A a) ∨ KLx K a xs
theorem LsA.rl {K : PySem.W.Frag} {A : Addr → Prop} {H : Hp} {a : Addr} {xs : List V} (h : LsA K A H a xs) : RL K H a xs := by
  rcases h with h | h
  · exact .inl h.1
  · exact .inr h
def TpA (K : PySem.W.Frag) (A : Addr → Prop) (H : Hp) (a : Addr) (xs : List V) : Prop := (Rd H a (.tup xs) ∧ ¬ A a) ∨ KT K a xs
theorem LsA.sq {K : PySem.W.Frag} {A : Addr → Prop} {H : Hp} {a : Addr} {xs : List V} (h : LsA K A H a xs) : SqL K H a xs := h.rl.sq
theorem TpA.sq {K : PySem.W.Frag} {A : Addr → Prop} {H : Hp} {a : Addr} {xs : List V} (h : TpA K A H a xs) : SqT K H a xs := by
  rcases h with h | h
  · exact .inl h.1
  · exact .inr h

/-- the class of a name, in the written part -/
def KCls (K : PySem.W.Frag) (c : Str) (C : Addr) : Prop := PySem.W.nsIn K mainGlobals c = some (some (.ref C))
/-- a node's object, its parts xs -/
def NodeO (K : PySem.W.Frag) (k : Kind) (xs : List V) (o : HO) : Prop := match k with
  | .dK ks => ks.length = xs.length ∧ ks.Nodup ∧ o = .dK (ks.zip xs)
  | .dT ks => ks.length = xs.length ∧ ks.Nodup ∧ o = .dT (ks.zip xs)
  | .obj c fs => fs.length = xs.length ∧ fs.Nodup ∧ ∃ C dx, KCls K c C ∧ o = .ins C dx (fs.zip xs) ∧ Cls K C ∧ ∀ f ∈ fs, NoAttr K C f

mutual
inductive Rep (K : PySem.W.Frag) (A : Addr → Prop) (H : Hp) : V → D → Prop
  | non : Rep K A H .non .none
  | bl (b : Bool) : Rep K A H (.bl b) (.bool b)
  | int (i : Int) : Rep K A H (.int i) (.int i)
  | str (x : Str) : Rep K A H (.str x) (.str x)
  | lst {a : Addr} {xs : List V} {ds : List D} : LsA K A H a xs → Reps K A H xs ds → Rep K A H (.ref a) (.list ds)
  | tup {a : Addr} {xs : List V} {ds : List D} : TpA K A H a xs → Reps K A H xs ds → Rep K A H (.ref a) (.tuple ds)
  | nd {k : Kind} {a : Addr} {o : HO} {xs : List V} {ds : List D} : H a = some o → NodeO K k xs o → ¬ A a → Reps K A H xs ds → Rep K A H (.ref a) (ndD k ds)
inductive Reps (K : PySem.W.Frag) (A : Addr → Prop) (H : Hp) : List V → List D → Prop
  | nil : Reps K A H [] []
  | cons {v : V} {vs : List V} {d : D} {ds : List D} : Rep K A H v d → Reps K A H vs ds → Reps K A H (v :: vs) (d :: ds)
end

theorem Rd.keepTo {H H' : Hp} {a : Addr} {u : HO} (h : Rd H a u) (k : ∀ o, H a = some o → H' a = some o) : Rd H' a u := by
  rcases h with h | ⟨o, h⟩
  · exact .inl (k _ h)
  · exact .inr ⟨o, k _ h⟩
theorem Rd.there {H : Hp} {a : Addr} {u : HO} (h : Rd H a u) : H a ≠ none := by
  rcases h with h | ⟨o, h⟩ <;> rw [h] <;> simp

section
variable {K : PySem.W.Frag} {A A' : Addr → Prop} {H H' : Hp}
theorem LsA.step (k : ∀ b o, H b = some o → ¬ A b → H' b = some o) (n : ∀ b, A' b → A b ∨ H b = none) {a : Addr} {xs : List V} (h : LsA K A H a xs) : LsA K A' H' a xs := by
  rcases h with ⟨h, na⟩ | h
  · refine .inl ⟨Rd.keepTo h fun o e => k _ o e na, fun x => ?_⟩
    rcases n _ x with y | y
    · exact na y
    · exact Rd.there h y
  · exact .inr h
theorem TpA.step (k : ∀ b o, H b = some o → ¬ A b → H' b = some o) (n : ∀ b, A' b → A b ∨ H b = none) {a : Addr} {xs : List V} (h : TpA K A H a xs) : TpA K A' H' a xs := by
  rcases h with ⟨h, na⟩ | h
  · refine .inl ⟨Rd.keepTo h fun o e => k _ o e na, fun x => ?_⟩
    rcases n _ x with y | y
    · exact na y
    · exact Rd.there h y
  · exact .inr h
mutual
theorem Rep.step (k : ∀ b o, H b = some o → ¬ A b → H' b = some o) (n : ∀ b, A' b → A b ∨ H b = none) : ∀ {v : V} {d : D}, Rep K A H v d → Rep K A' H' v d
  | _, _, .non => .non
  | _, _, .bl b => .bl b
  | _, _, .int i => .int i
  | _, _, .str x => .str x
  | _, _, .lst h r => .lst (h.step k n) (Reps.step k n r)
  | _, _, .tup h r => .tup (h.step k n) (Reps.step k n r)
  | _, _, .nd h q na r => .nd (k _ _ h na) q (fun x => by
      rcases n _ x with y | y
      · exact na y
      · rw [h] at y; cases y) (Reps.step k n r)
theorem Reps.step (k : ∀ b o, H b = some o → ¬ A b → H' b = some o) (n : ∀ b, A' b → A b ∨ H b = none) : ∀ {v : List V} {d : List D}, Reps K A H v d → Reps K A' H' v d
  | _, _, .nil => .nil
  | _, _, .cons a b => .cons (Rep.step k n a) (Reps.step k n b)
end
theorem Rep.mono (h : ∀ b, A' b → A b) {v : V} {d : D} (r : Rep K A H v d) : Rep K A' H v d := r.step (fun _ _ e _ => e) fun b x => .inl (h b x)
theorem Reps.mono (h : ∀ b, A' b → A b) {v : List V} {d : List D} (r : Reps K A H v d) : Reps K A' H v d := r.step (fun _ _ e _ => e) fun b x => .inl (h b x)
theorem Reps.length : ∀ {vs : List V} {ds : List D}, Reps K A H vs ds → vs.length = ds.length
  | _, _, .nil => rfl
  | _, _, .cons _ b => by simp [Reps.length b]
theorem Reps.get : ∀ {vs : List V} {ds : List D} {i : Nat} {d : D}, Reps K A H vs ds → ds[i]? = some d → ∃ v, vs[i]? = some v ∧ Rep K A H v d
  | _, _, _, _, .nil, e => by simp at e
  | _, _, 0, _, .cons a b, e => by simp at e; subst e; exact ⟨_, rfl, a⟩
  | _, _, i + 1, d, .cons a b, e => by
    obtain ⟨v, h1, h2⟩ := Reps.get (i := i) (d := d) b (by simpa using e)
    exact ⟨v, by simpa using h1, h2⟩
theorem Reps.getv : ∀ {vs : List V} {ds : List D} {i : Nat} {v : V}, Reps K A H vs ds → vs[i]? = some v → ∃ d, ds[i]? = some d ∧ Rep K A H v d
  | _, _, _, _, .nil, e => by simp at e
  | _, _, 0, _, .cons a b, e => by simp at e; subst e; exact ⟨_, rfl, a⟩
  | _, _, i + 1, d, .cons a b, e => by
    obtain ⟨v, h1, h2⟩ := Reps.getv (i := i) (v := d) b (by simpa using e)
    exact ⟨v, by simpa using h1, h2⟩
theorem Reps.append : ∀ {vs ws : List V} {ds es : List D}, Reps K A H vs ds → Reps K A H ws es → Reps K A H (vs ++ ws) (ds ++ es)
  | _, _, _, _, .nil, s => s
  | _, _, _, _, .cons r t, s => .cons r (Reps.append t s)
theorem Reps.take : ∀ {vs : List V} {ds : List D} (n : Nat), Reps K A H vs ds → Reps K A H (vs.take n) (ds.take n)
  | _, _, 0, _ => .nil
  | _, _, _ + 1, .nil => .nil
  | _, _, n + 1, .cons r t => .cons r (Reps.take n t)
theorem Reps.drop : ∀ {vs : List V} {ds : List D} (n : Nat), Reps K A H vs ds → Reps K A H (vs.drop n) (ds.drop n)
  | _, _, 0, h => h
  | _, _, _ + 1, .nil => .nil
  | _, _, n + 1, .cons r t => Reps.drop n t
theorem Reps.set {v : V} {d : D} (r : Rep K A H v d) : ∀ {vs : List V} {ds : List D} (i : Nat), Reps K A H vs ds → Reps K A H (vs.set i v) (ds.set i d)
  | _, _, _, .nil => .nil
  | _, _, 0, .cons _ t => .cons r t
  | _, _, i + 1, .cons q t => .cons q (Reps.set r i t)
/- data of the kit -/
mutual
def plainD : D → Bool
  | .list xs => plainDs xs
  | .tuple xs => plainDs xs
  | .dict _ => false
  | _ => true
def plainDs : List D → Bool
  | [] => true
  | x :: xs => plainD x && plainDs xs
end
mutual
theorem Rep.dp : ∀ {v : V} {d : D}, plainD d = true → Rep K A H v d → Dp K H v d
  | _, _, _, .non => .non
  | _, _, _, .bl b => .bl b
  | _, _, _, .int i => .int i
  | _, _, _, .str x => .str x
  | _, _, p, .lst h r => .lst h.sq (Reps.dp (by simpa [plainD] using p) r)
  | _, _, p, .tup h r => .tup h.sq (Reps.dp (by simpa [plainD] using p) r)
  | _, _, p, .nd h q na r => by simp [plainD, ndD] at p
theorem Reps.dp : ∀ {v : List V} {d : List D}, plainDs d = true → Reps K A H v d → DpAll K H v d
  | _, _, _, .nil => .nil
  | _, _, p, .cons a b => by
    have p' := p
    simp [plainDs] at p'
    exact .cons (Rep.dp p'.1 a) (Reps.dp p'.2 b)
end

/-! ### owned trees -/
mutual
inductive Own (K : PySem.W.Frag) (A : Addr → Prop) (H : Hp) : MV → V → List Addr → Prop
  | val {d : D} {v : V} : Rep K A H v d → Own K A H (.val d) v []
  | lst {a : Addr} {xs : List V} {ms : List MV} {T : List Addr} : H a = some (.lst xs) → A a → Owns K A H ms xs T → Own K A H (.lst ms) (.ref a) (a :: T)
  | nd {k : Kind} {a : Addr} {o : HO} {xs : List V} {ms : List MV} {T : List Addr} : H a = some o → NodeO K k xs o → A a → Owns K A H ms xs T → Own K A H (.nd k ms) (.ref a) (a :: T)
inductive Owns (K : PySem.W.Frag) (A : Addr → Prop) (H : Hp) : List MV → List V → List Addr → Prop
  | nil : Owns K A H [] [] []
  | cons {m : MV} {v : V} {T : List Addr} {ms : List MV} {vs : List V} {T' : List Addr} : Own K A H m v T → Owns K A H ms vs T' → Owns K A H (m :: ms) (v :: vs) (T ++ T')
end
mutual
theorem Own.step (k : ∀ b o, H b = some o → ¬ A b → H' b = some o) (n : ∀ b, A' b → A b ∨ H b = none) : ∀ {m : MV} {v : V} {T : List Addr}, (∀ b ∈ T, (∀ o, H b = some o → H' b = some o) ∧ A' b) → Own K A H m v T → Own K A' H' m v T
  | _, _, _, _, .val r => .val (r.step k n)
  | _, _, _, kT, .lst h a r => .lst ((kT _ List.mem_cons_self).1 _ h) (kT _ List.mem_cons_self).2 (Owns.step k n (fun b hb => kT b (List.mem_cons_of_mem _ hb)) r)
  | _, _, _, kT, .nd h q a r => .nd ((kT _ List.mem_cons_self).1 _ h) q (kT _ List.mem_cons_self).2 (Owns.step k n (fun b hb => kT b (List.mem_cons_of_mem _ hb)) r)
theorem Owns.step (k : ∀ b o, H b = some o → ¬ A b → H' b = some o) (n : ∀ b, A' b → A b ∨ H b = none) : ∀ {m : List MV} {v : List V} {T : List Addr}, (∀ b ∈ T, (∀ o, H b = some o → H' b = some o) ∧ A' b) → Owns K A H m v T → Owns K A' H' m v T
  | _, _, _, _, .nil => .nil
  | _, _, _, kT, .cons a b => .cons (Own.step k n (fun b hb => kT b (List.mem_append_left _ hb)) a) (Owns.step k n (fun b hb => kT b (List.mem_append_right _ hb)) b)
end
mutual
theorem Own.sub : ∀ {m : MV} {v : V} {T : List Addr}, Own K A H m v T → ∀ b ∈ T, A b ∧ H b ≠ none
  | _, _, _, .val r => fun _ h => nomatch h
  | _, _, _, .lst h a r => fun b hb => by
    rcases List.mem_cons.mp hb with rfl | hb
    · exact ⟨a, by rw [h]; simp⟩
    · exact Owns.sub r b hb
  | _, _, _, .nd h q a r => fun b hb => by
    rcases List.mem_cons.mp hb with rfl | hb
    · exact ⟨a, by rw [h]; simp⟩
    · exact Owns.sub r b hb
theorem Owns.sub : ∀ {m : List MV} {v : List V} {T : List Addr}, Owns K A H m v T → ∀ b ∈ T, A b ∧ H b ≠ none
  | _, _, _, .nil => fun _ h => nomatch h
  | _, _, _, .cons a r => fun b hb => by
    rcases List.mem_append.mp hb with hb | hb
    · exact Own.sub a b hb
    · exact Owns.sub r b hb
end
mutual
theorem Own.freeze (n : ∀ b, A' b → A b) : ∀ {m : MV} {v : V} {T : List Addr}, (∀ b ∈ T, ¬ A' b) → Own K A H m v T → Rep K A' H v (freeze m)
  | _, _, _, _, .val r => by unfold Q.freeze; exact r.mono n
  | _, _, _, nT, .lst h a r => by
    unfold Q.freeze
    exact .lst (.inl ⟨.inl h, nT _ List.mem_cons_self⟩) (Owns.freeze n (fun b hb => nT b (List.mem_cons_of_mem _ hb)) r)
  | _, _, _, nT, .nd h q a r => by
    unfold Q.freeze
    exact .nd h q (nT _ List.mem_cons_self) (Owns.freeze n (fun b hb => nT b (List.mem_cons_of_mem _ hb)) r)
theorem Owns.freeze (n : ∀ b, A' b → A b) : ∀ {m : List MV} {v : List V} {T : List Addr}, (∀ b ∈ T, ¬ A' b) → Owns K A H m v T → Reps K A' H v (freezes m)
  | _, _, _, _, .nil => by unfold freezes; exact .nil
  | _, _, _, nT, .cons a r => by
    unfold freezes
    exact .cons (Own.freeze n (fun b hb => nT b (List.mem_append_left _ hb)) a) (Owns.freeze n (fun b hb => nT b (List.mem_append_right _ hb)) r)
end
theorem Owns.ofReps : ∀ {vs : List V} {ds : List D}, Reps K A H vs ds → Owns K A H (ds.map .val) vs []
  | _, _, .nil => .nil
  | _, _, .cons a b => Owns.cons (T := []) (.val a) (Owns.ofReps b)
theorem Owns.vals : ∀ {ms : List MV} {vs : List V} {T : List Addr}, ms.all isVal = true → Owns K A H ms vs T → T = [] ∧ Reps K A H vs (freezes ms)
  | _, _, _, _, .nil => ⟨rfl, by unfold freezes; exact .nil⟩
  | _, _, _, h, .cons a b => by
    simp only [List.all_cons, Bool.and_eq_true] at h
    obtain ⟨e, r⟩ := Owns.vals h.2 b
    cases a with
    | val q => subst e; exact ⟨rfl, by unfold freezes Q.freeze; exact .cons q r⟩
    | lst _ _ _ => simp [isVal] at h
    | nd _ _ _ _ => simp [isVal] at h
end
end Q
namespace Q
open PySem L2

abbrev AP := Addr → Prop

/-- a value that is looked at: as it may be kept, or only looked at (S: what may change) -/
def PkR (K : PySem.W.Frag) (A S : AP) (H : Hp) (fl : Fl) (d : D) (v : V) : Prop := match fl with
  | .val => Rep K A H v d
  | .shal => Rep K A H v d ∨ ∃ a xs ds, v = .ref a ∧ d = .list ds ∧ H a = some (.lst xs) ∧ ¬ S a ∧ Reps K A H xs ds
  | .deep => Rep K S H v d

/-! a borrowed tree: its places do not change, its data may be kept -/
mutual
inductive Bt (K : PySem.W.Frag) (A S : AP) (H : Hp) : MV → V → Prop
  | val {d : D} {v : V} : Rep K A H v d → Bt K A S H (.val d) v
  | lst {a : Addr} {xs : List V} {ms : List MV} : H a = some (.lst xs) → ¬ S a → Bts K A S H ms xs → Bt K A S H (.lst ms) (.ref a)
  | nd {k : Kind} {a : Addr} {o : HO} {xs : List V} {ms : List MV} : H a = some o → NodeO K k xs o → ¬ S a → Bts K A S H ms xs → Bt K A S H (.nd k ms) (.ref a)
inductive Bts (K : PySem.W.Frag) (A S : AP) (H : Hp) : List MV → List V → Prop
  | nil : Bts K A S H [] []
  | cons {m : MV} {v : V} {ms : List MV} {vs : List V} : Bt K A S H m v → Bts K A S H ms vs → Bts K A S H (m :: ms) (v :: vs)
end
def BfR (K : PySem.W.Frag) (A S : AP) (H : Hp) (b : Bf) (d : D) (v : V) : Prop := match b with
  | .fl f => PkR K A S H f d v
  | .tree m => d = freeze m ∧ Bt K A S H m v
inductive SlotR (K : PySem.W.Frag) (A S : AP) (H : Hp) : Slot → Option V → List Addr → Prop
  | unset {o : Option V} : SlotR K A S H .unset o []
  | own {m : MV} {v : V} {T : List Addr} : Own K A H m v T → SlotR K A S H (.own m) (some v) T
  | io {m : MV} {v : V} {T : List Addr} : Own K A H m v T → SlotR K A S H (.io m) (some v) T
  | lck {m : MV} {v : V} {T : List Addr} : Own K A H m v T → SlotR K A S H (.lck m) (some v) T
  | bor {b : Bf} {d : D} {v : V} : BfR K A S H b d v → SlotR K A S H (.bor b d) (some v) []

abbrev TSet := Nat → List Addr
def TSet.up (TS : TSet) (i : Nat) (T : List Addr) : TSet := fun j => if j = i then T else TS j
theorem TSet.up_same {TS : TSet} {i : Nat} {T : List Addr} : TSet.up TS i T i = T := if_pos rfl
theorem TSet.up_ne {TS : TSet} {i j : Nat} {T : List Addr} (h : j ≠ i) : TSet.up TS i T j = TS j := if_neg h

/-- a state: what is owned, the heap, the slots as trees, the slots as values, the places of each slot's tree -/
structure Z where
  A : AP
  H : Hp
  ρ : Env
  σ : St
  TS : TSet
def Lk (ρ : Env) (i : Nat) : Prop := ∃ m, ρ[i]? = some (Slot.lck m)
/-- what may change -/
def Z.S (z : Z) : AP := fun a => ∃ i, a ∈ z.TS i ∧ ¬ Lk z.ρ i

structure Rel (K : PySem.W.Frag) (z : Z) : Prop where
  len : z.ρ.length = z.σ.length
  slot : ∀ i s, z.ρ[i]? = some s → ∃ o, z.σ[i]? = some o ∧ SlotR K z.A z.S z.H s o (z.TS i)
  out : ∀ i, z.ρ[i]? = none → z.TS i = []
  nd : ∀ i, (z.TS i).Nodup
  dj : ∀ i j a, a ∈ z.TS i → a ∈ z.TS j → i = j
  trk : ∀ a, z.A a → z.H a ≠ none

/-- from one state to a later one -/
structure Fr (A : AP) (S : AP) (H : Hp) (A' : AP) (S' : AP) (H' : Hp) : Prop where
  keep : ∀ b o, H b = some o → ¬ S b → H' b = some o
  newA : ∀ a, A' a → A a ∨ H a = none
  newS : ∀ a, S' a → S a ∨ H a = none
  keepA : ∀ a, A a → ¬ S a → A' a
  there : ∀ b, H' b = none → H b = none

theorem Fr.refl {A S : AP} {H : Hp} : Fr A S H A S H := ⟨fun _ _ e _ => e, fun _ h => .inl h, fun _ h => .inl h, fun _ h _ => h, fun _ h => h⟩
theorem Fr.nS {A S A1 S1 : AP} {H H1 : Hp} (a : Fr A S H A1 S1 H1) {x : Addr} (e : H x ≠ none) (n : ¬ S x) : ¬ S1 x := fun h => by
  rcases a.newS x h with z | z
  · exact n z
  · exact e z
theorem Fr.trans {A S A1 S1 A2 S2 : AP} {H H1 H2 : Hp} (hA : ∀ a, A a → H a ≠ none) (a : Fr A S H A1 S1 H1) (b : Fr A1 S1 H1 A2 S2 H2) : Fr A S H A2 S2 H2 := by
  have nS1 : ∀ x o, H x = some o → ¬ S x → ¬ S1 x := fun x o e n => a.nS (by rw [e]; simp) n
  refine ⟨fun x o e n => b.keep x o (a.keep x o e n) (nS1 x o e n), fun x h => ?_, fun x h => ?_, fun x h n => ?_, fun x h => a.there x (b.there x h)⟩
  · rcases b.newA x h with z | z
    · exact a.newA x z
    · exact .inr (a.there x z)
  · rcases b.newS x h with z | z
    · exact a.newS x z
    · exact .inr (a.there x z)
  · exact b.keepA x (a.keepA x h n) (a.nS (hA x h) n)

section
variable {K : PySem.W.Frag} {A A' S S' : AP} {H H' : Hp}
theorem Rep.fr (hSA : ∀ a, S a → A a) (f : Fr A S H A' S' H') {v : V} {d : D} (r : Rep K A H v d) : Rep K A' H' v d :=
  r.step (fun b o e n => f.keep b o e fun h => n (hSA b h)) f.newA
theorem Reps.fr (hSA : ∀ a, S a → A a) (f : Fr A S H A' S' H') {v : List V} {d : List D} (r : Reps K A H v d) : Reps K A' H' v d :=
  r.step (fun b o e n => f.keep b o e fun h => n (hSA b h)) f.newA
theorem Rep.frS (f : Fr A S H A' S' H') {v : V} {d : D} (r : Rep K S H v d) : Rep K S' H' v d :=
  r.step (fun b o e n => f.keep b o e n) f.newS
theorem Own.fr (hSA : ∀ a, S a → A a) (f : Fr A S H A' S' H') {m : MV} {v : V} {T : List Addr} (hT : ∀ b ∈ T, ¬ S b) (r : Own K A H m v T) : Own K A' H' m v T :=
  r.step (fun b o e n => f.keep b o e fun h => n (hSA b h)) f.newA fun b hb => ⟨fun o e => f.keep b o e (hT b hb), f.keepA b (r.sub b hb).1 (hT b hb)⟩
theorem PkR.fr (hSA : ∀ a, S a → A a) (f : Fr A S H A' S' H') {fl : Fl} {v : V} {d : D} (r : PkR K A S H fl d v) : PkR K A' S' H' fl d v := by
  cases fl with
  | val => exact Rep.fr hSA f r
  | shal =>
    rcases r with r | ⟨a, xs, ds, e1, e2, h, n, q⟩
    · exact .inl (Rep.fr hSA f r)
    · exact .inr ⟨a, xs, ds, e1, e2, f.keep a _ h n, f.nS (by rw [h]; simp) n, q.fr hSA f⟩
  | deep => exact Rep.frS f r
theorem PkR.lessS (h : ∀ a, S' a → S a) {fl : Fl} {v : V} {d : D} (r : PkR K A S H fl d v) : PkR K A S' H fl d v := by
  cases fl with
  | val => exact r
  | shal =>
    rcases r with r | ⟨a, xs, ds, e1, e2, q, n, z⟩
    · exact .inl r
    · exact .inr ⟨a, xs, ds, e1, e2, q, fun y => n (h a y), z⟩
  | deep => exact Rep.mono h r
theorem PkR.lessA (h : ∀ a, A' a → A a) {fl : Fl} {v : V} {d : D} (r : PkR K A S H fl d v) : PkR K A' S H fl d v := by
  cases fl with
  | val => exact Rep.mono h r
  | shal =>
    rcases r with r | ⟨a, xs, ds, e1, e2, q, n, z⟩
    · exact .inl (r.mono h)
    · exact .inr ⟨a, xs, ds, e1, e2, q, n, z.mono h⟩
  | deep => exact r
theorem PkR.toS (hSA : ∀ a, S a → A a) {d : D} {v : V} : ∀ {fl : Fl}, PkR K A S H fl d v → Rep K S H v d
  | .val, r => Rep.mono hSA r
  | .shal, .inl r => Rep.mono hSA r
  | .shal, .inr ⟨a, xs, ds, e1, e2, q, n, z⟩ => by
    subst e1 e2
    exact .lst (.inl ⟨.inl q, n⟩) (z.mono hSA)
  | .deep, r => r
theorem Rep.flat {v : V} {d : D} (h : Q.flat d = true) (r : Rep K A H v d) : Rep K A' H' v d := by
  cases r with
  | non => exact .non
  | bl b => exact .bl b
  | int i => exact .int i
  | str x => exact .str x
  | lst _ _ => cases h
  | tup _ _ => cases h
  | nd _ _ _ _ => cases h
mutual
theorem Bt.fr (hSA : ∀ a, S a → A a) (f : Fr A S H A' S' H') : ∀ {m : MV} {v : V}, Bt K A S H m v → Bt K A' S' H' m v
  | _, _, .val r => .val (r.fr hSA f)
  | _, _, .lst h n r => .lst (f.keep _ _ h n) (f.nS (by rw [h]; simp) n) (Bts.fr hSA f r)
  | _, _, .nd h o n r => .nd (f.keep _ _ h n) o (f.nS (by rw [h]; simp) n) (Bts.fr hSA f r)
theorem Bts.fr (hSA : ∀ a, S a → A a) (f : Fr A S H A' S' H') : ∀ {m : List MV} {v : List V}, Bts K A S H m v → Bts K A' S' H' m v
  | _, _, .nil => .nil
  | _, _, .cons a b => .cons (Bt.fr hSA f a) (Bts.fr hSA f b)
end
mutual
theorem Bt.less (hA : ∀ a, A' a → A a) (hS : ∀ a, S' a → S a) : ∀ {m : MV} {v : V}, Bt K A S H m v → Bt K A' S' H m v
  | _, _, .val r => .val (r.mono hA)
  | _, _, .lst h n r => .lst h (fun q => n (hS _ q)) (Bts.less hA hS r)
  | _, _, .nd h o n r => .nd h o (fun q => n (hS _ q)) (Bts.less hA hS r)
theorem Bts.less (hA : ∀ a, A' a → A a) (hS : ∀ a, S' a → S a) : ∀ {m : List MV} {v : List V}, Bts K A S H m v → Bts K A' S' H m v
  | _, _, .nil => .nil
  | _, _, .cons a b => .cons (Bt.less hA hS a) (Bts.less hA hS b)
end
mutual
theorem Bt.toS (hSA : ∀ a, S a → A a) : ∀ {m : MV} {v : V}, Bt K A S H m v → Rep K S H v (Q.freeze m)
  | _, _, .val r => by unfold Q.freeze; exact r.mono hSA
  | _, _, .lst h n r => by unfold Q.freeze; exact .lst (.inl ⟨.inl h, n⟩) (Bts.toS hSA r)
  | _, _, .nd h o n r => by unfold Q.freeze; exact .nd h o n (Bts.toS hSA r)
theorem Bts.toS (hSA : ∀ a, S a → A a) : ∀ {m : List MV} {v : List V}, Bts K A S H m v → Reps K S H v (freezes m)
  | _, _, .nil => by unfold freezes; exact .nil
  | _, _, .cons a b => by unfold freezes; exact .cons (Bt.toS hSA a) (Bts.toS hSA b)
end
theorem Bts.vals : ∀ {ms : List MV} {vs : List V}, ms.all isVal = true → Bts K A S H ms vs → Reps K A H vs (freezes ms)
  | _, _, _, .nil => by unfold freezes; exact .nil
  | _, _, h, .cons a b => by
    simp only [List.all_cons, Bool.and_eq_true] at h
    cases a with
    | val q => unfold freezes Q.freeze; exact .cons q (Bts.vals h.2 b)
    | lst _ _ _ => simp [isVal] at h
    | nd _ _ _ _ => simp [isVal] at h
/-- a borrowed tree, looked at -/
theorem Bt.pk (hSA : ∀ a, S a → A a) {m : MV} {v : V} (r : Bt K A S H m v) : PkR K A S H (flagOf m) (Q.freeze m) v := by
  cases r with
  | val q => unfold flagOf Q.freeze; exact q
  | @lst a xs ms h n q =>
    show PkR K A S H (if ms.all isVal then .shal else .deep) _ _
    by_cases hv : ms.all isVal = true
    · rw [if_pos hv]
      exact .inr ⟨a, xs, freezes ms, rfl, by unfold Q.freeze; rfl, h, n, q.vals hv⟩
    · rw [if_neg hv]
      exact Bt.toS hSA (.lst h n q)
  | nd h o n q => exact Bt.toS hSA (.nd h o n q)
mutual
theorem Own.bt {m : MV} {v : V} {T : List Addr} (hT : ∀ b ∈ T, ¬ S b) (r : Own K A H m v T) : Bt K A S H m v := match r with
  | .val q => .val q
  | .lst h a q => .lst h (hT _ List.mem_cons_self) (Owns.bt (fun b hb => hT b (List.mem_cons_of_mem _ hb)) q)
  | .nd h o a q => .nd h o (hT _ List.mem_cons_self) (Owns.bt (fun b hb => hT b (List.mem_cons_of_mem _ hb)) q)
theorem Owns.bt {m : List MV} {v : List V} {T : List Addr} (hT : ∀ b ∈ T, ¬ S b) (r : Owns K A H m v T) : Bts K A S H m v := match r with
  | .nil => .nil
  | .cons a b => .cons (Own.bt (fun b hb => hT b (List.mem_append_left _ hb)) a) (Owns.bt (fun b hb => hT b (List.mem_append_right _ hb)) b)
end
theorem BfR.fr (hSA : ∀ a, S a → A a) (f : Fr A S H A' S' H') {b : Bf} {v : V} {d : D} (r : BfR K A S H b d v) : BfR K A' S' H' b d v := by
  cases b with
  | fl b => exact PkR.fr hSA f r
  | tree m => exact ⟨r.1, r.2.fr hSA f⟩
theorem BfR.lessS (h : ∀ a, S' a → S a) {b : Bf} {v : V} {d : D} (r : BfR K A S H b d v) : BfR K A S' H b d v := by
  cases b with
  | fl b => exact PkR.lessS h r
  | tree m => exact ⟨r.1, r.2.less (fun _ q => q) h⟩
theorem BfR.lessA (h : ∀ a, A' a → A a) {b : Bf} {v : V} {d : D} (r : BfR K A S H b d v) : BfR K A' S H b d v := by
  cases b with
  | fl b => exact PkR.lessA h r
  | tree m => exact ⟨r.1, r.2.less h (fun _ q => q)⟩
/-- a tree that is looked at while its places are locked -/
theorem Own.peek (hSA : ∀ a, S a → A a) {m : MV} {v : V} {T : List Addr} (hT : ∀ b ∈ T, ¬ S b) (r : Own K A H m v T) : PkR K A S H (flagOf m) (Q.freeze m) v := by
  cases r with
  | val q => unfold flagOf Q.freeze; exact q
  | @lst a xs ms T' h aA q =>
    show PkR K A S H (if ms.all isVal then .shal else .deep) _ _
    by_cases hv : ms.all isVal = true
    · rw [if_pos hv]
      obtain ⟨rfl, z⟩ := q.vals hv
      exact .inr ⟨a, xs, freezes ms, rfl, by unfold Q.freeze; rfl, h, hT a List.mem_cons_self, z⟩
    · rw [if_neg hv]
      exact Own.freeze (A' := S) hSA hT (.lst h aA q)
  | nd h o aA q => exact Own.freeze (A' := S) hSA hT (.nd h o aA q)
end

namespace Rel
variable {K : PySem.W.Frag} {z : Z}
theorem subT (R : Rel K z) : ∀ i a, a ∈ z.TS i → z.A a := fun i a h => by
  cases q : z.ρ[i]? with
  | none => rw [R.out i q] at h; cases h
  | some s =>
    obtain ⟨o, _, r⟩ := R.slot i s q
    generalize hT : z.TS i = T at r h
    cases r with
    | unset => cases h
    | own r => exact (r.sub a h).1
    | io r => exact (r.sub a h).1
    | lck r => exact (r.sub a h).1
    | bor _ => cases h
theorem sub (R : Rel K z) : ∀ a, z.S a → z.A a := fun a ⟨i, h, _⟩ => R.subT i a h
theorem lt (R : Rel K z) {i : Nat} {s : Slot} (h : z.ρ[i]? = some s) : i < z.ρ.length := (List.getElem?_eq_some_iff.mp h).1
/-- a slot's value and its tree -/
theorem get (R : Rel K z) {i : Nat} {s : Slot} (h : z.ρ[i]? = some s) : ∃ o, z.σ[i]? = some o ∧ SlotR K z.A z.S z.H s o (z.TS i) := R.slot i s h
end Rel

/-- what stays, slot by slot -/
structure Kp (ρ : Env) (σ : St) (TS : TSet) (ρ' : Env) (σ' : St) (TS' : TSet) : Prop where
  len : ρ'.length = ρ.length
  lck : ∀ (i : Nat) m, ρ[i]? = some (Slot.lck m) → ρ'[i]? = some (Slot.lck m) ∧ σ'[i]? = σ[i]? ∧ TS' i = TS i
  lckB : ∀ (i : Nat) m, ρ'[i]? = some (Slot.lck m) → ρ[i]? = some (Slot.lck m)
  io : ∀ (i : Nat) m, ρ[i]? = some (Slot.io m) → ∃ m', ρ'[i]? = some (Slot.io m') ∧ σ'[i]? = σ[i]?
  ioB : ∀ (i : Nat) m, ρ'[i]? = some (Slot.io m) → ∃ m', ρ[i]? = some (Slot.io m')
  bor : ∀ (i : Nat) fl d, ρ'[i]? = some (Slot.bor fl d) → ρ[i]? = some (Slot.bor fl d) ∧ σ'[i]? = σ[i]?
theorem Kp.refl {ρ : Env} {σ : St} {TS : TSet} : Kp ρ σ TS ρ σ TS := ⟨rfl, fun _ _ h => ⟨h, rfl, rfl⟩, fun _ _ h => h, fun _ m h => ⟨m, h, rfl⟩, fun _ m h => ⟨m, h⟩, fun _ _ _ h => ⟨h, rfl⟩⟩
theorem Kp.trans {ρ ρ1 ρ2 : Env} {σ σ1 σ2 : St} {TS TS1 TS2 : TSet} (a : Kp ρ σ TS ρ1 σ1 TS1) (b : Kp ρ1 σ1 TS1 ρ2 σ2 TS2) : Kp ρ σ TS ρ2 σ2 TS2 := by
  refine ⟨b.len.trans a.len, fun i m h => ?_, fun i m h => a.lckB i m (b.lckB i m h), fun i m h => ?_, fun i m h => (b.ioB i m h).elim fun m' h' => a.ioB i m' h', fun i fl d h => ?_⟩
  · obtain ⟨h1, h2, h3⟩ := a.lck i m h
    obtain ⟨g1, g2, g3⟩ := b.lck i m h1
    exact ⟨g1, g2.trans h2, g3.trans h3⟩
  · obtain ⟨m1, h1, h2⟩ := a.io i m h
    obtain ⟨m2, g1, g2⟩ := b.io i m1 h1
    exact ⟨m2, g1, g2.trans h2⟩
  · obtain ⟨g1, g2⟩ := b.bor i fl d h
    obtain ⟨h1, h2⟩ := a.bor i fl d g1
    exact ⟨h1, g2.trans h2⟩

structure Stp (K : PySem.W.Frag) (z z' : Z) : Prop where
  rel : Rel K z'
  fr : Fr z.A z.S z.H z'.A z'.S z'.H
  kp : Kp z.ρ z.σ z.TS z'.ρ z'.σ z'.TS
theorem Stp.refl {K : PySem.W.Frag} {z : Z} (R : Rel K z) : Stp K z z := ⟨R, Fr.refl, Kp.refl⟩
theorem Stp.trans {K : PySem.W.Frag} {z z1 z2 : Z} (R : Rel K z) (a : Stp K z z1) (b : Stp K z1 z2) : Stp K z z2 := ⟨b.rel, a.fr.trans R.trk b.fr, a.kp.trans b.kp⟩

/-- a value just made, its places not yet any slot's -/
structure Tmp (K : PySem.W.Frag) (z z' : Z) (r : MV) (v : V) (T : List Addr) : Prop where
  own : Own K z'.A z'.H r v T
  nd : T.Nodup
  apart : ∀ b ∈ T, ∀ i, b ∉ z'.TS i
  new : ∀ b ∈ T, z.S b ∨ z.H b = none

section
variable {K : PySem.W.Frag} {z z' z1 z2 : Z} {r : MV} {v : V} {T : List Addr} {d : D}
/-- T's places are given away -/
def Z.drop (z : Z) (T : List Addr) : Z := { z with A := fun a => z.A a ∧ a ∉ T }
theorem Z.drop_S {z : Z} {T : List Addr} : (z.drop T).S = z.S := rfl
theorem SlotR.lessA {A A' S : AP} {H : Hp} {s : Slot} {o : Option V} {T : List Addr} (h : ∀ a, A' a → A a) (hT : ∀ b ∈ T, A' b) (r : SlotR K A S H s o T) : SlotR K A' S H s o T := by
  have lift : ∀ {m : MV} {v : V}, Own K A H m v T → Own K A' H m v T := fun q => q.step (fun _ _ e _ => e) (fun b x => .inl (h b x)) fun b hb => ⟨fun _ e => e, hT b hb⟩
  cases r with
  | unset => exact .unset
  | own r => exact .own (lift r)
  | io r => exact .io (lift r)
  | lck r => exact .lck (lift r)
  | bor r => exact .bor (r.lessA h)
theorem Rel.drop (R : Rel K z) {T : List Addr} (hT : ∀ b ∈ T, ∀ i, b ∉ z.TS i) : Rel K (z.drop T) := by
  refine ⟨R.len, fun i s e => ?_, R.out, R.nd, R.dj, fun a x => R.trk a x.1⟩
  obtain ⟨o, e2, r⟩ := R.slot i s e
  exact ⟨o, e2, r.lessA (fun a x => x.1) fun b hb => ⟨R.subT i b hb, fun h => hT b h i hb⟩⟩
theorem Stp.drop (R : Rel K z) (s : Stp K z z') (t : Tmp K z z' r v T) : Stp K z (z'.drop T) := by
  refine ⟨s.rel.drop t.apart, ⟨s.fr.keep, fun a x => s.fr.newA a x.1, s.fr.newS, fun a x n => ⟨s.fr.keepA a x n, fun h => ?_⟩, s.fr.there⟩, s.kp⟩
  rcases t.new a h with q | q
  · exact n q
  · exact R.trk a x q
/-- the value made is only kept as data from now on -/
theorem Tmp.froze (t : Tmp K z z' r v T) : Rep K (z'.drop T).A (z'.drop T).H v (freeze r) :=
  t.own.freeze (fun _ x => x.1) fun b hb x => x.2 hb
theorem Tmp.ofRep (h : Rep K z'.A z'.H v d) : Tmp K z z' (.val d) v [] := ⟨.val h, List.nodup_nil, fun _ h => (nomatch h), fun _ h => (nomatch h)⟩
end
end Q
namespace Q
open PySem L2

abbrev Lks := List (Nat × Slot)
def unl : Lks → Env → Env
  | [], ρ => ρ
  | (i, s) :: r, ρ => (unl r ρ).set i s

/-- a name looked at: locked if it is a tree of its own -/
def peekVar (i : Nat) (ρ : Env) : Option (D × Fl × Env × Lks) := match ρ[i]? with
  | some (.own (.val d)) => some (d, .val, ρ, [])
  | some (.io (.val d)) => some (d, .val, ρ, [])
  | some (.own m) => some (freeze m, flagOf m, ρ.set i (.lck m), [(i, .own m)])
  | some (.io m) => some (freeze m, flagOf m, ρ.set i (.lck m), [(i, .io m)])
  | some (.lck m) => some (freeze m, flagOf m, ρ, [])
  | some (.bor (.fl fl) d) => some (d, fl, ρ, [])
  | some (.bor (.tree m) _) => some (freeze m, flagOf m, ρ, [])
  | _ => none
/-- a name's value, to be kept: its tree is frozen -/
def takeVar (i : Nat) (ρ : Env) : Option (MV × Env) := match ρ[i]? with
  | some (.own (.val d)) => some (.val d, ρ)
  | some (.io (.val d)) => some (.val d, ρ)
  | some (.own m) => some (.val (freeze m), ρ.set i (.own (.val (freeze m))))
  | some (.io m) => some (.val (freeze m), ρ.set i (.io (.val (freeze m))))
  | some (.bor (.fl fl) d) => if fl = .val ∨ flat d then some (.val d, ρ) else none
  | _ => none
def putVar (i : Nat) (s : Slot) (ρ : Env) : Option Env := match ρ[i]? with
  | some .unset => some (ρ.set i s)
  | some (.own _) => some (ρ.set i s)
  | some (.bor _ _) => some (ρ.set i s)
  | _ => none
def slotOf (fl : Fl) (d : D) : Slot := match fl with
  | .val => .own (.val d)
  | fl => .bor (.fl fl) d

mutual
def bindT : Tg → Fl → D → Env → Option Env
  | .name i, fl, d, ρ => putVar i (slotOf fl d) ρ
  | .tup ts, fl, d, ρ => match d with
    | .tuple ds => bindTs ts fl ds ρ
    | .list ds => bindTs ts fl ds ρ
    | _ => none
def bindTs : List Tg → Fl → List D → Env → Option Env
  | [], _, [], ρ => some ρ
  | t :: ts, fl, d :: ds, ρ => do
    let ρ1 ← bindT t (childFl fl d) d ρ
    bindTs ts fl ds ρ1
  | _, _, _, _ => none
end
mutual
def clrT : Tg → Env → Env
  | .name i, ρ => match ρ[i]? with
    | some (.bor _ _) => ρ.set i .unset
    | _ => ρ
  | .tup ts, ρ => clrTs ts ρ
def clrTs : List Tg → Env → Env
  | [], ρ => ρ
  | t :: ts, ρ => clrTs ts (clrT t ρ)
end

/-! ### builtins by data -/
def eqD (d e : D) : Option Bool := if SeqAt.shaped d && SeqAt.shaped e then some (PyData.eqv d e) else none
def inD (d : D) (ds : List D) : Option Bool := if SeqAt.shaped d && SeqAt.shaped (.list ds) then some (ds.any fun z => PyData.eqv z d) else none
/-! ### data in order -/
def alikes (ds : List D) : Bool := ds.all fun d => ds.all fun e => PySem.W.alike d e
def tup1 : D → Bool
  | .tuple (_ :: _) => true
  | _ => false
def noTup : D → Bool
  | .tuple _ => false
  | .none => false
  | _ => true
def noNone : D → Bool
  | .none => false
  | _ => true
def sortOk (ds : List D) : Bool := alikes ds && (ds.all tup1 || ds.all noTup) && decide (ds.length ≤ sizeLine) && decide (PyData.depthAll ds ≤ 60) && plainDs ds
def insD (x : D) : List D → List D
  | [] => [x]
  | y :: ys => if PySem.W.dataLt y x then y :: insD x ys else x :: y :: ys
def sortDs (ds : List D) : List D := ds.foldr insD []
def bestOk (ds : List D) : Bool := alikes ds && ds.all noNone && decide (PyData.depthAll ds ≤ 60) && plainDs ds
def ltOk (d e : D) : Bool := PySem.W.alike d e && noNone d && decide (d.depth ≤ 60) && plainD d && plainD e
def cmpR (op : COp) (d1 d2 : D) : Option Bool := match op, d1, d2 with
  | .eq, d, e => eqD d e
  | .ne, d, e => (eqD d e).map (! ·)
  | .lt, .int i, .int j => some (decide (i < j))
  | .le, .int i, .int j => some (decide (i ≤ j))
  | .gt, .int i, .int j => some (decide (j < i))
  | .ge, .int i, .int j => some (decide (j ≤ i))
  | .isin, d, .list ds => inD d ds
  | .isin, d, .tuple ds => inD d ds
  | .notin, d, .list ds => (inD d ds).map (! ·)
  | .notin, d, .tuple ds => (inD d ds).map (! ·)
  | .ltD, d, e => if ltOk d e then some (PySem.W.dataLt d e) else none
  | _, _, _ => none
def idxR (d i : D) : Option D := match d, i with
  | .list xs, .int i => atI xs i
  | .tuple xs, .int i => atI xs i
  | .str z, .int i => if z.length ≤ sizeLine then (atI z.cps.toList i).map fun c => .str ⟨#[c]⟩ else none
  | _, _ => none
def cutD (xs : List D) (lo hi : Option Int) : List D := (xs.drop (HT.sIx xs.length 0 lo)).take (HT.sIx xs.length xs.length hi - HT.sIx xs.length 0 lo)
/-- items that may not be kept -/
def badFl (fl : Fl) (xs : List D) : Bool := decide (fl = .deep) && !xs.all flat
def slcR (d : D) (fl : Fl) (lo hi : Option Int) : Option MV := match d with
  | .list xs => if badFl fl xs then none else some (.lst ((cutD xs lo hi).map .val))
  | .tuple xs => if fl = .deep then none else some (.val (.tuple (cutD xs lo hi)))
  | _ => none
def truthR : D → Option Bool
  | .none => some false
  | .bool b => some b
  | .int i => some (i != 0)
  | .list xs => some (!xs.isEmpty)
  | .tuple xs => some (!xs.isEmpty)
  | _ => none
def isTy : Ty → D → Bool
  | .int, .int _ => true
  | .int, .bool _ => true
  | .bool, .bool _ => true
  | .str, .str _ => true
  | .list, .list _ => true
  | .tuple, .tuple _ => true
  | _, _ => false
def isDict : D → Bool
  | .dict _ => true
  | _ => false
def boolsOf : List D → Option (List Bool)
  | [] => some []
  | .bool b :: r => (boolsOf r).map (b :: ·)
  | _ => none
def intsOf : List D → Option (List Int)
  | [] => some []
  | .int i :: ds => (intsOf ds).bind fun ns => some (i :: ns)
  | _ => none
def minI : List Int → Option Int
  | [] => none
  | n :: ns => some (ns.foldl (fun a b => if b < a then b else a) n)
def maxI : List Int → Option Int
  | [] => none
  | n :: ns => some (ns.foldl (fun a b => if b > a then b else a) n)
/-- an int put into a row that goes up -/
def insL (n : Int) : List Int → List Int
  | [] => [n]
  | x :: xs => if n ≤ x then n :: x :: xs else x :: insL n xs
def sortI (ns : List Int) : List Int := ns.foldr insL []
def bltR (f : Blt) (ds : List (D × Fl)) : Option MV := match f, ds with
  | .len, [(.list xs, _)] => some (.val (.int xs.length))
  | .len, [(.tuple xs, _)] => some (.val (.int xs.length))
  | .len, [(.str x, _)] => if x.length ≤ sizeLine then some (.val (.int x.length)) else none
  | .abs, [(.int i, _)] => some (.val (.int (if i < 0 then -i else i)))
  | .int, [(.int i, _)] => some (.val (.int i))
  | .int, [(.bool b, _)] => some (.val (.int (if b then 1 else 0)))
  | .min2, [(.int i, _), (.int j, _)] => some (.val (.int (if j < i then j else i)))
  | .max2, [(.int i, _), (.int j, _)] => some (.val (.int (if j > i then j else i)))
  | .list, [(.list xs, fl)] => if badFl fl xs then none else some (.lst (xs.map .val))
  | .list, [(.tuple xs, fl)] => if badFl fl xs then none else some (.lst (xs.map .val))
  | .tuple, [(.list xs, fl)] => if badFl fl xs then none else some (.val (.tuple xs))
  | .tuple, [(.tuple xs, fl)] => if fl = .deep then none else some (.val (.tuple xs))
  | .all, [(.list xs, _)] => (boolsOf xs).map fun bs => .val (.bool (bs.all id))
  | .any, [(.list xs, _)] => (boolsOf xs).map fun bs => .val (.bool (bs.any id))
  | .min1, [(.list xs, _)] => (intsOf xs).bind fun ns => (minI ns).map fun i => .val (.int i)
  | .max1, [(.list xs, _)] => (intsOf xs).bind fun ns => (maxI ns).map fun i => .val (.int i)
  | .sorted, [(.list xs, _)] => (intsOf xs).bind fun ns => some (.lst ((sortI ns).map fun i => .val (.int i)))
  | .sortD, [(.list xs, fl)] => if sortOk xs && !badFl fl xs then some (.lst ((sortDs xs).map .val)) else none
  | .sortD, [(.tuple xs, fl)] => if sortOk xs && !badFl fl xs then some (.lst ((sortDs xs).map .val)) else none
  | .minD, [(.list (x :: xs), fl)] => if bestOk (x :: xs) && !badFl fl (x :: xs) then some (.val (PySem.W.minD x xs)) else none
  | .maxD, [(.list (x :: xs), fl)] => if bestOk (x :: xs) && !badFl fl (x :: xs) then some (.val (PySem.W.maxD x xs)) else none
  | .minD, [(.tuple (x :: xs), fl)] => if bestOk (x :: xs) && !badFl fl (x :: xs) then some (.val (PySem.W.minD x xs)) else none
  | .maxD, [(.tuple (x :: xs), fl)] => if bestOk (x :: xs) && !badFl fl (x :: xs) then some (.val (PySem.W.maxD x xs)) else none
  | .isi tys, [(d, _)] => if isDict d then none else some (.val (.bool (tys.any fun t => isTy t d)))
  | _, _ => none
def rangeD (lo : Int) (n : Nat) : List D := (List.range n).map fun k => .int (lo + (k : Nat))
def enumD : Nat → List D → List D
  | _, [] => []
  | k, d :: ds => .tuple [.int (k : Nat), d] :: enumD (k + 1) ds
def zipD : List D → List D → List D
  | d :: ds, e :: es => .tuple [d, e] :: zipD ds es
  | _, _ => []
def listOf : D → Option (List D)
  | .list xs => some xs
  | _ => none
def sameSeq : D → D → Option (List D × List D)
  | .list xs, .list ys => some (xs, ys)
  | .tuple xs, .tuple ys => some (xs, ys)
  | _, _ => none
def intOf : MV → Option Int
  | .val (.int i) => some i
  | _ => none
def inRng (i : Int) : Bool := Nat.blt i.natAbs 4611686018427387904
theorem inRng_iff {i : Int} : inRng i = true ↔ i.natAbs < 4611686018427387904 := by
  unfold inRng Nat.blt
  exact ⟨fun h => Nat.le_of_ble_eq_true h, fun h => Nat.ble_eq_true_of_le h⟩

/-- an argument made ready -/
inductive Arg where
  | slot (s : Slot)
  | place (i : Nat)
def fill : List Arg → Env → Option Env
  | [], _ => some []
  | .slot s :: r, ρ => (fill r ρ).map (s :: ·)
  | .place i :: r, ρ => match ρ[i]? with
    | some (.own m) => (fill r (ρ.set i .unset)).map (.io m :: ·)
    | some (.io m) => (fill r (ρ.set i .unset)).map (.io m :: ·)
    | _ => none
def back : List Arg → Env → Env → Option Env
  | [], [], ρ => some ρ
  | .slot _ :: r, _ :: outs, ρ => back r outs ρ
  | .place i :: r, .io m :: outs, ρ => match ρ[i]? with
    | some (.own _) => back r outs (ρ.set i (.own m))
    | some (.io _) => back r outs (ρ.set i (.io m))
    | _ => none
  | _, _, _ => none

inductive Flow where
  | next | brk | cnt | ret (r : MV)

/-- a place: whose slot, the way to it, what stands there; the slots behind it, what was locked -/
structure Plc where
  i : Nat
  w : List Nat
  m : MV
  ρ : Env
  ls : Lks
/-- an expression's four readings: its value, what is looked at, a test -/
structure R3 where
  v : Env → Option (MV × Env)
  p : Env → Option (D × Fl × Env × Lks)
  t : Env → Option (Bool × Env)
  q : Env → Option Plc
  kd : Env → Option (List Key × Env)
def ofV (v : Env → Option (MV × Env)) : R3 where
  v := v
  p := fun ρ => (v ρ).bind fun q => some (freeze q.1, .val, q.2, [])
  t := fun ρ => (v ρ).bind fun q => (truthR (freeze q.1)).bind fun b => some (b, q.2)
  q := fun _ => none
  kd := fun _ => none

/-! ### places -/
/-- a key of a dict: an int or a text; a tuple of such -/
inductive DKey where
  | k (k : Key)
  | t (ks : List Key)
def kids : MV → List MV
  | .val _ => []
  | .lst ms => ms
  | .nd _ ms => ms
def keyOf : D → Option Key
  | .int i => some (.inl i)
  | .str x => some (.inr x)
  | _ => none
def keysOf : List D → Option (List Key)
  | [] => some []
  | d :: ds => (keyOf d).bind fun k => (keysOf ds).bind fun ks => some (k :: ks)
def posOf {κ : Type} [DecidableEq κ] (k : κ) : List κ → Option Nat
  | [] => none
  | x :: xs => if x = k then some 0 else (posOf k xs).map (· + 1)
/-- a key, read -/
def keyE (e : R3) : Env → Option (DKey × Env) := fun ρ => match e.kd ρ with
  | some q => some (.t q.1, q.2)
  | none => (e.v ρ).bind fun y => (keyOf (freeze y.1)).bind fun x => some (.k x, y.2)
def ixMV (m : MV) (k : DKey) : Option Nat := match m, k with
  | .lst ms, .k (.inl i) => ixN ms.length i
  | .nd (.dK ks) _, .k k => posOf k ks
  | .nd (.dT ks) _, .t k => posOf k ks
  | _, _ => none
def fldMV (m : MV) (f : Str) : Option Nat := match m with
  | .nd (.obj _ fs) _ => posOf f fs
  | _ => none
def isTree : MV → Bool
  | .val _ => false
  | _ => true
def qVar (i : Nat) (ρ : Env) : Option Plc := match ρ[i]? with
  | some (.own m) => some ⟨i, [], m, ρ.set i (.lck m), [(i, .own m)]⟩
  | some (.io m) => some ⟨i, [], m, ρ.set i (.lck m), [(i, .io m)]⟩
  | some (.lck m) => some ⟨i, [], m, ρ, []⟩
  | some (.bor (.tree m) _) => some ⟨i, [], m, ρ, []⟩
  | _ => none
def Plc.kid (x : Plc) (n : Nat) (ρ : Env) : Option Plc := ((kids x.m)[n]?).bind fun c => some ⟨x.i, x.w ++ [n], c, ρ, x.ls⟩
def qFld (a : R3) (f : Str) : Env → Option Plc := fun ρ => (a.q ρ).bind fun x => (fldMV x.m f).bind fun n => x.kid n x.ρ
def qIdx (a b : R3) : Env → Option Plc := fun ρ => (a.q ρ).bind fun x => (keyE b x.ρ).bind fun y => (ixMV x.m y.1).bind fun n => x.kid n y.2
def vOfQ (q : Env → Option Plc) : Env → Option (MV × Env) := fun ρ => (q ρ).bind fun x => match x.m with
  | .val d => some (.val d, unl x.ls x.ρ)
  | _ => none
def pOfQ (q : Env → Option Plc) : Env → Option (D × Fl × Env × Lks) := fun ρ => (q ρ).bind fun x => match x.m with
  | .val d => some (d, .val, unl x.ls x.ρ, [])
  | m => some (freeze m, flagOf m, x.ρ, x.ls)
def treeQ (a : R3) (ρ : Env) : Bool := match a.q ρ with
  | some x => isTree x.m
  | none => false
/-- a tree with another one at a place -/
def setAt : List Nat → MV → MV → Option MV
  | [], c, _ => some c
  | n :: w, c, .lst ms => (ms[n]?).bind fun m => (setAt w c m).bind fun m' => some (.lst (ms.set n m'))
  | n :: w, c, .nd k ms => (ms[n]?).bind fun m => (setAt w c m).bind fun m' => some (.nd k (ms.set n m'))
  | _ :: _, _, .val _ => none
def putPl (i : Nat) (w : List Nat) (c : MV) (ρ : Env) : Option Env := match ρ[i]? with
  | some (.own m) => (setAt w c m).bind fun m' => some (ρ.set i (.own m'))
  | some (.io m) => (setAt w c m).bind fun m' => some (ρ.set i (.io m'))
  | _ => none
/-- borrowed -/
def bRd (e : R3) : Env → Option (Slot × Env × Lks) := fun ρ => match e.q ρ with
  | some x => (match x.m with
    | .val d => some (.own (.val d), unl x.ls x.ρ, [])
    | m => some (.bor (.tree m) (freeze m), x.ρ, x.ls))
  | none => (e.p ρ).bind fun q => some (slotOf q.2.1 q.1, q.2.2.1, q.2.2.2)

def evs : List R3 → Env → Option (List MV × Env)
  | [], ρ => some ([], ρ)
  | e :: es, ρ => (e.v ρ).bind fun q => (evs es q.2).bind fun q2 => some (q.1 :: q2.1, q2.2)
def pks : List R3 → Env → Option (List (D × Fl) × Env × Lks)
  | [], ρ => some ([], ρ, [])
  | e :: es, ρ => (e.p ρ).bind fun q => (pks es q.2.2.1).bind fun q2 => some ((q.1, q.2.1) :: q2.1, q2.2.1, q.2.2.2 ++ q2.2.2)
def varOf : E → Option Nat
  | .var i => some i
  | _ => none
def evA : List Mode → List (Option Nat) → List R3 → Env → Option (List Arg × Env × Lks)
  | [], _, [], ρ => some ([], ρ, [])
  | .v :: ms, _ :: xs, e :: es, ρ => (e.v ρ).bind fun q => (evA ms xs es q.2).bind fun q2 => some (.slot (.own (.val (freeze q.1))) :: q2.1, q2.2)
  | .d :: ms, _ :: xs, e :: es, ρ => (bRd e ρ).bind fun q => (evA ms xs es q.2.1).bind fun q2 => some (.slot q.1 :: q2.1, q2.2.1, q.2.2 ++ q2.2.2)
  | .io :: ms, some i :: xs, _ :: es, ρ => match ρ[i]? with
    | some (.own _) => (evA ms xs es ρ).bind fun q2 => some (.place i :: q2.1, q2.2)
    | some (.io _) => (evA ms xs es ρ).bind fun q2 => some (.place i :: q2.1, q2.2)
    | _ => none
  | _, _, _, _ => none
def evO : Option R3 → Env → Option (Option Int × Env)
  | none, ρ => some (none, ρ)
  | some e, ρ => (e.v ρ).bind fun q => (intOf q.1).bind fun i => some (some i, q.2)
def evC : Option R3 → Env → Option (Bool × Env)
  | none, ρ => some (true, ρ)
  | some e, ρ => e.t ρ
def wipeE (own : List Nat) (ρ : Env) : Env := own.foldr (fun i ρ => ρ.set i .unset) ρ
def unwipe (own : List Nat) (ρ1 ρ : Env) : Env := own.foldr (fun i ρ => ρ.set i ((ρ1[i]?).getD .unset)) ρ
/-- a comprehension's turns -/
def compL (tg : Tg) (fl : Fl) (cond : Option R3) (elt : R3) (own : List Nat) : List D → List MV → Env → Option (List MV × Env)
  | [], acc, ρ => some (acc, ρ)
  | d :: ds, acc, ρ => (bindT tg (childFl fl d) d ρ).bind fun ρt => (evC cond ρt).bind fun q =>
      if q.1 then (elt.v q.2).bind fun q2 => compL tg fl cond elt own ds (acc ++ [q2.1]) (wipeE own q2.2)
      else compL tg fl cond elt own ds acc (wipeE own q.2)
def evBin (op : BOp) (a b : R3) : Env → Option (MV × Env) := fun ρ =>
  (a.p ρ).bind fun q1 => (b.p q1.2.2.1).bind fun q2 => (binR op q1.1 q1.2.1 q2.1 q2.2.1).bind fun r => some (r, unl q1.2.2.2 (unl q2.2.2.2 q2.2.2.1))
def evCmp (op : COp) (a b : R3) : Env → Option (MV × Env) := fun ρ =>
  (a.p ρ).bind fun q1 => (b.p q1.2.2.1).bind fun q2 => (cmpR op q1.1 q2.1).bind fun r => some (.val (.bool r), unl q1.2.2.2 (unl q2.2.2.2 q2.2.2.1))
def evChn (o1 o2 : COp) (a b c : R3) : Env → Option (MV × Env) := fun ρ =>
  (a.p ρ).bind fun q1 => (b.p q1.2.2.1).bind fun q2 => (cmpR o1 q1.1 q2.1).bind fun r =>
    if r then (c.p q2.2.2.1).bind fun q3 => (cmpR o2 q2.1 q3.1).bind fun r2 => some (.val (.bool r2), unl q1.2.2.2 (unl q2.2.2.2 (unl q3.2.2.2 q3.2.2.1)))
    else some (.val (.bool false), unl q1.2.2.2 (unl q2.2.2.2 q2.2.2.1))
def isNone : D → Bool
  | .none => true
  | _ => false
def evAnd (a b : R3) : Env → Option (MV × Env) := fun ρ => (a.v ρ).bind fun q => match q.1 with
  | .val (.bool true) => b.v q.2
  | .val (.bool false) => some (.val (.bool false), q.2)
  | _ => none
def evOr (a b : R3) : Env → Option (MV × Env) := fun ρ => (a.v ρ).bind fun q => match q.1 with
  | .val (.bool true) => some (.val (.bool true), q.2)
  | .val (.bool false) => b.v q.2
  | _ => none
def evNot (a : R3) : Env → Option (MV × Env) := fun ρ => (a.v ρ).bind fun q => match q.1 with
  | .val (.bool b) => some (.val (.bool (!b)), q.2)
  | _ => none
def evIte (c a b : R3) : Env → Option (MV × Env) := fun ρ => (c.t ρ).bind fun q => if q.1 then a.v q.2 else b.v q.2
def evIdx (a b : R3) : Env → Option (MV × Env) := fun ρ => (a.p ρ).bind fun q1 => (b.v q1.2.2.1).bind fun q2 => (idxR q1.1 (freeze q2.1)).bind fun c =>
  if childFl q1.2.1 c = .val then some (.val c, unl q1.2.2.2 q2.2) else none
def pkIdx (a b : R3) : Env → Option (D × Fl × Env × Lks) := fun ρ => (a.p ρ).bind fun q1 => (b.v q1.2.2.1).bind fun q2 => (idxR q1.1 (freeze q2.1)).bind fun c =>
  if childFl q1.2.1 c = .val then some (c, .val, unl q1.2.2.2 q2.2, []) else some (c, .deep, q2.2, q1.2.2.2)
def evSlc (a : R3) (lo hi : Option R3) : Env → Option (MV × Env) := fun ρ => (a.p ρ).bind fun q1 => (evO lo q1.2.2.1).bind fun q2 => (evO hi q2.2).bind fun q3 =>
  (slcR q1.1 q1.2.1 q2.1 q3.1).bind fun r => some (r, unl q1.2.2.2 q3.2)
def evCall (C : CtxQ) (j : Nat) (xs : List (Option Nat)) (rs : List R3) : Env → Option (MV × Env) := fun ρ =>
  (evA (C.modes j) xs rs ρ).bind fun q => (fill q.1 q.2.1).bind fun sl => (C.call j sl).bind fun c => (back q.1 c.2 q.2.1).bind fun ρ2 => some (c.1, unl q.2.2 ρ2)
def permL {α : Type} : List Nat → List α → Option (List α)
  | [], _ => some []
  | k :: r, xs => match xs[k]? with
    | some x => (permL r xs).map (x :: ·)
    | none => none
def evCallK (C : CtxQ) (i : Nat) (xs : List (Option Nat)) (rs : List R3) : Env → Option (MV × Env) := fun ρ => match C.kws[i]? with
  | none => none
  | some w => (evA w.ms xs rs ρ).bind fun q => (permL w.perm q.1).bind fun as => (fill as q.2.1).bind fun sl => (C.call w.j sl).bind fun c => (back as c.2 q.2.1).bind fun ρ2 => some (c.1, unl q.2.2 ρ2)
/-! ### lists and dicts that are changed -/
def mopR (op : MOp) (m : MV) (as : List MV) : Option (MV × MV) := match op, m, as with
  | .app, .lst ms, [r] => if ms.length < sizeLine then some (.val .none, .lst (ms ++ [r])) else none
  | .ext, .lst ms, [.lst rs] => if ms.length + rs.length ≤ sizeLine then some (.val .none, .lst (ms ++ rs)) else none
  | .pop, .lst ms, [] => (ms[ms.length - 1]?).bind fun r => some (r, .lst (ms.eraseIdx (ms.length - 1)))
  | .popI, .lst ms, [.val (.int i)] => if -9223372036854775808 ≤ i && i < 9223372036854775808 then (ixN ms.length i).bind fun k => (ms[k]?).bind fun r => some (r, .lst (ms.eraseIdx k)) else none
  | _, _, _ => none
def putK {κ : Type} [DecidableEq κ] (f : List κ → Kind) (ks : List κ) (ms : List MV) (k : κ) (r : MV) : Option MV := if ks.length < sizeLine then
  (match posOf k ks with
  | some n => some (.nd (f ks) (ms.set n r))
  | none => some (.nd (f (ks ++ [k])) (ms ++ [r]))) else none
def putMV (m : MV) (k : DKey) (r : MV) : Option MV := match m, k with
  | .lst ms, .k (.inl i) => (ixN ms.length i).bind fun n => some (.lst (ms.set n r))
  | .nd (.dT ks) ms, .t k => putK .dT ks ms k r
  | .nd (.dK ks) ms, .k k => putK .dK ks ms k r
  | _, _ => none
def evMop (op : MOp) (p : R3) (as : List R3) : Env → Option (MV × Env) := fun ρ => (p.q ρ).bind fun x => (evs as x.ρ).bind fun q => (mopR op x.m q.1).bind fun r =>
  if x.ls.isEmpty then none else (putPl x.i x.w r.2 (unl x.ls q.2)).bind fun ρ2 => some (r.1, ρ2)
/-- an int put into an ascending row -/
def insI (n : Int) : List Int → List Int
  | [] => [n]
  | x :: xs => if n < x then n :: x :: xs else if n = x then x :: xs else x :: insI n xs
def sset (ns : List Int) : List Int := ns.foldr insI []
def extR (f : Ext) (ds : List (D × Fl)) : Option MV := match f, ds with
  | .sset, [(.list xs, _)] => (intsOf xs).bind fun ns => if ns.length < 64 then some (.lst ((sset ns).map fun i => .val (.int i))) else none
  | .lset, [(.list xs, _)] => (intsOf xs).bind fun ns => if ns.length < 64 then some (.val (.int (sset ns).length)) else none
  | .lset, [(.tuple xs, _)] => (intsOf xs).bind fun ns => if ns.length < 64 then some (.val (.int (sset ns).length)) else none
  | .lrng1, [(.int n, _)] => if inRng n && n.toNat ≤ 16777216 then some (.lst ((rangeD 0 n.toNat).map .val)) else none
  | .lrng2, [(.int i, _), (.int j, _)] => if inRng i && inRng j && (j - i).toNat ≤ 16777216 then some (.lst ((rangeD i (j - i).toNat).map .val)) else none
  | .trng1, [(.int n, _)] => if inRng n && n.toNat ≤ 16777216 then some (.val (.tuple (rangeD 0 n.toNat))) else none
  | .trng2, [(.int i, _), (.int j, _)] => if inRng i && inRng j && (j - i).toNat ≤ 16777216 then some (.val (.tuple (rangeD i (j - i).toNat))) else none
  | .rev, [(.list xs, fl)] => if badFl fl xs then none else some (.lst (xs.reverse.map .val))
  | .rev2, [(.list xs, fl)] => if badFl fl xs then none else some (.lst ((xs.take (xs.length - 1)).reverse.map .val))
  | .rev, [(.tuple xs, fl)] => if fl = .deep then none else some (.val (.tuple xs.reverse))
  | _, _ => none
def evExt (f : Ext) (rs : List R3) : Env → Option (MV × Env) := fun ρ => (pks rs ρ).bind fun q => (extR f q.1).bind fun r => some (r, unl q.2.2 q.2.1)
def nodupB {κ : Type} [DecidableEq κ] : List κ → Bool
  | [] => true
  | x :: xs => !xs.contains x && nodupB xs
def evDct (ks : List Key) (es : List R3) : Env → Option (MV × Env) := fun ρ => (evs es ρ).bind fun q => if q.1.length = ks.length && nodupB ks && ks.length ≤ 15 then some (.nd (.dK ks) q.1, q.2) else none
/-- a dict comprehension's turns -/
def dcompL (tg : Tg) (fl : Fl) (ke ve : R3) (own : List Nat) : List D → MV → Env → Option (MV × Env)
  | [], acc, ρ => some (acc, ρ)
  | d :: ds, acc, ρ => (bindT tg (childFl fl d) d ρ).bind fun ρt => (keyE ke ρt).bind fun k => (ve.v k.2).bind fun v => (putMV acc k.1 v.1).bind fun acc' => dcompL tg fl ke ve own ds acc' (wipeE own v.2)
def evDcomp (ke ve : R3) (tg : Tg) (it : Env → Option (List D × Fl × Env × Lks)) (own : List Nat) : Env → Option (MV × Env) := fun ρ =>
  (it ρ).bind fun q => (dcompL tg q.2.1 ke ve own q.1 (.nd (.dK []) []) (wipeE own q.2.2.1)).bind fun c => some (c.1, unl q.2.2.2 (unwipe own q.2.2.1 c.2))
def isDic : MV → Bool
  | .nd (.dK _) _ => true
  | .nd (.dT _) _ => true
  | _ => false
/-- is the key one that such a dict can have -/
def keyFor (m : MV) (k : DKey) : Bool := match m, k with
  | .nd (.dK _) _, .k _ => true
  | .nd (.dT _) _, .t _ => true
  | _, _ => false
def evInT (neg : Bool) (k p : R3) : Env → Option (MV × Env) := fun ρ => (keyE k ρ).bind fun y => (p.q y.2).bind fun x => if keyFor x.m y.1 then some (.val (.bool ((ixMV x.m y.1).isSome != neg)), unl x.ls x.ρ) else none
def evLenT (p : R3) : Env → Option (MV × Env) := fun ρ => (p.q ρ).bind fun x => if isDic x.m then some (.val (.int (kids x.m).length), unl x.ls x.ρ) else none
def evGetT (p k df : R3) : Env → Option (MV × Env) := fun ρ => (p.q ρ).bind fun x => (keyE k x.ρ).bind fun y => (df.v y.2).bind fun w => if keyFor x.m y.1 then
    (match ixMV x.m y.1 with
    | none => if flat (freeze w.1) then some (.val (freeze w.1), unl x.ls w.2) else none
    | some n => match (kids x.m)[n]? with
      | some (.val d) => some (.val d, unl x.ls w.2)
      | _ => none) else none
/-- a dict by its display: names of ints -/
def intAt (ρ : Env) (i : Nat) : Option Int := match ρ[i]? with
  | some (.own (.val (.int n))) => some n
  | _ => none
def pairsV (ρ : Env) : List (Nat × Nat) → Option (List (Int × Int))
  | [] => some []
  | (i, j) :: r => (intAt ρ i).bind fun a => (intAt ρ j).bind fun b => (pairsV ρ r).bind fun q => some ((a, b) :: q)
def merI (ks : List Key) (vs : List D) : List (Int × Int) → List Key × List D
  | [] => (ks, vs)
  | (a, b) :: r => match posOf (.inl a) ks with
    | some n => merI ks (vs.set n (.int b)) r
    | none => merI (ks ++ [.inl a]) (vs ++ [.int b]) r
def evDctV (kvs : List (Nat × Nat)) : Env → Option (MV × Env) := fun ρ => (pairsV ρ kvs).bind fun ps => if ps.length ≤ 15 then some (.nd (.dK (merI [] [] ps).1) ((merI [] [] ps).2.map .val), ρ) else none
def dflOf (C : CtxQ) (j n : Nat) : Env := ((C.dfl j).drop ((C.dfl j).length - ((C.modes j).length - n))).map fun d => .own (.val d)
def evCallD (C : CtxQ) (j : Nat) (xs : List (Option Nat)) (rs : List R3) : Env → Option (MV × Env) := fun ρ =>
  (evA ((C.modes j).take rs.length) xs rs ρ).bind fun q => (fill q.1 q.2.1).bind fun sl => (C.call j (sl ++ dflOf C j rs.length)).bind fun c => (back q.1 (c.2.take sl.length) q.2.1).bind fun ρ2 => some (c.1, unl q.2.2 ρ2)
def isObj (c m : Str) : MV → Bool
  | .nd (.obj c' fs) _ => c' == c && !fs.contains m
  | _ => false
def recvOk (c m : Str) (as : List Arg) (ρ : Env) : Bool := match as with
  | .slot (.bor (.tree o) _) :: _ => isObj c m o
  | .place i :: _ => match ρ[i]? with
    | some (.own o) => isObj c m o
    | some (.io o) => isObj c m o
    | _ => false
  | _ => false
def evCallM (C : CtxQ) (j : Nat) (m : Str) (xs : List (Option Nat)) (rs : List R3) : Env → Option (MV × Env) := fun ρ =>
  (evA ((C.modes j).take rs.length) xs rs ρ).bind fun q => (C.cls j).bind fun c => if recvOk c m q.1 q.2.1 then
    (fill q.1 q.2.1).bind fun sl => (C.call j (sl ++ dflOf C j rs.length)).bind fun r => (back q.1 (r.2.take sl.length) q.2.1).bind fun ρ2 => some (r.1, unl q.2.2 ρ2)
  else none
def evNew (C : CtxQ) (c : Str) (j : Nat) (xs : List (Option Nat)) (rs : List R3) : Env → Option (MV × Env) := fun ρ =>
  (evA (((C.modes j).drop 1).take rs.length) xs rs ρ).bind fun q => (fill q.1 q.2.1).bind fun sl => (C.call j (.io (.nd (.obj c []) []) :: (sl ++ dflOf C j (rs.length + 1)))).bind fun r =>
    match r.1, r.2 with
    | .val .none, .io m :: outs => (back q.1 (outs.take sl.length) q.2.1).bind fun ρ2 => some (m, unl q.2.2 ρ2)
    | _, _ => none
/-! ### instances that are data -/
def objD : D → Option (Str × List D × List D)
  | .dict ((.none, .tuple [.int 2, .str c, .list fs]) :: r) => some (c, fs, r.map (·.2))
  | _ => none
def posD (f : Str) : List D → Option Nat
  | .str g :: r => if g = f then some 0 else (posD f r).map (· + 1)
  | _ => none
def fldD (d : D) (f : Str) : Option D := (objD d).bind fun q => (posD f q.2.1).bind fun n => q.2.2[n]?
def isObjD (c : Option Str) (m : Str) (d : D) : Bool := match objD d with
  | some q => decide (c = some q.1) && (posD m q.2.1).isNone
  | none => false
def evFldD (a : R3) (f : Str) : Env → Option (MV × Env) := fun ρ => (a.v ρ).bind fun q => (fldD (freeze q.1) f).bind fun c => some (.val c, q.2)
def datS (ds : List D) : Env := ds.map fun d => .own (.val d)
def evCallF (C : CtxQ) (j : Nat) (m : Str) (r : R3) (rs : List R3) : Env → Option (MV × Env) := fun ρ =>
  (r.v ρ).bind fun q0 => if isObjD (C.cls j) m (freeze q0.1) then (evs rs q0.2).bind fun q => (C.call j (datS (freeze q0.1 :: freezes q.1))).bind fun c => some (c.1, q.2) else none
def evMk (C : CtxQ) (c : Str) (j : Nat) (rs : List R3) : Env → Option (MV × Env) := fun ρ =>
  (evs rs ρ).bind fun q => (C.call j (.io (.nd (.obj c []) []) :: datS (freezes q.1))).bind fun r => match r.1, r.2 with
    | .val .none, .io m :: _ => some (m, q.2)
    | _, _ => none
def moveVar (i : Nat) (ρ : Env) : Option (MV × Env) := match ρ[i]? with
  | some (.own m) => some (m, ρ.set i .unset)
  | _ => none
def evBlt (f : Blt) (rs : List R3) : Env → Option (MV × Env) := fun ρ => (pks rs ρ).bind fun q => (bltR f q.1).bind fun r => some (r, unl q.2.2 q.2.1)
def evComp (elt : R3) (tg : Tg) (it : Env → Option (List D × Fl × Env × Lks)) (cond : Option R3) (own : List Nat) : Env → Option (MV × Env) := fun ρ =>
  (it ρ).bind fun q => (compL tg q.2.1 cond elt own q.1 [] (wipeE own q.2.2.1)).bind fun c =>
    if c.1.length ≤ sizeLine then some (.lst c.1, unl q.2.2.2 (unwipe own q.2.2.1 c.2)) else none

/-- the inner walk of a comprehension: what is frozen, or a range -/
def evJ0 (a : R3) : Env → Option (List D × Env) := fun ρ => (a.p ρ).bind fun q => if q.2.1 = .val ∧ q.2.2.2.isEmpty = true then (items? q.1).bind fun xs => some (xs, q.2.2.1) else none
def evJ1 (a : R3) : Env → Option (List D × Env) := fun ρ => (a.v ρ).bind fun q => (intOf q.1).bind fun n => if inRng n then some (rangeD 0 n.toNat, q.2) else none
def evJ2 (a b : R3) : Env → Option (List D × Env) := fun ρ => (a.v ρ).bind fun q => (b.v q.2).bind fun q2 => (intOf q.1).bind fun i => (intOf q2.1).bind fun j => if inRng i && inRng j then some (rangeD i (j - i).toNat, q2.2) else none
def evJ (k : Nat) (a : R3) (b : Option R3) : Env → Option (List D × Env) := match k, b with
  | 0, none => evJ0 a
  | 1, none => evJ1 a
  | 2, some b => evJ2 a b
  | _, _ => fun _ => none
/-- the turns of a comprehension with two clauses -/
def comp2L (tg : Tg) (tg1 : Tg) (it1 : Env → Option (List D × Env)) (cond : Option R3) (elt : R3) (own own1 : List Nat) : List D → List MV → Env → Option (List MV × Env)
  | [], acc, ρ => some (acc, ρ)
  | d :: ds, acc, ρ => (bindT tg .val d ρ).bind fun ρt => (it1 ρt).bind fun q => (compL tg1 .val cond elt own1 q.1 acc (wipeE own1 q.2)).bind fun c =>
      comp2L tg tg1 it1 cond elt own own1 ds c.1 (wipeE own c.2)
def evComp2 (elt : R3) (tg : Tg) (it : Env → Option (List D × Fl × Env × Lks)) (tg1 : Tg) (it1 : Env → Option (List D × Env)) (cond : Option R3) (own own1 : List Nat) : Env → Option (MV × Env) := fun ρ =>
  (it ρ).bind fun q => if q.2.1 = .deep then none else (comp2L tg tg1 it1 cond elt (own ++ own1) own1 q.1 [] (wipeE (own ++ own1) q.2.2.1)).bind fun c =>
    if c.1.length ≤ sizeLine then some (.lst c.1, unl q.2.2.2 (unwipe (own ++ own1) q.2.2.1 c.2)) else none

section
variable (C : CtxQ)
mutual
def run : E → R3
  | .var i => { ofV (takeVar i) with p := peekVar i, q := qVar i }
  | .cst d => ofV fun ρ => some (.val d, ρ)
  | .gl k => ofV fun ρ => (C.glob k).bind fun d => some (.val d, ρ)
  | .tup es => { ofV (fun ρ => (evs (runs es) ρ).bind fun q => if q.1.length ≤ sizeLine then some (.val (.tuple (freezes q.1)), q.2) else none) with
      kd := fun ρ => (evs (runs es) ρ).bind fun q => if q.1.length ≤ sizeLine then (keysOf (freezes q.1)).bind fun ks => some (ks, q.2) else none }
  | .lst es => ofV fun ρ => (evs (runs es) ρ).bind fun q => if q.1.length ≤ sizeLine then some (.lst q.1, q.2) else none
  | .bin op a b => ofV (evBin op (run a) (run b))
  | .neg a => ofV fun ρ => ((run a).v ρ).bind fun q => (intOf q.1).bind fun i => some (.val (.int (-i)), q.2)
  | .cmp op a b => ofV (evCmp op (run a) (run b))
  | .chn o1 o2 a b c => ofV (evChn o1 o2 (run a) (run b) (run c))
  | .isN a => ofV fun ρ => ((run a).p ρ).bind fun q => some (.val (.bool (isNone q.1)), unl q.2.2.2 q.2.2.1)
  | .notN a => ofV fun ρ => ((run a).p ρ).bind fun q => some (.val (.bool (!isNone q.1)), unl q.2.2.2 q.2.2.1)
  | .and a b => { ofV (evAnd (run a) (run b)) with t := fun ρ => ((run a).t ρ).bind fun q => if q.1 then (run b).t q.2 else some (false, q.2) }
  | .or a b => { ofV (evOr (run a) (run b)) with t := fun ρ => ((run a).t ρ).bind fun q => if q.1 then some (true, q.2) else (run b).t q.2 }
  | .not a => { ofV (evNot (run a)) with t := fun ρ => ((run a).t ρ).bind fun q => some (!q.1, q.2) }
  | .ite c a b => { ofV (evIte (run c) (run a) (run b)) with t := fun ρ => ((run c).t ρ).bind fun q => if q.1 then (run a).t q.2 else (run b).t q.2 }
  | .idx a b => { ofV (fun ρ => if treeQ (run a) ρ then vOfQ (qIdx (run a) (run b)) ρ else evIdx (run a) (run b) ρ) with
      p := fun ρ => if treeQ (run a) ρ then pOfQ (qIdx (run a) (run b)) ρ else pkIdx (run a) (run b) ρ
      q := qIdx (run a) (run b) }
  | .fld a f => { ofV (fun ρ => if treeQ (run a) ρ then vOfQ (qFld (run a) f) ρ else evFldD (run a) f ρ) with
      p := fun ρ => if treeQ (run a) ρ then pOfQ (qFld (run a) f) ρ else (evFldD (run a) f ρ).bind fun q => some (freeze q.1, .val, q.2, [])
      q := qFld (run a) f }
  | .mop op p args => ofV (evMop op (run p) (runs args))
  | .ext f args => ofV (evExt f (runs args))
  | .comp2 elt tg it tg1 k1 a1 b1 cond own own1 => ofV (evComp2 (run elt) tg (runI it) tg1 (evJ k1 (run a1) (runO b1)) (runO cond) own own1)
  | .dct ks es => ofV (evDct ks (runs es))
  | .dctV kvs => ofV (evDctV kvs)
  | .dnew t => ofV fun ρ => some (.nd (if t then .dT [] else .dK []) [], ρ)
  | .dcomp ke ve tg it own => ofV (evDcomp (run ke) (run ve) tg (runI it) own)
  | .inT neg k p => ofV (evInT neg (run k) (run p))
  | .lenT p => ofV (evLenT (run p))
  | .getT p k df => ofV (evGetT (run p) (run k) (run df))
  | .callD j args => ofV (evCallD C j (args.map varOf) (runs args))
  | .callM j m args => ofV (evCallM C j m (args.map varOf) (runs args))
  | .new c j args => ofV (evNew C c j (args.map varOf) (runs args))
  | .mv i => ofV (moveVar i)
  | .callF j m r args => ofV (evCallF C j m (run r) (runs args))
  | .mk c j args => ofV (evMk C c j (runs args))
  | .frz a => ofV fun ρ => ((run a).v ρ).bind fun q => some (.val (freeze q.1), q.2)
  | .slc a lo hi => ofV (evSlc (run a) (runO lo) (runO hi))
  | .call j args => ofV (evCall C j (args.map varOf) (runs args))
  | .callK i args => ofV (evCallK C i (args.map varOf) (runs args))
  | .callT j a => ofV fun ρ => ((run a).v ρ).bind fun q => (C.call j [.own q.1]).bind fun c => some (c.1, q.2)
  | .blt f args => ofV (evBlt f (runs args))
  | .comp elt tg it cond own => ofV (evComp (run elt) tg (runI it) (runO cond) own)
def runs : List E → List R3
  | [] => []
  | e :: es => run e :: runs es
def runO : Option E → Option R3
  | none => none
  | some e => some (run e)
def runI : It → Env → Option (List D × Fl × Env × Lks)
  | .seq e => fun ρ => ((run e).p ρ).bind fun q => (items? q.1).bind fun xs => some (xs, if q.2.1 = .deep then .deep else .val, q.2.2.1, q.2.2.2)
  | .rng1 a => fun ρ => ((run a).v ρ).bind fun q => (intOf q.1).bind fun n => if inRng n then some (rangeD 0 n.toNat, .val, q.2, []) else none
  | .rng2 a b => fun ρ => ((run a).v ρ).bind fun q => ((run b).v q.2).bind fun q2 => (intOf q.1).bind fun i => (intOf q2.1).bind fun j =>
      if inRng i && inRng j then some (rangeD i (j - i).toNat, .val, q2.2, []) else none
  | .enum a => fun ρ => ((run a).p ρ).bind fun q => (items? q.1).bind fun xs => some (enumD 0 xs, if q.2.1 = .deep then .deep else .val, q.2.2.1, q.2.2.2)
  | .zip a b => fun ρ => ((run a).p ρ).bind fun q => ((run b).p q.2.2.1).bind fun q2 => (sameSeq q.1 q2.1).bind fun xy =>
      some (zipD xy.1 xy.2, if q.2.1 = .deep ∨ q2.2.1 = .deep then .deep else .val, q2.2.2.1, q.2.2.2 ++ q2.2.2.2)
end

/-! ### statements -/
def thenS (x : Option (Flow × Env)) (k : Env → Option (Flow × Env)) : Option (Flow × Env) := x.bind fun q => match q.1 with
  | .next => k q.2
  | _ => some q
/-- the turns of a for -/
def forL (tg : Tg) (fl : Fl) (body : Env → Option (Flow × Env)) : List D → Env → Option (Flow × Env)
  | [], ρ => some (.next, ρ)
  | d :: ds, ρ => (bindT tg (childFl fl d) d ρ).bind fun ρt => (body ρt).bind fun q => match q.1 with
    | .next => forL tg fl body ds q.2
    | .cnt => forL tg fl body ds q.2
    | .brk => some (.next, q.2)
    | .ret r => some (.ret r, q.2)
def whileL (c : R3) (body : Env → Option (Flow × Env)) : Nat → Env → Option (Flow × Env)
  | 0, _ => none
  | n + 1, ρ => (c.t ρ).bind fun q => if q.1 then (body q.2).bind fun q2 => match q2.1 with
    | .next => whileL c body n q2.2
    | .cnt => whileL c body n q2.2
    | .brk => some (.next, q2.2)
    | .ret r => some (.ret r, q2.2)
    else some (.next, q.2)
def setItem (x : Nat) (i : Int) (r : MV) (ρ : Env) : Option Env := match ρ[x]? with
  | some (.own (.lst ms)) => (ixN ms.length i).bind fun k => some (ρ.set x (.own (.lst (ms.set k r))))
  | some (.io (.lst ms)) => (ixN ms.length i).bind fun k => some (ρ.set x (.io (.lst (ms.set k r))))
  | _ => none
def appItem (x : Nat) (r : MV) (ρ : Env) : Option Env := match ρ[x]? with
  | some (.own (.lst ms)) => if ms.length < sizeLine then some (ρ.set x (.own (.lst (ms ++ [r])))) else none
  | some (.io (.lst ms)) => if ms.length < sizeLine then some (ρ.set x (.io (.lst (ms ++ [r])))) else none
  | _ => none
def augI (op : BOp) (n k : Int) : Option Int := match op with
  | .add => some (n + k)
  | .sub => some (n - k)
  | .mul => if (-big < n && n < big) then some (n * k) else none
  | _ => none
def isLstAt (x : Nat) (ρ : Env) : Bool := match ρ[x]? with
  | some (.own (.lst _)) => true
  | some (.io (.lst _)) => true
  | _ => false
/-- a field stored -/
def putF? (c0 : Str) (m : MV) (f : Str) (r : MV) : Option MV := match m with
  | .nd (.obj c fs) ms => if c = c0 ∧ fs.length < 1000 then (match posOf f fs with
    | some n => some (.nd (.obj c fs) (ms.set n r))
    | none => some (.nd (.obj c (fs ++ [f])) (ms ++ [r]))) else none
  | _ => none
def tupOf : D → Option (List D)
  | .tuple ds => some ds
  | _ => none
def putFs (i : Nat) : List Str → List D → Env → Option Env
  | f :: fs, d :: ds, ρ => (qVar i ρ).bind fun x => (putF? "" x.m f (.val d)).bind fun m => (putPl i [] m ρ).bind fun ρ2 => putFs i fs ds ρ2
  | _, _, ρ => some ρ
/-- a local tree that is handed back -/
def moveOf (e : E) (ρ : Env) : Option (MV × Env) := match e with
  | .var i => match ρ[i]? with
    | some (.own m) => some (m, ρ.set i .unset)
    | _ => none
  | _ => none
/-- slots that may be given up -/
def gone (is : List Nat) (ρ : Env) : Bool := is.all fun i => match ρ[i]? with
  | some .unset => true
  | some (.own _) => true
  | some (.bor _ _) => true
  | _ => false
def frzAt (i : Nat) (ρ : Env) : Option Env := match ρ[i]? with
  | some (.own m) => some (ρ.set i (.own (.val (freeze m))))
  | _ => none
/-- several names at once -/
def putVars : List Nat → List MV → Env → Option Env
  | [], [], ρ => some ρ
  | i :: is, m :: ms, ρ => (putVar i (.own m) ρ).bind fun ρ2 => putVars is ms ρ2
  | _, _, _ => none
mutual
def exe : S → Env → Option (Flow × Env)
  | .pass, ρ => some (.next, ρ)
  | .ret e, ρ => match moveOf e ρ with
    | some q => some (.ret q.1, q.2)
    | none => ((run C e).v ρ).bind fun q => some (.ret q.1, q.2)
  | .retN, ρ => some (.ret (.val .none), ρ)
  | .asg tg e, ρ => ((run C e).v ρ).bind fun q => match tg with
    | .name i => (putVar i (.own q.1) q.2).bind fun ρ2 => some (.next, ρ2)
    | .tup ts => (bindT (.tup ts) .val (freeze q.1) q.2).bind fun ρ2 => some (.next, ρ2)
  | .par i j a b, ρ => ((run C a).v ρ).bind fun q => ((run C b).v q.2).bind fun q2 => (putVar i (.own q.1) q2.2).bind fun ρ1 => (putVar j (.own q2.1) ρ1).bind fun ρ2 => some (.next, ρ2)
  | .setI x ix e, ρ => ((run C e).v ρ).bind fun q => if isLstAt x q.2 then ((run C ix).v q.2).bind fun q2 => (intOf q2.1).bind fun i => (setItem x i q.1 q2.2).bind fun ρ2 => some (.next, ρ2) else none
  | .app x e, ρ => if isLstAt x ρ then ((run C e).v ρ).bind fun q => (appItem x q.1 q.2).bind fun ρ2 => some (.next, ρ2) else none
  | .aug i op e, ρ => match ρ[i]? with
    | some (.own (.val (.int n))) => ((run C e).v ρ).bind fun q => (intOf q.1).bind fun k => (augI op n k).bind fun r => (putVar i (.own (.val (.int r))) q.2).bind fun ρ2 => some (.next, ρ2)
    | _ => none
  | .expr e, ρ => ((run C e).v ρ).bind fun q => some (.next, q.2)
  | .ifs c a b, ρ => ((run C c).t ρ).bind fun q => if q.1 then exes a q.2 else exes b q.2
  | .forS tg it body, ρ => (runI C it ρ).bind fun q => (forL tg q.2.1 (exes body) q.1 q.2.2.1).bind fun f => some (f.1, unl q.2.2.2 (clrT tg f.2))
  | .whil n c body, ρ => whileL (run C c) (exes body) n ρ
  | .putT p k e, ρ => ((run C e).v ρ).bind fun r => ((run C p).q r.2).bind fun x => (keyE (run C k) x.ρ).bind fun y => (putMV x.m y.1 r.1).bind fun m => if x.ls.isEmpty then none else (putPl x.i x.w m (unl x.ls y.2)).bind fun ρ2 => some (.next, ρ2)
  | .fldT c p f e, ρ => ((run C e).v ρ).bind fun r => ((run C p).q r.2).bind fun x => (putF? c x.m f r.1).bind fun m => if x.ls.isEmpty then none else (putPl x.i x.w m (unl x.ls x.ρ)).bind fun ρ2 => some (.next, ρ2)
  | .fldsT i fs e, ρ => ((run C e).v ρ).bind fun r => (tupOf (freeze r.1)).bind fun ds => if ds.length = fs.length then (putFs i fs ds r.2).bind fun ρ2 => some (.next, ρ2) else none
  | .stuck, _ => none
  | .forget is, ρ => if gone is ρ then some (.next, wipeE is ρ) else none
  | .parN is es, ρ => (evs (runs C es) ρ).bind fun q => (putVars is q.1 q.2).bind fun ρ2 => some (.next, ρ2)
  | .frzV i, ρ => (frzAt i ρ).bind fun ρ2 => some (.next, ρ2)
def exes : List S → Env → Option (Flow × Env)
  | [], ρ => some (.next, ρ)
  | s :: ss, ρ => thenS (exe s ρ) (exes ss)
end
end

structure DefI where
  name : Str
  np : Nat
  names : List Str
  modes : List Mode
  body : List S
  cls : Option Str := none
  dfl : List D := []
  qual : Option Str := none
def DefI.qn (d : DefI) : Str := d.qual.getD d.name
def retOf : Flow → Option MV
  | .next => some (.val .none)
  | .ret r => some r
  | _ => none
def runDef (P : List DefI) (G : List (Str × D)) (W : List KwI) : Nat → Nat → Env → Option (MV × Env)
  | 0, _, _ => none
  | n + 1, j, sl => match P[j]? with
    | none => none
    | some d => if sl.length = d.np then
        (exes ⟨runDef P G W n, fun k => ((P[k]?).map (·.modes)).getD [], fun k => (G[k]?).map (·.2), W, fun k => (P[k]?).bind (·.cls), fun k => ((P[k]?).map (·.dfl)).getD []⟩ d.body (sl ++ List.replicate (d.names.length - sl.length) .unset)).bind fun q =>
          (retOf q.1).bind fun r => some (r, q.2.take d.np)
      else none
end Q
namespace Q
open PySem L2

def isBor : Slot → Bool
  | .bor _ _ => true
  | _ => false
theorem SlotR.anyS {K : PySem.W.Frag} {A S S' : AP} {H : Hp} {s : Slot} {o : Option V} {T : List Addr} (h : isBor s = false) (r : SlotR K A S H s o T) : SlotR K A S' H s o T := by
  cases r with
  | unset => exact .unset
  | own r => exact .own r
  | io r => exact .io r
  | lck r => exact .lck r
  | bor r => cases h

section
variable {K : PySem.W.Frag} {z z' z1 z2 zf : Z}
/-- a later state: the borrowed slots are as they were -/
theorem Stp.build (R : Rel K z) (fr : Fr z.A z.S z.H zf.A zf.S zf.H) (kp : Kp z.ρ z.σ z.TS zf.ρ zf.σ zf.TS) (len : zf.ρ.length = zf.σ.length)
    (slot : ∀ (i : Nat) s, zf.ρ[i]? = some s → isBor s = false → ∃ o, zf.σ[i]? = some o ∧ SlotR K zf.A zf.S zf.H s o (zf.TS i))
    (bz : ∀ (i : Nat) fl d, zf.ρ[i]? = some (Slot.bor fl d) → zf.TS i = [])
    (out : ∀ (i : Nat), zf.ρ[i]? = none → zf.TS i = []) (nd : ∀ i, (zf.TS i).Nodup) (dj : ∀ i j a, a ∈ zf.TS i → a ∈ zf.TS j → i = j) (trk : ∀ a, zf.A a → zf.H a ≠ none) : Stp K z zf := by
  refine ⟨⟨len, fun i s e => ?_, out, nd, dj, trk⟩, fr, kp⟩
  cases hb : isBor s with
  | false => exact slot i s e hb
  | true =>
    cases s with
    | bor fl d =>
      obtain ⟨h1, h2⟩ := kp.bor i fl d e
      obtain ⟨o, h3, r⟩ := R.slot i _ h1
      rw [bz i fl d e]
      refine ⟨o, h2.trans h3, ?_⟩
      generalize z.TS i = T at r
      cases r with
      | bor r => exact .bor (r.fr R.sub fr)
    | unset => cases hb
    | own _ => cases hb
    | io _ => cases hb
    | lck _ => cases hb

/-- the state with other slots -/
def Z.setR (z : Z) (ρ : Env) : Z := { z with ρ := ρ }

/-- the state z', some slots locked (ls), comes from z: behind the unlocking it is a later state of z -/
structure Pend (K : PySem.W.Frag) (ls : Lks) (z z' : Z) : Prop where
  rel : Rel K z'
  fr : Fr z.A z.S z.H z'.A z'.S z'.H
  close : ∀ z'', Stp K z' z'' → Stp K z (z''.setR (unl ls z''.ρ))
theorem Pend.of (R : Rel K z) (s : Stp K z z') : Pend K [] z z' := ⟨s.rel, s.fr, fun z'' t => s.trans R t⟩
theorem unl_append (a b : Lks) (ρ : Env) : unl (a ++ b) ρ = unl a (unl b ρ) := by
  induction a with
  | nil => rfl
  | cons p r ih => obtain ⟨i, s⟩ := p; show (unl (r ++ b) ρ).set i s = _; rw [ih]; rfl
theorem Pend.trans {l1 l2 : Lks} (R : Rel K z) (a : Pend K l1 z z1) (b : Pend K l2 z1 z2) : Pend K (l1 ++ l2) z z2 := by
  refine ⟨b.rel, a.fr.trans R.trk b.fr, fun z'' t => ?_⟩
  have h := a.close _ (b.close z'' t)
  rw [unl_append]
  exact h
theorem Pend.step {l : Lks} (R : Rel K z) (a : Pend K l z z1) (b : Stp K z1 z2) : Pend K l z z2 :=
  ⟨b.rel, a.fr.trans R.trk b.fr, fun z'' t => a.close z'' (b.trans a.rel t)⟩
theorem Stp.pend {l : Lks} (R : Rel K z) (a : Stp K z z1) (b : Pend K l z1 z2) : Pend K l z z2 :=
  ⟨b.rel, a.fr.trans R.trk b.fr, fun z'' t => a.trans R (b.close z'' t)⟩

theorem set_get {ρ : Env} {i j : Nat} {s t : Slot} (h : (ρ.set i s)[j]? = some t) : (j = i ∧ t = s) ∨ (j ≠ i ∧ ρ[j]? = some t) := by
  by_cases e : i = j
  · subst e
    by_cases hl : i < ρ.length
    · rw [List.getElem?_set_self hl] at h
      exact .inl ⟨rfl, (Option.some.inj h).symm⟩
    · rw [List.getElem?_eq_none (by simpa using hl)] at h
      cases h
  · rw [List.getElem?_set_ne e] at h
    exact .inr ⟨fun z => e z.symm, h⟩
theorem set_self {ρ : Env} {i : Nat} {s t : Slot} (h : ρ[i]? = some t) : (ρ.set i s)[i]? = some s := by
  rw [List.getElem?_set_self (List.getElem?_eq_some_iff.mp h).1]
theorem set_ne {ρ : Env} {i j : Nat} {s : Slot} (h : j ≠ i) : (ρ.set i s)[j]? = ρ[j]? := List.getElem?_set_ne (fun e => h e.symm)
theorem set_none {ρ : Env} {i j : Nat} {s : Slot} : (ρ.set i s)[j]? = none ↔ ρ[j]? = none := by simp [List.getElem?_eq_none_iff]

def ownS (b : Bool) (m : MV) : Slot := if b then .own m else .io m
theorem ownS_r {A S : AP} {H : Hp} {b : Bool} {m : MV} {v : V} {T : List Addr} (h : Own K A H m v T) : SlotR K A S H (ownS b m) (some v) T := by
  cases b
  · exact .io h
  · exact .own h
theorem ownS_get {A S : AP} {H : Hp} {b : Bool} {m : MV} {o : Option V} {T : List Addr} (h : SlotR K A S H (ownS b m) o T) : ∃ v, o = some v ∧ Own K A H m v T := by
  cases b
  · cases h with | io r => exact ⟨_, rfl, r⟩
  · cases h with | own r => exact ⟨_, rfl, r⟩
theorem ownS_bor {b : Bool} {m : MV} : isBor (ownS b m) = false := by cases b <;> rfl
theorem ownS_lck {b : Bool} {m m' : MV} : ownS b m ≠ .lck m' := by cases b <;> (intro h; cases h)

/-- a slot locked -/
theorem lock_ok (R : Rel K z) {i : Nat} {b : Bool} {m : MV} (h : z.ρ[i]? = some (ownS b m)) :
    Pend K [(i, ownS b m)] z (z.setR (z.ρ.set i (.lck m))) ∧ ∃ v, z.σ[i]? = some (some v) ∧ Own K z.A z.H m v (z.TS i) ∧ ∀ a ∈ z.TS i, ¬ (z.setR (z.ρ.set i (.lck m))).S a := by
  obtain ⟨o, eo, ro⟩ := R.slot i _ h
  obtain ⟨v, rfl, ow⟩ := ownS_get ro
  have lk : ∀ j, Lk (z.ρ.set i (.lck m)) j ↔ j = i ∨ Lk z.ρ j := fun j => by
    constructor
    · rintro ⟨m', e⟩
      rcases set_get e with ⟨e1, _⟩ | ⟨_, e1⟩
      · exact .inl e1
      · exact .inr ⟨m', e1⟩
    · rintro (rfl | ⟨m', e⟩)
      · exact ⟨m, set_self h⟩
      · by_cases hj : j = i
        · subst hj; exact ⟨m, set_self h⟩
        · exact ⟨m', (set_ne hj).trans e⟩
  have nS : ∀ a, (z.setR (z.ρ.set i (.lck m))).S a ↔ z.S a ∧ a ∉ z.TS i := fun a => by
    constructor
    · rintro ⟨j, hj, nl⟩
      have nl' : ¬ (j = i ∨ Lk z.ρ j) := fun q => nl ((lk j).mpr q)
      refine ⟨⟨j, hj, fun q => nl' (.inr q)⟩, fun hi => nl' (.inl (R.dj j i a hj hi))⟩
    · rintro ⟨⟨j, hj, nl⟩, ni⟩
      refine ⟨j, hj, fun q => ?_⟩
      rcases (lk j).mp q with rfl | q
      · exact ni hj
      · exact nl q
  have frz : Fr z.A z.S z.H z.A (z.setR (z.ρ.set i (.lck m))).S z.H := ⟨fun _ _ e _ => e, fun _ q => .inl q, fun a q => .inl ((nS a).mp q).1, fun _ q _ => q, fun _ q => q⟩
  have R1 : Rel K (z.setR (z.ρ.set i (.lck m))) := by
    refine ⟨by show (z.ρ.set i _).length = _; rw [List.length_set]; exact R.len, fun j s e => ?_, fun j e => R.out j (set_none.mp e), R.nd, R.dj, R.trk⟩
    rcases set_get e with ⟨rfl, rfl⟩ | ⟨_, e1⟩
    · exact ⟨_, eo, .lck ow⟩
    · obtain ⟨o', e2, r⟩ := R.slot j s e1
      refine ⟨o', e2, ?_⟩
      cases hb : isBor s with
      | false => exact r.anyS hb
      | true =>
        cases s with
        | bor fl d =>
          show SlotR K z.A _ z.H _ _ (z.TS j)
          generalize z.TS j = T at r
          cases r with
          | bor r => exact .bor (r.lessS fun a q => ((nS a).mp q).1)
        | unset => cases hb
        | own _ => cases hb
        | io _ => cases hb
        | lck _ => cases hb
  refine ⟨⟨R1, frz, fun z'' t => ?_⟩, v, eo, ow, fun a ha q => ((nS a).mp q).2 ha⟩
  -- the unlocking
  obtain ⟨k1, k2, k3⟩ := t.kp.lck i m (set_self h)
  have k2 : z''.σ[i]? = z.σ[i]? := k2
  have k3 : z''.TS i = z.TS i := k3
  obtain ⟨o2, e2, r2⟩ := t.rel.slot i _ k1
  have uS : ∀ a, (z''.setR (z''.ρ.set i (ownS b m))).S a ↔ z''.S a ∨ a ∈ z''.TS i := fun a => by
    constructor
    · rintro ⟨j, hj, nl⟩
      by_cases hji : j = i
      · subst hji; exact .inr hj
      · refine .inl ⟨j, hj, fun ⟨m', e⟩ => nl ⟨m', (set_ne hji).trans e⟩⟩
    · rintro (⟨j, hj, nl⟩ | hj)
      · refine ⟨j, hj, fun ⟨m', e⟩ => ?_⟩
        rcases set_get e with ⟨_, e1⟩ | ⟨_, e1⟩
        · exact ownS_lck e1.symm
        · exact nl ⟨m', e1⟩
      · refine ⟨i, hj, fun ⟨m', e⟩ => ?_⟩
        have e : (z''.ρ.set i (ownS b m))[i]? = some (Slot.lck m') := e
        rw [set_self k1] at e
        exact ownS_lck (Option.some.inj e)
  have inS : ∀ a ∈ z.TS i, z.S a := fun a ha => ⟨i, ha, fun ⟨m', e⟩ => by rw [h] at e; exact ownS_lck (Option.some.inj e)⟩
  have fr0 := frz.trans R.trk t.fr
  show Stp K z (z''.setR (z''.ρ.set i (ownS b m)))
  refine Stp.build R ⟨fr0.keep, fr0.newA, fun a q => ?_, fr0.keepA, fr0.there⟩ ⟨?_, fun j m' e => ?_, fun j m' e => ?_, fun j m' e => ?_, fun j m' e => ?_, fun j fl d e => ?_⟩ ?_ (fun j s e hb => ?_) (fun j fl d e => ?_) (fun j e => ?_) t.rel.nd t.rel.dj t.rel.trk
  · rcases (uS a).mp q with q | q
    · exact fr0.newS a q
    · rw [k3] at q; exact .inl (inS a q)
  · show (z''.ρ.set i _).length = _
    rw [List.length_set, t.kp.len]
    show (z.ρ.set i _).length = _
    rw [List.length_set]
  · have hji : j ≠ i := fun q => by subst q; rw [h] at e; exact ownS_lck (Option.some.inj e)
    obtain ⟨a1, a2, a3⟩ := t.kp.lck j m' ((set_ne hji).trans e)
    exact ⟨(set_ne hji).trans a1, a2, a3⟩
  · rcases set_get e with ⟨_, e1⟩ | ⟨hji, e1⟩
    · exact absurd e1.symm ownS_lck
    · have e3 : (z.ρ.set i (.lck m))[j]? = some (Slot.lck m') := t.kp.lckB j m' e1
      rw [set_ne hji] at e3
      exact e3
  · by_cases hji : j = i
    · subst hji
      rw [h] at e
      cases b with
      | true => cases e
      | false => exact ⟨m, set_self k1, k2⟩
    · obtain ⟨m2, a1, a2⟩ := t.kp.io j m' ((set_ne hji).trans e)
      exact ⟨m2, (set_ne hji).trans a1, a2⟩
  · rcases set_get e with ⟨e0, e1⟩ | ⟨hji, e1⟩
    · subst e0
      cases b with
      | true => cases e1
      | false => exact ⟨m, h⟩
    · obtain ⟨m2, a1⟩ := t.kp.ioB j m' e1
      have a1 : (z.ρ.set i (.lck m))[j]? = some (Slot.io m2) := a1
      rw [set_ne hji] at a1
      exact ⟨m2, a1⟩
  · rcases set_get e with ⟨_, e1⟩ | ⟨hji, e1⟩
    · cases b <;> cases e1
    · obtain ⟨a1, a2⟩ := t.kp.bor j fl d e1
      have a1 : (z.ρ.set i (.lck m))[j]? = some (Slot.bor fl d) := a1
      rw [set_ne hji] at a1
      exact ⟨a1, a2⟩
  · show (z''.ρ.set i _).length = _
    rw [List.length_set]; exact t.rel.len
  · rcases set_get e with ⟨rfl, rfl⟩ | ⟨hji, e1⟩
    · cases r2 with
      | lck r2 => exact ⟨_, e2, ownS_r r2⟩
    · obtain ⟨o', e3, r⟩ := t.rel.slot j s e1
      exact ⟨o', e3, r.anyS hb⟩
  · rcases set_get e with ⟨_, e1⟩ | ⟨hji, e1⟩
    · cases b <;> cases e1
    · obtain ⟨o', e3, r⟩ := t.rel.slot j _ e1
      generalize hT : z''.TS j = T at r
      show z''.TS j = []
      rw [hT]
      cases r with
      | bor _ => rfl
  · exact t.rel.out j (set_none.mp e)
end
end Q
namespace Q
open PySem L2

section
variable {K : PySem.W.Frag} {z z' z1 z2 zf : Z}

theorem sset_get {σ : St} {i j : Nat} {v : Option V} (h : i < σ.length) : (σ.set i v)[j]? = if j = i then some v else σ[j]? := by
  by_cases e : j = i
  · subst e; rw [if_pos rfl, List.getElem?_set_self h]
  · rw [if_neg e, List.getElem?_set_ne (fun q => e q.symm)]

/-- a slot's own tree is exchanged for another one (its kind stays): from state z to z' with the same slots, but slot i's tree -/
def Z.putT (z : Z) (A : AP) (H : Hp) (i : Nat) (s : Slot) (T : List Addr) : Z := { z with A := A, H := H, ρ := z.ρ.set i s, TS := z.TS.up i T }
theorem putT_S {A : AP} {H : Hp} {i : Nat} {b : Bool} {m0 m : MV} {T : List Addr} (h : z.ρ[i]? = some (ownS b m0)) (a : Addr) : (z.putT A H i (ownS b m) T).S a ↔ (z.S a ∧ a ∉ z.TS i ∨ a ∈ T) ∨ (z.S a ∧ ∃ j, j ≠ i ∧ a ∈ z.TS j ∧ ¬ Lk z.ρ j) := by
  have lk : ∀ j, Lk (z.ρ.set i (ownS b m)) j ↔ Lk z.ρ j := fun j => by
    by_cases e : j = i
    · subst e
      constructor
      · rintro ⟨m', q⟩; rw [set_self h] at q; exact absurd (Option.some.inj q) ownS_lck
      · rintro ⟨m', q⟩; rw [h] at q; exact absurd (Option.some.inj q) ownS_lck
    · exact ⟨fun ⟨m', q⟩ => ⟨m', by rw [set_ne e] at q; exact q⟩, fun ⟨m', q⟩ => ⟨m', by rw [set_ne e]; exact q⟩⟩
  constructor
  · rintro ⟨j, hj, nl⟩
    have hj : a ∈ z.TS.up i T j := hj
    have nl : ¬ Lk z.ρ j := fun q => nl ((lk j).mpr q)
    by_cases e : j = i
    · subst e; rw [TSet.up_same] at hj; exact .inl (.inr hj)
    · rw [TSet.up_ne e] at hj; exact .inr ⟨⟨j, hj, nl⟩, j, e, hj, nl⟩
  · rintro ((⟨⟨j, hj, nl⟩, hn⟩ | hT) | ⟨_, j, e, hj, nl⟩)
    · have e : j ≠ i := fun q => by subst q; exact hn hj
      exact ⟨j, by show a ∈ z.TS.up i T j; rw [TSet.up_ne e]; exact hj, fun q => nl ((lk j).mp q)⟩
    · exact ⟨i, by show a ∈ z.TS.up i T i; rw [TSet.up_same]; exact hT, fun ⟨m', q⟩ => by
        have q : (z.ρ.set i (ownS b m))[i]? = some (Slot.lck m') := q
        rw [set_self h] at q; exact absurd (Option.some.inj q) ownS_lck⟩
    · exact ⟨j, by show a ∈ z.TS.up i T j; rw [TSet.up_ne e]; exact hj, fun q => nl ((lk j).mp q)⟩
theorem putT_Kp {A : AP} {H : Hp} {i : Nat} {b : Bool} {m0 m : MV} {T : List Addr} (h : z.ρ[i]? = some (ownS b m0)) : Kp z.ρ z.σ z.TS (z.putT A H i (ownS b m) T).ρ (z.putT A H i (ownS b m) T).σ (z.putT A H i (ownS b m) T).TS := by
  show Kp z.ρ z.σ z.TS (z.ρ.set i (ownS b m)) z.σ (z.TS.up i T)
  refine ⟨by rw [List.length_set], fun j m' e => ?_, fun j m' e => ?_, fun j m' e => ?_, fun j m' e => ?_, fun j fl d e => ?_⟩
  · have hji : j ≠ i := fun q => by subst q; rw [h] at e; exact ownS_lck (Option.some.inj e)
    exact ⟨(set_ne hji).trans e, rfl, TSet.up_ne hji⟩
  · rcases set_get e with ⟨_, e1⟩ | ⟨_, e1⟩
    · exact absurd e1.symm ownS_lck
    · exact e1
  · by_cases hji : j = i
    · subst hji
      rw [h] at e
      cases b with
      | true => cases e
      | false => exact ⟨m, set_self h, rfl⟩
    · exact ⟨m', (set_ne hji).trans e, rfl⟩
  · rcases set_get e with ⟨e0, e1⟩ | ⟨_, e1⟩
    · subst e0
      cases b with
      | true => cases e1
      | false => exact ⟨m0, h⟩
    · exact ⟨m', e1⟩
  · rcases set_get e with ⟨_, e1⟩ | ⟨_, e1⟩
    · cases b <;> cases e1
    · exact ⟨e1, rfl⟩

/-- slot i's tree is changed in place: its places T become T', which are its own, or new, or such as nobody else's slot has -/
theorem put_ok (R : Rel K z) {A : AP} {H : Hp} {i : Nat} {b : Bool} {m0 m : MV} {T : List Addr} {v : V} (h : z.ρ[i]? = some (ownS b m0)) (hv : z.σ[i]? = some (some v))
    (fr : Fr z.A z.S z.H A (z.putT A H i (ownS b m) T).S H)
    (own : Own K A H m v T) (nd : T.Nodup) (dj : ∀ a ∈ T, ∀ j, j ≠ i → a ∉ z.TS j)
    (keepH : ∀ a o, z.H a = some o → a ∉ z.TS i → H a = some o) (keepA : ∀ a, z.A a → a ∉ z.TS i → A a) (trk : ∀ a, A a → H a ≠ none) :
    Stp K z (z.putT A H i (ownS b m) T) := by
  refine Stp.build R fr (putT_Kp h) (by show (z.ρ.set i _).length = _; rw [List.length_set]; exact R.len) (fun j s e hb => ?_) (fun j fl d e => ?_) (fun j e => ?_) (fun j => ?_) (fun j k a hj hk => ?_) trk
  · rcases set_get e with ⟨rfl, rfl⟩ | ⟨hji, e1⟩
    · refine ⟨_, hv, ?_⟩
      show SlotR K A _ H _ _ (z.TS.up j T j)
      rw [TSet.up_same]; exact ownS_r own
    · obtain ⟨o, e2, r⟩ := R.slot j s e1
      refine ⟨o, e2, ?_⟩
      show SlotR K A _ H s o (z.TS.up i T j)
      rw [TSet.up_ne hji]
      have lift : ∀ {m : MV} {v : V}, Own K z.A z.H m v (z.TS j) → Own K A H m v (z.TS j) := fun q =>
        q.step (fun b o e n => fr.keep b o e fun q => n (R.sub b q)) fr.newA fun b hb => ⟨fun o e => keepH b o e fun q => hji (R.dj j i b hb q), keepA b (R.subT j b hb) fun q => hji (R.dj j i b hb q)⟩
      generalize z.TS j = Tj at r lift
      cases r with
      | unset => exact .unset
      | own r => exact .own (lift r)
      | io r => exact .io (lift r)
      | lck r => exact .lck (lift r)
      | bor r => cases hb
  · rcases set_get e with ⟨_, e1⟩ | ⟨hji, e1⟩
    · cases b <;> cases e1
    · show z.TS.up i T j = []
      rw [TSet.up_ne hji]
      obtain ⟨o, _, r⟩ := R.slot j _ e1
      generalize z.TS j = Tj at r
      cases r with | bor _ => rfl
  · have e1 : z.ρ[j]? = none := set_none.mp e
    have hji : j ≠ i := fun q => by subst q; rw [h] at e1; cases e1
    show z.TS.up i T j = []
    rw [TSet.up_ne hji]; exact R.out j e1
  · show (z.TS.up i T j).Nodup
    by_cases hji : j = i
    · subst hji; rw [TSet.up_same]; exact nd
    · rw [TSet.up_ne hji]; exact R.nd j
  · have hj : a ∈ z.TS.up i T j := hj
    have hk : a ∈ z.TS.up i T k := hk
    by_cases hji : j = i
    · by_cases hki : k = i
      · rw [hji, hki]
      · rw [hji, TSet.up_same] at hj; rw [TSet.up_ne hki] at hk; exact absurd hk (dj a hj k hki)
    · by_cases hki : k = i
      · rw [hki, TSet.up_same] at hk; rw [TSet.up_ne hji] at hj; exact absurd hj (dj a hk j hji)
      · rw [TSet.up_ne hji] at hj; rw [TSet.up_ne hki] at hk; exact R.dj j k a hj hk

theorem inS_of {i : Nat} (h : ∃ b m, z.ρ[i]? = some (ownS b m)) {a : Addr} (ha : a ∈ z.TS i) : z.S a := by
  obtain ⟨b, m, h⟩ := h
  exact ⟨i, ha, fun ⟨m', e⟩ => by rw [h] at e; exact ownS_lck (Option.some.inj e)⟩

/-- a slot's tree is frozen -/
theorem froze_ok (R : Rel K z) {i : Nat} {b : Bool} {m : MV} (h : z.ρ[i]? = some (ownS b m)) :
    ∃ v A, z.σ[i]? = some (some v) ∧ Stp K z (z.putT A z.H i (ownS b (.val (freeze m))) []) ∧ Rep K A z.H v (freeze m) := by
  obtain ⟨o, eo, ro⟩ := R.slot i _ h
  obtain ⟨v, rfl, ow⟩ := ownS_get ro
  have hs : ∀ a ∈ z.TS i, z.S a := fun a ha => inS_of ⟨b, m, h⟩ ha
  have rp : Rep K (fun a => z.A a ∧ a ∉ z.TS i) z.H v (freeze m) := ow.freeze (fun _ q => q.1) fun b hb q => q.2 hb
  refine ⟨v, fun a => z.A a ∧ a ∉ z.TS i, eo, ?_, rp⟩
  refine put_ok R h eo ⟨fun _ _ e _ => e, fun _ q => .inl q.1, fun a q => ?_, fun a q n => ⟨q, fun w => n (hs a w)⟩, fun _ e => e⟩ (.val rp) List.nodup_nil (fun _ q => (nomatch q)) (fun _ _ e _ => e) (fun a q n => ⟨q, n⟩) fun a q => R.trk a q.1
  rcases (putT_S h a).mp q with (⟨q, _⟩ | q) | ⟨q, _⟩
  · exact .inl q
  · cases q
  · exact .inl q
end
end Q
namespace Q
open PySem L2

section
variable {K : PySem.W.Frag} {A A' S S' : AP} {H H' : Hp}
theorem zip_inj {κ : Type} : ∀ {ks : List κ} {xs ys : List V}, ks.length = xs.length → ks.length = ys.length → ks.zip xs = ks.zip ys → xs = ys
  | [], [], [], _, _, _ => rfl
  | k :: ks, x :: xs, y :: ys, h1, h2, e => by
    simp only [List.zip_cons_cons, List.cons.injEq, Prod.mk.injEq, true_and] at e
    rw [e.1, zip_inj (by simpa using h1) (by simpa using h2) e.2]
  | [], _ :: _, _, h, _, _ => by simp at h
  | [], [], _ :: _, _, h, _ => by simp at h
  | _ :: _, [], _, h, _, _ => by simp at h
  | _ :: _, _ :: _, [], _, h, _ => by simp at h
theorem NodeO.inj {k : Kind} {xs ys : List V} {o : HO} (h1 : NodeO K k xs o) (h2 : NodeO K k ys o) : xs = ys := by
  cases k with
  | dK ks => exact zip_inj h1.1 h2.1 (HO.dK.inj (h1.2.2.symm.trans h2.2.2))
  | dT ks => exact zip_inj h1.1 h2.1 (HO.dT.inj (h1.2.2.symm.trans h2.2.2))
  | obj c fs =>
    obtain ⟨l1, _, C, dx, _, e1, _⟩ := h1
    obtain ⟨l2, _, C', dx', _, e2, _⟩ := h2
    exact zip_inj l1 l2 (HO.ins.inj (e1.symm.trans e2)).2.2

/-- the way down a tree: what stands there, as tree and as value -/
inductive Dn (K : PySem.W.Frag) (H : Hp) : MV → V → List Nat → MV → V → Prop
  | here {m : MV} {v : V} : Dn K H m v [] m v
  | lst {a : Addr} {xs : List V} {ms : List MV} {n : Nat} {m : MV} {x : V} {w : List Nat} {c : MV} {u : V} : H a = some (.lst xs) → ms[n]? = some m → xs[n]? = some x → Dn K H m x w c u → Dn K H (.lst ms) (.ref a) (n :: w) c u
  | nd {k : Kind} {a : Addr} {o : HO} {xs : List V} {ms : List MV} {n : Nat} {m : MV} {x : V} {w : List Nat} {c : MV} {u : V} : H a = some o → NodeO K k xs o → ms[n]? = some m → xs[n]? = some x → Dn K H m x w c u → Dn K H (.nd k ms) (.ref a) (n :: w) c u
theorem Bts.get : ∀ {ms : List MV} {xs : List V} {n : Nat} {m : MV}, Bts K A S H ms xs → ms[n]? = some m → ∃ x, xs[n]? = some x ∧ Bt K A S H m x
  | _, _, _, _, .nil, e => by simp at e
  | _, _, 0, _, .cons a b, e => by simp at e; subst e; exact ⟨_, rfl, a⟩
  | _, _, n + 1, m, .cons a b, e => by
    obtain ⟨v, h1, h2⟩ := Bts.get (n := n) (m := m) b (by simpa using e)
    exact ⟨v, by simpa using h1, h2⟩
theorem Bts.at {ms : List MV} {xs : List V} {n : Nat} {m : MV} {x : V} (h : Bts K A S H ms xs) (e : ms[n]? = some m) (e2 : xs[n]? = some x) : Bt K A S H m x := by
  obtain ⟨y, h1, h2⟩ := h.get e
  rw [e2] at h1
  cases h1; exact h2
theorem Dn.bt {m c : MV} {v u : V} {w : List Nat} (d : Dn K H m v w c u) : Bt K A S H m v → Bt K A S H c u := by
  induction d with
  | here => exact fun h => h
  | lst h e1 e2 d ih =>
    intro b
    cases b with | lst h' n' r =>
    rw [h] at h'
    cases h'
    exact ih (r.at e1 e2)
  | nd h q e1 e2 d ih =>
    intro b
    cases b with | nd h' q' n' r =>
    rw [h] at h'
    cases h'
    cases q.inj q'
    exact ih (r.at e1 e2)
theorem Dn.keep (f : ∀ b o, H b = some o → ¬ S b → H' b = some o) {m c : MV} {v u : V} {w : List Nat} (d : Dn K H m v w c u) : Bt K A S H m v → Dn K H' m v w c u := by
  induction d with
  | here => exact fun _ => .here
  | lst h e1 e2 d ih =>
    intro b
    cases b with | lst h' n' r =>
    rw [h] at h'
    cases h'
    exact .lst (f _ _ h n') e1 e2 (ih (r.at e1 e2))
  | nd h q e1 e2 d ih =>
    intro b
    cases b with | nd h' q' n' r =>
    rw [h] at h'
    cases h'
    cases q.inj q'
    exact .nd (f _ _ h n') q e1 e2 (ih (r.at e1 e2))
theorem Dn.down {m c : MV} {v u : V} {w w2 : List Nat} {c2 : MV} {u2 : V} (d : Dn K H m v w c u) : Dn K H c u w2 c2 u2 → Dn K H m v (w ++ w2) c2 u2 := by
  induction d with
  | here => exact fun h => h
  | lst h e1 e2 d ih => exact fun x => .lst h e1 e2 (ih x)
  | nd h q e1 e2 d ih => exact fun x => .nd h q e1 e2 (ih x)
/-- a part of a row of trees, and another one in its place -/
theorem Owns.split : ∀ {ms : List MV} {xs : List V} {T : List Addr} {n : Nat} {m : MV} {x : V}, Owns K A H ms xs T → ms[n]? = some m → xs[n]? = some x →
    ∃ T1 Tm T2, T = T1 ++ (Tm ++ T2) ∧ Own K A H m x Tm ∧ ∀ (A' : AP) (H' : Hp) (m' : MV) (x' : V) (Tm' : List Addr), (∀ b o, H b = some o → ¬ A b → H' b = some o) → (∀ b, A' b → A b ∨ H b = none) → (∀ b ∈ T1 ++ T2, (∀ o, H b = some o → H' b = some o) ∧ A' b) → Own K A' H' m' x' Tm' →
      Owns K A' H' (ms.set n m') (xs.set n x') (T1 ++ (Tm' ++ T2))
  | _, _, _, _, _, _, .nil, e, _ => by simp at e
  | _, _, _, 0, _, _, .cons (T := Ta) (T' := Tb) a b, e1, e2 => by
    simp at e1 e2
    subst e1 e2
    refine ⟨[], Ta, Tb, rfl, a, fun A' H' m' x' Tm' k n kT o => ?_⟩
    rw [List.nil_append]
    exact Owns.cons o (b.step k n fun b hb => kT b hb)
  | _, _, _, i + 1, m, x, .cons (T := Ta) (T' := Tb) a b, e1, e2 => by
    obtain ⟨T1, Tm, T2, e, o, go⟩ := Owns.split (n := i) (m := m) (x := x) b (by simpa using e1) (by simpa using e2)
    subst e
    refine ⟨Ta ++ T1, Tm, T2, by simp, o, fun A' H' m' x' Tm' k n kT o' => ?_⟩
    rw [List.set_cons_succ, List.set_cons_succ, List.append_assoc]
    exact .cons (a.step k n fun b hb => kT b (by simp [hb])) (go A' H' m' x' Tm' k n (fun b hb => kT b (by simp only [List.append_assoc, List.mem_append] at hb ⊢; rcases hb with h | h; exact .inr (.inl h); exact .inr (.inr h))) o')
/-- a tree at a place is exchanged: the object at a alone changes, and what is new -/
theorem Own.exch {a : Addr} {c : MV} (hc : isTree c = true) : ∀ {w : List Nat} {m : MV} {v : V} {T : List Addr}, Own K A H m v T → Dn K H m v w c (.ref a) → T.Nodup →
    ∃ Tc, Own K A H c (.ref a) Tc ∧ a ∈ Tc ∧ (∀ b ∈ Tc, b ∈ T) ∧ Tc.Nodup ∧ ∀ (H3 : Hp) (c' : MV) (Tc' : List Addr), (∀ b o, H b = some o → b ≠ a → H3 b = some o) → Own K A H3 c' (.ref a) Tc' → ∃ m' T', setAt w c' m = some m' ∧ Own K A H3 m' v T' ∧ (∀ b ∈ T', (b ∈ T ∧ b ∉ Tc) ∨ b ∈ Tc') ∧ (Tc'.Nodup → (∀ b ∈ Tc', b ∈ T → b ∈ Tc) → T'.Nodup) := by
  intro w
  induction w with
  | nil =>
    intro m v T o d nd
    cases d
    refine ⟨T, o, ?_, fun _ h => h, nd, fun H3 c' Tc' _ o' => ⟨c', Tc', rfl, o', fun _ h => .inr h, fun h _ => h⟩⟩
    cases o with
    | val _ => cases hc
    | lst _ _ _ => exact List.mem_cons_self
    | nd _ _ _ _ => exact List.mem_cons_self
  | cons n w ih =>
    intro m v T o d nd
    have core : ∀ {ms : List MV} {xs : List V} {T0 : List Addr} {a0 : Addr} {m1 : MV} {x1 : V}, A a0 → H a0 ≠ none → (a0 :: T0).Nodup → Owns K A H ms xs T0 → ms[n]? = some m1 → xs[n]? = some x1 → Dn K H m1 x1 w c (.ref a) →
        ∃ Tc, Own K A H c (.ref a) Tc ∧ a ∈ Tc ∧ (∀ b ∈ Tc, b ∈ T0) ∧ Tc.Nodup ∧ a0 ≠ a ∧ ∀ (H3 : Hp) (c' : MV) (Tc' : List Addr), (∀ b o, H b = some o → b ≠ a → H3 b = some o) → Own K A H3 c' (.ref a) Tc' → ∃ m1' T', setAt w c' m1 = some m1' ∧ Owns K A H3 (ms.set n m1') xs T' ∧ (∀ b ∈ T', (b ∈ T0 ∧ b ∉ Tc) ∨ b ∈ Tc') ∧ (Tc'.Nodup → (∀ b ∈ Tc', b ∈ a0 :: T0 → b ∈ Tc) → (a0 :: T').Nodup) := by
      intro ms xs T0 a0 m1 x1 hA0 hn0 nd0 r e1 e2 d1
      obtain ⟨T1, Tm, T2, e, o1, go⟩ := r.split e1 e2
      subst e
      have nd0' := List.nodup_cons.mp nd0
      have ndm : Tm.Nodup := (List.nodup_append.mp (List.nodup_append.mp nd0'.2).2.1).1
      obtain ⟨Tc, oc, ha, sub, ndc, step⟩ := ih o1 d1 ndm
      have haTm := sub a ha
      have na0 : a0 ≠ a := fun q => nd0'.1 (by rw [q]; simp [haTm])
      have n12 : ∀ b ∈ T1 ++ T2, b ∉ Tm := fun b hb hm => by
        have h1 := List.nodup_append.mp nd0'.2
        have h2 := List.nodup_append.mp h1.2.1
        rcases List.mem_append.mp hb with h | h
        · exact h1.2.2 b h b (by simp [hm]) rfl
        · exact h2.2.2 b hm b h rfl
      refine ⟨Tc, oc, ha, fun b hb => by simp [sub b hb], ndc, na0, fun H3 c' Tc' k3 oc' => ?_⟩
      obtain ⟨m1', T', e3, o3, mem3, nd3⟩ := step H3 c' Tc' k3 oc'
      have ow := go A H3 m1' x1 T' (fun b o e nA => k3 b o e fun q => nA (by rw [q]; exact (oc.sub a ha).1)) (fun b h => .inl h) (fun b hb => ⟨fun o e => k3 b o e fun q => n12 b hb (by rw [q]; exact haTm), (r.sub b (by simp only [List.mem_append] at hb ⊢; rcases hb with h | h; exact .inl h; exact .inr (.inr h))).1⟩) o3
      have ex : xs.set n x1 = xs := by
        apply List.ext_getElem?
        intro i
        by_cases hi : n = i
        · subst hi; rw [List.getElem?_set_self (List.getElem?_eq_some_iff.mp e2).1, e2]
        · rw [List.getElem?_set_ne hi]
      rw [ex] at ow
      refine ⟨m1', T1 ++ (T' ++ T2), e3, ow, fun b hb => ?_, fun nc ap => ?_⟩
      · rcases List.mem_append.mp hb with h | h
        · exact .inl ⟨by simp [h], fun q => n12 b (by simp [h]) (sub b q)⟩
        · rcases List.mem_append.mp h with h | h
          · rcases mem3 b h with ⟨g1, g2⟩ | g
            · exact .inl ⟨by simp [g1], g2⟩
            · exact .inr g
          · exact .inl ⟨by simp [h], fun q => n12 b (by simp [h]) (sub b q)⟩
      · have ndT' := nd3 nc fun b hb hm => ap b hb (by simp [hm])
        have h1 := List.nodup_append.mp nd0'.2
        have h2 := List.nodup_append.mp h1.2.1
        have inT' : ∀ b ∈ T', b ∈ Tm ∨ b ∈ Tc' := fun b hb => by
          rcases mem3 b hb with g | g
          · exact .inl g.1
          · exact .inr g
        have no : ∀ b ∈ T', b ∈ T1 ++ T2 → False := fun b hb h => by
          rcases inT' b hb with g | g
          · exact n12 b h g
          · exact n12 b h (sub b (ap b g (by simp only [List.mem_append] at h; simp only [List.mem_cons, List.mem_append]; rcases h with h | h; exact .inr (.inl h); exact .inr (.inr (.inr h)))))
        have no0 : ∀ b ∈ T', b ≠ a0 := fun b hb q => by
          subst q
          rcases inT' b hb with g | g
          · exact nd0'.1 (by simp [g])
          · exact nd0'.1 (by simp [sub b (ap b g List.mem_cons_self)])
        refine List.nodup_cons.mpr ⟨fun q => ?_, List.nodup_append.mpr ⟨h1.1, List.nodup_append.mpr ⟨ndT', h2.2.1, fun x hx y hy e => no x hx (by rw [e]; simp [hy])⟩, fun x hx y hy e => ?_⟩⟩
        · rcases List.mem_append.mp q with h | h
          · exact nd0'.1 (by simp [h])
          · rcases List.mem_append.mp h with h | h
            · exact no0 _ h rfl
            · exact nd0'.1 (by simp [h])
        · subst e
          rcases List.mem_append.mp hy with h | h
          · exact no x h (by simp [hx])
          · exact h1.2.2 x hx x (by simp [h]) rfl
    cases d with
    | lst h e1 e2 d1 =>
      cases o with | lst h' hA r =>
      rw [h] at h'
      cases h'
      obtain ⟨Tc, oc, ha, sub, ndc, na, go⟩ := core hA (by rw [h]; simp) nd r e1 e2 d1
      refine ⟨Tc, oc, ha, fun b hb => List.mem_cons_of_mem _ (sub b hb), ndc, fun H3 c' Tc' k3 oc' => ?_⟩
      obtain ⟨m1', T', e3, o3, mem3, nd3⟩ := go H3 c' Tc' k3 oc'
      refine ⟨_, _, by unfold setAt; rw [e1, Option.bind_some, e3, Option.bind_some], .lst (k3 _ _ h na) hA o3, fun b hb => ?_, nd3⟩
      rcases List.mem_cons.mp hb with rfl | hb
      · exact .inl ⟨List.mem_cons_self, fun q => (List.nodup_cons.mp nd).1 (sub _ q)⟩
      · rcases mem3 b hb with g | g
        · exact .inl ⟨List.mem_cons_of_mem _ g.1, g.2⟩
        · exact .inr g
    | nd h q e1 e2 d1 =>
      cases o with | nd h' q' hA r =>
      rw [h] at h'
      cases h'
      cases q.inj q'
      obtain ⟨Tc, oc, ha, sub, ndc, na, go⟩ := core hA (by rw [h]; simp) nd r e1 e2 d1
      refine ⟨Tc, oc, ha, fun b hb => List.mem_cons_of_mem _ (sub b hb), ndc, fun H3 c' Tc' k3 oc' => ?_⟩
      obtain ⟨m1', T', e3, o3, mem3, nd3⟩ := go H3 c' Tc' k3 oc'
      refine ⟨_, _, by unfold setAt; rw [e1, Option.bind_some, e3, Option.bind_some], .nd (k3 _ _ h na) q hA o3, fun b hb => ?_, nd3⟩
      rcases List.mem_cons.mp hb with rfl | hb
      · exact .inl ⟨List.mem_cons_self, fun q => (List.nodup_cons.mp nd).1 (sub _ q)⟩
      · rcases mem3 b hb with g | g
        · exact .inl ⟨List.mem_cons_of_mem _ g.1, g.2⟩
        · exact .inr g
end
end Q
namespace Q
open PySem L2

def RunsE (X : Cx) (e : Expr) : TE := fun σ H Q => ∀ (pins : List (Addr × Obj)) (s : Shared), Inv X pins σ H s → wpAny (model X.prog X.w) X.A (eval e X.env) (EP X pins σ Q) X.xe s
def RunsT (X : Cx) (e : Expr) : TT := fun σ H Q => ∀ (pins : List (Addr × Obj)) (s : Shared), Inv X pins σ H s → wpAny (model X.prog X.w) X.A (isTrue e X.env (eval e X.env)) (TP X pins σ Q) X.xe s
def RunsW (X : Cx) (e : Expr) : TT := fun σ H Q => ∀ (whole : Sem Value) (pins : List (Addr × Obj)) (s : Shared), Inv X pins σ H s → wpAny (model X.prog X.w) X.A (isTrue e X.env whole) (TP X pins σ Q) X.xe s
def RunsA (X : Cx) (es : List Expr) : TA := fun σ H Q => ∀ (pos : Pos) (pins : List (Addr × Obj)) (s : Shared), Inv X pins σ H s → wpAny (model X.prog X.w) X.A (spliced (backTo pos (starEach es X.env))) (L2.AP X pins σ Q) X.xe s
theorem pr {X : Cx} {e : Expr} : PE X e (RunsE X e) := ⟨fun pins s σ H Q I h => h pins s I⟩
theorem prt {X : Cx} {e : Expr} : PT X e (RunsT X e) := ⟨fun pins s σ H Q I h => h pins s I⟩
theorem prw {X : Cx} {e : Expr} : PW X e (RunsW X e) := ⟨fun w pins s σ H Q I h => h w pins s I⟩
theorem pra {X : Cx} {es : List Expr} : PA X es (RunsA X es) := ⟨fun pos pins s σ H Q I h => h pos pins s I⟩
theorem PE.rn {X : Cx} {e : Expr} {t : TE} (h : PE X e t) {σ : St} {H : Hp} {Q : VK} (q : t σ H Q) : RunsE X e σ H Q := fun pins s I => h.run pins s σ H Q I q
theorem PT.rn {X : Cx} {e : Expr} {t : TT} (h : PT X e t) {σ : St} {H : Hp} {Q : Bool → Hp → Prop} (q : t σ H Q) : RunsT X e σ H Q := fun pins s I => h.run pins s σ H Q I q
theorem PW.rn {X : Cx} {e : Expr} {t : TT} (h : PW X e t) {σ : St} {H : Hp} {Q : Bool → Hp → Prop} (q : t σ H Q) : RunsW X e σ H Q := fun w pins s I => h.run w pins s σ H Q I q
theorem PA.rn {X : Cx} {e : List Expr} {t : TA} (h : PA X e t) {σ : St} {H : Hp} {Q : List V → Hp → Prop} (q : t σ H Q) : RunsA X e σ H Q := fun p pins s I => h.run p pins s σ H Q I q
theorem RunsW.t {X : Cx} {e : Expr} {σ : St} {H : Hp} {Q : Bool → Hp → Prop} (q : RunsW X e σ H Q) : RunsT X e σ H Q := q _

/-- what is wanted of a result, whatever later state it comes in -/
def Gives (K : PySem.W.Frag) (z : Z) (r : MV) (Q : VK) : Prop := ∀ v z' T, Stp K z z' → z'.ρ = z.ρ → z'.σ = z.σ → Tmp K z z' r v T → Q v z'.H

section
variable {K : PySem.W.Frag} {z z' z1 z2 : Z}
theorem Gives.rep {Q : VK} {d : D} {v : V} (R : Rel K z) (g : Gives K z (.val d) Q) (h : Rep K z.A z.H v d) : Q v z.H := g v z [] (Stp.refl R) rfl rfl (Tmp.ofRep h)

/-- a new object is laid -/
def Z.lay (z : Z) (A : AP) (p : Addr) (o : HO) : Z := { z with A := A, H := upd z.H p o }
theorem lay_ok (R : Rel K z) {A : AP} {p : Addr} {o : HO} (hp : z.H p = none) (hA : ∀ a, A a → z.A a ∨ a = p) (hA2 : ∀ a, z.A a → A a) : Stp K z (z.lay A p o) := by
  have up : ∀ b u, z.H b = some u → (upd z.H p o) b = some u := fun b u e => by rw [upd_ne (ne_of_none e hp)]; exact e
  have fr : Fr z.A z.S z.H A (z.lay A p o).S (upd z.H p o) := by
    refine ⟨fun b u e _ => up b u e, fun a q => ?_, fun a q => .inl q, fun a q _ => hA2 a q, fun b e => ?_⟩
    · rcases hA a q with q | q
      · exact .inl q
      · rw [q]; exact .inr hp
    · cases q : z.H b with
      | none => rfl
      | some u => rw [up b u q] at e; cases e
  refine Stp.build R fr Kp.refl R.len (fun i s e hb => ?_) (fun i fl d e => ?_) R.out R.nd R.dj fun a q => ?_
  · obtain ⟨o', e2, r⟩ := R.slot i s e
    refine ⟨o', e2, ?_⟩
    have lift : ∀ {m : MV} {v : V}, Own K z.A z.H m v (z.TS i) → Own K A (upd z.H p o) m v (z.TS i) := fun q =>
      q.step (fun b o e n => up b o e) fr.newA fun b hb => ⟨fun o e => up b o e, hA2 b (R.subT i b hb)⟩
    show SlotR K A _ (upd z.H p o) s o' (z.TS i)
    generalize z.TS i = Tj at r lift
    cases r with
    | unset => exact .unset
    | own r => exact .own (lift r)
    | io r => exact .io (lift r)
    | lck r => exact .lck (lift r)
    | bor r => cases hb
  · obtain ⟨o', e2, r⟩ := R.slot i _ e
    show z.TS i = []
    generalize z.TS i = Tj at r
    cases r with | bor _ => rfl
  · show upd z.H p o a ≠ none
    rcases hA a q with q | q
    · obtain ⟨u, e⟩ := Option.ne_none_iff_exists'.mp (R.trk a q)
      rw [up a u e]; simp
    · rw [q, upd_same]; simp
theorem notA (R : Rel K z) {p : Addr} (hp : z.H p = none) : ¬ z.A p := fun h => R.trk p h hp
/-- a new tuple -/
theorem Gives.tup {Q : VK} {ds : List D} {xs : List V} (R : Rel K z) (g : Gives K z (.val (.tuple ds)) Q) (h : Reps K z.A z.H xs ds) : ∀ p, z.H p = none → Q (.ref p) (upd z.H p (.tup xs)) := fun p hp => by
  have s := lay_ok (o := .tup xs) R hp (fun a q => .inl q) fun a q => q
  refine g (.ref p) _ [] s rfl rfl (Tmp.ofRep (.tup (.inl ⟨.inl upd_same, notA R hp⟩) ?_))
  exact h.fr R.sub s.fr
/-- a new list, its items trees of their own -/
theorem Gives.lstO {Q : VK} {ms : List MV} {xs : List V} {T : List Addr} (R : Rel K z) (g : Gives K z (.lst ms) Q) (h : Owns K z.A z.H ms xs T) (nd : T.Nodup) (ap : ∀ b ∈ T, ∀ i, b ∉ z.TS i) (new : ∀ b ∈ T, z.S b ∨ z.H b = none) :
    ∀ p, z.H p = none → Q (.ref p) (upd z.H p (.lst xs)) := fun p hp => by
  have s := lay_ok (A := fun a => z.A a ∨ a = p) (o := .lst xs) R hp (fun a q => q) fun a q => .inl q
  have up : ∀ b u, z.H b = some u → (upd z.H p (.lst xs)) b = some u := fun b u e => by rw [upd_ne (ne_of_none e hp)]; exact e
  refine g (.ref p) _ (p :: T) s rfl rfl ⟨.lst upd_same (.inr rfl) (h.step (fun b o e _ => up b o e) s.fr.newA fun b hb => ⟨fun o e => up b o e, .inl (h.sub b hb).1⟩), List.nodup_cons.mpr ⟨fun q => (h.sub p q).2 hp, nd⟩, fun b hb i q => ?_, fun b hb => ?_⟩
  · rcases List.mem_cons.mp hb with rfl | hb
    · exact notA R hp (R.subT i b q)
    · exact ap b hb i q
  · rcases List.mem_cons.mp hb with rfl | hb
    · exact .inr hp
    · exact new b hb
theorem Gives.lst {Q : VK} {ds : List D} {xs : List V} (R : Rel K z) (g : Gives K z (.lst (ds.map .val)) Q) (h : Reps K z.A z.H xs ds) : ∀ p, z.H p = none → Q (.ref p) (upd z.H p (.lst xs)) :=
  g.lstO R (Owns.ofReps h) List.nodup_nil (fun _ q => (nomatch q)) fun _ q => (nomatch q)

theorem PkR.sqL {A S : AP} {H : Hp} {fl : Fl} {ds : List D} {v : V} (hf : fl ≠ .deep) (r : PkR K A S H fl (.list ds) v) : ∃ a xs, v = .ref a ∧ RL K H a xs ∧ Reps K A H xs ds := by
  cases fl with
  | val => cases r with | lst h q => exact ⟨_, _, rfl, h.rl, q⟩
  | shal =>
    rcases r with r | ⟨a, xs, ds', e1, e2, h, _, q⟩
    · cases r with | lst h q => exact ⟨_, _, rfl, h.rl, q⟩
    · cases e2; exact ⟨a, xs, e1, .inl (.inl h), q⟩
  | deep => exact absurd rfl hf
theorem PkR.sqT {A S : AP} {H : Hp} {fl : Fl} {ds : List D} {v : V} (hf : fl ≠ .deep) (r : PkR K A S H fl (.tuple ds) v) : ∃ a xs, v = .ref a ∧ SqT K H a xs ∧ Reps K A H xs ds := by
  cases fl with
  | val => cases r with | tup h q => exact ⟨_, _, rfl, h.sq, q⟩
  | shal =>
    rcases r with r | ⟨a, xs, ds', e1, e2, h, _, q⟩
    · cases r with | tup h q => exact ⟨_, _, rfl, h.sq, q⟩
    · cases e2
  | deep => exact absurd rfl hf
theorem Reps.flat {A A' : AP} {H H' : Hp} : ∀ {vs : List V} {ds : List D}, ds.all Q.flat = true → Reps K A H vs ds → Reps K A' H' vs ds
  | _, _, _, .nil => .nil
  | _, _, h, .cons a b => by
    simp only [List.all_cons, Bool.and_eq_true] at h
    exact .cons (a.flat h.1) (Reps.flat h.2 b)
theorem bad_no {fl : Fl} {ds : List D} (h : ¬ badFl fl ds = true) : fl ≠ .deep ∨ (fl = .deep ∧ ds.all Q.flat = true) := by
  unfold badFl at h
  by_cases e : fl = .deep
  · refine .inr ⟨e, ?_⟩
    simpa [e] using h
  · exact .inl e
theorem PkR.sqLb {A S : AP} {H : Hp} {fl : Fl} {ds : List D} {v : V} (hf : ¬ badFl fl ds = true) (r : PkR K A S H fl (.list ds) v) : ∃ a xs, v = .ref a ∧ RL K H a xs ∧ Reps K A H xs ds := by
  rcases bad_no hf with h | ⟨rfl, h⟩
  · exact r.sqL h
  · have r : Rep K S H v (.list ds) := r
    cases r with | lst q p => exact ⟨_, _, rfl, q.rl, p.flat h⟩
theorem PkR.sqTb {A S : AP} {H : Hp} {fl : Fl} {ds : List D} {v : V} (hf : ¬ badFl fl ds = true) (r : PkR K A S H fl (.tuple ds) v) : ∃ a xs, v = .ref a ∧ SqT K H a xs ∧ Reps K A H xs ds := by
  rcases bad_no hf with h | ⟨rfl, h⟩
  · exact r.sqT h
  · have r : Rep K S H v (.tuple ds) := r
    cases r with | tup q p => exact ⟨_, _, rfl, q.sq, p.flat h⟩
theorem Rep.sqL {A : AP} {H : Hp} {ds : List D} {v : V} (r : Rep K A H v (.list ds)) : ∃ a xs, v = .ref a ∧ RL K H a xs ∧ Reps K A H xs ds := by
  cases r with | lst h q => exact ⟨_, _, rfl, h.rl, q⟩
theorem Rep.sqT {A : AP} {H : Hp} {ds : List D} {v : V} (r : Rep K A H v (.tuple ds)) : ∃ a xs, v = .ref a ∧ SqT K H a xs ∧ Reps K A H xs ds := by
  cases r with | tup h q => exact ⟨_, _, rfl, h.sq, q⟩
theorem Rep.intv {A : AP} {H : Hp} {i : Int} {v : V} (r : Rep K A H v (.int i)) : v = .int i := by cases r; rfl
theorem Rep.blv {A : AP} {H : Hp} {i : Bool} {v : V} (r : Rep K A H v (.bool i)) : v = .bl i := by cases r; rfl
theorem Rep.strv {A : AP} {H : Hp} {i : Str} {v : V} (r : Rep K A H v (.str i)) : v = .str i := by cases r; rfl
/-- every reading is one that avoids what may change -/
theorem PkR.any (R : Rel K z) {fl : Fl} {d : D} {v : V} (r : PkR K z.A z.S z.H fl d v) : Rep K z.S z.H v d := r.toS R.sub
end
end Q
set_option maxHeartbeats 1000000
namespace Q
open PySem L2 PyProof.Rows

section
variable {X : Cx} {z : Z}
theorem Inv.rdL {pins : List (Addr × Obj)} {σ : L2.St} {H : Hp} {s : Shared} {l : Addr} {xs : List V} (I : Inv X pins σ H s) (h : RL X.K H l xs) :
    ∃ (its : List Value) (n : Nat), Vals xs its ∧ xs.length = its.length ∧ s.heap.get? l = some { cls := .type "list", data := .seq its.toArray n } := by
  rcases h with h | ⟨its, n, e, r, _⟩
  · obtain ⟨_, its, n, r, e⟩ := h.ok I.hok
    exact ⟨its, n, r, r.length, e⟩
  · exact ⟨its, n, r, r.length, I.kIn _ _ e⟩
/-- list + list -/
def rCatR (K : PySem.W.Frag) : R2 := fun x y H Q => ∃ l b xs zs, x = .ref l ∧ y = .ref b ∧ RL K H l xs ∧ RL K H b zs ∧ xs.length + zs.length ≤ sizeLine ∧ ∀ p, H p = none → Q (.ref p) (upd H p (.lst (xs ++ zs)))
theorem op_catR : OpR X (binaryOp .Add) (rCatR X.K) := by
  intro pins s σ H x y v u Q I rx ry h
  obtain ⟨l, b, xs, zs, rfl, rfl, h1, h2, hz, q⟩ := h
  cases rx
  cases ry
  obtain ⟨i1, n1, r1, l1, e1⟩ := Inv.rdL I h1
  obtain ⟨i2, n2, r2, l2, e2⟩ := Inv.rdL I h2
  refine PySem.P.add_list e1 e2 ?_ (by simp only [List.size_toArray]; omega)
  rw [show i1.toArray ++ i2.toArray = (i1 ++ i2).toArray by simp]
  exact ⟨.ref _, _, I.lnew (t' := s.toks) (r1.append r2) (by simp only [List.length_append]; omega), rfl, q _ I.fresh⟩

/-- list * int -/
def rRepR (K : PySem.W.Frag) : R2 := fun x y H Q => ∃ l k xs, x = .ref l ∧ y = .int k ∧ RL K H l xs ∧ -(2 ^ 63) ≤ k ∧ k < 2 ^ 63 ∧ xs.length * k.toNat ≤ sizeLine ∧ ∀ p, H p = none → Q (.ref p) (upd H p (.lst (List.replicate k.toNat xs).flatten))
theorem op_repR : OpR X (binaryOp .Mult) (rRepR X.K) := by
  intro pins s σ H x y v u Q I rx ry h
  obtain ⟨l, k, xs, rfl, rfl, h0, k1, k2, hz, q⟩ := h
  cases rx
  obtain ⟨t, rfl⟩ := ry
  obtain ⟨js, n, r, hl, e⟩ := Inv.rdL I h0
  have len1 : js.toArray.size * k.toNat ≤ sizeLine := by rw [List.size_toArray, ← hl]; exact hz
  have cap1 : ¬ js.toArray.size * k.toNat > (2 ^ 63 - 1) / 8 := by
    have h8 : (sizeLine : Nat) ≤ (2 ^ 63 - 1) / 8 := by decide
    omega
  have fit1 : ¬ (!Builtin.List.listFitsIndex k) = true := by
    rw [fitsIndex_both k1 k2]; exact Bool.false_ne_true
  have long1 : ¬ Builtin.List.listTooLong (js.toArray.size * k.toNat) = true := by
    rw [notLongL len1]; exact Bool.false_ne_true
  have new1 : List.foldl (fun x1 x2 => x1 ++ x2) #[] (List.replicate (if js.toArray.isEmpty = true then 0 else k.toNat) js.toArray) = (List.replicate k.toNat js).flatten.toArray := by
    have f0 : ∀ m : Nat, List.foldl (fun x1 x2 => x1 ++ x2) #[] (List.replicate m js.toArray) = (List.replicate m js).flatten.toArray := fun m => by
      have f1 := foldl_rep js m []
      rw [List.nil_append] at f1; exact f1
    rw [f0]
    cases js with
    | nil => simp
    | cons a r' => rw [if_neg (by simp)]
  refine wpAny_binaryOp_repeat_ref (T := "list") (U := "int") (by decide) ⟨_, e, rfl⟩ (fun s0 => typeIs_int s0 k t) noFill_list_mul F.fills_int_mul F.slot_int_rmul repeat_list F.slot_int_index.lookup ?_
  refine call_meets F.slot_int_rmul (typeIs_int s k t) F.entry_int_rmul (F.args_int_rmul_2 _ _) (int___rmul___int_list k t l js.toArray n) ⟨e, rfl, ⟨_, e, rfl⟩, ?_⟩
  refine call_meets F.slot_list_mul ⟨_, e, rfl⟩ F.entry_list_mul (F.args_list_mul_2 _ _) (AutoListH.list___mul___list_int_3 l js.toArray n k t fit1 cap1 long1) ⟨e, ?_⟩
  rw [new1]
  refine ⟨.ref _, _, I.lnew (t' := s.toks) (r.rep k.toNat) ?_, rfl, q _ I.fresh⟩
  rw [PyProof.Rows.lm_len_rep_flat, Nat.mul_comm]; exact hz

def opOf : BOp → Operator
  | .add => .Add | .sub => .Sub | .mul => .Mult | .fdiv => .FloorDiv | .mod => .Mod | .pow => .Pow
def cmpOf : COp → CmpOp
  | .eq => .Eq | .ne => .NotEq | .lt => .Lt | .le => .LtE | .gt => .Gt | .ge => .GtE | .isin => .In | .notin => .NotIn | .ltD => .Lt

/-- an operation by values: what it asks is met -/
def OpAt (X : Cx) (f : Value → Value → Sem Value) (x y : V) (H : Hp) (Q : VK) : Prop :=
  ∀ (pins : List (Addr × Obj)) (s : Shared) (σ : L2.St) (v u : Value), Inv X pins σ H s → RelV x v → RelV y u → wpAny (model X.prog X.w) X.A (f v u) (EP X pins σ Q) X.xe s
theorem OpAt.of {f : Value → Value → Sem Value} {r : R2} {x y : V} {H : Hp} {Q : VK} (h : OpR X f r) (q : r x y H Q) : OpAt X f x y H Q := fun pins s σ v u I rx ry => h pins s σ H x y v u Q I rx ry q
theorem OpAt.opr {f : Value → Value → Sem Value} : OpR X f (OpAt X f) := fun pins s σ H x y v u Q I rx ry h => h pins s σ v u I rx ry

theorem map_flat {ds : List D} : (List.map MV.val ds).all isVal = true := by simp [isVal]
theorem Reps.flatten {K : PySem.W.Frag} {A : AP} {H : Hp} {xs : List V} {ds : List D} (h : Reps K A H xs ds) : ∀ n : Nat, Reps K A H (List.replicate n xs).flatten (List.replicate n ds).flatten
  | 0 => .nil
  | n + 1 => by
    rw [List.replicate_succ, List.flatten_cons, List.replicate_succ, List.flatten_cons]
    exact h.append (Reps.flatten h n)
theorem fl_ne {fl : Fl} (h : (fl != Fl.deep) = true) : fl ≠ .deep := fun e => by subst e; exact absurd h (by decide)

theorem bin_ok {op : BOp} {d1 d2 : D} {f1 f2 : Fl} {v1 v2 : V} {r : MV} {Q : VK} (R : Rel X.K z) (h1 : PkR X.K z.A z.S z.H f1 d1 v1) (h2 : PkR X.K z.A z.S z.H f2 d2 v2)
    (h : binR op d1 f1 d2 f2 = some r) (g : Gives X.K z r Q) : OpAt X (binaryOp (opOf op)) v1 v2 z.H Q := by
  have a1 := h1.any R
  have a2 := h2.any R
  unfold binR at h
  split at h
  case h_1 i j =>
    cases h
    rw [a1.intv, a2.intv]
    exact .of op_add ⟨_, _, rfl, rfl, g.rep R (.int _)⟩
  case h_2 i j =>
    cases h
    rw [a1.intv, a2.intv]
    exact .of op_sub ⟨_, _, rfl, rfl, g.rep R (.int _)⟩
  case h_3 i j =>
    split at h
    · rename_i hc
      cases h
      rw [a1.intv, a2.intv]
      refine .of op_mul ⟨_, _, rfl, rfl, ?_, g.rep R (.int _)⟩
      simp only [big, Bool.or_eq_true, Bool.and_eq_true, decide_eq_true_eq] at hc
      unfold CMul
      rcases hc with hc | hc
      · exact .inl ⟨by omega, by omega⟩
      · exact .inr ⟨by omega, by omega⟩
    · cases h
  case h_4 i j =>
    split at h
    · rename_i hc
      cases h
      simp only [Bool.and_eq_true, decide_eq_true_eq] at hc
      rw [a1.intv, a2.intv]
      refine .of op_fdiv ⟨_, _, rfl, rfl, ?_, g.rep R (.int _)⟩
      unfold CDiv
      omega
    · cases h
  case h_5 i j =>
    split at h
    · rename_i hc
      cases h
      rw [a1.intv, a2.intv]
      exact .of op_mod ⟨_, _, rfl, rfl, by simpa using hc, g.rep R (.int _)⟩
    · cases h
  case h_6 i j =>
    split at h
    · rename_i hc
      cases h
      rw [a1.intv, a2.intv]
      simp only [big, Bool.and_eq_true, decide_eq_true_eq] at hc
      refine .of op_pow ⟨_, _, rfl, rfl, ⟨hc.1.1.1, by omega, by omega⟩, g.rep R (.int _)⟩
    · cases h
  case h_7 x y =>
    split at h
    · rename_i hc
      cases h
      rw [a1.strv, a2.strv]
      exact .of op_add_str ⟨_, _, rfl, rfl, hc, g.rep R (.str _)⟩
    · cases h
  case h_8 xs ys =>
    split at h
    · rename_i hc
      cases h
      simp only [nSeq, Bool.and_eq_true, decide_eq_true_eq] at hc
      obtain ⟨a, us, rfl, q1, p1⟩ := h1.sqT (fl_ne hc.2.1)
      obtain ⟨b, ws, rfl, q2, p2⟩ := h2.sqT (fl_ne hc.2.2)
      refine .of op_catA ⟨a, b, us, ws, rfl, rfl, q1, q2, ?_, fun e => ?_, fun e1 e2 => ?_, fun _ _ => ?_⟩
      · rw [p1.length, p2.length]; exact hc.1
      · subst e
        cases p1
        have r2 : Rep X.K z.A z.H (.ref b) (.tuple ys) := by
          cases f2 with
          | val => exact h2
          | shal =>
            rcases h2 with h2 | ⟨_, _, _, _, e2, _⟩
            · exact h2
            · cases e2
          | deep => exact absurd rfl (fl_ne hc.2.2)
        exact g.rep R r2
      · subst e2
        cases p2
        have r1 : Rep X.K z.A z.H (.ref a) (.tuple xs) := by
          cases f1 with
          | val => exact h1
          | shal =>
            rcases h1 with h1 | ⟨_, _, _, _, e2, _⟩
            · exact h1
            · cases e2
          | deep => exact absurd rfl (fl_ne hc.2.1)
        rw [List.append_nil] at g
        exact g.rep R r1
      · exact g.tup R (p1.append p2)
    · cases h
  case h_9 xs ys =>
    split at h
    · rename_i hc
      cases h
      simp only [nSeq, Bool.and_eq_true, decide_eq_true_eq] at hc
      obtain ⟨a, us, rfl, q1, p1⟩ := h1.sqL (fl_ne hc.2.1)
      obtain ⟨b, ws, rfl, q2, p2⟩ := h2.sqL (fl_ne hc.2.2)
      refine .of op_catR ⟨a, b, us, ws, rfl, rfl, q1, q2, ?_, g.lst R (p1.append p2)⟩
      rw [p1.length, p2.length]; exact hc.1
    · cases h
  case h_10 xs k =>
    split at h
    · rename_i hc
      cases h
      simp only [nSeq, Bool.and_eq_true, decide_eq_true_eq] at hc
      obtain ⟨a, us, rfl, q1, p1⟩ := h1.sqL (fl_ne hc.2)
      rw [a2.intv]
      refine .of op_repR ⟨a, k, us, rfl, rfl, q1, hc.1.1.2, hc.1.2, ?_, g.lst R (Reps.flatten p1 _)⟩
      rw [p1.length]; exact hc.1.1.1
    · cases h
  case h_11 xs k =>
    split at h
    · rename_i hc
      cases h
      simp only [Bool.and_eq_true, decide_eq_true_eq, Bool.not_eq_true', List.isEmpty_eq_false_iff] at hc
      obtain ⟨⟨⟨⟨c1, c2⟩, c3⟩, c4⟩, c5⟩ := hc
      obtain ⟨a, us, rfl, q1, p1⟩ := h1.sqT (fl_ne c5)
      rw [a2.intv]
      refine .of op_repT ⟨a, k, us, rfl, rfl, q1, fun e => c1 ?_, c2, c3, by rw [p1.length]; exact c4, g.tup R (Reps.flatten p1 _)⟩
      subst e
      cases p1
      rfl
    · cases h
  case h_12 => cases h
end
end Q
set_option maxHeartbeats 1000000
namespace PySem.W
open PySem PySem.Calls PyProof.Rows
section
variable {prog : Program} {w : World} {A : Around} {E : Value → Shared → Prop} {s : Shared}
theorem collect_tupO {l : Addr} {o : Obj} {n : Nat} {vs : List Value} {Q : List Value → Shared → Prop} (ho : s.heap.get? l = some o) (hc : o.cls = .type "tuple") (hd : o.data = .seq vs.toArray n)
    (h : Q vs { s with heap := (s.heap.push (seqObj "list" #[] 0)).update s.heap.objs.size (Obj.mapSeq (· ++ vs.toArray)) }) (hsz : vs.length ≤ sizeLine) :
    wpAny (model prog w) A (collect (.ref l)) Q E s := by
  unfold collect
  refine wpAny_bind (wpAny_runValue (codeAny_builtin entry_proto_collect' ?_))
  show wpAny _ _ (do again (.builtin "list.__iadd__" ⟨[← newList [], .ref l], []⟩)) _ _ s
  refine wpAny_bind (wpAny_newList (wpAny_pure ⟨Code.quiet_builtin _ (by decide +kernel), codeAny_builtin entry_list_iadd' ?_⟩))
  show wpAny _ _ (Builtin.List.listExtendWith (.ref s.heap.objs.size) (.ref l) (.ref s.heap.objs.size)) _ _ { s with heap := s.heap.push (seqObj "list" #[] 0) }
  unfold Builtin.List.listExtendWith
  have ho' : (s.heap.push (seqObj "list" #[] 0)).get? l = some o := Heap.get?_push_of_some _ ho
  refine wpAny_bind (wpAny_typeOf (T := "tuple") ⟨o, ho', hc⟩ ?_)
  have ht : (Value.type "tuple" == Value.type "tuple") = true := by rfl
  rw [if_pos (by rw [ht]; simp)]
  refine wpAny_bind (listItems_at ho' hd ?_)
  refine wpAny_bind (listItems_at (xs := #[]) (n := 0) (Heap.get?_push_size _ rfl) rfl ?_)
  rw [if_neg (by simp)]
  refine wpAny_bind (listUpdate_at (xs := #[]) (n := 0) (Heap.get?_push_size _ rfl) rfl ?_ (Nat.zero_le _) (by show (#[] ++ vs.toArray).size ≤ sizeLine + 1; simp only [Array.size_append, List.size_toArray, List.length_nil]; omega))
  refine wpAny_pure ?_
  show wpAny (model prog w) A (do
      let o ← load s.heap.objs.size
      match o.data with
      | .seq xs _ => pure xs.toList
      | _ => unsupported "internal:collect") Q E { s with heap := (s.heap.push (seqObj "list" #[] 0)).update s.heap.objs.size (Obj.mapSeq (· ++ vs.toArray)) }
  refine wpAny_bind (wpAny_load (get?_update_seq (Heap.get?_push_size _ rfl) _) ?_)
  show wpAny _ _ (pure ((#[] : Array Value) ++ vs.toArray).toList) Q E _
  rw [show ((#[] : Array Value) ++ vs.toArray).toList = vs by simp]
  exact wpAny_pure h
theorem sorted_of_sortT {l : Addr} {o : Obj} {n : Nat} {vs : List Value} {kw : List (Str × Value)} {Q : Value → Shared → Prop} (ho : s.heap.get? l = some o) (hc : o.cls = .type "tuple") (hd : o.data = .seq vs.toArray n) (hL : vs.length ≤ sizeLine) (ha1 : argsOk "sorted" ⟨[.ref l], kw⟩) (ha2 : ∀ x, argsOk "list.sort" ⟨[.ref x], kw⟩)
    (body : ∀ E' : Value → Shared → Prop, wpAny (model prog w) A.in1.in1 (Builtin.«list.sort» ⟨[.ref (s.heap.objs.size + 1)], kw⟩) (fun f s' => f = .done (.ret .none) ∧ Q (.ref (s.heap.objs.size + 1)) s') E' { s with heap := copyHeap s.heap vs }) :
    wpAny (model prog w) A (call (.builtin "sorted") [.ref l] kw) Q E s := by
  refine call_function_entry_kw kind_sorted plain_sorted entry_sorted ha1 ?_
  unfold Builtin.«sorted»
  refine wpAny_bind (m := checkCount "sorted" 1 1 _) (wpAny_pure ?_)
  refine wpAny_bind (collect_tupO ho hc hd ?_ hL)
  refine wpAny_bind (wpAny_newList ?_ hL)
  have hsz : ((s.heap.push (seqObj "list" #[] 0)).update s.heap.objs.size (Obj.mapSeq (· ++ vs.toArray))).objs.size = s.heap.objs.size + 1 := by
    rw [Heap.size_update, size_push']
  show wpAny _ _ _ _ _ { s with heap := copyHeap s.heap vs }
  rw [hsz]
  refine wpAny_bind (wpAny_holding (wpAny_call_entry_kw slot_list_sort ⟨_, copyHeap_at s.heap vs, rfl⟩ entry_list_sort ?body (ha2 _)))
  case body =>
    show wpAny (model prog w) A.in1.in1 (Builtin.«list.sort» ⟨[.ref (s.heap.objs.size + 1)], kw⟩) _ _ _
    refine wpAny_mono (body _) (fun f s' hf => ?_) fun _ _ e => e
    obtain ⟨rfl, hq⟩ := hf
    exact ⟨_, rfl, wpAny_pure ⟨_, rfl, hq⟩⟩
variable {β : Type} {enc : β → PyData} {vs : List Value} {bs : List β} {R : Value → β → Prop}
theorem sorted_dataT {l : Addr} {o : Obj} {n : Nat} {Q : Value → Shared → Prop} (ho : s.heap.get? l = some o) (hc : o.cls = .type "tuple") (hd : o.data = .seq vs.toArray n) (e : EachIs R vs bs) (er : EachIs (fun v b => ∃ as, Reads s.heap v (enc b) as) vs bs) (hal : AllAlike (bs.map enc)) (hk : Sortable (bs.map enc)) (hL : bs.length ≤ sizeLine)
    (hu : ∀ b, b ∈ bs → A.units + 2 + (enc b).depth < cLine) (h : ∀ out, out.length = bs.length → EachIs R out (bs.mergeSort (dataLe false enc)) → Q (.ref (s.heap.objs.size + 1)) { s with heap := sortedAll s.heap vs (List.toArray out) }) :
    wpAny (model prog w) A (call (.builtin "sorted") [.ref l]) Q E s := by
  have er' : EachIs (fun v b => ∃ as, Reads (sortingHeap (copyHeap s.heap vs) (s.heap.objs.size + 1) vs) v (enc b) as) vs bs := er.mono fun _ _ ⟨as, r⟩ => ⟨as, PyProof.Rows.Reads.keeps (fun _ _ => sorting_copy_old) r⟩
  have hL' : vs.length ≤ sizeLine := by rw [e.length]; exact hL
  have S := SortsAt.data (prog := prog) (w := w) (A := A.in1.in1) (s := { s with heap := sortingHeap (copyHeap s.heap vs) (s.heap.objs.size + 1) vs }) (each_map (R := fun v d => ∃ as, Reads (sortingHeap (copyHeap s.heap vs) (s.heap.objs.size + 1) vs) v d as) enc er') hal hk (bound_map hu)
  exact sorted_of_sortT ho hc hd hL' (args_sorted1 _) (fun _ => args_list_sort _) fun _ => list_sort_vals (s := { s with heap := copyHeap s.heap vs }) (copyHeap_at s.heap vs) S hL' ⟨rfl, h _ (by rw [sortVals_length false rfl]; exact e.length) (sortVals_data false e er' hal)⟩
end
end PySem.W

namespace Q
open PySem L2 PyProof.Rows
theorem eachV : ∀ {xs : List V} {its : List Value} {ds : List D}, Vals xs its → xs.length = ds.length → PySem.W.EachIs (fun u (b : V × D) => RelV b.1 u) its (xs.zip ds)
  | _, _, [], .nil, _ => .nil
  | _, _, _ :: _, .cons r t, hl => .cons r (eachV t (by simpa using hl))
  | _, _, [], .cons _ _, hl => by simp at hl
  | _, _, _ :: _, .nil, hl => by simp at hl
theorem vals_out : ∀ {out : List Value} {zs : List (V × D)}, PySem.W.EachIs (fun u (b : V × D) => RelV b.1 u) out zs → Vals (zs.map Prod.fst) out
  | _, _, .nil => .nil
  | _, _, .cons r t => .cons r (vals_out t)
theorem zip_snd : ∀ {xs : List V} {ds : List D}, xs.length = ds.length → (xs.zip ds).map Prod.snd = ds
  | [], [], _ => rfl
  | _ :: _, _ :: _, h => by simp only [List.zip_cons_cons, List.map_cons, zip_snd (by simpa using h : _ = _)]
  | [], _ :: _, h => by simp at h
  | _ :: _, [], h => by simp at h
theorem depth_mem : ∀ {ds : List D} {d : D}, d ∈ ds → d.depth ≤ PyData.depthAll ds
  | x :: xs, d, h => by
    rw [PyData.depthAll]
    rcases List.mem_cons.mp h with rfl | h
    · exact Nat.le_max_left _ _
    · exact Nat.le_trans (depth_mem h) (Nat.le_max_right _ _)
section
variable {X : Cx}
def rSortedD (K : PySem.W.Frag) : List V → Hp → VK → Prop := fun vs H Q => ∃ a xs ds, vs = [V.ref a] ∧ (SqL K H a xs ∨ SqT K H a xs) ∧ DpAll K H xs ds ∧ xs.length = ds.length ∧ PySem.W.AllAlike ds ∧ PySem.W.Sortable ds ∧ ds.length ≤ sizeLine ∧ PyData.depthAll ds ≤ 60 ∧
  ∀ p, H p = none → Q (.ref p) (upd H p (.lst (((xs.zip ds).mergeSort (PySem.W.dataLe false Prod.snd)).map Prod.fst)))
theorem cr_sortedD (hu : X.A.units + 65 < cLine) : CallR X (.builtin "sorted") (rSortedD X.K) := by
  intro pins s σ H vs us Q I r h
  obtain ⟨a, xs, ds, rfl, hs, hdp, hlen, hal, hk, hL, hdep, q⟩ := h
  rw [Vals.ref1 r]
  have hb : (xs.zip ds).map Prod.snd = ds := zip_snd hlen
  have hbl : (xs.zip ds).length = ds.length := by rw [List.length_zip, hlen, Nat.min_self]
  have hub : ∀ b, b ∈ xs.zip ds → X.A.units + 2 + (Prod.snd b).depth < cLine := fun b hm => by
    have : b.2 ∈ ds := by rw [← hb]; exact List.mem_map.mpr ⟨b, hm, rfl⟩
    have := depth_mem this
    omega
  have fin : ∀ (its : List Value), (∀ out, out.length = (xs.zip ds).length → PySem.W.EachIs (fun u (b : V × D) => RelV b.1 u) out ((xs.zip ds).mergeSort (PySem.W.dataLe false Prod.snd)) → EP X pins σ Q (.ref (s.heap.objs.size + 1)) { s with heap := sortedAll s.heap its (List.toArray out) }) := fun its out hol he => by
    obtain ⟨ep, he'⟩ := PyProof.Rows.sortedAll_at s.heap its out.toArray
    have hv := vals_out he
    have hz : (((xs.zip ds).mergeSort (PySem.W.dataLe false Prod.snd)).map Prod.fst).length ≤ sizeLine := by
      rw [hv.length, hol, hbl]; exact hL
    exact ⟨.ref _, upd H (s.heap.objs.size + 1) (.lst (((xs.zip ds).mergeSort (PySem.W.dataLe false Prod.snd)).map Prod.fst)), I.laid (t' := s.toks) (fun _ _ => PyProof.Rows.sortedAll_old) (Nat.le_succ _) ⟨hz, out, ep, hv, he'⟩, rfl, q _ (I.hok.fresh (Nat.le_succ _))⟩
  rcases hs with hs | hs
  · obtain ⟨its, rv, hl, hz⟩ := I.list hs
    obtain ⟨as, hr⟩ := Dp.readsAll I ds xs its hdp rv
    have er : PySem.W.EachIs (fun v (b : V × D) => ∃ as, Reads s.heap v (Prod.snd b) as) its (xs.zip ds) := PySem.W.readsAll_each Prod.snd (by rw [hb]; exact hr)
    exact PySem.W.sorted_data (enc := Prod.snd) hl.isList (eachV rv hlen) er (by rw [hb]; exact hal) (by rw [hb]; exact hk) (by rw [hbl]; exact hL) hub (fin its)
  · obtain ⟨its, rv, ⟨o, ho, hc, n, hd⟩, hz⟩ := I.tuple hs
    obtain ⟨as, hr⟩ := Dp.readsAll I ds xs its hdp rv
    have er : PySem.W.EachIs (fun v (b : V × D) => ∃ as, Reads s.heap v (Prod.snd b) as) its (xs.zip ds) := PySem.W.readsAll_each Prod.snd (by rw [hb]; exact hr)
    exact PySem.W.sorted_dataT (enc := Prod.snd) ho hc hd (eachV rv hlen) er (by rw [hb]; exact hal) (by rw [hb]; exact hk) (by rw [hbl]; exact hL) hub (fin its)
theorem vals_at : ∀ {xs : List V} {us : List Value} {i : Nat} {u : Value}, Vals xs us → us[i]? = some u → ∃ x, xs[i]? = some x ∧ RelV x u
  | _, _, _, _, .nil, e => by simp at e
  | _, _, 0, _, .cons r _, e => by simp at e; subst e; exact ⟨_, rfl, r⟩
  | _, _, i + 1, _, .cons _ t, e => by
    obtain ⟨x, h1, h2⟩ := vals_at t (by simpa using e)
    exact ⟨x, by simpa using h1, h2⟩
theorem reads_at {h : Heap} : ∀ {vs : List Value} {ds : List D} {as : List Addr} {i : Nat} {v : Value}, ReadsAll h vs ds as → vs[i]? = some v → ∃ d bs, ds[i]? = some d ∧ Reads h v d bs
  | _, _, _, _, _, .nil, e => by simp at e
  | _, _, _, 0, _, .cons r _, e => by simp at e; subst e; exact ⟨_, _, rfl, r⟩
  | _, _, _, i + 1, _, .cons _ t, e => by
    obtain ⟨d, bs, h1, h2⟩ := reads_at t (by simpa using e)
    exact ⟨d, bs, by simpa using h1, h2⟩
theorem foldl_best {α : Type} (f : α → α → Bool) : ∀ (xs : List α) (x : α), xs.foldl (fun a y => if f y a then y else a) x ∈ x :: xs
  | [], x => List.mem_cons_self
  | y :: xs, x => by
    rw [List.foldl_cons]
    have := foldl_best f xs (if f y x then y else x)
    split at this
    · rename_i h; rw [if_pos h]; exact List.mem_cons_of_mem _ this
    · rename_i h
      rw [if_neg h]
      rcases List.mem_cons.mp this with e | e
      · rw [e]; exact List.mem_cons_self
      · exact List.mem_cons_of_mem _ (List.mem_cons_of_mem _ e)
theorem minD_mem (x : D) (xs : List D) : PySem.W.minD x xs ∈ x :: xs := foldl_best (fun y a => PySem.W.dataLt y a) xs x
theorem maxD_mem (x : D) (xs : List D) : PySem.W.maxD x xs ∈ x :: xs := foldl_best (fun y a => PySem.W.dataLt a y) xs x
theorem best_out {pins : List (Addr × Obj)} {s : Shared} {σ : L2.St} {H : Hp} {Q : VK} {xs : List V} {its : List Value} {ds : List D} {as bs : List Addr} {m : D} {i : Nat} {v : Value} {h' : Heap} {tk : Nat} (I : Inv X pins σ H s) (rv : Vals xs its) (hr : ReadsAll s.heap its ds as) (hal : PySem.W.AlikeAll ds) (hm : m ∈ ds) (hv : its[i]? = some v) (hrd : Reads h' v m bs)
    (hk : ∀ b o, s.heap.get? b = some o → h'.get? b = some o) (q : ∀ (i : Nat) v, xs[i]? = some v → ds[i]? = some m → Q v H) : EP X pins σ Q v { s with heap := h', toks := tk } := by
  obtain ⟨x, hx, rx⟩ := vals_at rv hv
  obtain ⟨d, b2, hd, rd⟩ := reads_at hr hv
  have hdm : d ∈ ds := List.mem_of_getElem? hd
  have e := PySem.W.alike_unique _ _ _ _ _ (hal.1 _ hdm _ hm) (PyProof.Rows.Reads.keeps hk rd) hrd
  subst e
  exact ⟨x, H, I.kept (t' := tk) hk, rx, q i x hx hd⟩
/-- min, max of a list of data -/
def rMinD (K : PySem.W.Frag) : List V → Hp → VK → Prop := fun vs H Q => ∃ a xs d ds, vs = [V.ref a] ∧ (SqL K H a xs ∨ SqT K H a xs) ∧ DpAll K H xs (d :: ds) ∧ PySem.W.AlikeAll (d :: ds) ∧ PyData.depthAll (d :: ds) ≤ 60 ∧
  ∀ (i : Nat) v, xs[i]? = some v → (d :: ds)[i]? = some (PySem.W.minD d ds) → Q v H
theorem cr_minD (hc : X.calm = true) (hu : X.A.units + 65 < cLine) : CallR X (.builtin "min") (rMinD X.K) := by
  intro pins s σ H vs us Q I r h
  obtain ⟨a, xs, d, ds, rfl, hs, hdp, hal, hdep, q⟩ := h
  rw [Vals.ref1 r]
  rcases hs with hs | hs
  · obtain ⟨its, rv, hl, hz⟩ := I.list hs
    obtain ⟨as, hr⟩ := Dp.readsAll I (d :: ds) xs its hdp rv
    refine PySem.W.min_list_data (vs := its.toArray) (I.ok.hd hc) hl.isList (by simpa using hr) hal (by omega) fun i v h' tk bs hv hrd hk => ?_
    have hv : its[i]? = some v := by simpa using hv
    exact best_out I rv hr hal (minD_mem d ds) hv hrd hk q
  · obtain ⟨its, rv, hl, hz⟩ := I.tuple hs
    obtain ⟨as, hr⟩ := Dp.readsAll I (d :: ds) xs its hdp rv
    refine PySem.W.min_tuple_data (vs := its.toArray) (I.ok.hd hc) hl (by simpa using hr) hal (by omega) fun i v h' tk bs hv hrd hk => ?_
    have hv : its[i]? = some v := by simpa using hv
    exact best_out I rv hr hal (minD_mem d ds) hv hrd hk q
def rMaxD (K : PySem.W.Frag) : List V → Hp → VK → Prop := fun vs H Q => ∃ a xs d ds, vs = [V.ref a] ∧ (SqL K H a xs ∨ SqT K H a xs) ∧ DpAll K H xs (d :: ds) ∧ PySem.W.AlikeAll (d :: ds) ∧ PyData.depthAll (d :: ds) ≤ 60 ∧
  ∀ (i : Nat) v, xs[i]? = some v → (d :: ds)[i]? = some (PySem.W.maxD d ds) → Q v H
theorem cr_maxD (hc : X.calm = true) (hu : X.A.units + 65 < cLine) : CallR X (.builtin "max") (rMaxD X.K) := by
  intro pins s σ H vs us Q I r h
  obtain ⟨a, xs, d, ds, rfl, hs, hdp, hal, hdep, q⟩ := h
  rw [Vals.ref1 r]
  rcases hs with hs | hs
  · obtain ⟨its, rv, hl, hz⟩ := I.list hs
    obtain ⟨as, hr⟩ := Dp.readsAll I (d :: ds) xs its hdp rv
    refine PySem.W.max_list_data (vs := its.toArray) (I.ok.hd hc) hl.isList (by simpa using hr) hal (by omega) fun i v h' tk bs hv hrd hk => ?_
    have hv : its[i]? = some v := by simpa using hv
    exact best_out I rv hr hal (maxD_mem d ds) hv hrd hk q
  · obtain ⟨its, rv, hl, hz⟩ := I.tuple hs
    obtain ⟨as, hr⟩ := Dp.readsAll I (d :: ds) xs its hdp rv
    refine PySem.W.max_tuple_data (vs := its.toArray) (I.ok.hd hc) hl (by simpa using hr) hal (by omega) fun i v h' tk bs hv hrd hk => ?_
    have hv : its[i]? = some v := by simpa using hv
    exact best_out I rv hr hal (maxD_mem d ds) hv hrd hk q
theorem op_ltD (hu : X.A.units + 65 < cLine) : OpR X (compareOp .Lt) (fun x y H Q => ∃ d e, Dp X.K H x d ∧ Dp X.K H y e ∧ PySem.W.alike d e = true ∧ d ≠ .none ∧ d.depth ≤ 60 ∧ Q (.bl (PySem.W.dataLt d e)) H) := by
  intro pins s σ H x y v u Q I rx ry h
  obtain ⟨d, e, hd, he, ha, hn, hdep, q⟩ := h
  obtain ⟨as, r1⟩ := Dp.reads I d x v hd rx
  obtain ⟨bs, r2⟩ := Dp.reads I e y u he ry
  have : min d.depth e.depth ≤ 60 := Nat.le_trans (Nat.min_le_left _ _) hdep
  exact PySem.W.lt_data r1 r2 ha hn (by omega) ⟨.bl _, H, I, rfl, q⟩
end
end Q
set_option maxHeartbeats 1000000
namespace Q
open PySem L2 PyProof.Rows

mutual
theorem plain_of : ∀ {d : D}, PyData.canLay0 d = true → plainD d = true
  | .none, _ => by simp [plainD]
  | .bool _, _ => by simp [plainD]
  | .int _, _ => by simp [plainD]
  | .str _, _ => by simp [plainD]
  | .list xs, h => by simp only [plainD]; exact plains_of (by simpa [PyData.canLay0] using h)
  | .tuple xs, h => by simp only [plainD]; exact plains_of (by simpa [PyData.canLay0] using h)
  | .dict _, h => by simp [PyData.canLay0] at h
theorem plains_of : ∀ {d : List D}, PyData.canLayAll0 d = true → plainDs d = true
  | [], _ => by simp [plainDs]
  | x :: xs, h => by
    simp only [PyData.canLayAll0, Bool.and_eq_true] at h
    simp only [plainDs, Bool.and_eq_true]
    exact ⟨plain_of h.1, plains_of h.2⟩
end
theorem plain_sh {d : D} (h : SeqAt.shaped d = true) : plainD d = true := plain_of (SeqAt.canLay_of_shaped h)

section
variable {X : Cx} {z : Z}
def rInT (K : PySem.W.Frag) (neg : Bool) : R2 := fun x y H Q => ∃ d ds, Dp K H x d ∧ Dp K H y (.tuple ds) ∧ SeqAt.shaped d = true ∧ SeqAt.shaped (.list ds) = true ∧ Q (.bl (if neg then !(ds.any fun z => PyData.eqv z d) else ds.any fun z => PyData.eqv z d)) H
theorem op_inT (hu : X.A.units + 65 < cLine) : OpR X (compareOp .In) (rInT X.K false) := by
  intro pins s σ H x y v u Q I rx ry h
  obtain ⟨d, ds, hd, he, sd, se, q⟩ := h
  obtain ⟨a1, r1⟩ := Dp.reads I d x v hd rx
  obtain ⟨a2, r2⟩ := Dp.reads I (.tuple ds) y u he ry
  exact SeqAt.in_tuple_reads r2 r1 (SeqAt.canLay_of_shaped se) (SeqAt.canLay_of_shaped sd) (room_in_shaped (xs := ds) sd hu) ⟨.bl _, H, I, rfl, q⟩
theorem op_notInT (hu : X.A.units + 65 < cLine) : OpR X (compareOp .NotIn) (rInT X.K true) := by
  intro pins s σ H x y v u Q I rx ry h
  obtain ⟨d, ds, hd, he, sd, se, q⟩ := h
  obtain ⟨a1, r1⟩ := Dp.reads I d x v hd rx
  obtain ⟨a2, r2⟩ := Dp.reads I (.tuple ds) y u he ry
  exact SeqAt.notIn_tuple_reads r2 r1 (SeqAt.canLay_of_shaped se) (SeqAt.canLay_of_shaped sd) (room_in_shaped (xs := ds) sd hu) ⟨.bl _, H, I, rfl, q⟩

theorem inD_some {d : D} {ds : List D} {b : Bool} (h : inD d ds = some b) : SeqAt.shaped d = true ∧ SeqAt.shaped (.list ds) = true ∧ b = ds.any fun z => PyData.eqv z d := by
  unfold inD at h
  split at h
  · rename_i hc
    simp only [Bool.and_eq_true] at hc
    exact ⟨hc.1, hc.2, (Option.some.inj h).symm⟩
  · cases h
theorem cmp_ok {op : COp} {d1 d2 : D} {v1 v2 : V} {b : Bool} {Q : VK} {A : AP} {H : Hp} (hu : X.A.units + 65 < cLine) (a1 : Rep X.K A H v1 d1) (a2 : Rep X.K A H v2 d2)
    (h : cmpR op d1 d2 = some b) (g : Q (.bl b) H) : OpAt X (compareOp (cmpOf op)) v1 v2 H Q := by
  have eqs : ∀ {b : Bool}, eqD d1 d2 = some b → SeqAt.shaped d1 = true ∧ SeqAt.shaped d2 = true ∧ b = PyData.eqv d1 d2 := fun {b} h => by
    unfold eqD at h
    split at h
    · rename_i hc
      simp only [Bool.and_eq_true] at hc
      exact ⟨hc.1, hc.2, (Option.some.inj h).symm⟩
    · cases h
  have pl : ∀ {ds : List D}, SeqAt.shaped (.list ds) = true → plainD (.list ds) = true := fun h => plain_sh h
  have pt : ∀ {ds : List D}, SeqAt.shaped (.list ds) = true → plainD (.tuple ds) = true := fun h => by
    have := plain_sh h
    simpa [plainD] using this
  unfold cmpR at h
  split at h
  case h_1 =>
    obtain ⟨s1, s2, e⟩ := eqs h
    subst e
    exact .of (op_eqD (by omega)) ⟨_, _, a1.dp (plain_sh s1), a2.dp (plain_sh s2), s1, s2, g⟩
  case h_2 =>
    obtain ⟨b', h1, e⟩ := Option.map_eq_some_iff.mp h
    obtain ⟨s1, s2, e'⟩ := eqs h1
    subst e e'
    exact .of (op_neD (by omega)) ⟨_, _, a1.dp (plain_sh s1), a2.dp (plain_sh s2), s1, s2, g⟩
  case h_3 => cases h; rw [a1.intv, a2.intv]; exact .of op_lt ⟨_, _, rfl, rfl, g⟩
  case h_4 => cases h; rw [a1.intv, a2.intv]; exact .of op_le ⟨_, _, rfl, rfl, g⟩
  case h_5 => cases h; rw [a1.intv, a2.intv]; exact .of op_gt ⟨_, _, rfl, rfl, g⟩
  case h_6 => cases h; rw [a1.intv, a2.intv]; exact .of op_ge ⟨_, _, rfl, rfl, g⟩
  case h_7 =>
    obtain ⟨s1, s2, e⟩ := inD_some h
    subst e
    exact .of (op_inD hu) ⟨_, _, a1.dp (plain_sh s1), a2.dp (pl s2), s1, s2, g⟩
  case h_8 =>
    obtain ⟨s1, s2, e⟩ := inD_some h
    subst e
    exact .of (op_inT hu) ⟨_, _, a1.dp (plain_sh s1), a2.dp (pt s2), s1, s2, g⟩
  case h_9 =>
    obtain ⟨b', h1, e⟩ := Option.map_eq_some_iff.mp h
    obtain ⟨s1, s2, e'⟩ := inD_some h1
    subst e e'
    exact .of (op_notInD hu) ⟨_, _, a1.dp (plain_sh s1), a2.dp (pl s2), s1, s2, g⟩
  case h_10 =>
    obtain ⟨b', h1, e⟩ := Option.map_eq_some_iff.mp h
    obtain ⟨s1, s2, e'⟩ := inD_some h1
    subst e e'
    exact .of (op_notInT hu) ⟨_, _, a1.dp (plain_sh s1), a2.dp (pt s2), s1, s2, g⟩
  case h_11 =>
    split at h
    · rename_i hc
      cases h
      unfold ltOk at hc
      simp only [Bool.and_eq_true, decide_eq_true_eq] at hc
      obtain ⟨⟨⟨⟨h1, h2⟩, h3⟩, h4⟩, h5⟩ := hc
      exact .of (op_ltD hu) ⟨_, _, a1.dp h4, a2.dp h5, h1, fun e => by (subst e; cases h2), by omega, g⟩
    · cases h
  case h_12 => cases h

theorem Reps.atI {K : PySem.W.Frag} {A : AP} {H : Hp} {vs : List V} {ds : List D} {i : Int} {d : D} (r : Reps K A H vs ds) (h : atI ds i = some d) : ∃ v, L2.atI vs i = some v ∧ Rep K A H v d := by
  unfold L2.atI at h ⊢
  rw [r.length]
  cases e : ixN ds.length i with
  | none => rw [e] at h; cases h
  | some j =>
    rw [e] at h
    exact r.get h
/-- o[i] by data: the item's value, and that it is read as the whole is -/
theorem idx_ok {d i c : D} {v1 v2 : V} {fl : Fl} {Q : VK} {A S A' : AP} {H : Hp} (hSA : ∀ a, S a → A a) (h1 : PkR X.K A S H fl d v1) (a2 : Rep X.K A' H v2 i)
    (h : idxR d i = some c) (g : ∀ v, PkR X.K A S H (childFl fl c) c v → Q v H) : rIx X.K v1 v2 H Q := by
  have child : ∀ {v : V} (xs : List V) (ds : List D), (fl ≠ .deep → Rep X.K A H v c) → Rep X.K S H v c → PkR X.K A S H (childFl fl c) c v := fun {v} xs ds k1 k2 => by
    unfold childFl
    cases fl with
    | val => exact k1 (by simp)
    | shal => exact k1 (by simp)
    | deep =>
      show PkR X.K A S H (if flat c = true then .val else .deep) c v
      split
      · rename_i hf; exact k2.flat hf
      · exact k2
  unfold idxR at h
  split at h
  case h_1 ds j =>
    rw [a2.intv]
    by_cases hf : fl = .deep
    · subst hf
      have h1 : Rep X.K S H v1 (.list ds) := h1
      obtain ⟨a, xs, rfl, q, p⟩ := h1.sqL
      obtain ⟨v, e, r⟩ := p.atI h
      exact .inl ⟨a, xs, j, v, rfl, rfl, q.sq, e, g v (child xs ds (fun k => absurd rfl k) r)⟩
    · obtain ⟨a, xs, rfl, q, p⟩ := h1.sqL hf
      obtain ⟨v, e, r⟩ := p.atI h
      exact .inl ⟨a, xs, j, v, rfl, rfl, q.sq, e, g v (child xs ds (fun _ => r) (r.mono hSA))⟩
  case h_2 ds j =>
    rw [a2.intv]
    by_cases hf : fl = .deep
    · subst hf
      have h1 : Rep X.K S H v1 (.tuple ds) := h1
      obtain ⟨a, xs, rfl, q, p⟩ := h1.sqT
      obtain ⟨v, e, r⟩ := p.atI h
      exact .inr (.inl ⟨a, xs, j, v, rfl, rfl, q, e, g v (child xs ds (fun k => absurd rfl k) r)⟩)
    · obtain ⟨a, xs, rfl, q, p⟩ := h1.sqT hf
      obtain ⟨v, e, r⟩ := p.atI h
      exact .inr (.inl ⟨a, xs, j, v, rfl, rfl, q, e, g v (child xs ds (fun _ => r) (r.mono hSA))⟩)
  case h_3 w j =>
    have e1 := (h1.toS hSA).strv
    rw [a2.intv, e1]
    split at h
    · rename_i hl
      obtain ⟨n, e, e2⟩ := Option.map_eq_some_iff.mp h
      subst e2
      exact .inr (.inr ⟨w, j, n, rfl, rfl, hl, e, g _ (child [] [] (fun _ => .str _) (.str _))⟩)
    · cases h
  case h_4 => cases h

theorem cut_reps {K : PySem.W.Frag} {A : AP} {H : Hp} {vs : List V} {ds : List D} (r : Reps K A H vs ds) (lo hi : Option Int) : Reps K A H (cutV vs lo hi) (cutD ds lo hi) := by
  unfold cutV cutD
  rw [r.length]
  exact (r.drop _).take _
theorem slc_ok {d : D} {v1 : V} {fl : Fl} {Q : VK} {lo hi : Option Int} {r : MV} (R : Rel X.K z) (h1 : PkR X.K z.A z.S z.H fl d v1) (h : slcR d fl lo hi = some r) (g : Gives X.K z r Q) :
    rSlL X.K v1 lo hi z.H Q ∨ rSlA X.K v1 lo hi z.H Q := by
  unfold slcR at h
  split at h
  case h_1 xs =>
    split at h
    · cases h
    · rename_i hf
      cases h
      obtain ⟨a, us, rfl, q, p⟩ := h1.sqLb hf
      exact .inl ⟨a, us, rfl, q.sq, g.lst R (cut_reps p lo hi)⟩
  case h_2 xs =>
    split at h
    · cases h
    · rename_i hf
      cases h
      obtain ⟨a, us, rfl, q, p⟩ := h1.sqT hf
      refine .inr ⟨a, us, rfl, q, fun hw => ?_, fun _ => g.tup R (cut_reps p lo hi)⟩
      have e : cutD xs lo hi = xs := by
        rw [p.length] at hw
        unfold cutD
        rw [hw.1, hw.2]
        simp
      rw [e] at g
      have r1 : Rep X.K z.A z.H (.ref a) (.tuple xs) := by
        cases fl with
        | val => exact h1
        | shal =>
          rcases h1 with h1 | ⟨_, _, _, _, e2, _⟩
          · exact h1
          · cases e2
        | deep => exact absurd rfl hf
      exact g.rep R r1
  case h_3 => cases h
theorem truth_ok {d : D} {v : V} {b : Bool} {A : AP} {H : Hp} {K : PySem.W.Frag} (a : Rep K A H v d) (h : truthR d = some b) : TruV K v H b := by
  cases a with
  | non => cases h; rfl
  | bl _ => cases h; rfl
  | int _ => cases h; rfl
  | str _ => cases h
  | lst q p =>
    cases h
    refine .inl ⟨_, q.sq, ?_⟩
    cases p <;> rfl
  | tup q p =>
    cases h
    refine .inr (.inl ⟨_, q.sq, ?_⟩)
    cases p <;> rfl
  | nd _ _ _ _ => cases h
end
end Q
set_option maxHeartbeats 1000000
namespace Q
open PySem L2 PyProof.Rows
section
variable {X : Cx}
/-- d[k] by values -/
def rIxD : R2 := fun x y H Q => ∃ a v, x = .ref a ∧ DGet H a y (some v) ∧ Q v H
theorem ix_dict (hu : X.A.units + 1 < cLine) : IxR X rIxD := by
  intro value slice pins s σ H x y v u Q I rx ry h hs
  obtain ⟨a, z, rfl, g, q⟩ := h
  cases rx
  have hT := dict_typeIs I g
  have key : wpAny (model X.prog X.w) X.A (getItem (.ref a) u) (EP X pins σ Q) X.xe s := d_getItem hu I g ry fun w' s3 I3 rw' => ⟨z, H, I3, rw', q⟩
  have last : wpAny (model X.prog X.w) X.A (subscripted slice false (.ref a) u) (fun r s3 => wpAny (model X.prog X.w) X.A (letTemporaryGo value (.ref a) r >>= fun _ => pure r) (EP X pins σ Q) X.xe s3) X.xe s := by
    rw [hs]; exact wpAny_operating (wpAny_mono key (fun r s3 k3 => wpAny_bind (wpAny_letTemporaryGo (wpAny_pure k3))) fun _ _ w => w)
  unfold subscriptTail; refine wpAny_bind ?_; rw [getitemInPython_of_ne hT.not_modules]
  refine wpAny_bind (wpAny_specialOf hT PySem.F.slot_dict_getitem.lookup ?_)
  first | exact wpAny_pure (wpAny_bind last) | exact wpAny_bind last | exact last
def rIxA (K : PySem.W.Frag) : R2 := fun x y H Q => rIx K x y H Q ∨ rIxD x y H Q
theorem ix_any (hu : X.A.units + 1 < cLine) : IxR X (rIxA X.K) := ix_seq.or (ix_dict hu)
end
end Q
set_option maxHeartbeats 1000000
namespace Q
open PySem L2 PyProof.Rows

section
variable {X : Cx} {z : Z}
def CallAt (X : Cx) (f : Value) (vs : List V) (H : Hp) (Q : VK) : Prop :=
  ∀ (pins : List (Addr × Obj)) (s : Shared) (σ : L2.St) (us : List Value), Inv X pins σ H s → Vals vs us → wpAny (model X.prog X.w) X.A (call f us) (EP X pins σ Q) X.xe s
theorem CallAt.of {f : Value} {r : List V → Hp → VK → Prop} {vs : List V} {H : Hp} {Q : VK} (h : CallR X f r) (q : r vs H Q) : CallAt X f vs H Q := fun pins s σ us I rv => h pins s σ H vs us Q I rv q
theorem CallAt.cr {f : Value} : CallR X f (CallAt X f) := fun pins s σ H vs us Q I rv h => h pins s σ us I rv

inductive PkRs (K : PySem.W.Frag) (A S : AP) (H : Hp) : List (D × Fl) → List V → Prop
  | nil : PkRs K A S H [] []
  | cons {d : D} {fl : Fl} {v : V} {ds : List (D × Fl)} {vs : List V} : PkR K A S H fl d v → PkRs K A S H ds vs → PkRs K A S H ((d, fl) :: ds) (v :: vs)
theorem PkRs.fr {K : PySem.W.Frag} {A A' S S' : AP} {H H' : Hp} (hSA : ∀ a, S a → A a) (f : Fr A S H A' S' H') : ∀ {ds : List (D × Fl)} {vs : List V}, PkRs K A S H ds vs → PkRs K A' S' H' ds vs
  | _, _, .nil => .nil
  | _, _, .cons a b => .cons (a.fr hSA f) (PkRs.fr hSA f b)

def bltFn : Blt → Value
  | .len => .builtin "len"
  | .abs => .builtin "abs"
  | .int => .type "int"
  | .min2 => .builtin "min"
  | .max2 => .builtin "max"
  | .list => .type "list"
  | .tuple => .type "tuple"
  | .all => .builtin "all"
  | .any => .builtin "any"
  | .isi _ => .none
  | .sorted => .builtin "sorted"
  | .min1 => .builtin "min"
  | .max1 => .builtin "max"
  | .sortD => .builtin "sorted"
  | .minD => .builtin "min"
  | .maxD => .builtin "max"
def bltIsi : Blt → Bool
  | .isi _ => true
  | _ => false
theorem bools_reps {K : PySem.W.Frag} {A : AP} {H : Hp} : ∀ {vs : List V} {ds : List D} {bs : List Bool}, Reps K A H vs ds → boolsOf ds = some bs → vs = bs.map V.bl
  | _, _, _, .nil, h => by cases h; rfl
  | _, d :: ds, bs, .cons a b, h => by
    cases d with
    | bool b' =>
      obtain ⟨bs', h1, e⟩ := Option.map_eq_some_iff.mp (show (boolsOf ds).map (b' :: ·) = some bs from h)
      subst e
      rw [a.blv, bools_reps b h1]
      rfl
    | none => cases h
    | int _ => cases h
    | str _ => cases h
    | list _ => cases h
    | tuple _ => cases h
    | dict _ => cases h
theorem obind {α β : Type} {x : Option α} {f : α → Option β} {b : β} (h : x.bind f = some b) : ∃ a, x = some a ∧ f a = some b := by
  cases x with
  | none => cases h
  | some a => exact ⟨a, rfl, h⟩
theorem ints_reps {K : PySem.W.Frag} {A : AP} {H : Hp} : ∀ {vs : List V} {ds : List D} {ns : List Int}, Reps K A H vs ds → intsOf ds = some ns → vs = ns.map V.int
  | _, _, _, .nil, h => by cases h; rfl
  | _, d :: ds, ns, .cons a b, h => by
    cases d with
    | int i =>
      obtain ⟨ns', h1, e⟩ := obind (show (intsOf ds).bind _ = some ns from h)
      cases e
      rw [a.intv, ints_reps b h1]
      rfl
    | none => cases h
    | bool _ => cases h
    | str _ => cases h
    | list _ => cases h
    | tuple _ => cases h
    | dict _ => cases h
theorem reps_int {K : PySem.W.Frag} {A : AP} {H : Hp} : ∀ ns : List Int, Reps K A H (ns.map V.int) (ns.map PyData.int)
  | [] => .nil
  | n :: ns => .cons (.int n) (reps_int ns)
theorem fold_min : ∀ (ns : List Int) (n : Int), (ns.foldl (fun a b => if b < a then b else a) n) ∈ n :: ns ∧ ∀ y ∈ n :: ns, (ns.foldl (fun a b => if b < a then b else a) n) ≤ y
  | [], n => ⟨List.mem_cons_self, fun y hy => by rcases List.mem_cons.mp hy with rfl | hy; exact Int.le_refl _; cases hy⟩
  | k :: ns, n => by
    obtain ⟨h1, h2⟩ := fold_min ns (if k < n then k else n)
    rw [List.foldl_cons]
    refine ⟨?_, fun y hy => ?_⟩
    · rcases List.mem_cons.mp h1 with h | h
      · rw [h]; split
        · exact List.mem_cons_of_mem _ List.mem_cons_self
        · exact List.mem_cons_self
      · exact List.mem_cons_of_mem _ (List.mem_cons_of_mem _ h)
    · have h0 := h2 _ List.mem_cons_self
      rcases List.mem_cons.mp hy with rfl | hy
      · refine Int.le_trans h0 ?_; split <;> omega
      · rcases List.mem_cons.mp hy with rfl | hy
        · refine Int.le_trans h0 ?_; split <;> omega
        · exact h2 y (List.mem_cons_of_mem _ hy)
theorem fold_max : ∀ (ns : List Int) (n : Int), (ns.foldl (fun a b => if b > a then b else a) n) ∈ n :: ns ∧ ∀ y ∈ n :: ns, y ≤ (ns.foldl (fun a b => if b > a then b else a) n)
  | [], n => ⟨List.mem_cons_self, fun y hy => by rcases List.mem_cons.mp hy with rfl | hy; exact Int.le_refl _; cases hy⟩
  | k :: ns, n => by
    obtain ⟨h1, h2⟩ := fold_max ns (if k > n then k else n)
    rw [List.foldl_cons]
    refine ⟨?_, fun y hy => ?_⟩
    · rcases List.mem_cons.mp h1 with h | h
      · rw [h]; split
        · exact List.mem_cons_of_mem _ List.mem_cons_self
        · exact List.mem_cons_self
      · exact List.mem_cons_of_mem _ (List.mem_cons_of_mem _ h)
    · have h0 := h2 _ List.mem_cons_self
      rcases List.mem_cons.mp hy with rfl | hy
      · refine Int.le_trans ?_ h0; split <;> omega
      · rcases List.mem_cons.mp hy with rfl | hy
        · refine Int.le_trans ?_ h0; split <;> omega
        · exact h2 y (List.mem_cons_of_mem _ hy)
theorem minI_ok {ns : List Int} {m : Int} (h : minI ns = some m) : 0 < ns.length ∧ m ∈ ns ∧ ∀ y ∈ ns, m ≤ y := by
  cases ns with
  | nil => cases h
  | cons n ns => cases h; exact ⟨Nat.succ_pos _, fold_min ns n⟩
theorem maxI_ok {ns : List Int} {m : Int} (h : maxI ns = some m) : 0 < ns.length ∧ m ∈ ns ∧ ∀ y ∈ ns, y ≤ m := by
  cases ns with
  | nil => cases h
  | cons n ns => cases h; exact ⟨Nat.succ_pos _, fold_max ns n⟩
theorem insL_perm (n : Int) : ∀ xs : List Int, (insL n xs).Perm (n :: xs)
  | [] => List.Perm.refl _
  | x :: xs => by
    unfold insL
    split
    · exact List.Perm.refl _
    · exact ((insL_perm n xs).cons x).trans (List.Perm.swap n x xs)
theorem insL_up (n : Int) : ∀ xs : List Int, xs.Pairwise (· ≤ ·) → (insL n xs).Pairwise (· ≤ ·)
  | [], _ => by simp [insL]
  | x :: xs, h => by
    have h' := List.pairwise_cons.mp h
    unfold insL
    split
    · rename_i hx
      refine List.pairwise_cons.mpr ⟨fun y hy => ?_, h⟩
      rcases List.mem_cons.mp hy with rfl | hy
      · exact hx
      · exact Int.le_trans hx (h'.1 y hy)
    · rename_i hx
      refine List.pairwise_cons.mpr ⟨fun y hy => ?_, insL_up n xs h'.2⟩
      rcases List.mem_cons.mp ((insL_perm n xs).mem_iff.mp hy) with rfl | hy
      · omega
      · exact h'.1 y hy
theorem sortI_perm : ∀ ns : List Int, (sortI ns).Perm ns
  | [] => List.Perm.refl _
  | n :: ns => (insL_perm n _).trans ((sortI_perm ns).cons n)
theorem sortI_up : ∀ ns : List Int, (sortI ns).Pairwise (· ≤ ·)
  | [] => List.Pairwise.nil
  | n :: ns => insL_up n _ (sortI_up ns)
theorem up_unique : ∀ {xs ys : List Int}, xs.Perm ys → xs.Pairwise (· ≤ ·) → ys.Pairwise (· ≤ ·) → xs = ys := fun {xs ys} p h1 h2 =>
  p.eq_of_pairwise (fun a b _ _ h1 h2 => Int.le_antisymm h1 h2) h1 h2
theorem sorted_eq {ns' ns : List Int} (hp : ns'.Perm ns) (hs : ns'.Pairwise (· ≤ ·)) : ns' = sortI ns := up_unique (hp.trans (sortI_perm ns).symm) hs (sortI_up ns)
theorem PkR.rdAny {K : PySem.W.Frag} {A S : AP} {H : Hp} (hSA : ∀ a, S a → A a) {fl : Fl} {ds : List D} {v : V} (r : PkR K A S H fl (.list ds) v) : ∃ a xs, v = .ref a ∧ RL K H a xs ∧ Reps K S H xs ds := (r.toS hSA).sqL
theorem PkR.repT {K : PySem.W.Frag} {A S : AP} {H : Hp} {fl : Fl} {ds : List D} {v : V} (hf : fl ≠ .deep) (r : PkR K A S H fl (.tuple ds) v) : Rep K A H v (.tuple ds) := by
  cases fl with
  | val => exact r
  | shal =>
    rcases r with r | ⟨_, _, _, _, e2, _⟩
    · exact r
    · cases e2
  | deep => exact absurd rfl hf

theorem Rep.plainAll {K : PySem.W.Frag} {A : AP} {H : Hp} {xs : List V} {ds : List D} (h : plainDs ds = true) (r : Reps K A H xs ds) : DpAll K H xs ds := r.dp h
theorem sort_inv {ds : List D} (h : sortOk ds = true) : PySem.W.AllAlike ds ∧ PySem.W.Sortable ds ∧ ds.length ≤ sizeLine ∧ PyData.depthAll ds ≤ 60 ∧ plainDs ds = true := by
  unfold sortOk at h
  simp only [Bool.and_eq_true, decide_eq_true_eq, Bool.or_eq_true] at h
  obtain ⟨⟨⟨⟨h1, h2⟩, h3⟩, h4⟩, h5⟩ := h
  refine ⟨fun d hd e he => ?_, ?_, h3, h4, h5⟩
  · exact List.all_eq_true.mp (List.all_eq_true.mp h1 d hd) e he
  · rcases h2 with h2 | h2
    · refine .inl fun d hd => ?_
      have := List.all_eq_true.mp h2 d hd
      unfold tup1 at this
      split at this
      · exact ⟨_, _, rfl⟩
      · cases this
    · refine .inr fun d hd => ?_
      have := List.all_eq_true.mp h2 d hd
      refine ⟨fun e => by (subst e; cases this), fun xs e => by (subst e; cases this)⟩
theorem best_inv {ds : List D} (h : bestOk ds = true) : PySem.W.AlikeAll ds ∧ PyData.depthAll ds ≤ 60 ∧ plainDs ds = true := by
  unfold bestOk at h
  simp only [Bool.and_eq_true, decide_eq_true_eq] at h
  obtain ⟨⟨⟨h1, h2⟩, h4⟩, h5⟩ := h
  refine ⟨⟨fun d hd e he => List.all_eq_true.mp (List.all_eq_true.mp h1 d hd) e he, fun d hd e => ?_⟩, h4, h5⟩
  have := List.all_eq_true.mp h2 d hd
  subst e; cases this
theorem dl_le (a b : D) : PySem.W.dataLe false id a b = !PySem.W.dataLt b a := by rw [PySem.W.dataLe_eq]; rfl
theorem dl_neg {a b c : D} (h1 : PySem.W.dataLt a b = false) (h2 : PySem.W.dataLt b c = false) : PySem.W.dataLt a c = false := by
  cases h : PySem.W.dataLt a c with
  | false => rfl
  | true =>
    rcases (PyProof.Rows.listOrd PyProof.Rows.itemOrd).negTrans _ (PySem.W.keyToks b) _ h with q | q
    · have q : PySem.W.dataLt a b = true := q
      rw [h1] at q; cases q
    · have q : PySem.W.dataLt b c = true := q
      rw [h2] at q; cases q
theorem dl_as {a b : D} (h : PySem.W.dataLt a b = true) : PySem.W.dataLt b a = false := PyProof.Rows.KeyOrd.klt_asymm (O := PyProof.Rows.listOrd PyProof.Rows.itemOrd) h
theorem insD_at {a : D} : ∀ {l1 l2 : List D}, (∀ b ∈ l1, PySem.W.dataLt b a = true) → (∀ b ∈ l2.head?, PySem.W.dataLt b a = false) → insD a (l1 ++ l2) = l1 ++ a :: l2
  | [], [], _, _ => rfl
  | [], y :: ys, _, h => by
    show (if PySem.W.dataLt y a then y :: insD a ys else a :: y :: ys) = _
    rw [h y rfl]; rfl
  | x :: l1, l2, h, h2 => by
    show (if PySem.W.dataLt x a then x :: insD a (l1 ++ l2) else a :: x :: (l1 ++ l2)) = _
    rw [h x List.mem_cons_self, insD_at (fun b hb => h b (List.mem_cons_of_mem _ hb)) h2]; rfl
theorem sortDs_merge : ∀ ds : List D, sortDs ds = ds.mergeSort (PySem.W.dataLe false id)
  | [] => by simp [sortDs]
  | a :: l => by
    have tr : ∀ x y w : D, PySem.W.dataLe false id x y = true → PySem.W.dataLe false id y w = true → PySem.W.dataLe false id x w = true := fun x y w h1 h2 => by
      rw [dl_le, Bool.not_eq_true'] at h1 h2 ⊢
      exact dl_neg h2 h1
    have tot : ∀ x y : D, (PySem.W.dataLe false id x y || PySem.W.dataLe false id y x) = true := fun x y => by
      rw [dl_le, dl_le]
      cases h : PySem.W.dataLt y x with
      | false => rfl
      | true => rw [dl_as h]; rfl
    obtain ⟨l1, l2, h1, h2, h3⟩ := List.mergeSort_cons tr tot a l
    have sw := List.pairwise_mergeSort tr tot (a :: l)
    rw [h1] at sw
    show insD a (sortDs l) = _
    rw [sortDs_merge l, h2, h1]
    refine insD_at (fun b hb => ?_) fun b hb => ?_
    · have := h3 b hb
      rw [dl_le] at this
      simpa using this
    · have hb : b ∈ l2 := by
        cases l2 with
        | nil => cases hb
        | cons y ys => cases hb; exact List.mem_cons_self
      have := (List.pairwise_cons.mp (List.pairwise_append.mp sw).2.1).1 b hb
      rw [dl_le] at this
      simpa using this
theorem sort_reps {K : PySem.W.Frag} {A : AP} {H : Hp} {xs : List V} {ds : List D} (r : Reps K A H xs ds) : Reps K A H (((xs.zip ds).mergeSort (PySem.W.dataLe false Prod.snd)).map Prod.fst) (sortDs ds) := by
  have e : sortDs ds = ((xs.zip ds).mergeSort (PySem.W.dataLe false Prod.snd)).map Prod.snd := by
    have h := PySem.W.sort_maps (r := PySem.W.dataLe false Prod.snd) (s := PySem.W.dataLe false id) (Prod.snd : V × D → D) (l := xs.zip ds) fun a _ b _ => rfl
    rw [h, zip_snd r.length, sortDs_merge]
  rw [e]
  have all : ∀ b ∈ (xs.zip ds).mergeSort (PySem.W.dataLe false Prod.snd), Rep K A H b.1 b.2 := fun b hb => by
    have hb : b ∈ xs.zip ds := (List.mergeSort_perm _ _).mem_iff.mp hb
    have go : ∀ {xs : List V} {ds : List D}, Reps K A H xs ds → b ∈ xs.zip ds → Rep K A H b.1 b.2 := fun {xs ds} r hb => by
      induction xs generalizing ds with
      | nil => simp at hb
      | cons x xs ih =>
        cases r with
        | cons a t =>
          rw [List.zip_cons_cons] at hb
          rcases List.mem_cons.mp hb with rfl | hb
          · exact a
          · exact ih t hb
    exact go r hb
  generalize (xs.zip ds).mergeSort (PySem.W.dataLe false Prod.snd) = zs at all
  induction zs with
  | nil => exact .nil
  | cons z zs ih => exact .cons (all z List.mem_cons_self) (ih fun b hb => all b (List.mem_cons_of_mem _ hb))
theorem blt_ok {f : Blt} {ds : List (D × Fl)} {vs : List V} {r : MV} {Q : VK} (hc : X.calm = true) (hu : X.A.units + 65 < cLine) (R : Rel X.K z) (hf : bltIsi f = false) (h1 : PkRs X.K z.A z.S z.H ds vs) (h : bltR f ds = some r) (g : Gives X.K z r Q) :
    CallAt X (bltFn f) vs z.H Q := by
  unfold bltR at h
  split at h
  case h_1 xs fl =>
    cases h
    cases h1 with | cons p q =>
    cases q
    obtain ⟨a, us, rfl, q, l⟩ := p.rdAny R.sub
    refine .of call_len ⟨_, us.length, rfl, .inl ⟨us, q.sq, rfl⟩, ?_⟩
    rw [l.length]; exact g.rep R (.int _)
  case h_2 xs fl =>
    cases h
    cases h1 with | cons p q =>
    cases q
    obtain ⟨a, us, rfl, q, l⟩ := (p.toS R.sub).sqT
    refine .of call_len ⟨_, us.length, rfl, .inr ⟨us, q, rfl⟩, ?_⟩
    rw [l.length]; exact g.rep R (.int _)
  case h_3 x fl =>
    split at h
    · rename_i hl
      cases h
      cases h1 with | cons p q =>
      cases q
      rw [(p.toS R.sub).strv]
      exact .of call_len ⟨_, x.length, rfl, ⟨hl, rfl⟩, g.rep R (.int _)⟩
    · cases h
  case h_4 i fl =>
    cases h
    cases h1 with | cons p q =>
    cases q
    rw [(p.toS R.sub).intv]
    exact .of call_abs ⟨_, rfl, g.rep R (.int _)⟩
  case h_5 i fl =>
    cases h
    cases h1 with | cons p q =>
    cases q
    rw [(p.toS R.sub).intv]
    exact .of call_int1 (.inl ⟨_, rfl, g.rep R (.int _)⟩)
  case h_6 i fl =>
    cases h
    cases h1 with | cons p q =>
    cases q
    rw [(p.toS R.sub).blv]
    exact .of call_int1 (.inr ⟨_, rfl, g.rep R (.int _)⟩)
  case h_7 i fl j fl2 =>
    cases h
    cases h1 with | cons p q =>
    cases q with | cons p2 q =>
    cases q
    rw [(p.toS R.sub).intv, (p2.toS R.sub).intv]
    exact .of (call_min2 hc) ⟨_, _, rfl, g.rep R (.int _)⟩
  case h_8 i fl j fl2 =>
    cases h
    cases h1 with | cons p q =>
    cases q with | cons p2 q =>
    cases q
    rw [(p.toS R.sub).intv, (p2.toS R.sub).intv]
    exact .of (call_max2 hc) ⟨_, _, rfl, g.rep R (.int _)⟩
  case h_9 xs fl =>
    split at h
    · cases h
    · rename_i hfl
      cases h
      cases h1 with | cons p q =>
      cases q
      obtain ⟨a, us, rfl, q, l⟩ := p.sqLb hfl
      exact .of call_list_of ⟨a, us, rfl, .inl q.sq, g.lst R l⟩
  case h_10 xs fl =>
    split at h
    · cases h
    · rename_i hfl
      cases h
      cases h1 with | cons p q =>
      cases q
      obtain ⟨a, us, rfl, q, l⟩ := p.sqTb hfl
      exact .of call_list_of ⟨a, us, rfl, .inr q, g.lst R l⟩
  case h_11 xs fl =>
    split at h
    · cases h
    · rename_i hfl
      cases h
      cases h1 with | cons p q =>
      cases q
      obtain ⟨a, us, rfl, q, l⟩ := p.sqLb hfl
      exact .of call_tuple_of ⟨a, us, rfl, .inl ⟨q.sq, g.tup R l⟩⟩
  case h_12 xs fl =>
    split at h
    · cases h
    · rename_i hfl
      cases h
      cases h1 with | cons p q =>
      cases q
      obtain ⟨a, us, rfl, q, l⟩ := p.sqT hfl
      exact .of call_tuple_of ⟨a, us, rfl, .inr ⟨q, g.rep R (p.repT hfl)⟩⟩
  case h_13 xs fl =>
    obtain ⟨bs, e, e2⟩ := Option.map_eq_some_iff.mp h
    subst e2
    cases h1 with | cons p q =>
    cases q
    obtain ⟨a, us, rfl, q, l⟩ := p.rdAny R.sub
    have e3 := bools_reps l e
    subst e3
    exact .of (cr_all hc) ⟨a, bs, rfl, q.sq, g.rep R (.bl _)⟩
  case h_14 xs fl =>
    obtain ⟨bs, e, e2⟩ := Option.map_eq_some_iff.mp h
    subst e2
    cases h1 with | cons p q =>
    cases q
    obtain ⟨a, us, rfl, q, l⟩ := p.rdAny R.sub
    have e3 := bools_reps l e
    subst e3
    exact .of (cr_any hc) ⟨a, bs, rfl, q.sq, g.rep R (.bl _)⟩
  case h_15 xs fl =>
    obtain ⟨ns, e, h⟩ := obind h
    obtain ⟨m, e1, e2⟩ := Option.map_eq_some_iff.mp h
    subst e2
    cases h1 with | cons p q =>
    cases q
    obtain ⟨a, us, rfl, q, l⟩ := p.rdAny R.sub
    have e3 := ints_reps l e
    subst e3
    obtain ⟨k1, k2, k3⟩ := minI_ok e1
    exact .of (cr_min hc) ⟨a, ns, rfl, q.sq, k1, fun m' h1 h2 => by
      have : m' = m := Int.le_antisymm (h2 m k2) (k3 m' h1)
      rw [this]; exact g.rep R (.int _)⟩
  case h_16 xs fl =>
    obtain ⟨ns, e, h⟩ := obind h
    obtain ⟨m, e1, e2⟩ := Option.map_eq_some_iff.mp h
    subst e2
    cases h1 with | cons p q =>
    cases q
    obtain ⟨a, us, rfl, q, l⟩ := p.rdAny R.sub
    have e3 := ints_reps l e
    subst e3
    obtain ⟨k1, k2, k3⟩ := maxI_ok e1
    exact .of (cr_max hc) ⟨a, ns, rfl, q.sq, k1, fun m' h1 h2 => by
      have : m' = m := Int.le_antisymm (k3 m' h1) (h2 m k2)
      rw [this]; exact g.rep R (.int _)⟩
  case h_17 xs fl =>
    obtain ⟨ns, e, h⟩ := obind h
    cases h
    cases h1 with | cons p q =>
    cases q
    obtain ⟨a, us, rfl, q, l⟩ := p.rdAny R.sub
    have e3 := ints_reps l e
    subst e3
    refine .of cr_sortedI ⟨a, ns, rfl, q.sq, fun ns' p' hp hs hn => ?_⟩
    rw [sorted_eq hp hs]
    rw [show ((sortI ns).map fun i => MV.val (.int i)) = (((sortI ns).map PyData.int).map MV.val) by rw [List.map_map]; rfl] at g
    exact g.lst R (reps_int _) p' hn
  case h_18 xs fl =>
    split at h
    · rename_i hq
      cases h
      simp only [Bool.and_eq_true, Bool.not_eq_true'] at hq
      obtain ⟨a1, a2, a3, a4, a5⟩ := sort_inv hq.1
      cases h1 with | cons p q =>
      cases q
      obtain ⟨a, us, rfl, q, l⟩ := p.sqLb (by rw [hq.2]; simp)
      exact .of (cr_sortedD (by omega)) ⟨a, us, xs, rfl, .inl q.sq, l.dp a5, l.length, a1, a2, a3, by omega, fun p' hn => g.lst R (sort_reps l) p' hn⟩
    · cases h
  case h_19 xs fl =>
    split at h
    · rename_i hq
      cases h
      simp only [Bool.and_eq_true, Bool.not_eq_true'] at hq
      obtain ⟨a1, a2, a3, a4, a5⟩ := sort_inv hq.1
      cases h1 with | cons p q =>
      cases q
      obtain ⟨a, us, rfl, q, l⟩ := p.sqTb (by rw [hq.2]; simp)
      exact .of (cr_sortedD (by omega)) ⟨a, us, xs, rfl, .inr q, l.dp a5, l.length, a1, a2, a3, by omega, fun p' hn => g.lst R (sort_reps l) p' hn⟩
    · cases h
  case h_20 x xs fl =>
    split at h
    · rename_i hq
      cases h
      simp only [Bool.and_eq_true, Bool.not_eq_true'] at hq
      obtain ⟨a1, a4, a5⟩ := best_inv hq.1
      cases h1 with | cons p q =>
      cases q
      obtain ⟨a, us, rfl, q, l⟩ := p.sqLb (by rw [hq.2]; simp)
      refine .of (cr_minD hc (by omega)) ⟨a, us, x, xs, rfl, .inl q.sq, l.dp a5, a1, by omega, fun i v hv hd => ?_⟩
      obtain ⟨v', e1, e2⟩ := l.get hd
      rw [hv] at e1; cases e1
      exact g.rep R e2
    · cases h
  case h_21 x xs fl =>
    split at h
    · rename_i hq
      cases h
      simp only [Bool.and_eq_true, Bool.not_eq_true'] at hq
      obtain ⟨a1, a4, a5⟩ := best_inv hq.1
      cases h1 with | cons p q =>
      cases q
      obtain ⟨a, us, rfl, q, l⟩ := p.sqLb (by rw [hq.2]; simp)
      refine .of (cr_maxD hc (by omega)) ⟨a, us, x, xs, rfl, .inl q.sq, l.dp a5, a1, by omega, fun i v hv hd => ?_⟩
      obtain ⟨v', e1, e2⟩ := l.get hd
      rw [hv] at e1; cases e1
      exact g.rep R e2
    · cases h
  case h_22 x xs fl =>
    split at h
    · rename_i hq
      cases h
      simp only [Bool.and_eq_true, Bool.not_eq_true'] at hq
      obtain ⟨a1, a4, a5⟩ := best_inv hq.1
      cases h1 with | cons p q =>
      cases q
      obtain ⟨a, us, rfl, q, l⟩ := p.sqTb (by rw [hq.2]; simp)
      refine .of (cr_minD hc (by omega)) ⟨a, us, x, xs, rfl, .inr q, l.dp a5, a1, by omega, fun i v hv hd => ?_⟩
      obtain ⟨v', e1, e2⟩ := l.get hd
      rw [hv] at e1; cases e1
      exact g.rep R e2
    · cases h
  case h_23 x xs fl =>
    split at h
    · rename_i hq
      cases h
      simp only [Bool.and_eq_true, Bool.not_eq_true'] at hq
      obtain ⟨a1, a4, a5⟩ := best_inv hq.1
      cases h1 with | cons p q =>
      cases q
      obtain ⟨a, us, rfl, q, l⟩ := p.sqTb (by rw [hq.2]; simp)
      refine .of (cr_maxD hc (by omega)) ⟨a, us, x, xs, rfl, .inr q, l.dp a5, a1, by omega, fun i v hv hd => ?_⟩
      obtain ⟨v', e1, e2⟩ := l.get hd
      rw [hv] at e1; cases e1
      exact g.rep R e2
    · cases h
  case h_24 => cases hf
  case h_25 => cases h

/-! ### isinstance -/
def tyName : Ty → String
  | .int => "int" | .bool => "bool" | .str => "str" | .list => "list" | .tuple => "tuple"
def tyOfD : D → String
  | .none => "NoneType" | .bool _ => "bool" | .int _ => "int" | .str _ => "str" | .list _ => "list" | .tuple _ => "tuple" | .dict _ => "dict"
theorem tyX_ok {K : PySem.W.Frag} {A : AP} {H : Hp} {v : V} {d : D} (hd : isDict d ≠ true) (r : Rep K A H v d) : TyX K H v (.type (tyOfD d)) := by
  cases r with
  | non => exact .base .non
  | bl b => exact .base (.bl b)
  | int i => exact .base (.int i)
  | str x => exact .base (.str x)
  | lst h q =>
    rcases h with ⟨e | ⟨o, e⟩, _⟩ | ⟨its, n, e, _⟩
    · exact .base (.lst e)
    · exact .base (.frz e)
    · exact .kList e rfl
  | tup h q =>
    rcases h with ⟨e | ⟨o, e⟩, _⟩ | ⟨o, its, n, e, c, _⟩
    · exact .base (.tup e)
    · exact .fTuple e
    · exact .kTuple e c
  | nd h q _ _ => exact absurd rfl hd
theorem kit_all (d : D) (t : Ty) : kitB (tyOfD d) (tyName t) = some (isTy t d) := by
  cases d <;> cases t <;> dsimp only [tyOfD, tyName, isTy] <;> decide +kernel
theorem kit_any {K : PySem.W.Frag} (d : D) : ∀ ts : List Ty, PySem.W.kitAny K (.type (tyOfD d)) (ts.map fun t => .type (tyName t)) = some (ts.any fun t => isTy t d)
  | [] => rfl
  | t :: ts => by
    refine kitAny_cons (kit_ty (kit_all d t)) (fun e => ?_) fun e => ?_
    · rw [List.any_cons, e, Bool.false_or]
      exact kit_any d ts
    · rw [List.any_cons, e]; rfl
theorem cls_paired : ∀ ts : List Ty, Paired ClsV (ts.map fun t => V.ty (tyName t)) (ts.map fun t => Value.type (tyName t))
  | [] => .nil
  | t :: ts => .cons (.ty _) (cls_paired ts)
end
end Q
set_option maxHeartbeats 1000000
namespace Q
open PySem L2 PyProof.Rows

def SndV (X : Cx) (e : Expr) (f : Env → Option (MV × Env)) : Prop := ∀ (z : Z) (r : MV) (ρ' : Env), Rel X.K z → f z.ρ = some (r, ρ') → ∀ Q : VK,
  (∀ u z' T, Stp X.K z z' → z'.ρ = ρ' → z'.σ = z.σ → Tmp X.K z z' r u T → Q u z'.H) → RunsE X e z.σ z.H Q
def SndP (X : Cx) (e : Expr) (f : Env → Option (D × Fl × Env × Lks)) : Prop := ∀ (z : Z) (d : D) (fl : Fl) (ρ' : Env) (ls : Lks), Rel X.K z → f z.ρ = some (d, fl, ρ', ls) → ∀ Q : VK,
  (∀ u z', Pend X.K ls z z' → z'.ρ = ρ' → z'.σ = z.σ → PkR X.K z'.A z'.S z'.H fl d u → Q u z'.H) → RunsE X e z.σ z.H Q
def SndT (X : Cx) (e : Expr) (f : Env → Option (Bool × Env)) : Prop := ∀ (z : Z) (b : Bool) (ρ' : Env), Rel X.K z → f z.ρ = some (b, ρ') → ∀ Q : Bool → Hp → Prop,
  (∀ z', Stp X.K z z' → z'.ρ = ρ' → z'.σ = z.σ → Q b z'.H) → RunsT X e z.σ z.H Q
def SndW (X : Cx) (e : Expr) (f : Env → Option (Bool × Env)) : Prop := ∀ (z : Z) (b : Bool) (ρ' : Env), Rel X.K z → f z.ρ = some (b, ρ') → ∀ Q : Bool → Hp → Prop,
  (∀ z', Stp X.K z z' → z'.ρ = ρ' → z'.σ = z.σ → Q b z'.H) → RunsW X e z.σ z.H Q
/-- a place that is found: the tree it is of, and the way down -/
def PlR (K : PySem.W.Frag) (z : Z) (x : Plc) (u : V) : Prop := ∃ m0 v0, Bt K z.A z.S z.H m0 v0 ∧ Dn K z.H m0 v0 x.w x.m u ∧
  (x.ls = [] ∨ ((∃ b, x.ls = [(x.i, ownS b m0)]) ∧ z.ρ[x.i]? = some (.lck m0) ∧ z.σ[x.i]? = some (some v0)))
def SndQ (X : Cx) (e : Expr) (f : Env → Option Plc) : Prop := ∀ (z : Z) (x : Plc), Rel X.K z → f z.ρ = some x → ∀ Q : VK,
  (∀ u z', Pend X.K x.ls z z' → z'.ρ = x.ρ → z'.σ = z.σ → PlR X.K z' x u → Q u z'.H) → RunsE X e z.σ z.H Q
theorem sndQ0 {X : Cx} {e : Expr} : SndQ X e fun _ => none := fun _ _ _ h => by cases h
/-- a tuple that is made: nobody's yet -/
def KTup (z : Z) (ks : List Key) (u : V) : Prop := ∃ b, u = .ref b ∧ z.H b = some (.tup (ks.map kV)) ∧ ¬ z.A b
def SndK (X : Cx) (e : Expr) (f : Env → Option (List Key × Env)) : Prop := ∀ (z : Z) (ks : List Key) (ρ' : Env), Rel X.K z → f z.ρ = some (ks, ρ') → ∀ Q : VK,
  (∀ u z', Stp X.K z z' → z'.ρ = ρ' → z'.σ = z.σ → KTup z' ks u → Q u z'.H) → RunsE X e z.σ z.H Q
theorem sndK0 {X : Cx} {e : Expr} : SndK X e fun _ => none := fun _ _ _ _ h => by cases h
theorem PlR.bt {K : PySem.W.Frag} {z : Z} {x : Plc} {u : V} (h : PlR K z x u) : Bt K z.A z.S z.H x.m u := by
  obtain ⟨m0, v0, b, d, _⟩ := h
  exact d.bt b
theorem PlR.stp {K : PySem.W.Frag} {z z' : Z} {x : Plc} {u : V} (R : Rel K z) (s : Stp K z z') (h : PlR K z x u) : PlR K z' x u := by
  obtain ⟨m0, v0, b, d, o⟩ := h
  refine ⟨m0, v0, b.fr R.sub s.fr, d.keep s.fr.keep b, ?_⟩
  rcases o with o | ⟨o1, o2, o3⟩
  · exact .inl o
  · obtain ⟨k1, k2, _⟩ := s.kp.lck _ _ o2
    exact .inr ⟨o1, k1, k2.trans o3⟩
def isBop : Expr → Bool
  | .BoolOp _ _ _ => true
  | _ => false
structure Snd (X : Cx) (e : Expr) (r : R3) : Prop where
  v : SndV X e r.v
  p : SndP X e r.p
  t : SndT X e r.t
  w : isBop e = true → SndW X e r.t
  q : SndQ X e r.q
  kd : SndK X e r.kd

def plainT : Expr → Bool
  | .UnaryOp .Not _ _ => false
  | .BoolOp _ _ _ => false
  | .IfExp _ _ _ _ => false
  | .Compare _ _ _ _ => false
  | _ => true
theorem plainT_ok {e : Expr} (h : plainT e = true) (env : PySem.Env) (whole : Sem Value) : isTrue e env whole = (do let v ← whole; standAt e.pos; holding [v] (truthy v)) := by
  cases e with
  | UnaryOp op x pos =>
    cases op with
    | Not => cases h
    | Invert => rfl
    | UAdd => rfl
    | USub => rfl
  | BoolOp _ _ _ => cases h
  | IfExp _ _ _ _ => cases h
  | Compare _ _ _ _ => cases h
  | _ => rfl

theorem bind_some {α β : Type} {x : Option α} {f : α → Option β} {b : β} (h : x.bind f = some b) : ∃ a, x = some a ∧ f a = some b := by
  cases x with
  | none => cases h
  | some a => exact ⟨a, rfl, h⟩

section
variable {X : Cx} {e : Expr} {f : Env → Option (MV × Env)}
theorem SndV.toP (h : SndV X e f) : SndP X e (ofV f).p := by
  intro z d fl ρ' ls R e1 Q q
  obtain ⟨⟨r, ρ1⟩, h1, h2⟩ := bind_some (show (f z.ρ).bind _ = some _ from e1)
  cases h2
  refine h z r ρ1 R h1 Q fun u z' T s er es t => ?_
  exact q u (z'.drop T) (Pend.of R (s.drop R t)) er es t.froze
theorem SndV.toT (h : SndV X e f) (hp : plainT e = true) : SndT X e (ofV f).t := by
  intro z b ρ' R e1 Q q
  obtain ⟨⟨r, ρ1⟩, h1, h2⟩ := bind_some (show (f z.ρ).bind _ = some _ from e1)
  obtain ⟨b', h3, h4⟩ := bind_some h2
  cases h4
  refine PT.rn (pt_truth pr (plainT_ok hp X.env)) ?_
  refine h z r ρ1 R h1 _ fun u z' T s er es t => ⟨b, truth_ok t.froze h3, ?_⟩
  exact q (z'.drop T) (s.drop R t) er es
theorem SndV.snd (h : SndV X e f) (hp : plainT e = true) : Snd X e (ofV f) := ⟨h, h.toP, h.toT hp, fun hb => by cases e <;> first | (cases hb; done) | (cases hp; done), sndQ0, sndK0⟩
/-- an expression that gives a truth value, whose test is by its value -/
theorem SndV.toTB (h : SndV X e f) (hb : ∀ z r ρ', f z = some (r, ρ') → ∃ b, r = .val (.bool b)) (ht : ∀ (σ : L2.St) (H : Hp) (Q : Bool → Hp → Prop), RunsE X e σ H (fun x H' => ∃ k, x = .bl k ∧ Q k H') → RunsT X e σ H Q) : SndT X e (ofV f).t := by
  intro z b ρ' R e1 Q q
  obtain ⟨⟨r, ρ1⟩, h1, h2⟩ := bind_some (show (f z.ρ).bind _ = some _ from e1)
  obtain ⟨b', h3, h4⟩ := bind_some h2
  cases h4
  refine ht _ _ _ ?_
  refine h z r ρ1 R h1 _ fun u z' T s er es t => ?_
  obtain ⟨b2, rfl⟩ := hb _ _ _ h1
  have hr := t.froze
  have e3 : b2 = b := Option.some.inj h3
  subst e3
  refine ⟨b2, hr.blv, ?_⟩
  exact q (z'.drop T) (s.drop R t) er es
end

/-! ### names and constants -/
section
variable {X : Cx} {z : Z}
theorem peek_ok {i : Nat} {x : Str} {pos : Pos} (hN : X.N[i]? = some x) (hv : Vis X.env.scope x) (hd : (x == ("__debug__" : Str)) = false) (hcd : (x == ("__classdict__" : Str)) = false) : SndP X (.Name x pos) (peekVar i) := by
  intro z d fl ρ' ls R e1 Q q
  have lockc : ∀ (b : Bool) (m : MV), z.ρ[i]? = some (ownS b m) → (freeze m, flagOf m, z.ρ.set i (.lck m), [(i, ownS b m)]) = (d, fl, ρ', ls) → RunsE X (.Name x pos) z.σ z.H Q := fun b m h e => by
    cases e
    obtain ⟨pd, v, hv1, ow, ns⟩ := lock_ok R h
    exact PE.rn (pe_var hN hv hd hcd) ⟨v, hv1, q v (z.setR (z.ρ.set i (.lck m))) pd rfl rfl (ow.peek pd.rel.sub ns)⟩
  unfold peekVar at e1
  split at e1
  case h_1 d0 h0 =>
    cases e1
    obtain ⟨o, eo, ro⟩ := R.slot i _ h0
    generalize z.TS i = T at ro
    cases ro with | own r => cases r with | val r =>
    exact PE.rn (pe_var hN hv hd hcd) ⟨_, eo, q _ z (Pend.of R (Stp.refl R)) rfl rfl r⟩
  case h_2 d0 h0 =>
    cases e1
    obtain ⟨o, eo, ro⟩ := R.slot i _ h0
    generalize z.TS i = T at ro
    cases ro with | io r => cases r with | val r =>
    exact PE.rn (pe_var hN hv hd hcd) ⟨_, eo, q _ z (Pend.of R (Stp.refl R)) rfl rfl r⟩
  case h_3 m _ h0 => exact lockc true m h0 (Option.some.inj e1)
  case h_4 m _ h0 => exact lockc false m h0 (Option.some.inj e1)
  case h_5 m h0 =>
    cases e1
    obtain ⟨o, eo, ro⟩ := R.slot i _ h0
    have ns : ∀ a ∈ z.TS i, ¬ z.S a := fun a ha ⟨j, hj, nl⟩ => nl (R.dj i j a ha hj ▸ ⟨m, h0⟩)
    generalize z.TS i = T at ro ns
    cases ro with | lck r =>
    exact PE.rn (pe_var hN hv hd hcd) ⟨_, eo, q _ z (Pend.of R (Stp.refl R)) rfl rfl (r.peek R.sub ns)⟩
  case h_6 fl0 d0 h0 =>
    cases e1
    obtain ⟨o, eo, ro⟩ := R.slot i _ h0
    generalize z.TS i = T at ro
    cases ro with | bor r =>
    exact PE.rn (pe_var hN hv hd hcd) ⟨_, eo, q _ z (Pend.of R (Stp.refl R)) rfl rfl r⟩
  case h_7 m0 d0 h0 =>
    cases e1
    obtain ⟨o, eo, ro⟩ := R.slot i _ h0
    generalize z.TS i = T at ro
    cases ro with | bor r =>
    exact PE.rn (pe_var hN hv hd hcd) ⟨_, eo, q _ z (Pend.of R (Stp.refl R)) rfl rfl (r.2.pk R.sub)⟩
  case h_8 => cases e1
theorem qvar_ok {i : Nat} {x : Str} {pos : Pos} (hN : X.N[i]? = some x) (hv : Vis X.env.scope x) (hd : (x == ("__debug__" : Str)) = false) (hcd : (x == ("__classdict__" : Str)) = false) : SndQ X (.Name x pos) (qVar i) := by
  intro z y R e1 Q q
  have lockc : ∀ (b : Bool) (m : MV), z.ρ[i]? = some (ownS b m) → (⟨i, [], m, z.ρ.set i (.lck m), [(i, ownS b m)]⟩ : Plc) = y → RunsE X (.Name x pos) z.σ z.H Q := fun b m h e => by
    cases e
    obtain ⟨pd, v, hv1, ow, ns⟩ := lock_ok R h
    exact PE.rn (pe_var hN hv hd hcd) ⟨v, hv1, q v (z.setR (z.ρ.set i (.lck m))) pd rfl rfl ⟨m, v, ow.bt ns, .here, .inr ⟨⟨b, rfl⟩, set_self h, hv1⟩⟩⟩
  unfold qVar at e1
  split at e1
  case h_1 m h0 => exact lockc true m h0 (Option.some.inj e1)
  case h_2 m h0 => exact lockc false m h0 (Option.some.inj e1)
  case h_3 m h0 =>
    cases e1
    obtain ⟨o, eo, ro⟩ := R.slot i _ h0
    have ns : ∀ a ∈ z.TS i, ¬ z.S a := fun a ha ⟨j, hj, nl⟩ => nl (R.dj i j a ha hj ▸ ⟨m, h0⟩)
    generalize z.TS i = T at ro ns
    cases ro with | lck r =>
    exact PE.rn (pe_var hN hv hd hcd) ⟨_, eo, q _ z (Pend.of R (Stp.refl R)) rfl rfl ⟨m, _, r.bt ns, .here, .inl rfl⟩⟩
  case h_4 m d0 h0 =>
    cases e1
    obtain ⟨o, eo, ro⟩ := R.slot i _ h0
    generalize z.TS i = T at ro
    cases ro with | bor r =>
    exact PE.rn (pe_var hN hv hd hcd) ⟨_, eo, q _ z (Pend.of R (Stp.refl R)) rfl rfl ⟨m, _, r.2, .here, .inl rfl⟩⟩
  case h_5 => cases e1
theorem take_ok {i : Nat} {x : Str} {pos : Pos} (hN : X.N[i]? = some x) (hv : Vis X.env.scope x) (hd : (x == ("__debug__" : Str)) = false) (hcd : (x == ("__classdict__" : Str)) = false) : SndV X (.Name x pos) (takeVar i) := by
  intro z r ρ' R e1 Q q
  have frz : ∀ (b : Bool) (m : MV), z.ρ[i]? = some (ownS b m) → (MV.val (freeze m), z.ρ.set i (ownS b (.val (freeze m)))) = (r, ρ') → RunsE X (.Name x pos) z.σ z.H Q := fun b m h e => by
    cases e
    obtain ⟨v, A, hv1, s, rp⟩ := froze_ok R h
    exact PE.rn (pe_var hN hv hd hcd) ⟨v, hv1, q v (z.putT A z.H i (ownS b (.val (freeze m))) []) [] s rfl rfl (Tmp.ofRep rp)⟩
  unfold takeVar at e1
  split at e1
  case h_1 d0 h0 =>
    cases e1
    obtain ⟨o, eo, ro⟩ := R.slot i _ h0
    generalize z.TS i = T at ro
    cases ro with | own r => cases r with | val r =>
    exact PE.rn (pe_var hN hv hd hcd) ⟨_, eo, q _ z [] (Stp.refl R) rfl rfl (Tmp.ofRep r)⟩
  case h_2 d0 h0 =>
    cases e1
    obtain ⟨o, eo, ro⟩ := R.slot i _ h0
    generalize z.TS i = T at ro
    cases ro with | io r => cases r with | val r =>
    exact PE.rn (pe_var hN hv hd hcd) ⟨_, eo, q _ z [] (Stp.refl R) rfl rfl (Tmp.ofRep r)⟩
  case h_3 m _ h0 => exact frz true m h0 (Option.some.inj e1)
  case h_4 m _ h0 => exact frz false m h0 (Option.some.inj e1)
  case h_5 fl d0 h0 =>
    split at e1
    · rename_i hc
      cases e1
      obtain ⟨o, eo, ro⟩ := R.slot i _ h0
      generalize z.TS i = T at ro
      cases ro with | @bor _ _ v0 r0 =>
      have rr : Rep X.K z.A z.H v0 d0 := by
        rcases hc with e | e
        · subst e; exact r0
        · exact (PkR.any R r0).flat e
      exact PE.rn (pe_var hN hv hd hcd) ⟨_, eo, q _ z [] (Stp.refl R) rfl rfl (Tmp.ofRep rr)⟩
    · cases e1
  case h_6 => cases e1
theorem var_ok {i : Nat} {x : Str} {pos : Pos} (hN : X.N[i]? = some x) (hv : Vis X.env.scope x) (hd : (x == ("__debug__" : Str)) = false) (hcd : (x == ("__classdict__" : Str)) = false) :
    Snd X (.Name x pos) { ofV (takeVar i) with p := peekVar i, q := qVar i } := ⟨take_ok hN hv hd hcd, peek_ok hN hv hd hcd, (take_ok hN hv hd hcd).toT rfl, fun h => (by cases h), qvar_ok hN hv hd hcd, sndK0⟩
theorem const_ok {e : Expr} {d : D} {v : V} (h : PE X e (tC v)) (hp : plainT e = true) (hr : ∀ A H, Rep X.K A H v d) : Snd X e (ofV fun ρ => some (.val d, ρ)) := by
  refine SndV.snd (fun z r ρ' R e1 Q q => ?_) hp
  cases e1
  exact PE.rn h (q v z [] (Stp.refl R) rfl rfl (Tmp.ofRep (hr _ _)))

/-! ### operators -/
variable {a b c : Expr} {ra rb rc : R3} {pos : Pos}
/-- two things looked at, then an operation that keeps the slots -/
theorem two_ok (ha : Snd X a ra) (hb : Snd X b rb) {z : Z} (R : Rel X.K z) {d1 d2 : D} {f1 f2 : Fl} {ρ1 ρ2 : Env} {l1 l2 : Lks} (e1 : ra.p z.ρ = some (d1, f1, ρ1, l1)) (e2 : rb.p ρ1 = some (d2, f2, ρ2, l2)) {r : MV} {Q : VK}
    (q : ∀ u z' T, Stp X.K z z' → z'.ρ = unl l1 (unl l2 ρ2) → z'.σ = z.σ → Tmp X.K z z' r u T → Q u z'.H) {P : V → V → Hp → Prop}
    (hop : ∀ u1 u2 z2, Rel X.K z2 → z2.σ = z.σ → PkR X.K z2.A z2.S z2.H f1 d1 u1 → PkR X.K z2.A z2.S z2.H f2 d2 u2 → Gives X.K z2 r Q → P u1 u2 z2.H) :
    RunsE X a z.σ z.H fun u1 H1 => RunsE X b z.σ H1 fun u2 H2 => P u1 u2 H2 := by
  refine ha.p z d1 f1 ρ1 l1 R e1 _ fun u1 z1 p1 er1 es1 k1 => ?_
  have e2' : rb.p z1.ρ = some (d2, f2, ρ2, l2) := by rw [er1]; exact e2
  have hh : RunsE X b z1.σ z1.H fun u2 H2 => P u1 u2 H2 := by
    refine hb.p z1 d2 f2 ρ2 l2 p1.rel e2' _ fun u2 z2 p2 er2 es2 k2 => ?_
    refine hop u1 u2 z2 p2.rel (es2.trans es1) (k1.fr p1.rel.sub p2.fr) k2 fun v z3 T s3 er3 es3 t3 => ?_
    have s2 := p2.close z3 s3
    have s1 := p1.close _ s2
    refine q v ((z3.setR (unl l2 z3.ρ)).setR (unl l1 (unl l2 z3.ρ))) T s1 ?_ (es3.trans (es2.trans es1)) ⟨t3.own, t3.nd, t3.apart, fun w hw => ?_⟩
    · show unl l1 (unl l2 z3.ρ) = _
      rw [er3, er2]
    · have fr := p1.fr.trans R.trk p2.fr
      rcases t3.new w hw with h | h
      · exact fr.newS w h
      · exact .inr (fr.there w h)
  rw [← es1]; exact hh
theorem bin_snd {op : BOp} (ha : Snd X a ra) (hb : Snd X b rb) : Snd X (.BinOp a (opOf op) b pos) (ofV (evBin op ra rb)) := by
  refine SndV.snd (fun z r ρ' R e1 Q q => ?_) rfl
  obtain ⟨⟨d1, f1, ρ1, l1⟩, h1, e2⟩ := bind_some (show (ra.p z.ρ).bind _ = some _ from e1)
  obtain ⟨⟨d2, f2, ρ2, l2⟩, h2, e3⟩ := bind_some e2
  obtain ⟨r', h3, e4⟩ := bind_some e3
  cases e4
  exact PE.rn (pe_op OpAt.opr pr pr) (two_ok ha hb R h1 h2 q fun u1 u2 z2 R2 _ k1 k2 g => bin_ok R2 k1 k2 h3 g)
theorem cmp_v {op : COp} (hu : X.A.units + 65 < cLine) (hm : behindInMarks (cmpOf op) b = false) (ha : Snd X a ra) (hb : Snd X b rb) : SndV X (.Compare a [cmpOf op] [b] pos) (evCmp op ra rb) := by
  intro z r ρ' R e1 Q q
  obtain ⟨⟨d1, f1, ρ1, l1⟩, h1, e2⟩ := bind_some (show (ra.p z.ρ).bind _ = some _ from e1)
  obtain ⟨⟨d2, f2, ρ2, l2⟩, h2, e3⟩ := bind_some e2
  obtain ⟨r', h3, e4⟩ := bind_some e3
  cases e4
  exact PE.rn (pe_cmpR OpAt.opr pr pr hm) (two_ok ha hb R h1 h2 q fun u1 u2 z2 R2 _ k1 k2 g => cmp_ok hu (k1.any R2) (k2.any R2) h3 (g.rep R2 (.bl _)))
theorem cmp_snd {op : COp} (hu : X.A.units + 65 < cLine) (hm : behindInMarks (cmpOf op) b = false) (ha : Snd X a ra) (hb : Snd X b rb) : Snd X (.Compare a [cmpOf op] [b] pos) (ofV (evCmp op ra rb)) := by
  have hv : SndV X (.Compare a [cmpOf op] [b] pos) (evCmp op ra rb) := cmp_v hu hm ha hb
  refine ⟨hv, hv.toP, fun z b' ρ' R e1 Q q => ?_, fun h => (by cases h), sndQ0, sndK0⟩
  obtain ⟨⟨r, ρ0⟩, e0, e6⟩ := bind_some (show (evCmp op ra rb z.ρ).bind _ = some _ from e1)
  obtain ⟨b2, e7, e8⟩ := bind_some e6
  cases e8
  obtain ⟨⟨d1, f1, ρ1, l1⟩, h1, e2⟩ := bind_some (show (ra.p z.ρ).bind _ = some _ from e0)
  obtain ⟨⟨d2, f2, ρ2, l2⟩, h2, e3⟩ := bind_some e2
  obtain ⟨r', h3, e4⟩ := bind_some e3
  cases e4
  have e9 : r' = b' := Option.some.inj e7
  subst e9
  refine PT.rn (pt_cmpR OpAt.opr pr pr hm) (two_ok (Q := fun x H' => ∃ k, x = .bl k ∧ Q k H') ha hb R h1 h2 (fun u z' T s er es t => ?_) fun u1 u2 z2 R2 _ k1 k2 g => cmp_ok hu (k1.any R2) (k2.any R2) h3 (g.rep R2 (.bl _)))
  have hr := t.froze
  exact ⟨r', hr.blv, q (z'.drop T) (s.drop R t) er es⟩
end
end Q
set_option maxHeartbeats 1000000
namespace Q
open PySem L2 PyProof.Rows
section
variable {X : Cx} {a b c : Expr} {ra rb rc : R3} {pos : Pos}

/-! ### truth -/
theorem not_v (ha : Snd X a ra) : SndV X (.UnaryOp .Not a pos) (evNot ra) := by
  intro z r ρ' R e1 Q q
  obtain ⟨⟨r1, ρ1⟩, h1, e2⟩ := bind_some (show (ra.v z.ρ).bind _ = some _ from e1)
  dsimp only at e2
  split at e2
  · rename_i b'
    cases e2
    refine PE.rn (pe_not pr) (ha.v z _ _ R h1 _ fun u z' T s er es t => ?_)
    have hr := t.froze
    refine ⟨b', hr.blv, ?_⟩
    exact q _ (z'.drop T) [] (s.drop R t) er es (Tmp.ofRep (.bl _))
  · cases e2
theorem not_snd (ha : Snd X a ra) : Snd X (.UnaryOp .Not a pos) { ofV (evNot ra) with t := fun ρ => (ra.t ρ).bind fun q => some (!q.1, q.2) } := by
  refine ⟨not_v ha, (not_v ha).toP, fun z b' ρ' R e1 Q q => ?_, fun h => (by cases h), sndQ0, sndK0⟩
  obtain ⟨⟨b1, ρ1⟩, h1, e2⟩ := bind_some (show (ra.t z.ρ).bind _ = some _ from e1)
  cases e2
  exact PT.rn (pt_not prt) (ha.t z b1 ρ1 R h1 _ fun z' s er es => q z' s er es)
theorem ite_v (hc : Snd X c rc) (ha : Snd X a ra) (hb : Snd X b rb) : SndV X (.IfExp c a b pos) (evIte rc ra rb) := by
  intro z r ρ' R e1 Q q
  obtain ⟨⟨b1, ρ1⟩, h1, e2⟩ := bind_some (show (rc.t z.ρ).bind _ = some _ from e1)
  refine PE.rn (pe_ifExp prt pr pr) (hc.t z b1 ρ1 R h1 _ fun z1 s1 er1 es1 => ?_)
  have back : ∀ u z' T, Stp X.K z1 z' → z'.ρ = ρ' → z'.σ = z1.σ → Tmp X.K z1 z' r u T → Q u z'.H := fun u z' T s er es t => by
    refine q u z' T (s1.trans R s) er (es.trans es1) ⟨t.own, t.nd, t.apart, fun w hw => ?_⟩
    rcases t.new w hw with h | h
    · exact s1.fr.newS w h
    · exact .inr (s1.fr.there w h)
  rw [← es1]
  cases b1 with
  | true => exact ha.v z1 r ρ' s1.rel (by rw [er1]; exact e2) Q back
  | false => exact hb.v z1 r ρ' s1.rel (by rw [er1]; exact e2) Q back
theorem isTrue_ifExp_ok (hc : PT X c (RunsT X c)) (ha : PT X a (RunsT X a)) (hb : PT X b (RunsT X b)) : PT X (.IfExp c a b pos) fun σ H Q => RunsT X c σ H fun d H1 => if d = true then RunsT X a σ H1 Q else RunsT X b σ H1 Q := by
  refine ⟨fun pins s σ H Q I h => ?_⟩
  show wpAny _ _ (do if ← isTrue c X.env (eval c X.env) then isTrue a X.env (eval a X.env) else isTrue b X.env (eval b X.env)) _ _ s
  refine wpAny_bind (thn (hc.run pins s σ H _ I h) fun d s1 ⟨H1, I1, q1⟩ => ?_)
  cases d with
  | true => exact ha.run pins s1 σ H1 Q I1 q1
  | false => exact hb.run pins s1 σ H1 Q I1 q1
theorem ite_snd (hc : Snd X c rc) (ha : Snd X a ra) (hb : Snd X b rb) : Snd X (.IfExp c a b pos) { ofV (evIte rc ra rb) with t := fun ρ => (rc.t ρ).bind fun q => if q.1 then ra.t q.2 else rb.t q.2 } := by
  refine ⟨ite_v hc ha hb, (ite_v hc ha hb).toP, fun z b' ρ' R e1 Q q => ?_, fun h => (by cases h), sndQ0, sndK0⟩
  obtain ⟨⟨b1, ρ1⟩, h1, e2⟩ := bind_some (show (rc.t z.ρ).bind _ = some _ from e1)
  refine PT.rn (isTrue_ifExp_ok prt prt prt) (hc.t z b1 ρ1 R h1 _ fun z1 s1 er1 es1 => ?_)
  have back : ∀ z', Stp X.K z1 z' → z'.ρ = ρ' → z'.σ = z1.σ → Q b' z'.H := fun z' s er es => q z' (s1.trans R s) er (es.trans es1)
  rw [← es1]
  cases b1 with
  | true => exact ha.t z1 b' ρ' s1.rel (by rw [er1]; exact e2) Q back
  | false => exact hb.t z1 b' ρ' s1.rel (by rw [er1]; exact e2) Q back

theorem Tmp.after {K : PySem.W.Frag} {z z1 z' : Z} {r : MV} {u : V} {T : List Addr} (f : Fr z.A z.S z.H z1.A z1.S z1.H) (t : Tmp K z1 z' r u T) : Tmp K z z' r u T :=
  ⟨t.own, t.nd, t.apart, fun w hw => by
    rcases t.new w hw with h | h
    · exact f.newS w h
    · exact .inr (f.there w h)⟩

/-! ### and, or: the rest of the row as one expression -/
def andT (ra rb : R3) : Env → Option (Bool × Env) := fun ρ => (ra.t ρ).bind fun q => if q.1 then rb.t q.2 else some (false, q.2)
def orT (ra rb : R3) : Env → Option (Bool × Env) := fun ρ => (ra.t ρ).bind fun q => if q.1 then some (true, q.2) else rb.t q.2
theorem one_snd {op : BoolOp} (hb : Snd X b rb) : SndV X (.BoolOp op [b] pos) rb.v ∧ SndW X (.BoolOp op [b] pos) rb.t := by
  refine ⟨fun z r ρ' R e1 Q q => PE.rn (pe_one pr) (hb.v z r ρ' R e1 Q q), fun z b' ρ' R e1 Q q => ?_⟩
  cases op with
  | And => exact PW.rn (pw_and1 prt) (hb.t z b' ρ' R e1 Q q)
  | Or => exact PW.rn (pw_or1 prt) (hb.t z b' ρ' R e1 Q q)
theorem and_snd {rest : List Expr} (ha : Snd X a ra) (hv : SndV X (.BoolOp .And (b :: rest) pos) rb.v) (hw : SndW X (.BoolOp .And (b :: rest) pos) rb.t) :
    Snd X (.BoolOp .And (a :: b :: rest) pos) { ofV (evAnd ra rb) with t := andT ra rb } := by
  have hV : SndV X (.BoolOp .And (a :: b :: rest) pos) (evAnd ra rb) := by
    intro z r ρ' R e1 Q q
    obtain ⟨⟨r1, ρ1⟩, h1, e2⟩ := bind_some (show (ra.v z.ρ).bind _ = some _ from e1)
    dsimp only at e2
    refine PE.rn (pe_and pr pr) (ha.v z r1 ρ1 R h1 _ fun u z1 T s t1 es t => ?_)
    split at e2
    · have hr := t.froze
      refine ⟨true, hr.blv, ?_⟩
      rw [if_pos rfl, ← es]
      have sd := s.drop R t
      exact hv (z1.drop T) r ρ' sd.rel (by show rb.v z1.ρ = _; rw [t1]; exact e2) Q fun u2 z2 T2 s2 er2 es2 t2 => q u2 z2 T2 (sd.trans R s2) er2 (es2.trans es) (t2.after sd.fr)
    · cases e2
      have hr := t.froze
      refine ⟨false, hr.blv, ?_⟩
      rw [if_neg Bool.false_ne_true]
      exact q _ (z1.drop T) [] (s.drop R t) t1 es (Tmp.ofRep (.bl _))
    · cases e2
  have hW : SndW X (.BoolOp .And (a :: b :: rest) pos) (andT ra rb) := by
    intro z b' ρ' R e1 Q q
    obtain ⟨⟨b1, ρ1⟩, h1, e2⟩ := bind_some (show (ra.t z.ρ).bind _ = some _ from e1)
    refine PW.rn (pw_and prt prw) (ha.t z b1 ρ1 R h1 _ fun z1 s1 er1 es1 => ?_)
    cases b1 with
    | true =>
      rw [if_pos rfl, ← es1]
      exact hw z1 b' ρ' s1.rel (by rw [er1]; exact e2) Q fun z' s er es => q z' (s1.trans R s) er (es.trans es1)
    | false =>
      cases e2
      rw [if_neg Bool.false_ne_true]
      exact q z1 s1 er1 es1
  exact ⟨hV, hV.toP, fun z b' ρ' R e1 Q q => (hW z b' ρ' R e1 Q q).t, fun _ => hW, sndQ0, sndK0⟩
theorem or_snd {rest : List Expr} (ha : Snd X a ra) (hv : SndV X (.BoolOp .Or (b :: rest) pos) rb.v) (hw : SndW X (.BoolOp .Or (b :: rest) pos) rb.t) :
    Snd X (.BoolOp .Or (a :: b :: rest) pos) { ofV (evOr ra rb) with t := orT ra rb } := by
  have hV : SndV X (.BoolOp .Or (a :: b :: rest) pos) (evOr ra rb) := by
    intro z r ρ' R e1 Q q
    obtain ⟨⟨r1, ρ1⟩, h1, e2⟩ := bind_some (show (ra.v z.ρ).bind _ = some _ from e1)
    dsimp only at e2
    refine PE.rn (pe_or pr pr) (ha.v z r1 ρ1 R h1 _ fun u z1 T s t1 es t => ?_)
    split at e2
    · cases e2
      have hr := t.froze
      refine ⟨true, hr.blv, ?_⟩
      rw [if_pos rfl]
      exact q _ (z1.drop T) [] (s.drop R t) t1 es (Tmp.ofRep (.bl _))
    · have hr := t.froze
      refine ⟨false, hr.blv, ?_⟩
      rw [if_neg Bool.false_ne_true, ← es]
      have sd := s.drop R t
      exact hv (z1.drop T) r ρ' sd.rel (by show rb.v z1.ρ = _; rw [t1]; exact e2) Q fun u2 z2 T2 s2 er2 es2 t2 => q u2 z2 T2 (sd.trans R s2) er2 (es2.trans es) (t2.after sd.fr)
    · cases e2
  have hW : SndW X (.BoolOp .Or (a :: b :: rest) pos) (orT ra rb) := by
    intro z b' ρ' R e1 Q q
    obtain ⟨⟨b1, ρ1⟩, h1, e2⟩ := bind_some (show (ra.t z.ρ).bind _ = some _ from e1)
    refine PW.rn (pw_or prt prw) (ha.t z b1 ρ1 R h1 _ fun z1 s1 er1 es1 => ?_)
    cases b1 with
    | false =>
      rw [if_neg Bool.false_ne_true, ← es1]
      exact hw z1 b' ρ' s1.rel (by rw [er1]; exact e2) Q fun z' s er es => q z' (s1.trans R s) er (es.trans es1)
    | true =>
      cases e2
      rw [if_pos rfl]
      exact q z1 s1 er1 es1
  exact ⟨hV, hV.toP, fun z b' ρ' R e1 Q q => (hW z b' ρ' R e1 Q q).t, fun _ => hW, sndQ0, sndK0⟩

/-! ### None, a minus, items -/
theorem isNone_dec {K : PySem.W.Frag} {A : AP} {H : Hp} {v : V} {d : D} (r : Rep K A H v d) : decide (v = V.non) = isNone d := by
  cases r <;> rfl
theorem isN_snd {j : Nat} {pos' : Pos} (neg : Bool) (ha : Snd X a ra) : Snd X (.Compare a [if neg then CmpOp.IsNot else CmpOp.Is] [.Constant .none j pos'] pos) (ofV fun ρ => (ra.p ρ).bind fun q => some (.val (.bool (if neg then !isNone q.1 else isNone q.1)), unl q.2.2.2 q.2.2.1)) := by
  have core : ∀ (z : Z) (d : D) (fl : Fl) (ρ1 : Env) (ls : Lks) (Q : VK), Rel X.K z → ra.p z.ρ = some (d, fl, ρ1, ls) → (∀ u z', Stp X.K z z' → z'.ρ = unl ls ρ1 → z'.σ = z.σ → u = V.bl (if neg then !isNone d else isNone d) → Q u z'.H) →
      RunsE X a z.σ z.H fun x H1 => Q (.bl (if neg then !decide (x = .non) else decide (x = .non))) H1 := fun z d fl ρ1 ls Q R h1 q => by
    refine ha.p z d fl ρ1 ls R h1 _ fun u z1 p1 er1 es1 k1 => ?_
    refine q _ (z1.setR (unl ls z1.ρ)) (p1.close z1 (Stp.refl p1.rel)) (by show unl ls z1.ρ = _; rw [er1]) es1 ?_
    rw [isNone_dec (k1.any p1.rel)]
  have hV : SndV X (.Compare a [if neg then CmpOp.IsNot else CmpOp.Is] [.Constant .none j pos'] pos) (fun ρ => (ra.p ρ).bind fun q => some (.val (.bool (if neg then !isNone q.1 else isNone q.1)), unl q.2.2.2 q.2.2.1)) := by
    intro z r ρ' R e1 Q q
    obtain ⟨⟨d, fl, ρ1, ls⟩, h1, e2⟩ := bind_some (show (ra.p z.ρ).bind _ = some _ from e1)
    cases e2
    have h := core z d fl ρ1 ls Q R h1 fun u z' s er es e => by subst e; exact q _ z' [] s er es (Tmp.ofRep (.bl _))
    cases neg with
    | true => exact PE.rn (pe_cmp (pc_notN pr) rfl) h
    | false => exact PE.rn (pe_cmp (pc_isN pr) rfl) h
  refine ⟨hV, hV.toP, fun z b' ρ' R e1 Q q => ?_, fun h => (by cases h), sndQ0, sndK0⟩
  obtain ⟨⟨r, ρ0⟩, e0, e6⟩ := bind_some e1
  obtain ⟨b2, e7, e8⟩ := bind_some e6
  cases e8
  obtain ⟨⟨d, fl, ρ1, ls⟩, h1, e2⟩ := bind_some (show (ra.p z.ρ).bind _ = some _ from e0)
  cases e2
  have e9 : (if neg then !isNone d else isNone d) = b' := Option.some.inj e7
  have h := core z d fl ρ1 ls (fun x H1 => ∃ k, x = .bl k ∧ Q k H1) R h1 fun u z' s er es e => ⟨_, e, by rw [e9]; exact q z' s er es⟩
  cases neg with
  | true => exact PT.rn (pt_cmp (pc_notN pr) rfl) h
  | false => exact PT.rn (pt_cmp (pc_isN pr) rfl) h
theorem intOf_some {r : MV} {i : Int} (h : intOf r = some i) : r = .val (.int i) := by
  unfold intOf at h
  split at h
  · cases h; rfl
  · cases h
theorem neg_snd (ha : Snd X a ra) : Snd X (.UnaryOp .USub a pos) (ofV fun ρ => (ra.v ρ).bind fun q => (intOf q.1).bind fun i => some (.val (.int (-i)), q.2)) := by
  refine SndV.snd (fun z r ρ' R e1 Q q => ?_) rfl
  obtain ⟨⟨r1, ρ1⟩, h1, e2⟩ := bind_some (show (ra.v z.ρ).bind _ = some _ from e1)
  obtain ⟨i, h2, e3⟩ := bind_some e2
  cases e3
  have e4 := intOf_some h2
  refine PE.rn (pe_un un_neg pr) (ha.v z r1 ρ1 R h1 _ fun u z1 T s er es t => ?_)
  have hr := t.froze
  rw [show r1 = MV.val (.int i) from e4] at hr
  exact ⟨i, hr.intv, q _ (z1.drop T) [] (s.drop R t) er es (Tmp.ofRep (.int _))⟩

/-- a thing looked at, then a value, then something that keeps the slots -/
theorem pv_ok (ha : Snd X a ra) {z : Z} (R : Rel X.K z) {d1 : D} {f1 : Fl} {ρ1 ρ2 : Env} {l1 : Lks} {r2 : MV} (e1 : ra.p z.ρ = some (d1, f1, ρ1, l1)) (hb : Snd X b rb) (e2 : rb.v ρ1 = some (r2, ρ2)) {P : V → V → Hp → Prop}
    (hop : ∀ u1 u2 z2, Pend X.K l1 z z2 → z2.ρ = ρ2 → z2.σ = z.σ → PkR X.K z2.A z2.S z2.H f1 d1 u1 → Rep X.K z2.A z2.H u2 (freeze r2) → P u1 u2 z2.H) :
    RunsE X a z.σ z.H fun u1 H1 => RunsE X b z.σ H1 fun u2 H2 => P u1 u2 H2 := by
  refine ha.p z d1 f1 ρ1 l1 R e1 _ fun u1 z1 p1 er1 es1 k1 => ?_
  have hh : RunsE X b z1.σ z1.H fun u2 H2 => P u1 u2 H2 := by
    refine hb.v z1 r2 ρ2 p1.rel (by rw [er1]; exact e2) _ fun u2 z2 T s2 er2 es2 t2 => ?_
    have sd := s2.drop p1.rel t2
    exact hop u1 u2 (z2.drop T) (p1.step R sd) er2 (es2.trans es1) (k1.fr p1.rel.sub sd.fr) t2.froze
  rw [← es1]; exact hh
theorem plainIx {b : Expr} (h : ∀ l u p, b ≠ .Slice l u none p) : PlainIx b := fun o i => by
  unfold subscripted
  split
  · exact absurd rfl (h _ _ _)
  · rename_i hh; cases hh
  · rfl
def notSl : Expr → Bool
  | .Slice _ _ _ _ => false
  | _ => true
theorem notSl_ok {b : Expr} (h : notSl b = true) : PlainIx b := plainIx fun l u p e => by subst e; cases h
theorem idx_v (hs : notSl b = true) (ha : Snd X a ra) (hb : Snd X b rb) : SndV X (.Subscript a b pos) (evIdx ra rb) := by
  intro z r ρ' R e1 Q q
  obtain ⟨⟨d1, f1, ρ1, l1⟩, h1, e2⟩ := bind_some (show (ra.p z.ρ).bind _ = some _ from e1)
  obtain ⟨⟨r2, ρ2⟩, h2, e3⟩ := bind_some e2
  obtain ⟨c, h3, e4⟩ := bind_some e3
  dsimp only at e4
  split at e4
  · rename_i hfl
    cases e4
    refine PE.rn (pe_ix ix_seq pr pr (notSl_ok hs)) (pv_ok (P := fun u1 u2 H2 => rIx X.K u1 u2 H2 Q) ha R h1 hb h2 fun u1 u2 z2 p2 er2 es2 k1 k2 => ?_)
    refine idx_ok p2.rel.sub k1 k2 h3 fun v kv => ?_
    rw [hfl] at kv
    exact q v (z2.setR (unl l1 z2.ρ)) [] (p2.close z2 (Stp.refl p2.rel)) (by show unl l1 z2.ρ = _; rw [er2]) es2 (Tmp.ofRep kv)
  · cases e4
theorem idx_p (hs : notSl b = true) (ha : Snd X a ra) (hb : Snd X b rb) : SndP X (.Subscript a b pos) (pkIdx ra rb) := by
  intro z d fl ρ' ls R e1 Q q
  obtain ⟨⟨d1, f1, ρ1, l1⟩, h1, e2⟩ := bind_some (show (ra.p z.ρ).bind _ = some _ from e1)
  obtain ⟨⟨r2, ρ2⟩, h2, e3⟩ := bind_some e2
  obtain ⟨c, h3, e4⟩ := bind_some e3
  dsimp only at e4
  refine PE.rn (pe_ix ix_seq pr pr (notSl_ok hs)) (pv_ok (P := fun u1 u2 H2 => rIx X.K u1 u2 H2 Q) ha R h1 hb h2 fun u1 u2 z2 p2 er2 es2 k1 k2 => ?_)
  refine idx_ok p2.rel.sub k1 k2 h3 fun v kv => ?_
  split at e4
  · rename_i hfl
    cases e4
    rw [hfl] at kv
    exact q v (z2.setR (unl l1 z2.ρ)) (Pend.of R (p2.close z2 (Stp.refl p2.rel))) (by show unl l1 z2.ρ = _; rw [er2]) es2 kv
  · rename_i hfl
    cases e4
    have hd : childFl f1 d = .deep := by
      unfold childFl at hfl ⊢
      cases f1 <;> first | exact absurd rfl hfl | skip
      dsimp only at hfl ⊢
      by_cases hfd : flat d = true
      · rw [if_pos hfd] at hfl; exact absurd rfl hfl
      · rw [if_neg hfd]
    rw [hd] at kv
    exact q v z2 p2 er2 es2 kv
end
end Q
set_option maxHeartbeats 1000000
namespace Q
open PySem L2 PyProof.Rows

/-! ### keys and their places -/
section
variable {κ : Type} [DecidableEq κ]
theorem posOf_some {k : κ} : ∀ {ks : List κ} {n : Nat}, posOf k ks = some n → ks[n]? = some k
  | [], _, h => by cases h
  | x :: xs, n, h => by
    unfold posOf at h
    split at h
    · rename_i e; cases h; simp [e]
    · obtain ⟨m, h1, h2⟩ := Option.map_eq_some_iff.mp h
      subst h2
      simpa using posOf_some h1
theorem posOf_none {k : κ} : ∀ {ks : List κ}, posOf k ks = none → k ∉ ks
  | [], _ => by simp
  | x :: xs, h => by
    unfold posOf at h
    split at h
    · cases h
    · rename_i e
      have := posOf_none (Option.map_eq_none_iff.mp h)
      simp only [List.mem_cons, not_or]
      exact ⟨fun q => e q.symm, this⟩
theorem valV_zip {k : κ} : ∀ {ks : List κ} {xs : List V}, ks.length = xs.length → valV (ks.zip xs) k = (posOf k ks).bind fun n => xs[n]?
  | [], _, _ => by simp [valV, posOf]
  | x :: ks, [], h => by simp at h
  | x :: ks, y :: ys, h => by
    have ih := valV_zip (k := k) (ks := ks) (xs := ys) (by simpa using h)
    unfold valV at ih ⊢
    unfold posOf
    rw [List.zip_cons_cons, List.find?_cons]
    by_cases e : x = k
    · simp [e]
    · simp only [e, decide_false, if_false]
      rw [ih]
      cases posOf k ks <;> simp
theorem putK_zip {k : κ} {v : V} : ∀ {ks : List κ} {xs : List V}, ks.length = xs.length → ks.Nodup → L2.putK (ks.zip xs) k v = match posOf k ks with
    | some n => ks.zip (xs.set n v)
    | none => (ks ++ [k]).zip (xs ++ [v]) := by
  intro ks xs hl nd
  have an : ∀ {ks : List κ} {xs : List V}, ks.length = xs.length → ((ks.zip xs).any fun kv => decide (kv.1 = k)) = (posOf k ks).isSome := by
    intro ks
    induction ks with
    | nil => intro xs h; simp [posOf]
    | cons x ks ih =>
      intro xs h
      cases xs with
      | nil => simp at h
      | cons y ys =>
        have := ih (xs := ys) (by simpa using h)
        unfold posOf
        rw [List.zip_cons_cons, List.any_cons, this]
        by_cases e : x = k <;> simp [e]
  have mp : ∀ {ks : List κ} {xs : List V} {n : Nat}, ks.length = xs.length → ks.Nodup → posOf k ks = some n → (ks.zip xs).map (fun kv => if kv.1 = k then (kv.1, v) else kv) = ks.zip (xs.set n v) := by
    intro ks
    induction ks with
    | nil => intro xs n h _ e; cases e
    | cons x ks ih =>
      intro xs n h nd e
      cases xs with
      | nil => simp at h
      | cons y ys =>
        have nd' := List.nodup_cons.mp nd
        unfold posOf at e
        by_cases ex : x = k
        · rw [if_pos ex] at e
          cases e
          rw [List.zip_cons_cons, List.map_cons, if_pos ex, List.set_cons_zero, List.zip_cons_cons]
          congr 1
          have : ∀ kv ∈ ks.zip ys, (if kv.1 = k then (kv.1, v) else kv) = kv := fun kv hkv => by
            have hm := (List.of_mem_zip hkv).1
            rw [if_neg]
            intro q
            exact nd'.1 (by rw [ex, ← q]; exact hm)
          rw [List.map_congr_left this, List.map_id']
        · rw [if_neg ex] at e
          obtain ⟨m, e1, e2⟩ := Option.map_eq_some_iff.mp e
          subst e2
          rw [List.zip_cons_cons, List.map_cons, if_neg ex, List.set_cons_succ, List.zip_cons_cons, ih (by simpa using h) nd'.2 e1]
  unfold L2.putK
  rw [an hl]
  cases e : posOf k ks with
  | none =>
    rw [if_neg (by simp)]
    rw [List.zip_append hl]; rfl
  | some n =>
    rw [if_pos (show (some n).isSome = true from rfl)]
    exact mp hl nd e
end
theorem lookup_zip {f : Str} : ∀ {ks : List Str} {xs : List V}, ks.length = xs.length → (ks.zip xs).lookup f = (posOf f ks).bind fun n => xs[n]?
  | [], _, _ => by simp [posOf]
  | x :: ks, [], h => by simp at h
  | x :: ks, y :: ys, h => by
    have ih := lookup_zip (f := f) (ks := ks) (xs := ys) (by simpa using h)
    unfold posOf
    rw [List.zip_cons_cons, List.lookup_cons]
    by_cases e : x = f
    · subst e; simp
    · have : (f == x) = false := by simpa using fun q => e q.symm
      rw [this]
      simp only [e, if_false]
      rw [ih]
      cases posOf f ks <;> simp
theorem putF_zip {f : Str} {v : V} : ∀ {ks : List Str} {xs : List V}, ks.length = xs.length → putF f v (ks.zip xs) = match posOf f ks with
    | some n => ks.zip (xs.set n v)
    | none => (ks ++ [f]).zip (xs ++ [v])
  | [], [], _ => by simp [posOf, putF]
  | [], _ :: _, h => by simp at h
  | x :: ks, [], h => by simp at h
  | x :: ks, y :: ys, h => by
    have ih := putF_zip (f := f) (v := v) (ks := ks) (xs := ys) (by simpa using h)
    unfold posOf
    rw [List.zip_cons_cons]
    show (if x = f then (x, v) :: ks.zip ys else (x, y) :: putF f v (ks.zip ys)) = _
    by_cases e : x = f
    · rw [if_pos e, if_pos e]; rfl
    · rw [if_neg e, if_neg e, ih]
      cases posOf f ks <;> simp

theorem Bts.length {K : PySem.W.Frag} {A S : AP} {H : Hp} : ∀ {ms : List MV} {xs : List V}, Bts K A S H ms xs → xs.length = ms.length
  | _, _, .nil => rfl
  | _, _, .cons _ b => by simp [Bts.length b]
section
variable {X : Cx} {a b c : Expr} {ra rb rc : R3} {pos : Pos}
/-- a key as a value -/
def KeyR (z : Z) (k : DKey) (u : V) : Prop := match k with
  | .k k => u = kV k
  | .t ks => KTup z ks u
theorem KTup.stp {K : PySem.W.Frag} {z z' : Z} {ks : List Key} {u : V} (R : Rel K z) (f : Fr z.A z.S z.H z'.A z'.S z'.H) (h : KTup z ks u) : KTup z' ks u := by
  obtain ⟨b, rfl, hb, na⟩ := h
  refine ⟨b, rfl, f.keep b _ hb fun q => na (R.sub b q), fun q => ?_⟩
  rcases f.newA b q with q | q
  · exact na q
  · rw [hb] at q; cases q
theorem KeyR.fr {K : PySem.W.Frag} {z z' : Z} {k : DKey} {u : V} (R : Rel K z) (f : Fr z.A z.S z.H z'.A z'.S z'.H) (h : KeyR z k u) : KeyR z' k u := by
  cases k with
  | k k => exact h
  | t ks => exact KTup.stp R f h
theorem keyOf_rep {K : PySem.W.Frag} {A : AP} {H : Hp} {u : V} {d : D} {k : Key} (r : Rep K A H u d) (h : keyOf d = some k) : u = kV k := by
  cases d with
  | int i => cases h; exact r.intv
  | str x => cases h; exact r.strv
  | none => cases h
  | bool _ => cases h
  | list _ => cases h
  | tuple _ => cases h
  | dict _ => cases h
theorem key_ok (hb : Snd X b rb) {z : Z} {k : DKey} {ρ' : Env} (R : Rel X.K z) (e : keyE rb z.ρ = some (k, ρ')) {Q : VK} (q : ∀ u z', Stp X.K z z' → z'.ρ = ρ' → z'.σ = z.σ → KeyR z' k u → Q u z'.H) : RunsE X b z.σ z.H Q := by
  unfold keyE at e
  split at e
  · rename_i q0 h0
    cases e
    exact hb.kd z q0.1 q0.2 R h0 Q fun u z' s er es t => q u z' s er es t
  · obtain ⟨⟨r, ρ1⟩, h1, e2⟩ := bind_some e
    obtain ⟨x, h2, e3⟩ := bind_some e2
    cases e3
    exact hb.v z r ρ1 R h1 Q fun u z' T s er es t => q u (z'.drop T) (s.drop R t) er es (keyOf_rep t.froze h2)
/-- a part of a place -/
theorem PlR.kid {K : PySem.W.Frag} {z : Z} {x y : Plc} {u v : V} (h : PlR K z x u) (hi : y.i = x.i) (hls : y.ls = x.ls) {w2 : List Nat} (hw : y.w = x.w ++ w2) (d : Dn K z.H x.m u w2 y.m v) : PlR K z y v := by
  obtain ⟨m0, v0, b, d0, o⟩ := h
  refine ⟨m0, v0, b, by rw [hw]; exact d0.down d, ?_⟩
  rw [hi, hls]; exact o
/-- a place's part by its key -/
theorem tree_ix {z : Z} {x y : Plc} {u1 u2 : V} {k : DKey} {n : Nat} {c : MV} {Q : VK} (h : PlR X.K z x u1) (hk : KeyR z k u2) (hn : ixMV x.m k = some n) (hc : (kids x.m)[n]? = some c) (hy : y = ⟨x.i, x.w ++ [n], c, y.ρ, x.ls⟩)
    (g : ∀ v, PlR X.K z y v → Q v z.H) : rIxA X.K u1 u2 z.H Q := by
  have bt := h.bt
  have fin : ∀ {v : V}, Dn X.K z.H x.m u1 [n] c v → Q v z.H := fun {v} d => by
    refine g v (h.kid (y := y) (by rw [hy]) (by rw [hy]) (w2 := [n]) (by rw [hy]) ?_)
    rw [hy]; exact d
  unfold ixMV at hn
  split at hn
  case h_1 ms i hm =>
    rw [hm] at bt hc
    cases bt with | @lst a xs _ ha _ bs =>
    obtain ⟨v, hv, bv⟩ := bs.get hc
    have hl : xs.length = ms.length := bs.length
    have hk : u2 = .int i := hk
    refine .inl (.inl ⟨a, xs, i, v, rfl, hk, SqL.of ha, ?_, fin ?_⟩)
    · unfold L2.atI
      rw [hl, hn]; exact hv
    · rw [hm]; exact .lst ha hc hv .here
  case h_2 ks ms k hm =>
    rw [hm] at bt hc
    cases bt with | @nd _ a o xs _ ha no _ bs =>
    obtain ⟨v, hv, bv⟩ := bs.get hc
    have no' := no
    obtain ⟨hl, nd, eo⟩ := no
    subst eo
    have hk : u2 = kV k := hk
    refine .inr ⟨a, v, rfl, ?_, fin ?_⟩
    · rw [hk]
      have := DGet.k (k := k) ha
      rw [valV_zip hl, hn, Option.bind_some, hv] at this
      exact this
    · rw [hm]; exact .nd ha no' hc hv .here
  case h_3 ks ms k hm =>
    rw [hm] at bt hc
    cases bt with | @nd _ a o xs _ ha no _ bs =>
    obtain ⟨v, hv, bv⟩ := bs.get hc
    have no' := no
    obtain ⟨hl, nd, eo⟩ := no
    subst eo
    obtain ⟨b, rfl, hb, _⟩ := hk
    refine .inr ⟨a, v, rfl, ?_, fin ?_⟩
    · have := DGet.t (k := k) ha hb
      rw [valV_zip hl, hn, Option.bind_some, hv] at this
      exact this
    · rw [hm]; exact .nd ha no' hc hv .here
  case h_4 => cases hn
theorem qidx_core (ha : Snd X a ra) (hb : Snd X b rb) {z : Z} {y : Plc} (R : Rel X.K z) (e : qIdx ra rb z.ρ = some y) {Q : VK} (q : ∀ v z', Pend X.K y.ls z z' → z'.ρ = y.ρ → z'.σ = z.σ → PlR X.K z' y v → Q v z'.H) :
    RunsE X a z.σ z.H fun u1 H1 => RunsE X b z.σ H1 fun u2 H2 => rIxA X.K u1 u2 H2 Q := by
  obtain ⟨x, h1, e2⟩ := bind_some (show (ra.q z.ρ).bind _ = some _ from e)
  obtain ⟨⟨k, ρ2⟩, h2, e3⟩ := bind_some e2
  obtain ⟨n, h3, e4⟩ := bind_some e3
  obtain ⟨c, h4, e5⟩ := bind_some (show ((kids x.m)[n]?).bind _ = some _ from e4)
  cases e5
  refine ha.q z x R h1 _ fun u1 z1 p1 er1 es1 k1 => ?_
  have hh : RunsE X b z1.σ z1.H fun u2 H2 => rIxA X.K u1 u2 H2 Q := by
    refine key_ok hb p1.rel (by rw [er1]; exact h2) fun u2 z2 s2 er2 es2 k2 => ?_
    refine tree_ix (y := ⟨x.i, x.w ++ [n], c, ρ2, x.ls⟩) (k1.stp p1.rel s2) k2 h3 h4 rfl fun v pv => ?_
    exact q v z2 (p1.step R s2) er2 (es2.trans es1) pv
  rw [← es1]; exact hh
theorem vOfQ_ok {e : Expr} {f : Env → Option Plc} (h : SndQ X e f) : SndV X e (vOfQ f) := by
  intro z r ρ' R e1 Q q
  obtain ⟨x, h1, e2⟩ := bind_some (show (f z.ρ).bind _ = some _ from e1)
  split at e2
  · rename_i d hm
    cases e2
    refine h z x R h1 Q fun u z' p er es k => ?_
    have bt := k.bt
    rw [hm] at bt
    cases bt with | val rp =>
    exact q u (z'.setR (unl x.ls z'.ρ)) [] (p.close z' (Stp.refl p.rel)) (by show unl x.ls z'.ρ = _; rw [er]) es (Tmp.ofRep rp)
  · cases e2
theorem pOfQ_ok {e : Expr} {f : Env → Option Plc} (h : SndQ X e f) : SndP X e (pOfQ f) := by
  intro z d fl ρ' ls R e1 Q q
  obtain ⟨x, h1, e2⟩ := bind_some (show (f z.ρ).bind _ = some _ from e1)
  split at e2
  · rename_i d0 hm
    cases e2
    refine h z x R h1 Q fun u z' p er es k => ?_
    have bt := k.bt
    rw [hm] at bt
    cases bt with | val rp =>
    exact q u (z'.setR (unl x.ls z'.ρ)) (Pend.of R (p.close z' (Stp.refl p.rel))) (by show unl x.ls z'.ρ = _; rw [er]) es rp
  · cases e2
    exact h z x R h1 Q fun u z' p er es k => q u z' p er es (k.bt.pk p.rel.sub)
theorem idx_snd (hu : X.A.units + 1 < cLine) (hs : notSl b = true) (ha : Snd X a ra) (hb : Snd X b rb) : Snd X (.Subscript a b pos) { ofV (fun ρ => if treeQ ra ρ then vOfQ (qIdx ra rb) ρ else evIdx ra rb ρ) with
      p := fun ρ => if treeQ ra ρ then pOfQ (qIdx ra rb) ρ else pkIdx ra rb ρ
      q := qIdx ra rb } := by
  have hq : SndQ X (.Subscript a b pos) (qIdx ra rb) := fun z y R e Q q => PE.rn (pe_ix (ix_any hu) pr pr (notSl_ok hs)) (qidx_core ha hb R e q)
  have hv : SndV X (.Subscript a b pos) (fun ρ => if treeQ ra ρ then vOfQ (qIdx ra rb) ρ else evIdx ra rb ρ) := by
    intro z r ρ' R e1 Q q
    dsimp only at e1
    split at e1
    · exact vOfQ_ok hq z r ρ' R e1 Q q
    · exact idx_v hs ha hb z r ρ' R e1 Q q
  refine ⟨hv, fun z d fl ρ' ls R e1 Q q => ?_, hv.toT rfl, fun h => (by cases h), hq, sndK0⟩
  dsimp only at e1
  split at e1
  · exact pOfQ_ok hq z d fl ρ' ls R e1 Q q
  · exact idx_p hs ha hb z d fl ρ' ls R e1 Q q
end
end Q
set_option maxHeartbeats 1000000
namespace Q
open PySem L2 PyProof.Rows
section
variable {X : Cx} {a b c : Expr} {ra rb rc : R3} {pos : Pos}

theorem chn_core {op op2 : COp} (hu : X.A.units + 65 < cLine) (ha : Snd X a ra) (hb : Snd X b rb) (hc : Snd X c rc) {z : Z} (R : Rel X.K z) {r : MV} {ρ' : Env} (e1 : evChn op op2 ra rb rc z.ρ = some (r, ρ')) {Q : VK}
    (q : ∀ bv z', r = .val (.bool bv) → Stp X.K z z' → z'.ρ = ρ' → z'.σ = z.σ → Q (.bl bv) z'.H) :
    tChain (OpAt X (compareOp (cmpOf op))) (OpAt X (compareOp (cmpOf op2))) (RunsE X a) (RunsE X b) (RunsE X c) z.σ z.H Q := by
  obtain ⟨⟨d1, f1, ρ1, l1⟩, h1, e2⟩ := bind_some (show (ra.p z.ρ).bind _ = some _ from e1)
  obtain ⟨⟨d2, f2, ρ2, l2⟩, h2, e3⟩ := bind_some e2
  obtain ⟨b1, h3, e4⟩ := bind_some e3
  refine ha.p z d1 f1 ρ1 l1 R h1 _ fun u1 z1 p1 er1 es1 k1 => ?_
  have hh : RunsE X b z1.σ z1.H fun u2 H2 => OpAt X (compareOp (cmpOf op)) u1 u2 H2 fun zv H3 => ∃ k, zv = .bl k ∧ (if k = true then RunsE X c z1.σ H3 fun w' H4 => OpAt X (compareOp (cmpOf op2)) u2 w' H4 Q else Q (.bl false) H3) := by
    refine hb.p z1 d2 f2 ρ2 l2 p1.rel (by rw [er1]; exact h2) _ fun u2 z2 p2 er2 es2 k2 => ?_
    have k1' := k1.fr p1.rel.sub p2.fr
    refine cmp_ok hu (k1'.any p2.rel) (k2.any p2.rel) h3 ⟨b1, rfl, ?_⟩
    cases b1 with
    | false =>
      cases e4
      rw [if_neg Bool.false_ne_true]
      refine q false ((z2.setR (unl l2 z2.ρ)).setR (unl l1 (unl l2 z2.ρ))) rfl (p1.close _ (p2.close z2 (Stp.refl p2.rel))) ?_ (es2.trans es1)
      show unl l1 (unl l2 z2.ρ) = _
      rw [er2]
    | true =>
      rw [if_pos rfl]
      obtain ⟨⟨d3, f3, ρ3, l3⟩, h5, e6⟩ := bind_some e4
      obtain ⟨b2, h6, e7⟩ := bind_some e6
      cases e7
      rw [← es2]
      refine hc.p z2 d3 f3 ρ3 l3 p2.rel (by rw [er2]; exact h5) _ fun u3 z3 p3 er3 es3 k3 => ?_
      have k2' := k2.fr p2.rel.sub p3.fr
      refine cmp_ok hu (k2'.any p3.rel) (k3.any p3.rel) h6 ?_
      refine q b2 (((z3.setR (unl l3 z3.ρ)).setR (unl l2 (unl l3 z3.ρ))).setR (unl l1 (unl l2 (unl l3 z3.ρ)))) rfl (p1.close _ (p2.close _ (p3.close z3 (Stp.refl p3.rel)))) ?_ (es3.trans (es2.trans es1))
      show unl l1 (unl l2 (unl l3 z3.ρ)) = _
      rw [er3]
  rw [← es1]; exact hh
theorem chn_snd {op op2 : COp} (hu : X.A.units + 65 < cLine) (hm : lastMarks [cmpOf op, cmpOf op2] [b, c] = false) (ha : Snd X a ra) (hb : Snd X b rb) (hc : Snd X c rc) :
    Snd X (.Compare a [cmpOf op, cmpOf op2] [b, c] pos) (ofV (evChn op op2 ra rb rc)) := by
  have hV : SndV X (.Compare a [cmpOf op, cmpOf op2] [b, c] pos) (evChn op op2 ra rb rc) := fun z r ρ' R e1 Q q =>
    PE.rn (pe_chain OpAt.opr OpAt.opr pr pr pr hm) (chn_core hu ha hb hc R e1 fun bv z' e s er es => q _ z' [] s er es (by rw [e]; exact Tmp.ofRep (.bl _)))
  refine ⟨hV, hV.toP, fun z b' ρ' R e1 Q q => ?_, fun h => (by cases h), sndQ0, sndK0⟩
  obtain ⟨⟨r, ρ0⟩, e0, e6⟩ := bind_some (show (evChn op op2 ra rb rc z.ρ).bind _ = some _ from e1)
  obtain ⟨b2, e7, e8⟩ := bind_some e6
  cases e8
  refine PT.rn (pt_chain OpAt.opr OpAt.opr pr pr pr hm) (chn_core (Q := fun x H' => ∃ k, x = .bl k ∧ Q k H') hu ha hb hc R e0 fun bv z' e s er es => ⟨bv, rfl, ?_⟩)
  rw [e] at e7
  have e9 : bv = b' := Option.some.inj e7
  subst e9
  exact q z' s er es

/-! ### slices -/
def SndO (X : Cx) (e : Option Expr) (f : Env → Option (Option Int × Env)) : Prop := ∀ (z : Z) (i : Option Int) (ρ' : Env), Rel X.K z → f z.ρ = some (i, ρ') → ∀ Q : Option Int → Hp → Prop,
  (∀ z', Stp X.K z z' → z'.ρ = ρ' → z'.σ = z.σ → Q i z'.H) → ∃ t : TO, PO X e t ∧ t z.σ z.H Q
/-- a reading of an optional part, whatever its state -/
def RunsO (X : Cx) (e : Option Expr) : TO := fun σ H Q => match e with
  | none => Q none H
  | some e => RunsE X e σ H fun x H1 => ∃ i, x = .int i ∧ Q (some i) H1
theorem po_run {e : Option Expr} : PO X e (RunsO X e) := by
  cases e with
  | none => exact po_none
  | some e => exact po_some pr
inductive OptS (X : Cx) : Option Expr → Option R3 → Prop
  | none : OptS X none none
  | some {e : Expr} {r : R3} : Snd X e r → OptS X (some e) (some r)
theorem opt_ok {e : Option Expr} {r : Option R3} (h : OptS X e r) {z : Z} {i : Option Int} {ρ' : Env} (R : Rel X.K z) (e1 : evO r z.ρ = some (i, ρ')) {Q : Option Int → Hp → Prop} (q : ∀ z', Stp X.K z z' → z'.ρ = ρ' → z'.σ = z.σ → Q i z'.H) : RunsO X e z.σ z.H Q := by
  cases h with
  | none => cases e1; exact q z (Stp.refl R) rfl rfl
  | some h =>
    obtain ⟨⟨r1, ρ1⟩, h1, e2⟩ := bind_some (show (R3.v _ z.ρ).bind _ = some _ from e1)
    obtain ⟨j, h2, e3⟩ := bind_some e2
    cases e3
    have e4 : r1 = MV.val (.int j) := intOf_some h2
    refine h.v z r1 ρ1 R h1 _ fun u z1 T s er es t => ?_
    have hr := t.froze
    rw [e4] at hr
    exact ⟨j, hr.intv, q (z1.drop T) (s.drop R t) er es⟩
theorem slr_any : SlR X (fun x lo hi H Q => rSlL X.K x lo hi H Q ∨ rSlA X.K x lo hi H Q) := SlR.or sl_list sl_tupA
theorem slc_snd {lo hi : Option Expr} {rl rh : Option R3} {p2 : Pos} (ha : Snd X a ra) (hl : OptS X lo rl) (hh : OptS X hi rh) : Snd X (.Subscript a (.Slice lo hi none p2) pos) (ofV (evSlc ra rl rh)) := by
  refine SndV.snd (fun z r ρ' R e1 Q q => ?_) rfl
  obtain ⟨⟨d1, f1, ρ1, l1⟩, h1, e2⟩ := bind_some (show (ra.p z.ρ).bind _ = some _ from e1)
  obtain ⟨⟨i, ρ2⟩, h2, e3⟩ := bind_some e2
  obtain ⟨⟨j, ρ3⟩, h3, e4⟩ := bind_some e3
  obtain ⟨r', h4, e5⟩ := bind_some e4
  cases e5
  refine PE.rn (pe_slice slr_any pr po_run po_run) (ha.p z d1 f1 ρ1 l1 R h1 _ fun u1 z1 p1 er1 es1 k1 => ?_)
  rw [← es1]
  refine opt_ok hl p1.rel (by rw [er1]; exact h2) fun z2 s2 er2 es2 => ?_
  rw [← es2]
  refine opt_ok hh s2.rel (by rw [er2]; exact h3) fun z3 s3 er3 es3 => ?_
  have k3 := (k1.fr p1.rel.sub s2.fr).fr s2.rel.sub s3.fr
  have p3 := (p1.step R s2).step R s3
  refine slc_ok s3.rel k3 h4 fun v z4 T s4 er4 es4 t4 => ?_
  refine q v (z4.setR (unl l1 z4.ρ)) T (p3.close z4 s4) (by show unl l1 z4.ρ = _; rw [er4, er3]) (es4.trans (es3.trans (es2.trans es1))) ?_
  have t5 := t4.after p3.fr
  exact ⟨t5.own, t5.nd, t5.apart, t5.new⟩

/-! ### rows of expressions -/
def notSt : Expr → Bool
  | .Starred _ _ => false
  | _ => true
theorem notSt_ok {e : Expr} (h : notSt e = true) (es : List Expr) (env : PySem.Env) : starEach (e :: es) env = (false, eval e env) :: starEach es env := by
  cases e <;> first | (cases h; done) | rfl
inductive SndL (X : Cx) : List Expr → List R3 → Prop
  | nil : SndL X [] []
  | cons {e : Expr} {r : R3} {es : List Expr} {rs : List R3} : notSt e = true → Snd X e r → SndL X es rs → SndL X (e :: es) (r :: rs)
theorem SndL.plainL {m : List Expr} : ∀ {l : List Expr} {rs : List R3}, SndL X (l ++ m) rs → ∀ (pos : Pos) (env : PySem.Env), (backTo pos (starEach l env)).any (·.1) = false
  | [], _, _, _, _ => rfl
  | e :: l, _, .cons h _ t, pos, env => by
    rw [notSt_ok h]
    show (false || (backTo pos (starEach l env)).any (·.1)) = false
    rw [SndL.plainL t pos env]; rfl
theorem SndL.plain : ∀ {es : List Expr} {rs : List R3}, SndL X es rs → ∀ (pos : Pos) (env : PySem.Env), (backTo pos (starEach es env)).any (·.1) = false
  | _, _, .nil, _, _ => rfl
  | _, _, .cons h _ t, pos, env => by
    rw [notSt_ok h]
    show (false || _) = false
    rw [Bool.false_or]
    exact SndL.plain t pos env
/-- values just made -/
structure TmpS (K : PySem.W.Frag) (z z' : Z) (rs : List MV) (us : List V) (T : List Addr) : Prop where
  own : Owns K z'.A z'.H rs us T
  nd : T.Nodup
  apart : ∀ b ∈ T, ∀ i, b ∉ z'.TS i
  new : ∀ b ∈ T, z.S b ∨ z.H b = none
theorem keep_apart {K : PySem.W.Frag} {z1 z2 : Z} (s : Stp K z1 z2) {T : List Addr} (hT : ∀ b ∈ T, z1.H b ≠ none) (ap : ∀ b ∈ T, ∀ i, b ∉ z1.TS i) : (∀ b ∈ T, ¬ z1.S b) ∧ ∀ b ∈ T, ∀ i, b ∉ z2.TS i := by
  have nS : ∀ b ∈ T, ¬ z1.S b := fun b hb ⟨i, hi, _⟩ => ap b hb i hi
  refine ⟨nS, fun b hb i hi => ?_⟩
  by_cases hl : Lk z2.ρ i
  · obtain ⟨m, hm⟩ := hl
    have h1 := s.kp.lckB i m hm
    obtain ⟨_, _, h3⟩ := s.kp.lck i m h1
    rw [h3] at hi
    exact ap b hb i hi
  · rcases s.fr.newS b ⟨i, hi, hl⟩ with h | h
    · exact nS b hb h
    · exact hT b hb h
theorem evs_ok : ∀ {es : List Expr} {rs : List R3}, SndL X es rs → ∀ (z : Z) (ms : List MV) (ρ' : Env), Rel X.K z → evs rs z.ρ = some (ms, ρ') → ∀ Q : List V → Hp → Prop,
    (∀ us z' T, Stp X.K z z' → z'.ρ = ρ' → z'.σ = z.σ → TmpS X.K z z' ms us T → Q us z'.H) → RunsA X es z.σ z.H Q
  | _, _, .nil, z, ms, ρ', R, e1, Q, q => by
    cases e1
    exact PA.rn pa_nil (q [] z [] (Stp.refl R) rfl rfl ⟨.nil, List.nodup_nil, fun _ h => (nomatch h), fun _ h => (nomatch h)⟩)
  | _, _, .cons (e := e) (r := r) hn h t, z, ms, ρ', R, e1, Q, q => by
    obtain ⟨⟨r1, ρ1⟩, h1, e2⟩ := bind_some (show (r.v z.ρ).bind _ = some _ from e1)
    obtain ⟨⟨rs2, ρ2⟩, h2, e3⟩ := bind_some e2
    cases e3
    refine PA.rn (pa_cons pr pra (notSt_ok hn _ _)) (h.v z r1 ρ1 R h1 _ fun u z1 T1 s1 er1 es1 t1 => ?_)
    rw [← es1]
    refine evs_ok t z1 rs2 ρ2 s1.rel (by rw [er1]; exact h2) _ fun us z2 T2 s2 er2 es2 t2 => ?_
    obtain ⟨nS, ap⟩ := keep_apart s2 (fun b hb => (t1.own.sub b hb).2) t1.apart
    refine q (u :: us) z2 (T1 ++ T2) (s1.trans R s2) er2 (es2.trans es1) ⟨.cons (t1.own.fr s1.rel.sub s2.fr nS) t2.own, ?_, fun b hb i => ?_, fun b hb => ?_⟩
    · refine List.nodup_append.mpr ⟨t1.nd, t2.nd, fun x hx y hy e => ?_⟩
      subst e
      rcases t2.new x hy with h | h
      · exact nS x hx h
      · exact (t1.own.sub x hx).2 h
    · rcases List.mem_append.mp hb with hb | hb
      · exact ap b hb i
      · exact t2.apart b hb i
    · rcases List.mem_append.mp hb with hb | hb
      · exact t1.new b hb
      · rcases t2.new b hb with h | h
        · exact s1.fr.newS b h
        · exact .inr (s1.fr.there b h)
theorem freezes_length : ∀ ms : List MV, (freezes ms).length = ms.length
  | [] => by unfold freezes; rfl
  | m :: ms => by unfold freezes; simp [freezes_length ms]
theorem Owns.length {K : PySem.W.Frag} {A : AP} {H : Hp} : ∀ {ms : List MV} {vs : List V} {T : List Addr}, Owns K A H ms vs T → vs.length = ms.length
  | _, _, _, .nil => rfl
  | _, _, _, .cons _ b => by simp [Owns.length b]
theorem TmpS.dropS {K : PySem.W.Frag} {z z' : Z} {rs : List MV} {us : List V} {T : List Addr} (R : Rel K z) (s : Stp K z z') (t : TmpS K z z' rs us T) : Stp K z (z'.drop T) ∧ Reps K (z'.drop T).A (z'.drop T).H us (freezes rs) := by
  refine ⟨⟨s.rel.drop t.apart, ⟨s.fr.keep, fun a x => s.fr.newA a x.1, s.fr.newS, fun a x n => ⟨s.fr.keepA a x n, fun h => ?_⟩, s.fr.there⟩, s.kp⟩, t.own.freeze (fun _ x => x.1) fun b hb x => x.2 hb⟩
  rcases t.new a h with q | q
  · exact n q
  · exact R.trk a x q
theorem tup_snd {es : List Expr} {rs : List R3} {k : Nat} (h : SndL X es rs) : Snd X (.Tuple es k pos) (ofV fun ρ => (evs rs ρ).bind fun q => if q.1.length ≤ sizeLine then some (.val (.tuple (freezes q.1)), q.2) else none) := by
  refine SndV.snd (fun z r ρ' R e1 Q q => ?_) rfl
  obtain ⟨⟨ms, ρ1⟩, h1, e2⟩ := bind_some (show (evs rs z.ρ).bind _ = some _ from e1)
  dsimp only at e2
  split at e2
  · rename_i hl
    cases e2
    refine PE.rn (pe_tup pra) (evs_ok h z ms _ R h1 _ fun us z1 T s er es t => ?_)
    obtain ⟨sd, rp⟩ := t.dropS R s
    refine ⟨by rw [t.own.length]; exact hl, ?_⟩
    have g : Gives X.K (z1.drop T) (.val (.tuple (freezes ms))) Q := fun v z' T' s' er' es' t' => q v z' T' (sd.trans R s') (er'.trans er) (es'.trans es) (t'.after sd.fr)
    exact Gives.tup (z := z1.drop T) sd.rel g rp
  · cases e2
theorem lst_snd {es : List Expr} {rs : List R3} (h : SndL X es rs) : Snd X (.List es pos) (ofV fun ρ => (evs rs ρ).bind fun q => if q.1.length ≤ sizeLine then some (.lst q.1, q.2) else none) := by
  refine SndV.snd (fun z r ρ' R e1 Q q => ?_) rfl
  obtain ⟨⟨ms, ρ1⟩, h1, e2⟩ := bind_some (show (evs rs z.ρ).bind _ = some _ from e1)
  dsimp only at e2
  split at e2
  · rename_i hl
    cases e2
    refine PE.rn (pe_lst pra) (evs_ok h z ms _ R h1 _ fun us z1 T s er es t => ?_)
    refine ⟨by rw [t.own.length]; exact hl, fun p hp => ?_⟩
    -- the new list
    have up : ∀ b u, z1.H b = some u → (upd z1.H p (.lst us)) b = some u := fun b u e => by rw [upd_ne (ne_of_none e hp)]; exact e
    have sl := lay_ok (A := fun a => z1.A a ∨ a = p) (o := .lst us) s.rel hp (fun a q => q) fun a q => .inl q
    refine q (.ref p) (z1.lay (fun a => z1.A a ∨ a = p) p (.lst us)) (p :: T) (s.trans R sl) er es ⟨.lst upd_same (.inr rfl) (t.own.step (fun b o e _ => up b o e) sl.fr.newA fun b hb => ⟨fun o e => up b o e, .inl (t.own.sub b hb).1⟩), List.nodup_cons.mpr ⟨fun w => (t.own.sub p w).2 hp, t.nd⟩, fun b hb i w => ?_, fun b hb => ?_⟩
    · rcases List.mem_cons.mp hb with rfl | hb
      · exact notA s.rel hp (s.rel.subT i b w)
      · exact t.apart b hb i w
    · rcases List.mem_cons.mp hb with rfl | hb
      · exact .inr (s.fr.there b hp)
      · exact t.new b hb
  · cases e2

/-! ### calls of built-ins -/
theorem pks_ok : ∀ {es : List Expr} {rs : List R3}, SndL X es rs → ∀ (z : Z) (ds : List (D × Fl)) (ρ' : Env) (ls : Lks), Rel X.K z → pks rs z.ρ = some (ds, ρ', ls) → ∀ Q : List V → Hp → Prop,
    (∀ us z', Pend X.K ls z z' → z'.ρ = ρ' → z'.σ = z.σ → PkRs X.K z'.A z'.S z'.H ds us → Q us z'.H) → RunsA X es z.σ z.H Q
  | _, _, .nil, z, ds, ρ', ls, R, e1, Q, q => by
    cases e1
    exact PA.rn pa_nil (q [] z (Pend.of R (Stp.refl R)) rfl rfl .nil)
  | _, _, .cons (e := e) (r := r) hn h t, z, ds, ρ', ls, R, e1, Q, q => by
    obtain ⟨⟨d, fl, ρ1, l1⟩, h1, e2⟩ := bind_some (show (r.p z.ρ).bind _ = some _ from e1)
    obtain ⟨⟨ds2, ρ2, l2⟩, h2, e3⟩ := bind_some e2
    cases e3
    refine PA.rn (pa_cons pr pra (notSt_ok hn _ _)) (h.p z d fl ρ1 l1 R h1 _ fun u z1 p1 er1 es1 k1 => ?_)
    rw [← es1]
    refine pks_ok t z1 ds2 ρ2 l2 p1.rel (by rw [er1]; exact h2) _ fun us z2 p2 er2 es2 k2 => ?_
    exact q (u :: us) z2 (p1.trans R p2) er2 (es2.trans es1) (.cons (k1.fr p1.rel.sub p2.fr) k2)
theorem blt_v {f : Blt} {x : Str} {p : Pos} {e : Expr} {es : List Expr} {rs : List R3} (hc : X.calm = true) (hu : X.A.units + 65 < cLine) (hf : bltIsi f = false) (h : SndL X (e :: es) rs)
    (hcall : ∀ {t : TA}, PA X (e :: es) t → PE X (.Call (.Name x p) (e :: es) [] pos) (tCB (CallAt X (bltFn f)) t)) : Snd X (.Call (.Name x p) (e :: es) [] pos) (ofV (evBlt f rs)) := by
  refine SndV.snd (fun z r ρ' R e1 Q q => ?_) rfl
  obtain ⟨⟨ds, ρ1, ls⟩, h1, e2⟩ := bind_some (show (pks rs z.ρ).bind _ = some _ from e1)
  obtain ⟨r', h2, e3⟩ := bind_some e2
  cases e3
  refine PE.rn (hcall pra) (pks_ok h z ds ρ1 ls R h1 _ fun us z1 p1 er1 es1 k1 => ?_)
  refine blt_ok hc hu p1.rel hf k1 h2 fun v z2 T s2 er2 es2 t2 => ?_
  have t3 := t2.after p1.fr
  exact q v (z2.setR (unl ls z2.ρ)) T (p1.close z2 s2) (by show unl ls z2.ρ = _; rw [er2, er1]) (es2.trans es1) ⟨t3.own, t3.nd, t3.apart, t3.new⟩
end
end Q
set_option maxHeartbeats 1000000
namespace Q
open PySem L2 PyProof.Rows
section
variable {K : PySem.W.Frag} {z z' z1 z2 : Z}
/-- slot i's own tree is changed at a later state -/
theorem put2_ok (R : Rel K z) (s : Stp K z z1) {H : Hp} {i : Nat} {b : Bool} {m0 m : MV} {T : List Addr} {v : V} (h : z1.ρ[i]? = some (ownS b m0)) (hv : z1.σ[i]? = some (some v)) (own : Own K z1.A H m v T) (nd : T.Nodup) (dj : ∀ a ∈ T, ∀ j, j ≠ i → a ∉ z1.TS j)
    (keep1 : ∀ a o, z1.H a = some o → a ∉ z1.TS i → H a = some o) (there : ∀ a, H a = none → z1.H a = none) (new : ∀ a ∈ T, z.S a ∨ z.H a = none ∨ a ∈ z1.TS i) : Stp K z (z1.putT z1.A H i (ownS b m) T) := by
  have inS : ∀ a ∈ z1.TS i, z1.S a := fun a ha => inS_of ⟨b, m0, h⟩ ha
  have kpT := putT_Kp (A := z1.A) (H := H) (T := T) (m := m) h
  have trk : ∀ a, z1.A a → H a ≠ none := fun a ha e => s.rel.trk a ha (there a e)
  have fr : Fr z.A z.S z.H z1.A (z1.putT z1.A H i (ownS b m) T).S H := by
    refine ⟨fun c o e n => keep1 c o (s.fr.keep c o e n) fun w => ?_, s.fr.newA, fun a q => ?_, s.fr.keepA, fun a e => s.fr.there a (there a e)⟩
    · rcases s.fr.newS c (inS c w) with q | q
      · exact n q
      · rw [e] at q; cases q
    · rcases (putT_S h a).mp q with (⟨q, _⟩ | q) | ⟨q, _⟩
      · exact s.fr.newS a q
      · rcases new a q with w | w | w
        · exact .inl w
        · exact .inr w
        · exact s.fr.newS a (inS a w)
      · exact s.fr.newS a q
  refine Stp.build R fr (s.kp.trans kpT) (by show (z1.ρ.set i _).length = _; rw [List.length_set]; exact s.rel.len) (fun j sl e hb => ?_) (fun j fl d e => ?_) (fun j e => ?_) (fun j => ?_) (fun j k a hj hk => ?_) trk
  · rcases set_get e with ⟨rfl, rfl⟩ | ⟨hji, e1⟩
    · refine ⟨_, hv, ?_⟩
      show SlotR K z1.A _ H _ _ (z1.TS.up j T j)
      rw [TSet.up_same]; exact ownS_r own
    · obtain ⟨o, e2, r⟩ := s.rel.slot j sl e1
      refine ⟨o, e2, ?_⟩
      show SlotR K z1.A _ H sl o (z1.TS.up i T j)
      rw [TSet.up_ne hji]
      have lift : ∀ {m : MV} {v : V}, Own K z1.A z1.H m v (z1.TS j) → Own K z1.A H m v (z1.TS j) := fun q =>
        q.step (fun c o e n => keep1 c o e fun w => n (s.rel.subT i c w)) (fun a w => .inl w) fun c hc => ⟨fun o e => keep1 c o e fun q => hji (s.rel.dj j i c hc q), s.rel.subT j c hc⟩
      generalize z1.TS j = Tj at r lift
      cases r with
      | unset => exact .unset
      | own r => exact .own (lift r)
      | io r => exact .io (lift r)
      | lck r => exact .lck (lift r)
      | bor r => cases hb
  · rcases set_get e with ⟨_, e1⟩ | ⟨hji, e1⟩
    · cases b <;> cases e1
    · show z1.TS.up i T j = []
      rw [TSet.up_ne hji]
      obtain ⟨o, _, r⟩ := s.rel.slot j _ e1
      generalize z1.TS j = Tj at r
      cases r with | bor _ => rfl
  · have e1 : z1.ρ[j]? = none := set_none.mp e
    have hji : j ≠ i := fun q => by subst q; rw [h] at e1; cases e1
    show z1.TS.up i T j = []
    rw [TSet.up_ne hji]; exact s.rel.out j e1
  · show (z1.TS.up i T j).Nodup
    by_cases hji : j = i
    · subst hji; rw [TSet.up_same]; exact nd
    · rw [TSet.up_ne hji]; exact s.rel.nd j
  · have hj : a ∈ z1.TS.up i T j := hj
    have hk : a ∈ z1.TS.up i T k := hk
    by_cases hji : j = i
    · by_cases hki : k = i
      · rw [hji, hki]
      · rw [hji, TSet.up_same] at hj; rw [TSet.up_ne hki] at hk; exact absurd hk (dj a hj k hki)
    · by_cases hki : k = i
      · rw [hki, TSet.up_same] at hk; rw [TSet.up_ne hji] at hj; exact absurd hj (dj a hk j hji)
      · rw [TSet.up_ne hji] at hj; rw [TSet.up_ne hki] at hk; exact s.rel.dj j k a hj hk
/-- the object at a place is exchanged -/
theorem upd_place {x : Plc} {u : V} (R : Rel K z) (p : Pend K x.ls z z') (s : Stp K z' z2) (pl : PlR K z2 x u) (hm : x.ls.isEmpty = false) (tr : isTree x.m = true) :
    ∃ a b m0 Tc, u = .ref a ∧ x.ls = [(x.i, ownS b m0)] ∧ (unl x.ls z2.ρ)[x.i]? = some (ownS b m0) ∧ Own K z2.A z2.H x.m (.ref a) Tc ∧ a ∈ Tc ∧ Tc.Nodup ∧ (∀ w ∈ Tc, w ∈ z2.TS x.i) ∧ (∀ w ∈ z2.TS x.i, z.S w ∨ z.H w = none) ∧
      ∀ (o : HO) (c' : MV) (Tc' : List Addr), Own K z2.A (upd z2.H a o) c' (.ref a) Tc' → Tc'.Nodup → (∀ w ∈ Tc', w ∈ Tc ∨ ((∀ j, w ∉ z2.TS j) ∧ (z.S w ∨ z.H w = none))) →
        ∃ m' T', setAt x.w c' m0 = some m' ∧ (∀ w ∈ T', (w ∈ z2.TS x.i ∧ w ∉ Tc) ∨ w ∈ Tc') ∧ Stp K z ((z2.setR (unl x.ls z2.ρ)).putT z2.A (upd z2.H a o) x.i (ownS b m') T') := by
  obtain ⟨m0, v0, bt, dn, o⟩ := pl
  rcases o with o | ⟨⟨b, o1⟩, o2, o3⟩
  · rw [o] at hm; cases hm
  have sc : Stp K z (z2.setR (unl x.ls z2.ρ)) := p.close z2 s
  have e3 : (unl x.ls z2.ρ)[x.i]? = some (ownS b m0) := by
    rw [o1]; exact set_self o2
  obtain ⟨o', e4, r4⟩ := s.rel.slot x.i _ o2
  rw [o3] at e4
  cases e4
  have ow : Own K z2.A z2.H m0 v0 (z2.TS x.i) := by
    generalize z2.TS x.i = T at r4
    cases r4 with | lck r => exact r
  have bc := dn.bt bt
  obtain ⟨a, rfl⟩ : ∃ a, u = .ref a := by
    cases hx : x.m with
    | val d => rw [hx] at tr; cases tr
    | lst ms => rw [hx] at bc; cases bc; exact ⟨_, rfl⟩
    | nd k ms => rw [hx] at bc; cases bc; exact ⟨_, rfl⟩
  have sS : ∀ w ∈ z2.TS x.i, (z2.setR (unl x.ls z2.ρ)).S w := fun w hw => inS_of (z := z2.setR (unl x.ls z2.ρ)) ⟨b, m0, e3⟩ hw
  obtain ⟨Tc, oc, ha, sub, ndc, go⟩ := Own.exch tr ow dn (s.rel.nd x.i)
  refine ⟨a, b, m0, Tc, rfl, o1, e3, oc, ha, ndc, sub, fun w hw => sc.fr.newS w (sS w hw), fun o c' Tc' oc' nc hc => ?_⟩
  · obtain ⟨m', T', e5, o5, mem5, nd5⟩ := go (upd z2.H a o) c' Tc' (fun w o e n => by rw [upd_ne n]; exact e) oc'
    refine ⟨m', T', e5, mem5, ?_⟩
    have nd' : T'.Nodup := nd5 nc fun w hw hT => by
      rcases hc w hw with g | ⟨g, _⟩
      · exact g
      · exact absurd hT (g x.i)
    refine put2_ok (z1 := z2.setR (unl x.ls z2.ρ)) R sc e3 o3 o5 nd' (fun w hw j hj h => ?_) (fun w o e n => ?_) (fun w e => ?_) fun w hw => ?_
    · rcases mem5 w hw with g | g
      · exact hj (s.rel.dj j x.i w h g.1)
      · rcases hc w g with q | ⟨q, _⟩
        · exact hj (s.rel.dj j x.i w h (sub w q))
        · exact q j h
    · show upd z2.H a _ w = some o
      rw [upd_ne (fun q => n (by rw [q]; exact sub a ha))]; exact e
    · show z2.H w = none
      by_cases hw : w = a
      · rw [hw, upd_same] at e; cases e
      · rw [upd_ne hw] at e; exact e
    · rcases mem5 w hw with g | g
      · exact .inr (.inr g.1)
      · rcases hc w g with q | ⟨_, q⟩
        · exact .inr (.inr (sub w q))
        · rcases q with q | q
          · exact .inl q
          · exact .inr (.inl q)
end
end Q
set_option maxHeartbeats 1000000
namespace Q
open PySem L2 PyProof.Rows
section
variable {X : Cx} {a b c : Expr} {ra rb rc : R3} {pos : Pos}
theorem keys_reps {K : PySem.W.Frag} {A : AP} {H : Hp} : ∀ {us : List V} {ds : List D} {ks : List Key}, Reps K A H us ds → keysOf ds = some ks → us = ks.map kV
  | _, _, _, .nil, h => by cases h; rfl
  | _, d :: ds, ks, .cons r rs, h => by
    obtain ⟨k, h1, e2⟩ := bind_some (show (keyOf d).bind _ = some ks from h)
    obtain ⟨ks', h2, e3⟩ := bind_some e2
    cases e3
    rw [keyOf_rep r h1, keys_reps rs h2]
    rfl
theorem tupK_snd {es : List Expr} {rs : List R3} {k : Nat} (h : SndL X es rs) : Snd X (.Tuple es k pos) { ofV (fun ρ => (evs rs ρ).bind fun q => if q.1.length ≤ sizeLine then some (.val (.tuple (freezes q.1)), q.2) else none) with
      kd := fun ρ => (evs rs ρ).bind fun q => if q.1.length ≤ sizeLine then (keysOf (freezes q.1)).bind fun ks => some (ks, q.2) else none } := by
  have hs := tup_snd (pos := pos) (k := k) h
  refine ⟨hs.v, hs.p, hs.t, hs.w, sndQ0, fun z ks ρ' R e1 Q q => ?_⟩
  obtain ⟨⟨ms, ρ1⟩, h1, e2⟩ := bind_some (show (evs rs z.ρ).bind _ = some _ from e1)
  dsimp only at e2
  split at e2
  · rename_i hl
    obtain ⟨ks', h3, e3⟩ := bind_some e2
    cases e3
    refine PE.rn (pe_tup pra) (evs_ok h z ms _ R h1 _ fun us z1 T s er es t => ?_)
    obtain ⟨sd, rp⟩ := t.dropS R s
    refine ⟨by rw [t.own.length]; exact hl, fun p hp => ?_⟩
    have eu := keys_reps rp h3
    have sl := lay_ok (z := z1.drop T) (A := (z1.drop T).A) (o := .tup us) sd.rel hp (fun a q => .inl q) fun a q => q
    refine q (.ref p) ((z1.drop T).lay (z1.drop T).A p (.tup us)) (sd.trans R sl) er es ⟨p, rfl, ?_, notA (z := z1.drop T) sd.rel hp⟩
    show upd z1.H p (.tup us) p = _
    rw [upd_same, eu]
  · cases e2
/-! ### fields -/
def abOk : Expr → Bool
  | .Call _ [] _ _ => false
  | _ => true
theorem abOk_ok {e : Expr} (h : abOk e = true) (f : Str) (env : PySem.Env) : attributeBase e f env (eval e env) = eval e env := by
  cases e with
  | Call fn args kws p =>
    cases args with
    | nil => cases h
    | cons x xs => cases fn <;> rfl
  | _ => rfl
theorem posD_str (f : Str) : ∀ fs : List Str, posD f (fs.map PyData.str) = posOf f fs
  | [] => rfl
  | g :: fs => by
    show (if g = f then some 0 else (posD f (fs.map PyData.str)).map (· + 1)) = if g = f then some 0 else (posOf f fs).map (· + 1)
    rw [posD_str f fs]
/-- an instance that is data -/
theorem objD_rep {K : PySem.W.Frag} {A : AP} {H : Hp} {u : V} {d : D} {c : Str} {fs vs : List D} (r : Rep K A H u d) (h : objD d = some (c, fs, vs)) :
    ∃ (a C dx : Addr) (fs' : List Str) (xs : List V), u = .ref a ∧ H a = some (.ins C dx (fs'.zip xs)) ∧ KCls K c C ∧ Cls K C ∧ (∀ f ∈ fs', NoAttr K C f) ∧ fs = fs'.map PyData.str ∧ fs'.length = xs.length ∧ fs'.Nodup ∧ Reps K A H xs vs := by
  cases r with
  | non => cases h
  | bl _ => cases h
  | int _ => cases h
  | str _ => cases h
  | lst _ _ => cases h
  | tup _ _ => cases h
  | @nd k a o xs ds ha no na rs =>
    cases k with
    | dK ks => cases h
    | dT ks => cases h
    | obj c' fs' =>
      obtain ⟨hl, nd, C, dx, kc, eo, cl, nn⟩ := no
      subst eo
      have h : some (c', fs'.map PyData.str, (ds.map fun d => ((PyData.none, d) : D × D)).map (·.2)) = some (c, fs, vs) := h
      have e : (ds.map fun d => ((PyData.none, d) : D × D)).map (·.2) = ds := by rw [List.map_map]; exact List.map_id' ds
      rw [e] at h
      cases h
      exact ⟨a, C, dx, fs', xs, rfl, ha, kc, cl, nn, rfl, hl, nd, rs⟩
theorem Reps.getV {K : PySem.W.Frag} {A : AP} {H : Hp} : ∀ {vs : List V} {ds : List D} {n : Nat} {d : D}, Reps K A H vs ds → ds[n]? = some d → ∃ v, vs[n]? = some v ∧ Rep K A H v d
  | _, _, _, _, .nil, h => by simp at h
  | _, _, 0, _, .cons r rs, h => by simp at h; subst h; exact ⟨_, rfl, r⟩
  | _, _, n + 1, d, .cons r rs, h => by
    obtain ⟨v, h1, h2⟩ := Reps.getV (n := n) (d := d) rs (by simpa using h)
    exact ⟨v, by simpa using h1, h2⟩
theorem fldD_v {f : Str} (hab : abOk a = true) (ha : Snd X a ra) : SndV X (.Attribute a f pos) (evFldD ra f) := by
  intro z r ρ' R e1 Q q
  obtain ⟨⟨m0, ρ1⟩, h1, e2⟩ := bind_some (show (ra.v z.ρ).bind _ = some _ from e1)
  obtain ⟨c, h2, e3⟩ := bind_some e2
  cases e3
  obtain ⟨⟨cn, fs, vs⟩, h3, e4⟩ := bind_some (show (objD (freeze m0)).bind _ = some _ from h2)
  obtain ⟨n, h4, h5⟩ := bind_some e4
  refine PE.rn (pe_fld pr (abOk_ok hab f X.env)) (ha.v z m0 ρ1 R h1 _ fun u z1 T s er es t => ?_)
  obtain ⟨a0, C, dx, fs', xs, rfl, hH, kc, cl, nn, rfl, hl, nd, rs⟩ := objD_rep t.froze h3
  have h4 : posD f (fs'.map PyData.str) = some n := h4
  rw [posD_str] at h4
  obtain ⟨v, hv, rv⟩ := rs.getV h5
  refine ⟨a0, C, dx, _, v, rfl, hH, cl, nn f (List.mem_of_getElem? (posOf_some h4)), by rw [lookup_zip hl, h4, Option.bind_some]; exact hv, ?_⟩
  exact q v (z1.drop T) [] (s.drop R t) er es (Tmp.ofRep rv)
theorem fld_snd {f : Str} (hab : abOk a = true) (ha : Snd X a ra) : Snd X (.Attribute a f pos) { ofV (fun ρ => if treeQ ra ρ then vOfQ (qFld ra f) ρ else evFldD ra f ρ) with
      p := fun ρ => if treeQ ra ρ then pOfQ (qFld ra f) ρ else (evFldD ra f ρ).bind fun q => some (freeze q.1, .val, q.2, [])
      q := qFld ra f } := by
  have hq : SndQ X (.Attribute a f pos) (qFld ra f) := fun z y R e Q q => by
    obtain ⟨x, h1, e2⟩ := bind_some (show (ra.q z.ρ).bind _ = some _ from e)
    obtain ⟨n, h3, e4⟩ := bind_some e2
    obtain ⟨c, h4, e5⟩ := bind_some (show ((kids x.m)[n]?).bind _ = some _ from e4)
    cases e5
    refine PE.rn (pe_fld pr (abOk_ok hab f X.env)) (ha.q z x R h1 _ fun u z1 p1 er1 es1 k1 => ?_)
    have bt := k1.bt
    unfold fldMV at h3
    split at h3
    · rename_i cn fs ms hm
      rw [hm] at bt h4
      cases bt with | @nd _ a o xs _ ha no _ bs =>
      obtain ⟨v, hv, bv⟩ := bs.get h4
      have no' := no
      obtain ⟨hl, nd, C, dx, kc, eo, cl, na⟩ := no
      subst eo
      refine ⟨a, C, dx, _, v, rfl, ha, cl, na f (List.mem_of_getElem? (posOf_some h3)), by rw [lookup_zip hl, h3, Option.bind_some]; exact hv, ?_⟩
      refine q v z1 p1 er1 es1 (k1.kid (y := ⟨x.i, x.w ++ [n], c, x.ρ, x.ls⟩) rfl rfl (w2 := [n]) rfl ?_)
      rw [hm]; exact .nd ha no' h4 hv .here
    · cases h3
  have hv : SndV X (.Attribute a f pos) (fun ρ => if treeQ ra ρ then vOfQ (qFld ra f) ρ else evFldD ra f ρ) := fun z r ρ' R e1 Q q => by
    dsimp only at e1
    split at e1
    · exact vOfQ_ok hq z r ρ' R e1 Q q
    · exact fldD_v hab ha z r ρ' R e1 Q q
  refine ⟨hv, fun z d fl ρ' ls R e1 Q q => ?_, hv.toT rfl, fun h => (by cases h), hq, sndK0⟩
  dsimp only at e1
  split at e1
  · exact pOfQ_ok hq z d fl ρ' ls R e1 Q q
  · exact (fldD_v hab ha).toP z d fl ρ' ls R e1 Q q
end
end Q
set_option maxHeartbeats 1000000
namespace Q
open PySem L2 PyProof.Rows
section
variable {K : PySem.W.Frag} {A : AP} {H : Hp}
theorem Owns.append : ∀ {ms ns : List MV} {xs ys : List V} {T1 T2 : List Addr}, Owns K A H ms xs T1 → Owns K A H ns ys T2 → Owns K A H (ms ++ ns) (xs ++ ys) (T1 ++ T2)
  | _, _, _, _, _, _, .nil, s => s
  | _, _, _, _, _, _, .cons a b, s => by rw [List.append_assoc]; exact .cons a (Owns.append b s)
theorem Owns.erase : ∀ {ms : List MV} {xs : List V} {T : List Addr} {k : Nat} {m : MV}, Owns K A H ms xs T → ms[k]? = some m → ∃ x T1 Tm T2, xs[k]? = some x ∧ T = T1 ++ (Tm ++ T2) ∧ Own K A H m x Tm ∧ Owns K A H (ms.eraseIdx k) (xs.eraseIdx k) (T1 ++ T2)
  | _, _, _, _, _, .nil, e => by simp at e
  | _, _, _, 0, _, .cons (T := Ta) (T' := Tb) a b, e => by
    simp at e
    subst e
    exact ⟨_, [], Ta, Tb, rfl, rfl, a, by simpa using b⟩
  | _, _, _, i + 1, m, .cons (T := Ta) (T' := Tb) a b, e => by
    obtain ⟨x, T1, Tm, T2, h1, h2, h3, h4⟩ := Owns.erase (k := i) (m := m) b (by simpa using e)
    subst h2
    refine ⟨x, Ta ++ T1, Tm, T2, by simpa using h1, by simp, h3, ?_⟩
    rw [List.eraseIdx_cons_succ, List.eraseIdx_cons_succ, List.append_assoc]
    exact .cons a h4
/-- a node of a list anew -/
theorem Own.relst {a : Addr} {ms : List MV} {xs : List V} {T : List Addr} (hA : A a) (ha : a ∉ T) (r : Owns K A H ms xs T) : Own K A (upd H a (.lst xs)) (.lst ms) (.ref a) (a :: T) :=
  .lst upd_same hA (r.step (fun c o e n => by rw [upd_ne (show c ≠ a from fun w => n (by rw [w]; exact hA))]; exact e) (fun c w => .inl w) fun c hc => ⟨fun o e => by rw [upd_ne (show c ≠ a from fun w => ha (by rw [← w]; exact hc))]; exact e, (r.sub c hc).1⟩)
end
def mopRel : MOp → V → List V → Hp → VK → Prop
  | .app => rAppend
  | .ext => rExtend
  | .pop => rPop
  | .popI => rPopAt
section
variable {K : PySem.W.Frag} {z z' z2 : Z}
theorem putPl_ok {i : Nat} {w : List Nat} {c m0 m' : MV} {b : Bool} {ρ ρ2 : Env} (h : ρ[i]? = some (ownS b m0)) (hp : putPl i w c ρ = some ρ2) (e : setAt w c m0 = some m') : ρ2 = ρ.set i (ownS b m') := by
  unfold putPl at hp
  rw [h] at hp
  cases b with
  | true =>
    have hp : (setAt w c m0).bind _ = some ρ2 := hp
    rw [e, Option.bind_some] at hp
    exact (Option.some.inj hp).symm
  | false =>
    have hp : (setAt w c m0).bind _ = some ρ2 := hp
    rw [e, Option.bind_some] at hp
    exact (Option.some.inj hp).symm
theorem last_eq {α : Type} (xs : List α) : xs.eraseIdx (xs.length - 1) = xs.dropLast := by
  rcases List.eq_nil_or_concat xs with rfl | ⟨ys, y, rfl⟩
  · rfl
  · simp [List.eraseIdx_append_of_length_le]
theorem mop_core {op : MOp} {x : Plc} {u : V} {rs : List MV} {us : List V} {T : List Addr} {r c' : MV} {ρ2 : Env} {Q : VK} (R : Rel K z) (p : Pend K x.ls z z') (s : Stp K z' z2) (pl : PlR K z2 x u) (t : TmpS K z' z2 rs us T) (hm : x.ls.isEmpty = false)
    (h : mopR op x.m rs = some (r, c')) (hp : putPl x.i x.w c' (unl x.ls z2.ρ) = some ρ2)
    (q : ∀ y zf Tf, Stp K z zf → zf.ρ = ρ2 → zf.σ = z2.σ → Tmp K z zf r y Tf → Q y zf.H) : mopRel op u us z2.H Q := by
  have tnew : ∀ w ∈ T, z.S w ∨ z.H w = none := fun w hw => by
    rcases t.new w hw with g | g
    · exact p.fr.newS w g
    · exact .inr (p.fr.there w g)
  have go : ∀ {ms : List MV}, x.m = .lst ms → ∃ a xs T0, u = .ref a ∧ z2.H a = some (.lst xs) ∧ Owns K z2.A z2.H ms xs T0 ∧ (a :: T0).Nodup ∧ (∀ w ∈ a :: T0, w ∈ z2.TS x.i) ∧ (∀ w ∈ T, w ∉ a :: T0) ∧ (∀ w ∈ z2.TS x.i, z.S w ∨ z.H w = none) ∧
      ∀ (ms' : List MV) (xs' : List V) (T0' : List Addr), c' = .lst ms' → Owns K z2.A z2.H ms' xs' T0' → (a :: T0').Nodup → (∀ w ∈ T0', w ∈ T0 ∨ w ∈ T) →
        ∃ zf, Stp K z zf ∧ zf.ρ = ρ2 ∧ zf.σ = z2.σ ∧ zf.H = upd z2.H a (.lst xs') ∧ zf.A = z2.A ∧ (∀ j, ∀ w ∈ zf.TS j, w ∈ z2.TS j ∧ w ∉ T0 ∨ w ∈ a :: T0') := by
    intro ms em
    obtain ⟨a, b, m0, Tc, rfl, els, e3, oc, ha, ndc, sub, tsn, fin⟩ := upd_place R p s pl hm (by rw [em]; rfl)
    rw [em] at oc
    cases oc with | @lst _ xs _ T0 hH hA ow =>
    refine ⟨a, xs, T0, rfl, hH, ow, ndc, sub, fun w hw h2 => t.apart w hw x.i (sub w h2), tsn, fun ms' xs' T0' ec ow' nd' mem' => ?_⟩
    have nn := List.nodup_cons.mp nd'
    have o1 := Own.relst hA nn.1 ow'
    obtain ⟨m', T', e5, mem5, st⟩ := fin (.lst xs') (.lst ms') (a :: T0') o1 nd' fun w hw => by
      rcases List.mem_cons.mp hw with rfl | hw
      · exact .inl List.mem_cons_self
      · rcases mem' w hw with g | g
        · exact .inl (List.mem_cons_of_mem _ g)
        · exact .inr ⟨t.apart w g, tnew w g⟩
    subst ec
    refine ⟨_, st, (putPl_ok e3 hp e5).symm, rfl, rfl, rfl, fun j w hw => ?_⟩
    have hw : w ∈ z2.TS.up x.i T' j := hw
    by_cases hj : j = x.i
    · subst hj
      rw [TSet.up_same] at hw
      rcases mem5 w hw with g | g
      · exact .inl ⟨g.1, fun k => g.2 (List.mem_cons_of_mem _ k)⟩
      · exact .inr g
    · rw [TSet.up_ne hj] at hw
      exact .inl ⟨hw, fun k => hj (s.rel.dj j x.i w hw (sub w (List.mem_cons_of_mem _ k)))⟩
  have takes : ∀ {ms : List MV} {k : Nat}, x.m = .lst ms → ms[k]? = some r → c' = .lst (ms.eraseIdx k) → ∃ a xs y, u = .ref a ∧ z2.H a = some (.lst xs) ∧ xs[k]? = some y ∧ xs.length = ms.length ∧ Q y (upd z2.H a (.lst (xs.eraseIdx k))) := by
    intro ms k em hr ec
    obtain ⟨a, xs, T0, rfl, hH, ow, nd, sub, dj, tsn, fin⟩ := go em
    obtain ⟨y, T1, Tm, T2, hy, eT, om, oe⟩ := ow.erase hr
    have hl := ow.length
    have n1 := List.nodup_cons.mp nd
    subst eT
    have h2 := List.nodup_append.mp n1.2
    have h3 := List.nodup_append.mp h2.2.1
    have naT : a ∉ Tm := fun g => n1.1 (by simp [g])
    have hnd : (a :: (T1 ++ T2)).Nodup := List.nodup_cons.mpr ⟨fun g => n1.1 (by simp only [List.mem_append] at g ⊢; rcases g with g | g; exact .inl g; exact .inr (.inr g)), List.nodup_append.mpr ⟨h2.1, h3.2.1, fun w hw v hv e => h2.2.2 w hw v (by simp [hv]) e⟩⟩
    obtain ⟨zf, st, e1, e2, e3, eA, ts⟩ := fin (ms.eraseIdx k) (xs.eraseIdx k) (T1 ++ T2) ec oe hnd (fun w hw => .inl (by simp only [List.mem_append] at hw ⊢; rcases hw with g | g; exact .inl g; exact .inr (.inr g)))
    refine ⟨a, xs, y, rfl, hH, hy, hl, ?_⟩
    rw [← e3]
    refine q y zf Tm st e1 e2 ⟨?_, h3.1, fun w hw j hj => ?_, fun w hw => tsn w (sub w (List.mem_cons_of_mem _ (by simp [hw])))⟩
    · rw [eA, e3]
      exact om.step (fun c o e n => by rw [upd_ne (show c ≠ a from fun g => n (by rw [g]; exact s.rel.subT x.i a (sub a List.mem_cons_self)))]; exact e) (fun c g => .inl g) fun c hc => ⟨fun o e => by rw [upd_ne (show c ≠ a from fun g => naT (by rw [← g]; exact hc))]; exact e, (om.sub c hc).1⟩
    · rcases ts j w hj with g | g
      · exact g.2 (by simp [hw])
      · rcases List.mem_cons.mp g with g | g
        · exact naT (by rw [← g]; exact hw)
        · rcases List.mem_append.mp g with g | g
          · exact h2.2.2 w g w (by simp [hw]) rfl
          · exact h3.2.2 w hw w g rfl
  unfold mopR at h
  split at h
  case h_1 ms r1 em =>
    split at h
    · rename_i hl
      cases h
      obtain ⟨a, xs, T0, rfl, hH, ow, nd, sub, dj, tsn, fin⟩ := go em
      have to := t.own
      cases to with | @cons _ y T1 _ _ _ o1 o2 =>
      cases o2
      have hnd : (a :: (T0 ++ (T1 ++ []))).Nodup := by
        have n1 := List.nodup_cons.mp nd
        refine List.nodup_cons.mpr ⟨fun w => ?_, List.nodup_append.mpr ⟨n1.2, t.nd, fun w hw v hv e => dj v hv (by rw [← e]; exact List.mem_cons_of_mem _ hw)⟩⟩
        rcases List.mem_append.mp w with g | g
        · exact n1.1 g
        · exact dj a g List.mem_cons_self
      obtain ⟨zf, st, e1, e2, e3, _, _⟩ := fin (ms ++ [r1]) (xs ++ [y]) (T0 ++ (T1 ++ [])) rfl (Owns.append ow (.cons o1 .nil)) hnd (fun w hw => List.mem_append.mp hw)
      exact ⟨a, xs, y, rfl, rfl, hH, by rw [ow.length]; exact hl, e3 ▸ q .non zf [] st e1 e2 (Tmp.ofRep .non)⟩
    · cases h
  case h_2 ms rs2 em =>
    split at h
    · rename_i hl
      cases h
      obtain ⟨a, xs, T0, rfl, hH, ow, nd, sub, dj, tsn, fin⟩ := go em
      have to := t.own
      have tnd := t.nd
      cases to with | @cons _ y T1 _ _ _ o1 o2 =>
      cases o2
      cases o1 with | @lst b zs _ T2 hb _ ob =>
      have dj2 : ∀ w ∈ T2, w ∉ a :: T0 := fun w hw => dj w (by simp [hw])
      have hnd : (a :: (T0 ++ T2)).Nodup := by
        have n1 := List.nodup_cons.mp nd
        have n2 : T2.Nodup := by
          rw [List.append_nil] at tnd
          exact (List.nodup_cons.mp tnd).2
        refine List.nodup_cons.mpr ⟨fun w => ?_, List.nodup_append.mpr ⟨n1.2, n2, fun w hw v hv e => dj2 v hv (by rw [← e]; exact List.mem_cons_of_mem _ hw)⟩⟩
        rcases List.mem_append.mp w with g | g
        · exact n1.1 g
        · exact dj2 a g List.mem_cons_self
      obtain ⟨zf, st, e1, e2, e3, _, _⟩ := fin (ms ++ rs2) (xs ++ zs) (T0 ++ T2) rfl (Owns.append ow ob) hnd (fun w hw => by
        rcases List.mem_append.mp hw with g | g
        · exact .inl g
        · exact .inr (by simp [g]))
      exact ⟨a, b, xs, zs, rfl, rfl, hH, hb, by rw [ow.length, ob.length]; exact hl, e3 ▸ q .non zf [] st e1 e2 (Tmp.ofRep .non)⟩
    · cases h
  case h_3 ms em =>
    obtain ⟨r1, hr, e⟩ := bind_some h
    cases e
    have to := t.own
    cases to
    obtain ⟨a, xs, y, eu, hH, hy, hl, g⟩ := takes em hr rfl
    refine ⟨a, xs, y, eu, rfl, hH, by rw [hl]; exact hy, ?_⟩
    rw [← last_eq, hl]; exact g
  case h_4 ms i em =>
    split at h
    rotate_left
    · cases h
    rename_i hb
    simp only [Bool.and_eq_true, decide_eq_true_eq] at hb
    obtain ⟨k, hk, h5⟩ := bind_some h
    obtain ⟨r1, hr, e⟩ := bind_some h5
    cases e
    have to := t.own
    cases to with | @cons _ y0 T1' _ _ _ o1 o2 =>
    cases o2
    cases o1 with | val rv =>
    obtain ⟨a, xs, y, eu, hH, hy, hl, g⟩ := takes em hr rfl
    obtain ⟨k1, k2, k3, k4⟩ := ixN_seq hk
    exact ⟨a, xs, i, k, y, eu, by rw [rv.intv], hH, by omega, by omega, by rw [hl]; exact k1, hy, g⟩
  case h_5 => cases h
end
end Q
set_option maxHeartbeats 1000000
namespace Q
open PySem L2 PyProof.Rows
section
variable {X : Cx} {a b c : Expr} {ra rb rc : R3} {pos : Pos}
theorem mop_ty {op : MOp} {m r c' : MV} {rs : List MV} (h : mopR op m rs = some (r, c')) : ∃ ms, m = .lst ms := by
  unfold mopR at h
  split at h <;> first | exact ⟨_, rfl⟩ | cases h
theorem mop_v {op : MOp} {e0 : Expr} {es : List Expr} {rs : List R3} (ha : Snd X a ra) (hl : SndL X es rs)
    (hb : ∀ {σ : L2.St} {H : Hp} {Q : VK}, RunsE X a σ H (fun x H1 => tyV X.K "list" x H1 ∧ RunsA X es σ H1 fun xs H2 => mopRel op x xs H2 Q) → RunsE X e0 σ H Q) : SndV X e0 (evMop op ra rs) := by
  intro z r ρ' R e1 Q q
  obtain ⟨x, h1, e2⟩ := bind_some (show (ra.q z.ρ).bind _ = some _ from e1)
  obtain ⟨⟨ms, ρ2⟩, h2, e3⟩ := bind_some e2
  obtain ⟨⟨r', c'⟩, h3, e4⟩ := bind_some e3
  dsimp only at e4
  split at e4
  · cases e4
  rename_i hm
  obtain ⟨ρ3, h4, e5⟩ := bind_some e4
  cases e5
  refine hb (ha.q z x R h1 _ fun u z1 p1 er1 es1 k1 => ⟨?_, ?_⟩)
  · have bt := k1.bt
    obtain ⟨ms', em⟩ := mop_ty h3
    rw [em] at bt
    cases bt with | lst hH _ _ =>
    exact .inl ⟨rfl, _, SqL.of hH⟩
  · rw [← es1]
    refine evs_ok hl z1 ms ρ2 p1.rel (by rw [er1]; exact h2) _ fun us z2 T s2 er2 es2 t2 => ?_
    refine mop_core R p1 s2 (k1.stp p1.rel s2) t2 (by simpa using hm) h3 (by rw [er2]; exact h4) fun y zf Tf st e6 e7 t7 => ?_
    exact q y zf Tf st e6 (e7.trans (es2.trans es1)) t7
/-! ### dicts made -/
def trsOf (X : Cx) : List Key → List Expr → List (TE × TE)
  | k :: ks, e :: es => (tC (kV k), RunsE X e) :: trsOf X ks es
  | _, _ => []
theorem pairs_ok : ∀ {ks : List Key} {es : List Expr} {rs : List R3}, SndL X es rs → ks.length = es.length → ∀ (z : Z) (ms : List MV) (ρ' : Env), Rel X.K z → evs rs z.ρ = some (ms, ρ') → ∀ Q : List (V × V) → Hp → Prop,
    (∀ us z' T, Stp X.K z z' → z'.ρ = ρ' → z'.σ = z.σ → TmpS X.K z z' ms us T → Q ((ks.map kV).zip us) z'.H) → tPairs (trsOf X ks es) z.σ z.H Q
  | [], _, _, .nil, hk, z, ms, ρ', R, e1, Q, q => by
    cases e1
    exact q [] z [] (Stp.refl R) rfl rfl ⟨.nil, List.nodup_nil, fun _ h => (nomatch h), fun _ h => (nomatch h)⟩
  | _ :: _, _, _, .nil, hk, z, ms, ρ', R, e1, Q, q => by simp at hk
  | [], _, _, .cons _ _ _, hk, z, ms, ρ', R, e1, Q, q => by simp at hk
  | k :: ks, _, _, .cons (e := e) (r := r) hn h t, hk, z, ms, ρ', R, e1, Q, q => by
    obtain ⟨⟨r1, ρ1⟩, h1, e2⟩ := bind_some (show (r.v z.ρ).bind _ = some _ from e1)
    obtain ⟨⟨rs2, ρ2⟩, h2, e3⟩ := bind_some e2
    cases e3
    show RunsE X e z.σ z.H _
    refine h.v z r1 ρ1 R h1 _ fun u z1 T1 s1 er1 es1 t1 => ?_
    rw [← es1]
    refine pairs_ok t (by simpa using hk) z1 rs2 ρ2 s1.rel (by rw [er1]; exact h2) _ fun us z2 T2 s2 er2 es2 t2 => ?_
    obtain ⟨nS, ap⟩ := keep_apart s2 (fun b hb => (t1.own.sub b hb).2) t1.apart
    refine q (u :: us) z2 (T1 ++ T2) (s1.trans R s2) er2 (es2.trans es1) ⟨.cons (t1.own.fr s1.rel.sub s2.fr nS) t2.own, ?_, fun b hb i => ?_, fun b hb => ?_⟩
    · refine List.nodup_append.mpr ⟨t1.nd, t2.nd, fun x hx y hy e => ?_⟩
      subst e
      rcases t2.new x hy with h | h
      · exact nS x hx h
      · exact (t1.own.sub x hx).2 h
    · rcases List.mem_append.mp hb with hb | hb
      · exact ap b hb i
      · exact t2.apart b hb i
    · rcases List.mem_append.mp hb with hb | hb
      · exact t1.new b hb
      · rcases t2.new b hb with h | h
        · exact s1.fr.newS b h
        · exact .inr (s1.fr.there b h)
theorem nodupB_ok {κ : Type} [DecidableEq κ] : ∀ {ks : List κ}, nodupB ks = true → ks.Nodup
  | [], _ => List.nodup_nil
  | k :: ks, h => by
    unfold nodupB at h
    simp only [Bool.and_eq_true, Bool.not_eq_true'] at h
    refine List.nodup_cons.mpr ⟨fun q => ?_, nodupB_ok h.2⟩
    have := List.contains_iff_mem.mpr q
    rw [h.1] at this; cases this
theorem merge_zip : ∀ {ks : List Key} {xs : List V} {k0 : List Key} {x0 : List V}, k0.length = x0.length → ks.length = xs.length → (k0 ++ ks).Nodup → mergeK (k0.zip x0) (ks.zip xs) = (k0 ++ ks).zip (x0 ++ xs)
  | [], [], k0, x0, _, _, _ => by simp [mergeK]
  | [], _ :: _, _, _, _, h, _ => by simp at h
  | _ :: _, [], _, _, _, h, _ => by simp at h
  | k :: ks, x :: xs, k0, x0, h0, h, nd => by
    have hk : k ∉ k0 := fun q => by
      have := (List.nodup_append.mp nd).2.2 k q k List.mem_cons_self
      exact this rfl
    have nd0 := (List.nodup_append.mp nd).1
    have hp : posOf k k0 = none := by
      cases e : posOf k k0 with
      | none => rfl
      | some n => exact absurd (List.mem_of_getElem? (posOf_some e)) hk
    show mergeK (L2.putK (k0.zip x0) k x) (ks.zip xs) = _
    rw [putK_zip h0 nd0, hp]
    show mergeK ((k0 ++ [k]).zip (x0 ++ [x])) (ks.zip xs) = _
    rw [merge_zip (by simp [h0]) (by simpa using h) (by simpa using nd)]
    simp
theorem zip_kvs : ∀ (ks : List Key) (us : List V), (ks.map kV).zip us = (ks.zip us).map fun kv => (kV kv.1, kv.2)
  | [], _ => rfl
  | _ :: _, [] => rfl
  | k :: ks, u :: us => by simp [zip_kvs ks us]
/-- a thing just made is changed -/
theorem tmp_upd {K : PySem.W.Frag} {z z1 : Z} (R : Rel K z) (s : Stp K z z1) {p : Addr} (hz : z.H p = none) (hp : z1.H p ≠ none) (npT : ∀ i, p ∉ z1.TS i) (hA : z1.A p) (o : HO) : Stp K z { z1 with H := upd z1.H p o } := by
  have keep : ∀ w u, w ≠ p → z1.H w = some u → upd z1.H p o w = some u := fun w u n e => by rw [upd_ne n]; exact e
  have th : ∀ w, upd z1.H p o w = none → z1.H w = none := fun w e => by
    by_cases hw : w = p
    · rw [hw, upd_same] at e; cases e
    · rw [upd_ne hw] at e; exact e
  refine Stp.build R ⟨fun w u e n => keep w u (fun g => by rw [g, hz] at e; cases e) (s.fr.keep w u e n), s.fr.newA, s.fr.newS, s.fr.keepA, fun w e => s.fr.there w (th w e)⟩ s.kp s.rel.len (fun i sl e hb => ?_) (fun i fl d e => ?_) s.rel.out s.rel.nd s.rel.dj fun w g e => s.rel.trk w g (th w e)
  · obtain ⟨o', e2, r⟩ := s.rel.slot i sl e
    refine ⟨o', e2, ?_⟩
    have lift : ∀ {m : MV} {v : V}, Own K z1.A z1.H m v (z1.TS i) → Own K z1.A (upd z1.H p o) m v (z1.TS i) := fun q =>
      q.step (fun w u e n => keep w u (fun g => n (by rw [g]; exact hA)) e) (fun w g => .inl g) fun w hw => ⟨fun u e => keep w u (fun g => npT i (by rw [← g]; exact hw)) e, s.rel.subT i w hw⟩
    show SlotR K z1.A _ (upd z1.H p o) sl o' (z1.TS i)
    generalize z1.TS i = Ti at r lift
    cases r with
    | unset => exact .unset
    | own r => exact .own (lift r)
    | io r => exact .io (lift r)
    | lck r => exact .lck (lift r)
    | bor r => cases hb
  · obtain ⟨o', e2, r⟩ := s.rel.slot i _ e
    show z1.TS i = []
    generalize z1.TS i = Ti at r
    cases r with | bor _ => rfl
/-- a dict by its display -/
theorem dct_v {ks : List Key} {es : List Expr} {rs : List R3} {e0 : Expr} (hl : SndL X es rs) (hk : ks.length = es.length)
    (hb : ∀ {σ : L2.St} {H : Hp} {Q : VK}, tDisp (trsOf X ks es) σ H Q → RunsE X e0 σ H Q) : SndV X e0 (evDct ks rs) := by
  intro z r ρ' R e1 Q q
  obtain ⟨⟨ms, ρ2⟩, h1, e2⟩ := bind_some (show (evs rs z.ρ).bind _ = some _ from e1)
  dsimp only at e2
  split at e2
  rotate_left
  · cases e2
  rename_i hc
  cases e2
  simp only [Bool.and_eq_true, decide_eq_true_eq] at hc
  obtain ⟨⟨c1, c2⟩, c3⟩ := hc
  have nd := nodupB_ok c2
  refine hb fun p hp => ?_
  have sl := lay_ok (A := fun a => z.A a ∨ a = p) (o := .dK []) R hp (fun a q => q) fun a q => .inl q
  refine pairs_ok hl hk (z.lay (fun a => z.A a ∨ a = p) p (.dK [])) ms _ sl.rel h1 _ fun us z1 T s1 er1 es1 t1 => ?_
  have npS : ¬ (z.lay (fun a => z.A a ∨ a = p) p (.dK [])).S p := fun ⟨i, hi, _⟩ => notA R hp (R.subT i p hi)
  have hH : z1.H p = some (.dK []) := s1.fr.keep p _ upd_same npS
  have hA : z1.A p := s1.fr.keepA p (.inr rfl) npS
  have nT : p ∉ T := fun w => by
    rcases t1.new p w with g | g
    · exact npS g
    · have g : upd z.H p (.dK []) p = none := g
      rw [upd_same] at g; cases g
  have npT : ∀ i, p ∉ z1.TS i := (keep_apart s1 (T := [p]) (fun b hb => by
      rw [List.mem_singleton.mp hb]; show upd z.H p _ p ≠ none; rw [upd_same]; simp) (fun b hb i hi => by
      rw [List.mem_singleton.mp hb] at hi; exact notA R hp (R.subT i p hi))).2 p List.mem_cons_self
  have hlu : us.length = ms.length := t1.own.length
  refine ⟨hH, ks.zip us, zip_kvs ks us, by rw [List.length_zip]; exact Nat.le_trans (Nat.min_le_left _ _) c3, ?_⟩
  have em : mergeK [] (ks.zip us) = ks.zip us := merge_zip (k0 := []) (x0 := []) rfl (by omega) nd
  rw [em]
  have s0 := sl.trans R s1
  have st := tmp_upd R s0 hp (by rw [hH]; simp) npT hA (.dK (ks.zip us))
  refine q (.ref p) _ (p :: T) st er1 es1 ⟨.nd upd_same ⟨by omega, nd, rfl⟩ hA ?_, List.nodup_cons.mpr ⟨nT, t1.nd⟩, fun w hw i g => ?_, fun w hw => ?_⟩
  · have kp : ∀ w o, w ≠ p → z1.H w = some o → upd z1.H p (.dK (ks.zip us)) w = some o := fun w o n e => by rw [upd_ne n]; exact e
    exact t1.own.step (fun w o e n => kp w o (fun g => n (by rw [g]; exact hA)) e) (fun w g => .inl g) fun w hw => ⟨fun o e => kp w o (fun g => nT (by rw [← g]; exact hw)) e, (t1.own.sub w hw).1⟩
  · rcases List.mem_cons.mp hw with rfl | hw
    · exact npT i g
    · exact t1.apart w hw i g
  · rcases List.mem_cons.mp hw with rfl | hw
    · exact .inr hp
    · rcases t1.new w hw with g | g
      · exact sl.fr.newS w g
      · exact .inr (sl.fr.there w g)
/-- {} -/
theorem dnew_v (t : Bool) : SndV X (.Dict [] [] pos) fun ρ => some (.nd (if t then .dT [] else .dK []) [], ρ) := by
  intro z r ρ' R e1 Q q
  cases e1
  have go : ∀ (k : Kind) (o : HO), NodeO X.K k [] o → (∀ u z' T, Stp X.K z z' → z'.ρ = z.ρ → z'.σ = z.σ → Tmp X.K z z' (.nd k []) u T → Q u z'.H) → ∀ p, z.H p = none → Q (.ref p) (upd z.H p o) := fun k o no q p hp => by
    have sl := lay_ok (A := fun a => z.A a ∨ a = p) (o := o) R hp (fun a q => q) fun a q => .inl q
    refine q (.ref p) (z.lay (fun a => z.A a ∨ a = p) p o) [p] sl rfl rfl ⟨.nd upd_same no (.inr rfl) .nil, by simp, fun w hw i g => ?_, fun w hw => .inr (by rw [List.mem_singleton.mp hw]; exact hp)⟩
    rw [List.mem_singleton.mp hw] at g
    exact notA R hp (R.subT i p g)
  cases t with
  | true => exact PE.rn pe_dnewT (go (.dT []) _ ⟨rfl, List.nodup_nil, rfl⟩ q)
  | false => exact PE.rn pe_dnewK (go (.dK []) _ ⟨rfl, List.nodup_nil, rfl⟩ q)
/-! ### dicts read -/
/-- a dict of a place, by a key: its value there -/
theorem dget_ok {z : Z} {x : Plc} {u1 u2 : V} {k : DKey} (h : PlR X.K z x u1) (hk : KeyR z k u2) (hf : keyFor x.m k = true) : ∃ a o, u1 = .ref a ∧ DGet z.H a u2 o ∧ ((ixMV x.m k = none ∧ o = none) ∨ ∃ n c v, ixMV x.m k = some n ∧ (kids x.m)[n]? = some c ∧ o = some v ∧ Bt X.K z.A z.S z.H c v) := by
  have bt := h.bt
  have core : ∀ {κ : Type} [DecidableEq κ] {ks : List κ} {ms : List MV} {xs : List V} {k : κ}, ks.length = xs.length → Bts X.K z.A z.S z.H ms xs → (posOf k ks = none ∧ valV (ks.zip xs) k = none) ∨ ∃ n c v, posOf k ks = some n ∧ ms[n]? = some c ∧ valV (ks.zip xs) k = some v ∧ Bt X.K z.A z.S z.H c v := by
    intro κ _ ks ms xs k hl bs
    rw [valV_zip hl]
    cases e : posOf k ks with
    | none => exact .inl ⟨rfl, rfl⟩
    | some n =>
      have hn : n < ms.length := by
        have := (List.getElem?_eq_some_iff.mp (posOf_some e)).1
        rw [← bs.length]; omega
      obtain ⟨v, hv, bv⟩ := bs.get (List.getElem?_eq_getElem hn)
      exact .inr ⟨n, ms[n], v, rfl, List.getElem?_eq_getElem hn, hv, bv⟩
  unfold keyFor at hf
  split at hf
  case h_1 ks ms k hm =>
    rw [hm] at bt ⊢
    cases bt with | @nd _ a o xs _ ha no _ bs =>
    obtain ⟨hl, nd, eo⟩ := no
    subst eo
    have hk : u2 = kV k := hk
    subst hk
    exact ⟨a, _, rfl, DGet.k ha, core hl bs⟩
  case h_2 ks ms k hm =>
    rw [hm] at bt ⊢
    cases bt with | @nd _ a o xs _ ha no _ bs =>
    obtain ⟨hl, nd, eo⟩ := no
    subst eo
    obtain ⟨b, rfl, hb, _⟩ := hk
    exact ⟨a, _, rfl, DGet.t ha hb, core hl bs⟩
  case h_3 => cases hf
theorem op_din (hu : X.A.units + 1 < cLine) (neg : Bool) : OpR X (compareOp (if neg then .NotIn else .In)) (fun y x H Q => ∃ a o, x = .ref a ∧ DGet H a y o ∧ Q (.bl (o.isSome != neg)) H) := by
  intro pins s σ H x y v u Q I rx ry h
  obtain ⟨a, o, rfl, g, q⟩ := h
  obtain rfl : u = Value.ref a := ry
  cases neg with
  | false => exact d_in hu I g rx fun s3 I3 => ⟨.bl o.isSome, H, I3, rfl, by simpa using q⟩
  | true => exact d_notIn hu I g rx fun s3 I3 => ⟨.bl (!o.isSome), H, I3, rfl, by simpa using q⟩
/-- k in d -/
theorem inT_core {neg : Bool} (ha : Snd X a ra) (hb : Snd X b rb) {z : Z} {r : MV} {ρ' : Env} (R : Rel X.K z) (e1 : evInT neg ra rb z.ρ = some (r, ρ')) {Q : VK} (q : ∀ u z' T, Stp X.K z z' → z'.ρ = ρ' → z'.σ = z.σ → Tmp X.K z z' r u T → Q u z'.H) :
    RunsE X a z.σ z.H fun u1 H1 => RunsE X b z.σ H1 fun u2 H2 => ∃ a o, u2 = .ref a ∧ DGet H2 a u1 o ∧ Q (.bl (o.isSome != neg)) H2 := by
  obtain ⟨⟨k, ρ1⟩, h1, e2⟩ := bind_some (show (keyE ra z.ρ).bind _ = some _ from e1)
  obtain ⟨x, h2, e3⟩ := bind_some e2
  dsimp only at e3
  split at e3
  rotate_left
  · cases e3
  rename_i hf
  cases e3
  refine key_ok ha R h1 fun u1 z1 s1 er1 es1 k1 => ?_
  rw [← es1]
  refine hb.q z1 x s1.rel (by rw [er1]; exact h2) _ fun u2 z2 p2 er2 es2 k2 => ?_
  obtain ⟨a0, o, e4, g, hh⟩ := dget_ok k2 (k1.fr s1.rel p2.fr) hf
  refine ⟨a0, o, e4, g, ?_⟩
  have eo : o.isSome = (ixMV x.m k).isSome := by
    rcases hh with ⟨g1, g2⟩ | ⟨n, c, v, g1, _, g2, _⟩ <;> rw [g1, g2] <;> rfl
  rw [eo]
  have p3 := s1.pend R p2
  exact q _ (z2.setR (unl x.ls z2.ρ)) [] (p3.close z2 (Stp.refl p2.rel)) (by show unl x.ls z2.ρ = _; rw [er2]) (es2.trans es1) (Tmp.ofRep (.bl _))
theorem inT_snd {neg : Bool} (hu : X.A.units + 1 < cLine) (hm : behindInMarks (if neg then .NotIn else .In) b = false) (ha : Snd X a ra) (hb : Snd X b rb) : Snd X (.Compare a [if neg then .NotIn else .In] [b] pos) (ofV (evInT neg ra rb)) := by
  have hv : SndV X (.Compare a [if neg then .NotIn else .In] [b] pos) (evInT neg ra rb) := fun z r ρ' R e1 Q q => PE.rn (pe_cmpR (op_din hu neg) pr pr hm) (inT_core ha hb R e1 q)
  refine ⟨hv, hv.toP, fun z b' ρ' R e1 Q q => ?_, fun h => (by cases h), sndQ0, sndK0⟩
  obtain ⟨⟨r, ρ0⟩, e0, e6⟩ := bind_some (show (evInT neg ra rb z.ρ).bind _ = some _ from e1)
  obtain ⟨b2, e7, e8⟩ := bind_some e6
  cases e8
  refine PT.rn (pt_cmpR (op_din hu neg) pr pr hm) (inT_core (Q := fun x H' => ∃ k, x = .bl k ∧ Q k H') ha hb R e0 fun u z' T s er es t => ?_)
  obtain ⟨bb, rfl⟩ : ∃ bb, r = .val (.bool bb) := by
    obtain ⟨k, h1, e2⟩ := bind_some (show (keyE ra z.ρ).bind _ = some _ from e0)
    obtain ⟨x, h2, e3⟩ := bind_some e2
    split at e3
    · cases e3; exact ⟨_, rfl⟩
    · cases e3
  have hr := t.froze
  have e9 : bb = b' := Option.some.inj e7
  subst e9
  exact ⟨bb, hr.blv, q (z'.drop T) (s.drop R t) er es⟩
/-- a method without arguments -/
theorem mop0_v {op : MOp} {e0 : Expr} (ha : Snd X a ra) (hb : ∀ {σ : L2.St} {H : Hp} {Q : VK}, RunsE X a σ H (fun x H1 => tyV X.K "list" x H1 ∧ mopRel op x [] H1 Q) → RunsE X e0 σ H Q) : SndV X e0 (evMop op ra []) := by
  intro z r ρ' R e1 Q q
  obtain ⟨x, h1, e2⟩ := bind_some (show (ra.q z.ρ).bind _ = some _ from e1)
  obtain ⟨⟨ms, ρ2⟩, h2, e3⟩ := bind_some e2
  cases h2
  obtain ⟨⟨r', c'⟩, h3, e4⟩ := bind_some e3
  dsimp only at e4
  split at e4
  · cases e4
  rename_i hm
  obtain ⟨ρ3, h4, e5⟩ := bind_some e4
  cases e5
  refine hb (ha.q z x R h1 _ fun u z1 p1 er1 es1 k1 => ⟨?_, ?_⟩)
  · have bt := k1.bt
    obtain ⟨ms', em⟩ := mop_ty h3
    rw [em] at bt
    cases bt with | lst hH _ _ =>
    exact .inl ⟨rfl, _, SqL.of hH⟩
  · refine mop_core (T := []) R p1 (Stp.refl p1.rel) k1 ⟨.nil, List.nodup_nil, fun _ h => (nomatch h), fun _ h => (nomatch h)⟩ (by simpa using hm) h3 (by rw [er1]; exact h4) fun y zf Tf st e6 e7 t7 => ?_
    exact q y zf Tf st e6 (e7.trans es1) t7
/-! ### {i: j, ..} of names, d.get(k, x) -/
theorem int_at {z : Z} (R : Rel X.K z) {i : Nat} {n : Int} (h : intAt z.ρ i = some n) : z.σ[i]? = some (some (.int n)) := by
  unfold intAt at h
  split at h
  · rename_i m h0
    cases h
    obtain ⟨o, eo, ro⟩ := R.slot i _ h0
    generalize z.TS i = T at ro
    cases ro with | own r => cases r with | val r =>
    have e := r.intv
    subst e
    exact eo
  · cases h
def NmR (X : Cx) (e : Expr) (i : Nat) : Prop := ∀ (z : Z) (n : Int), Rel X.K z → intAt z.ρ i = some n → ∀ Q : VK, Q (.int n) z.H → RunsE X e z.σ z.H Q
theorem nmR_of {i : Nat} {x : Str} {pos : Pos} (hN : X.N[i]? = some x) (hv : Vis X.env.scope x) (hd : (x == ("__debug__" : Str)) = false) (hcd : (x == ("__classdict__" : Str)) = false) : NmR X (.Name x pos) i :=
  fun z n R h Q q => PE.rn (pe_var hN hv hd hcd) ⟨_, int_at R h, q⟩
def trsV (X : Cx) : List (Option Expr) → List Expr → List (TE × TE)
  | some k :: ks, v :: vs => (RunsE X k, RunsE X v) :: trsV X ks vs
  | _, _ => []
inductive NmL (X : Cx) : List (Option Expr) → List Expr → List (Nat × Nat) → Prop
  | nil : NmL X [] [] []
  | cons {k v : Expr} {i j : Nat} {ks : List (Option Expr)} {vs : List Expr} {r : List (Nat × Nat)} : NmR X k i → NmR X v j → NmL X ks vs r → NmL X (some k :: ks) (v :: vs) ((i, j) :: r)
theorem NmL.pps {pos : Pos} : ∀ {keys : List (Option Expr)} {vals : List Expr} {kvs : List (Nat × Nat)}, NmL X keys vals kvs → PPs X pos keys vals (trsV X keys vals) ∧ keys.all (·.isSome) = true ∧ keys.length = vals.length ∧ keys.length = kvs.length
  | _, _, _, .nil => ⟨pps_nil, rfl, rfl, rfl⟩
  | _, _, _, .cons hk hv t => by
    obtain ⟨a, b, c, d⟩ := NmL.pps (pos := pos) t
    exact ⟨pps_cons pr pr a, by simpa using b, by simp [c], by simp [d]⟩
theorem pairsV_ok : ∀ {keys : List (Option Expr)} {vals : List Expr} {kvs : List (Nat × Nat)}, NmL X keys vals kvs → ∀ (z : Z), Rel X.K z → ∀ {ps : List (Int × Int)}, pairsV z.ρ kvs = some ps → ∀ Q : List (V × V) → Hp → Prop, Q (ps.map fun p => (V.int p.1, V.int p.2)) z.H → tPairs (trsV X keys vals) z.σ z.H Q
  | _, _, _, .nil, z, R, ps, h, Q, q => by cases h; exact q
  | _, _, _, .cons hk hv t, z, R, ps, h, Q, q => by
    obtain ⟨a, h1, e1⟩ := bind_some (show (intAt z.ρ _).bind _ = some _ from h)
    obtain ⟨b, h2, e2⟩ := bind_some e1
    obtain ⟨ps', h3, e3⟩ := bind_some e2
    cases e3
    exact hk z a R h1 _ (hv z b R h2 _ (pairsV_ok t z R h3 _ q))
def vI : D → V
  | .int n => .int n
  | _ => .non
theorem mer_ok : ∀ (ps : List (Int × Int)) (k0 : List Key) (d0 : List D), k0.length = d0.length → k0.Nodup → (∀ d ∈ d0, ∃ n, d = .int n) →
    mergeK (k0.zip (d0.map vI)) (ps.map fun p => (Sum.inl p.1, V.int p.2)) = (merI k0 d0 ps).1.zip ((merI k0 d0 ps).2.map vI) ∧ (merI k0 d0 ps).1.length = (merI k0 d0 ps).2.length ∧ (merI k0 d0 ps).1.Nodup ∧ ∀ d ∈ (merI k0 d0 ps).2, ∃ n, d = .int n
  | [], k0, d0, h, nd, hd => ⟨rfl, h, nd, hd⟩
  | (a, b) :: r, k0, d0, h, nd, hd => by
    have e : mergeK (k0.zip (d0.map vI)) (((a, b) :: r).map fun p => (Sum.inl p.1, V.int p.2)) = mergeK (L2.putK (k0.zip (d0.map vI)) (.inl a) (.int b)) (r.map fun p => (Sum.inl p.1, V.int p.2)) := rfl
    rw [e, putK_zip (by simpa using h) nd]
    unfold merI
    cases hp : posOf (Sum.inl a) k0 with
    | some n =>
      have e2 : (d0.map vI).set n (V.int b) = (d0.set n (PyData.int b)).map vI := by rw [List.map_set]; rfl
      dsimp only
      rw [e2]
      exact mer_ok r k0 (d0.set n (.int b)) (by simpa using h) nd fun d hm => by
        rcases List.mem_or_eq_of_mem_set hm with g | g
        · exact hd d g
        · exact ⟨b, g⟩
    | none =>
      have e2 : d0.map vI ++ [V.int b] = (d0 ++ [PyData.int b]).map vI := by simp [vI]
      dsimp only
      rw [e2]
      have hk : (Sum.inl a : Key) ∉ k0 := fun hm => by
        have : ∀ {ks : List Key}, (Sum.inl a : Key) ∈ ks → posOf (Sum.inl a) ks ≠ none := by
          intro ks
          induction ks with
          | nil => intro h; simp at h
          | cons x xs ih =>
            intro h
            unfold posOf
            split
            · simp
            · rename_i hx
              rcases List.mem_cons.mp h with g | g
              · exact absurd g.symm hx
              · simpa using ih g
        exact this hm hp
      exact mer_ok r (k0 ++ [.inl a]) (d0 ++ [.int b]) (by simp [h]) (List.nodup_append.mpr ⟨nd, by simp, fun x hx y hy e => hk (by rw [List.mem_singleton.mp hy] at e; rw [← e]; exact hx)⟩) fun d hm => by
        rcases List.mem_append.mp hm with g | g
        · exact hd d g
        · exact ⟨b, List.mem_singleton.mp g⟩
theorem owns_ints {K : PySem.W.Frag} {A : AP} {H : Hp} : ∀ {ds : List D}, (∀ d ∈ ds, ∃ n, d = .int n) → Owns K A H (ds.map .val) (ds.map vI) []
  | [], _ => .nil
  | d :: ds, h => by
    obtain ⟨n, rfl⟩ := h d List.mem_cons_self
    exact .cons (T := []) (T' := []) (.val (.int n)) (owns_ints fun d hd => h d (List.mem_cons_of_mem _ hd))
theorem dctV_v {keys : List (Option Expr)} {vals : List Expr} {kvs : List (Nat × Nat)} (hl : NmL X keys vals kvs) (hne : kvs ≠ []) (h15 : kvs.length ≤ 15) : SndV X (.Dict keys vals pos) (evDctV kvs) := by
  intro z r ρ' R e1 Q q
  obtain ⟨ps, h1, e2⟩ := bind_some (show (pairsV z.ρ kvs).bind _ = some _ from e1)
  split at e2
  rotate_left
  · cases e2
  rename_i hc
  cases e2
  obtain ⟨hp, ha, hk1, hk2⟩ := hl.pps (pos := pos)
  refine PE.rn (pe_disp hp ha hk1 (fun e => hne (List.length_eq_zero_iff.mp (by rw [← hk2, e]; rfl))) (by rw [hk2]; exact h15)) fun p hp => ?_
  have sl := lay_ok (A := fun a => z.A a ∨ a = p) (o := .dK []) R hp (fun a q => q) fun a q => .inl q
  obtain ⟨m1, m2, m3, m4⟩ := mer_ok ps [] [] rfl List.nodup_nil fun d hd => (nomatch hd)
  refine pairsV_ok hl (z.lay (fun a => z.A a ∨ a = p) p (.dK [])) sl.rel h1 _ ⟨upd_same, ps.map (fun p => (Sum.inl p.1, V.int p.2)), by simp [kV], by simpa using hc, ?_⟩
  have m1 : mergeK [] (ps.map fun p => (Sum.inl p.1, V.int p.2)) = _ := m1
  rw [m1]
  have npT : ∀ i, p ∉ (z.lay (fun a => z.A a ∨ a = p) p (.dK [])).TS i := fun i hi => notA R hp (R.subT i p hi)
  have st := tmp_upd R sl hp (by show upd z.H p _ p ≠ none; rw [upd_same]; simp) npT (.inr rfl) (.dK ((merI [] [] ps).1.zip ((merI [] [] ps).2.map vI)))
  refine q (.ref p) _ [p] st rfl rfl ⟨.nd upd_same ⟨by simpa using m2, m3, rfl⟩ (.inr rfl) (owns_ints m4), by simp, fun w hw i g => ?_, fun w hw => .inr (by rw [List.mem_singleton.mp hw]; exact hp)⟩
  rw [List.mem_singleton.mp hw] at g
  exact npT i g
theorem isD_ok {z : Z} {x : Plc} {u1 : V} {k : DKey} (h : PlR X.K z x u1) (hf : keyFor x.m k = true) : ∃ a, u1 = .ref a ∧ IsD z.H a := by
  have bt := h.bt
  unfold keyFor at hf
  split at hf
  case h_1 ks ms k hm =>
    rw [hm] at bt
    cases bt with | @nd _ a o xs _ ha no _ bs =>
    obtain ⟨hl, nd, eo⟩ := no
    subst eo
    exact ⟨a, rfl, .inl ⟨_, .inl ha⟩⟩
  case h_2 ks ms k hm =>
    rw [hm] at bt
    cases bt with | @nd _ a o xs _ ha no _ bs =>
    obtain ⟨hl, nd, eo⟩ := no
    subst eo
    exact ⟨a, rfl, .inr ⟨_, .inl ha⟩⟩
  case h_3 => cases hf
/-- d.get(k, x) -/
theorem getT_v {ap cp : Pos} (hu : X.A.units + 1 < cLine) (ha : Snd X a ra) (hb : Snd X b rb) (hc : Snd X c rc) (m : M2 X a "get" ap b c cp) : SndV X (.Call (.Attribute a "get" ap) [b, c] [] cp) (evGetT ra rb rc) := by
  intro z r ρ' R e1 Q q
  obtain ⟨x, h1, e2⟩ := bind_some (show (ra.q z.ρ).bind _ = some _ from e1)
  obtain ⟨⟨k, ρ2⟩, h2, e3⟩ := bind_some e2
  obtain ⟨⟨w, ρ3⟩, h3, e4⟩ := bind_some e3
  dsimp only at e4
  split at e4
  rotate_left
  · cases e4
  rename_i hf
  refine PE.rn (pe_dget2 hu pr pr pr m) (ha.q z x R h1 _ fun u1 z1 p1 er1 es1 k1 => ?_)
  obtain ⟨a0, ea, hd⟩ := isD_ok k1 hf
  refine ⟨a0, ea, hd, ?_⟩
  rw [← es1]
  refine key_ok hb p1.rel (by rw [er1]; exact h2) fun u2 z2 s2 er2 es2 k2 => ?_
  rw [← es2]
  refine hc.v z2 w ρ3 s2.rel (by rw [er2]; exact h3) _ fun u3 z3 T s3 er3 es3 t3 => ?_
  have s4 := s3.drop s2.rel t3
  obtain ⟨a1, o, e5, g, hh⟩ := dget_ok ((k1.stp p1.rel s2).stp s2.rel s4) (k2.fr s2.rel s4.fr) hf
  obtain rfl : a1 = a0 := by rw [ea] at e5; cases e5; rfl
  refine ⟨o, g, ?_⟩
  have P := (p1.step R s2).step R s4
  have hr := t3.froze
  rcases hh with ⟨g1, g2⟩ | ⟨n, c0, v, g1, g3, g2, g4⟩
  · rw [g1] at e4
    dsimp only at e4
    split at e4
    · rename_i hfl
      cases e4
      subst g2
      exact q u3 ((z3.drop T).setR (unl x.ls (z3.drop T).ρ)) [] (P.close (z3.drop T) (Stp.refl P.rel)) (by show unl x.ls z3.ρ = _; rw [er3]) (es3.trans (es2.trans es1)) (Tmp.ofRep (Rep.flat hfl hr))
    · cases e4
  · rw [g1] at e4
    dsimp only at e4
    rw [g3] at e4
    cases c0 with
    | val d =>
      cases e4
      subst g2
      cases g4 with | val rp =>
      exact q v ((z3.drop T).setR (unl x.ls (z3.drop T).ρ)) [] (P.close (z3.drop T) (Stp.refl P.rel)) (by show unl x.ls z3.ρ = _; rw [er3]) (es3.trans (es2.trans es1)) (Tmp.ofRep rp)
    | lst _ => cases e4
    | nd _ _ => cases e4
end
end Q
set_option maxHeartbeats 1000000
namespace Q
open PySem L2 PyProof.Rows
section
variable {K : PySem.W.Frag} {A : AP} {H : Hp}
theorem Owns.steps {a : Addr} {o : HO} (hA : A a) {ms : List MV} {xs : List V} {T : List Addr} (ha : a ∉ T) (r : Owns K A H ms xs T) : Owns K A (upd H a o) ms xs T :=
  r.step (fun c o e n => by rw [upd_ne (show c ≠ a from fun w => n (by rw [w]; exact hA))]; exact e) (fun c w => .inl w) fun c hc => ⟨fun o e => by rw [upd_ne (show c ≠ a from fun w => ha (by rw [← w]; exact hc))]; exact e, (r.sub c hc).1⟩
/-- a part of a row exchanged, in the same heap -/
theorem Owns.swap {ms : List MV} {xs : List V} {T T' : List Addr} {n : Nat} {m r : MV} {v : V} (o : Owns K A H ms xs T) (e : ms[n]? = some m) (ow : Own K A H r v T') (nd : T.Nodup) (nd' : T'.Nodup) (dj : ∀ w ∈ T', w ∉ T) :
    ∃ T2, Owns K A H (ms.set n r) (xs.set n v) T2 ∧ T2.Nodup ∧ ∀ w ∈ T2, w ∈ T ∨ w ∈ T' := by
  have hn : n < xs.length := by rw [o.length]; exact (List.getElem?_eq_some_iff.mp e).1
  obtain ⟨T1, Tm, T2, eT, om, go⟩ := o.split e (List.getElem?_eq_getElem hn)
  subst eT
  have h1 := List.nodup_append.mp nd
  have h2 := List.nodup_append.mp h1.2.1
  refine ⟨T1 ++ (T' ++ T2), go A H r v T' (fun _ _ e _ => e) (fun _ h => .inl h) (fun b hb => ⟨fun _ e => e, (o.sub b (by simp only [List.mem_append] at hb ⊢; rcases hb with g | g; exact .inl g; exact .inr (.inr g))).1⟩) ow, ?_, fun w hw => ?_⟩
  · refine List.nodup_append.mpr ⟨h1.1, List.nodup_append.mpr ⟨nd', h2.2.1, fun x hx y hy e => dj x hx (by rw [e]; simp [hy])⟩, fun x hx y hy e => ?_⟩
    rcases List.mem_append.mp hy with g | g
    · exact dj y g (by rw [← e]; simp [hx])
    · exact h1.2.2 x hx y (by simp [g]) e
  · simp only [List.mem_append] at hw ⊢
    rcases hw with g | g | g
    · exact .inl (.inl g)
    · exact .inr g
    · exact .inl (.inr (.inr g))
end
def rSetA : V → V → V → Hp → (Hp → Prop) → Prop := fun o i v H Q => rSetL o i v H Q ∨ rSetD o i v H Q
theorem set_any {X : Cx} (hu : X.A.units + 1 < cLine) : PSet X rSetA := by
  intro pins s σ H o i v ov iv u Q I ro ri rv h
  rcases h with h | h
  · exact set_list pins s σ H o i v ov iv u Q I ro ri rv h
  · exact set_dict hu pins s σ H o i v ov iv u Q I ro ri rv h
section
variable {K : PySem.W.Frag} {z z' z2 : Z}
/-- the node at a place gets other parts -/
theorem node_core {x : Plc} {u : V} {m' : MV} {T : List Addr} {ρ2 : Env} {Q : Hp → Prop} (R : Rel K z) (p : Pend K x.ls z z') (s : Stp K z' z2) (pl : PlR K z2 x u) (nd : T.Nodup) (ap : ∀ b ∈ T, ∀ i, b ∉ z2.TS i) (new : ∀ b ∈ T, z.S b ∨ z.H b = none)
    (hm : x.ls.isEmpty = false) (tr : isTree x.m = true) (hp : putPl x.i x.w m' (unl x.ls z2.ρ) = some ρ2) (q : ∀ zf, Stp K z zf → zf.ρ = ρ2 → zf.σ = z2.σ → Q zf.H) :
    ∃ a T0, u = .ref a ∧ Own K z2.A z2.H x.m (.ref a) (a :: T0) ∧ (a :: T0).Nodup ∧ z2.A a ∧ (∀ w ∈ T, w ∉ a :: T0) ∧
      ∀ (o : HO) (T0' : List Addr), Own K z2.A (upd z2.H a o) m' (.ref a) (a :: T0') → T0'.Nodup → (∀ w ∈ T0', w ∈ T0 ∨ w ∈ T) → Q (upd z2.H a o) := by
  obtain ⟨a, b, m0, Tc, rfl, els, e3, oc, ha, ndc, sub, tsn, fin⟩ := upd_place R p s pl hm tr
  obtain ⟨T0, rfl⟩ : ∃ T0, Tc = a :: T0 := by
    cases hx : x.m with
    | val d => rw [hx] at tr; cases tr
    | lst ms => rw [hx] at oc; cases oc; exact ⟨_, rfl⟩
    | nd k ms => rw [hx] at oc; cases oc; exact ⟨_, rfl⟩
  have dj : ∀ w ∈ T, w ∉ a :: T0 := fun w hw h2 => ap w hw x.i (sub w h2)
  have n1 := List.nodup_cons.mp ndc
  refine ⟨a, T0, rfl, oc, ndc, (oc.sub a List.mem_cons_self).1, dj, fun o T0' o1 nd' mem' => ?_⟩
  have na : a ∉ T0' := fun g => by
    rcases mem' a g with g | g
    · exact n1.1 g
    · exact dj a g List.mem_cons_self
  obtain ⟨m2, T', e5, mem5, st⟩ := fin o m' (a :: T0') o1 (List.nodup_cons.mpr ⟨na, nd'⟩) fun w hw => by
    rcases List.mem_cons.mp hw with rfl | hw
    · exact .inl List.mem_cons_self
    · rcases mem' w hw with g | g
      · exact .inl (List.mem_cons_of_mem _ g)
      · exact .inr ⟨ap w g, new w g⟩
  exact q _ st (putPl_ok e3 hp e5).symm rfl
theorem put_core {x : Plc} {u uk v : V} {k : DKey} {r m' : MV} {T : List Addr} {ρ2 : Env} {Q : Hp → Prop} (R : Rel K z) (p : Pend K x.ls z z') (s : Stp K z' z2) (pl : PlR K z2 x u) (hk : KeyR z2 k uk) (ow : Own K z2.A z2.H r v T) (nd : T.Nodup) (ap : ∀ b ∈ T, ∀ i, b ∉ z2.TS i) (new : ∀ b ∈ T, z.S b ∨ z.H b = none)
    (hm : x.ls.isEmpty = false) (h : putMV x.m k r = some m') (hp : putPl x.i x.w m' (unl x.ls z2.ρ) = some ρ2) (q : ∀ zf, Stp K z zf → zf.ρ = ρ2 → zf.σ = z2.σ → Q zf.H) : rSetA u uk v z2.H Q := by
  have tr : isTree x.m = true := by
    unfold putMV at h
    split at h <;> first | (rename_i e; rw [e]; rfl) | (rename_i e _; rw [e]; rfl) | cases h
  obtain ⟨a, T0, rfl, oc, ndc, hA, dj, fin⟩ := node_core R p s pl nd ap new hm tr hp q
  have n1 := List.nodup_cons.mp ndc
  have dj0 : ∀ w ∈ T, w ∉ T0 := fun w hw g => dj w hw (List.mem_cons_of_mem _ g)
  have na : a ∉ T := fun g => dj a g List.mem_cons_self
  have nn : ∀ {T0' : List Addr}, (∀ w ∈ T0', w ∈ T0 ∨ w ∈ T) → a ∉ T0' := fun mem g => by
    rcases mem a g with g | g
    · exact n1.1 g
    · exact na g
  -- a dict of either kind
  have dic : ∀ {κ : Type} [DecidableEq κ] {f : List κ → Kind} {g : List (κ × V) → HO} {ks : List κ} {ms : List MV} {xs : List V} {k : κ}, (∀ ks xs, ks.length = xs.length → ks.Nodup → NodeO K (f ks) xs (g (ks.zip xs))) → ks.length = xs.length → ks.Nodup → Owns K z2.A z2.H ms xs T0 → putK f ks ms k r = some m' → Q (upd z2.H a (g (L2.putK (ks.zip xs) k v))) := by
    intro κ _ f g ks ms xs k no hl ndk om hpk
    unfold putK at hpk
    split at hpk
    rotate_left
    · cases hpk
    rw [putK_zip hl ndk]
    cases e : posOf k ks with
    | some n =>
      rw [e] at hpk
      cases hpk
      have hn : n < ms.length := by
        have := (List.getElem?_eq_some_iff.mp (posOf_some e)).1
        rw [← om.length]; omega
      obtain ⟨T2, o2, nd2, mem2⟩ := om.swap (List.getElem?_eq_getElem hn) ow n1.2 nd dj0
      exact fin _ T2 (.nd upd_same (no _ _ (by rw [List.length_set]; exact hl) ndk) hA (o2.steps hA (nn mem2))) nd2 mem2
    | none =>
      rw [e] at hpk
      cases hpk
      have mem2 : ∀ w ∈ T0 ++ (T ++ []), w ∈ T0 ∨ w ∈ T := fun w hw => by simpa using hw
      have nd2 : (T0 ++ (T ++ [])).Nodup := List.nodup_append.mpr ⟨n1.2, by simpa using nd, fun x hx y hy e => dj0 y (by simpa using hy) (by rw [← e]; exact hx)⟩
      have o2 : Owns K z2.A z2.H (ms ++ [r]) (xs ++ [v]) (T0 ++ (T ++ [])) := Owns.append om (.cons ow .nil)
      refine fin _ (T0 ++ (T ++ [])) (.nd upd_same (no _ _ (by simp [hl]) ?_) hA (o2.steps hA (nn mem2))) nd2 mem2
      exact List.nodup_append.mpr ⟨ndk, by simp, fun x hx y hy e2 => posOf_none e (by rw [← List.mem_singleton.mp hy, ← e2]; exact hx)⟩
  have small : ∀ {κ : Type} [DecidableEq κ] {f : List κ → Kind} {ks : List κ} {ms : List MV} {k : κ} {xs : List V}, putK f ks ms k r = some m' → (ks.zip xs).length < sizeLine := by
    intro κ _ f ks ms k xs hpk
    unfold putK at hpk
    split at hpk
    · rename_i hl
      rw [List.length_zip]; exact Nat.lt_of_le_of_lt (Nat.min_le_left _ _) hl
    · cases hpk
  unfold putMV at h
  split at h
  case h_1 ms i em =>
    obtain ⟨n, hn, e⟩ := bind_some h
    cases e
    rw [em] at oc
    cases oc with | lst hH _ om =>
    have hl := om.length
    obtain ⟨k1, k2, k3, k4⟩ := ixN_seq hn
    obtain ⟨T2, o2, nd2, mem2⟩ := om.swap (List.getElem?_eq_getElem k2) ow n1.2 nd dj0
    have hk : uk = .int i := hk
    exact .inl ⟨a, _, i, n, rfl, hk, hH, by rw [hl]; exact hn, fin _ T2 (.lst upd_same hA (o2.steps hA (nn mem2))) nd2 mem2⟩
  case h_2 ks ms k em =>
    rw [em] at oc
    cases oc with | nd hH no _ om =>
    obtain ⟨hl, ndk, eo⟩ := no
    subst eo
    obtain ⟨b, rfl, hb, _⟩ := hk
    exact .inr ⟨a, _, rfl, DPut.t hH hb (small h), dic (f := .dT) (g := .dT) (fun ks xs h1 h2 => ⟨h1, h2, rfl⟩) hl ndk om h⟩
  case h_3 ks ms k em =>
    rw [em] at oc
    cases oc with | nd hH no _ om =>
    obtain ⟨hl, ndk, eo⟩ := no
    subst eo
    have hk : uk = kV k := hk
    subst hk
    exact .inr ⟨a, _, rfl, DPut.k hH (small h), dic (f := .dK) (g := .dK) (fun ks xs h1 h2 => ⟨h1, h2, rfl⟩) hl ndk om h⟩
  case h_4 => cases h
end
end Q
set_option maxHeartbeats 3200000
namespace L2
open PySem PySem.Spec PyProof.Rows
/-- an empty set's object -/
abbrev emptyS (w : World) : Obj := { cls := .type "set", dict := none, data := .set #[] 0 (.fresh 0 0 (!w.params.followText "set-order")) }
section
variable {P : Program} {w : World} {A : Around} {E : Value → Shared → Prop} {s : Shared}
/-- set(a list of ints): its members, known by their order too -/
theorem setOfList {l : Addr} {items : Array Value} (ns : List Int) {Q : Value → Shared → Prop} (hd : A.handled = none) (hl : s.heap.IsList l items) (hi : IntsAre items.toList ns) (hb : ns.length + 1 < scanBound)
    (fin : ∀ (h' : Heap) (tk c : Nat), SetR w h' s.heap.objs.size (fun j => decide (j ∈ ns)) c → c ≤ ns.length → (∀ b o, s.heap.get? b = some o → h'.get? b = some o) → Q (.ref s.heap.objs.size) { s with heap := h', toks := tk }) : wpAny (model P w) A (call (.type "set") [.ref l]) Q E s := by
  have len : items.size = ns.length := by have q := IntsAre.length hi; rw [Array.length_toList] at q; exact q
  obtain ⟨c, tl, hmro⟩ := F.called_set.mro
  have m1 := F.called_set.made; have m2 := F.called_set.sub
  refine wpAny_call (codeAny_of_tree ?_); show wpAny _ _ (callAny (.type "set") _) _ _ _
  refine wpAny_pure ⟨Code.quiet_builtin _ (by decide +kernel), codeAny_builtin F.entry_type_call ?_⟩; rw [Around.under_plain (weight_type_call_type "set" [.ref l] []) rfl]
  have m3 := F.called_set.notType; have m4 := F.called_set.canCreate; have m5 := F.typeCall_set_1 (.ref l)
  repeat (any_goals (first | assumption | wp_step))
  refine codeAny_mono (code_set_led1 (.ref l) (E := E) (Q₁ := fun v s₁ => v = .ref s.heap.objs.size ∧ s₁ = { s with heap := s.heap.push (emptyS w) }) ⟨rfl, rfl⟩) fun r s₁ hr => ?_
  cases r with
  | error e => exact hr
  | ok fl =>
    cases fl with
    | ret v =>
      obtain ⟨rfl, rfl⟩ := hr
      have g0 : (s.heap.push (emptyS w)).get? s.heap.objs.size = some (emptyS w) := Heap.get?_push_size _ rfl
      have ty : Shared.TypeIs { s with heap := s.heap.push (emptyS w) } (.ref s.heap.objs.size) "set" := ⟨_, g0, rfl⟩
      have i1 := F.called_set.init.lookup; have i2 := F.called_set.init.bind (.ref s.heap.objs.size)
      repeat (any_goals (first | assumption | wp_step))
      refine codeAny_mono (codeAny_call_builtin (R := wants (fun r s₂ => r = .none ∧ ∃ h' tk c, s₂ = { s with heap := h', toks := tk } ∧ SetR w h' s.heap.objs.size (fun j => decide (j ∈ ns)) c ∧ c ≤ ns.length ∧ (∀ b o, s.heap.get? b = some o → h'.get? b = some o)) E) F.called_set.init.plain F.entry_set_init (check_set_init_1 ty ?_)) fun r₂ s₂ hr₂ => ?_
      · obtain ⟨ol, hol, hcl, nl, hdl⟩ := hl
        obtain ⟨ocls, odict, odata, oslots⟩ := ol
        simp only at hcl hdl; subst hcl; subst hdl
        have hol' : (s.heap.push (emptyS w)).get? l = some { cls := .type "list", dict := odict, data := .seq items nl, slots := oslots } := Heap.get?_push_of_some _ hol
        have k1 := F.sub_list_set; have k2 := F.sub_list_frozenset
        have k3 : (Value.type "list" == Value.type "dict") = false := by decide
        have ll : (s.heap.push (emptyS w)).IsList l items := ⟨_, hol', rfl, nl, rfl⟩
        unfold Builtin.«set.__init__» noKeywords Builtin.Frozenset.updateFrom; generalize hPI : pyIter = PI; wp_walk; subst hPI
        refine wpAny_pyIter_list ll ?_; refine wpAny_bind (wpAny_runValue ?_)
        have lt : l < s.heap.objs.size := Heap.lt_size hol
        have hd3 : A.in1.in1.in1.handled = none := by simp [hd]
        have ne1 : l ≠ (s.heap.push (emptyS w)).objs.size := by rw [Heap.size_push]; exact Nat.ne_of_lt (Nat.lt_succ_of_lt lt)
        have ne2 : s.heap.objs.size ∉ [(s.heap.push (emptyS w)).objs.size, l] := by
          rw [Heap.size_push]; simp only [List.mem_cons, List.mem_singleton, List.not_mem_nil, or_false, not_or]; exact ⟨Nat.ne_of_lt (Nat.lt_succ_self _), Nat.ne_of_gt lt⟩
        have val : ∀ (i : Nat) (v : Value), items[i]? = some v → ∃ k t, ns[i]? = some k ∧ v = .int k t := fun i v hv => by
          have hi' : i < ns.length := by rw [← len]; exact (Array.getElem?_eq_some_iff.mp hv).1
          obtain ⟨t, e⟩ := PyProof.Rows.IntsAre.int_at hi i v (by rw [Array.getElem?_toList]; exact hv)
          refine ⟨ns[i], t, List.getElem?_eq_getElem hi', ?_⟩
          rw [e, List.getD_eq_getElem?_getD, List.getElem?_eq_getElem hi'] <;> rfl
        refine set_update_ints ((Walks.list hd3 _ l ne1 items).toS) s.heap.objs.size ne2 ns len hb val (items.size - 0) 0 _ (by omega) (Nat.zero_le _) ⟨⟨_, Heap.get?_push_size _ rfl, rfl, rfl⟩, (ll.push _)⟩ ?a0 ?a1
        case a0 => exact ⟨0, Nat.le_refl 0, setR_new_at (Heap.get?_push_of_some _ g0)⟩
        case a1 =>
          intro s' c' hm hc' hS'
          obtain ⟨h', g2, d', tk', os'⟩ := s'
          have eg : g2 = s.gens := hm.gens; have ed : d' = s.drawn := hm.drawn; have eo : os' = s.os := hm.os
          subst eg; subst ed; subst eo
          show wpAny _ _ _ _ _ _; refine wpAny_pure ?_; show wpAny _ _ (ret Value.none) _ _ _
          rw [len] at hc'
          refine wpAny_pure ⟨rfl, h', tk', c', rfl, hS', hc', fun b o e => ?_⟩
          have b0 : b < s.heap.objs.size := Heap.lt_size e
          refine hm.heap b o ?_ (Heap.get?_push_of_some _ (Heap.get?_push_of_some _ e))
          rw [Heap.size_push]; simp only [List.mem_cons, List.mem_singleton, List.not_mem_nil, or_false, not_or]
          exact ⟨Nat.ne_of_lt b0, Nat.ne_of_lt (Nat.lt_succ_of_lt b0)⟩
      · cases r₂ with
        | error e => exact hr₂
        | ok fl₂ =>
          cases fl₂ with
          | ret r =>
            obtain ⟨rfl, h', tk, c', rfl, hS', hc', hk'⟩ := hr₂
            repeat (any_goals (first | assumption | wp_step))
            exact fin _ _ _ hS' hc' hk'
          | _ => exact hr₂.elim
    | _ => exact hr.elim
end
end L2
set_option maxHeartbeats 1000000
namespace Q
open PySem L2 PyProof.Rows
theorem insI_mem (n k : Int) : ∀ xs : List Int, k ∈ insI n xs ↔ k = n ∨ k ∈ xs
  | [] => by simp [insI]
  | x :: xs => by
    unfold insI
    split
    · simp
    · split
      · rename_i h; subst h; simp
      · simp only [List.mem_cons, insI_mem n k xs]
        constructor
        · rintro (h | h | h)
          · exact .inr (.inl h)
          · exact .inl h
          · exact .inr (.inr h)
        · rintro (h | h | h)
          · exact .inr (.inl h)
          · exact .inl h
          · exact .inr (.inr h)
theorem insI_up (n : Int) : ∀ xs : List Int, xs.Pairwise (· < ·) → (insI n xs).Pairwise (· < ·)
  | [], _ => by simp [insI]
  | x :: xs, h => by
    have h' := List.pairwise_cons.mp h
    unfold insI
    split
    · rename_i hx
      refine List.pairwise_cons.mpr ⟨fun y hy => ?_, h⟩
      rcases List.mem_cons.mp hy with rfl | hy
      · exact hx
      · exact Int.lt_trans hx (h'.1 y hy)
    · split
      · exact h
      · refine List.pairwise_cons.mpr ⟨fun y hy => ?_, insI_up n xs h'.2⟩
        rcases (insI_mem n y xs).mp hy with rfl | hy
        · omega
        · exact h'.1 y hy
theorem sset_mem (k : Int) : ∀ ns : List Int, k ∈ sset ns ↔ k ∈ ns
  | [] => by simp [sset]
  | n :: ns => by
    show k ∈ insI n (sset ns) ↔ _
    rw [insI_mem, sset_mem k ns, List.mem_cons]
theorem sset_up : ∀ ns : List Int, (sset ns).Pairwise (· < ·)
  | [] => List.Pairwise.nil
  | n :: ns => insI_up n _ (sset_up ns)
theorem up_nodup {xs : List Int} (h : xs.Pairwise (· < ·)) : xs.Nodup := h.imp fun h e => by omega
theorem perm_of_mem {xs ys : List Int} (h1 : xs.Nodup) (h2 : ys.Nodup) (h : ∀ k, k ∈ xs ↔ k ∈ ys) : xs.Perm ys := (List.perm_ext_iff_of_nodup h1 h2).mpr h
theorem sset_eq {xs ns : List Int} (h : xs.Pairwise (· < ·)) (hm : ∀ k, k ∈ xs ↔ k ∈ ns) : xs = sset ns :=
  up_unique (perm_of_mem (up_nodup h) (up_nodup (sset_up ns)) fun k => (hm k).trans (sset_mem k ns).symm) (h.imp fun h => by omega) ((sset_up ns).imp fun h => by omega)
section
variable {X : Cx}
/-- set(list of ints), tracked -/
def rSetOfL (K : PySem.W.Frag) (w : World) : List V → Hp → VK → Prop := fun vs H Q => ∃ (a : Addr) (ns : List Int), vs = [V.ref a] ∧ (SqL K H a (ns.map V.int) ∨ SqT K H a (ns.map V.int)) ∧ ns.length < 64 ∧
  ∀ p c, H p = none → c = (sset ns).length → Q (.ref p) (upd H p (SetO w p (fun j => decide (j ∈ ns)) c))
theorem setR_count {w : World} {h : Heap} {a : Addr} {ns : List Int} {c : Nat} (R : SetR w h a (fun j => decide (j ∈ ns)) c) : c = (sset ns).length := by
  obtain ⟨o, es, ep, t, _, _, _, _, nd, mem, _, _, hn, _⟩ := R
  have p := perm_of_mem nd (up_nodup (sset_up ns)) fun k => by rw [sset_mem, ← mem k]; exact decide_eq_true_iff
  have := p.length_eq
  rw [List.length_map, Array.length_toList, hn] at this
  exact this
theorem cr_setOfL (hc : X.calm = true) : CallR X (.type "set") (rSetOfL X.K X.w) := by
  intro pins s σ H vs us Q I r h
  obtain ⟨a, ns, rfl, hq, hl, q⟩ := h
  rw [Vals.ref1 r]
  have sb : (64 : Nat) < scanBound := by unfold scanBound; decide
  have done : ∀ (h' : Heap) (tk c : Nat), SetR X.w h' s.heap.objs.size (fun j => decide (j ∈ ns)) c → c ≤ ns.length → (∀ b o, s.heap.get? b = some o → h'.get? b = some o) → EP X pins σ Q (.ref s.heap.objs.size) { s with heap := h', toks := tk } := fun h' tk c R _ k =>
    ⟨.ref _, upd H s.heap.objs.size (SetO X.w s.heap.objs.size (fun j => decide (j ∈ ns)) c), I.laid (t' := tk) k (Nat.le_refl _) (setO_new R), rfl, q _ c (I.hok.fresh (Nat.le_refl _)) (setR_count R)⟩
  rcases hq with hq | hq
  · obtain ⟨its, rv, pl, hz⟩ := I.list hq
    exact setOfList ns (I.ok.hd hc) pl.isList (by simpa using RZ.intsAre_vals rv) (by omega) done
  · obtain ⟨its, rv, pl, hz⟩ := I.tuple hq
    exact call_set_tupI ns (I.ok.hd hc) pl (by simpa using RZ.intsAre_vals rv) (by omega) done
/-- len(set) -/
theorem cr_lenSet : CallR X (.builtin "len") (fun vs H Q => ∃ a S n, vs = [V.ref a] ∧ H a = some (SetO X.w a S n) ∧ n < 64 ∧ Q (.int (n : Nat)) H) := by
  intro pins s σ H vs us Q I r h
  obtain ⟨a, S, n, rfl, ha, hn, q⟩ := h
  rw [Vals.ref1 r]
  obtain ⟨o, es, ep, t, ho, hex, hd, _, _, _, _, hf, hs, _⟩ := setO_get I ha
  exact call_len_set ho hex hd hf (by rw [hs]; omega) ⟨.int (n : Nat), H, I.tok _, ⟨_, by rw [hs]⟩, q⟩
variable {a b : Expr} {ra rb : R3} {pos : Pos}
theorem insI_len (n : Int) : ∀ xs : List Int, (insI n xs).length ≤ xs.length + 1
  | [] => by simp [insI]
  | x :: xs => by
    unfold insI
    split
    · simp
    · split
      · simp
      · have := insI_len n xs
        simp; omega
theorem sset_len : ∀ ns : List Int, (sset ns).length ≤ ns.length
  | [] => by simp [sset]
  | n :: ns => by
    have h1 := insI_len n (sset ns)
    have h2 := sset_len ns
    show (insI n (sset ns)).length ≤ _
    simp; omega
/-- what is read of one argument -/
theorem ext1 {f : Ext} {z : Z} {r : MV} {ρ' : Env} (e1 : evExt f [ra] z.ρ = some (r, ρ')) : ∃ d fl ρ1 l1, ra.p z.ρ = some (d, fl, ρ1, l1) ∧ extR f [(d, fl)] = some r ∧ ρ' = unl l1 ρ1 := by
  obtain ⟨⟨ds, ρ1, ls⟩, h1, e2⟩ := bind_some (show (pks [ra] z.ρ).bind _ = some _ from e1)
  obtain ⟨r', h2, e3⟩ := bind_some e2
  cases e3
  obtain ⟨⟨d, fl, ρ0, l0⟩, h3, e4⟩ := bind_some (show (ra.p z.ρ).bind _ = some _ from h1)
  cases e4
  exact ⟨d, fl, ρ0, l0, h3, h2, by rw [List.append_nil]⟩
theorem sset_v {p p2 q : Pos} (hc : X.calm = true) (hn : notSt a = true) (ha : Snd X a ra) (hg1 : Gl X "sorted") (hm1 : X.mg "sorted" = none) (hg2 : Gl X "set") (hm2 : X.mg "set" = none) :
    SndV X (.Call (.Name "sorted" p) [.Call (.Name "set" p2) [a] [] q] [] pos) (evExt .sset [ra]) := by
  intro z r ρ' R e1 Q qq
  obtain ⟨d, fl, ρ1, l1, h1, h2, rfl⟩ := ext1 e1
  unfold extR at h2
  split at h2
  case h_1 xs _ hds =>
    cases hds
    obtain ⟨ns, h3, e3⟩ := bind_some h2
    split at e3
    · rename_i hl
      cases e3
      refine PE.rn (pe_callB (cr_sortedSet hc) hg1 hm1 (by decide +kernel) (pa_cons (pe_callTy (cr_setOfL hc) hg2 hm2 (by decide +kernel) (pa_cons pr pa_nil (notSt_ok hn _ _)) (by decide) (by decide) (notSt_ok hn _ _) rfl) pa_nil)) (ha.p z _ fl _ _ R h1 _ fun u z1 p1 er1 es1 k1 => ?_)
      obtain ⟨a0, us, rfl, q0, l0⟩ := k1.rdAny p1.rel.sub
      have e4 := ints_reps l0 h3
      subst e4
      refine ⟨a0, ns, rfl, .inl q0.sq, hl, fun b c hb ec => ⟨b, _, c, rfl, upd_same, by have := sset_len ns; omega, fun ns' b2 up mem _ hb2 => ?_⟩⟩
      have s1 := lay_ok (o := SetO X.w b (fun j => decide (j ∈ ns)) c) p1.rel hb (fun a q => .inl q) fun a q => q
      rw [sset_eq up fun k => (mem k).trans decide_eq_true_iff]
      have g : Gives X.K (z1.lay z1.A b (SetO X.w b (fun j => decide (j ∈ ns)) c)) (.lst (((sset ns).map PyData.int).map .val)) Q := fun v z' T' s' er' es' t' => by
        rw [show ((sset ns).map PyData.int).map MV.val = (sset ns).map fun i => MV.val (.int i) by rw [List.map_map]; rfl] at t'
        have sc := p1.close z' (s1.trans p1.rel s')
        refine qq v (z'.setR (unl l1 z'.ρ)) T' sc ?_ ?_ ⟨t'.own, t'.nd, t'.apart, fun w hw => ?_⟩
        · show unl l1 z'.ρ = _
          rw [er']; show unl l1 z1.ρ = _; rw [er1]
        · exact es'.trans es1
        · rcases t'.new w hw with g | g
          · exact p1.fr.newS w (s1.fr.newS w g |>.elim id fun h => absurd g (fun ⟨i, hi, _⟩ => by
              have := p1.rel.subT i w hi
              exact p1.rel.trk w this h))
          · exact .inr (p1.fr.there w (s1.fr.there w g))
      exact g.lst s1.rel (reps_int _) b2 hb2
    · cases e3
  all_goals (first | cases h2 | (rename_i hx _; cases hx) | (rename_i hx; cases hx) | skip)
end
end Q
set_option maxHeartbeats 1000000
namespace Q
open PySem L2 PyProof.Rows
section
variable {X : Cx} {a b c : Expr} {ra rb rc : R3} {pos : Pos}

/-! ### isinstance -/
/-- a built-in class by its name -/
theorem cls_pe (t : Ty) {p : Pos} (hg : Gl X (Str.ofString (tyName t))) (hm : X.mg (Str.ofString (tyName t)) = none) : PE X (.Name (Str.ofString (tyName t)) p) (tC (.ty (tyName t))) := by
  cases t with
  | int => exact pe_bltn (u := .type "int") hg hm (by decide +kernel) rfl
  | bool => exact pe_bltn (u := .type "bool") hg hm (by decide +kernel) rfl
  | str => exact pe_bltn (u := .type "str") hg hm (by decide +kernel) rfl
  | list => exact pe_bltn (u := .type "list") hg hm (by decide +kernel) rfl
  | tuple => exact pe_bltn (u := .type "tuple") hg hm (by decide +kernel) rfl
inductive ClsL (X : Cx) : List Ty → List Expr → Prop
  | nil : ClsL X [] []
  | cons {t : Ty} {p : Pos} {ts : List Ty} {es : List Expr} : Gl X (Str.ofString (tyName t)) → X.mg (Str.ofString (tyName t)) = none → ClsL X ts es → ClsL X (t :: ts) (.Name (Str.ofString (tyName t)) p :: es)
theorem cls_pa : ∀ {ts : List Ty} {es : List Expr}, ClsL X ts es → PA X es fun σ H Q => Q (ts.map fun t => V.ty (tyName t)) H
  | _, _, .nil => ⟨fun pos pins s σ H Q I h => PA.run pa_nil pos pins s σ H Q I h⟩
  | _, _, .cons hg hm t => ⟨fun pos pins s σ H Q I h => PA.run (pa_cons (cls_pe _ hg hm) (cls_pa t)) pos pins s σ H Q I h⟩
theorem isi_core {x : Str} {p : Pos} {t : Expr} {ts : List Ty} (ha : Snd X a ra) (hna : notSt a = true) (hnt : notSt t = true)
    (hcall : ∀ {r : List V → Hp → VK → Prop} {ta : TA}, CallR X (.builtin "isinstance") r → PA X [a, t] ta → PE X (.Call (.Name x p) [a, t] [] pos) (tCB r ta))
    (ht : (∃ (ty : Ty) (q : Pos), ts = [ty] ∧ t = .Name (Str.ofString (tyName ty)) q ∧ Gl X (Str.ofString (tyName ty)) ∧ X.mg (Str.ofString (tyName ty)) = none) ∨ ∃ es k q, t = .Tuple es k q ∧ ClsL X ts es ∧ ts.length ≤ 8) :
    Snd X (.Call (.Name x p) [a, t] [] pos) (ofV (evBlt (.isi ts) [ra])) := by
  refine SndV.snd (fun z r ρ' R e1 Q q => ?_) rfl
  obtain ⟨⟨ds, ρ1, ls⟩, h1, e2⟩ := bind_some (show (pks [ra] z.ρ).bind _ = some _ from e1)
  obtain ⟨r', h2, e3⟩ := bind_some e2
  have e3 : some (r', unl ls ρ1) = some (r, ρ') := e3
  obtain ⟨er0, eρ0⟩ := Prod.mk.inj (Option.some.inj e3)
  subst eρ0
  obtain ⟨⟨d, fl, ρ0, l0⟩, h3, e4⟩ := bind_some (show (ra.p z.ρ).bind _ = some _ from h1)
  cases e4
  have hnd : isDict d ≠ true := fun w => by
    have h2 : (if isDict d = true then none else some (MV.val (.bool (ts.any fun t => isTy t d)))) = some r' := h2
    rw [if_pos w] at h2; cases h2
  have h2 : (if isDict d = true then none else some (MV.val (.bool (ts.any fun t => isTy t d)))) = some r' := h2
  rw [if_neg hnd] at h2
  cases h2
  subst er0
  dsimp only at q
  rw [List.append_nil] at q
  have fin : ∀ (z1 : Z) (u : V), Pend X.K l0 z z1 → z1.ρ = ρ0 → z1.σ = z.σ → ∀ z2, Stp X.K z1 z2 → z2.ρ = z1.ρ → z2.σ = z1.σ → Q (.bl (ts.any fun t => isTy t d)) z2.H := fun z1 u p1 er1 es1 z2 s2 er2 es2 =>
    q _ (z2.setR (unl l0 z2.ρ)) [] (p1.close z2 s2) (by show unl l0 z2.ρ = _; rw [er2, er1]) (es2.trans es1) (Tmp.ofRep (.bl _))
  rcases ht with ⟨ty, qq, rfl, rfl, hg, hm⟩ | ⟨es, k, qq, rfl, hc, hlen⟩
  · refine PE.rn (hcall call_isi (pa_cons pr (pa_cons (cls_pe ty hg hm) pa_nil (notSt_ok hnt _ _)) (notSt_ok hna _ _))) (ha.p z d fl ρ0 l0 R h3 _ fun u z1 p1 er1 es1 k1 => ?_)
    refine ⟨u, .ty (tyName ty), .type (tyOfD d), .type (tyName ty), isTy ty d, rfl, .ty _, tyX_ok hnd (k1.any p1.rel), kit_ty (kit_all d ty), ?_⟩
    have := fin z1 u p1 er1 es1 z1 (Stp.refl p1.rel) rfl rfl
    rw [List.any_cons, List.any_nil, Bool.or_false] at this
    exact this
  · refine PE.rn (hcall call_isiT (pa_cons pr (pa_cons (pe_tup (cls_pa hc)) pa_nil (notSt_ok hnt _ _)) (notSt_ok hna _ _))) (ha.p z d fl ρ0 l0 R h3 _ fun u z1 p1 er1 es1 k1 => ?_)
    refine ⟨by rw [List.length_map]; exact Nat.le_trans hlen (by decide), fun tp hp => ?_⟩
    have s2 := lay_ok (o := .tup (ts.map fun t => V.ty (tyName t))) p1.rel hp (fun a q => .inl q) fun a q => q
    refine ⟨u, tp, _, .type (tyOfD d), _, ts.any fun t => isTy t d, rfl, upd_same, cls_paired ts, tyX_ok hnd (((k1.any p1.rel).frS s2.fr)), kit_any d ts, ?_⟩
    exact fin z1 u p1 er1 es1 (z1.lay z1.A tp (.tup (ts.map fun t => V.ty (tyName t)))) s2 rfl rfl
end
end Q
set_option maxHeartbeats 1000000
namespace Q
open PySem L2 PyProof.Rows

theorem ownS_cases {s : Slot} (h : (∃ m, s = .own m) ∨ ∃ m, s = .io m) : ∃ b m, s = ownS b m := by
  rcases h with ⟨m, rfl⟩ | ⟨m, rfl⟩
  · exact ⟨true, m, rfl⟩
  · exact ⟨false, m, rfl⟩
theorem fill_spec : ∀ (as : List Arg) (ρ sl : Env), fill as ρ = some sl → sl.length = as.length ∧ (∀ (k : Nat) s, as[k]? = some (Arg.slot s) → sl[k]? = some s) ∧
    (∀ (k i : Nat), as[k]? = some (Arg.place i) → ∃ b m, ρ[i]? = some (ownS b m) ∧ sl[k]? = some (Slot.io m)) ∧ (∀ (k k' i : Nat), as[k]? = some (Arg.place i) → as[k']? = some (Arg.place i) → k = k')
  | [], ρ, sl, h => by
    cases h
    exact ⟨rfl, fun k s e => by simp at e, fun k i e => by simp at e, fun k k' i e => by simp at e⟩
  | .slot s :: r, ρ, sl, h => by
    obtain ⟨sl', h1, e⟩ := Option.map_eq_some_iff.mp (show (fill r ρ).map (s :: ·) = some sl from h)
    subst e
    obtain ⟨a1, a2, a3, a4⟩ := fill_spec r ρ sl' h1
    refine ⟨by simp [a1], fun k t e => ?_, fun k i e => ?_, fun k k' i e e' => ?_⟩
    · cases k with
      | zero => simp at e; subst e; rfl
      | succ k => simpa using a2 k t (by simpa using e)
    · cases k with
      | zero => simp at e
      | succ k => simpa using a3 k i (by simpa using e)
    · cases k with
      | zero => simp at e
      | succ k =>
        cases k' with
        | zero => simp at e'
        | succ k' => exact congrArg (· + 1) (a4 k k' i (by simpa using e) (by simpa using e'))
  | .place i :: r, ρ, sl, h => by
    have core : ∀ (b : Bool) (m : MV), ρ[i]? = some (ownS b m) → (fill r (ρ.set i .unset)).map (Slot.io m :: ·) = some sl → sl.length = (Arg.place i :: r).length ∧ (∀ (k : Nat) s, (Arg.place i :: r)[k]? = some (Arg.slot s) → sl[k]? = some s) ∧
        (∀ (k i' : Nat), (Arg.place i :: r)[k]? = some (Arg.place i') → ∃ b m, ρ[i']? = some (ownS b m) ∧ sl[k]? = some (Slot.io m)) ∧ (∀ (k k' i' : Nat), (Arg.place i :: r)[k]? = some (Arg.place i') → (Arg.place i :: r)[k']? = some (Arg.place i') → k = k') := fun b m hb hm => by
      obtain ⟨sl', h1, e⟩ := Option.map_eq_some_iff.mp hm
      subst e
      obtain ⟨a1, a2, a3, a4⟩ := fill_spec r (ρ.set i .unset) sl' h1
      have ne : ∀ (k i' : Nat), r[k]? = some (Arg.place i') → i' ≠ i := fun k i' e z => by
        subst z
        obtain ⟨b', m', q, _⟩ := a3 k i' e
        rw [set_self hb] at q
        cases b' <;> cases q
      refine ⟨by simp [a1], fun k t e => ?_, fun k i' e => ?_, fun k k' i' e e' => ?_⟩
      · cases k with
        | zero => simp at e
        | succ k => simpa using a2 k t (by simpa using e)
      · cases k with
        | zero => simp at e; subst e; exact ⟨b, m, hb, rfl⟩
        | succ k =>
          have e1 : r[k]? = some (Arg.place i') := by simpa using e
          obtain ⟨b', m', q, w⟩ := a3 k i' e1
          rw [set_ne (ne k i' e1)] at q
          exact ⟨b', m', q, by simpa using w⟩
      · cases k with
        | zero =>
          cases k' with
          | zero => rfl
          | succ k' => simp at e e'; exact absurd e.symm (ne k' i' e')
        | succ k =>
          cases k' with
          | zero => simp at e e'; exact absurd e'.symm (ne k i' e)
          | succ k' => exact congrArg (· + 1) (a4 k k' i' (by simpa using e) (by simpa using e'))
    unfold fill at h
    split at h
    · rename_i m hb; exact core true m hb h
    · rename_i m hb; exact core false m hb h
    · cases h
theorem back_spec : ∀ (as : List Arg) (outs ρ ρ2 : Env), back as outs ρ = some ρ2 → (∀ (k k' i : Nat), as[k]? = some (Arg.place i) → as[k']? = some (Arg.place i) → k = k') →
    ρ2.length = ρ.length ∧ (∀ (j : Nat), (∀ k : Nat, as[k]? ≠ some (Arg.place j)) → ρ2[j]? = ρ[j]?) ∧ (∀ (k i : Nat), as[k]? = some (Arg.place i) → ∃ b m m0, outs[k]? = some (Slot.io m) ∧ ρ[i]? = some (ownS b m0) ∧ ρ2[i]? = some (ownS b m))
  | [], [], ρ, ρ2, h, _ => by
    cases h
    exact ⟨rfl, fun _ _ => rfl, fun k i e => by simp at e⟩
  | .slot s :: r, o :: outs, ρ, ρ2, h, dis => by
    have h : back r outs ρ = some ρ2 := h
    obtain ⟨a1, a2, a3⟩ := back_spec r outs ρ ρ2 h fun k k' i e e' => by
      have := dis (k + 1) (k' + 1) i (by simpa using e) (by simpa using e')
      omega
    refine ⟨a1, fun j hj => a2 j fun k e => hj (k + 1) (by simpa using e), fun k i e => ?_⟩
    cases k with
    | zero => simp at e
    | succ k => simpa using a3 k i (by simpa using e)
  | .place i :: r, .io m :: outs, ρ, ρ2, h, dis => by
    have core : ∀ (b : Bool) (m0 : MV), ρ[i]? = some (ownS b m0) → back r outs (ρ.set i (ownS b m)) = some ρ2 → ρ2.length = ρ.length ∧ (∀ (j : Nat), (∀ k : Nat, (Arg.place i :: r)[k]? ≠ some (Arg.place j)) → ρ2[j]? = ρ[j]?) ∧
        (∀ (k i' : Nat), (Arg.place i :: r)[k]? = some (Arg.place i') → ∃ b m' m0, (Slot.io m :: outs)[k]? = some (Slot.io m') ∧ ρ[i']? = some (ownS b m0) ∧ ρ2[i']? = some (ownS b m')) := fun b m0 hb hm => by
      obtain ⟨a1, a2, a3⟩ := back_spec r outs (ρ.set i (ownS b m)) ρ2 hm fun k k' i e e' => by
        have := dis (k + 1) (k' + 1) i (by simpa using e) (by simpa using e')
        omega
      have ne : ∀ k i', r[k]? = some (Arg.place i') → i' ≠ i := fun k i' e z => by
        subst z
        have := dis (k + 1) 0 i' (by simpa using e) (by simp)
        omega
      refine ⟨by rw [a1, List.length_set], fun j hj => ?_, fun k i' e => ?_⟩
      · have hji : j ≠ i := fun z => hj 0 (by simp [z])
        rw [a2 j fun k e => hj (k + 1) (by simpa using e), set_ne hji]
      · cases k with
        | zero =>
          simp at e
          subst e
          refine ⟨b, m, m0, rfl, hb, ?_⟩
          rw [a2 i fun k e => ne k i e rfl, set_self hb]
        | succ k =>
          have e1 : r[k]? = some (Arg.place i') := by simpa using e
          obtain ⟨b', m', m1, q1, q2, q3⟩ := a3 k i' e1
          rw [set_ne (ne k i' e1)] at q2
          exact ⟨b', m', m1, by simpa using q1, q2, q3⟩
    unfold back at h
    split at h
    · rename_i m0 hb; exact core true m0 hb h
    · rename_i m0 hb; exact core false m0 hb h
    · cases h
  | [], _ :: _, _, _, h, _ => by cases h
  | .slot _ :: _, [], _, _, h, _ => by cases h
  | .place _ :: _, [], _, _, h, _ => by cases h
  | .place _ :: _, .unset :: _, _, _, h, _ => by cases h
  | .place _ :: _, .own _ :: _, _, _, h, _ => by cases h
  | .place _ :: _, .lck _ :: _, _, _, h, _ => by cases h
  | .place _ :: _, .bor _ _ :: _, _, _, h, _ => by cases h

/-- a def's promise, by its meaning -/
def spD (K : PySem.W.Frag) (np : Nat) (sem : Env → Option (MV × Env)) : Sp := fun vs H Q _ => ∃ (z : Z) (r : MV) (outs : Env), Rel K z ∧ z.H = H ∧ z.σ = vs.map some ∧ vs.length = np ∧ sem z.ρ = some (r, outs) ∧
  ∀ v zo T, Stp K z zo → zo.ρ = outs → Tmp K z zo r v T → Q v zo.H

section
variable {X : Cx}
/-- an argument made ready, and its value -/
inductive ArgR (K : PySem.W.Frag) (z : Z) : Arg → V → Prop
  | slot {s : Slot} {v : V} : (∀ m, s ≠ .lck m) → (∀ m, s ≠ .io m) → SlotR K z.A z.S z.H s (some v) [] → ArgR K z (.slot s) v
  | place {i : Nat} {v : V} : z.σ[i]? = some (some v) → ArgR K z (.place i) v
theorem ArgR.fr {K : PySem.W.Frag} {z z' : Z} {a : Arg} {v : V} (R : Rel K z) (f : Fr z.A z.S z.H z'.A z'.S z'.H) (e : z'.σ = z.σ) (h : ArgR K z a v) : ArgR K z' a v := by
  cases h with
  | place h => exact .place (by rw [e]; exact h)
  | slot n1 n2 h =>
    refine .slot n1 n2 ?_
    cases h with
    | unset => exact .unset
    | own h => exact .own (h.fr R.sub f fun _ h => (nomatch h))
    | io h => exact .io (h.fr R.sub f fun _ h => (nomatch h))
    | lck h => exact .lck (h.fr R.sub f fun _ h => (nomatch h))
    | bor h => exact .bor (h.fr R.sub f)
inductive ArgsR (K : PySem.W.Frag) (z : Z) : List Arg → List V → Prop
  | nil : ArgsR K z [] []
  | cons {a : Arg} {v : V} {as : List Arg} {vs : List V} : ArgR K z a v → ArgsR K z as vs → ArgsR K z (a :: as) (v :: vs)
theorem ArgsR.fr {K : PySem.W.Frag} {z z' : Z} (R : Rel K z) (f : Fr z.A z.S z.H z'.A z'.S z'.H) (e : z'.σ = z.σ) : ∀ {a : List Arg} {v : List V}, ArgsR K z a v → ArgsR K z' a v
  | _, _, .nil => .nil
  | _, _, .cons a b => .cons (a.fr R f e) (ArgsR.fr R f e b)
theorem ArgsR.length {K : PySem.W.Frag} {z : Z} : ∀ {a : List Arg} {v : List V}, ArgsR K z a v → v.length = a.length
  | _, _, .nil => rfl
  | _, _, .cons a b => by simp [ArgsR.length b]
theorem ArgsR.get {K : PySem.W.Frag} {z : Z} : ∀ {as : List Arg} {vs : List V} {k : Nat} {a : Arg}, ArgsR K z as vs → as[k]? = some a → ∃ v, vs[k]? = some v ∧ ArgR K z a v
  | _, _, _, _, .nil, e => by simp at e
  | _, _, 0, _, .cons a b, e => by simp at e; subst e; exact ⟨_, rfl, a⟩
  | _, _, k + 1, x, .cons a b, e => by
    obtain ⟨v, h1, h2⟩ := ArgsR.get (k := k) (a := x) b (by simpa using e)
    exact ⟨v, by simpa using h1, h2⟩

/-- the callee's state at its entry -/
def placeOf (as : List Arg) (k : Nat) : Option Nat := match as[k]? with
  | some (.place i) => some i
  | _ => none
def inZ (z : Z) (as : List Arg) (sl : Env) (vs : List V) : Z where
  A := z.A
  H := z.H
  ρ := sl
  σ := vs.map some
  TS := fun k => match placeOf as k with
    | some i => z.TS i
    | none => []
theorem placeOf_some {as : List Arg} {k i : Nat} (h : placeOf as k = some i) : as[k]? = some (.place i) := by
  unfold placeOf at h
  split at h
  · cases h; assumption
  · cases h
theorem inZ_mem {z : Z} {as : List Arg} {sl : Env} {vs : List V} {k : Nat} {a : Addr} (h : a ∈ (inZ z as sl vs).TS k) : ∃ i, as[k]? = some (.place i) ∧ a ∈ z.TS i := by
  have h : a ∈ (match placeOf as k with | some i => z.TS i | none => []) := h
  cases e : placeOf as k with
  | none => rw [e] at h; cases h
  | some i => rw [e] at h; exact ⟨i, placeOf_some e, h⟩
theorem inZ_TS {z : Z} {as : List Arg} {sl : Env} {vs : List V} {k i : Nat} (h : as[k]? = some (.place i)) : (inZ z as sl vs).TS k = z.TS i := by
  show (match placeOf as k with | some i => z.TS i | none => []) = _
  rw [show placeOf as k = some i by unfold placeOf; rw [h]]
theorem in_ok {K : PySem.W.Frag} {z : Z} {as : List Arg} {sl : Env} {vs : List V} (R : Rel K z) (ar : ArgsR K z as vs) (hf : fill as z.ρ = some sl) : Rel K (inZ z as sl vs) ∧ ∀ a, (inZ z as sl vs).S a → z.S a := by
  obtain ⟨a1, a2, a3, a4⟩ := fill_spec as z.ρ sl hf
  have noL : ∀ k, ¬ Lk sl k := fun k ⟨m, e⟩ => by
    have hk : k < as.length := by rw [← a1]; exact (List.getElem?_eq_some_iff.mp e).1
    obtain ⟨x, hx⟩ : ∃ x, as[k]? = some x := ⟨as[k], List.getElem?_eq_getElem hk⟩
    cases x with
    | slot s =>
      obtain ⟨v, _, r⟩ := ar.get hx
      rw [a2 k s hx] at e
      cases r with | slot n1 _ _ => exact n1 m (Option.some.inj e)
    | place i =>
      obtain ⟨b, m', _, q⟩ := a3 k i hx
      rw [q] at e; cases e
  have sS : ∀ a, (inZ z as sl vs).S a → z.S a := fun a ⟨k, hk, _⟩ => by
    obtain ⟨i, h1, h2⟩ := inZ_mem hk
    obtain ⟨b, m, q, _⟩ := a3 k i h1
    exact inS_of ⟨b, m, q⟩ h2
  refine ⟨⟨?_, fun k s e => ?_, fun k e => ?_, fun k => ?_, fun k k' a hk hk' => ?_, R.trk⟩, sS⟩
  · show sl.length = (vs.map some).length
    rw [List.length_map, a1, ar.length]
  · have e : sl[k]? = some s := e
    have hk : k < as.length := by rw [← a1]; exact (List.getElem?_eq_some_iff.mp e).1
    obtain ⟨x, hx⟩ : ∃ x, as[k]? = some x := ⟨as[k], List.getElem?_eq_getElem hk⟩
    obtain ⟨v, hv, r⟩ := ar.get hx
    refine ⟨some v, by show (vs.map some)[k]? = _; rw [List.getElem?_map, hv]; rfl, ?_⟩
    cases x with
    | slot s' =>
      rw [a2 k s' hx] at e
      cases e
      have ts : (inZ z as sl vs).TS k = [] := by
        show (match placeOf as k with | some i => z.TS i | none => []) = []
        rw [show placeOf as k = none by unfold placeOf; rw [hx]]
      rw [ts]
      cases r with | slot n1 n2 h =>
      cases h with
      | unset => exact .unset
      | own h => exact .own h
      | io h => exact .io h
      | lck h => exact .lck h
      | bor h => exact .bor (h.lessS sS)
    | place i =>
      obtain ⟨b, m, q1, q2⟩ := a3 k i hx
      rw [q2] at e
      cases e
      rw [inZ_TS hx]
      obtain ⟨o, eo, ro⟩ := R.slot i _ q1
      obtain ⟨v', e2, ow⟩ := ownS_get ro
      cases r with | place h =>
      rw [h] at eo
      cases eo
      cases e2
      exact .io ow
  · have e : sl[k]? = none := e
    have hk : as[k]? = none := by
      rw [List.getElem?_eq_none_iff] at e ⊢
      omega
    show (match placeOf as k with | some i => z.TS i | none => []) = []
    rw [show placeOf as k = none by unfold placeOf; rw [hk]]
  · show ((match placeOf as k with | some i => z.TS i | none => []) : List Addr).Nodup
    cases placeOf as k with
    | none => exact List.nodup_nil
    | some i => exact R.nd i
  · obtain ⟨i, h1, h2⟩ := inZ_mem hk
    obtain ⟨i', h1', h2'⟩ := inZ_mem hk'
    have e := R.dj i i' a h2 h2'
    subst e
    exact a4 k k' i h1 h1'

def isPl (j : Nat) : Arg → Bool
  | .place i => i == j
  | _ => false
def plAt (as : List Arg) (j : Nat) : Option Nat := as.findIdx? (isPl j)
theorem isPl_ok {j : Nat} {a : Arg} (h : isPl j a = true) : a = .place j := by
  cases a with
  | slot _ => cases h
  | place i => simp [isPl] at h; rw [h]
theorem plAt_some {as : List Arg} {j k : Nat} (h : plAt as j = some k) : as[k]? = some (.place j) := by
  unfold plAt at h
  rw [List.findIdx?_eq_some_iff_getElem] at h
  obtain ⟨h1, h2, _⟩ := h
  rw [List.getElem?_eq_getElem h1, isPl_ok h2]
theorem plAt_none {as : List Arg} {j : Nat} (h : plAt as j = none) : ∀ k : Nat, as[k]? ≠ some (.place j) := fun k e => by
  unfold plAt at h
  rw [List.findIdx?_eq_none_iff] at h
  have := h _ (List.mem_of_getElem? e)
  simp [isPl] at this
/-- the state of the caller behind the call -/
def outZ (z : Z) (as : List Arg) (ρ2 : Env) (zo : Z) : Z where
  A := zo.A
  H := zo.H
  ρ := ρ2
  σ := z.σ
  TS := fun j => match plAt as j with
    | some k => zo.TS k
    | none => z.TS j
theorem outZ_pl {z zo : Z} {as : List Arg} {ρ2 : Env} {j k : Nat} (h : plAt as j = some k) : (outZ z as ρ2 zo).TS j = zo.TS k := by
  show (match plAt as j with | some k => zo.TS k | none => z.TS j) = _
  rw [h]
theorem outZ_no {z zo : Z} {as : List Arg} {ρ2 : Env} {j : Nat} (h : plAt as j = none) : (outZ z as ρ2 zo).TS j = z.TS j := by
  show (match plAt as j with | some k => zo.TS k | none => z.TS j) = _
  rw [h]
theorem out_ok {K : PySem.W.Frag} {z zo : Z} {as : List Arg} {sl ρ2 : Env} {vs : List V} (R : Rel K z) (ar : ArgsR K z as vs) (hf : fill as z.ρ = some sl) (s : Stp K (inZ z as sl vs) zo) (hb : back as zo.ρ z.ρ = some ρ2) :
    Stp K z (outZ z as ρ2 zo) ∧ ∀ a i, a ∈ (outZ z as ρ2 zo).TS i → (∃ k, a ∈ zo.TS k) ∨ (z.H a ≠ none ∧ ¬ (inZ z as sl vs).S a) := by
  obtain ⟨a1, a2, a3, a4⟩ := fill_spec as z.ρ sl hf
  obtain ⟨R0, sS⟩ := in_ok R ar hf
  obtain ⟨b1, b2, b3⟩ := back_spec as zo.ρ z.ρ ρ2 hb a4
  -- slots that are no argument's place
  have nS0 : ∀ (j : Nat) (a : Addr), plAt as j = none → a ∈ z.TS j → ¬ (inZ z as sl vs).S a := fun j a hn ha ⟨k, hk, _⟩ => by
    obtain ⟨i, h1, h2⟩ := inZ_mem hk
    have e := R.dj j i a ha h2
    subst e
    exact plAt_none hn k h1
  have trk : ∀ (j : Nat) (a : Addr), a ∈ z.TS j → z.H a ≠ none := fun j a ha => R.trk a (R.subT j a ha)
  have slotk : ∀ {j k : Nat}, plAt as j = some k → ∃ b m m0, zo.ρ[k]? = some (Slot.io m) ∧ z.ρ[j]? = some (ownS b m0) ∧ ρ2[j]? = some (ownS b m) := fun {j k} h => b3 k j (plAt_some h)
  have uS : ∀ a, (outZ z as ρ2 zo).S a → zo.S a ∨ z.S a := fun a ⟨j, hj, nl⟩ => by
    cases h : plAt as j with
    | some k =>
      rw [outZ_pl h] at hj
      obtain ⟨b, m, m0, q1, q2, q3⟩ := slotk h
      exact .inl ⟨k, hj, fun ⟨m', e⟩ => by rw [q1] at e; cases e⟩
    | none =>
      rw [outZ_no h] at hj
      refine .inr ⟨j, hj, fun ⟨m', e⟩ => nl ⟨m', ?_⟩⟩
      show ρ2[j]? = _
      rw [b2 j (plAt_none h)]; exact e
  have fr : Fr z.A z.S z.H zo.A (outZ z as ρ2 zo).S zo.H := by
    refine ⟨fun b o e n => s.fr.keep b o e fun q => n (sS b q), s.fr.newA, fun a q => ?_, fun a q n => s.fr.keepA a q fun w => n (sS a w), s.fr.there⟩
    rcases uS a q with q | q
    · rcases s.fr.newS a q with q | q
      · exact .inl (sS a q)
      · exact .inr q
    · exact .inl q
  have apart : ∀ (j k : Nat) (a : Addr), plAt as j = none → a ∈ z.TS j → a ∉ zo.TS k := fun j k a hn ha hk => by
    by_cases hl : Lk zo.ρ k
    · obtain ⟨m, hm⟩ := hl
      have h1 := s.kp.lckB k m hm
      obtain ⟨_, _, h3⟩ := s.kp.lck k m h1
      rw [h3] at hk
      obtain ⟨i, g1, g2⟩ := inZ_mem hk
      have e := R.dj j i a ha g2
      subst e
      exact plAt_none hn k g1
    · rcases s.fr.newS a ⟨k, hk, hl⟩ with q | q
      · exact nS0 j a hn ha q
      · exact trk j a ha q
  refine ⟨Stp.build R fr ⟨b1, fun j m e => ?_, fun j m e => ?_, fun j m e => ?_, fun j m e => ?_, fun j fl d e => ?_⟩ ?_ (fun j sl0 e hbo => ?_) (fun j fl d e => ?_) (fun j e => ?_) (fun j => ?_) (fun j j' a hj hj' => ?_) s.rel.trk, fun a i hi => ?_⟩
  · have h : plAt as j = none := by
      cases h : plAt as j with
      | none => rfl
      | some k =>
        obtain ⟨b, m1, m0, q1, q2, q3⟩ := slotk h
        rw [q2] at e; exact absurd (Option.some.inj e) ownS_lck
    exact ⟨(b2 j (plAt_none h)).trans e, rfl, outZ_no h⟩
  · cases h : plAt as j with
    | none => rw [← b2 j (plAt_none h)]; exact e
    | some k =>
      obtain ⟨b, m1, m0, q1, q2, q3⟩ := slotk h
      have e : ρ2[j]? = some (Slot.lck m) := e
      rw [q3] at e; exact absurd (Option.some.inj e) ownS_lck
  · cases h : plAt as j with
    | none => exact ⟨m, (b2 j (plAt_none h)).trans e, rfl⟩
    | some k =>
      obtain ⟨b, m1, m0, q1, q2, q3⟩ := slotk h
      rw [q2] at e
      cases b with
      | true => cases e
      | false => exact ⟨m1, q3, rfl⟩
  · cases h : plAt as j with
    | none => exact ⟨m, (b2 j (plAt_none h)).symm.trans e⟩
    | some k =>
      obtain ⟨b, m1, m0, q1, q2, q3⟩ := slotk h
      have e : ρ2[j]? = some (Slot.io m) := e
      rw [q3] at e
      cases b with
      | true => cases e
      | false => exact ⟨m0, q2⟩
  · cases h : plAt as j with
    | none => exact ⟨(b2 j (plAt_none h)).symm.trans e, rfl⟩
    | some k =>
      obtain ⟨b, m1, m0, q1, q2, q3⟩ := slotk h
      have e : ρ2[j]? = some (Slot.bor fl d) := e
      rw [q3] at e
      cases b <;> cases e
  · show ρ2.length = z.σ.length
    rw [b1]; exact R.len
  · have e : ρ2[j]? = some sl0 := e
    cases h : plAt as j with
    | none =>
      rw [b2 j (plAt_none h)] at e
      obtain ⟨o, e2, r⟩ := R.slot j sl0 e
      refine ⟨o, e2, ?_⟩
      show SlotR K zo.A _ zo.H sl0 o ((outZ z as ρ2 zo).TS j)
      rw [outZ_no h]
      have lift : ∀ {m : MV} {v : V}, Own K z.A z.H m v (z.TS j) → Own K zo.A zo.H m v (z.TS j) := fun q =>
        q.step (fun b o e n => s.fr.keep b o e fun w => n (R.sub b (sS b w))) s.fr.newA fun b hb => ⟨fun o e => s.fr.keep b o e (nS0 j b h hb), s.fr.keepA b (R.subT j b hb) (nS0 j b h hb)⟩
      generalize z.TS j = Tj at r lift
      cases r with
      | unset => exact .unset
      | own r => exact .own (lift r)
      | io r => exact .io (lift r)
      | lck r => exact .lck (lift r)
      | bor r => cases hbo
    | some k =>
      obtain ⟨b, m1, m0, q1, q2, q3⟩ := slotk h
      rw [q3] at e
      cases e
      obtain ⟨o, e2, r⟩ := s.rel.slot k _ q1
      -- the value is the caller's
      obtain ⟨v, hv, arr⟩ := ar.get (plAt_some h)
      obtain ⟨bb, mm, w1, w2⟩ := a3 k j (plAt_some h)
      obtain ⟨m2, k1, k2⟩ := s.kp.io k mm w2
      have hv2 : (inZ z as sl vs).σ[k]? = some (some v) := by
        show (vs.map some)[k]? = _
        rw [List.getElem?_map, hv]; rfl
      rw [hv2] at k2
      rw [k2] at e2
      cases e2
      cases arr with | place hp =>
      refine ⟨some v, hp, ?_⟩
      show SlotR K zo.A _ zo.H _ _ ((outZ z as ρ2 zo).TS j)
      rw [outZ_pl h]
      generalize zo.TS k = Tk at r
      cases r with | io r => exact ownS_r r
  · cases h : plAt as j with
    | none =>
      have e : ρ2[j]? = some (Slot.bor fl d) := e
      rw [b2 j (plAt_none h)] at e
      rw [outZ_no h]
      obtain ⟨o, e2, r⟩ := R.slot j _ e
      generalize z.TS j = Tj at r
      cases r with | bor _ => rfl
    | some k =>
      obtain ⟨b, m1, m0, q1, q2, q3⟩ := slotk h
      have e : ρ2[j]? = some (Slot.bor fl d) := e
      rw [q3] at e
      cases b <;> cases e
  · have e : ρ2[j]? = none := e
    cases h : plAt as j with
    | none =>
      rw [b2 j (plAt_none h)] at e
      rw [outZ_no h]; exact R.out j e
    | some k =>
      obtain ⟨b, m1, m0, q1, q2, q3⟩ := slotk h
      rw [q3] at e; cases e
  · cases h : plAt as j with
    | none => rw [outZ_no h]; exact R.nd j
    | some k => rw [outZ_pl h]; exact s.rel.nd k
  · cases h : plAt as j with
    | none =>
      rw [outZ_no h] at hj
      cases h' : plAt as j' with
      | none => rw [outZ_no h'] at hj'; exact R.dj j j' a hj hj'
      | some k' => rw [outZ_pl h'] at hj'; exact absurd hj' (apart j k' a h hj)
    | some k =>
      rw [outZ_pl h] at hj
      cases h' : plAt as j' with
      | none => rw [outZ_no h'] at hj'; exact absurd hj (apart j' k a h' hj')
      | some k' =>
        rw [outZ_pl h'] at hj'
        have e := s.rel.dj k k' a hj hj'
        subst e
        have e1 := plAt_some h
        rw [plAt_some h'] at e1
        cases e1; rfl
  · cases h : plAt as i with
    | none => rw [outZ_no h] at hi; exact .inr ⟨trk i a hi, nS0 i a h hi⟩
    | some k => rw [outZ_pl h] at hi; exact .inl ⟨k, hi⟩

/-- how a list of values is run -/
structure LRun (X : Cx) (RL : List Expr → TA) : Prop where
  nil : ∀ {σ : L2.St} {H : Hp} {Q : List V → Hp → Prop}, Q [] H → RL [] σ H Q
  cons : ∀ {e : Expr} {es : List Expr} {σ : L2.St} {H : Hp} {Q : List V → Hp → Prop}, notSt e = true → RunsE X e σ H (fun u H1 => RL es σ H1 fun us H2 => Q (u :: us) H2) → RL (e :: es) σ H Q
theorem lrunA : LRun X (RunsA X) := ⟨fun q => PA.rn pa_nil q, fun hn h => PA.rn (pa_cons pr pra (notSt_ok hn _ _)) h⟩
theorem bRd_ok {e : Expr} {r : R3} (h : Snd X e r) {z : Z} {s0 : Slot} {ρ1 : Env} {l1 : Lks} (R : Rel X.K z) (e1 : bRd r z.ρ = some (s0, ρ1, l1)) {Q : VK}
    (q : ∀ u z1, Pend X.K l1 z z1 → z1.ρ = ρ1 → z1.σ = z.σ → (∀ m, s0 ≠ .io m) → (∀ m, s0 ≠ .lck m) → (∀ z2, Rel X.K z2 → Fr z1.A z1.S z1.H z2.A z2.S z2.H → SlotR X.K z2.A z2.S z2.H s0 (some u) []) → Q u z1.H) : RunsE X e z.σ z.H Q := by
  unfold bRd at e1
  split at e1
  · rename_i x hx
    split at e1
    · rename_i d hm
      cases e1
      refine h.q z x R hx Q fun u z' p er es k => ?_
      have bt := k.bt
      rw [hm] at bt
      cases bt with | val rp =>
      refine q u (z'.setR (unl x.ls z'.ρ)) (Pend.of R (p.close z' (Stp.refl p.rel))) (by show unl x.ls z'.ρ = _; rw [er]) es (fun m w => by cases w) (fun m w => by cases w) fun z2 R2 f => .own (.val ?_)
      exact Rep.fr (p.close z' (Stp.refl p.rel)).rel.sub f rp
    · cases e1
      exact h.q z x R hx Q fun u z' p er es k => q u z' p er es (fun m w => by cases w) (fun m w => by cases w) fun z2 R2 f => .bor ⟨rfl, k.bt.fr p.rel.sub f⟩
  · obtain ⟨⟨d, fl, ρ2, l2⟩, h1, e2⟩ := bind_some e1
    cases e2
    refine h.p z d fl _ _ R h1 Q fun u z1 p1 er1 es1 k1 => ?_
    cases fl with
    | val => exact q u z1 p1 er1 es1 (fun m w => by cases w) (fun m w => by cases w) fun z2 R2 f => .own (.val (Rep.fr p1.rel.sub f k1))
    | shal => exact q u z1 p1 er1 es1 (fun m w => by cases w) (fun m w => by cases w) fun z2 R2 f => .bor (BfR.fr (b := .fl .shal) p1.rel.sub f k1)
    | deep => exact q u z1 p1 er1 es1 (fun m w => by cases w) (fun m w => by cases w) fun z2 R2 f => .bor (BfR.fr (b := .fl .deep) p1.rel.sub f k1)
theorem evA_ok {RL : List Expr → TA} (L : LRun X RL) : ∀ {es : List Expr} {rs : List R3}, SndL X es rs → ∀ (ms : List Mode) (xs : List (Option Nat)), (∀ (k i : Nat), xs[k]? = some (some i) → ∃ (x : Str) (p : Pos), es[k]? = some (.Name x p) ∧ PE X (.Name x p) (tVar i)) →
    ∀ (z : Z) (as : List Arg) (ρ' : Env) (ls : Lks), Rel X.K z → evA ms xs rs z.ρ = some (as, ρ', ls) → ∀ Q : List V → Hp → Prop,
    (∀ us z', Pend X.K ls z z' → z'.ρ = ρ' → z'.σ = z.σ → ArgsR X.K z' as us → Q us z'.H) → RL es z.σ z.H Q
  | _, _, .nil, ms, xs, hx, z, as, ρ', ls, R, e1, Q, q => by
    unfold evA at e1
    split at e1
    all_goals first | (cases e1; done) | skip
    all_goals first | (rename_i hh; cases hh; done) | skip
    cases e1
    exact L.nil (q [] z (Pend.of R (Stp.refl R)) rfl rfl .nil)
  | _, _, .cons (e := e) (r := r) (es := es) (rs := rs) hn h t, ms, xs, hx, z, as, ρ', ls, R, e1, Q, q => by
    have hx' : ∀ (xs' : List (Option Nat)), xs = xs.head?.toList ++ xs' → ∀ (k i : Nat), xs'[k]? = some (some i) → ∃ (x : Str) (p : Pos), es[k]? = some (.Name x p) ∧ PE X (.Name x p) (tVar i) := fun xs' he k i e => by
      cases xs with
      | nil => cases xs' with
        | nil => simp at e
        | cons _ _ => cases he
      | cons y ys =>
        have : ys = xs' := by simpa using he
        subst this
        obtain ⟨x, p, h1, h2⟩ := hx (k + 1) i (by simpa using e)
        exact ⟨x, p, by simpa using h1, h2⟩
    have ioc : ∀ (ms' : List Mode) (xs' : List (Option Nat)) (i : Nat), xs = some i :: xs' → (∃ b m, z.ρ[i]? = some (ownS b m)) → ∀ (as2 : List Arg) (ρ2 : Env) (l2 : Lks), evA ms' xs' rs z.ρ = some (as2, ρ2, l2) → (Arg.place i :: as2, ρ2, l2) = (as, ρ', ls) → RL (e :: es) z.σ z.H Q := fun ms' xs' i ex ⟨b, m, hb⟩ as2 ρ2 l2 h2 ee => by
      cases ee
      obtain ⟨x, p, h1, pe⟩ := hx 0 i (by rw [ex]; rfl)
      have h1 : e = .Name x p := by simpa using h1
      subst h1
      obtain ⟨o, eo, ro⟩ := R.slot i _ hb
      obtain ⟨v, rfl, ow⟩ := ownS_get ro
      refine L.cons hn (PE.rn pe ⟨v, eo, ?_⟩)
      refine evA_ok L t ms' xs' (hx' xs' (by rw [ex]; rfl)) z as2 _ _ R h2 _ fun us z2 p2 er2 es2 k2 => ?_
      exact q (v :: us) z2 p2 er2 es2 (.cons (.place (by rw [es2]; exact eo)) k2)
    unfold evA at e1
    split at e1
    all_goals first | (rename_i hh; cases hh; done) | skip
    · -- a value
      rename_i ms' _ xs' _ _ hr
      cases hr
      obtain ⟨⟨r1, ρ1⟩, h1, e2⟩ := bind_some e1
      obtain ⟨⟨as2, ρ2, l2⟩, h2, e3⟩ := bind_some e2
      cases e3
      refine L.cons hn (h.v z r1 ρ1 R h1 _ fun u z1 T1 s1 er1 es1 t1 => ?_)
      rw [← es1]
      have sd := s1.drop R t1
      refine evA_ok L t ms' xs' (hx' xs' rfl) (z1.drop T1) as2 _ _ sd.rel (by show evA ms' xs' rs z1.ρ = _; rw [er1]; exact h2) _ fun us z2 p2 er2 es2 k2 => ?_
      refine q (u :: us) z2 (sd.pend R p2) er2 (es2.trans es1) (.cons (.slot (fun m w => by cases w) (fun m w => by cases w) (.own (.val (t1.froze.fr sd.rel.sub p2.fr)))) k2)
    · rename_i ms' _ xs' _ _ hr
      cases hr
      obtain ⟨⟨s0, ρ1, l1⟩, h1, e2⟩ := bind_some e1
      obtain ⟨⟨as2, ρ2, l2⟩, h2, e3⟩ := bind_some e2
      cases e3
      refine L.cons hn (bRd_ok h R h1 fun u z1 p1 er1 es1 n1 n2 k1 => ?_)
      rw [← es1]
      refine evA_ok L t ms' xs' (hx' xs' rfl) z1 as2 _ l2 p1.rel (by rw [er1]; exact h2) _ fun us z2 p2 er2 es2 k2 => ?_
      exact q (u :: us) z2 (p1.trans R p2) er2 (es2.trans es1) (.cons (.slot n2 n1 (k1 z2 p2.rel p2.fr)) k2)
    · rename_i ms' i xs' _ _ hr
      cases hr
      split at e1
      · rename_i m hb
        obtain ⟨⟨as2, ρ2, l2⟩, h2, e3⟩ := bind_some e1
        exact ioc ms' xs' i rfl ⟨true, m, hb⟩ as2 ρ2 l2 h2 (Option.some.inj e3)
      · rename_i m hb
        obtain ⟨⟨as2, ρ2, l2⟩, h2, e3⟩ := bind_some e1
        exact ioc ms' xs' i rfl ⟨false, m, hb⟩ as2 ρ2 l2 h2 (Option.some.inj e3)
      · cases e1
    · cases e1
end
end Q
set_option maxHeartbeats 1000000
namespace Q
open PySem L2 PyProof.Rows
section
variable {X : Cx} {pos : Pos}
theorem call_core {C : CtxQ} {j np : Nat} {xs : List (Option Nat)} {es : List Expr} {rs : List R3} (hl : SndL X es rs) (hx : ∀ (k i : Nat), xs[k]? = some (some i) → ∃ (x : Str) (p : Pos), es[k]? = some (.Name x p) ∧ PE X (.Name x p) (tVar i))
    (hlen : ∀ sl r, C.call j sl = some r → sl.length = np) {z : Z} (R : Rel X.K z) {r : MV} {ρ' : Env} (e1 : evCall C j xs rs z.ρ = some (r, ρ')) {Q : VK}
    (q : ∀ u z' T, Stp X.K z z' → z'.ρ = ρ' → z'.σ = z.σ → Tmp X.K z z' r u T → Q u z'.H) : RunsA X es z.σ z.H fun vs H1 => spD X.K np (C.call j) (vs ++ []) H1 Q E0 := by
  obtain ⟨⟨as, ρ1, ls⟩, h1, e2⟩ := bind_some (show (evA _ xs rs z.ρ).bind _ = some _ from e1)
  obtain ⟨sl, h2, e3⟩ := bind_some e2
  obtain ⟨⟨r', outs⟩, h3, e4⟩ := bind_some e3
  obtain ⟨ρ2, h4, e5⟩ := bind_some e4
  cases e5
  refine evA_ok lrunA hl _ xs hx z as ρ1 ls R h1 _ fun us z1 p1 er1 es1 ar => ?_
  have h2 : fill as z1.ρ = some sl := by rw [er1]; exact h2
  obtain ⟨a1, _, _, _⟩ := fill_spec as z1.ρ sl h2
  obtain ⟨R0, sS⟩ := in_ok p1.rel ar h2
  refine ⟨inZ z1 as sl us, _, outs, R0, rfl, by rw [List.append_nil]; rfl, ?_, h3, fun v zo T s er t => ?_⟩
  · rw [List.append_nil, ar.length, ← a1]; exact hlen sl _ h3
  · have h4 : back as zo.ρ z1.ρ = some ρ2 := by rw [er, er1]; exact h4
    obtain ⟨so, ap⟩ := out_ok p1.rel ar h2 s h4
    refine q v ((outZ z1 as ρ2 zo).setR (unl ls ρ2)) T (p1.close _ so) rfl es1 ⟨t.own, t.nd, fun b hb i hi => ?_, fun b hb => ?_⟩
    · rcases ap b i hi with ⟨k, hk⟩ | ⟨n1, n2⟩
      · exact t.apart b hb k hk
      · rcases t.new b hb with w | w
        · exact n2 w
        · exact n1 w
    · rcases t.new b hb with w | w
      · exact p1.fr.newS b (sS b w)
      · exact .inr (p1.fr.there b w)
theorem call_snd {C : CtxQ} {j np k : Nat} {x : Str} {p : Pos} {f : Addr} {fd : FuncData} {ps : List Str} {xs : List (Option Nat)} {e : Expr} {es : List Expr} {rs : List R3} (hl : SndL X (e :: es) rs)
    (hx : ∀ (k i : Nat), xs[k]? = some (some i) → ∃ (x : Str) (p : Pos), (e :: es)[k]? = some (.Name x p) ∧ PE X (.Name x p) (tVar i)) (hlen : ∀ sl r, C.call j sl = some r → sl.length = np)
    (F : FnOk X.prog X.w X.K X.mg X.base CX0 k f fd ps (spD X.K np (C.call j))) (hr : Room k X.A) (hg : Gl X x) (hm : X.mg x = some (.ref f)) (hk : PySem.W.keepIn X.K (.ref f) = true) (hb : Binds X.K fd ps [])
    (hdb : (x == ("__debug__" : Str)) = false) : Snd X (.Call (.Name x p) (e :: es) [] pos) (ofV (evCall C j xs rs)) := by
  have hn : notSt e = true := by cases hl with | cons h _ _ => exact h
  refine SndV.snd (fun z r ρ' R e1 Q q => ?_) rfl
  refine PE.rn (pe_call (E := E0) F hr hg hm hk hb .nil pass0 pra hdb (notSt_ok hn _ _) ?_) (call_core hl hx hlen R e1 q)
  cases hl with | cons _ _ t => exact t.plain _ _

/-! ### with keywords -/
def RunsK (X : Cx) (kws : List Keyword) : TA := fun σ H Q => ∀ (pos : Pos) (pins : List (Addr × Obj)) (s : Shared), Inv X pins σ H s → wpAny (model X.prog X.w) X.A (evalAll ((backToKw pos (keywordEach kws X.env)).map (·.2))) (L2.AP X pins σ Q) X.xe s
theorem prk {kws : List Keyword} : PK X kws (RunsK X kws) := ⟨fun pos pins s σ H Q I h => h pos pins s I⟩
theorem PK.rn {kws : List Keyword} {t : TA} (h : PK X kws t) {σ : L2.St} {H : Hp} {Q : List V → Hp → Prop} (q : t σ H Q) : RunsK X kws σ H Q := fun p pins s I => h.run p pins s σ H Q I q
theorem RunsE.mono {e : Expr} {σ : L2.St} {H : Hp} {Q Q' : VK} (h : RunsE X e σ H Q) (f : ∀ v H', Q v H' → Q' v H') : RunsE X e σ H Q' := fun pins s I =>
  wpAny_mono (h pins s I) (fun _ _ ⟨v, H', I', r, q⟩ => ⟨v, H', I', r, f v H' q⟩) fun _ _ z => z
theorem RunsA.mono {es : List Expr} {σ : L2.St} {H : Hp} {Q Q' : List V → Hp → Prop} (h : RunsA X es σ H Q) (f : ∀ v H', Q v H' → Q' v H') : RunsA X es σ H Q' := fun pos pins s I =>
  wpAny_mono (h pos pins s I) (fun _ _ ⟨v, H', I', r, q⟩ => ⟨v, H', I', r, f v H' q⟩) fun _ _ z => z
theorem RunsK.mono {es : List Keyword} {σ : L2.St} {H : Hp} {Q Q' : List V → Hp → Prop} (h : RunsK X es σ H Q) (f : ∀ v H', Q v H' → Q' v H') : RunsK X es σ H Q' := fun pos pins s I =>
  wpAny_mono (h pos pins s I) (fun _ _ ⟨v, H', I', r, q⟩ => ⟨v, H', I', r, f v H' q⟩) fun _ _ z => z
/-- by position, then by keyword -/
def RunsM (X : Cx) : List Expr → TA := fun l σ H Q => ∀ (es : List Expr) (kws : List Keyword), l = es ++ kws.map (·.value) → match es with
  | [] => RunsK X kws σ H fun zs H1 => zs.length = kws.length ∧ Q zs H1
  | e :: es => RunsA X (e :: es) σ H fun vs H1 => vs.length = es.length + 1 ∧ RunsK X kws σ H1 fun zs H2 => zs.length = kws.length ∧ Q (vs ++ zs) H2
theorem lrunM : LRun X (RunsM X) := by
  refine ⟨fun {σ H Q} q es kws e => ?_, fun {e es σ H Q} hn h es' kws el => ?_⟩
  · have e1 := (List.append_eq_nil_iff.mp e.symm).1
    have e2 := (List.append_eq_nil_iff.mp e.symm).2
    subst e1
    cases kws with
    | nil => exact PK.rn pk_nil ⟨rfl, q⟩
    | cons _ _ => cases e2
  · cases es' with
    | nil =>
      cases kws with
      | nil => cases el
      | cons kw kws =>
        have e1 : e :: es = kw.value :: kws.map (·.value) := el
        injection e1 with e1 e2
        subst e1
        obtain ⟨nm, ev, kp⟩ := kw
        exact PK.rn (pk_cons pr prk) (RunsE.mono h fun u H1 q => RunsK.mono (q [] kws e2) fun zs H2 q => ⟨by rw [List.length_cons, List.length_cons, q.1], q.2⟩)
    | cons e' es' =>
      have e1 : e :: es = e' :: (es' ++ kws.map (·.value)) := el
      injection e1 with e1 e2
      subst e1
      refine PA.rn (pa_cons pr pra (notSt_ok hn _ _)) (RunsE.mono h fun u H1 q => ?_)
      have q := q es' kws e2
      cases es' with
      | nil => exact PA.rn pa_nil ⟨rfl, q⟩
      | cons _ _ => exact RunsA.mono q fun vs H2 q => ⟨by rw [List.length_cons, q.1]; rfl, q.2⟩
theorem permL_c {α : Type} {k : Nat} {r : List Nat} {xs : List α} {x : α} (h : xs[k]? = some x) : permL (k :: r) xs = (permL r xs).map (x :: ·) := by
  show (match xs[k]? with | some x => (permL r xs).map (x :: ·) | none => none) = _
  rw [h]
theorem permL_args {K : PySem.W.Frag} {z : Z} {as : List Arg} {us : List V} (h : ArgsR K z as us) : ∀ {p : List Nat} {as' : List Arg}, permL p as = some as' → ∃ us', permL p us = some us' ∧ ArgsR K z as' us'
  | [], as', e => by cases e; exact ⟨[], rfl, .nil⟩
  | k :: r, as', e => by
    unfold permL at e
    split at e
    · rename_i a ha
      obtain ⟨as2, e1, e2⟩ := Option.map_eq_some_iff.mp e
      subst e2
      obtain ⟨us2, e3, h2⟩ := permL_args h e1
      obtain ⟨v, hv, ra⟩ := h.get ha
      refine ⟨v :: us2, ?_, .cons ra h2⟩
      unfold permL
      rw [hv, e3]; rfl
    · cases e
theorem permL_vals {vs : List V} {us : List Value} (h : Vals vs us) : ∀ (p : List Nat), Vals ((permL p vs).getD []) ((permL p us).getD [])
  | [] => .nil
  | k :: r => by
    have ih := permL_vals h r
    cases hv : vs[k]? with
    | none =>
      have hu : us[k]? = none := by rw [List.getElem?_eq_none_iff] at hv ⊢; rw [← h.length]; exact hv
      have e1 : permL (k :: r) vs = none := by unfold permL; rw [hv]
      have e2 : permL (k :: r) us = none := by unfold permL; rw [hu]
      rw [e1, e2]; exact .nil
    | some v =>
      obtain ⟨u, hu, rv⟩ := h.get hv
      have e1 : permL (k :: r) vs = (permL r vs).map (v :: ·) := permL_c hv
      have e2 : permL (k :: r) us = (permL r us).map (u :: ·) := permL_c hu
      rw [e1, e2]
      have both : (permL r vs).isSome = (permL r us).isSome := permL_some h r
      cases h1 : permL r vs with
      | none => cases h2 : permL r us with
        | none => exact .nil
        | some _ => rw [h1, h2] at both; cases both
      | some a => cases h2 : permL r us with
        | none => rw [h1, h2] at both; cases both
        | some b => rw [h1, h2] at ih; exact .cons rv ih
where permL_some {vs : List V} {us : List Value} (h : Vals vs us) : ∀ (p : List Nat), (permL p vs).isSome = (permL p us).isSome
  | [] => rfl
  | k :: r => by
    have ih := permL_some h r
    cases hv : vs[k]? with
    | none =>
      have hu : us[k]? = none := by rw [List.getElem?_eq_none_iff] at hv ⊢; rw [← h.length]; exact hv
      have e1 : permL (k :: r) vs = none := by unfold permL; rw [hv]
      have e2 : permL (k :: r) us = none := by unfold permL; rw [hu]
      rw [e1, e2]; rfl
    | some v =>
      obtain ⟨u, hu, rv⟩ := h.get hv
      have e1 : permL (k :: r) vs = (permL r vs).map (v :: ·) := permL_c hv
      have e2 : permL (k :: r) us = (permL r us).map (u :: ·) := permL_c hu
      rw [e1, e2, Option.isSome_map, Option.isSome_map]; exact ih
def pmG {α : Type} (w : KwI) : List α → List α → List α := fun vs zs => if vs.length = w.np ∧ zs.length = w.ks.length then (permL w.perm (vs ++ zs)).getD [] else []
theorem pmG_of {α : Type} {w : KwI} {vs zs : List α} (h : vs.length = w.np) (h2 : zs.length = w.ks.length) : pmG w vs zs = (permL w.perm (vs ++ zs)).getD [] := if_pos ⟨h, h2⟩
theorem kbinds {K : PySem.W.Frag} {fd : FuncData} {ps : List Str} {w : KwI} (hp : ps.length ≠ 0) (h : ∀ (s : Shared) (us ws : List Value), us.length = w.np → ws.length = w.ks.length → BindsTo s fd ⟨us, w.ks.zip ws⟩ (ps.zip ((permL w.perm (us ++ ws)).getD []))) : KBinds K fd ps w.ks (pmG w) (pmG w) := by
  refine ⟨fun s us ws _ hl => ?_, fun {vs us zs ws} a b => ?_⟩
  · by_cases q : us.length = w.np ∧ ws.length = w.ks.length
    · rw [pmG_of q.1 q.2]; exact h s us ws q.1 q.2
    · exfalso
      unfold pmG at hl
      rw [if_neg q] at hl
      exact hp hl.symm
  · unfold pmG
    rw [a.length, b.length]
    split
    · exact permL_vals (a.append b) w.perm
    · exact .nil
theorem callK_core {RL : List Expr → TA} (L : LRun X RL) {C : CtxQ} {i np : Nat} {w : KwI} {xs : List (Option Nat)} {es : List Expr} {rs : List R3} (hl : SndL X es rs) (hx : ∀ (k i : Nat), xs[k]? = some (some i) → ∃ (x : Str) (p : Pos), es[k]? = some (.Name x p) ∧ PE X (.Name x p) (tVar i))
    (hw : C.kws[i]? = some w) (hlen : ∀ sl r, C.call w.j sl = some r → sl.length = np) {z : Z} (R : Rel X.K z) {r : MV} {ρ' : Env} (e1 : evCallK C i xs rs z.ρ = some (r, ρ')) {Q : VK}
    (q : ∀ u z' T, Stp X.K z z' → z'.ρ = ρ' → z'.σ = z.σ → Tmp X.K z z' r u T → Q u z'.H) : RL es z.σ z.H fun vs H1 => spD X.K np (C.call w.j) ((permL w.perm vs).getD []) H1 Q E0 := by
  unfold evCallK at e1
  rw [hw] at e1
  obtain ⟨⟨as0, ρ1, ls⟩, h1, e2⟩ := bind_some (show (evA w.ms xs rs z.ρ).bind _ = some _ from e1)
  obtain ⟨as, h0, e2⟩ := bind_some e2
  obtain ⟨sl, h2, e3⟩ := bind_some e2
  obtain ⟨⟨r', outs⟩, h3, e4⟩ := bind_some e3
  obtain ⟨ρ2, h4, e5⟩ := bind_some e4
  cases e5
  refine evA_ok L hl _ xs hx z as0 ρ1 ls R h1 _ fun us0 z1 p1 er1 es1 ar0 => ?_
  obtain ⟨us, e6, ar⟩ := permL_args ar0 h0
  have h2 : fill as z1.ρ = some sl := by rw [er1]; exact h2
  obtain ⟨a1, _, _, _⟩ := fill_spec as z1.ρ sl h2
  obtain ⟨R0, sS⟩ := in_ok p1.rel ar h2
  rw [e6]
  refine ⟨inZ z1 as sl us, _, outs, R0, rfl, rfl, ?_, h3, fun v zo T s er t => ?_⟩
  · show us.length = np
    rw [ar.length, ← a1]; exact hlen sl _ h3
  · have h4 : back as zo.ρ z1.ρ = some ρ2 := by rw [er, er1]; exact h4
    obtain ⟨so, ap⟩ := out_ok p1.rel ar h2 s h4
    refine q v ((outZ z1 as ρ2 zo).setR (unl ls ρ2)) T (p1.close _ so) rfl es1 ⟨t.own, t.nd, fun b hb i hi => ?_, fun b hb => ?_⟩
    · rcases ap b i hi with ⟨k, hk⟩ | ⟨n1, n2⟩
      · exact t.apart b hb k hk
      · rcases t.new b hb with w | w
        · exact n2 w
        · exact n1 w
    · rcases t.new b hb with w | w
      · exact p1.fr.newS b (sS b w)
      · exact .inr (p1.fr.there b w)
theorem kw_args {env : PySem.Env} {pos : Pos} : ∀ (kws : List Keyword), (backToKw pos (keywordEach kws env)).map (·.1) = kws.map (·.arg)
  | [] => rfl
  | ⟨a, v, p⟩ :: r => by
    have ih := kw_args (env := env) (pos := pos) r
    show a :: (backToKw pos (keywordEach r env)).map (·.1) = a :: r.map (·.arg)
    rw [ih]
theorem kw_all {l : List (Option Str × Sem Value)} {ks : List Str} (h : l.map (·.1) = ks.map some) : l.all (·.1.isSome) = true ∧ l.filterMap (·.1) = ks ∧ l.any (·.1.isNone) = false := by
  induction l generalizing ks with
  | nil => cases ks with
    | nil => exact ⟨rfl, rfl, rfl⟩
    | cons _ _ => cases h
  | cons a l ih => cases ks with
    | nil => cases h
    | cons k ks =>
      have h : a.1 :: l.map (·.1) = some k :: ks.map some := h
      injection h with h1 h2
      obtain ⟨i1, i2, i3⟩ := ih h2
      refine ⟨?_, ?_, ?_⟩
      · rw [List.all_cons, h1, i1]; rfl
      · rw [List.filterMap_cons, h1, i2]
      · rw [List.any_cons, h1, i3]; rfl
theorem callK_snd {C : CtxQ} {i np k : Nat} {w : KwI} {x : Str} {p : Pos} {f : Addr} {fd : FuncData} {ps : List Str} {xs : List (Option Nat)} {es : List Expr} {kws : List Keyword} {rs : List R3} (hl : SndL X (es ++ kws.map (·.value)) rs)
    (hx : ∀ (k i : Nat), xs[k]? = some (some i) → ∃ (x : Str) (p : Pos), (es ++ kws.map (·.value))[k]? = some (.Name x p) ∧ PE X (.Name x p) (tVar i)) (hw : C.kws[i]? = some w) (hlen : ∀ sl r, C.call w.j sl = some r → sl.length = np)
    (F : FnOk X.prog X.w X.K X.mg X.base CX0 k f fd ps (spD X.K np (C.call w.j))) (hr : Room k X.A) (hg : Gl X x) (hm : X.mg x = some (.ref f)) (hk : PySem.W.keepIn X.K (.ref f) = true) (hks : kws.map (·.arg) = w.ks.map some)
    (hnp : es.length = w.np) (hb : KBinds X.K fd ps w.ks (pmG w) (pmG w)) (hdb : (x == ("__debug__" : Str)) = false) : Snd X (.Call (.Name x p) es kws pos) (ofV (evCallK C i xs rs)) := by
  refine SndV.snd (fun z r ρ' R e1 Q q => ?_) rfl
  have core := callK_core lrunM hl hx hw hlen R e1 q es kws rfl
  have kl : kws.length = w.ks.length := by have := congrArg List.length hks; simpa using this
  obtain ⟨k1, k2, k3⟩ := kw_all ((kw_args (env := X.env) (pos := pos) kws).trans hks)
  cases es with
  | nil =>
    intro pins s I
    refine wpAny_Call_Name_kw (ld_glob I hg hm ?_ hdb)
    refine PySem.W.callWith_KW0 (h₀ := X.base) I.ok.mod.kin hk k1 (thn (prk.run pos pins s z.σ z.H _ I core) fun ws s2 ⟨zs, H2, I2, rz, lz, q2⟩ => ⟨I2.kIn, ?_⟩) (by rw [k3]; rfl)
    rw [k2]
    refine run_fnk (us := []) (vs := []) (E := E0) F hr hb pass0 I2 .nil rz ?_
    rw [pmG_of (show ([] : List V).length = w.np from hnp) (lz.trans kl)]; exact q2
  | cons e es =>
    have hpl := hl.plainL (l := e :: es) pos X.env
    have hn : notSt e = true := by cases hl with | cons h _ _ => exact h
    refine PE.rn (pe_callK (E := E0) F hr hg hm hk hb pass0 pra prk k1 k2 hdb (notSt_ok hn _ _) (by rw [hpl, k3]; rfl)) (RunsA.mono core fun vs H1 q => RunsK.mono q.2 fun zs H2 q2 => by
      rw [pmG_of (q.1.trans hnp) (q2.1.trans kl)]; exact q2.2)

/-! ### a fresh tree, handed over whole -/
def tmpZ (z : Z) (r : MV) (u : V) (T : List Addr) : Z := ⟨z.A, z.H, [.own r], [some u], fun i => if i = 0 then T else []⟩
theorem tmpZ_S {z : Z} {r : MV} {u : V} {T : List Addr} {a : Addr} : (tmpZ z r u T).S a ↔ a ∈ T := by
  refine ⟨fun ⟨i, h, _⟩ => ?_, fun h => ⟨0, by show a ∈ (if (0 : Nat) = 0 then T else []); rw [if_pos rfl]; exact h, fun ⟨m, e⟩ => by cases e⟩⟩
  have h : a ∈ (if i = 0 then T else []) := h
  split at h
  · exact h
  · cases h
theorem callT_snd {C : CtxQ} {j np k : Nat} {x : Str} {p : Pos} {f : Addr} {fd : FuncData} {ps : List Str} {e : Expr} {re : R3} (he : Snd X e re) (hn : notSt e = true) (hlen : ∀ sl r, C.call j sl = some r → sl.length = np)
    (F : FnOk X.prog X.w X.K X.mg X.base CX0 k f fd ps (spD X.K np (C.call j))) (hr : Room k X.A) (hg : Gl X x) (hm : X.mg x = some (.ref f)) (hk : PySem.W.keepIn X.K (.ref f) = true) (hb : Binds X.K fd ps [])
    (hdb : (x == ("__debug__" : Str)) = false) : Snd X (.Call (.Name x p) [e] [] pos) (ofV fun ρ => (re.v ρ).bind fun q => (C.call j [.own q.1]).bind fun c => some (c.1, q.2)) := by
  refine SndV.snd (fun z r ρ' R e1 Q q => ?_) rfl
  obtain ⟨⟨r1, ρ1⟩, h1, e2⟩ := bind_some (show (re.v z.ρ).bind _ = some _ from e1)
  obtain ⟨⟨r', outs⟩, h2, e3⟩ := bind_some e2
  cases e3
  refine PE.rn (pe_call (E := E0) F hr hg hm hk hb .nil pass0 (pa_cons pr pa_nil (notSt_ok hn _ _)) hdb (notSt_ok hn _ _) rfl) (he.v z r1 ρ1 R h1 _ fun u z1 T1 s1 er1 es1 t1 => ?_)
  have R1 := s1.rel
  have R0 : Rel X.K (tmpZ z1 r1 u T1) := by
    refine ⟨rfl, fun i s e => ?_, fun i e => ?_, fun i => ?_, fun i i' a h h' => ?_, R1.trk⟩
    · cases i with
      | zero =>
        cases e
        exact ⟨_, rfl, .own t1.own⟩
      | succ i => cases i <;> cases e
    · cases i with
      | zero => cases e
      | succ i => rfl
    · show (if i = 0 then T1 else []).Nodup
      split
      · exact t1.nd
      · exact List.nodup_nil
    · have h : a ∈ (if i = 0 then T1 else []) := h
      have h' : a ∈ (if i' = 0 then T1 else []) := h'
      split at h
      · split at h'
        · omega
        · cases h'
      · cases h
  refine ⟨tmpZ z1 r1 u T1, _, outs, R0, rfl, rfl, hlen _ _ h2, h2, fun v zo T so ero to => ?_⟩
  have nT : ∀ {b : Addr} {o : HO}, z.H b = some o → ¬ z.S b → ¬ (tmpZ z1 r1 u T1).S b := fun {b o} e n h => by
    rcases t1.new b (tmpZ_S.mp h) with q | q
    · exact n q
    · rw [e] at q; cases q
  have apT : ∀ {b : Addr} {i : Nat}, b ∈ z1.TS i → ¬ (tmpZ z1 r1 u T1).S b := fun {b i} hb h => t1.apart b (tmpZ_S.mp h) i hb
  have trk1 : ∀ {b : Addr} {i : Nat}, b ∈ z1.TS i → z1.H b ≠ none := fun {b i} hb => R1.trk b (R1.subT i b hb)
  have fr : Fr z.A z.S z.H zo.A z1.S zo.H := by
    refine ⟨fun b o e n => so.fr.keep b o (s1.fr.keep b o e n) (nT e n), fun a h => ?_, s1.fr.newS, fun a h n => ?_, fun b h => s1.fr.there b (so.fr.there b h)⟩
    · rcases so.fr.newA a h with h | h
      · exact s1.fr.newA a h
      · exact .inr (s1.fr.there a h)
    · obtain ⟨o, eo⟩ := Option.ne_none_iff_exists'.mp (R.trk a h)
      exact so.fr.keepA a (s1.fr.keepA a h n) (nT eo n)
  have st : Stp X.K z ⟨zo.A, zo.H, z1.ρ, z1.σ, z1.TS⟩ := by
    refine Stp.build R fr s1.kp R1.len (fun i s e hbo => ?_) (fun i fl d e => ?_) R1.out R1.nd R1.dj so.rel.trk
    · obtain ⟨o, e2, r⟩ := R1.slot i s e
      refine ⟨o, e2, ?_⟩
      have lift : ∀ {m : MV} {v : V}, Own X.K z1.A z1.H m v (z1.TS i) → Own X.K zo.A zo.H m v (z1.TS i) := fun q =>
        q.step (fun b o e n => so.fr.keep b o e fun h => n (R0.sub b h)) so.fr.newA fun b hb => ⟨fun o e => so.fr.keep b o e (apT hb), so.fr.keepA b (R1.subT i b hb) (apT hb)⟩
      show SlotR X.K zo.A _ zo.H s o (z1.TS i)
      generalize z1.TS i = Tj at r lift
      cases r with
      | unset => exact .unset
      | own r => exact .own (lift r)
      | io r => exact .io (lift r)
      | lck r => exact .lck (lift r)
      | bor r => cases hbo
    · obtain ⟨o, e2, r⟩ := R1.slot i _ e
      show z1.TS i = []
      generalize z1.TS i = Tj at r
      cases r with | bor _ => rfl
  refine q v ⟨zo.A, zo.H, z1.ρ, z1.σ, z1.TS⟩ T st er1 es1 ⟨to.own, to.nd, fun b hb i hi => ?_, fun b hb => ?_⟩
  · rcases to.new b hb with h | h
    · exact apT hi h
    · exact trk1 hi h
  · rcases to.new b hb with h | h
    · exact t1.new b (tmpZ_S.mp h)
    · exact .inr (s1.fr.there b h)
end
end Q
set_option maxHeartbeats 2000000
namespace L2
open PySem PySem.Spec PyProof.Rows
/-- enumerate(v): its two new cells, v anything that is walked by a new object o -/
theorem newEnumB {v : Value} {o : Obj} {Hv : Heap → Prop} (B : Begins v o Hv) : Meets (Builtin.«enumerate.__new__» ⟨[.type "enumerate", v], []⟩) (fun _ R s => Hv s.heap ∧ R (.ok (.ret (.ref (s.heap.push o).objs.size))) { s with heap := (s.heap.push o).push { cls := .type "enumerate", data := .fields #[.none, .bool false, .ref s.heap.objs.size, rawInt 0, .none, .none] } }) := .of_wp fun prog w A R s h => by
  obtain ⟨hp, g, d, tk, os⟩ := s; obtain ⟨h1, h⟩ := h; have sub := sub_enumerate
  have q1 : ∀ {A' : Around} {E : Value → Shared → Prop} {Q : Value → Shared → Prop}, Q (.ref hp.objs.size) ⟨hp.push o, g, d, tk, os⟩ → wpAny (model prog w) A' (pyIter v) Q E ⟨hp, g, d, tk, os⟩ := fun q => B.iter prog w _ _ ⟨hp, g, d, tk, os⟩ _ h1 q
  wp_walk using q1
  refine wpAny_stack_any fun st => wpAny_pure ?_
  split
  · rename_i c _ _ _ _ _; cases (c == Value.type "enumerate") <;> (wp_walk using q1; exact ⟨_, rfl, h⟩)
  · wp_walk using q1; exact ⟨_, rfl, h⟩
theorem callEnumB {prog : Program} {w : World} {A : Around} {E : Value → Shared → Prop} {s : Shared} {v : Value} {o : Obj} {Hv : Heap → Prop} {Q : Value → Shared → Prop} (B : Begins v o Hv) (h1 : Hv s.heap)
    (h : ∀ h', IsEnum h' (s.heap.objs.size + 1) s.heap.objs.size 0 .none → h'.get? s.heap.objs.size = some o → (∀ b o, s.heap.get? b = some o → h'.get? b = some o) → Q (.ref (s.heap.objs.size + 1)) { s with heap := h' }) : wpAny (model prog w) A (call (.type "enumerate") [v]) Q E s := by
  refine callType_new F.called_enumerate (by decide) (F.typeCall_enumerate_1 _) (F.newCall_enumerate_1 _) (fun obj => F.args_object_init_2 obj _) F.entry_enumerate_new (newEnumB B) ⟨h1, ?_⟩
  have hz : (s.heap.push o).objs.size = s.heap.objs.size + 1 := Heap.size_push ..
  show _ ∧ _; rw [hz]
  have he : IsEnum ((s.heap.push o).push { cls := .type "enumerate", data := .fields #[.none, .bool false, .ref s.heap.objs.size, rawInt 0, .none, .none] }) (s.heap.objs.size + 1) s.heap.objs.size 0 .none := by
    have := Heap.get?_push_size (s.heap.push o) (o := { cls := .type "enumerate", data := .fields #[.none, .bool false, .ref s.heap.objs.size, rawInt 0, .none, .none] }) rfl; rw [hz] at this; exact this
  exact ⟨⟨_, he, rfl⟩, h _ he (Heap.get?_push_of_some _ (Heap.get?_push_size _ B.free)) fun b o x => Heap.get?_push_of_some _ (Heap.get?_push_of_some _ x)⟩
/-- the tuple at a, each item in a new pair -/
def IteT (K : PySem.W.Frag) (a : Addr) : It :=
  ⟨fun i H => ∃ (xs : List V) (x : V), SqT K H a xs ∧ xs[i]? = some x, fun i H v H' => ∃ T x, v = .ref T ∧ H T = none ∧ H' = upd H T (.tup [.int (i : Nat), x]) ∧ ∀ xs, SqT K H a xs → xs[i]? = some x, fun i H => ∃ xs : List V, SqT K H a xs ∧ xs.length = i⟩
theorem turnEnumT {P : Program} {w : World} {K : PySem.W.Frag} {elts : List Expr} {kk : Nat} {tpos : Pos} (a e it : Addr) (hai : a ≠ it) (hae : a ≠ e) : Turn P w K (.Tuple elts kk tpos) (IteT K a) [e, it] e (fun i h => (∃ old, IsEnum h e it ((i : Nat) : Int) old) ∧ h.IsTupleIter it a i ∧ e ≠ it) where
  mem := by simp
  obj := fun i h st b hb => by
    obtain ⟨⟨old, he⟩, ⟨o, ho, hc, hd⟩, _⟩ := st
    rcases (show b = e ∨ b = it by simpa using hb) with z | z
    · rw [z]; exact ⟨_, he, fun v q => nomatch q⟩
    · rw [z]; exact ⟨o, ho, fun v q => by rw [hd] at q; cases q⟩
  keep := fun i h h' st k => let ⟨⟨old, he⟩, hi, hne⟩ := st; ⟨⟨old, k e (by simp) _ he⟩, hi.at fun o q => k it (by simp) o q, hne⟩
  item := by
    intro X hP hw hK hc i pins s σ H E I hf st hg
    subst hP hw hK
    obtain ⟨⟨old, he⟩, hit, hne⟩ := st
    obtain ⟨xs, x, hq, hx⟩ := hg
    obtain ⟨its, rv, p, hz⟩ := I.tuple hq
    obtain ⟨u, hu, ru⟩ := rv.get hx
    have l1 : e < s.heap.objs.size := Heap.lt_size he
    have l2 : it < s.heap.objs.size := by obtain ⟨_, q, _⟩ := hit; exact Heap.lt_size q
    have hlt : i < its.toArray.size := by simpa using (List.getElem?_eq_some_iff.mp hu).1
    refine wpAny_pyNext_enum_itemD (Draws.tuple (A := X.A.in1) (by simp [I.ok.hd hc]) it a hai its.toArray) he ⟨hit, p⟩ hlt hne (by simp only [List.mem_cons, List.not_mem_nil, or_false, not_or]; exact ⟨hne, Ne.symm hae⟩) fun y h' tk hy ho hst' hT hsz hk => ?_
    have ey : y = u := by
      have hy : its.toArray[i]? = some y := hy
      rw [List.getElem?_toArray, hu] at hy; exact (Option.some.inj hy).symm
    subst ey
    refine ⟨_, rfl, wpAny_letOwnedTupleGo_enum (s := { s with heap := h', toks := tk + 1 }) ho fun h'' he' sb => ?_⟩
    have t2 : h''.get? s.heap.objs.size = some { cls := .type "tuple", data := .seq #[.int i tk, y] } := (sb.2 _ (Nat.ne_of_gt l1)).trans hT
    have nw : ObjOk X.prog X.w (upd H s.heap.objs.size (.tup [.int (i : Nat), x])) h'' s.heap.objs.size (.tup [.int (i : Nat), x]) := ⟨by show 2 ≤ sizeLine; decide, [.int i tk, y], .cons ⟨_, rfl⟩ (.cons ru .nil), ⟨_, t2, rfl, _, rfl⟩⟩
    have I1 : Inv X pins σ (upd H s.heap.objs.size (.tup [.int (i : Nat), x])) { s with heap := h'', toks := tk + 1 } := I.turnedNew (ch := [e, it]) (fun b ob hb q => (sb.2 b (fun z => hb (by simp [z]))).trans (hk b ob (fun z => hb (by simp [z])) (fun z => hb (by simp [z])) q)) hf (Nat.le_refl _) nw
    refine ⟨.ref s.heap.objs.size, _, I1, rfl, ⟨_, x, rfl, I.hok.fresh (Nat.le_refl _), rfl, fun ys hy => by rw [I.tuple_inj hy hq]; exact hx⟩, ⟨⟨y, ?_⟩, hst'.1.at fun o q => (sb.2 it (Ne.symm hne)).trans q, hne⟩, fun b hb => ?_⟩
    · rw [show ((i + 1 : Nat) : Int) = (i : Int) + 1 by omega]; exact he'
    · have lb : b < s.heap.objs.size := by
        rcases (show b = e ∨ b = it by simpa using hb) with z | z <;> rw [z] <;> assumption
      rw [upd_ne (Nat.ne_of_lt lb)]; exact (hf b hb).1
  done := by
    intro X hP hw hK hc i pins s σ H E I hf st hg
    subst hP hw hK
    obtain ⟨⟨old, he⟩, hit, hne⟩ := st
    obtain ⟨xs, hq, hx⟩ := hg
    obtain ⟨its, rv, p, hz⟩ := I.tuple hq
    obtain ⟨f0, f1, f2, f3, f4, f5⟩ := hf it (by simp)
    have hl := rv.length
    have ei : i = its.toArray.size := by simp; omega
    rw [ei] at hit he
    exact wpAny_pyNext_enum_endD (Draws.tuple (A := X.A.in1) (by simp [I.ok.hd hc]) it a hai its.toArray) he ⟨hit, p⟩ fun h' eb => ⟨rfl, I.turned (t' := s.toks) (fun b o hb q => eb b o hb q) f0 f1 f3 f4 f5⟩
  self := fun A i s Q E st h => let ⟨⟨_, he⟩, _⟩ := st; wpAny_pyIter_enum he h
def iEnumT (K : PySem.W.Frag) (ta : TA) : TI := fun σ H R => ta σ H fun vs H1 => ∃ a xs, vs = [.ref a] ∧ ((SqL K H1 a xs ∧ R (Ite K a) H1) ∨ (SqT K H1 a xs ∧ R (IteT K a) H1))
theorem piEnumT {X : Cx} {e : Expr} {ta : TA} {p pos tpos : Pos} {elts : List Expr} {kk : Nat} (hg : Gl X "enumerate") (hm : X.mg "enumerate" = none) (ha : PA X [e] ta) (hs : starEach [e] X.env = [(false, eval e X.env)] := by rfl) : PI X (.Tuple elts kk tpos) (.Call (.Name "enumerate" p) [e] [] pos) (iEnumT X.K ta) := by
  refine ⟨fun pins s σ H R I h => ?_⟩
  refine Call_ (ld_blt I hg hm boot_enumerate (PyProof.Rows.callWith_type1 (thn (ha.run pos pins s σ H _ I h) fun us s1 ⟨vs, H1, I1, r1, q1⟩ => ?_) hs rfl))
  obtain ⟨a, xs, ex, hq⟩ := q1; subst ex
  cases r1 with
  | cons r rr =>
    cases rr; cases r
    have fp : ∀ b ∈ [s1.heap.objs.size + 1, s1.heap.objs.size], FpOk X pins H1 b := fun b hb => by
      have hle : s1.heap.objs.size ≤ b := by rcases (show b = s1.heap.objs.size + 1 ∨ b = s1.heap.objs.size by simpa using hb) with z | z <;> omega
      exact I1.fpOk hle (I1.hok.fresh hle)
    rcases hq with ⟨hq, q⟩ | ⟨hq, q⟩
    · obtain ⟨its, rv, p', hz⟩ := I1.list hq
      refine call_enumerate_list p'.isList fun h' he hit hsz hk => wpAny_pyIter_enum he ?_
      exact ⟨s1.heap.objs.size + 1, [s1.heap.objs.size + 1, s1.heap.objs.size], _, _, H1, rfl, I1.kept (t' := s1.toks) hk, turn_enum a (s1.heap.objs.size + 1) s1.heap.objs.size, ⟨⟨.none, he⟩, hit, Nat.succ_ne_self _⟩, fp, q⟩
    · obtain ⟨its, rv, p', hz⟩ := I1.tuple hq
      have la : a < s1.heap.objs.size := by obtain ⟨o, ho, _⟩ := p'; exact Heap.lt_size ho
      refine callEnumB (begins_tuple a its.toArray) p' fun h' he hit hk => wpAny_pyIter_enum he ?_
      exact ⟨s1.heap.objs.size + 1, [s1.heap.objs.size + 1, s1.heap.objs.size], _, _, H1, rfl, I1.kept (t' := s1.toks) hk, turnEnumT a (s1.heap.objs.size + 1) s1.heap.objs.size (Nat.ne_of_lt la) (Nat.ne_of_lt (Nat.lt_succ_of_lt la)), ⟨⟨.none, he⟩, ⟨_, hit, rfl, rfl⟩, Nat.succ_ne_self _⟩, fp, q⟩
end L2
set_option maxHeartbeats 1000000
namespace Q
open PySem L2 PyProof.Rows
section
variable {K : PySem.W.Frag}
/-- a callee that has some trees of its own alone: the caller's state behind it -/
theorem tmp_out {z z1 z0 zo : Z} {T1 : List Addr} (R : Rel K z) (s1 : Stp K z z1) (hA : z0.A = z1.A) (hH : z0.H = z1.H) (R0 : Rel K z0) (hS : ∀ a, z0.S a → a ∈ T1) (apT1 : ∀ b ∈ T1, ∀ i, b ∉ z1.TS i) (newT : ∀ b ∈ T1, z.S b ∨ z.H b = none) (so : Stp K z0 zo) :
    Stp K z ⟨zo.A, zo.H, z1.ρ, z1.σ, z1.TS⟩ ∧ ∀ b : Addr, (z0.S b ∨ z0.H b = none) → (∀ i, b ∉ z1.TS i) ∧ (z.S b ∨ z.H b = none) := by
  have R1 := s1.rel
  have nT : ∀ {b : Addr} {o : HO}, z.H b = some o → ¬ z.S b → ¬ z0.S b := fun {b o} e n h => by
    rcases newT b (hS b h) with q | q
    · exact n q
    · rw [e] at q; cases q
  have apT : ∀ {b : Addr} {i : Nat}, b ∈ z1.TS i → ¬ z0.S b := fun {b i} hb h => apT1 b (hS b h) i hb
  have trk1 : ∀ {b : Addr} {i : Nat}, b ∈ z1.TS i → z1.H b ≠ none := fun {b i} hb => R1.trk b (R1.subT i b hb)
  have keep : ∀ b o, z1.H b = some o → ¬ z0.S b → zo.H b = some o := fun b o e n => so.fr.keep b o (by rw [hH]; exact e) n
  have newA : ∀ a, zo.A a → z1.A a ∨ z1.H a = none := fun a h => by
    have := so.fr.newA a h
    rw [hA, hH] at this; exact this
  have keepA : ∀ a, z1.A a → ¬ z0.S a → zo.A a := fun a h n => so.fr.keepA a (by rw [hA]; exact h) n
  have there : ∀ b, zo.H b = none → z1.H b = none := fun b h => by
    have := so.fr.there b h
    rwa [hH] at this
  have fr : Fr z.A z.S z.H zo.A z1.S zo.H := by
    refine ⟨fun b o e n => keep b o (s1.fr.keep b o e n) (nT e n), fun a h => ?_, s1.fr.newS, fun a h n => ?_, fun b h => s1.fr.there b (there b h)⟩
    · rcases newA a h with h | h
      · exact s1.fr.newA a h
      · exact .inr (s1.fr.there a h)
    · obtain ⟨o, eo⟩ := Option.ne_none_iff_exists'.mp (R.trk a h)
      exact keepA a (s1.fr.keepA a h n) (nT eo n)
  refine ⟨Stp.build R fr s1.kp R1.len (fun i s e hbo => ?_) (fun i fl d e => ?_) R1.out R1.nd R1.dj so.rel.trk, fun b h => ?_⟩
  · obtain ⟨o, e2, r⟩ := R1.slot i s e
    refine ⟨o, e2, ?_⟩
    have lift : ∀ {m : MV} {v : V}, Own K z1.A z1.H m v (z1.TS i) → Own K zo.A zo.H m v (z1.TS i) := fun q =>
      q.step (fun b o e n => keep b o e fun h => n (by have := R0.sub b h; rwa [hA] at this)) newA fun b hb => ⟨fun o e => keep b o e (apT hb), keepA b (R1.subT i b hb) (apT hb)⟩
    show SlotR K zo.A _ zo.H s o (z1.TS i)
    generalize z1.TS i = Tj at r lift
    cases r with
    | unset => exact .unset
    | own r => exact .own (lift r)
    | io r => exact .io (lift r)
    | lck r => exact .lck (lift r)
    | bor r => cases hbo
  · obtain ⟨o, e2, r⟩ := R1.slot i _ e
    show z1.TS i = []
    generalize z1.TS i = Tj at r
    cases r with | bor _ => rfl
  · rcases h with h | h
    · exact ⟨apT1 b (hS b h), newT b (hS b h)⟩
    · rw [hH] at h
      exact ⟨fun i hi => trk1 hi h, .inr (s1.fr.there b h)⟩
theorem Reps.len {A : AP} {H : Hp} : ∀ {us : List V} {ds : List D}, Reps K A H us ds → us.length = ds.length
  | _, _, .nil => rfl
  | _, _, .cons _ r => by simp [Reps.len r]
def argZ (z : Z) (ds : List D) (us : List V) : Z := ⟨z.A, z.H, datS ds, us.map some, fun _ => []⟩
theorem datS_get {ds : List D} {k : Nat} {s : Slot} (h : (datS ds)[k]? = some s) : ∃ d, ds[k]? = some d ∧ s = .own (.val d) := by
  unfold datS at h
  rw [List.getElem?_map] at h
  obtain ⟨d, h1, h2⟩ := Option.map_eq_some_iff.mp h
  exact ⟨d, h1, h2.symm⟩
theorem argZ_rel {z : Z} {ds : List D} {us : List V} (R : Rel K z) (h : Reps K z.A z.H us ds) : Rel K (argZ z ds us) := by
  refine ⟨?_, fun i s e => ?_, fun _ _ => rfl, fun _ => List.nodup_nil, fun _ _ _ h => (nomatch h), R.trk⟩
  · show (datS ds).length = (us.map some).length
    unfold datS
    rw [List.length_map, List.length_map, h.len]
  · obtain ⟨d, h1, rfl⟩ := datS_get (show (datS ds)[i]? = some s from e)
    obtain ⟨v, hv, r⟩ := h.getV h1
    exact ⟨some v, by show (us.map some)[i]? = _; rw [List.getElem?_map, hv]; rfl, .own (.val r)⟩
/-- a call with data alone -/
theorem dat_call {z z3 : Z} {ds : List D} {us : List V} {r : MV} {outs : Env} {np : Nat} {sem : Env → Option (MV × Env)} {Q : VK} (R : Rel K z) (s3 : Stp K z z3) (h : Reps K z3.A z3.H us ds) (hc : sem (datS ds) = some (r, outs)) (hlen : ∀ sl r, sem sl = some r → sl.length = np)
    (q : ∀ u z' T, Stp K z z' → z'.ρ = z3.ρ → z'.σ = z3.σ → Tmp K z z' r u T → Q u z'.H) : spD K np sem us z3.H Q E0 := by
  refine ⟨argZ z3 ds us, r, outs, argZ_rel s3.rel h, rfl, rfl, ?_, hc, fun v zo T so ero to => ?_⟩
  · have := hlen _ _ hc
    unfold datS at this
    rw [List.length_map] at this
    rw [h.len]; exact this
  · obtain ⟨st, ap⟩ := tmp_out (z0 := argZ z3 ds us) (T1 := []) R s3 rfl rfl (argZ_rel s3.rel h) (fun a ⟨i, hi, _⟩ => hi) (fun _ h => (nomatch h)) (fun _ h => (nomatch h)) so
    exact q v ⟨zo.A, zo.H, z3.ρ, z3.σ, z3.TS⟩ T st rfl rfl ⟨to.own, to.nd, fun b hb => (ap b (to.new b hb)).1, fun b hb => (ap b (to.new b hb)).2⟩
end
section
variable {X : Cx} {a : Expr} {ra : R3} {pos : Pos}
theorem isObj_ok {K : PySem.W.Frag} {A : AP} {H : Hp} {u : V} {d : D} {c m : Str} {C : Addr} (r : Rep K A H u d) (h : isObjD (some c) m d = true) (kc : KCls K c C) : ∃ (b dx : Addr) (fs : List (Str × V)), u = .ref b ∧ H b = some (.ins C dx fs) ∧ fs.lookup m = none := by
  unfold isObjD at h
  split at h
  · rename_i q hq
    obtain ⟨c', fs, vs⟩ := q
    rw [Bool.and_eq_true] at h
    have e0 := of_decide_eq_true h.1
    cases e0
    obtain ⟨b, C', dx, fs', xs, rfl, hH, kc', cl, nn, rfl, hl, nd, rs⟩ := objD_rep r hq
    have e : C' = C := by
      unfold KCls at kc kc'
      rw [kc] at kc'
      cases kc'; rfl
    subst e
    refine ⟨b, dx, _, rfl, hH, ?_⟩
    have h2 : (posD m (fs'.map PyData.str)).isNone = true := h.2
    rw [posD_str] at h2
    rw [lookup_zip hl, Option.isNone_iff_eq_none.mp h2]; rfl
  · cases h
/-- a row of arguments -/
def EvR (X : Cx) (rs : List R3) (RA : TA) : Prop := ∀ (z : Z) (ms : List MV) (ρ' : Env), Rel X.K z → evs rs z.ρ = some (ms, ρ') → ∀ Q : List V → Hp → Prop, (∀ us z' T, Stp X.K z z' → z'.ρ = ρ' → z'.σ = z.σ → TmpS X.K z z' ms us T → Q us z'.H) → RA z.σ z.H Q
theorem evR_nil : EvR X [] tNil := fun z ms ρ' R e Q q => by
  cases e
  exact q [] z [] (Stp.refl R) rfl rfl ⟨.nil, List.nodup_nil, fun _ h => (nomatch h), fun _ h => (nomatch h)⟩
/-- o.m(..) of an instance that is data -/
theorem callF_core {C : CtxQ} {j np : Nat} {m c : Str} {C0 : Addr} {rs : List R3} {RA : TA} (ha : Snd X a ra) (hl : EvR X rs RA) (hlen : ∀ sl r, C.call j sl = some r → sl.length = np) (hc : C.cls j = some c) (kc : KCls X.K c C0)
    {z : Z} (R : Rel X.K z) {r : MV} {ρ' : Env} (e1 : evCallF C j m ra rs z.ρ = some (r, ρ')) {Q : VK}
    (q : ∀ u z' T, Stp X.K z z' → z'.ρ = ρ' → z'.σ = z.σ → Tmp X.K z z' r u T → Q u z'.H) : tMeth C0 m (spD X.K np (C.call j)) [] E0 (RunsE X a) RA z.σ z.H Q := by
  obtain ⟨⟨m0, ρ1⟩, h1, e2⟩ := bind_some (show (ra.v z.ρ).bind _ = some _ from e1)
  dsimp only at e2
  split at e2
  rotate_left
  · cases e2
  rename_i hob
  rw [hc] at hob
  obtain ⟨⟨ms, ρ2⟩, h2, e3⟩ := bind_some e2
  obtain ⟨⟨r', outs⟩, h3, e4⟩ := bind_some e3
  cases e4
  refine ha.v z m0 ρ1 R h1 _ fun u z1 T1 s1 er1 es1 t1 => ?_
  have rp := t1.froze
  have sd1 := s1.drop R t1
  obtain ⟨b, dx, fs, eu, hH, lk⟩ := isObj_ok rp hob kc
  refine ⟨b, dx, fs, eu, hH, lk, ?_⟩
  have es1' : (z1.drop T1).σ = z.σ := es1
  rw [← es1']
  refine hl (z1.drop T1) ms ρ2 sd1.rel (by show evs rs z1.ρ = _; rw [er1]; exact h2) _ fun us z2 T2 s2 er2 es2 t2 => ?_
  obtain ⟨sd2, rps⟩ := t2.dropS sd1.rel s2
  have st := sd1.trans R sd2
  have := dat_call (np := np) (sem := C.call j) (Q := Q) R st (.cons (rp.fr sd1.rel.sub sd2.fr) rps) h3 hlen fun u z' T s er es t => q u z' T s (er.trans er2) (es.trans (es2.trans es1)) t
  rw [List.append_nil]
  exact this
theorem meth_eq {m : Str} {ap : Pos} {es : List Expr} (hab : abOk a = true) (hp : (backTo pos (starEach es X.env)).any (·.1) = false) (hn : es.length < 29) (hline : (ap.endLine == pos.line) = true) : eval (.Call (.Attribute a m ap) es [] pos) X.env = (do
      let ov ← eval a X.env
      standAt ap.atName
      let (f, first) ← holding [ov] (getMethod ov m (do return (← importBound a X.env).getD true))
      callWith pos f first (backTo pos (starEach es X.env)) (backToKw pos (keywordEach [] X.env))) := by
  have hall : (backTo pos (starEach es X.env)).all (fun x => !x.1) = true := by
    rw [List.all_eq_not_any_not]
    simp only [Bool.not_not, hp, Bool.not_false]
  have hf : methodCallForm (es.length + ([] : List Keyword).length) (backTo pos (starEach es X.env)) (backToKw pos (keywordEach [] X.env)) = true := by
    have h1 : (backToKw pos (keywordEach [] X.env)) = [] := rfl
    unfold methodCallForm
    rw [hall, h1]
    simp only [List.all_nil, Bool.and_self, List.isEmpty_nil, if_true, Bool.true_and, List.length_nil, Nat.add_zero, decide_eq_true_eq]
    omega
  rw [arm_eval_Call, abOk_ok hab]
  simp only [methodCall, calleeOf, methodCallPos, hf, hline]
  rfl
theorem callF_v {C : CtxQ} {j np k : Nat} {m c : Str} {C0 f : Addr} {fd : FuncData} {ps : List Str} {es : List Expr} {rs : List R3} {ap : Pos} (hab : abOk a = true) (hes : es.length < 29) (hline : (ap.endLine == pos.line) = true) (ha : Snd X a ra) (hl : SndL X es rs) (hlen : ∀ sl r, C.call j sl = some r → sl.length = np) (hc : C.cls j = some c) (kc : KCls X.K c C0)
    (cl : Cls X.K C0) (hm : Meth X.K C0 m f) (F : FnOk X.prog X.w X.K X.mg X.base CX0 k f fd ps (spD X.K np (C.call j))) (hr : Room k X.A) (hb : Binds X.K fd ps []) : SndV X (.Call (.Attribute a m ap) es [] pos) (evCallF C j m ra rs) := by
  intro z r ρ' R e1 Q q
  cases es with
  | nil =>
    cases hl
    exact PE.rn (pe_meth0 (E := E0) pr cl hm F hr hb .nil pass0 (meth_eq hab rfl hes hline)) (callF_core ha evR_nil hlen hc kc R e1 q)
  | cons e es =>
    have hn : notSt e = true := by cases hl with | cons h _ _ => exact h
    refine PE.rn (pe_meth (E := E0) pr cl hm F hr hb .nil pass0 pra (notSt_ok hn _ _) ?_ (meth_eq hab (hl.plain _ _) hes hline)) (callF_core ha (fun z ms ρ' R e Q q => evs_ok hl z ms ρ' R e Q q) hlen hc kc R e1 q)
    cases hl with | cons _ _ t => exact t.plain _ _
/-- C(..): a new instance -/
theorem mk_fin {z z3 : Z} {C : CtxQ} {j np : Nat} {c : Str} {C0 : Addr} {ds : List D} {us : List V} {m : MV} {outs : Env} {Q : VK} (R : Rel X.K z) (s3 : Stp X.K z z3) (h : Reps X.K z3.A z3.H us ds) (kc : KCls X.K c C0) (cl : Cls X.K C0)
    (hc : C.call j (.io (.nd (.obj c []) []) :: datS ds) = some (.val .none, .io m :: outs)) (hlen : ∀ sl r, C.call j sl = some r → sl.length = np)
    (q : ∀ u z' T, Stp X.K z z' → z'.ρ = z3.ρ → z'.σ = z3.σ → Tmp X.K z z' m u T → Q u z'.H) (x dx : Addr) (hx : z3.H x = none) (hdx : z3.H dx = none) (hne : dx ≠ x) :
    spD X.K np (C.call j) (.ref x :: us) (upd (upd z3.H dx (.own x)) x (.ins C0 dx [])) (fun v H2 => v = .non ∧ Q (.ref x) H2) E0 := by
  have R3 := s3.rel
  have l1 := lay_ok (A := z3.A) (o := .own x) R3 hdx (fun a q => .inl q) fun a q => q
  have hx1 : (z3.lay z3.A dx (.own x)).H x = none := by show upd z3.H dx (.own x) x = none; rw [upd_ne (fun e => hne e.symm)]; exact hx
  have l2 := lay_ok (z := z3.lay z3.A dx (.own x)) (A := fun a => z3.A a ∨ a = x) (o := .ins C0 dx []) l1.rel hx1 (fun a q => q) fun a q => .inl q
  have l3 := l1.trans R3 l2
  have rp := h.fr R3.sub l3.fr
  generalize hz4 : (z3.lay z3.A dx (.own x)).lay (fun a => z3.A a ∨ a = x) x (.ins C0 dx []) = z4 at l3 rp
  have eH : z4.H = upd (upd z3.H dx (.own x)) x (.ins C0 dx []) := by rw [← hz4]; rfl
  have eρ : z4.ρ = z3.ρ := by rw [← hz4]; rfl
  have eσ : z4.σ = z3.σ := by rw [← hz4]; rfl
  have eT : z4.TS = z3.TS := by rw [← hz4]; rfl
  have hAx : z4.A x := by rw [← hz4]; exact .inr rfl
  have s4 := s3.trans R l3
  have R0 : Rel X.K ⟨z4.A, z4.H, .io (.nd (.obj c []) []) :: datS ds, some (.ref x) :: us.map some, fun i => if i = 0 then [x] else []⟩ := by
    refine ⟨?_, fun i s e => ?_, fun i e => ?_, fun i => ?_, fun i i' b hb hb' => ?_, s4.rel.trk⟩
    · show (datS ds).length + 1 = (us.map some).length + 1
      unfold datS
      rw [List.length_map, List.length_map, h.len]
    · cases i with
      | zero =>
        cases (show some _ = some s from e)
        refine ⟨some (.ref x), rfl, .io (.nd (by rw [eH]; exact upd_same) ⟨rfl, List.nodup_nil, C0, dx, kc, rfl, cl, fun f hf => (nomatch hf)⟩ hAx .nil)⟩
      | succ i =>
        obtain ⟨d, h1, rfl⟩ := datS_get (show (datS ds)[i]? = some s from e)
        obtain ⟨v, hv, r⟩ := rp.getV h1
        exact ⟨some v, by show (us.map some)[i]? = _; rw [List.getElem?_map, hv]; rfl, .own (.val r)⟩
    · cases i with
      | zero => cases e
      | succ i => rfl
    · show (if i = 0 then [x] else []).Nodup
      split <;> simp
    · have hb : b ∈ (if i = 0 then [x] else []) := hb
      have hb' : b ∈ (if i' = 0 then [x] else []) := hb'
      split at hb
      · split at hb'
        · omega
        · cases hb'
      · cases hb
  refine ⟨_, _, _, R0, eH, rfl, ?_, hc, fun v zo T so ero to => ?_⟩
  · have := hlen _ _ hc
    rw [List.length_cons] at this ⊢
    unfold datS at this
    rw [List.length_map] at this
    rw [h.len]; exact this
  · have hv : v = .non := by
      have r := to.froze
      cases (show Rep X.K _ _ v .none from r); rfl
    refine ⟨hv, ?_⟩
    obtain ⟨st, ap⟩ := tmp_out (z1 := z4) (z0 := ⟨z4.A, z4.H, .io (.nd (.obj c []) []) :: datS ds, some (.ref x) :: us.map some, fun i => if i = 0 then [x] else []⟩) (T1 := [x]) R s4 rfl rfl R0 (fun a ⟨i, hi, _⟩ => by
        have hi : a ∈ (if i = 0 then [x] else []) := hi
        split at hi
        · exact hi
        · cases hi) (fun b hb i hi => by
        rw [List.mem_singleton.mp hb, eT] at hi
        exact R3.trk x (R3.subT i x hi) hx) (fun b hb => .inr (by
        rw [List.mem_singleton.mp hb]
        exact s3.fr.there x hx)) so
    have h0 : zo.ρ[0]? = some (.io m) := by rw [ero]; rfl
    obtain ⟨o, e5, r5⟩ := so.rel.slot 0 _ h0
    obtain ⟨m2, k1, k2⟩ := so.kp.io 0 _ (show (Slot.io (.nd (.obj c []) []) :: datS ds)[0]? = some (.io (.nd (.obj c []) [])) from rfl)
    have e6 : zo.σ[0]? = some (some (.ref x)) := k2
    rw [e6] at e5
    cases e5
    have tn : ∀ b ∈ zo.TS 0, (∀ i, b ∉ z4.TS i) ∧ (z.S b ∨ z.H b = none) := fun b hb => ap b (so.fr.newS b ⟨0, hb, fun ⟨m', e⟩ => by rw [h0] at e; cases e⟩)
    refine q (.ref x) ⟨zo.A, zo.H, z4.ρ, z4.σ, z4.TS⟩ (zo.TS 0) st eρ eσ ⟨?_, so.rel.nd 0, fun b hb => (tn b hb).1, fun b hb => (tn b hb).2⟩
    generalize zo.TS 0 = T0 at r5
    cases r5 with | io r => exact r
theorem mk_v {C : CtxQ} {j np k : Nat} {c : Str} {C0 f : Addr} {fd : FuncData} {ps : List Str} {e : Expr} {es : List Expr} {rs : List R3} {p : Pos} (hl : SndL X (e :: es) rs) (hlen : ∀ sl r, C.call j sl = some r → sl.length = np) (kc : KCls X.K c C0) (cl : Cls X.K C0)
    (M : Mk X.K C0 f) (F : FnOk X.prog X.w X.K X.mg X.base CX0 k f fd ps (spD X.K np (C.call j))) (hr : Room (k + 1) X.A) (hb : Binds X.K fd ps []) (hg : Gl X c) (hm : X.mg c = some (.ref C0)) (hdb : (c == ("__debug__" : Str)) = false) : SndV X (.Call (.Name c p) (e :: es) [] pos) (evMk C c j rs) := by
  intro z r ρ' R e1 Q q
  obtain ⟨⟨ms, ρ2⟩, h2, e3⟩ := bind_some (show (evs rs z.ρ).bind _ = some _ from e1)
  obtain ⟨⟨r', outs⟩, h3, e4⟩ := bind_some e3
  dsimp only at e4
  split at e4
  rotate_left
  · cases e4
  cases e4
  have hn : notSt e = true := by cases hl with | cons h _ _ => exact h
  refine PE.rn (pe_make (E := E0) M F hr hg hm hb .nil pass0 pra hdb (notSt_ok hn _ _) ?_) (evs_ok hl z ms _ R h2 _ fun us z2 T2 s2 er2 es2 t2 => ?_)
  · cases hl with | cons _ _ t => exact t.plain _ _
  · obtain ⟨sd2, rps⟩ := t2.dropS R s2
    intro x dx hx hdx hne
    rw [List.append_nil]
    exact mk_fin (C := C) (np := np) R sd2 rps kc cl h3 hlen (fun u z' T s er es t => q u z' T s (er.trans er2) (es.trans es2) t) x dx hx hdx hne
end
end Q
set_option maxHeartbeats 1000000
namespace Q
open PySem L2 PyProof.Rows

def RunsI (X : Cx) (tg iter : Expr) : TI := fun σ H R => ∀ (pins : List (Addr × Obj)) (s : Shared), Inv X pins σ H s →
  wpAny (model X.prog X.w) X.A (eval iter X.env) (fun v s1 => wpAny (model X.prog X.w) X.A (pyIter v) (PIE X pins σ tg R) X.xe s1) X.xe s
theorem pri {X : Cx} {tg iter : Expr} : PI X tg iter (RunsI X tg iter) := ⟨fun pins s σ H R I h => h pins s I⟩
theorem PI.rn {X : Cx} {tg iter : Expr} {wi : TI} (h : PI X tg iter wi) {σ : L2.St} {H : Hp} {R : L2.It → Hp → Prop} (q : wi σ H R) : RunsI X tg iter σ H R := fun pins s I => h.run pins s σ H R I q

structure IterR (K : PySem.W.Frag) (z : Z) (J : L2.It) (ds : List D) (fl : Fl) : Prop where
  ex : ∃ G Y, Walk J ds.length G Y ∧ ∀ z', Rel K z' → Fr z.A z.S z.H z'.A z'.S z'.H → G z'.H ∧ ∀ (i : Nat) d x H3, ds[i]? = some d → Y i z'.H x H3 →
    ∃ z3, Stp K z' z3 ∧ z3.H = H3 ∧ z3.ρ = z'.ρ ∧ z3.σ = z'.σ ∧ PkR K z3.A z3.S z3.H (childFl fl d) d x
def SndI (X : Cx) (tg iter : Expr) (f : Env → Option (List D × Fl × Env × Lks)) : Prop := ∀ (z : Z) (ds : List D) (fl : Fl) (ρ' : Env) (ls : Lks), Rel X.K z → f z.ρ = some (ds, fl, ρ', ls) → ∀ R0 : L2.It → Hp → Prop,
  (∀ J z', Pend X.K ls z z' → z'.ρ = ρ' → z'.σ = z.σ → IterR X.K z' J ds fl → R0 J z'.H) → RunsI X tg iter z.σ z.H R0

def flN (fl : Fl) : Fl := if fl = .deep then .deep else .val
section
variable {K : PySem.W.Frag} {z : Z}
/-- an item of what is looked at -/
theorem item_ok {A S : AP} {H : Hp} {fl : Fl} {d : D} {x : V} (hSA : ∀ a, S a → A a) (h : fl ≠ .deep → Rep K A H x d) (h2 : Rep K S H x d) : PkR K A S H (childFl (flN fl) d) d x := by
  unfold flN
  by_cases e : fl = .deep
  · rw [if_pos e]
    show PkR K A S H (if flat d = true then .val else .deep) d x
    split
    · rename_i hf; exact h2.flat hf
    · exact h2
  · rw [if_neg e]
    exact h e
theorem listR {fl : Fl} {ds : List D} {v : V} (R : Rel K z) (k : PkR K z.A z.S z.H fl (.list ds) v) : ∃ a xs, v = .ref a ∧ SqL K z.H a xs ∧ xs.length = ds.length ∧ ∀ z', Rel K z' → Fr z.A z.S z.H z'.A z'.S z'.H →
    SqL K z'.H a xs ∧ ∀ (i : Nat) d x, ds[i]? = some d → xs[i]? = some x → PkR K z'.A z'.S z'.H (childFl (flN fl) d) d x := by
  have fin : ∀ {a : Addr} {xs : List V}, v = .ref a → fl ≠ .deep → SqL K z.H a xs → Reps K z.A z.H xs ds → (∀ z', Rel K z' → Fr z.A z.S z.H z'.A z'.S z'.H → SqL K z'.H a xs) → ∃ a xs, v = .ref a ∧ SqL K z.H a xs ∧ xs.length = ds.length ∧ ∀ z', Rel K z' → Fr z.A z.S z.H z'.A z'.S z'.H →
      SqL K z'.H a xs ∧ ∀ (i : Nat) d x, ds[i]? = some d → xs[i]? = some x → PkR K z'.A z'.S z'.H (childFl (flN fl) d) d x := fun {a xs} e hf h q k2 => by
    refine ⟨a, xs, e, h, q.length, fun z' R' f => ⟨k2 z' R' f, fun i d x hd hx => ?_⟩⟩
    obtain ⟨d2, h1, h2⟩ := (q.fr R.sub f).getv hx
    rw [hd] at h1
    cases h1
    exact item_ok R'.sub (fun _ => h2) (h2.mono R'.sub)
  by_cases hf : fl = .deep
  · subst hf
    have k : Rep K z.S z.H v (.list ds) := k
    cases k with | @lst a xs _ h q =>
    refine ⟨a, xs, rfl, h.sq, q.length, fun z' R' f => ⟨(h.step f.keep f.newS).sq, fun i d x hd hx => ?_⟩⟩
    have q' : Reps K z'.S z'.H xs ds := q.step f.keep f.newS
    obtain ⟨d2, h1, h2⟩ := q'.getv hx
    rw [hd] at h1
    cases h1
    exact item_ok R'.sub (fun k => absurd rfl k) h2
  · have ofRep : Rep K z.A z.H v (.list ds) → ∃ a xs, v = .ref a ∧ LsA K z.A z.H a xs ∧ Reps K z.A z.H xs ds := fun r => by
      cases r with | lst h q => exact ⟨_, _, rfl, h, q⟩
    have viaA : Rep K z.A z.H v (.list ds) → ∃ a xs, v = .ref a ∧ SqL K z.H a xs ∧ xs.length = ds.length ∧ ∀ z', Rel K z' → Fr z.A z.S z.H z'.A z'.S z'.H →
      SqL K z'.H a xs ∧ ∀ (i : Nat) d x, ds[i]? = some d → xs[i]? = some x → PkR K z'.A z'.S z'.H (childFl (flN fl) d) d x := fun r => by
      obtain ⟨a, xs, e, h, q⟩ := ofRep r
      exact fin e hf h.sq q fun z' R' f => (h.step (fun b o e n => f.keep b o e fun hs => n (R.sub b hs)) f.newA).sq
    cases fl with
    | deep => exact absurd rfl hf
    | val => exact viaA k
    | shal =>
      rcases k with k | ⟨a, xs, ds', e1, e2, h, n, q⟩
      · exact viaA k
      · cases e2
        exact fin e1 hf (.inl (.inl h)) q fun z' R' f => .inl (.inl (f.keep a _ h n))
theorem tupR {fl : Fl} {ds : List D} {v : V} (R : Rel K z) (k : PkR K z.A z.S z.H fl (.tuple ds) v) : ∃ a xs, v = .ref a ∧ SqT K z.H a xs ∧ xs.length = ds.length ∧ ∀ z', Rel K z' → Fr z.A z.S z.H z'.A z'.S z'.H →
    SqT K z'.H a xs ∧ ∀ (i : Nat) d x, ds[i]? = some d → xs[i]? = some x → PkR K z'.A z'.S z'.H (childFl (flN fl) d) d x := by
  have core : ∀ (A0 : AP) (z' : Z) (w : V), Rep K A0 z'.H w (.tuple ds) → True := fun _ _ _ _ => trivial
  have main : ∀ {B : AP} {v : V}, Rep K B z.H v (.tuple ds) → ∃ a xs, v = .ref a ∧ TpA K B z.H a xs ∧ Reps K B z.H xs ds := fun r => by
    cases r with | tup h q => exact ⟨_, _, rfl, h, q⟩
  by_cases hf : fl = .deep
  · subst hf
    have k : Rep K z.S z.H v (.tuple ds) := k
    obtain ⟨a, xs, rfl, h, q⟩ := main k
    refine ⟨a, xs, rfl, h.sq, q.length, fun z' R' f => ⟨(h.step f.keep f.newS).sq, fun i d x hd hx => ?_⟩⟩
    have q' : Reps K z'.S z'.H xs ds := q.step f.keep f.newS
    obtain ⟨d2, h1, h2⟩ := q'.getv hx
    rw [hd] at h1
    cases h1
    exact item_ok R'.sub (fun w => absurd rfl w) h2
  · have k0 := k.repT hf
    obtain ⟨a, xs, rfl, h, q⟩ := main k0
    refine ⟨a, xs, rfl, h.sq, q.length, fun z' R' f => ⟨(h.step (fun b o e n => f.keep b o e fun w => n (R.sub b w)) f.newA).sq, fun i d x hd hx => ?_⟩⟩
    have q' : Reps K z'.A z'.H xs ds := q.fr R.sub f
    obtain ⟨d2, h1, h2⟩ := q'.getv hx
    rw [hd] at h1
    cases h1
    exact item_ok R'.sub (fun _ => h2) (h2.mono R'.sub)
end

section
variable {X : Cx} {tg a b : Expr} {ra rb : R3} {pos : Pos}
theorem seq_it (ha : Snd X a ra) : SndI X tg a (fun ρ => (ra.p ρ).bind fun q => (items? q.1).bind fun xs => some (xs, if q.2.1 = .deep then .deep else .val, q.2.2.1, q.2.2.2)) := by
  intro z ds fl ρ' ls R e1 R0 q
  obtain ⟨⟨d, f1, ρ1, l1⟩, h1, e2⟩ := bind_some (show (ra.p z.ρ).bind _ = some _ from e1)
  obtain ⟨xs, h2, e3⟩ := bind_some e2
  cases e3
  have h2 : items? d = some ds := h2
  unfold items? at h2
  split at h2
  · cases h2
    refine PI.rn (pi_list pr) (ha.p z _ f1 _ _ R h1 _ fun u z1 p1 er1 es1 k1 => ?_)
    obtain ⟨a, vs, rfl, hs, hl, hz⟩ := listR p1.rel k1
    refine ⟨a, rfl, ⟨vs, hs⟩, q _ z1 p1 er1 es1 ⟨_, _, hl ▸ walk_list, fun z' R' f => ?_⟩⟩
    obtain ⟨g1, g2⟩ := hz z' R' f
    refine ⟨g1, fun i d x H3 hd ⟨e, hx⟩ => ⟨z', Stp.refl R', e.symm, rfl, rfl, g2 i d x hd hx⟩⟩
  · cases h2
    refine PI.rn (pi_tup pr) (ha.p z _ f1 _ _ R h1 _ fun u z1 p1 er1 es1 k1 => ?_)
    obtain ⟨a, vs, rfl, hs, hl, hz⟩ := tupR p1.rel k1
    refine ⟨a, rfl, ⟨vs, hs⟩, q _ z1 p1 er1 es1 ⟨_, _, hl ▸ walk_tup, fun z' R' f => ?_⟩⟩
    obtain ⟨g1, g2⟩ := hz z' R' f
    refine ⟨g1, fun i d x H3 hd ⟨e, hx⟩ => ⟨z', Stp.refl R', e.symm, rfl, rfl, g2 i d x hd hx⟩⟩
  · cases h2
theorem rangeD_get {lo : Int} {n i : Nat} {d : D} (h : (rangeD lo n)[i]? = some d) : d = .int (lo + (i : Nat)) := by
  unfold rangeD at h
  rw [List.getElem?_map] at h
  obtain ⟨k, h1, h2⟩ := Option.map_eq_some_iff.mp h
  have : k = i := by
    have hh := List.getElem?_eq_some_iff.mp h1
    obtain ⟨hl, e⟩ := hh
    simp at e; exact e.symm
  subst this
  exact h2.symm
theorem rangeD_len {lo : Int} {n : Nat} : (rangeD lo n).length = n := by simp [rangeD]
theorem range_R {K : PySem.W.Frag} {z : Z} {lo : Int} {n : Nat} : IterR K z (Itr lo n) (rangeD lo n) .val := by
  refine ⟨fun _ => True, YFn fun i => .int (lo + i), by rw [rangeD_len]; exact walk_range, fun z' R' f => ⟨trivial, fun i d x H3 hd hy => ?_⟩⟩
  obtain ⟨e1, e2⟩ := hy
  refine ⟨z', Stp.refl R', e1.symm, rfl, rfl, ?_⟩
  rw [rangeD_get hd, e2]
  exact Rep.int _
theorem inRng_ok {i : Int} (h : inRng i = true) : -(2 ^ 62) ≤ i ∧ i < 2 ^ 62 := by
  have h := inRng_iff.mp h
  omega
theorem rng1_it {p : Pos} (hg : Gl X "range") (hm : X.mg "range" = none) (hn : notSt a = true) (ha : Snd X a ra) : SndI X tg (.Call (.Name "range" p) [a] [] pos) (fun ρ => (ra.v ρ).bind fun q => (intOf q.1).bind fun n => if inRng n then some (rangeD 0 n.toNat, .val, q.2, []) else none) := by
  intro z ds fl ρ' ls R e1 R0 q
  obtain ⟨⟨r, ρ1⟩, h1, e2⟩ := bind_some (show (ra.v z.ρ).bind _ = some _ from e1)
  obtain ⟨n, h2, e3⟩ := bind_some e2
  dsimp only at e3
  split at e3
  · rename_i hr
    cases e3
    obtain ⟨b1, b2⟩ := inRng_ok hr
    refine PI.rn (pi_range1 hg hm (pa_cons pr pa_nil (notSt_ok hn _ _)) (notSt_ok hn _ _)) (ha.v z r _ R h1 _ fun u z1 T s er es t => ?_)
    have hh := t.froze
    rw [show r = MV.val (.int n) from intOf_some h2] at hh
    refine ⟨n, by rw [hh.intv], b1, b2, ?_⟩
    exact q _ (z1.drop T) (Pend.of R (s.drop R t)) er es range_R
  · cases e3
theorem rng2_it {p : Pos} (hg : Gl X "range") (hm : X.mg "range" = none) (hn : notSt a = true) (hnb : notSt b = true) (ha : Snd X a ra) (hb : Snd X b rb) :
    SndI X tg (.Call (.Name "range" p) [a, b] [] pos) (fun ρ => (ra.v ρ).bind fun q => (rb.v q.2).bind fun q2 => (intOf q.1).bind fun i => (intOf q2.1).bind fun j => if inRng i && inRng j then some (rangeD i (j - i).toNat, .val, q2.2, []) else none) := by
  intro z ds fl ρ' ls R e1 R0 q
  obtain ⟨⟨r, ρ1⟩, h1, e2⟩ := bind_some (show (ra.v z.ρ).bind _ = some _ from e1)
  obtain ⟨⟨r2, ρ2⟩, h2, e3⟩ := bind_some e2
  obtain ⟨i, h3, e4⟩ := bind_some e3
  obtain ⟨j, h4, e5⟩ := bind_some e4
  dsimp only at e5
  split at e5
  · rename_i hr
    cases e5
    simp only [Bool.and_eq_true] at hr
    obtain ⟨b1, b2⟩ := inRng_ok hr.1
    obtain ⟨b3, b4⟩ := inRng_ok hr.2
    refine PI.rn (pi_range2 hg hm (pa_cons pr (pa_cons pr pa_nil (notSt_ok hnb _ _)) (notSt_ok hn _ _)) (by rw [notSt_ok hn, notSt_ok hnb]; rfl) (notSt_ok hnb _ _)) (ha.v z r ρ1 R h1 _ fun u z1 T s er es t => ?_)
    have sd := s.drop R t
    have hh := t.froze
    rw [show r = MV.val (.int i) from intOf_some h3] at hh
    rw [← es]
    refine hb.v (z1.drop T) r2 _ sd.rel (by show rb.v z1.ρ = _; rw [er]; exact h2) _ fun u2 z2 T2 s2 er2 es2 t2 => ?_
    have hh2 := t2.froze
    rw [show r2 = MV.val (.int j) from intOf_some h4] at hh2
    refine ⟨i, j, by rw [hh.intv, hh2.intv], ⟨b1, b2, b3, b4⟩, ?_⟩
    exact q _ (z2.drop T2) (Pend.of R (sd.trans R (s2.drop sd.rel t2))) er2 (es2.trans es) range_R
  · cases e5
theorem enumD_len : ∀ (k : Nat) (ds : List D), (enumD k ds).length = ds.length
  | _, [] => rfl
  | k, d :: ds => by show (enumD (k + 1) ds).length + 1 = _; rw [enumD_len (k + 1) ds]; rfl
theorem enumD_get : ∀ (k : Nat) (ds : List D) (i : Nat) (d : D), (enumD k ds)[i]? = some d → ∃ c, ds[i]? = some c ∧ d = .tuple [.int ((k + i : Nat) : Int), c]
  | _, [], _, _, h => by simp [enumD] at h
  | k, c :: ds, 0, d, h => by
    simp [enumD] at h
    exact ⟨c, rfl, by rw [← h]; simp⟩
  | k, c :: ds, i + 1, d, h => by
    obtain ⟨c', h1, h2⟩ := enumD_get (k + 1) ds i d (by simpa [enumD] using h)
    refine ⟨c', by simpa using h1, ?_⟩
    rw [h2, show k + 1 + i = k + (i + 1) by omega]
theorem zipD_len : ∀ (ds es : List D), (zipD ds es).length = min ds.length es.length
  | [], _ => by simp [zipD]
  | _ :: _, [] => by simp [zipD]
  | d :: ds, e :: es => by
    show (zipD ds es).length + 1 = _
    rw [zipD_len ds es]
    simp only [List.length_cons]; omega
theorem zipD_get : ∀ (ds es : List D) (i : Nat) (d : D), (zipD ds es)[i]? = some d → ∃ x y, ds[i]? = some x ∧ es[i]? = some y ∧ d = .tuple [x, y]
  | [], _, _, _, h => by simp [zipD] at h
  | _ :: _, [], _, _, h => by simp [zipD] at h
  | c :: ds, e :: es, 0, d, h => by
    simp [zipD] at h
    exact ⟨c, e, rfl, rfl, h.symm⟩
  | c :: ds, e :: es, i + 1, d, h => by
    obtain ⟨x, y, h1, h2, h3⟩ := zipD_get ds es i d (by simpa [zipD] using h)
    exact ⟨x, y, by simpa using h1, by simpa using h2, h3⟩
/-- a new pair of two things looked at -/
theorem pair_ok {K : PySem.W.Frag} {z : Z} (R : Rel K z) {T : Addr} (hT : z.H T = none) {f1 f2 : Fl} {d1 d2 : D} {x y : V} (h1 : PkR K z.A z.S z.H (childFl (flN f1) d1) d1 x) (h2 : PkR K z.A z.S z.H (childFl (flN f2) d2) d2 y) :
    ∃ z3, Stp K z z3 ∧ z3.H = upd z.H T (.tup [x, y]) ∧ z3.ρ = z.ρ ∧ z3.σ = z.σ ∧ PkR K z3.A z3.S z3.H (childFl (if f1 = .deep ∨ f2 = .deep then .deep else .val) (.tuple [d1, d2])) (.tuple [d1, d2]) (.ref T) := by
  have s := lay_ok (o := .tup [x, y]) R hT (fun a q => .inl q) fun a q => q
  refine ⟨z.lay z.A T (.tup [x, y]), s, rfl, rfl, rfl, ?_⟩
  by_cases e : f1 = .deep ∨ f2 = .deep
  · rw [if_pos e]
    show Rep K z.S (upd z.H T (.tup [x, y])) (.ref T) (.tuple [d1, d2])
    exact .tup (.inl ⟨.inl upd_same, fun w => notA R hT (R.sub T w)⟩) (.cons ((h1.toS R.sub).frS s.fr) (.cons ((h2.toS R.sub).frS s.fr) .nil))
  · rw [if_neg e]
    have n1 : f1 ≠ .deep := fun w => e (.inl w)
    have n2 : f2 ≠ .deep := fun w => e (.inr w)
    unfold flN at h1 h2
    rw [if_neg n1] at h1
    rw [if_neg n2] at h2
    have h1 : Rep K z.A z.H x d1 := h1
    have h2 : Rep K z.A z.H y d2 := h2
    show Rep K z.A (upd z.H T (.tup [x, y])) (.ref T) (.tuple [d1, d2])
    exact .tup (.inl ⟨.inl upd_same, notA R hT⟩) (.cons (h1.fr R.sub s.fr) (.cons (h2.fr R.sub s.fr) .nil))
theorem walk_enumT {K : PySem.W.Frag} {a : Addr} {xs : List V} : Walk (IteT K a) xs.length (fun H => SqT K H a xs) (YPair (fun i => some (.int (i : Nat))) (fun i => xs[i]?)) := by
  refine ⟨fun i _ hi q => ⟨xs, xs[i], q, by simp [hi]⟩, fun _ q => ⟨xs, q, rfl⟩, fun i H v H' _ q y => ?_⟩
  obtain ⟨T, x, h1, h2, h3, h4⟩ := y
  exact ⟨T, .int (i : Nat), x, h1, h2, h3, rfl, h4 xs q⟩
theorem enum_it {p tpos : Pos} {elts : List Expr} {kk : Nat} (hg : Gl X "enumerate") (hm : X.mg "enumerate" = none) (hn : notSt a = true) (ha : Snd X a ra) :
    SndI X (.Tuple elts kk tpos) (.Call (.Name "enumerate" p) [a] [] pos) (fun ρ => (ra.p ρ).bind fun q => (items? q.1).bind fun xs => some (enumD 0 xs, if q.2.1 = .deep then .deep else .val, q.2.2.1, q.2.2.2)) := by
  intro z ds fl ρ' ls R e1 R0 q
  obtain ⟨⟨d, f1, ρ1, l1⟩, h1, e2⟩ := bind_some (show (ra.p z.ρ).bind _ = some _ from e1)
  obtain ⟨xs, h2, e3⟩ := bind_some e2
  cases e3
  have h2 : items? d = some xs := h2
  have turn : ∀ (z' : Z), Rel X.K z' → ∀ {vs : List V}, (∀ (i : Nat) d x, xs[i]? = some d → vs[i]? = some x → PkR X.K z'.A z'.S z'.H (childFl (flN f1) d) d x) → ∀ (i : Nat) (d : D) (x : V) (H3 : Hp), (enumD 0 xs)[i]? = some d → YPair (fun i => some (.int (i : Nat))) (fun i => vs[i]?) i z'.H x H3 →
      ∃ z3, Stp X.K z' z3 ∧ z3.H = H3 ∧ z3.ρ = z'.ρ ∧ z3.σ = z'.σ ∧ PkR X.K z3.A z3.S z3.H (childFl (if f1 = .deep then .deep else .val) d) d x := by
    intro z' R' vs g2 i d x H3 hd hy
    obtain ⟨T, x1, y1, rfl, hT, rfl, e1, e2⟩ := hy
    obtain ⟨c, hc, rfl⟩ := enumD_get 0 xs i d hd
    cases e1
    have hh := pair_ok (f1 := .val) (f2 := f1) (d1 := .int (((0 + i : Nat)) : Int)) R' hT (x := .int (i : Nat)) (by rw [Nat.zero_add]; exact Rep.int _) (g2 i c y1 hc e2)
    simpa using hh
  refine PI.rn (piEnumT hg hm (pa_cons pr pa_nil (notSt_ok hn _ _)) (notSt_ok hn _ _)) (ha.p z _ f1 _ _ R h1 _ fun u z1 p1 er1 es1 k1 => ?_)
  unfold items? at h2
  split at h2
  · cases h2
    obtain ⟨a, vs, rfl, hs, hl, hz⟩ := listR p1.rel k1
    refine ⟨a, vs, rfl, .inl ⟨hs, q _ z1 p1 er1 es1 ⟨_, _, by rw [enumD_len, ← hl]; exact walk_enum, fun z' R' f => ?_⟩⟩⟩
    obtain ⟨g1, g2⟩ := hz z' R' f
    exact ⟨g1, fun i d x H3 hd hy => turn z' R' g2 i d x H3 hd hy⟩
  · cases h2
    obtain ⟨a, vs, rfl, hs, hl, hz⟩ := tupR p1.rel k1
    refine ⟨a, vs, rfl, .inr ⟨hs, q _ z1 p1 er1 es1 ⟨_, _, by rw [enumD_len, ← hl]; exact walk_enumT, fun z' R' f => ?_⟩⟩⟩
    obtain ⟨g1, g2⟩ := hz z' R' f
    exact ⟨g1, fun i d x H3 hd hy => turn z' R' g2 i d x H3 hd hy⟩
  · cases h2
theorem zip_it {p tpos : Pos} {elts : List Expr} {kk : Nat} (hg : Gl X "zip") (hm : X.mg "zip" = none) (hn : notSt a = true) (hnb : notSt b = true) (ha : Snd X a ra) (hb : Snd X b rb) :
    SndI X (.Tuple elts kk tpos) (.Call (.Name "zip" p) [a, b] [] pos) (fun ρ => (ra.p ρ).bind fun q => (rb.p q.2.2.1).bind fun q2 => (sameSeq q.1 q2.1).bind fun xy =>
      some (zipD xy.1 xy.2, if q.2.1 = .deep ∨ q2.2.1 = .deep then .deep else .val, q2.2.2.1, q.2.2.2 ++ q2.2.2.2)) := by
  intro z ds fl ρ' ls R e1 R0 q
  obtain ⟨⟨d1, f1, ρ1, l1⟩, h1, e2⟩ := bind_some (show (ra.p z.ρ).bind _ = some _ from e1)
  obtain ⟨⟨d2, f2, ρ2, l2⟩, h2, e3⟩ := bind_some e2
  obtain ⟨⟨xs, ys⟩, h3, e4⟩ := bind_some e3
  cases e4
  have h3 : sameSeq d1 d2 = some (xs, ys) := h3
  refine PI.rn (RZ.pi_zipA hg hm (pa_cons pr (pa_cons pr pa_nil (notSt_ok hnb _ _)) (notSt_ok hn _ _)) (notSt_ok hn _ _) (by rw [notSt_ok hnb]; rfl)) (ha.p z d1 f1 ρ1 l1 R h1 _ fun u1 z1 p1 er1 es1 k1 => ?_)
  rw [← es1]
  refine hb.p z1 d2 f2 _ l2 p1.rel (by rw [er1]; exact h2) _ fun u2 z2 p2 er2 es2 k2 => ?_
  have k1' := k1.fr p1.rel.sub p2.fr
  unfold sameSeq at h3
  split at h3
  · cases h3
    obtain ⟨a1, v1, rfl, hs1, hl1, hz1⟩ := listR p2.rel k1'
    obtain ⟨a2, v2, rfl, hs2, hl2, hz2⟩ := listR p2.rel k2
    refine ⟨a1, a2, v1, v2, rfl, .inl ⟨hs1, hs2, q _ z2 (p1.trans R p2) er2 (es2.trans es1) ⟨_, _, walk_zip (by rw [zipD_len, ← hl1, ← hl2]), fun z' R' f => ?_⟩⟩⟩
    obtain ⟨g1, g2⟩ := hz1 z' R' f
    obtain ⟨g3, g4⟩ := hz2 z' R' f
    refine ⟨⟨g1, g3⟩, fun i d x H3 hd hy => ?_⟩
    obtain ⟨T, x1, y1, rfl, hT, rfl, e1, e2⟩ := hy
    obtain ⟨c1, c2, hc1, hc2, rfl⟩ := zipD_get xs ys i d hd
    exact pair_ok R' hT (g2 i c1 x1 hc1 e1) (g4 i c2 y1 hc2 e2)
  · cases h3
    obtain ⟨a1, v1, rfl, hs1, hl1, hz1⟩ := tupR p2.rel k1'
    obtain ⟨a2, v2, rfl, hs2, hl2, hz2⟩ := tupR p2.rel k2
    refine ⟨a1, a2, v1, v2, rfl, .inr ⟨hs1, hs2, q _ z2 (p1.trans R p2) er2 (es2.trans es1) ⟨fun H => SqT X.K H a1 v1 ∧ SqT X.K H a2 v2, YPair (fun i => v1[i]?) (fun i => v2[i]?), ?_, fun z' R' f => ?_⟩⟩⟩
    · rw [zipD_len, ← hl1, ← hl2]
      refine ⟨fun i H hi hG => ⟨v1, v2, v1[i], v2[i], hG.1, hG.2, List.getElem?_eq_getElem (by omega), List.getElem?_eq_getElem (by omega)⟩, fun H hG => ⟨v1, v2, hG.1, hG.2, by omega⟩, fun i H x H' hi hG hy => ?_⟩
      obtain ⟨T, x1, y1, e1, e2, e3, e4, e5⟩ := hy
      exact ⟨T, x1, y1, e1, e2, e3, e4 v1 hG.1, e5 v2 hG.2⟩
    · obtain ⟨g1, g2⟩ := hz1 z' R' f
      obtain ⟨g3, g4⟩ := hz2 z' R' f
      refine ⟨⟨g1, g3⟩, fun i d x H3 hd hy => ?_⟩
      obtain ⟨T, x1, y1, rfl, hT, rfl, e1, e2⟩ := hy
      obtain ⟨c1, c2, hc1, hc2, rfl⟩ := zipD_get xs ys i d hd
      exact pair_ok R' hT (g2 i c1 x1 hc1 e1) (g4 i c2 y1 hc2 e2)
  · cases h3
end
end Q
set_option maxHeartbeats 1000000
namespace Q
open PySem L2 PySem.Spec PyProof.Rows HT
section
variable {prog : Program} {w : World} {A : Around} {E : Value → Shared → Prop} {s : Shared}
theorem adj_rev (n : Nat) : Builtin.Slice.sliceAdjust none none (-1) (n : Int) = ((n : Int) - 1, -1) := rfl
theorem places_rev (n : Nat) : Builtin.Slice.slicePlaces ((n : Int) - 1) (-1) (-1) = n := by
  unfold Builtin.Slice.slicePlaces
  rw [if_neg (by decide : ¬ ((-1 : Int) > 0))]
  split
  · rw [show (-(-1) : Int) = 1 by decide, Int.ediv_one]; omega
  · omega
theorem pick_rev (xs : Array Value) : ((List.range xs.size).filterMap fun (m : Nat) => xs[((xs.size : Int) - 1 + (m : Int) * (-1)).toNat]?).toArray = xs.toList.reverse.toArray := by
  have h := PySem.W.krv_all xs
  rw [← h, ← List.filterMap_reverse, ← PySem.W.krv_range, List.filterMap_map]
  have go : ∀ (f g : Nat → Option Value) (l : List Nat), (∀ m ∈ l, f m = g m) → l.filterMap f = l.filterMap g := fun f g l => by
    induction l with
    | nil => intro _; rfl
    | cons x l ih =>
      intro h
      rw [List.filterMap_cons, List.filterMap_cons, h x List.mem_cons_self, ih fun m hm => h m (List.mem_cons_of_mem _ hm)]
  rw [go _ _ _ fun m hm => ?_]
  have := List.mem_range.mp hm
  show _ = xs[xs.size - 1 - m]?
  congr 1
  omega
theorem applied_rev {sl : Addr} {vl vu vs : Value} {n : Nat} {Q : Int × Int × Nat → Shared → Prop} (hs : s.heap.IsSliceOf sl vl vu vs) (pl : IsPart vl none) (pu : IsPart vu none) (ps : IsPart vs (some (-1)))
    (h : Q ((n : Int) - 1, -1, n) s) : wpAny (model prog w) A (Builtin.Slice.sliceApplied (.ref sl) (pure (n : Int))) Q E s := by
  obtain ⟨os, hos, hcs, hds⟩ := id hs
  unfold Builtin.Slice.sliceApplied Builtin.Slice.sliceFields
  refine wpAny_bind (wpAny_bind (wpAny_field hos hds (x := vl) rfl (wpAny_bind (wpAny_field hos hds (x := vu) rfl (wpAny_bind (wpAny_field hos hds (x := vs) rfl (wpAny_pure ?_)))))))
  refine wpAny_bind (slicePart_ ps ?_)
  show wpAny _ _ (if ((-1 : Int) == 0) = true then _ else _) _ _ s
  rw [if_neg (by decide)]
  refine wpAny_bind (slicePart_ pl (wpAny_bind (slicePart_ pu (wpAny_bind (wpAny_pure ?_)))))
  show wpAny _ _ (match Builtin.Slice.sliceAdjust none none (-1) (n : Int) with | (lo, hi) => pure (lo, (-1 : Int), Builtin.Slice.slicePlaces lo hi (-1))) _ _ s
  rw [adj_rev n]
  show wpAny _ _ (pure ((n : Int) - 1, (-1 : Int), Builtin.Slice.slicePlaces ((n : Int) - 1) (-1) (-1))) _ _ s
  rw [places_rev]
  exact wpAny_pure h
theorem getItem_tuple_rev {t sl : Addr} {items : Array Value} {vl vu vs : Value} {Q : Value → Shared → Prop} (ht : IsTup s.heap t items) (hs : s.heap.IsSliceOf sl vl vu vs) (pl : IsPart vl none) (pu : IsPart vu none) (ps : IsPart vs (some (-1)))
    (h : Q (.ref s.heap.objs.size) { s with heap := s.heap.push { cls := .type "tuple", data := .seq items.toList.reverse.toArray } })
    (hsz : items.size ≤ sizeLine) : wpAny (model prog w) A (getItem (.ref t) (.ref sl)) Q E s := by
  have htake : sizeOk (.seq items.toList.reverse.toArray) := by
    show items.toList.reverse.toArray.size ≤ sizeLine
    rw [List.size_toArray, List.length_reverse, Array.length_toList]
    exact hsz
  obtain ⟨os, hos, hcs, hds⟩ := id hs
  have hTs : s.TypeIs (.ref sl) "slice" := ⟨os, hos, hcs⟩
  unfold getItem
  try with_reducible refine wpAny_holding ?_
  first | refine wpAny_bind (wpAny_pure ?_) | skip
  refine wpAny_bind (wpAny_sequenceKey ht.typeIs (by decide) ?_)
  refine wpAny_bind (wpAny_callSpecial?_slot (name := Str.ofString "__getitem__") ht.typeIs PyProof.Rows.slot_tuple_getitem
    (wpAny_call_entry PyProof.Rows.slot_tuple_getitem ht.typeIs entry_tuple_getitem ?_ (args_tuple_getitem _ _)))
  show wpAny _ _ (Builtin.Tuple.tupleItemsOf (.ref t) >>= _) _ _ s
  refine wpAny_bind (tupleItemsOf_ ht ?_)
  refine wpAny_bind (wpAny_typeOf hTs ?_)
  rw [if_pos (by decide)]
  refine wpAny_bind (applied_rev hs pl pu ps ?_)
  have hno : ¬ ((((items.size : Int) - 1) == 0 && (-1 : Int) == 1 && items.size == items.size) = true) := by
    intro q
    rw [Bool.and_eq_true, Bool.and_eq_true] at q
    exact absurd q.1.2 (by decide)
  show wpAny _ _ (if ((((items.size : Int) - 1) == 0 && (-1 : Int) == 1 && items.size == items.size) = true) then _ else _) _ _ s
  rw [if_neg hno, pick_rev]
  first
    | exact wpAny_bind (m := Builtin.Tuple.tupleExact _) (wpAny_newObj_type (wpAny_pure ⟨_, rfl, wpAny_pure h⟩) htake)
    | exact wpAny_bind (m := Builtin.Tuple.tupleExact _) (wpAny_newObj_type (wpAny_bind (wpAny_pure (wpAny_pure ⟨_, rfl, wpAny_pure h⟩))) htake)
    | exact wpAny_bind (wpAny_bind (m := Builtin.Tuple.tupleExact _) (wpAny_newObj_type (wpAny_pure (wpAny_pure ⟨_, rfl, wpAny_pure h⟩)) htake))
    | exact wpAny_bind (wpAny_bind (m := Builtin.Tuple.tupleExact _) (wpAny_newObj_type (wpAny_pure ⟨_, rfl, wpAny_pure h⟩) htake))
end
section
variable {X : Cx}
/-- t[::-1] -/
def tRevT (K : PySem.W.Frag) (te : TE) : TE := fun σ H Q => te σ H fun x H1 => ∃ a xs, x = .ref a ∧ SqT K H1 a xs ∧ ∀ p, H1 p = none → Q (.ref p) (upd H1 p (.tup xs.reverse))
theorem pe_revT {e : Expr} {te : TE} {k : Nat} {p1 p2 p3 pos : Pos} (he : PE X e te) : PE X (.Subscript e (.Slice none none (some (.UnaryOp .USub (.Constant (.int 1) k p1) p2)) p3) pos) (tRevT X.K te) := by
  refine ⟨fun pins s σ H Q I h => ?_⟩
  refine Subscript_ (thn (he.run pins s σ H _ I h) fun v s1 ⟨x, H1, I1, r1, q1⟩ => ?_)
  obtain ⟨a, xs, ex, hx, q⟩ := q1
  subst ex
  cases r1
  have hst : PO X (some (.UnaryOp .USub (.Constant (.int 1) k p1) p2)) (tPart (tUn (rU fun i => .int (-i)) (tC (.int 1)))) := po_some (pe_un un_neg pe_int)
  refine wpAny_Slice (thn (po_none.run pins s1 σ H1 (fun o H2 => o = none ∧ H2 = H1) I1 ⟨rfl, rfl⟩) fun vl s2 ⟨l, H2, I2, pl, el, e2⟩ => ?_)
  subst el e2
  refine thn (po_none.run pins s2 σ H2 (fun o H3 => o = none ∧ H3 = H2) I2 ⟨rfl, rfl⟩) fun vu s3 ⟨u, H3, I3, pu, eu, e3⟩ => ?_
  subst eu e3
  refine thn (hst.run pins s3 σ H3 (fun o H4 => o = some (-1) ∧ H4 = H3) I3 ⟨1, rfl, -1, rfl, rfl, rfl⟩) fun vs s4 ⟨o, H4, I4, ps, eo, e4⟩ => ?_
  subst eo e4
  have I5 : Inv X pins σ H4 { s4 with heap := s4.heap.push { cls := .type "slice", data := .fields #[vl, vu, vs] } } := I4.kept (t' := s4.toks) fun b ob q => Heap.get?_push_of_some _ q
  obtain ⟨its, r, ht, hz⟩ := I5.tuple hx
  have hlen := r.length
  show wpAny (model X.prog X.w) X.A (subscriptTail e (.Slice none none (some (.UnaryOp .USub (.Constant (.int 1) k p1) p2)) p3) (.ref a) (.ref s4.heap.objs.size)) (EP X pins σ Q) X.xe { s4 with heap := s4.heap.push { cls := .type "slice", data := .fields #[vl, vu, vs] } }
  refine tail_any (ops := [.ref a, .ref s4.heap.objs.size]) ht.typeIs (PyProof.Rows.slot_tuple_getitem.lookup) ?_ (by with_unfolding_all rfl)
  refine getItem_tuple_rev ht (Heap.IsSliceOf.new _ vl vu vs) pl pu ps ?_ (by rw [List.size_toArray]; omega)
  refine ⟨.ref _, _, I5.laid (t' := s4.toks) (o := .tup xs.reverse) (fun b ob q => Heap.get?_push_of_some _ q) (Nat.le_refl _) ?_, rfl, q _ (I5.hok.fresh (Nat.le_refl _))⟩
  exact ⟨by rw [List.length_reverse]; exact hz, _, r.reverse, IsTup.new _ _⟩
/-! ### xs[-2::-1] -/
theorem rev2_bounds (n : Nat) : sliceBounds (some (-2)) none (some (-1)) n = (((n - 1 : Nat) : Int) - 1, -1, -1) := by
  unfold sliceBounds
  dsimp only [Option.getD_some]
  rw [if_pos (by decide : (-2 : Int) < 0), if_neg (by decide : ¬ (-1 : Int) > 0), if_neg (by decide : ¬ (-1 : Int) > 0)]
  refine Prod.ext ?_ rfl
  show max (-1) (min (-2 + (n : Int)) ((n : Int) - 1)) = ((n - 1 : Nat) : Int) - 1
  omega
theorem rev2_pick (items : Array Value) : slicePick items (some (-2)) none (some (-1)) = (items.toList.take (items.toList.length - 1)).reverse.toArray := by
  unfold slicePick
  rw [rev2_bounds]
  show ((sliceRange (((items.size - 1 : Nat) : Int) - 1) (-1) (-1)).filterMap (items[·]?)).toArray = _
  rw [PySem.W.krv_sliceRange, PySem.W.krv_range, List.filterMap_reverse]
  have h := PySem.pick_run items 0 (items.size - 1)
  have e : (List.range (items.size - 1)).map (0 + ·) = List.range (items.size - 1) := by
    rw [show ((0 + ·) : Nat → Nat) = id from funext fun k => Nat.zero_add k, List.map_id]
  rw [e, List.drop_zero] at h
  rw [h, Array.length_toList]
def tRev2 (K : PySem.W.Frag) (te : TE) : TE := fun σ H Q => te σ H fun x H1 => ∃ a xs, x = .ref a ∧ SqL K H1 a xs ∧ ∀ p, H1 p = none → Q (.ref p) (upd H1 p (.lst (xs.take (xs.length - 1)).reverse))
theorem pe_rev2 {e : Expr} {te : TE} {k k2 : Nat} {p1 p2 p3 p4 p5 pos : Pos} (he : PE X e te) : PE X (.Subscript e (.Slice (some (.UnaryOp .USub (.Constant (.int 2) k2 p4) p5)) none (some (.UnaryOp .USub (.Constant (.int 1) k p1) p2)) p3) pos) (tRev2 X.K te) := by
  refine ⟨fun pins s σ H Q I h => ?_⟩
  refine Subscript_ (thn (he.run pins s σ H _ I h) fun v s1 ⟨x, H1, I1, r1, q1⟩ => ?_)
  obtain ⟨a, xs, ex, hx, q⟩ := q1
  subst ex
  cases r1
  have hst : PO X (some (.UnaryOp .USub (.Constant (.int 1) k p1) p2)) (tPart (tUn (rU fun i => .int (-i)) (tC (.int 1)))) := po_some (pe_un un_neg pe_int)
  have hlo : PO X (some (.UnaryOp .USub (.Constant (.int 2) k2 p4) p5)) (tPart (tUn (rU fun i => .int (-i)) (tC (.int 2)))) := po_some (pe_un un_neg pe_int)
  refine wpAny_Slice (thn (hlo.run pins s1 σ H1 (fun o H2 => o = some (-2) ∧ H2 = H1) I1 ⟨2, rfl, -2, rfl, rfl, rfl⟩) fun vl s2 ⟨l, H2, I2, pl, el, e2⟩ => ?_)
  subst el e2
  refine thn (po_none.run pins s2 σ H2 (fun o H3 => o = none ∧ H3 = H2) I2 ⟨rfl, rfl⟩) fun vu s3 ⟨u, H3, I3, pu, eu, e3⟩ => ?_
  subst eu e3
  refine thn (hst.run pins s3 σ H3 (fun o H4 => o = some (-1) ∧ H4 = H3) I3 ⟨1, rfl, -1, rfl, rfl, rfl⟩) fun vs s4 ⟨o, H4, I4, ps, eo, e4⟩ => ?_
  subst eo e4
  have I5 : Inv X pins σ H4 { s4 with heap := s4.heap.push { cls := .type "slice", data := .fields #[vl, vu, vs] } } := I4.kept (t' := s4.toks) fun b ob q => Heap.get?_push_of_some _ q
  obtain ⟨its, r, ht, hz⟩ := I5.list hx
  have hlen := r.length
  show wpAny (model X.prog X.w) X.A (subscriptTail e (.Slice (some (.UnaryOp .USub (.Constant (.int 2) k2 p4) p5)) none (some (.UnaryOp .USub (.Constant (.int 1) k p1) p2)) p3) (.ref a) (.ref s4.heap.objs.size)) (EP X pins σ Q) X.xe { s4 with heap := s4.heap.push { cls := .type "slice", data := .fields #[vl, vu, vs] } }
  refine tail_any (ops := [.ref a, .ref s4.heap.objs.size]) ht.isList.typeIs (PySem.slot_list_getitem.lookup) ?_ (by with_unfolding_all rfl)
  refine wpAny_getItem_list_slice ht.isList (Heap.IsSliceOf.new _ vl vu vs) pl pu ps (by decide) ?_ (by rw [List.size_toArray]; omega)
  rw [rev2_pick]
  refine ⟨.ref _, _, I5.laid (t' := s4.toks) (o := .lst (xs.take (xs.length - 1)).reverse) (fun b ob q => Heap.get?_push_of_some _ q) (Nat.le_refl _) ?_, rfl, q _ (I5.hok.fresh (Nat.le_refl _))⟩
  refine ⟨by rw [List.length_reverse, List.length_take]; omega, _, 0, (r.take (xs.length - 1)).reverse, ?_⟩
  have e5 : (xs.length - 1) = (its.toArray.toList.length - 1) := by rw [hlen]
  rw [e5]
  exact Heap.get?_push_size _ rfl
end
end Q
set_option maxHeartbeats 1000000
namespace Q
open PySem L2 PyProof.Rows
section
variable {X : Cx} {a b : Expr} {ra rb : R3} {pos : Pos}
theorem close_gives {z z1 : Z} {l1 : Lks} {ρ1 : Env} {r : MV} {Q : VK} (p1 : Pend X.K l1 z z1) (er1 : z1.ρ = ρ1) (es1 : z1.σ = z.σ) (q : ∀ u z' T, Stp X.K z z' → z'.ρ = unl l1 ρ1 → z'.σ = z.σ → Tmp X.K z z' r u T → Q u z'.H) : Gives X.K z1 r Q := fun v z' T' s' er' es' t' => by
  refine q v (z'.setR (unl l1 z'.ρ)) T' (p1.close z' s') ?_ (es'.trans es1) ⟨t'.own, t'.nd, t'.apart, fun w hw => ?_⟩
  · show unl l1 z'.ρ = _
    rw [er', er1]
  · rcases t'.new w hw with g | g
    · exact p1.fr.newS w g
    · exact .inr (p1.fr.there w g)
theorem lset_v {p p2 q : Pos} (hc : X.calm = true) (hn : notSt a = true) (ha : Snd X a ra) (hg1 : Gl X "len") (hm1 : X.mg "len" = none) (hg2 : Gl X "set") (hm2 : X.mg "set" = none) :
    SndV X (.Call (.Name "len" p) [.Call (.Name "set" p2) [a] [] q] [] pos) (evExt .lset [ra]) := by
  intro z r ρ' R e1 Q qq
  obtain ⟨d, fl, ρ1, l1, h1, h2, rfl⟩ := ext1 e1
  have core : ∀ (ns : List Int), ns.length < 64 → r = .val (.int (sset ns).length) → (∀ z1 u, Rel X.K z1 → PkR X.K z1.A z1.S z1.H fl d u → ∃ a0, u = .ref a0 ∧ (SqL X.K z1.H a0 (ns.map V.int) ∨ SqT X.K z1.H a0 (ns.map V.int))) → RunsE X (.Call (.Name "len" p) [.Call (.Name "set" p2) [a] [] q] [] pos) z.σ z.H Q := by
    intro ns hl er hh
    subst er
    refine PE.rn (pe_callB cr_lenSet hg1 hm1 (by decide +kernel) (pa_cons (pe_callTy (cr_setOfL hc) hg2 hm2 (by decide +kernel) (pa_cons pr pa_nil (notSt_ok hn _ _)) (by decide) (by decide) (notSt_ok hn _ _) rfl) pa_nil)) (ha.p z _ fl _ _ R h1 _ fun u z1 p1 er1 es1 k1 => ?_)
    obtain ⟨a0, rfl, hq⟩ := hh z1 u p1.rel k1
    refine ⟨a0, ns, rfl, hq, hl, fun b c hb ec => ⟨b, _, c, rfl, upd_same, by have := sset_len ns; omega, ?_⟩⟩
    have s1 := lay_ok (o := SetO X.w b (fun j => decide (j ∈ ns)) c) p1.rel hb (fun a q => .inl q) fun a q => q
    subst ec
    exact close_gives p1 er1 es1 qq _ (z1.lay z1.A b _) [] s1 rfl rfl (Tmp.ofRep (.int _))
  unfold extR at h2
  split at h2 <;> first | (rename_i hf _; cases hf; done) | skip
  · rename_i xs _ hds
    cases hds
    obtain ⟨ns, h3, e3⟩ := bind_some h2
    split at e3
    · rename_i hl
      refine core ns hl (Option.some.inj e3).symm fun z1 u R1 k1 => ?_
      obtain ⟨a0, us, rfl, q0, l0⟩ := k1.rdAny R1.sub
      have e4 := ints_reps l0 h3
      subst e4
      exact ⟨a0, rfl, .inl q0.sq⟩
    · cases e3
  · rename_i xs _ hds
    cases hds
    obtain ⟨ns, h3, e3⟩ := bind_some h2
    split at e3
    · rename_i hl
      refine core ns hl (Option.some.inj e3).symm fun z1 u R1 k1 => ?_
      obtain ⟨a0, us, rfl, q0, l0⟩ := (k1.toS R1.sub).sqT
      have e4 := ints_reps l0 h3
      subst e4
      exact ⟨a0, rfl, .inr q0⟩
    · cases e3
  · cases h2
theorem rgV_reps {K : PySem.W.Frag} {A : AP} {H : Hp} (i j : Int) : Reps K A H (rgV i j) (rangeD i (j - i).toNat) := by
  unfold rgV rangeD
  generalize List.range (j - i).toNat = l
  induction l with
  | nil => exact .nil
  | cons k l ih => exact .cons (.int _) ih
theorem rg_ok {i j : Int} (h1 : inRng i = true) (h2 : inRng j = true) (h : (j - i).toNat ≤ 16777216) : RgOk i j := by
  obtain ⟨a1, a2⟩ := inRng_ok h1
  obtain ⟨b1, b2⟩ := inRng_ok h2
  exact ⟨a1, a2, b1, b2, by omega⟩
theorem rng0 : inRng 0 = true := by decide
theorem lrng1_inv {d : D} {fl : Fl} {r : MV} (h : extR .lrng1 [(d, fl)] = some r) : ∃ n, d = .int n ∧ inRng n = true ∧ n.toNat ≤ 16777216 ∧ r = .lst ((rangeD 0 n.toNat).map .val) := by
  cases d <;> simp [extR] at h
  rename_i n
  exact ⟨n, rfl, h.1.1, by omega, h.2.symm⟩
theorem trng1_inv {d : D} {fl : Fl} {r : MV} (h : extR .trng1 [(d, fl)] = some r) : ∃ n, d = .int n ∧ inRng n = true ∧ n.toNat ≤ 16777216 ∧ r = .val (.tuple (rangeD 0 n.toNat)) := by
  cases d <;> simp [extR] at h
  rename_i n
  exact ⟨n, rfl, h.1.1, by omega, h.2.symm⟩
theorem lrng1_v {p p2 q : Pos} (hc : X.calm = true) (hn : notSt a = true) (ha : Snd X a ra) (hg1 : Gl X "list") (hm1 : X.mg "list" = none) (hg2 : Gl X "range") (hm2 : X.mg "range" = none) :
    SndV X (.Call (.Name "list" p) [.Call (.Name "range" p2) [a] [] q] [] pos) (evExt .lrng1 [ra]) := by
  intro z r ρ' R e1 Q qq
  obtain ⟨d, fl, ρ1, l1, h1, h2, rfl⟩ := ext1 e1
  obtain ⟨n, rfl, c1, c2, rfl⟩ := lrng1_inv h2
  refine PE.rn (pe_listRg hc hg1 hm1 (prg_1 hg2 hm2 pr (notSt_ok hn _ _))) (ha.p z _ fl _ _ R h1 _ fun u z1 p1 er1 es1 k1 => ?_)
  refine ⟨n, (k1.toS p1.rel.sub).intv, rg_ok rng0 c1 (by simpa using c2), ?_⟩
  have rr := rgV_reps (K := X.K) (A := z1.A) (H := z1.H) 0 n
  rw [Int.sub_zero] at rr
  exact (close_gives p1 er1 es1 qq).lst p1.rel rr
theorem trng1_v {p p2 q : Pos} (hc : X.calm = true) (hn : notSt a = true) (ha : Snd X a ra) (hg1 : Gl X "tuple") (hm1 : X.mg "tuple" = none) (hg2 : Gl X "range") (hm2 : X.mg "range" = none) :
    SndV X (.Call (.Name "tuple" p) [.Call (.Name "range" p2) [a] [] q] [] pos) (evExt .trng1 [ra]) := by
  intro z r ρ' R e1 Q qq
  obtain ⟨d, fl, ρ1, l1, h1, h2, rfl⟩ := ext1 e1
  obtain ⟨n, rfl, c1, c2, rfl⟩ := trng1_inv h2
  refine PE.rn (pe_tupRg hc hg1 hm1 (prg_1 hg2 hm2 pr (notSt_ok hn _ _))) (ha.p z _ fl _ _ R h1 _ fun u z1 p1 er1 es1 k1 => ?_)
  refine ⟨n, (k1.toS p1.rel.sub).intv, rg_ok rng0 c1 (by simpa using c2), ?_⟩
  have rr := rgV_reps (K := X.K) (A := z1.A) (H := z1.H) 0 n
  rw [Int.sub_zero] at rr
  exact (close_gives p1 er1 es1 qq).tup p1.rel rr
theorem ext_no {f : Ext} {e : Expr} (h : ∀ d fl, extR f [(d, fl)] = none) : SndV X e (evExt f [ra]) := by
  intro z r ρ' R e1 Q qq
  obtain ⟨d, fl, ρ1, l1, h1, h2, rfl⟩ := ext1 e1
  rw [h] at h2; cases h2
theorem rev_v {k : Nat} {p1 p2 p3 : Pos} (ha : Snd X a ra) : SndV X (.Subscript a (.Slice none none (some (.UnaryOp .USub (.Constant (.int 1) k p1) p2)) p3) pos) (evExt .rev [ra]) := by
  intro z r ρ' R e1 Q qq
  obtain ⟨d, fl, ρ1, l1, h1, h2, rfl⟩ := ext1 e1
  unfold extR at h2
  split at h2 <;> first | (rename_i hf _; cases hf; done) | skip
  · rename_i xs _ hds
    cases hds
    split at h2
    · cases h2
    · rename_i hfl
      cases h2
      refine PE.rn (pe_revL pr) (ha.p z _ fl _ _ R h1 _ fun u z1 p1 er1 es1 k1 => ?_)
      obtain ⟨a0, us, rfl, q0, l0⟩ := k1.sqLb hfl
      have rr : ∀ {vs : List V} {ds : List D}, Reps X.K z1.A z1.H vs ds → Reps X.K z1.A z1.H vs.reverse ds.reverse := by
        intro vs
        induction vs with
        | nil => intro ds h; cases h; exact .nil
        | cons v vs ih =>
          intro ds h
          cases h with | cons h t =>
          rw [List.reverse_cons, List.reverse_cons]
          exact (ih t).append (.cons h .nil)
      exact ⟨a0, us, rfl, q0.sq, (close_gives p1 er1 es1 qq).lst p1.rel (rr l0)⟩
  · rename_i xs _ hds
    cases hds
    split at h2
    · cases h2
    · rename_i hfl
      cases h2
      refine PE.rn (pe_revT pr) (ha.p z _ fl _ _ R h1 _ fun u z1 p1 er1 es1 k1 => ?_)
      obtain ⟨a0, us, rfl, q0, l0⟩ := k1.sqT hfl
      have rr : ∀ {vs : List V} {ds : List D}, Reps X.K z1.A z1.H vs ds → Reps X.K z1.A z1.H vs.reverse ds.reverse := by
        intro vs
        induction vs with
        | nil => intro ds h; cases h; exact .nil
        | cons v vs ih =>
          intro ds h
          cases h with | cons h t =>
          rw [List.reverse_cons, List.reverse_cons]
          exact (ih t).append (.cons h .nil)
      exact ⟨a0, us, rfl, q0, (close_gives p1 er1 es1 qq).tup p1.rel (rr l0)⟩
  · cases h2
theorem rev2_v {k k2 : Nat} {p1 p2 p3 p4 p5 : Pos} (ha : Snd X a ra) : SndV X (.Subscript a (.Slice (some (.UnaryOp .USub (.Constant (.int 2) k2 p4) p5)) none (some (.UnaryOp .USub (.Constant (.int 1) k p1) p2)) p3) pos) (evExt .rev2 [ra]) := by
  intro z r ρ' R e1 Q qq
  obtain ⟨d, fl, ρ1, l1, h1, h2, rfl⟩ := ext1 e1
  unfold extR at h2
  split at h2 <;> first | (rename_i hf _; cases hf; done) | skip
  · rename_i xs _ hds
    cases hds
    split at h2
    · cases h2
    · rename_i hfl
      cases h2
      refine PE.rn (pe_rev2 pr) (ha.p z _ fl _ _ R h1 _ fun u z1 p1 er1 es1 k1 => ?_)
      obtain ⟨a0, us, rfl, q0, l0⟩ := k1.sqLb hfl
      have rr : ∀ {vs : List V} {ds : List D}, Reps X.K z1.A z1.H vs ds → Reps X.K z1.A z1.H vs.reverse ds.reverse := by
        intro vs
        induction vs with
        | nil => intro ds h; cases h; exact .nil
        | cons v vs ih =>
          intro ds h
          cases h with | cons h t =>
          rw [List.reverse_cons, List.reverse_cons]
          exact (ih t).append (.cons h .nil)
      have rt : ∀ {vs : List V} {ds : List D} (n : Nat), Reps X.K z1.A z1.H vs ds → Reps X.K z1.A z1.H (vs.take n) (ds.take n) := by
        intro vs
        induction vs with
        | nil => intro ds n h; cases h; rw [List.take_nil, List.take_nil]; exact .nil
        | cons v vs ih =>
          intro ds n h
          cases h with | cons h t =>
          cases n with
          | zero => exact .nil
          | succ n => exact .cons h (ih n t)
      have hlen := l0.length
      refine ⟨a0, us, rfl, q0.sq, ?_⟩
      try rw [hlen]
      exact (close_gives p1 er1 es1 qq).lst p1.rel (rr (rt _ l0))
  · cases h2
end
end Q
set_option maxHeartbeats 1000000
namespace Q
open PySem L2 PyProof.Rows

mutual
def ixs : Tg → List Nat
  | .name i => [i]
  | .tup ts => ixss ts
def ixss : List Tg → List Nat
  | [] => []
  | t :: ts => ixs t ++ ixss ts
end

structure KpX (ts : List Nat) (ρ : Env) (σ : L2.St) (TS : TSet) (ρ' : Env) (σ' : L2.St) (TS' : TSet) : Prop where
  len : ρ'.length = ρ.length
  lck : ∀ (i : Nat) m, ρ[i]? = some (Slot.lck m) → ρ'[i]? = some (Slot.lck m) ∧ σ'[i]? = σ[i]? ∧ TS' i = TS i
  lckB : ∀ (i : Nat) m, ρ'[i]? = some (Slot.lck m) → ρ[i]? = some (Slot.lck m)
  io : ∀ (i : Nat) m, ρ[i]? = some (Slot.io m) → ∃ m', ρ'[i]? = some (Slot.io m') ∧ σ'[i]? = σ[i]?
  ioB : ∀ (i : Nat) m, ρ'[i]? = some (Slot.io m) → ∃ m', ρ[i]? = some (Slot.io m')
  bor : ∀ (i : Nat) fl d, i ∉ ts → ρ'[i]? = some (Slot.bor fl d) → ρ[i]? = some (Slot.bor fl d) ∧ σ'[i]? = σ[i]?
/-- a later state; the targets ts may be borrowed anew -/
structure StpX (K : PySem.W.Frag) (ts : List Nat) (z z' : Z) : Prop where
  rel : Rel K z'
  fr : Fr z.A z.S z.H z'.A z'.S z'.H
  kp : KpX ts z.ρ z.σ z.TS z'.ρ z'.σ z'.TS
section
variable {K : PySem.W.Frag} {ts us : List Nat} {z z1 z2 z' : Z}
theorem Stp.x (s : Stp K z z') : StpX K ts z z' := ⟨s.rel, s.fr, ⟨s.kp.len, s.kp.lck, s.kp.lckB, s.kp.io, s.kp.ioB, fun i fl d _ h => s.kp.bor i fl d h⟩⟩
theorem StpX.trans (R : Rel K z) (a : StpX K ts z z1) (b : StpX K ts z1 z2) : StpX K ts z z2 := by
  refine ⟨b.rel, a.fr.trans R.trk b.fr, ⟨b.kp.len.trans a.kp.len, fun i m h => ?_, fun i m h => a.kp.lckB i m (b.kp.lckB i m h), fun i m h => ?_, fun i m h => (b.kp.ioB i m h).elim fun m' h' => a.kp.ioB i m' h', fun i fl d n h => ?_⟩⟩
  · obtain ⟨h1, h2, h3⟩ := a.kp.lck i m h
    obtain ⟨g1, g2, g3⟩ := b.kp.lck i m h1
    exact ⟨g1, g2.trans h2, g3.trans h3⟩
  · obtain ⟨m1, h1, h2⟩ := a.kp.io i m h
    obtain ⟨m2, g1, g2⟩ := b.kp.io i m1 h1
    exact ⟨m2, g1, g2.trans h2⟩
  · obtain ⟨g1, g2⟩ := b.kp.bor i fl d n h
    obtain ⟨h1, h2⟩ := a.kp.bor i fl d n g1
    exact ⟨h1, g2.trans h2⟩
theorem StpX.mono (h : ∀ i ∈ ts, i ∈ us) (a : StpX K ts z z1) : StpX K us z z1 := ⟨a.rel, a.fr, ⟨a.kp.len, a.kp.lck, a.kp.lckB, a.kp.io, a.kp.ioB, fun i fl d n q => a.kp.bor i fl d (fun w => n (h i w)) q⟩⟩
theorem StpX.step (R : Rel K z) (a : StpX K ts z z1) (b : Stp K z1 z2) : StpX K ts z z2 := a.trans R b.x
theorem StpX.nil (a : StpX K [] z z1) : Stp K z z1 := ⟨a.rel, a.fr, ⟨a.kp.len, a.kp.lck, a.kp.lckB, a.kp.io, a.kp.ioB, fun i fl d h => a.kp.bor i fl d (by simp) h⟩⟩
end

/-- a borrowed slot is given up -/
def clr1 (i : Nat) (ρ : Env) : Env := match ρ[i]? with
  | some (.bor _ _) => ρ.set i .unset
  | _ => ρ
def clrL (ts : List Nat) (ρ : Env) : Env := ts.foldl (fun ρ i => clr1 i ρ) ρ
mutual
theorem clrT_eq : ∀ (tg : Tg) (ρ : Env), clrT tg ρ = clrL (ixs tg) ρ
  | .name i, ρ => rfl
  | .tup ts, ρ => by unfold clrT ixs; exact clrTs_eq ts ρ
theorem clrTs_eq : ∀ (ts : List Tg) (ρ : Env), clrTs ts ρ = clrL (ixss ts) ρ
  | [], ρ => rfl
  | t :: ts, ρ => by
    unfold clrTs ixss
    rw [clrTs_eq ts, clrT_eq t]
    unfold clrL
    rw [List.foldl_append]
end
section
variable {K : PySem.W.Frag} {ts : List Nat} {z z' : Z}
theorem clr1_ok (R : Rel K z) (i : Nat) : Rel K (z.setR (clr1 i z.ρ)) ∧ (∀ a, (z.setR (clr1 i z.ρ)).S a ↔ z.S a) ∧ (∀ (j : Nat) s, (clr1 i z.ρ)[j]? = some s → z.ρ[j]? = some s ∨ (s = .unset ∧ j = i ∧ ∃ fl d, z.ρ[j]? = some (Slot.bor fl d))) ∧
    (∀ (j : Nat) s, z.ρ[j]? = some s → (clr1 i z.ρ)[j]? = some s ∨ (j = i ∧ isBor s = true)) ∧ (clr1 i z.ρ).length = z.ρ.length ∧ ∀ fl d, (clr1 i z.ρ)[i]? ≠ some (Slot.bor fl d) := by
  unfold clr1
  split
  · rename_i fl d h
    have lk : ∀ j, Lk (z.ρ.set i .unset) j ↔ Lk z.ρ j := fun j => by
      by_cases e : j = i
      · subst e
        constructor
        · rintro ⟨m, q⟩; rw [set_self h] at q; cases q
        · rintro ⟨m, q⟩; rw [h] at q; cases q
      · exact ⟨fun ⟨m, q⟩ => ⟨m, by rw [set_ne e] at q; exact q⟩, fun ⟨m, q⟩ => ⟨m, by rw [set_ne e]; exact q⟩⟩
    have sS : ∀ a, (z.setR (z.ρ.set i .unset)).S a ↔ z.S a := fun a => ⟨fun ⟨j, h1, h2⟩ => ⟨j, h1, fun q => h2 ((lk j).mpr q)⟩, fun ⟨j, h1, h2⟩ => ⟨j, h1, fun q => h2 ((lk j).mp q)⟩⟩
    refine ⟨⟨by show (z.ρ.set i _).length = _; rw [List.length_set]; exact R.len, fun j s e => ?_, fun j e => R.out j (set_none.mp e), R.nd, R.dj, R.trk⟩, sS, fun j s e => ?_, fun j s e => ?_, by rw [List.length_set], fun fl2 d2 e => ?_⟩
    · rcases set_get e with ⟨e0, rfl⟩ | ⟨_, e1⟩
      · subst e0
        obtain ⟨o, e2, r⟩ := R.slot j _ h
        refine ⟨o, e2, ?_⟩
        show SlotR K z.A _ z.H _ _ (z.TS j)
        generalize z.TS j = T at r
        cases r with | bor _ => exact .unset
      · obtain ⟨o, e2, r⟩ := R.slot j s e1
        refine ⟨o, e2, ?_⟩
        cases hb : isBor s with
        | false => exact r.anyS hb
        | true =>
          cases s with
          | bor fl d =>
            show SlotR K z.A _ z.H _ _ (z.TS j)
            generalize z.TS j = T at r
            cases r with
            | bor r => exact .bor (r.lessS fun a q => (sS a).mp q)
          | unset => cases hb
          | own _ => cases hb
          | io _ => cases hb
          | lck _ => cases hb
    · rcases set_get e with ⟨e0, rfl⟩ | ⟨_, e1⟩
      · subst e0; exact .inr ⟨rfl, rfl, fl, d, h⟩
      · exact .inl e1
    · by_cases e0 : j = i
      · subst e0; rw [h] at e; cases e; exact .inr ⟨rfl, rfl⟩
      · exact .inl ((set_ne e0).trans e)
    · rw [set_self h] at e; cases e
  · rename_i hn
    exact ⟨R, fun a => Iff.rfl, fun j s e => .inl e, fun j s e => .inl e, rfl, fun fl d e => hn fl d e⟩
/-- the targets are given up: then it is a later state -/
theorem clrL_ok : ∀ (us : List Nat) (z' : Z), StpX K ts z z' → (∀ i ∈ ts, i ∈ us ∨ ∀ fl d, z'.ρ[i]? ≠ some (Slot.bor fl d)) → Stp K z (z'.setR (clrL us z'.ρ))
  | [], z', s, h => by
    refine ⟨s.rel, s.fr, ⟨s.kp.len, s.kp.lck, s.kp.lckB, s.kp.io, s.kp.ioB, fun i fl d e => s.kp.bor i fl d (fun w => ?_) e⟩⟩
    rcases h i w with q | q
    · cases q
    · exact q fl d e
  | u :: us, z', s, h => by
    obtain ⟨R1, sS, b1, b2, b3, b4⟩ := clr1_ok s.rel u
    have s1 : StpX K ts z (z'.setR (clr1 u z'.ρ)) := by
      refine ⟨R1, ⟨s.fr.keep, s.fr.newA, fun a q => s.fr.newS a ((sS a).mp q), s.fr.keepA, s.fr.there⟩, ⟨b3.trans s.kp.len, fun i m e => ?_, fun i m e => ?_, fun i m e => ?_, fun i m e => ?_, fun i fl d n e => ?_⟩⟩
      · obtain ⟨a1, a2, a3⟩ := s.kp.lck i m e
        rcases b2 i _ a1 with q | ⟨_, q⟩
        · exact ⟨q, a2, a3⟩
        · cases q
      · rcases b1 i _ e with q | ⟨q, _⟩
        · exact s.kp.lckB i m q
        · cases q
      · obtain ⟨m', a1, a2⟩ := s.kp.io i m e
        rcases b2 i _ a1 with q | ⟨_, q⟩
        · exact ⟨m', q, a2⟩
        · cases q
      · rcases b1 i _ e with q | ⟨q, _⟩
        · exact s.kp.ioB i m q
        · cases q
      · rcases b1 i _ e with q | ⟨q, _⟩
        · exact s.kp.bor i fl d n q
        · cases q
    have := clrL_ok us (z'.setR (clr1 u z'.ρ)) s1 fun i hi => by
      rcases h i hi with q | q
      · rcases List.mem_cons.mp q with e | q
        · subst e; exact .inr b4
        · exact .inl q
      · refine .inr fun fl d e => ?_
        rcases b1 i _ e with w | ⟨w, _⟩
        · exact q fl d w
        · cases w
    exact this
end

/-! ### targets -/
def RunsG (X : Cx) (tg : Expr) : TG := fun v σ H Q => ∀ (pins : List (Addr × Obj)) (s : Shared) (u : Value), Inv X pins σ H s → RelV v u → wpAny (model X.prog X.w) X.A (assign tg X.env u) (fun _ s' => ∃ σ' H', Inv X pins σ' H' s' ∧ Q σ' H') X.xe s
def RunsGs (X : Cx) (tgs : List Expr) : TGs := fun vs σ H Q => ∀ (pins : List (Addr × Obj)) (s : Shared) (us : List Value), Inv X pins σ H s → Vals vs us → wpAny (model X.prog X.w) X.A (assignInOrder ((assignEach tgs X.env).map (·.2)) us) (fun _ s' => ∃ σ' H', Inv X pins σ' H' s' ∧ Q σ' H') X.xe s
theorem prg {X : Cx} {tg : Expr} : PG X tg (RunsG X tg) := ⟨fun pins s σ H v u Q I r h => h pins s u I r⟩
theorem prgs {X : Cx} {tg : List Expr} : PGs X tg (RunsGs X tg) := ⟨fun pins s σ H v u Q I r h => h pins s u I r⟩
theorem PG.rn {X : Cx} {tg : Expr} {t : TG} (h : PG X tg t) {v : V} {σ : L2.St} {H : Hp} {Q : L2.St → Hp → Prop} (q : t v σ H Q) : RunsG X tg v σ H Q := fun pins s u I r => h.run pins s σ H v u Q I r q
theorem PGs.rn {X : Cx} {tg : List Expr} {t : TGs} (h : PGs X tg t) {v : List V} {σ : L2.St} {H : Hp} {Q : L2.St → Hp → Prop} (q : t v σ H Q) : RunsGs X tg v σ H Q := fun pins s u I r => h.run pins s σ H v u Q I r q
theorem star_assign {e : Expr} (h : notSt e = true) (es : List Expr) (env : PySem.Env) : assignEach (e :: es) env = (false, assign e env) :: assignEach es env := by
  cases e <;> first | (cases h; done) | rfl
mutual
inductive TgOk (X : Cx) : Tg → Expr → Prop
  | name {i : Nat} {x : Str} {p : Pos} : X.N[i]? = some x → Loc X.env.scope x → (X.fn x = true ∨ X.env.scope.names.lookup x = some .local) → TgOk X (.name i) (.Name x p)
  | tup {ts : List Tg} {es : List Expr} {k : Nat} {p : Pos} : TgsOk X ts es → TgOk X (.tup ts) (.Tuple es k p)
inductive TgsOk (X : Cx) : List Tg → List Expr → Prop
  | nil : TgsOk X [] []
  | cons {t : Tg} {e : Expr} {ts : List Tg} {es : List Expr} : notSt e = true → TgOk X t e → TgsOk X ts es → TgsOk X (t :: ts) (e :: es)
end
theorem TgsOk.plain {X : Cx} : ∀ {ts : List Tg} {es : List Expr}, TgsOk X ts es → (assignEach es X.env).length = es.length ∧ (assignEach es X.env).findIdx? (·.1) = none
  | _, _, .nil => ⟨rfl, rfl⟩
  | _, _, .cons h _ t => by
    obtain ⟨a, b⟩ := TgsOk.plain t
    rw [star_assign h]
    refine ⟨by simp [a], ?_⟩
    rw [List.findIdx?_cons]
    simp [b]
theorem TgsOk.length {X : Cx} : ∀ {ts : List Tg} {es : List Expr}, TgsOk X ts es → ts.length = es.length
  | _, _, .nil => rfl
  | _, _, .cons _ _ t => by simp [TgsOk.length t]
section
variable {K : PySem.W.Frag} {z : Z}
/-- a slot is given another value -/
def Z.bnd (z : Z) (i : Nat) (s : Slot) (v : V) (T : List Addr) : Z := { z with ρ := z.ρ.set i s, σ := z.σ.set i (some v), TS := z.TS.up i T }
theorem putVar_ok {i : Nat} {s : Slot} {ρ ρ' : Env} (h : putVar i s ρ = some ρ') : ρ' = ρ.set i s ∧ ∃ t, ρ[i]? = some t ∧ (∀ m, t ≠ .lck m) ∧ (∀ m, t ≠ .io m) := by
  unfold putVar at h
  split at h
  · rename_i h1; cases h; exact ⟨rfl, _, h1, fun m e => (by cases e), fun m e => (by cases e)⟩
  · rename_i h1; cases h; exact ⟨rfl, _, h1, fun m e => (by cases e), fun m e => (by cases e)⟩
  · rename_i h1; cases h; exact ⟨rfl, _, h1, fun m e => (by cases e), fun m e => (by cases e)⟩
  · cases h
theorem bnd_ok (R : Rel K z) {i : Nat} {s t : Slot} {v : V} {T : List Addr} (ht : z.ρ[i]? = some t) (nl : ∀ m, t ≠ .lck m) (ni : ∀ m, t ≠ .io m) (sl : ∀ m, s ≠ .lck m) (si : ∀ m, s ≠ .io m) (nd : T.Nodup) (ap : ∀ b ∈ T, ∀ j, b ∉ z.TS j)
    (hs : (∀ a, (z.bnd i s v T).S a → z.S a ∨ a ∈ T) → SlotR K z.A (z.bnd i s v T).S z.H s (some v) T) (hT : T = [] ∨ ∀ (j : Nat) fl d, j ≠ i → z.ρ[j]? ≠ some (Slot.bor fl d)) (fr : ∀ a ∈ T, z.S a ∨ z.H a = none ∨ True) :
    Rel K (z.bnd i s v T) ∧ ∀ a, (z.bnd i s v T).S a → z.S a ∨ a ∈ T := by
  have hi : i < z.σ.length := by rw [← R.len]; exact (List.getElem?_eq_some_iff.mp ht).1
  have lk : ∀ j, Lk (z.ρ.set i s) j ↔ Lk z.ρ j := fun j => by
    by_cases e : j = i
    · subst e
      constructor
      · rintro ⟨m, q⟩; rw [set_self ht] at q; exact absurd (Option.some.inj q) (sl m)
      · rintro ⟨m, q⟩; rw [ht] at q; exact absurd (Option.some.inj q) (nl m)
    · exact ⟨fun ⟨m, q⟩ => ⟨m, by rw [set_ne e] at q; exact q⟩, fun ⟨m, q⟩ => ⟨m, by rw [set_ne e]; exact q⟩⟩
  have sS : ∀ a, (z.bnd i s v T).S a → z.S a ∨ a ∈ T := fun a ⟨j, hj, n⟩ => by
    have hj : a ∈ z.TS.up i T j := hj
    by_cases e : j = i
    · subst e; rw [TSet.up_same] at hj; exact .inr hj
    · rw [TSet.up_ne e] at hj; exact .inl ⟨j, hj, fun q => n ((lk j).mpr q)⟩
  refine ⟨⟨?_, fun j s' e => ?_, fun j e => ?_, fun j => ?_, fun j k a hj hk => ?_, R.trk⟩, sS⟩
  · show (z.ρ.set i s).length = (z.σ.set i (some v)).length
    rw [List.length_set, List.length_set]; exact R.len
  · show ∃ o, (z.σ.set i (some v))[j]? = some o ∧ SlotR K z.A (z.bnd i s v T).S z.H s' o (z.TS.up i T j)
    rw [sset_get hi]
    rcases set_get e with ⟨e0, rfl⟩ | ⟨hji, e1⟩
    · subst e0
      rw [if_pos rfl, TSet.up_same]
      exact ⟨_, rfl, hs sS⟩
    · rw [if_neg hji, TSet.up_ne hji]
      obtain ⟨o, e2, r⟩ := R.slot j s' e1
      refine ⟨o, e2, ?_⟩
      cases hb : isBor s' with
      | false => exact r.anyS hb
      | true =>
        cases s' with
        | bor fl d =>
          generalize z.TS j = Tj at r
          cases r with
          | bor r =>
            rcases hT with h0 | h0
            · subst h0
              exact .bor (r.lessS fun a q => by
                rcases sS a q with w | w
                · exact w
                · cases w)
            · exact absurd e1 (h0 j fl d hji)
        | unset => cases hb
        | own _ => cases hb
        | io _ => cases hb
        | lck _ => cases hb
  · have e1 : z.ρ[j]? = none := set_none.mp e
    have hji : j ≠ i := fun q => by subst q; rw [ht] at e1; cases e1
    show z.TS.up i T j = []
    rw [TSet.up_ne hji]; exact R.out j e1
  · show (z.TS.up i T j).Nodup
    by_cases hji : j = i
    · subst hji; rw [TSet.up_same]; exact nd
    · rw [TSet.up_ne hji]; exact R.nd j
  · have hj : a ∈ z.TS.up i T j := hj
    have hk : a ∈ z.TS.up i T k := hk
    by_cases hji : j = i
    · by_cases hki : k = i
      · rw [hji, hki]
      · rw [hji, TSet.up_same] at hj; rw [TSet.up_ne hki] at hk; exact absurd hk (ap a hj k)
    · by_cases hki : k = i
      · rw [hki, TSet.up_same] at hk; rw [TSet.up_ne hji] at hj; exact absurd hj (ap a hk j)
      · rw [TSet.up_ne hji] at hj; rw [TSet.up_ne hki] at hk; exact R.dj j k a hj hk
theorem bnd_kp {i : Nat} {s t : Slot} {v : V} {T : List Addr} (hi : i < z.σ.length) (ht : z.ρ[i]? = some t) (nl : ∀ m, t ≠ .lck m) (ni : ∀ m, t ≠ .io m) (sl : ∀ m, s ≠ .lck m) (si : ∀ m, s ≠ .io m) :
    KpX [i] z.ρ z.σ z.TS (z.bnd i s v T).ρ (z.bnd i s v T).σ (z.bnd i s v T).TS := by
  show KpX [i] z.ρ z.σ z.TS (z.ρ.set i s) (z.σ.set i (some v)) (z.TS.up i T)
  refine ⟨by rw [List.length_set], fun j m e => ?_, fun j m e => ?_, fun j m e => ?_, fun j m e => ?_, fun j fl d n e => ?_⟩
  · have hji : j ≠ i := fun q => by subst q; rw [ht] at e; exact nl m (Option.some.inj e)
    exact ⟨(set_ne hji).trans e, by rw [sset_get hi, if_neg hji], TSet.up_ne hji⟩
  · rcases set_get e with ⟨_, e1⟩ | ⟨_, e1⟩
    · exact absurd e1.symm (sl m)
    · exact e1
  · have hji : j ≠ i := fun q => by subst q; rw [ht] at e; exact ni m (Option.some.inj e)
    exact ⟨m, (set_ne hji).trans e, by rw [sset_get hi, if_neg hji]⟩
  · rcases set_get e with ⟨_, e1⟩ | ⟨_, e1⟩
    · exact absurd e1.symm (si m)
    · exact ⟨m, e1⟩
  · have hji : j ≠ i := fun q => n (by rw [q]; simp)
    rcases set_get e with ⟨e0, _⟩ | ⟨_, e1⟩
    · exact absurd e0 hji
    · exact ⟨e1, by rw [sset_get hi, if_neg hji]⟩
theorem slotOf_ok {A S : AP} {H : Hp} {fl : Fl} {d : D} {v : V} (k : PkR K A S H fl d v) : SlotR K A S H (slotOf fl d) (some v) [] ∧ (∀ m, slotOf fl d ≠ .lck m) ∧ ∀ m, slotOf fl d ≠ .io m := by
  cases fl with
  | val => exact ⟨.own (.val k), fun m e => (by cases e), fun m e => (by cases e)⟩
  | shal => exact ⟨.bor k, fun m e => (by cases e), fun m e => (by cases e)⟩
  | deep => exact ⟨.bor k, fun m e => (by cases e), fun m e => (by cases e)⟩
end
section
variable {X : Cx}
mutual
theorem bind_ok (hN : X.N.Nodup) (hc : X.calm = true) : ∀ {tg : Tg} {e : Expr}, TgOk X tg e → ∀ (z : Z) (fl : Fl) (d : D) (v : V) (ρ' : Env) (Q : L2.St → Hp → Prop), Rel X.K z → PkR X.K z.A z.S z.H fl d v → bindT tg fl d z.ρ = some ρ' →
    (∀ z', StpX X.K (ixs tg) z z' → z'.ρ = ρ' → z'.H = z.H → z'.A = z.A → (∀ a, z'.S a → z.S a) → (∀ i, i ∉ ixs tg → z'.σ[i]? = z.σ[i]?) → Q z'.σ z'.H) → RunsG X e v z.σ z.H Q
  | _, _, .name (i := i) (x := x) (p := p) hi hx hf, z, fl, d, v, ρ', Q, R, k, h, q => by
    obtain ⟨e1, t, ht, nl, ni⟩ := putVar_ok (show putVar i (slotOf fl d) z.ρ = some ρ' from h)
    subst e1
    have hil : i < z.σ.length := by rw [← R.len]; exact (List.getElem?_eq_some_iff.mp ht).1
    obtain ⟨_, sl, si⟩ := slotOf_ok k
    obtain ⟨R1, sS⟩ := bnd_ok (v := v) R ht nl ni sl si List.nodup_nil (fun _ q => (nomatch q)) (fun sS => (slotOf_ok (k.lessS fun a w => by
      rcases sS a w with y | y
      · exact y
      · cases y)).1) (.inl rfl) fun _ q => (nomatch q)
    have sS' : ∀ a, (z.bnd i (slotOf fl d) v []).S a → z.S a := fun a w => by
      rcases sS a w with y | y
      · exact y
      · cases y
    refine PG.rn (pg_name hN hi hx hf) ?_
    refine q (z.bnd i (slotOf fl d) v []) ⟨R1, ⟨fun _ _ e _ => e, fun _ w => .inl w, fun a w => .inl (sS' a w), fun _ w _ => w, fun _ e => e⟩, bnd_kp hil ht nl ni sl si⟩ rfl rfl rfl sS' fun j hj => ?_
    show (z.σ.set i (some v))[j]? = _
    rw [sset_get hil, if_neg (fun w => hj (by rw [w]; simp [ixs]))]
  | _, _, .tup (ts := ts) (es := es) hts, z, fl, d, v, ρ', Q, R, k, h, q => by
    cases d with
    | tuple ds =>
      have h : bindTs ts fl ds z.ρ = some ρ' := h
      obtain ⟨p1, p2⟩ := hts.plain
      refine PG.rn (pg_tup hc prgs p1 p2) ?_
      -- the tuple and its items
      have items : ∃ a xs, v = .ref a ∧ SqT X.K z.H a xs ∧ xs.length = ds.length ∧ ∀ (i : Nat) d x, ds[i]? = some d → xs[i]? = some x → PkR X.K z.A z.S z.H (childFl fl d) d x := by
        by_cases hf : fl = .deep
        · subst hf
          have k : Rep X.K z.S z.H v (.tuple ds) := k
          obtain ⟨a, xs, rfl, hq, p⟩ := k.sqT
          refine ⟨a, xs, rfl, hq, p.length, fun i d x hd hx => ?_⟩
          obtain ⟨d2, g1, g2⟩ := p.getv hx
          rw [hd] at g1; cases g1
          show PkR X.K z.A z.S z.H (if flat d = true then .val else .deep) d x
          split
          · rename_i hfl; exact g2.flat hfl
          · exact g2
        · obtain ⟨a, xs, rfl, hq, p⟩ := k.sqT hf
          refine ⟨a, xs, rfl, hq, p.length, fun i d x hd hx => ?_⟩
          obtain ⟨d2, g1, g2⟩ := p.getv hx
          rw [hd] at g1; cases g1
          cases fl with
          | val => exact g2
          | shal => exact g2
          | deep => exact absurd rfl hf
      obtain ⟨a, xs, rfl, hq, hl, hit⟩ := items
      have hlen : ts.length = ds.length := bindTs_len h
      refine ⟨a, xs, rfl, hq, by rw [hl, ← hlen, hts.length], ?_⟩
      exact binds_ok hN hc hts z fl ds xs ρ' Q R hl hit h fun z' s er eh ea sS hσ => q z' (by simpa [ixs] using s) er eh ea sS fun i hi => hσ i (by simpa [ixs] using hi)
    | none => cases h
    | bool _ => cases h
    | int _ => cases h
    | str _ => cases h
    | list ds =>
      have h : bindTs ts fl ds z.ρ = some ρ' := h
      obtain ⟨p1, p2⟩ := hts.plain
      obtain ⟨a, xs, rfl, hq, hl, hz⟩ := listR R k
      have hlen : ts.length = ds.length := bindTs_len h
      refine PG.rn (pg_unl hc prgs p1 p2) ⟨a, xs, rfl, hq, by rw [hl, ← hlen, hts.length], ?_⟩
      exact binds_ok hN hc hts z fl ds xs ρ' Q R hl (fun i d x hd hx => by
        have := (hz z R Fr.refl).2 i d x hd hx
        cases fl <;> exact this) h fun z' s er eh ea sS hσ => q z' (by simpa [ixs] using s) er eh ea sS fun i hi => hσ i (by simpa [ixs] using hi)
    | dict _ => cases h
theorem bindTs_len : ∀ {ts : List Tg} {fl : Fl} {ds : List D} {ρ ρ' : Env}, bindTs ts fl ds ρ = some ρ' → ts.length = ds.length
  | [], _, [], _, _, _ => rfl
  | t :: ts, fl, d :: ds, ρ, ρ', h => by
    unfold bindTs at h
    obtain ⟨ρ1, h1, h2⟩ := bind_some (show (bindT t (childFl fl d) d ρ).bind _ = some _ from h)
    simp [bindTs_len h2]
  | [], _, _ :: _, _, _, h => by unfold bindTs at h; cases h
  | _ :: _, _, [], _, _, h => by unfold bindTs at h; cases h
theorem binds_ok (hN : X.N.Nodup) (hc : X.calm = true) : ∀ {ts : List Tg} {es : List Expr}, TgsOk X ts es → ∀ (z : Z) (fl : Fl) (ds : List D) (vs : List V) (ρ' : Env) (Q : L2.St → Hp → Prop), Rel X.K z → vs.length = ds.length →
    (∀ (i : Nat) d x, ds[i]? = some d → vs[i]? = some x → PkR X.K z.A z.S z.H (childFl fl d) d x) → bindTs ts fl ds z.ρ = some ρ' →
    (∀ z', StpX X.K (ixss ts) z z' → z'.ρ = ρ' → z'.H = z.H → z'.A = z.A → (∀ a, z'.S a → z.S a) → (∀ i, i ∉ ixss ts → z'.σ[i]? = z.σ[i]?) → Q z'.σ z'.H) → RunsGs X es vs z.σ z.H Q
  | _, _, .nil, z, fl, ds, vs, ρ', Q, R, hl, hit, h, q => by
    cases ds with
    | cons _ _ => unfold bindTs at h; cases h
    | nil =>
      have e : vs = [] := List.length_eq_zero_iff.mp hl
      subst e
      unfold bindTs at h
      cases h
      exact PGs.rn pgs_nil ⟨rfl, q z (Stp.refl R).x rfl rfl rfl (fun _ w => w) fun _ _ => rfl⟩
  | _, _, .cons (t := t) (e := e) (ts := ts) (es := es) hn ht hts, z, fl, ds, vs, ρ', Q, R, hl, hit, h, q => by
    cases ds with
    | nil => unfold bindTs at h; cases h
    | cons d ds =>
      cases vs with
      | nil => cases hl
      | cons v vs =>
        unfold bindTs at h
        obtain ⟨ρ1, h1, h2⟩ := bind_some (show (bindT t (childFl fl d) d z.ρ).bind _ = some _ from h)
        refine PGs.rn (pgs_cons prg prgs (by rw [star_assign hn]; rfl)) ⟨v, vs, rfl, ?_⟩
        refine bind_ok hN hc ht z (childFl fl d) d v ρ1 _ R (hit 0 d v rfl rfl) h1 fun z1 s1 er1 eh1 ea1 sS1 hσ1 => ?_
        refine binds_ok hN hc hts z1 fl ds vs ρ' Q s1.rel (by simpa using hl) (fun i d' x hd hx => ?_) (by rw [er1]; exact h2) fun z2 s2 er2 eh2 ea2 sS2 hσ2 => ?_
        · have kk := hit (i + 1) d' x (by simpa using hd) (by simpa using hx)
          rw [eh1, ea1]
          exact kk.lessS sS1
        · refine q z2 ?_ er2 (eh2.trans eh1) (ea2.trans ea1) (fun a w => sS1 a (sS2 a w)) fun i hi => ?_
          · exact (s1.mono fun i hi => by simp [ixss, hi]).trans R (s2.mono fun i hi => by simp [ixss, hi])
          · have hi' : i ∉ ixs t ∧ i ∉ ixss ts := by simpa [ixss] using hi
            rw [hσ2 i hi'.2, hσ1 i hi'.1]
end
end
end Q
set_option maxHeartbeats 1000000
namespace Q
open PySem L2 PyProof.Rows

theorem wipeE_len (own : List Nat) (ρ : Env) : (wipeE own ρ).length = ρ.length := by
  induction own with
  | nil => rfl
  | cons i r ih => show ((wipeE r ρ).set i .unset).length = _; rw [List.length_set, ih]
theorem wipeE_in {own : List Nat} {ρ : Env} {j : Nat} (h : j ∈ own) (hl : j < ρ.length) : (wipeE own ρ)[j]? = some .unset := by
  induction own with
  | nil => cases h
  | cons i r ih =>
    show ((wipeE r ρ).set i .unset)[j]? = _
    by_cases e : i = j
    · subst e; rw [List.getElem?_set_self (by rw [wipeE_len]; exact hl)]
    · rw [List.getElem?_set_ne e]
      rcases List.mem_cons.mp h with h | h
      · exact absurd h.symm e
      · exact ih h
theorem wipeE_out {own : List Nat} {ρ : Env} {j : Nat} (h : j ∉ own) : (wipeE own ρ)[j]? = ρ[j]? := by
  induction own with
  | nil => rfl
  | cons i r ih =>
    have h' : j ≠ i ∧ j ∉ r := by simpa using h
    show ((wipeE r ρ).set i .unset)[j]? = _
    rw [List.getElem?_set_ne (fun e => h'.1 e.symm), ih h'.2]
theorem unwipe_len (own : List Nat) (ρ1 ρ : Env) : (unwipe own ρ1 ρ).length = ρ.length := by
  induction own with
  | nil => rfl
  | cons i r ih => show ((unwipe r ρ1 ρ).set i _).length = _; rw [List.length_set, ih]
theorem unwipe_in {own : List Nat} {ρ1 ρ : Env} {j : Nat} {s : Slot} (h : j ∈ own) (hl : j < ρ.length) (hs : ρ1[j]? = some s) : (unwipe own ρ1 ρ)[j]? = some s := by
  induction own with
  | nil => cases h
  | cons i r ih =>
    show ((unwipe r ρ1 ρ).set i ((ρ1[i]?).getD .unset))[j]? = _
    by_cases e : i = j
    · subst e; rw [List.getElem?_set_self (by rw [unwipe_len]; exact hl), hs]; rfl
    · rw [List.getElem?_set_ne e]
      rcases List.mem_cons.mp h with h | h
      · exact absurd h.symm e
      · exact ih h
theorem unwipe_out {own : List Nat} {ρ1 ρ : Env} {j : Nat} (h : j ∉ own) : (unwipe own ρ1 ρ)[j]? = ρ[j]? := by
  induction own with
  | nil => rfl
  | cons i r ih =>
    have h' : j ≠ i ∧ j ∉ r := by simpa using h
    show ((unwipe r ρ1 ρ).set i _)[j]? = _
    rw [List.getElem?_set_ne (fun e => h'.1 e.symm), ih h'.2]
theorem wipe_in {own : List Nat} {σ : L2.St} {j : Nat} (h : j ∈ own) (hl : j < σ.length) : (wipe σ own)[j]? = some none := by
  induction own with
  | nil => cases h
  | cons i r ih =>
    show ((wipe σ r).set i none)[j]? = _
    by_cases e : i = j
    · subst e; rw [List.getElem?_set_self (by rw [wipe_length]; exact hl)]
    · rw [List.getElem?_set_ne e]
      rcases List.mem_cons.mp h with h | h
      · exact absurd h.symm e
      · exact ih h
theorem wipe_out {own : List Nat} {σ : L2.St} {j : Nat} (h : j ∉ own) : (wipe σ own)[j]? = σ[j]? := by
  induction own with
  | nil => rfl
  | cons i r ih =>
    have h' : j ≠ i ∧ j ∉ r := by simpa using h
    show ((wipe σ r).set i none)[j]? = _
    rw [List.getElem?_set_ne (fun e => h'.1 e.symm), ih h'.2]
theorem wipe_eq {own : List Nat} {σ σ' : L2.St} (hl : σ'.length = σ.length) (h : ∀ j, j ∉ own → σ'[j]? = σ[j]?) : wipe σ' own = wipe σ own := by
  apply List.ext_getElem?
  intro j
  by_cases hj : j ∈ own
  · by_cases hlt : j < σ.length
    · rw [wipe_in hj (by omega), wipe_in hj hlt]
    · rw [List.getElem?_eq_none (by rw [wipe_length]; omega), List.getElem?_eq_none (by rw [wipe_length]; omega)]
  · rw [wipe_out hj, wipe_out hj, h j hj]

section
variable {K : PySem.W.Frag} {z z1 z' : Z} {own : List Nat}
/-- the block's own slots are hidden -/
def Z.hide (z : Z) (own : List Nat) : Z := { z with ρ := wipeE own z.ρ, σ := wipe z.σ own, TS := fun i => if i ∈ own then [] else z.TS i }
theorem hide_S {a : Addr} (h : (z.hide own).S a) : z.S a ∧ ∀ i ∈ own, a ∈ z.TS i → (∃ j, j ∉ own ∧ a ∈ z.TS j) := by
  obtain ⟨j, hj, nl⟩ := h
  have hj : a ∈ (if j ∈ own then [] else z.TS j) := hj
  by_cases e : j ∈ own
  · rw [if_pos e] at hj; cases hj
  · rw [if_neg e] at hj
    exact ⟨⟨j, hj, fun ⟨m, q⟩ => nl ⟨m, (wipeE_out e).trans q⟩⟩, fun _ _ _ => ⟨j, e, hj⟩⟩
theorem hide_ok (R : Rel K z) : Rel K (z.hide own) := by
  refine ⟨by show (wipeE own z.ρ).length = (wipe z.σ own).length; rw [wipeE_len, wipe_length]; exact R.len, fun i s e => ?_, fun i e => ?_, fun i => ?_, fun i j a hi hj => ?_, R.trk⟩
  · have e : (wipeE own z.ρ)[i]? = some s := e
    show ∃ o, (wipe z.σ own)[i]? = some o ∧ SlotR K z.A (z.hide own).S z.H s o (if i ∈ own then [] else z.TS i)
    have hi : i < z.ρ.length := by
      have := (List.getElem?_eq_some_iff.mp e).1
      rw [wipeE_len] at this; exact this
    by_cases hm : i ∈ own
    · rw [wipeE_in hm hi] at e
      cases e
      rw [if_pos hm, wipe_in hm (by rw [← R.len]; exact hi)]
      exact ⟨_, rfl, .unset⟩
    · rw [wipeE_out hm] at e
      rw [if_neg hm, wipe_out hm]
      obtain ⟨o, e2, r⟩ := R.slot i s e
      refine ⟨o, e2, ?_⟩
      cases hb : isBor s with
      | false => exact r.anyS hb
      | true =>
        cases s with
        | bor fl d =>
          generalize z.TS i = T at r
          cases r with
          | bor r => exact .bor (r.lessS fun a q => (hide_S q).1)
        | unset => cases hb
        | own _ => cases hb
        | io _ => cases hb
        | lck _ => cases hb
  · show (if i ∈ own then [] else z.TS i) = []
    by_cases hm : i ∈ own
    · rw [if_pos hm]
    · rw [if_neg hm]
      refine R.out i ?_
      have e : (wipeE own z.ρ)[i]? = none := e
      rw [wipeE_out hm] at e; exact e
  · show (if i ∈ own then [] else z.TS i : List Addr).Nodup
    split
    · exact List.nodup_nil
    · exact R.nd i
  · have hi : a ∈ (if i ∈ own then [] else z.TS i) := hi
    have hj : a ∈ (if j ∈ own then [] else z.TS j) := hj
    by_cases h1 : i ∈ own
    · rw [if_pos h1] at hi; cases hi
    · by_cases h2 : j ∈ own
      · rw [if_pos h2] at hj; cases hj
      · rw [if_neg h1] at hi; rw [if_neg h2] at hj; exact R.dj i j a hi hj
theorem hide_fr (z : Z) (own : List Nat) : Fr z.A z.S z.H (z.hide own).A (z.hide own).S (z.hide own).H := ⟨fun _ _ e _ => e, fun _ h => .inl h, fun _ h => .inl (hide_S h).1, fun _ h _ => h, fun _ h => h⟩
/-- and come back -/
def Z.show' (z' z : Z) (own : List Nat) : Z := { z' with ρ := unwipe own z.ρ z'.ρ, σ := z.σ, TS := fun i => if i ∈ own then z.TS i else z'.TS i }
theorem show_ok (R : Rel K z) (hown : ∀ i ∈ own, i < z.ρ.length) (s : Stp K (z.hide own) z') (hσ : z'.σ = (z.hide own).σ) (hu : ∀ i ∈ own, z'.ρ[i]? = some .unset) : Stp K z (z'.show' z own) := by
  have R1 := hide_ok (own := own) R
  have nH : ∀ i ∈ own, ∀ a ∈ z.TS i, ¬ (z.hide own).S a := fun i hi a ha hs => by
    obtain ⟨j, hj, h2⟩ := (hide_S hs).2 i hi ha
    exact hj (R.dj i j a ha h2 ▸ hi)
  have hlen : z'.ρ.length = z.ρ.length := by rw [s.kp.len]; exact wipeE_len own z.ρ
  have fr0 := (hide_fr z own).trans R.trk s.fr
  have getin : ∀ {j : Nat} {sl : Slot}, j ∈ own → (unwipe own z.ρ z'.ρ)[j]? = some sl → z.ρ[j]? = some sl := fun {j sl} hj e => by
    obtain ⟨s0, h0⟩ : ∃ s0, z.ρ[j]? = some s0 := ⟨z.ρ[j]'(hown j hj), List.getElem?_eq_getElem _⟩
    rw [unwipe_in hj (by rw [hlen]; exact hown j hj) h0] at e
    rw [h0]; exact e
  have hσl : z'.σ.length = z.σ.length := by rw [hσ]; exact wipe_length z.σ own
  have apart : ∀ i ∈ own, ∀ a ∈ z.TS i, ∀ j, a ∉ z'.TS j := fun i hi a ha j hj => by
    have ht : (z.hide own).H a ≠ none := R.trk a (R.subT i a ha)
    have ap1 : ∀ k, a ∉ (z.hide own).TS k := fun k hk => by
      have hk : a ∈ (if k ∈ own then [] else z.TS k) := hk
      by_cases e : k ∈ own
      · rw [if_pos e] at hk; cases hk
      · rw [if_neg e] at hk; exact e (R.dj i k a ha hk ▸ hi)
    exact (keep_apart s (T := [a]) (fun b hb => by simp at hb; subst hb; exact ht) (fun b hb => by simp at hb; subst hb; exact ap1)).2 a (by simp) j hj
  refine Stp.build R ⟨fr0.keep, fr0.newA, fun a q => ?_, fr0.keepA, fr0.there⟩ ⟨?_, fun j m e => ?_, fun j m e => ?_, fun j m e => ?_, fun j m e => ?_, fun j fl d e => ?_⟩ ?_ (fun j sl e hb => ?_) (fun j fl d e => ?_) (fun j e => ?_) (fun j => ?_) (fun j k a hj hk => ?_) s.rel.trk
  · obtain ⟨j, hj, nl⟩ := q
    have hj : a ∈ (if j ∈ own then z.TS j else z'.TS j) := hj
    by_cases hm : j ∈ own
    · rw [if_pos hm] at hj
      refine .inl ⟨j, hj, fun ⟨m, w⟩ => nl ⟨m, ?_⟩⟩
      exact unwipe_in hm (by rw [hlen]; exact hown j hm) w
    · rw [if_neg hm] at hj
      exact fr0.newS a ⟨j, hj, fun ⟨m, w⟩ => nl ⟨m, (unwipe_out hm).trans w⟩⟩
  · show (unwipe own z.ρ z'.ρ).length = _
    rw [unwipe_len, hlen]
  · show (unwipe own z.ρ z'.ρ)[j]? = _ ∧ z.σ[j]? = z.σ[j]? ∧ (if j ∈ own then z.TS j else z'.TS j) = z.TS j
    by_cases hm : j ∈ own
    · exact ⟨unwipe_in hm (by rw [hlen]; exact hown j hm) e, rfl, if_pos hm⟩
    · obtain ⟨h1, h2, h3⟩ := s.kp.lck j m ((wipeE_out hm).trans e)
      refine ⟨(unwipe_out hm).trans h1, rfl, ?_⟩
      rw [if_neg hm, h3]
      exact if_neg hm
  · have e : (unwipe own z.ρ z'.ρ)[j]? = _ := e
    by_cases hm : j ∈ own
    · exact getin hm e
    · rw [unwipe_out hm] at e
      have h1 : (wipeE own z.ρ)[j]? = _ := s.kp.lckB j m e
      rw [wipeE_out hm] at h1; exact h1
  · show ∃ m', (unwipe own z.ρ z'.ρ)[j]? = some (Slot.io m') ∧ z.σ[j]? = z.σ[j]?
    by_cases hm : j ∈ own
    · exact ⟨m, unwipe_in hm (by rw [hlen]; exact hown j hm) e, rfl⟩
    · obtain ⟨m', h1, _⟩ := s.kp.io j m ((wipeE_out hm).trans e)
      exact ⟨m', (unwipe_out hm).trans h1, rfl⟩
  · have e : (unwipe own z.ρ z'.ρ)[j]? = _ := e
    by_cases hm : j ∈ own
    · exact ⟨m, getin hm e⟩
    · rw [unwipe_out hm] at e
      obtain ⟨m', h1⟩ := s.kp.ioB j m e
      have h1 : (wipeE own z.ρ)[j]? = _ := h1
      rw [wipeE_out hm] at h1; exact ⟨m', h1⟩
  · have e : (unwipe own z.ρ z'.ρ)[j]? = _ := e
    by_cases hm : j ∈ own
    · exact ⟨getin hm e, rfl⟩
    · rw [unwipe_out hm] at e
      obtain ⟨h1, _⟩ := s.kp.bor j fl d e
      have h1 : (wipeE own z.ρ)[j]? = _ := h1
      rw [wipeE_out hm] at h1; exact ⟨h1, rfl⟩
  · show (unwipe own z.ρ z'.ρ).length = z.σ.length
    rw [unwipe_len, hlen]; exact R.len
  · have e : (unwipe own z.ρ z'.ρ)[j]? = _ := e
    show ∃ o, z.σ[j]? = some o ∧ SlotR K z'.A _ z'.H sl o (if j ∈ own then z.TS j else z'.TS j)
    by_cases hm : j ∈ own
    · obtain ⟨o, e2, r⟩ := R.slot j sl (getin hm e)
      refine ⟨o, e2, ?_⟩
      rw [if_pos hm]
      have lift : ∀ {m : MV} {v : V}, Own K z.A z.H m v (z.TS j) → Own K z'.A z'.H m v (z.TS j) := fun q => q.fr (A := z.A) (S := (z.hide own).S) (H := z.H) (fun a w => R1.sub a w) s.fr (nH j hm)
      generalize z.TS j = Tj at r lift
      cases r with
      | unset => exact .unset
      | own r => exact .own (lift r)
      | io r => exact .io (lift r)
      | lck r => exact .lck (lift r)
      | bor r => cases hb
    · rw [unwipe_out hm] at e
      obtain ⟨o, e2, r⟩ := s.rel.slot j sl e
      rw [hσ] at e2
      have e2 : (wipe z.σ own)[j]? = some o := e2
      rw [wipe_out hm] at e2
      rw [if_neg hm]
      exact ⟨o, e2, r.anyS hb⟩
  · have e : (unwipe own z.ρ z'.ρ)[j]? = _ := e
    show (if j ∈ own then z.TS j else z'.TS j) = []
    by_cases hm : j ∈ own
    · rw [if_pos hm]
      obtain ⟨o, _, r⟩ := R.slot j _ (getin hm e)
      generalize z.TS j = Tj at r
      cases r with | bor _ => rfl
    · rw [if_neg hm]
      rw [unwipe_out hm] at e
      obtain ⟨o, _, r⟩ := s.rel.slot j _ e
      generalize z'.TS j = Tj at r
      cases r with | bor _ => rfl
  · have e : (unwipe own z.ρ z'.ρ)[j]? = _ := e
    show (if j ∈ own then z.TS j else z'.TS j) = []
    have hj : z.ρ.length ≤ j := by
      rw [List.getElem?_eq_none_iff, unwipe_len, hlen] at e; exact e
    by_cases hm : j ∈ own
    · exact absurd (hown j hm) (by omega)
    · rw [if_neg hm]
      exact s.rel.out j (List.getElem?_eq_none (by rw [hlen]; exact hj))
  · show (if j ∈ own then z.TS j else z'.TS j : List Addr).Nodup
    split
    · exact R.nd j
    · exact s.rel.nd j
  · have hj : a ∈ (if j ∈ own then z.TS j else z'.TS j) := hj
    have hk : a ∈ (if k ∈ own then z.TS k else z'.TS k) := hk
    by_cases h1 : j ∈ own
    · rw [if_pos h1] at hj
      by_cases h2 : k ∈ own
      · rw [if_pos h2] at hk; exact R.dj j k a hj hk
      · rw [if_neg h2] at hk; exact absurd hk (apart j h1 a hj k)
    · rw [if_neg h1] at hj
      by_cases h2 : k ∈ own
      · rw [if_pos h2] at hk; exact absurd hj (apart k h2 a hk j)
      · rw [if_neg h2] at hk; exact s.rel.dj j k a hj hk
end
end Q
set_option maxHeartbeats 1000000
namespace Q
open PySem L2 PyProof.Rows
section
variable {K : PySem.W.Frag} {z zw z6 z' : Z} {own : List Nat}
theorem hideX_ok (R : Rel K zw) (hu : ∀ i ∈ own, zw.ρ[i]? = some .unset) (hσw : wipe z6.σ own = zw.σ) (s : Stp K zw z) (x : StpX K own z z6) : Stp K zw (z6.hide own) := by
  have fr0 := (s.fr.trans R.trk x.fr).trans R.trk (hide_fr z6 own)
  have hl6 : z6.ρ.length = zw.ρ.length := x.kp.len.trans s.kp.len
  have R6 := hide_ok (own := own) x.rel
  have wout : ∀ {j : Nat}, j ∉ own → z6.σ[j]? = zw.σ[j]? := fun {j} h => by rw [← hσw, wipe_out h]
  have un : ∀ {j : Nat} {s : Slot}, j ∈ own → (wipeE own z6.ρ)[j]? = some s → s = .unset := fun {j s} h e => by
    have hl : j < z6.ρ.length := by
      have := (List.getElem?_eq_some_iff.mp e).1
      rw [wipeE_len] at this; exact this
    rw [wipeE_in h hl] at e; exact (Option.some.inj e).symm
  refine ⟨R6, fr0, ⟨by show (wipeE own z6.ρ).length = _; rw [wipeE_len, hl6], fun j m e => ?_, fun j m e => ?_, fun j m e => ?_, fun j m e => ?_, fun j fl d e => ?_⟩⟩
  · have hj : j ∉ own := fun h => by rw [hu j h] at e; cases e
    obtain ⟨h1, h2, h3⟩ := s.kp.lck j m e
    obtain ⟨g1, g2, g3⟩ := x.kp.lck j m h1
    refine ⟨(wipeE_out hj).trans g1, ?_, ?_⟩
    · show (wipe z6.σ own)[j]? = _
      rw [wipe_out hj, g2, h2]
    · show (if j ∈ own then [] else z6.TS j) = _
      rw [if_neg hj, g3, h3]
  · have e : (wipeE own z6.ρ)[j]? = _ := e
    have hj : j ∉ own := fun h => by have := un h e; cases this
    rw [wipeE_out hj] at e
    exact s.kp.lckB j m (x.kp.lckB j m e)
  · have hj : j ∉ own := fun h => by rw [hu j h] at e; cases e
    obtain ⟨m1, h1, h2⟩ := s.kp.io j m e
    obtain ⟨m2, g1, g2⟩ := x.kp.io j m1 h1
    refine ⟨m2, (wipeE_out hj).trans g1, ?_⟩
    show (wipe z6.σ own)[j]? = _
    rw [wipe_out hj, g2, h2]
  · have e : (wipeE own z6.ρ)[j]? = _ := e
    have hj : j ∉ own := fun h => by have := un h e; cases this
    rw [wipeE_out hj] at e
    obtain ⟨m1, h1⟩ := x.kp.ioB j m e
    exact s.kp.ioB j m1 h1
  · have e : (wipeE own z6.ρ)[j]? = _ := e
    have hj : j ∉ own := fun h => by have := un h e; cases this
    rw [wipeE_out hj] at e
    obtain ⟨g1, g2⟩ := x.kp.bor j fl d hj e
    obtain ⟨h1, h2⟩ := s.kp.bor j fl d g1
    refine ⟨h1, ?_⟩
    show (wipe z6.σ own)[j]? = _
    rw [wipe_out hj, g2, h2]
/-- a place of nobody's slot is written -/
theorem updD_ok (R : Rel K zw) (s : Stp K zw z) {D : Addr} {o : HO} (hA : z.A D) (hw : zw.H D = none) (ap : ∀ i, D ∉ z.TS i) : Stp K zw { z with H := upd z.H D o } := by
  have up : ∀ b u, b ≠ D → z.H b = some u → upd z.H D o b = some u := fun b u n e => by rw [upd_ne n]; exact e
  refine Stp.build R ⟨fun b u e n => ?_, s.fr.newA, s.fr.newS, s.fr.keepA, fun b e => ?_⟩ s.kp s.rel.len (fun i sl e hb => ?_) (fun i fl d e => ?_) s.rel.out s.rel.nd s.rel.dj fun a h => ?_
  · have nb : b ≠ D := fun w => by rw [w, hw] at e; cases e
    exact up b u nb (s.fr.keep b u e n)
  · have e : upd z.H D o b = none := e
    by_cases hb : b = D
    · rw [hb]; exact hw
    · rw [upd_ne hb] at e; exact s.fr.there b e
  · obtain ⟨o', e2, r⟩ := s.rel.slot i sl e
    refine ⟨o', e2, ?_⟩
    have lift : ∀ {m : MV} {v : V}, Own K z.A z.H m v (z.TS i) → Own K z.A (upd z.H D o) m v (z.TS i) := fun q =>
      q.step (fun b u e n => up b u (fun w => n (w ▸ hA)) e) (fun b h => .inl h) fun b hb => ⟨fun u e => up b u (fun w => ap i (w ▸ hb)) e, s.rel.subT i b hb⟩
    show SlotR K z.A _ (upd z.H D o) sl o' (z.TS i)
    generalize z.TS i = Tj at r lift
    cases r with
    | unset => exact .unset
    | own r => exact .own (lift r)
    | io r => exact .io (lift r)
    | lck r => exact .lck (lift r)
    | bor r => cases hb
  · obtain ⟨o', e2, r⟩ := s.rel.slot i _ e
    show z.TS i = []
    generalize z.TS i = Tj at r
    cases r with | bor _ => rfl
  · show upd z.H D o a ≠ none
    by_cases hb : a = D
    · rw [hb, upd_same]; simp
    · rw [upd_ne hb]; exact s.rel.trk a h

/-- the block's state ahead of a turn -/
structure CompI (K : PySem.W.Frag) (zw : Z) (D : Addr) (own : List Nat) (rs : List MV) (z : Z) (vs : List V) (T : List Addr) : Prop where
  s : Stp K zw z
  σ : z.σ = zw.σ
  un : ∀ i ∈ own, z.ρ[i]? = some .unset
  d : z.H D = some (.lst vs)
  a : z.A D
  apD : ∀ i, D ∉ z.TS i
  own : Owns K z.A z.H rs vs T
  nd : (D :: T).Nodup
  ap : ∀ b ∈ T, ∀ i, b ∉ z.TS i
  new : ∀ b ∈ T, zw.S b ∨ zw.H b = none
theorem keepX_apart {z1 z2 : Z} (s : StpX K own z1 z2) {T : List Addr} (hT : ∀ b ∈ T, z1.H b ≠ none) (ap : ∀ b ∈ T, ∀ i, b ∉ z1.TS i) : (∀ b ∈ T, ¬ z1.S b) ∧ ∀ b ∈ T, ∀ i, b ∉ z2.TS i := by
  have nS : ∀ b ∈ T, ¬ z1.S b := fun b hb ⟨i, hi, _⟩ => ap b hb i hi
  refine ⟨nS, fun b hb i hi => ?_⟩
  by_cases hl : Lk z2.ρ i
  · obtain ⟨m, hm⟩ := hl
    have h1 := s.kp.lckB i m hm
    obtain ⟨_, _, h3⟩ := s.kp.lck i m h1
    rw [h3] at hi
    exact ap b hb i hi
  · rcases s.fr.newS b ⟨i, hi, hl⟩ with h | h
    · exact nS b hb h
    · exact hT b hb h
theorem hide_notin {z : Z} {b : Addr} (h : ∀ i, b ∉ z.TS i) : ∀ i, b ∉ (z.hide own).TS i := fun i hi => by
  have hi : b ∈ (if i ∈ own then [] else z.TS i) := hi
  split at hi
  · cases hi
  · exact h i hi
/-- behind a turn that adds nothing -/
theorem CompI.skip {D : Addr} {rs : List MV} {vs : List V} {T : List Addr} (R : Rel K zw) (hown : ∀ i ∈ own, i < zw.ρ.length) (hu : ∀ i ∈ own, zw.ρ[i]? = some .unset) (c : CompI K zw D own rs z vs T) (x : StpX K own z z6) (hσw : wipe z6.σ own = zw.σ) : CompI K zw D own rs (z6.hide own) vs T := by
  have hDH : ∀ b ∈ D :: T, z.H b ≠ none := fun b hb => by
    rcases List.mem_cons.mp hb with rfl | hb
    · rw [c.d]; simp
    · exact (c.own.sub b hb).2
  have ap0 : ∀ b ∈ D :: T, ∀ i, b ∉ z.TS i := fun b hb => by
    rcases List.mem_cons.mp hb with rfl | hb
    · exact c.apD
    · exact c.ap b hb
  obtain ⟨nS, ap6⟩ := keepX_apart x hDH ap0
  have hl6 : z6.ρ.length = zw.ρ.length := x.kp.len.trans c.s.kp.len
  refine ⟨hideX_ok R hu hσw c.s x, hσw, fun i hi => wipeE_in hi (by rw [hl6]; exact hown i hi), x.fr.keep D _ c.d (nS D List.mem_cons_self), x.fr.keepA D c.a (nS D List.mem_cons_self), hide_notin (ap6 D List.mem_cons_self), ?_, c.nd, fun b hb => hide_notin (ap6 b (List.mem_cons_of_mem _ hb)), c.new⟩
  exact c.own.step (fun b o e n => x.fr.keep b o e fun w => n (c.s.rel.sub b w)) x.fr.newA fun b hb => ⟨fun o e => x.fr.keep b o e (nS b (List.mem_cons_of_mem _ hb)), x.fr.keepA b (c.own.sub b hb).1 (nS b (List.mem_cons_of_mem _ hb))⟩
/-- behind a turn that adds an item -/
theorem CompI.push {D : Addr} {rs : List MV} {vs : List V} {T T6 : List Addr} {r : MV} {y : V} (R : Rel K zw) (hown : ∀ i ∈ own, i < zw.ρ.length) (hD : zw.H D = none) (hu : ∀ i ∈ own, zw.ρ[i]? = some .unset) (c : CompI K zw D own rs z vs T) (x : StpX K own z z6) (hσw : wipe z6.σ own = zw.σ)
    (ow : Own K z6.A z6.H r y T6) (nd6 : T6.Nodup) (ap6 : ∀ b ∈ T6, ∀ i, b ∉ z6.TS i) (new6 : ∀ b ∈ T6, z.S b ∨ z.H b = none) :
    CompI K zw D own (rs ++ [r]) { z6.hide own with H := upd z6.H D (.lst (vs ++ [y])) } (vs ++ [y]) (T ++ T6) ∧ z6.H D = some (.lst vs) := by
  have c6 := c.skip R hown hu x hσw
  have c6d : z6.H D = some (.lst vs) := c6.d
  have up : ∀ b u, b ≠ D → z6.H b = some u → upd z6.H D (.lst (vs ++ [y])) b = some u := fun b u n e => by rw [upd_ne n]; exact e
  have DnS : ¬ z.S D := fun ⟨i, hi, _⟩ => c.apD i hi
  have nD6 : D ∉ T6 := fun h => by
    rcases new6 D h with w | w
    · exact DnS w
    · rw [c.d] at w; cases w
  have nDT : D ∉ T := (List.nodup_cons.mp c.nd).1
  have dis : ∀ b, b ∈ T → b ∉ T6 := fun b hb h6 => by
    rcases new6 b h6 with ⟨i, hi, _⟩ | w
    · exact c.ap b hb i hi
    · exact (c.own.sub b hb).2 w
  refine ⟨⟨updD_ok R c6.s c6.a hD c6.apD, c6.σ, c6.un, upd_same, c6.a, c6.apD, ?_, ?_, fun b hb => ?_, fun b hb => ?_⟩, c6d⟩
  · have o1 : Owns K z6.A (upd z6.H D (.lst (vs ++ [y]))) rs vs T := c6.own.step (fun b u e n => up b u (fun w => n (w ▸ c6.a)) e) (fun b h => .inl h) fun b hb => ⟨fun u e => up b u (fun w => nDT (w ▸ hb)) e, (c6.own.sub b hb).1⟩
    have o2 : Own K z6.A (upd z6.H D (.lst (vs ++ [y]))) r y T6 := ow.step (fun b u e n => up b u (fun w => n (w ▸ c6.a)) e) (fun b h => .inl h) fun b hb => ⟨fun u e => up b u (fun w => nD6 (w ▸ hb)) e, (ow.sub b hb).1⟩
    show Owns K z6.A (upd z6.H D (.lst (vs ++ [y]))) (rs ++ [r]) (vs ++ [y]) (T ++ T6)
    clear c6
    have app : ∀ {ms : List MV} {us : List V} {S0 : List Addr}, Owns K z6.A (upd z6.H D (.lst (vs ++ [y]))) ms us S0 → Owns K z6.A (upd z6.H D (.lst (vs ++ [y]))) (ms ++ [r]) (us ++ [y]) (S0 ++ T6) := fun {ms us S0} h => by
      induction ms generalizing us S0 with
      | nil => cases h; have := Owns.cons o2 Owns.nil; rw [List.append_nil] at this; exact this
      | cons m ms ih =>
        cases h with
        | cons a b =>
          have := Owns.cons a (ih b)
          rw [List.append_assoc]; exact this
    exact app o1
  · refine List.nodup_cons.mpr ⟨fun h => ?_, List.nodup_append.mpr ⟨(List.nodup_cons.mp c.nd).2, nd6, fun x hx w hw e => dis x hx (e ▸ hw)⟩⟩
    rcases List.mem_append.mp h with h | h
    · exact nDT h
    · exact nD6 h
  · rcases List.mem_append.mp hb with h | h
    · exact c6.ap b h
    · exact hide_notin (ap6 b h)
  · rcases List.mem_append.mp hb with h | h
    · exact c.new b h
    · rcases new6 b h with w | w
      · exact c.s.fr.newS b w
      · exact .inr (c.s.fr.there b w)
end

/-! ### the comprehension -/
section
variable {X : Cx}
abbrev XB (X : Cx) (scope : Scope) (s : Shared) (H : Hp) (C : Addr) (cl : List (Str × Addr)) (fp : List Addr) : Cx := X.blk s H scope (compEnvC scope cl C X.env) fp
def bG (X : Cx) (scope : Scope) (tg : Expr) : TG := fun v σ H Q => ∀ (s : Shared) (H0 : Hp) (C : Addr) (cl : List (Str × Addr)) (fp : List Addr), RunsG (XB X scope s H0 C cl fp) tg v σ H Q
def bE (X : Cx) (scope : Scope) (e : Expr) : TE := fun σ H Q => ∀ (s : Shared) (H0 : Hp) (C : Addr) (cl : List (Str × Addr)) (fp : List Addr), RunsE (XB X scope s H0 C cl fp) e σ H Q
def bT (X : Cx) (scope : Scope) (c : Option Expr) : TT := fun σ H Q => match c with
  | none => Q true H
  | some e => ∀ (s : Shared) (H0 : Hp) (C : Addr) (cl : List (Str × Addr)) (fp : List Addr), RunsT (XB X scope s H0 C cl fp) e σ H Q
theorem evC_ok {c : Option Expr} {rc : Option R3} {Y : Cx} (h : OptS Y c rc) {z : Z} {b : Bool} {ρ' : Env} (R : Rel Y.K z) (e1 : evC rc z.ρ = some (b, ρ')) {Q : Bool → Hp → Prop} (q : ∀ z', Stp Y.K z z' → z'.ρ = ρ' → z'.σ = z.σ → Q b z'.H) :
    match c with | none => Q true z.H | some e => RunsT Y e z.σ z.H Q := by
  cases h with
  | none => cases e1; exact q z (Stp.refl R) rfl rfl
  | some h => exact h.t z b ρ' R e1 Q q
theorem bT_ok {cond : Option Expr} {rc : Option R3} {scope : Scope} (sh : Shared) (h : ∀ s H C cl fp, OptS (XB X scope s H C cl fp) cond rc) {z : Z} {b : Bool} {ρ' : Env} (R : Rel X.K z) (e1 : evC rc z.ρ = some (b, ρ')) {Q : Bool → Hp → Prop}
    (q : ∀ z', Stp X.K z z' → z'.ρ = ρ' → z'.σ = z.σ → Q b z'.H) : bT X scope cond z.σ z.H Q := by
  cases cond with
  | none => exact evC_ok (c := none) (h sh (fun _ => none) 0 [] []) R e1 q
  | some e => exact fun s H C cl fp => evC_ok (c := some e) (h s H C cl fp) R e1 q
theorem compL_len {tg : Tg} {fl : Fl} {rc : Option R3} {re : R3} {own : List Nat} : ∀ (ds : List D) (acc : List MV) (ρ : Env) (rsF : List MV) (ρF : Env), compL tg fl rc re own ds acc ρ = some (rsF, ρF) → acc.length ≤ rsF.length
  | [], acc, ρ, rsF, ρF, h => by unfold compL at h; cases h; exact Nat.le_refl _
  | d :: ds, acc, ρ, rsF, ρF, h => by
    unfold compL at h
    obtain ⟨ρt, _, h⟩ := bind_some h
    obtain ⟨⟨b, ρc⟩, _, h⟩ := bind_some h
    cases b with
    | true =>
      obtain ⟨⟨r, ρe⟩, _, h⟩ := bind_some h
      have := compL_len ds _ _ _ _ h
      rw [List.length_append] at this
      exact Nat.le_trans (Nat.le_add_right _ _) this
    | false => exact compL_len ds _ _ _ _ h
theorem comp_r {elt tgE iter : Expr} {cond : Option Expr} {scope : Scope} {ownN : List (Str × Nat)} {tg : Tg} {fI : Env → Option (List D × Fl × Env × Lks)} {rc : Option R3} {re : R3} (s0 : Shared) (hcalm : X.calm = true) (hN : X.N.Nodup) (hI : SndI X tgE iter fI)
    (ok : BlkOk X.N X.env.scope scope ownN) (hT : ∀ s H C cl fp, TgOk (XB X scope s H C cl fp) tg tgE) (hix : ∀ i ∈ ixs tg, i ∈ ownN.map (·.2)) (hC : ∀ s H C cl fp, OptS (XB X scope s H C cl fp) cond rc) (hE : ∀ s H C cl fp, Snd (XB X scope s H C cl fp) elt re)
    {z : Z} {r : MV} {ρ' : Env} (hNl : z.σ.length = X.N.length) (R : Rel X.K z) (e1 : evComp re tg fI rc (ownN.map (·.2)) z.ρ = some (r, ρ')) {Q : VK} (q : ∀ u z' T, Stp X.K z z' → z'.ρ = ρ' → z'.σ = z.σ → Tmp X.K z z' r u T → Q u z'.H) :
    tLc (RunsI X tgE iter) (bG X scope tgE) (bT X scope cond) (bE X scope elt) (ownN.map (·.2)) z.σ z.H Q := by
  obtain ⟨⟨ds, fl, ρ1, ls⟩, h1, e2⟩ := bind_some (show (fI z.ρ).bind _ = some _ from e1)
  obtain ⟨⟨rsF, ρF⟩, h2, e3⟩ := bind_some e2
  dsimp only at e3
  split at e3
  rotate_left
  · cases e3
  rename_i hlenF
  cases e3
  have hownN : ∀ i ∈ ownN.map (·.2), i < X.N.length := fun i hi => by
    obtain ⟨p, hp, rfl⟩ := List.mem_map.mp hi
    exact (List.getElem?_eq_some_iff.mp (ok.ix p hp)).1
  generalize hown0 : ownN.map (·.2) = own at *
  refine hI z ds fl ρ1 ls R h1 _ fun J z1 p1 er1 es1 it D hD => ?_
  obtain ⟨G, Y, w, hit⟩ := it.ex
  have R1 := p1.rel
  have hlt : ∀ i ∈ own, i < z1.ρ.length := fun i hi => by
    rw [R1.len, es1, hNl]; exact hownN i hi
  generalize hzw : z1.hide own = zw
  have Rw : Rel X.K zw := by rw [← hzw]; exact hide_ok R1
  have hu : ∀ i ∈ own, zw.ρ[i]? = some .unset := fun i hi => by rw [← hzw]; exact wipeE_in hi (hlt i hi)
  have hσw : zw.σ = wipe z.σ own := by rw [← hzw]; show wipe z1.σ own = _; rw [es1]
  have hownw : ∀ i ∈ own, i < zw.ρ.length := fun i hi => by rw [← hzw]; show i < (wipeE own z1.ρ).length; rw [wipeE_len]; exact hlt i hi
  have hHw : zw.H = z1.H := by rw [← hzw]; rfl
  have hDw : zw.H D = none := by rw [hHw]; exact hD
  have frw : Fr z1.A z1.S z1.H zw.A zw.S zw.H := by rw [← hzw]; exact hide_fr z1 own
  have s00 := lay_ok (A := fun a => zw.A a ∨ a = D) (o := .lst []) Rw hDw (fun a q => q) fun a q => .inl q
  have c0 : CompI X.K zw D own [] (zw.lay (fun a => zw.A a ∨ a = D) D (.lst [])) [] [] :=
    ⟨s00, rfl, hu, upd_same, .inr rfl, fun i hi => notA Rw hDw (Rw.subT i D hi), .nil, by simp, fun _ h => (nomatch h), fun _ h => (nomatch h)⟩
  refine lc_it w (fun i H => ∃ zi vs T rs, CompI X.K zw D own rs zi vs T ∧ zi.H = H ∧ compL tg fl rc re own (ds.drop i) rs zi.ρ = some (rsF, ρF)) ?_ (fun i H _ ⟨zi, vs, T, rs, c, eH, _⟩ => ?_) (fun i x H H' hi ⟨zi, vs, T, rs, c, eH, hr⟩ hy => ?_) fun H ⟨zn, vs, T, rs, c, eH, hr⟩ => ?_
  · refine ⟨zw.lay (fun a => zw.A a ∨ a = D) D (.lst []), [], [], [], c0, ?_, ?_⟩
    · show upd zw.H D (.lst []) = _; rw [hHw]
    · rw [List.drop_zero]
      have e0 : zw.ρ = wipeE own ρ1 := by rw [← hzw]; show wipeE own z1.ρ = _; rw [er1]
      show compL tg fl rc re own ds [] zw.ρ = _
      rw [e0]; exact h2
  · rw [← eH]; exact (hit zi c.s.rel (frw.trans R1.trk c.s.fr)).1
  · -- one turn
    obtain ⟨d, hd⟩ : ∃ d, ds[i]? = some d := ⟨ds[i], List.getElem?_eq_getElem hi⟩
    have hdrop : ds.drop i = d :: ds.drop (i + 1) := by
      rw [List.drop_eq_getElem_cons hi]
      rw [List.getElem?_eq_getElem hi] at hd
      rw [Option.some.inj hd]
    rw [hdrop] at hr
    unfold compL at hr
    obtain ⟨ρt, g1, hr⟩ := bind_some hr
    obtain ⟨⟨bb, ρc⟩, g2, hr⟩ := bind_some hr
    subst eH
    obtain ⟨z3, s3, eH3, er3, es3, k3⟩ := (hit zi c.s.rel (frw.trans R1.trk c.s.fr)).2 i d x H' hd hy
    subst eH3
    have ezσ : wipe z.σ own = z3.σ := by rw [es3, c.σ, hσw]
    rw [ezσ]
    intro sB HB CB clB fpB
    refine bind_ok (X := XB X scope sB HB CB clB fpB) hN hcalm (hT sB HB CB clB fpB) z3 (childFl fl d) d x ρt _ s3.rel k3 (by rw [er3]; exact g1) fun z4 s4 er4 eh4 ea4 sS4 hσ4 => ?_
    have x4 : StpX X.K own zi z4 := (s3.x.trans c.s.rel (s4.mono hix))
    have hl4 : z4.σ.length = z3.σ.length := by rw [← s4.rel.len, ← s3.rel.len, s4.kp.len]
    have w4 : wipe z4.σ own = zw.σ := by
      rw [wipe_eq hl4 fun j hj => hσ4 j fun w => hj (hix j w), es3, c.σ, hσw]
      exact wipe_eq (wipe_length _ _) fun j hj => wipe_out hj
    refine ⟨by rw [w4, es3, c.σ], ?_⟩
    refine bT_ok s0 hC s4.rel (by rw [er4]; exact g2) fun z5 s5 er5 es5 => ?_
    have x5 := x4.step c.s.rel s5
    have w5 : wipe z5.σ own = zw.σ := by rw [es5]; exact w4
    cases bb with
    | false =>
      rw [if_neg Bool.false_ne_true]
      exact ⟨z5.hide own, vs, T, rs, c.skip Rw hownw hu x5 w5, rfl, by show compL tg fl rc re own _ rs (wipeE own z5.ρ) = _; rw [er5]; exact hr⟩
    | true =>
      rw [if_pos rfl]
      obtain ⟨⟨r6, ρe⟩, g3, hr⟩ := bind_some hr
      rw [← es5]
      intro sE HE CE clE fpE
      refine (hE sE HE CE clE fpE).v z5 r6 ρe x5.rel (by rw [er5]; exact g3) _ fun y z6 T6 s6 er6 es6 t6 => ?_
      have x6 := x5.step c.s.rel s6
      have w6 : wipe z6.σ own = zw.σ := by rw [es6]; exact w5
      obtain ⟨c7, hD6⟩ := c.push Rw hownw hDw hu x6 w6 t6.own t6.nd t6.apart fun b hb => by
        rcases t6.new b hb with h | h
        · exact x5.fr.newS b h
        · exact .inr (x5.fr.there b h)
      refine ⟨vs, hD6, ?_, { z6.hide own with H := upd z6.H D (.lst (vs ++ [y])) }, vs ++ [y], T ++ T6, rs ++ [r6], c7, rfl, ?_⟩
      · have hl := compL_len _ _ _ _ _ hr
        rw [List.length_append, List.length_singleton] at hl
        have e := c.own.length
        omega
      · show compL tg fl rc re own _ (rs ++ [r6]) (wipeE own z6.ρ) = _
        rw [er6]; exact hr
  · -- the end
    subst eH
    rw [List.drop_length] at hr
    unfold compL at hr
    cases hr
    have sh : Stp X.K z1 (zn.show' z1 own) := show_ok R1 hlt (by rw [hzw]; exact c.s) (by rw [hzw]; exact c.σ) c.un
    have zwS : ∀ b, zw.S b → z1.S b := fun b h => by rw [← hzw] at h; exact (hide_S h).1
    refine q (.ref D) ((zn.show' z1 own).setR (unl ls (unwipe own z1.ρ zn.ρ))) (D :: T) (p1.close _ sh) (by show unl ls (unwipe own z1.ρ zn.ρ) = _; rw [er1]) es1 ⟨.lst c.d c.a c.own, c.nd, fun b hb i hi => ?_, fun b hb => ?_⟩
    · have hi : b ∈ (if i ∈ own then z1.TS i else zn.TS i) := hi
      have nb : ∀ j, b ∉ zn.TS j := fun j => by
        rcases List.mem_cons.mp hb with rfl | hb
        · exact c.apD j
        · exact c.ap b hb j
      by_cases hm : i ∈ own
      · rw [if_pos hm] at hi
        have tr : z1.H b ≠ none := R1.trk b (R1.subT i b hi)
        rcases List.mem_cons.mp hb with rfl | hb
        · exact tr hD
        · rcases c.new b hb with h | h
          · rw [← hzw] at h
            obtain ⟨j, hj, h2⟩ := (hide_S h).2 i hm hi
            exact hj (R1.dj i j b hi h2 ▸ hm)
          · rw [hHw] at h; exact tr h
      · rw [if_neg hm] at hi; exact nb i hi
    · rcases List.mem_cons.mp hb with rfl | hb
      · exact .inr (p1.fr.there b hD)
      · rcases c.new b hb with h | h
        · exact p1.fr.newS b (zwS b h)
        · rw [hHw] at h; exact .inr (p1.fr.there b h)
theorem comp_pts {cond : Option Expr} {scope : Scope} (s : Shared) (H : Hp) (C : Addr) (cl : List (Str × Addr)) (fp : List Addr) : PTs (XB X scope s H C cl fp) cond.toList (bT X scope cond) := by
  cases cond with
  | none => exact pts_nil
  | some e => exact ⟨fun pins s' σ H' Q I hw => PTs.run (pts_one (prt (X := XB X scope s H C cl fp))) pins s' σ H' Q I (hw s H C cl fp)⟩
theorem comp_v {elt tgE iter : Expr} {cond : Option Expr} {scope : Scope} {pos : Pos} {ownN : List (Str × Nat)} {tg : Tg} {fI : Env → Option (List D × Fl × Env × Lks)} {rc : Option R3} {re : R3} (hcalm : X.calm = true) (hN : X.N.Nodup) (hI : SndI X tgE iter fI)
    (ok : BlkOk X.N X.env.scope scope ownN) (hT : ∀ s H C cl fp, TgOk (XB X scope s H C cl fp) tg tgE) (hix : ∀ i ∈ ixs tg, i ∈ ownN.map (·.2)) (hC : ∀ s H C cl fp, OptS (XB X scope s H C cl fp) cond rc) (hE : ∀ s H C cl fp, Snd (XB X scope s H C cl fp) elt re)
    (hset : ∀ x, foldedSetIterable iter X.env x = pure x) : SndV X (.ListComp elt [⟨tgE, iter, cond.toList, 0⟩] scope pos) (evComp re tg fI rc (ownN.map (·.2))) := by
  intro z r ρ' R e1 Q q pins s0 I0
  exact PE.rn (pe_lc (own := ownN) (g := bG X scope tgE) (tt := bT X scope cond) (te := bE X scope elt) hcalm hN pri ok (fun s H C cl fp => ⟨fun pins s' σ H' v u Q I rr hw => hw s H C cl fp pins s' u I rr⟩) comp_pts (fun s H C cl fp => ⟨fun pins s' σ H' Q I hw => hw s H C cl fp pins s' I⟩) hset)
    (comp_r s0 hcalm hN hI ok hT hix hC hE I0.len R e1 q) pins s0 I0
end
end Q
set_option maxHeartbeats 1000000
namespace Q
open PySem L2 PyProof.Rows
/-- a later state, of what is not owned -/
structure FrV (A : AP) (H : Hp) (A' : AP) (H' : Hp) : Prop where
  keep : ∀ b o, H b = some o → ¬ A b → H' b = some o
  newA : ∀ a, A' a → A a ∨ H a = none
  there : ∀ a, H' a = none → H a = none
theorem FrV.of {A S A' S' : AP} {H H' : Hp} (hSA : ∀ a, S a → A a) (f : Fr A S H A' S' H') : FrV A H A' H' := ⟨fun b o e n => f.keep b o e fun s => n (hSA b s), f.newA, f.there⟩
theorem FrV.refl {A : AP} {H : Hp} : FrV A H A H := ⟨fun _ _ e _ => e, fun _ h => .inl h, fun _ h => h⟩
theorem FrV.trans {A A1 A2 : AP} {H H1 H2 : Hp} (a : FrV A H A1 H1) (b : FrV A1 H1 A2 H2) : FrV A H A2 H2 := by
  refine ⟨fun x o e n => b.keep x o (a.keep x o e n) fun h => ?_, fun x h => ?_, fun x h => a.there x (b.there x h)⟩
  · rcases a.newA x h with w | w
    · exact n w
    · rw [e] at w; cases w
  · rcases b.newA x h with w | w
    · exact a.newA x w
    · exact .inr (a.there x w)
structure IterV (K : PySem.W.Frag) (z : Z) (J : L2.It) (ds : List D) : Prop where
  ex : ∃ G Y, Walk J ds.length G Y ∧ ∀ z', Rel K z' → FrV z.A z.H z'.A z'.H → G z'.H ∧ ∀ (i : Nat) d x H3, ds[i]? = some d → Y i z'.H x H3 → H3 = z'.H ∧ Rep K z'.A z'.H x d
def SndJ (X : Cx) (tg iter : Expr) (f : Env → Option (List D × Env)) : Prop := ∀ (z : Z) (ds : List D) (ρ' : Env), Rel X.K z → f z.ρ = some (ds, ρ') → ∀ R0 : L2.It → Hp → Prop,
  (∀ J z', Stp X.K z z' → z'.ρ = ρ' → z'.σ = z.σ → IterV X.K z' J ds → R0 J z'.H) → RunsI X tg iter z.σ z.H R0
section
variable {X : Cx} {tg a b : Expr} {ra rb : R3} {pos : Pos}
theorem sndJ0 : SndJ X tg a fun _ => none := fun _ _ _ _ h => by cases h
theorem seq_j (ha : Snd X a ra) : SndJ X tg a (evJ0 ra) := by
  intro z ds ρ' R e1 R0 q
  obtain ⟨⟨d, f1, ρ1, l1⟩, h1, e2⟩ := bind_some (show (ra.p z.ρ).bind _ = some _ from e1)
  dsimp only at e2
  split at e2
  rotate_left
  · cases e2
  rename_i hc
  obtain ⟨xs, h2, e3⟩ := bind_some e2
  cases e3
  obtain ⟨rfl, hl⟩ := hc
  have el : l1 = [] := List.isEmpty_iff.mp hl
  subst el
  have h2 : items? d = some ds := h2
  unfold items? at h2
  split at h2
  · cases h2
    refine PI.rn (pi_list pr) (ha.p z _ .val _ _ R h1 _ fun u z1 p1 er1 es1 k1 => ?_)
    have k1 : Rep X.K z1.A z1.H u (.list ds) := k1
    have s1 : Stp X.K z z1 := p1.close z1 (Stp.refl p1.rel)
    cases k1 with
    | @lst a vs _ h r =>
      refine ⟨a, rfl, ⟨vs, h.sq⟩, q _ z1 s1 er1 es1 ⟨_, _, r.length ▸ walk_list, fun z' R' f => ⟨(h.step f.keep f.newA).sq, fun i d x H3 hd ⟨e, hx⟩ => ⟨e, ?_⟩⟩⟩⟩
      obtain ⟨d2, g1, g2⟩ := (r.step f.keep f.newA).getv hx
      rw [hd] at g1; cases g1; exact g2
  · cases h2
    refine PI.rn (pi_tup pr) (ha.p z _ .val _ _ R h1 _ fun u z1 p1 er1 es1 k1 => ?_)
    have k1 : Rep X.K z1.A z1.H u (.tuple ds) := k1
    have s1 : Stp X.K z z1 := p1.close z1 (Stp.refl p1.rel)
    cases k1 with
    | @tup a vs _ h r =>
      refine ⟨a, rfl, ⟨vs, h.sq⟩, q _ z1 s1 er1 es1 ⟨_, _, r.length ▸ walk_tup, fun z' R' f => ⟨(h.step f.keep f.newA).sq, fun i d x H3 hd ⟨e, hx⟩ => ⟨e, ?_⟩⟩⟩⟩
      obtain ⟨d2, g1, g2⟩ := (r.step f.keep f.newA).getv hx
      rw [hd] at g1; cases g1; exact g2
  · cases h2
theorem range_V {K : PySem.W.Frag} {z : Z} {lo : Int} {n : Nat} : IterV K z (Itr lo n) (rangeD lo n) := by
  refine ⟨fun _ => True, YFn fun i => .int (lo + i), by rw [rangeD_len]; exact walk_range, fun z' R' f => ⟨trivial, fun i d x H3 hd hy => ?_⟩⟩
  obtain ⟨e1, e2⟩ := hy
  refine ⟨e1, ?_⟩
  rw [rangeD_get hd, e2]
  exact Rep.int _
theorem rng1_j {p : Pos} (hg : Gl X "range") (hm : X.mg "range" = none) (hn : notSt a = true) (ha : Snd X a ra) : SndJ X tg (.Call (.Name "range" p) [a] [] pos) (evJ1 ra) := by
  intro z ds ρ' R e1 R0 q
  obtain ⟨⟨r, ρ1⟩, h1, e2⟩ := bind_some (show (ra.v z.ρ).bind _ = some _ from e1)
  obtain ⟨n, h2, e3⟩ := bind_some e2
  dsimp only at e3
  split at e3
  · rename_i hr
    cases e3
    obtain ⟨b1, b2⟩ := inRng_ok hr
    refine PI.rn (pi_range1 hg hm (pa_cons pr pa_nil (notSt_ok hn _ _)) (notSt_ok hn _ _)) (ha.v z r _ R h1 _ fun u z1 T s er es t => ?_)
    have hh := t.froze
    rw [show r = MV.val (.int n) from intOf_some h2] at hh
    refine ⟨n, by rw [hh.intv], b1, b2, ?_⟩
    exact q _ (z1.drop T) (s.drop R t) er es range_V
  · cases e3
theorem rng2_j {p : Pos} (hg : Gl X "range") (hm : X.mg "range" = none) (hn : notSt a = true) (hnb : notSt b = true) (ha : Snd X a ra) (hb : Snd X b rb) :
    SndJ X tg (.Call (.Name "range" p) [a, b] [] pos) (evJ2 ra rb) := by
  intro z ds ρ' R e1 R0 q
  obtain ⟨⟨r, ρ1⟩, h1, e2⟩ := bind_some (show (ra.v z.ρ).bind _ = some _ from e1)
  obtain ⟨⟨r2, ρ2⟩, h2, e3⟩ := bind_some e2
  obtain ⟨i, h3, e4⟩ := bind_some e3
  obtain ⟨j, h4, e5⟩ := bind_some e4
  dsimp only at e5
  split at e5
  · rename_i hr
    cases e5
    simp only [Bool.and_eq_true] at hr
    obtain ⟨b1, b2⟩ := inRng_ok hr.1
    obtain ⟨b3, b4⟩ := inRng_ok hr.2
    refine PI.rn (pi_range2 hg hm (pa_cons pr (pa_cons pr pa_nil (notSt_ok hnb _ _)) (notSt_ok hn _ _)) (by rw [notSt_ok hn, notSt_ok hnb]; rfl) (notSt_ok hnb _ _)) (ha.v z r ρ1 R h1 _ fun u z1 T s er es t => ?_)
    have sd := s.drop R t
    have hh := t.froze
    rw [show r = MV.val (.int i) from intOf_some h3] at hh
    rw [← es]
    refine hb.v (z1.drop T) r2 _ sd.rel (by show rb.v z1.ρ = _; rw [er]; exact h2) _ fun u2 z2 T2 s2 er2 es2 t2 => ?_
    have hh2 := t2.froze
    rw [show r2 = MV.val (.int j) from intOf_some h4] at hh2
    refine ⟨i, j, by rw [hh.intv, hh2.intv], ⟨b1, b2, b3, b4⟩, ?_⟩
    exact q _ (z2.drop T2) (sd.trans R (s2.drop sd.rel t2)) er2 (es2.trans es) range_V
  · cases e5
end
mutual
theorem bindT_bor : ∀ {tg : Tg} {d : D} {ρ ρ' : Env}, bindT tg .val d ρ = some ρ' → ∀ (i : Nat) fl e, ρ'[i]? = some (Slot.bor fl e) → ρ[i]? = some (Slot.bor fl e)
  | .name j, d, ρ, ρ', h, i, fl, e, hb => by
    obtain ⟨e1, t, ht, nl, ni⟩ := putVar_ok (show putVar j (slotOf .val d) ρ = some ρ' from h)
    subst e1
    rcases set_get hb with ⟨_, h⟩ | ⟨_, h⟩
    · cases h
    · exact h
  | .tup ts, d, ρ, ρ', h, i, fl, e, hb => by
    cases d <;> first | (exact bindTs_bor (show bindTs ts .val _ ρ = some ρ' from h) i fl e hb) | cases h
theorem bindTs_bor : ∀ {ts : List Tg} {ds : List D} {ρ ρ' : Env}, bindTs ts .val ds ρ = some ρ' → ∀ (i : Nat) fl e, ρ'[i]? = some (Slot.bor fl e) → ρ[i]? = some (Slot.bor fl e)
  | [], [], _, _, h, i, fl, e, hb => by unfold bindTs at h; cases h; exact hb
  | [], _ :: _, _, _, h, _, _, _, _ => by unfold bindTs at h; cases h
  | _ :: _, [], _, _, h, _, _, _, _ => by unfold bindTs at h; cases h
  | t :: ts, d :: ds, ρ, ρ', h, i, fl, e, hb => by
    unfold bindTs at h
    obtain ⟨ρ1, h1, h2⟩ := bind_some (show (bindT t (childFl .val d) d ρ).bind _ = some _ from h)
    exact bindT_bor h1 i fl e (bindTs_bor h2 i fl e hb)
end
mutual
theorem bindT_nb : ∀ {tg : Tg} {d : D} {ρ ρ' : Env}, bindT tg .val d ρ = some ρ' → ∀ i ∈ ixs tg, ∀ fl e, ρ'[i]? ≠ some (Slot.bor fl e)
  | .name j, d, ρ, ρ', h, i, hi, fl, e => by
    obtain ⟨e1, t, ht, nl, ni⟩ := putVar_ok (show putVar j (slotOf .val d) ρ = some ρ' from h)
    subst e1
    have : i = j := by simpa [ixs] using hi
    subst this
    intro hb
    rcases set_get hb with ⟨_, h⟩ | ⟨n, _⟩
    · cases h
    · exact n rfl
  | .tup ts, d, ρ, ρ', h, i, hi, fl, e => by
    cases d <;> first | (exact bindTs_nb (show bindTs ts .val _ ρ = some ρ' from h) i (by simpa [ixs] using hi) fl e) | cases h
theorem bindTs_nb : ∀ {ts : List Tg} {ds : List D} {ρ ρ' : Env}, bindTs ts .val ds ρ = some ρ' → ∀ i ∈ ixss ts, ∀ fl e, ρ'[i]? ≠ some (Slot.bor fl e)
  | [], [], _, _, h, i, hi, fl, e => by simp [ixss] at hi
  | [], _ :: _, _, _, h, _, _, _, _ => by unfold bindTs at h; cases h
  | _ :: _, [], _, _, h, _, _, _, _ => by unfold bindTs at h; cases h
  | t :: ts, d :: ds, ρ, ρ', h, i, hi, fl, e => by
    unfold bindTs at h
    obtain ⟨ρ1, h1, h2⟩ := bind_some (show (bindT t (childFl .val d) d ρ).bind _ = some _ from h)
    have hi : i ∈ ixs t ∨ i ∈ ixss ts := by simpa [ixss] using hi
    rcases hi with hi | hi
    · intro hb
      exact bindT_nb h1 i hi fl e (bindTs_bor h2 i fl e hb)
    · exact bindTs_nb h2 i hi fl e
end
section
variable {K : PySem.W.Frag} {z zw z6 z' : Z} {own own1 : List Nat}
theorem StpX.plain (x : StpX K own z z') (h : ∀ i ∈ own, ∀ fl e, z'.ρ[i]? ≠ some (Slot.bor fl e)) : Stp K z z' :=
  ⟨x.rel, x.fr, ⟨x.kp.len, x.kp.lck, x.kp.lckB, x.kp.io, x.kp.ioB, fun i fl d e => by
    by_cases hi : i ∈ own
    · exact absurd e (h i hi fl d)
    · exact x.kp.bor i fl d hi e⟩⟩
theorem hideS_ok (R : Rel K zw) (hu : ∀ i ∈ own1, zw.ρ[i]? = some .unset) (x : Stp K zw z6) : Stp K zw (z6.hide own1) := by
  have fr0 := x.fr.trans R.trk (hide_fr z6 own1)
  have un : ∀ {j : Nat} {s : Slot}, j ∈ own1 → (wipeE own1 z6.ρ)[j]? = some s → s = .unset := fun {j s} h e => by
    have hl : j < z6.ρ.length := by
      have := (List.getElem?_eq_some_iff.mp e).1
      rw [wipeE_len] at this; exact this
    rw [wipeE_in h hl] at e; exact (Option.some.inj e).symm
  refine ⟨hide_ok x.rel, fr0, ⟨by show (wipeE own1 z6.ρ).length = _; rw [wipeE_len, x.kp.len], fun j m e => ?_, fun j m e => ?_, fun j m e => ?_, fun j m e => ?_, fun j fl d e => ?_⟩⟩
  · have hj : j ∉ own1 := fun h => by rw [hu j h] at e; cases e
    obtain ⟨g1, g2, g3⟩ := x.kp.lck j m e
    refine ⟨(wipeE_out hj).trans g1, ?_, ?_⟩
    · show (wipe z6.σ own1)[j]? = _
      rw [wipe_out hj, g2]
    · show (if j ∈ own1 then [] else z6.TS j) = _
      rw [if_neg hj, g3]
  · have e : (wipeE own1 z6.ρ)[j]? = _ := e
    have hj : j ∉ own1 := fun h => by have := un h e; cases this
    rw [wipeE_out hj] at e
    exact x.kp.lckB j m e
  · have hj : j ∉ own1 := fun h => by rw [hu j h] at e; cases e
    obtain ⟨m2, g1, g2⟩ := x.kp.io j m e
    refine ⟨m2, (wipeE_out hj).trans g1, ?_⟩
    show (wipe z6.σ own1)[j]? = _
    rw [wipe_out hj, g2]
  · have e : (wipeE own1 z6.ρ)[j]? = _ := e
    have hj : j ∉ own1 := fun h => by have := un h e; cases this
    rw [wipeE_out hj] at e
    exact x.kp.ioB j m e
  · have e : (wipeE own1 z6.ρ)[j]? = _ := e
    have hj : j ∉ own1 := fun h => by have := un h e; cases this
    rw [wipeE_out hj] at e
    obtain ⟨g1, g2⟩ := x.kp.bor j fl d e
    refine ⟨g1, ?_⟩
    show (wipe z6.σ own1)[j]? = _
    rw [wipe_out hj, g2]
/-- the new list and what it has, at any time within a block -/
structure CompX (K : PySem.W.Frag) (zw : Z) (D : Addr) (rs : List MV) (z : Z) (vs : List V) (T : List Addr) : Prop where
  s : Stp K zw z
  d : z.H D = some (.lst vs)
  a : z.A D
  apD : ∀ i, D ∉ z.TS i
  own : Owns K z.A z.H rs vs T
  nd : (D :: T).Nodup
  ap : ∀ b ∈ T, ∀ i, b ∉ z.TS i
  new : ∀ b ∈ T, zw.S b ∨ zw.H b = none
theorem CompI.cx {D : Addr} {rs : List MV} {vs : List V} {T : List Addr} (c : CompI K zw D own rs z vs T) : CompX K zw D rs z vs T := ⟨c.s, c.d, c.a, c.apD, c.own, c.nd, c.ap, c.new⟩
theorem CompX.step {D : Addr} {rs : List MV} {vs : List V} {T : List Addr} (R : Rel K zw) (c : CompX K zw D rs z vs T) (x : Stp K z z6) : CompX K zw D rs z6 vs T := by
  have hDH : ∀ b ∈ D :: T, z.H b ≠ none := fun b hb => by
    rcases List.mem_cons.mp hb with rfl | hb
    · rw [c.d]; simp
    · exact (c.own.sub b hb).2
  have ap0 : ∀ b ∈ D :: T, ∀ i, b ∉ z.TS i := fun b hb => by
    rcases List.mem_cons.mp hb with rfl | hb
    · exact c.apD
    · exact c.ap b hb
  obtain ⟨nS, ap6⟩ := keep_apart x hDH ap0
  refine ⟨c.s.trans R x, x.fr.keep D _ c.d (nS D List.mem_cons_self), x.fr.keepA D c.a (nS D List.mem_cons_self), ap6 D List.mem_cons_self, ?_, c.nd, fun b hb => ap6 b (List.mem_cons_of_mem _ hb), c.new⟩
  exact c.own.step (fun b o e n => x.fr.keep b o e fun w => n (c.s.rel.sub b w)) x.fr.newA fun b hb => ⟨fun o e => x.fr.keep b o e (nS b (List.mem_cons_of_mem _ hb)), x.fr.keepA b (c.own.sub b hb).1 (nS b (List.mem_cons_of_mem _ hb))⟩
theorem CompX.hide {D : Addr} {rs : List MV} {vs : List V} {T : List Addr} (R : Rel K zw) (hu : ∀ i ∈ own1, zw.ρ[i]? = some .unset) (c : CompX K zw D rs z vs T) : CompX K zw D rs (z.hide own1) vs T :=
  ⟨hideS_ok R hu c.s, c.d, c.a, hide_notin c.apD, c.own, c.nd, fun b hb => hide_notin (c.ap b hb), c.new⟩
theorem Owns.snocC {A : AP} {H : Hp} {r : MV} {y : V} {T6 : List Addr} (o2 : Own K A H r y T6) : ∀ {ms : List MV} {us : List V} {S0 : List Addr}, Owns K A H ms us S0 → Owns K A H (ms ++ [r]) (us ++ [y]) (S0 ++ T6)
  | [], _, _, h => by cases h; have := Owns.cons o2 Owns.nil; rw [List.append_nil] at this; exact this
  | m :: ms, _, _, h => by
    cases h with
    | cons a b =>
      have := Owns.cons a (Owns.snocC o2 b)
      rw [List.append_assoc]; exact this
theorem CompX.push {D : Addr} {rs : List MV} {vs : List V} {T T6 : List Addr} {r : MV} {y : V} (R : Rel K zw) (hD : zw.H D = none) (c0 : CompX K zw D rs z vs T) (c6 : CompX K zw D rs z6 vs T)
    (ow : Own K z6.A z6.H r y T6) (nd6 : T6.Nodup) (ap6 : ∀ b ∈ T6, ∀ i, b ∉ z6.TS i) (new6 : ∀ b ∈ T6, z.S b ∨ z.H b = none) :
    CompX K zw D (rs ++ [r]) { z6 with H := upd z6.H D (.lst (vs ++ [y])) } (vs ++ [y]) (T ++ T6) := by
  have up : ∀ b u, b ≠ D → z6.H b = some u → upd z6.H D (.lst (vs ++ [y])) b = some u := fun b u n e => by rw [upd_ne n]; exact e
  have nD6 : D ∉ T6 := fun h => by
    rcases new6 D h with ⟨i, hi, _⟩ | w
    · exact c0.apD i hi
    · rw [c0.d] at w; cases w
  have nDT : D ∉ T := (List.nodup_cons.mp c0.nd).1
  have dis : ∀ b, b ∈ T → b ∉ T6 := fun b hb h6 => by
    rcases new6 b h6 with ⟨i, hi, _⟩ | w
    · exact c0.ap b hb i hi
    · exact (c0.own.sub b hb).2 w
  refine ⟨updD_ok R c6.s c6.a hD c6.apD, upd_same, c6.a, c6.apD, ?_, ?_, fun b hb => ?_, fun b hb => ?_⟩
  · have o1 : Owns K z6.A (upd z6.H D (.lst (vs ++ [y]))) rs vs T := c6.own.step (fun b u e n => up b u (fun w => n (w ▸ c6.a)) e) (fun b h => .inl h) fun b hb => ⟨fun u e => up b u (fun w => nDT (w ▸ hb)) e, (c6.own.sub b hb).1⟩
    have o2 : Own K z6.A (upd z6.H D (.lst (vs ++ [y]))) r y T6 := ow.step (fun b u e n => up b u (fun w => n (w ▸ c6.a)) e) (fun b h => .inl h) fun b hb => ⟨fun u e => up b u (fun w => nD6 (w ▸ hb)) e, (ow.sub b hb).1⟩
    exact Owns.snocC o2 o1
  · refine List.nodup_cons.mpr ⟨fun h => ?_, List.nodup_append.mpr ⟨(List.nodup_cons.mp c0.nd).2, nd6, fun x hx w hw e => dis x hx (e ▸ hw)⟩⟩
    rcases List.mem_append.mp h with h | h
    · exact nDT h
    · exact nD6 h
  · rcases List.mem_append.mp hb with h | h
    · exact c6.ap b h
    · exact ap6 b h
  · rcases List.mem_append.mp hb with h | h
    · exact c6.new b h
    · rcases new6 b h with w | w
      · exact c0.s.fr.newS b w
      · exact .inr (c0.s.fr.there b w)
end
/-! ### two clauses -/
section
variable {X : Cx}
def bI (X : Cx) (scope : Scope) (tg iter : Expr) : TI := fun σ H R => ∀ (s : Shared) (H0 : Hp) (C : Addr) (cl : List (Str × Addr)) (fp : List Addr), RunsI (XB X scope s H0 C cl fp) tg iter σ H R
theorem bT_none {scope : Scope} {σ : L2.St} {H : Hp} {Q : Bool → Hp → Prop} : bT X scope none σ H Q = Q true H := rfl
theorem comp2L_len {tg tg1 : Tg} {fJ : Env → Option (List D × Env)} {rc : Option R3} {re : R3} {own own1 : List Nat} : ∀ (ds : List D) (acc : List MV) (ρ : Env) (rsF : List MV) (ρF : Env), comp2L tg tg1 fJ rc re own own1 ds acc ρ = some (rsF, ρF) → acc.length ≤ rsF.length
  | [], acc, ρ, rsF, ρF, h => by unfold comp2L at h; cases h; exact Nat.le_refl _
  | d :: ds, acc, ρ, rsF, ρF, h => by
    unfold comp2L at h
    obtain ⟨ρt, _, h⟩ := bind_some h
    obtain ⟨⟨ds1, ρ1⟩, _, h⟩ := bind_some h
    obtain ⟨⟨acc1, ρ2⟩, h2, h⟩ := bind_some h
    exact Nat.le_trans (compL_len _ _ _ _ _ h2) (comp2L_len ds _ _ _ _ h)
theorem comp2_r {elt tgE iter tg1E iter1 : Expr} {cond : Option Expr} {scope : Scope} {ownN : List (Str × Nat)} {own1 : List Nat} {tg tg1 : Tg} {fI : Env → Option (List D × Fl × Env × Lks)} {fJ : Env → Option (List D × Env)} {rc : Option R3} {re : R3} (s0 : Shared) (hcalm : X.calm = true) (hN : X.N.Nodup) (hI : SndI X tgE iter fI)
    (ok : BlkOk X.N X.env.scope scope ownN) (hv : ∀ i ∈ own1, i ∈ ownN.map (·.2)) (hT : ∀ s H C cl fp, TgOk (XB X scope s H C cl fp) tg tgE) (hix : ∀ i ∈ ixs tg, i ∈ ownN.map (·.2)) (hJ : ∀ s H C cl fp, SndJ (XB X scope s H C cl fp) tg1E iter1 fJ)
    (hT1 : ∀ s H C cl fp, TgOk (XB X scope s H C cl fp) tg1 tg1E) (hix1 : ∀ i ∈ ixs tg1, i ∈ own1) (hC : ∀ s H C cl fp, OptS (XB X scope s H C cl fp) cond rc) (hE : ∀ s H C cl fp, Snd (XB X scope s H C cl fp) elt re)
    {z : Z} {ρ1 : Env} {ds : List D} {fl : Fl} {ls : Lks} {rsF : List MV} {ρF : Env} (hNl : z.σ.length = X.N.length) (R : Rel X.K z) (h1 : fI z.ρ = some (ds, fl, ρ1, ls)) (hfl : fl ≠ .deep) (h2 : comp2L tg tg1 fJ rc re (ownN.map (·.2)) own1 ds [] (wipeE (ownN.map (·.2)) ρ1) = some (rsF, ρF)) (hlenF : rsF.length ≤ sizeLine)
    {Q : VK} (q : ∀ u z' T, Stp X.K z z' → z'.ρ = unl ls (unwipe (ownN.map (·.2)) ρ1 ρF) → z'.σ = z.σ → Tmp X.K z z' (.lst rsF) u T → Q u z'.H) :
    tLc2 (RunsI X tgE iter) (bG X scope tgE) (bT X scope none) (bI X scope tg1E iter1) (bG X scope tg1E) (bT X scope cond) (bE X scope elt) (ownN.map (·.2)) own1 z.σ z.H Q := by
  have hownN : ∀ i ∈ ownN.map (·.2), i < X.N.length := fun i hi => by
    obtain ⟨p, hp, rfl⟩ := List.mem_map.mp hi
    exact (List.getElem?_eq_some_iff.mp (ok.ix p hp)).1
  generalize hown0 : ownN.map (·.2) = own at *
  have hch : ∀ d, childFl fl d = .val := fun d => by cases fl <;> first | rfl | exact absurd rfl hfl
  refine hI z ds fl ρ1 ls R h1 _ fun J z1 p1 er1 es1 it D hD => ?_
  obtain ⟨G, Y, w, hit⟩ := it.ex
  have R1 := p1.rel
  have hlt : ∀ i ∈ own, i < z1.ρ.length := fun i hi => by
    rw [R1.len, es1, hNl]; exact hownN i hi
  generalize hzw : z1.hide own = zw
  have Rw : Rel X.K zw := by rw [← hzw]; exact hide_ok R1
  have hu : ∀ i ∈ own, zw.ρ[i]? = some .unset := fun i hi => by rw [← hzw]; exact wipeE_in hi (hlt i hi)
  have hu1 : ∀ i ∈ own1, zw.ρ[i]? = some .unset := fun i hi => hu i (hv i hi)
  have hσw : zw.σ = wipe z.σ own := by rw [← hzw]; show wipe z1.σ own = _; rw [es1]
  have hownw : ∀ i ∈ own, i < zw.ρ.length := fun i hi => by rw [← hzw]; show i < (wipeE own z1.ρ).length; rw [wipeE_len]; exact hlt i hi
  have hHw : zw.H = z1.H := by rw [← hzw]; rfl
  have hDw : zw.H D = none := by rw [hHw]; exact hD
  have frw : Fr z1.A z1.S z1.H zw.A zw.S zw.H := by rw [← hzw]; exact hide_fr z1 own
  have s00 := lay_ok (A := fun a => zw.A a ∨ a = D) (o := .lst []) Rw hDw (fun a q => q) fun a q => .inl q
  have c0 : CompI X.K zw D own [] (zw.lay (fun a => zw.A a ∨ a = D) D (.lst [])) [] [] :=
    ⟨s00, rfl, hu, upd_same, .inr rfl, fun i hi => notA Rw hDw (Rw.subT i D hi), .nil, by simp, fun _ h => (nomatch h), fun _ h => (nomatch h)⟩
  refine ⟨fun i m H => m = ds.length - i ∧ i ≤ ds.length ∧ ∃ zi vs T rs, CompI X.K zw D own rs zi vs T ∧ zi.H = H ∧ comp2L tg tg1 fJ rc re own own1 (ds.drop i) rs zi.ρ = some (rsF, ρF), ⟨ds.length, by simp, Nat.zero_le _, zw.lay (fun a => zw.A a ∨ a = D) D (.lst []), [], [], [], c0, ?_, ?_⟩, ?_⟩
  · show upd zw.H D (.lst []) = _; rw [hHw]
  · rw [List.drop_zero]
    have e0 : zw.ρ = wipeE own ρ1 := by rw [← hzw]; show wipeE own z1.ρ = _; rw [er1]
    show comp2L tg tg1 fJ rc re own own1 ds [] zw.ρ = _
    rw [e0]; exact h2
  rintro i m H ⟨rfl, hin, zi, vs, T, rs, c, eH, hr⟩
  subst eH
  have hG := hit zi c.s.rel (frw.trans R1.trk c.s.fr)
  by_cases hi : i < ds.length
  · refine .inr ⟨w.goes i zi.H hi hG.1, fun H => ∃ zi vs T rs, CompI X.K zw D own rs zi vs T ∧ zi.H = H ∧ comp2L tg tg1 fJ rc re own own1 (ds.drop (i + 1)) rs zi.ρ = some (rsF, ρF), fun H' p' => ⟨ds.length - (i + 1), by omega, rfl, hi, p'⟩, fun x H' hy => ?_⟩
    have hy := w.yields i zi.H x H' hi hG.1 hy
    obtain ⟨d, hd⟩ : ∃ d, ds[i]? = some d := ⟨ds[i], List.getElem?_eq_getElem hi⟩
    have hdrop : ds.drop i = d :: ds.drop (i + 1) := by
      rw [List.drop_eq_getElem_cons hi]
      rw [List.getElem?_eq_getElem hi] at hd
      rw [Option.some.inj hd]
    rw [hdrop] at hr
    unfold comp2L at hr
    obtain ⟨ρt, g1, hr⟩ := bind_some hr
    obtain ⟨⟨ds1, ρj⟩, g2, hr⟩ := bind_some hr
    obtain ⟨⟨acc1, ρ6⟩, g3, hr⟩ := bind_some hr
    obtain ⟨z3, s3, eH3, er3, es3, k3⟩ := hG.2 i d x H' hd hy
    subst eH3
    rw [hch d] at k3
    have ezσ : wipe z.σ own = z3.σ := by rw [es3, c.σ, hσw]
    rw [ezσ]
    intro sB HB CB clB fpB
    refine bind_ok (X := XB X scope sB HB CB clB fpB) hN hcalm (hT sB HB CB clB fpB) z3 .val d x ρt _ s3.rel k3 (by rw [er3]; exact g1) fun z4 s4 er4 eh4 ea4 sS4 hσ4 => ?_
    have x4 : Stp X.K zi z4 := s3.trans c.s.rel (s4.plain fun i hi fl e => by rw [er4]; exact bindT_nb g1 i hi fl e)
    have hl4 : z4.σ.length = z3.σ.length := by rw [← s4.rel.len, ← s3.rel.len, s4.kp.len]
    have w4 : wipe z4.σ own = zw.σ := by
      rw [wipe_eq hl4 fun j hj => hσ4 j fun w => hj (hix j w), es3, c.σ, hσw]
      exact wipe_eq (wipe_length _ _) fun j hj => wipe_out hj
    refine ⟨by rw [w4, es3, c.σ], ?_⟩
    rw [bT_none, if_pos rfl]
    intro sI HI CI clI fpI
    refine hJ sI HI CI clI fpI z4 ds1 ρj s4.rel (by rw [er4]; exact g2) _ fun J1 z5 s5 er5 es5 it1 => ?_
    obtain ⟨G1, Y1, w1, hit1⟩ := it1.ex
    have cx5 : CompX X.K zw D rs z5 vs T := (c.cx.step Rw x4).step Rw s5
    refine ⟨fun j k H => k = ds1.length - j ∧ j ≤ ds1.length ∧ ∃ zj vs T rs, CompX X.K zw D rs zj vs T ∧ zj.σ = wipe z4.σ own1 ∧ FrV z5.A z5.H zj.A zj.H ∧ zj.H = H ∧ compL tg1 .val rc re own1 (ds1.drop j) rs zj.ρ = some (acc1, ρ6), ⟨ds1.length, by simp, Nat.zero_le _, z5.hide own1, vs, T, rs, cx5.hide Rw hu1, by show wipe z5.σ own1 = _; rw [es5], FrV.refl, rfl, ?_⟩, ?_⟩
    · rw [List.drop_zero]
      show compL tg1 .val rc re own1 ds1 rs (wipeE own1 z5.ρ) = _
      rw [er5]; exact g3
    rintro j k H ⟨rfl, hjn, zj, vs, T, rs, cj, eσj, fj, eHj, hrj⟩
    subst eHj
    have hG1 := hit1 zj cj.s.rel fj
    by_cases hj : j < ds1.length
    · refine .inr ⟨w1.goes j zj.H hj hG1.1, fun H => ∃ zj vs T rs, CompX X.K zw D rs zj vs T ∧ zj.σ = wipe z4.σ own1 ∧ FrV z5.A z5.H zj.A zj.H ∧ zj.H = H ∧ compL tg1 .val rc re own1 (ds1.drop (j + 1)) rs zj.ρ = some (acc1, ρ6), fun H' p' => ⟨ds1.length - (j + 1), by omega, rfl, hj, p'⟩, fun x1 H1' hy1 => ?_⟩
      have hy1 := w1.yields j zj.H x1 H1' hj hG1.1 hy1
      obtain ⟨d1, hd1⟩ : ∃ d, ds1[j]? = some d := ⟨ds1[j], List.getElem?_eq_getElem hj⟩
      have hdrop1 : ds1.drop j = d1 :: ds1.drop (j + 1) := by
        rw [List.drop_eq_getElem_cons hj]
        rw [List.getElem?_eq_getElem hj] at hd1
        rw [Option.some.inj hd1]
      rw [hdrop1] at hrj
      unfold compL at hrj
      obtain ⟨ρt1, g4, hrj⟩ := bind_some hrj
      obtain ⟨⟨bb, ρc⟩, g5, hrj⟩ := bind_some hrj
      obtain ⟨eH1, k6⟩ := hG1.2 j d1 x1 H1' hd1 hy1
      subst eH1
      rw [show wipe z4.σ own1 = zj.σ from eσj.symm]
      intro sB1 HB1 CB1 clB1 fpB1
      have g4 : bindT tg1 .val d1 zj.ρ = some ρt1 := g4
      refine bind_ok (X := XB X scope sB1 HB1 CB1 clB1 fpB1) hN hcalm (hT1 sB1 HB1 CB1 clB1 fpB1) zj .val d1 x1 ρt1 _ cj.s.rel k6 g4 fun z7 s7 er7 eh7 ea7 sS7 hσ7 => ?_
      have x7 : Stp X.K zj z7 := s7.plain fun i hi fl e => by rw [er7]; exact bindT_nb g4 i hi fl e
      have hl7 : z7.σ.length = zj.σ.length := by rw [← s7.rel.len, ← cj.s.rel.len, s7.kp.len]
      have w7 : wipe z7.σ own1 = zj.σ := by
        rw [wipe_eq hl7 fun j hj => hσ7 j fun w => hj (hix1 j w), eσj]
        exact wipe_eq (wipe_length _ _) fun j hj => wipe_out hj
      refine ⟨w7, ?_⟩
      refine bT_ok s0 hC s7.rel (by rw [er7]; exact g5) fun z8 s8 er8 es8 => ?_
      have x8 := x7.trans cj.s.rel s8
      have w8 : wipe z8.σ own1 = zj.σ := by rw [es8]; exact w7
      have f8 : FrV z5.A z5.H z8.A z8.H := fj.trans (FrV.of cj.s.rel.sub x8.fr)
      have c8 := cj.step Rw x8
      cases bb with
      | false =>
        rw [if_neg Bool.false_ne_true]
        exact ⟨z8.hide own1, vs, T, rs, c8.hide Rw hu1, w8, f8, rfl, by show compL tg1 .val rc re own1 _ rs (wipeE own1 z8.ρ) = _; rw [er8]; exact hrj⟩
      | true =>
        rw [if_pos rfl]
        obtain ⟨⟨r6, ρe⟩, g6, hrj⟩ := bind_some hrj
        rw [← es8]
        intro sE HE CE clE fpE
        refine (hE sE HE CE clE fpE).v z8 r6 ρe x8.rel (by rw [er8]; exact g6) _ fun y z9 T9 s9 er9 es9 t9 => ?_
        have w9 : wipe z9.σ own1 = zj.σ := by rw [es9]; exact w8
        have c9 := c8.step Rw s9
        have c9h := c9.hide (own1 := own1) Rw hu1
        have cp := c8.push (z6 := z9.hide own1) (r := r6) (y := y) (T6 := T9) Rw hDw c9h t9.own t9.nd (fun b hb => hide_notin (t9.apart b hb)) t9.new
        refine ⟨vs, c9.d, ?_, _, vs ++ [y], T ++ T9, rs ++ [r6], cp, w9, ?_, rfl, ?_⟩
        · have hl := compL_len _ _ _ _ _ hrj
          have hl2 : acc1.length ≤ rsF.length := comp2L_len _ _ _ _ _ hr
          rw [List.length_append, List.length_singleton] at hl
          have e := cj.own.length
          omega
        · have f9 := f8.trans (FrV.of x8.rel.sub s9.fr)
          refine ⟨fun b o e n => ?_, f9.newA, fun b e => ?_⟩
          · have hk := f9.keep b o e n
            have nb : b ≠ D := fun w => by
              subst w
              rcases f9.newA b c9.a with h | h
              · exact n h
              · rw [e] at h; cases h
            show upd z9.H D _ b = some o
            rw [upd_ne nb]; exact hk
          · have e : upd z9.H D (.lst (vs ++ [y])) b = none := e
            by_cases hb : b = D
            · rw [hb, upd_same] at e; cases e
            · rw [upd_ne hb] at e; exact f9.there b e
        · show compL tg1 .val rc re own1 _ (rs ++ [r6]) (wipeE own1 z9.ρ) = _
          rw [er9]; exact hrj
    · have ej : j = ds1.length := by omega
      subst ej
      refine .inl ⟨w1.stops zj.H hG1.1, ?_⟩
      rw [List.drop_length] at hrj
      unfold compL at hrj
      cases hrj
      have wj : wipe zj.σ own = zw.σ := by
        rw [← w4, eσj]
        exact wipe_eq (wipe_length _ _) fun j hj => wipe_out fun h => hj (hv j h)
      have ch := cj.hide (own1 := own) Rw hu
      have hlj : zj.ρ.length = zw.ρ.length := cj.s.kp.len
      exact ⟨zj.hide own, vs, T, _, ⟨ch.s, wj, fun i hi => wipeE_in hi (by rw [hlj]; exact hownw i hi), ch.d, ch.a, ch.apD, ch.own, ch.nd, ch.ap, ch.new⟩, rfl, hr⟩
  · have e : i = ds.length := by omega
    subst e
    refine .inl ⟨w.stops zi.H hG.1, ?_⟩
    rw [List.drop_length] at hr
    unfold comp2L at hr
    cases hr
    have sh : Stp X.K z1 (zi.show' z1 own) := show_ok R1 hlt (by rw [hzw]; exact c.s) (by rw [hzw]; exact c.σ) c.un
    have zwS : ∀ b, zw.S b → z1.S b := fun b h => by rw [← hzw] at h; exact (hide_S h).1
    refine q (.ref D) ((zi.show' z1 own).setR (unl ls (unwipe own z1.ρ zi.ρ))) (D :: T) (p1.close _ sh) (by show unl ls (unwipe own z1.ρ zi.ρ) = _; rw [er1]) es1 ⟨.lst c.d c.a c.own, c.nd, fun b hb i hi => ?_, fun b hb => ?_⟩
    · have hi : b ∈ (if i ∈ own then z1.TS i else zi.TS i) := hi
      have nb : ∀ j, b ∉ zi.TS j := fun j => by
        rcases List.mem_cons.mp hb with rfl | hb
        · exact c.apD j
        · exact c.ap b hb j
      by_cases hm : i ∈ own
      · rw [if_pos hm] at hi
        have tr : z1.H b ≠ none := R1.trk b (R1.subT i b hi)
        rcases List.mem_cons.mp hb with rfl | hb
        · exact tr hD
        · rcases c.new b hb with h | h
          · rw [← hzw] at h
            obtain ⟨j, hj, h2⟩ := (hide_S h).2 i hm hi
            exact hj (R1.dj i j b hi h2 ▸ hm)
          · rw [hHw] at h; exact tr h
      · rw [if_neg hm] at hi; exact nb i hi
    · rcases List.mem_cons.mp hb with rfl | hb
      · exact .inr (p1.fr.there b hD)
      · rcases c.new b hb with h | h
        · exact p1.fr.newS b (zwS b h)
        · rw [hHw] at h; exact .inr (p1.fr.there b h)
theorem comp2_v {elt tgE iter tg1E iter1 : Expr} {cond : Option Expr} {scope : Scope} {pos : Pos} {ownN : List (Str × Nat)} {own own1 : List Nat} {tg tg1 : Tg} {fI : Env → Option (List D × Fl × Env × Lks)} {fJ : Env → Option (List D × Env)} {rc : Option R3} {re : R3} (hcalm : X.calm = true) (hN : X.N.Nodup) (hI : SndI X tgE iter fI)
    (ok : BlkOk X.N X.env.scope scope ownN) (ho : ownN.map (·.2) = own ++ own1) (hT : ∀ s H C cl fp, TgOk (XB X scope s H C cl fp) tg tgE) (hix : ∀ i ∈ ixs tg, i ∈ own) (hJ : ∀ s H C cl fp, SndJ (XB X scope s H C cl fp) tg1E iter1 fJ)
    (hT1 : ∀ s H C cl fp, TgOk (XB X scope s H C cl fp) tg1 tg1E) (hix1 : ∀ i ∈ ixs tg1, i ∈ own1) (hC : ∀ s H C cl fp, OptS (XB X scope s H C cl fp) cond rc) (hE : ∀ s H C cl fp, Snd (XB X scope s H C cl fp) elt re)
    (hset : ∀ x, foldedSetIterable iter X.env x = pure x) (hset1 : ∀ env x, foldedSetIterable iter1 env x = pure x) : SndV X (.ListComp elt [⟨tgE, iter, [], 0⟩, ⟨tg1E, iter1, cond.toList, 0⟩] scope pos) (evComp2 re tg fI tg1 fJ rc own own1) := by
  intro z r ρ' R e1 Q q pins s0 I0
  obtain ⟨⟨ds, fl, ρ1, ls⟩, h1, e2⟩ := bind_some (show (fI z.ρ).bind _ = some _ from e1)
  dsimp only at e2
  split at e2
  · cases e2
  rename_i hfl
  obtain ⟨⟨rsF, ρF⟩, h2, e3⟩ := bind_some e2
  dsimp only at e3
  split at e3
  rotate_left
  · cases e3
  rename_i hlenF
  cases e3
  have hv : ∀ i ∈ own1, i ∈ ownN.map (·.2) := fun i hi => by rw [ho]; exact List.mem_append_right _ hi
  exact PE.rn (pe_lc2 (own := ownN) (vs1 := own1) (wi1 := bI X scope tg1E iter1) (g := bG X scope tgE) (g1 := bG X scope tg1E) (tt := bT X scope none) (tt1 := bT X scope cond) (te := bE X scope elt) hcalm hN pri ok hv (fun s H C cl fp => ⟨fun pins s' σ H' v u Q I rr hw => hw s H C cl fp pins s' u I rr⟩) (comp_pts (cond := none))
      (fun s H C cl fp => ⟨fun pins s' σ H' Q I hw => hw s H C cl fp pins s' I⟩) (fun s H C cl fp => ⟨fun pins s' σ H' v u Q I rr hw => hw s H C cl fp pins s' u I rr⟩) comp_pts (fun s H C cl fp => ⟨fun pins s' σ H' Q I hw => hw s H C cl fp pins s' I⟩) hset hset1)
    (comp2_r s0 hcalm hN hI ok hv hT (fun i hi => by rw [ho]; exact List.mem_append_left _ (hix i hi)) hJ hT1 hix1 hC hE I0.len R h1 hfl (by rw [ho]; exact h2) hlenF fun u z' T a b c d => q u z' T a (by rw [ho] at b; exact b) c d) pins s0 I0
end
/-! ### slots given up, trees frozen -/
section
variable {K : PySem.W.Frag} {z : Z} {is : List Nat}
def Z.forget (z : Z) (is : List Nat) : Z := { z with ρ := wipeE is z.ρ, TS := fun i => if i ∈ is then [] else z.TS i }
theorem forget_S {a : Addr} (h : (z.forget is).S a) : z.S a := by
  obtain ⟨j, hj, nl⟩ := h
  have hj : a ∈ (if j ∈ is then [] else z.TS j) := hj
  by_cases e : j ∈ is
  · rw [if_pos e] at hj; cases hj
  · rw [if_neg e] at hj
    exact ⟨j, hj, fun ⟨m, q⟩ => nl ⟨m, (wipeE_out e).trans q⟩⟩
theorem forget_ok (R : Rel K z) (hg : gone is z.ρ = true) : Stp K z (z.forget is) := by
  have no : ∀ {i : Nat} {s : Slot}, i ∈ is → z.ρ[i]? = some s → (∃ m, s = .lck m) ∨ (∃ m, s = .io m) → False := fun {i s} hi e h => by
    have := List.all_eq_true.mp hg i hi
    rw [e] at this
    rcases h with ⟨m, rfl⟩ | ⟨m, rfl⟩ <;> cases this
  have un : ∀ {j : Nat} {s : Slot}, j ∈ is → (wipeE is z.ρ)[j]? = some s → s = .unset := fun {j s} h e => by
    have hl : j < z.ρ.length := by
      have := (List.getElem?_eq_some_iff.mp e).1
      rw [wipeE_len] at this; exact this
    rw [wipeE_in h hl] at e; exact (Option.some.inj e).symm
  refine ⟨⟨by show (wipeE is z.ρ).length = z.σ.length; rw [wipeE_len]; exact R.len, fun i s e => ?_, fun i e => ?_, fun i => ?_, fun i j a hi hj => ?_, R.trk⟩, ⟨fun _ _ e _ => e, fun _ h => .inl h, fun _ h => .inl (forget_S h), fun _ h _ => h, fun _ h => h⟩, ⟨wipeE_len is z.ρ, fun j m e => ?_, fun j m e => ?_, fun j m e => ?_, fun j m e => ?_, fun j fl d e => ?_⟩⟩
  · have e : (wipeE is z.ρ)[i]? = some s := e
    show ∃ o, z.σ[i]? = some o ∧ SlotR K z.A (z.forget is).S z.H s o (if i ∈ is then [] else z.TS i)
    have hi : i < z.ρ.length := by
      have := (List.getElem?_eq_some_iff.mp e).1
      rw [wipeE_len] at this; exact this
    by_cases hm : i ∈ is
    · rw [wipeE_in hm hi] at e
      cases e
      rw [if_pos hm]
      exact ⟨_, List.getElem?_eq_getElem (by rw [← R.len]; exact hi), .unset⟩
    · rw [wipeE_out hm] at e
      rw [if_neg hm]
      obtain ⟨o, e2, r⟩ := R.slot i s e
      refine ⟨o, e2, ?_⟩
      cases hb : isBor s with
      | false => exact r.anyS hb
      | true =>
        cases s with
        | bor fl d =>
          generalize z.TS i = T at r
          cases r with
          | bor r => exact .bor (r.lessS fun a q => forget_S q)
        | unset => cases hb
        | own _ => cases hb
        | io _ => cases hb
        | lck _ => cases hb
  · show (if i ∈ is then [] else z.TS i) = []
    by_cases hm : i ∈ is
    · rw [if_pos hm]
    · rw [if_neg hm]
      refine R.out i ?_
      have e : (wipeE is z.ρ)[i]? = none := e
      rw [wipeE_out hm] at e; exact e
  · show (if i ∈ is then [] else z.TS i : List Addr).Nodup
    split
    · exact List.nodup_nil
    · exact R.nd i
  · have hi : a ∈ (if i ∈ is then [] else z.TS i) := hi
    have hj : a ∈ (if j ∈ is then [] else z.TS j) := hj
    by_cases h1 : i ∈ is
    · rw [if_pos h1] at hi; cases hi
    · by_cases h2 : j ∈ is
      · rw [if_pos h2] at hj; cases hj
      · rw [if_neg h1] at hi; rw [if_neg h2] at hj; exact R.dj i j a hi hj
  · have hj : j ∉ is := fun h => no h e (.inl ⟨m, rfl⟩)
    exact ⟨(wipeE_out hj).trans e, rfl, if_neg hj⟩
  · have e : (wipeE is z.ρ)[j]? = _ := e
    have hj : j ∉ is := fun h => by have := un h e; cases this
    rw [wipeE_out hj] at e; exact e
  · have hj : j ∉ is := fun h => no h e (.inr ⟨m, rfl⟩)
    exact ⟨m, (wipeE_out hj).trans e, rfl⟩
  · have e : (wipeE is z.ρ)[j]? = _ := e
    have hj : j ∉ is := fun h => by have := un h e; cases this
    rw [wipeE_out hj] at e; exact ⟨m, e⟩
  · have e : (wipeE is z.ρ)[j]? = _ := e
    have hj : j ∉ is := fun h => by have := un h e; cases this
    rw [wipeE_out hj] at e; exact ⟨e, rfl⟩
end
end Q
set_option maxHeartbeats 1000000
namespace Q
open PySem L2 PyProof.Rows

def RunsS (X : Cx) (st : Stmt) : TS := fun D σ H => ∀ (pins : List (Addr × Obj)) (s : Shared), Inv X pins σ H s → wpAny (model X.prog X.w) X.A (exec st X.env) (SP X pins D) X.xe s
def RunsB (X : Cx) (st : List Stmt) : TS := fun D σ H => ∀ (pins : List (Addr × Obj)) (s : Shared), Inv X pins σ H s → wpAny (model X.prog X.w) X.A (execs st X.env) (SP X pins D) X.xe s
theorem prs {X : Cx} {st : Stmt} : PS X st (RunsS X st) := ⟨fun pins s σ H D I h => h pins s I⟩
theorem prb {X : Cx} {st : List Stmt} : PSs X st (RunsB X st) := ⟨fun pins s σ H D I h => h pins s I⟩
theorem PS.rn {X : Cx} {st : Stmt} {t : TS} (h : PS X st t) {D : Ends} {σ : L2.St} {H : Hp} (q : t D σ H) : RunsS X st D σ H := fun pins s I => h.run pins s σ H D I q
theorem PSs.rn {X : Cx} {st : List Stmt} {t : TS} (h : PSs X st t) {D : Ends} {σ : L2.St} {H : Hp} (q : t D σ H) : RunsB X st D σ H := fun pins s I => h.run pins s σ H D I q

/-- what is wanted behind a statement -/
def Fin' (K : PySem.W.Frag) (z : Z) (D : Ends) (fl : Flow) (ρ' : Env) : Prop := match fl with
  | .next => ∀ z', Stp K z z' → z'.ρ = ρ' → D.nx z'.σ z'.H
  | .brk => ∀ z', Stp K z z' → z'.ρ = ρ' → D.bk z'.σ z'.H
  | .cnt => ∀ z', Stp K z z' → z'.ρ = ρ' → D.ct z'.σ z'.H
  | .ret r => ∀ v z' T, Stp K z z' → z'.ρ = ρ' → Tmp K z z' r v T → D.rt v z'.H
theorem Fin'.step {K : PySem.W.Frag} {z z1 : Z} {D : Ends} {fl : Flow} {ρ' : Env} (R : Rel K z) (s : Stp K z z1) (f : Fin' K z D fl ρ') : Fin' K z1 D fl ρ' := by
  cases fl with
  | next => exact fun z' s' e => f z' (s.trans R s') e
  | brk => exact fun z' s' e => f z' (s.trans R s') e
  | cnt => exact fun z' s' e => f z' (s.trans R s') e
  | ret r => exact fun v z' T s' e t => f v z' T (s.trans R s') e (t.after s.fr)
def SndS (X : Cx) (st : Stmt) (f : Env → Option (Flow × Env)) : Prop := ∀ (z : Z) (fl : Flow) (ρ' : Env), Rel X.K z → f z.ρ = some (fl, ρ') → ∀ D : Ends, Fin' X.K z D fl ρ' → RunsS X st D z.σ z.H
def SndB (X : Cx) (st : List Stmt) (f : Env → Option (Flow × Env)) : Prop := ∀ (z : Z) (fl : Flow) (ρ' : Env), Rel X.K z → f z.ρ = some (fl, ρ') → ∀ D : Ends, Fin' X.K z D fl ρ' → RunsB X st D z.σ z.H

mutual
theorem bindT_val : ∀ {tg : Tg} {d : D} {ρ ρ' : Env}, bindT tg .val d ρ = some ρ' → ∀ {i : Nat} {fl : Bf} {d' : D}, ρ'[i]? = some (Slot.bor fl d') → i ∉ ixs tg ∧ ρ[i]? = some (Slot.bor fl d')
  | .name j, d, ρ, ρ', h, i, fl, d', e => by
    obtain ⟨e1, t, ht, _, _⟩ := putVar_ok (show putVar j (.own (.val d)) ρ = some ρ' from h)
    subst e1
    rcases set_get e with ⟨_, e2⟩ | ⟨hji, e2⟩
    · cases e2
    · exact ⟨by simp [ixs, hji], e2⟩
  | .tup ts, .tuple ds, ρ, ρ', h, i, fl, d', e => by
    have h : bindTs ts .val ds ρ = some ρ' := h
    have := bindTs_val h e
    simpa [ixs] using this
  | .tup ts, .none, ρ, ρ', h, i, fl, d', e => by cases h
  | .tup ts, .bool _, ρ, ρ', h, i, fl, d', e => by cases h
  | .tup ts, .int _, ρ, ρ', h, i, fl, d', e => by cases h
  | .tup ts, .str _, ρ, ρ', h, i, fl, d', e => by cases h
  | .tup ts, .list ds, ρ, ρ', h, i, fl, d', e => by
    have h : bindTs ts .val ds ρ = some ρ' := h
    have := bindTs_val h e
    simpa [ixs] using this
  | .tup ts, .dict _, ρ, ρ', h, i, fl, d', e => by cases h
theorem bindTs_val : ∀ {ts : List Tg} {ds : List D} {ρ ρ' : Env}, bindTs ts .val ds ρ = some ρ' → ∀ {i : Nat} {fl : Bf} {d' : D}, ρ'[i]? = some (Slot.bor fl d') → i ∉ ixss ts ∧ ρ[i]? = some (Slot.bor fl d')
  | [], [], ρ, ρ', h, i, fl, d', e => by
    unfold bindTs at h
    cases h
    exact ⟨by simp [ixss], e⟩
  | t :: ts, d :: ds, ρ, ρ', h, i, fl, d', e => by
    unfold bindTs at h
    obtain ⟨ρ1, h1, h2⟩ := bind_some (show (bindT t .val d ρ).bind _ = some _ from h)
    obtain ⟨a1, a2⟩ := bindTs_val h2 e
    obtain ⟨b1, b2⟩ := bindT_val h1 a2
    exact ⟨by simp [ixss, a1, b1], b2⟩
  | [], _ :: _, ρ, ρ', h, i, fl, d', e => by unfold bindTs at h; cases h
  | _ :: _, [], ρ, ρ', h, i, fl, d', e => by unfold bindTs at h; cases h
end
section
variable {X : Cx} {pos : Pos}
theorem nil_b : SndB X [] (fun ρ => some (.next, ρ)) := fun z fl ρ' R e D f => by
  cases e
  exact PSs.rn pss_nil (f z (Stp.refl R) rfl)
theorem cons_b {st : Stmt} {rest : List Stmt} {f g : Env → Option (Flow × Env)} (h1 : SndS X st f) (h2 : SndB X rest g) : SndB X (st :: rest) (fun ρ => thenS (f ρ) g) := fun z fl ρ' R e D fin => by
  obtain ⟨⟨f1, ρ1⟩, e1, e2⟩ := bind_some (show (f z.ρ).bind _ = some _ from e)
  refine PSs.rn (pss_cons prs prb) (h1 z f1 ρ1 R e1 _ ?_)
  cases f1 with
  | next => exact fun z1 s1 er1 => h2 z1 fl ρ' s1.rel (by rw [er1]; exact e2) D (fin.step R s1)
  | brk => cases e2; exact fin
  | cnt => cases e2; exact fin
  | ret r => cases e2; exact fin
theorem pass_s : SndS X (.Pass pos) (fun ρ => some (.next, ρ)) := fun z fl ρ' R e D f => by
  cases e
  exact PS.rn ps_pass (f z (Stp.refl R) rfl)
theorem retN_s : SndS X (.Return none pos) (fun ρ => some (.ret (.val .none), ρ)) := fun z fl ρ' R e D f => by
  cases e
  exact PS.rn ps_retN (f _ z [] (Stp.refl R) rfl (Tmp.ofRep .non))
theorem ret_s {e : Expr} {r : R3} (h : Snd X e r) {z : Z} {fl : Flow} {ρ' : Env} (R : Rel X.K z) (e1 : ((r.v z.ρ).bind fun q => some (Flow.ret q.1, q.2)) = some (fl, ρ')) {D : Ends} (f : Fin' X.K z D fl ρ') : RunsS X (.Return (some e) pos) D z.σ z.H := by
  obtain ⟨⟨r1, ρ1⟩, h1, e2⟩ := bind_some e1
  cases e2
  exact PS.rn (ps_ret pr) (h.v z r1 _ R h1 _ fun u z' T s er es t => f u z' T s er t)
/-- a local's tree is handed back -/
theorem move_ok {K : PySem.W.Frag} {z : Z} (R : Rel K z) {i : Nat} {m : MV} (h : z.ρ[i]? = some (.own m)) : ∃ v, z.σ[i]? = some (some v) ∧ Stp K z { z with ρ := z.ρ.set i .unset, TS := z.TS.up i [] } ∧ Tmp K z { z with ρ := z.ρ.set i .unset, TS := z.TS.up i [] } m v (z.TS i) := by
  obtain ⟨o, eo, ro⟩ := R.slot i _ h
  obtain ⟨v, rfl, ow⟩ := ownS_get (b := true) ro
  have hup : ∀ (j : Nat) (a : Addr), a ∈ z.TS.up i [] j → j ≠ i ∧ a ∈ z.TS j := fun j a ha => by
    by_cases e : j = i
    · subst e; rw [TSet.up_same] at ha; cases ha
    · rw [TSet.up_ne e] at ha; exact ⟨e, ha⟩
  have lk : ∀ j, Lk (z.ρ.set i .unset) j ↔ Lk z.ρ j := fun j => by
    by_cases e : j = i
    · subst e
      constructor
      · rintro ⟨m, q⟩; rw [set_self h] at q; cases q
      · rintro ⟨m, q⟩; rw [h] at q; cases q
    · exact ⟨fun ⟨m, q⟩ => ⟨m, by rw [set_ne e] at q; exact q⟩, fun ⟨m, q⟩ => ⟨m, by rw [set_ne e]; exact q⟩⟩
  have sS : ∀ a, (Z.S { z with ρ := z.ρ.set i .unset, TS := z.TS.up i [] }) a → z.S a := fun a ⟨j, hj, n⟩ => ⟨j, (hup j a hj).2, fun q => n ((lk j).mpr q)⟩
  refine ⟨v, eo, ?_, ⟨ow, R.nd i, fun b hb j hj => ?_, fun b hb => .inl (inS_of ⟨true, m, h⟩ hb)⟩⟩
  · refine Stp.build R ⟨fun _ _ e _ => e, fun _ q => .inl q, fun a q => .inl (sS a q), fun _ q _ => q, fun _ e => e⟩ ⟨by rw [List.length_set], fun j m' e => ?_, fun j m' e => ?_, fun j m' e => ?_, fun j m' e => ?_, fun j fl d e => ?_⟩ (by show (z.ρ.set i _).length = _; rw [List.length_set]; exact R.len) (fun j s e hb => ?_) (fun j fl d e => ?_) (fun j e => ?_) (fun j => ?_) (fun j k a hj hk => R.dj j k a (hup j a hj).2 (hup k a hk).2) R.trk
    · have hji : j ≠ i := fun q => by subst q; rw [h] at e; cases e
      exact ⟨(set_ne hji).trans e, rfl, TSet.up_ne hji⟩
    · rcases set_get e with ⟨_, e1⟩ | ⟨_, e1⟩
      · cases e1
      · exact e1
    · have hji : j ≠ i := fun q => by subst q; rw [h] at e; cases e
      exact ⟨m', (set_ne hji).trans e, rfl⟩
    · rcases set_get e with ⟨_, e1⟩ | ⟨_, e1⟩
      · cases e1
      · exact ⟨m', e1⟩
    · rcases set_get e with ⟨_, e1⟩ | ⟨_, e1⟩
      · cases e1
      · exact ⟨e1, rfl⟩
    · show ∃ o, z.σ[j]? = some o ∧ SlotR K z.A _ z.H s o (z.TS.up i [] j)
      rcases set_get e with ⟨e0, rfl⟩ | ⟨hji, e1⟩
      · subst e0; rw [TSet.up_same]; exact ⟨_, eo, .unset⟩
      · rw [TSet.up_ne hji]
        obtain ⟨o', e2, r⟩ := R.slot j s e1
        exact ⟨o', e2, r.anyS hb⟩
    · rcases set_get e with ⟨_, e1⟩ | ⟨hji, e1⟩
      · cases e1
      · show z.TS.up i [] j = []
        rw [TSet.up_ne hji]
        obtain ⟨o', e2, r⟩ := R.slot j _ e1
        generalize z.TS j = Tj at r
        cases r with | bor _ => rfl
    · show z.TS.up i [] j = []
      by_cases hji : j = i
      · subst hji; rw [TSet.up_same]
      · rw [TSet.up_ne hji]; exact R.out j (set_none.mp e)
    · show (z.TS.up i [] j).Nodup
      by_cases hji : j = i
      · subst hji; rw [TSet.up_same]; exact List.nodup_nil
      · rw [TSet.up_ne hji]; exact R.nd j
  · obtain ⟨hji, hj⟩ := hup j b hj
    exact hji (R.dj j i b hj hb)
theorem expr_s {e : Expr} {r : R3} (h : Snd X e r) (hs : swapsWith e none pos.line X.env = pure false) : SndS X (.Expr e pos) (fun ρ => (r.v ρ).bind fun q => some (.next, q.2)) := fun z fl ρ' R e1 D f => by
  obtain ⟨⟨r1, ρ1⟩, h1, e2⟩ := bind_some (show (r.v z.ρ).bind _ = some _ from e1)
  cases e2
  refine PS.rn (ps_expr pr hs) (h.v z r1 _ R h1 _ fun u z' T s er es t => ?_)
  rw [← es]
  exact f (z'.drop T) (s.drop R t) er
theorem if_s {c : Expr} {rc : R3} {a b : List Stmt} {fa fb : Env → Option (Flow × Env)} (hc : Snd X c rc) (ha : SndB X a fa) (hb : SndB X b fb) : SndS X (.If c a b pos) (fun ρ => (rc.t ρ).bind fun q => if q.1 then fa q.2 else fb q.2) := fun z fl ρ' R e1 D f => by
  obtain ⟨⟨b1, ρ1⟩, h1, e2⟩ := bind_some (show (rc.t z.ρ).bind _ = some _ from e1)
  refine PS.rn (ps_if prt prb prb) (hc.t z b1 ρ1 R h1 _ fun z1 s1 er1 es1 => ?_)
  rw [← es1]
  cases b1 with
  | true => exact ha z1 fl ρ' s1.rel (by rw [er1]; exact e2) D (f.step R s1)
  | false => exact hb z1 fl ρ' s1.rel (by rw [er1]; exact e2) D (f.step R s1)

/-- a name is given a value just made -/
theorem set_ok {K : PySem.W.Frag} {z z1 : Z} (R : Rel K z) (s : Stp K z z1) {r : MV} {u : V} {T : List Addr} (t : Tmp K z z1 r u T) {i : Nat} {ρ2 : Env} (h : putVar i (.own r) z1.ρ = some ρ2) : Stp K z (z1.bnd i (.own r) u T) ∧ (z1.bnd i (.own r) u T).ρ = ρ2 := by
  obtain ⟨e1, sl, ht, nl, ni⟩ := putVar_ok h
  subst e1
  have hil : i < z1.σ.length := by rw [← s.rel.len]; exact (List.getElem?_eq_some_iff.mp ht).1
  have lk : ∀ j, Lk (z1.ρ.set i (.own r)) j ↔ Lk z1.ρ j := fun j => by
    by_cases e : j = i
    · subst e
      constructor
      · rintro ⟨m, q⟩; rw [set_self ht] at q; cases q
      · rintro ⟨m, q⟩; rw [ht] at q; exact absurd (Option.some.inj q) (nl m)
    · exact ⟨fun ⟨m, q⟩ => ⟨m, by rw [set_ne e] at q; exact q⟩, fun ⟨m, q⟩ => ⟨m, by rw [set_ne e]; exact q⟩⟩
  have sS : ∀ a, (z1.bnd i (.own r) u T).S a → z1.S a ∨ a ∈ T := fun a ⟨j, hj, n⟩ => by
    have hj : a ∈ z1.TS.up i T j := hj
    by_cases e : j = i
    · subst e; rw [TSet.up_same] at hj; exact .inr hj
    · rw [TSet.up_ne e] at hj; exact .inl ⟨j, hj, fun q => n ((lk j).mpr q)⟩
  have fr : Fr z.A z.S z.H (z1.bnd i (.own r) u T).A (z1.bnd i (.own r) u T).S (z1.bnd i (.own r) u T).H := ⟨s.fr.keep, s.fr.newA, fun a q => by
    rcases sS a q with q | q
    · exact s.fr.newS a q
    · exact t.new a q, s.fr.keepA, s.fr.there⟩
  have kx := bnd_kp (z := z1) (s := .own r) (v := u) (T := T) hil ht nl ni (fun m e => (by cases e)) (fun m e => (by cases e))
  refine ⟨Stp.build R fr ⟨kx.len.trans s.kp.len, fun j m e => ?_, fun j m e => s.kp.lckB j m (kx.lckB j m e), fun j m e => ?_, fun j m e => ?_, fun j fl d e => ?_⟩ ?_ (fun j s' e hb => ?_) (fun j fl d e => ?_) (fun j e => ?_) (fun j => ?_) (fun j k a hj hk => ?_) s.rel.trk, rfl⟩
  · obtain ⟨h1, h2, h3⟩ := s.kp.lck j m e
    obtain ⟨g1, g2, g3⟩ := kx.lck j m h1
    exact ⟨g1, g2.trans h2, g3.trans h3⟩
  · obtain ⟨m1, h1, h2⟩ := s.kp.io j m e
    obtain ⟨m2, g1, g2⟩ := kx.io j m1 h1
    exact ⟨m2, g1, g2.trans h2⟩
  · obtain ⟨m1, h1⟩ := kx.ioB j m e
    exact s.kp.ioB j m1 h1
  · have e' : (z1.ρ.set i (.own r))[j]? = some (Slot.bor fl d) := e
    have hji : j ∉ [i] := fun w => by
      have : j = i := by simpa using w
      subst this; rw [set_self ht] at e'; cases e'
    obtain ⟨g1, g2⟩ := kx.bor j fl d hji e
    obtain ⟨h1, h2⟩ := s.kp.bor j fl d g1
    exact ⟨h1, g2.trans h2⟩
  · show (z1.ρ.set i _).length = (z1.σ.set i _).length
    rw [List.length_set, List.length_set]; exact s.rel.len
  · show ∃ o, (z1.σ.set i (some u))[j]? = some o ∧ SlotR K z1.A _ z1.H s' o (z1.TS.up i T j)
    rw [sset_get hil]
    rcases set_get e with ⟨e0, rfl⟩ | ⟨hji, e1⟩
    · subst e0
      rw [if_pos rfl, TSet.up_same]
      exact ⟨_, rfl, .own t.own⟩
    · rw [if_neg hji, TSet.up_ne hji]
      obtain ⟨o, e2, r'⟩ := s.rel.slot j s' e1
      exact ⟨o, e2, r'.anyS hb⟩
  · rcases set_get e with ⟨_, e1⟩ | ⟨hji, e1⟩
    · cases e1
    · show z1.TS.up i T j = []
      rw [TSet.up_ne hji]
      obtain ⟨o, e2, r'⟩ := s.rel.slot j _ e1
      generalize z1.TS j = Tj at r'
      cases r' with | bor _ => rfl
  · have e1 : z1.ρ[j]? = none := set_none.mp e
    have hji : j ≠ i := fun q => by subst q; rw [ht] at e1; cases e1
    show z1.TS.up i T j = []
    rw [TSet.up_ne hji]; exact s.rel.out j e1
  · show (z1.TS.up i T j).Nodup
    by_cases hji : j = i
    · subst hji; rw [TSet.up_same]; exact t.nd
    · rw [TSet.up_ne hji]; exact s.rel.nd j
  · have hj : a ∈ z1.TS.up i T j := hj
    have hk : a ∈ z1.TS.up i T k := hk
    by_cases hji : j = i
    · by_cases hki : k = i
      · rw [hji, hki]
      · rw [hji, TSet.up_same] at hj; rw [TSet.up_ne hki] at hk; exact absurd hk (t.apart a hj k)
    · by_cases hki : k = i
      · rw [hki, TSet.up_same] at hk; rw [TSet.up_ne hji] at hj; exact absurd hj (t.apart a hk j)
      · rw [TSet.up_ne hji] at hj; rw [TSet.up_ne hki] at hk; exact s.rel.dj j k a hj hk
theorem asg_s {x : Str} {pos' : Pos} {i : Nat} {e : Expr} {r : R3} (hN : X.N.Nodup) (hi : X.N[i]? = some x) (hx : Loc X.env.scope x) (hf : X.fn x = true ∨ X.env.scope.names.lookup x = some .local) (h : Snd X e r)
    (hs : swapsWith e (some (.Name x pos')) pos.line X.env = pure false) : SndS X (.Assign [.Name x pos'] e pos) (fun ρ => (r.v ρ).bind fun q => (putVar i (.own q.1) q.2).bind fun ρ2 => some (.next, ρ2)) := fun z fl ρ' R e1 D f => by
  obtain ⟨⟨r1, ρ1⟩, h1, e2⟩ := bind_some (show (r.v z.ρ).bind _ = some _ from e1)
  obtain ⟨ρ2, h2, e3⟩ := bind_some e2
  cases e3
  refine PS.rn (ps_set hN hi hx pr hs hf) (h.v z r1 ρ1 R h1 _ fun u z1 T s er es t => ?_)
  obtain ⟨s2, er2⟩ := set_ok R s t (by rw [er]; exact h2)
  have := f (z1.bnd i (.own r1) u T) s2 er2
  show D.nx (z.σ.set i (some u)) z1.H
  rw [← es]; exact this
theorem asgT_s {ts : List Tg} {es : List Expr} {k : Nat} {p : Pos} {e : Expr} {r : R3} (hN : X.N.Nodup) (hc : X.calm = true) (ht : TgOk X (.tup ts) (.Tuple es k p)) (h : Snd X e r) (hs : swapsWithSole [.Tuple es k p] e pos.line X.env = pure false) (hw : swappedStores [.Tuple es k p] e X.env = pure none) :
    SndS X (.Assign [.Tuple es k p] e pos) (fun ρ => (r.v ρ).bind fun q => (bindT (.tup ts) .val (freeze q.1) q.2).bind fun ρ2 => some (.next, ρ2)) := fun z fl ρ' R e1 D f => by
  obtain ⟨⟨r1, ρ1⟩, h1, e2⟩ := bind_some (show (r.v z.ρ).bind _ = some _ from e1)
  obtain ⟨ρ2, h2, e3⟩ := bind_some e2
  cases e3
  refine PS.rn (ps_asg pr prg hs hw rfl) (h.v z r1 ρ1 R h1 _ fun u z1 T s er es t => ?_)
  rw [← es]
  have sd := s.drop R t
  refine bind_ok hN hc ht (z1.drop T) .val (freeze r1) u _ _ sd.rel t.froze (by show bindT (.tup ts) .val (freeze r1) z1.ρ = _; rw [er]; exact h2) fun z2 s2 er2 eh2 ea2 sS2 hσ2 => ?_
  refine f z2 ?_ er2
  -- nothing is borrowed: all is kept data
  have nb : ∀ i ∈ ixs (.tup ts), i ∈ ([] : List Nat) ∨ ∀ fl d, z2.ρ[i]? ≠ some (Slot.bor fl d) := fun i hi => .inr fun fl d e => by
    rw [er2] at e
    exact (bindT_val h2 e).1 hi
  have s3 := clrL_ok (ts := ixs (.tup ts)) (z := z) [] z2 (sd.x.trans R s2) nb
  exact s3
end
end Q
set_option maxHeartbeats 1000000
namespace Q
open PySem L2 PyProof.Rows
section
variable {K : PySem.W.Frag} {z z1 : Z}
theorem Owns.snoc {A : AP} {H : Hp} {r : MV} {y : V} {T6 : List Addr} (o2 : Own K A H r y T6) : ∀ {ms : List MV} {us : List V} {S0 : List Addr}, Owns K A H ms us S0 → Owns K A H (ms ++ [r]) (us ++ [y]) (S0 ++ T6)
  | _, _, _, .nil => by have := Owns.cons o2 Owns.nil; rw [List.append_nil] at this; exact this
  | _, _, _, .cons a b => by rw [List.append_assoc]; exact Owns.cons a (Owns.snoc o2 b)
theorem Owns.setAt {A : AP} {H : Hp} {r : MV} {y : V} {T6 : List Addr} (o2 : Own K A H r y T6) : ∀ {ms : List MV} {us : List V} {S0 : List Addr} (k : Nat), Owns K A H ms us S0 → ∃ S1, Owns K A H (ms.set k r) (us.set k y) S1 ∧ (S0.Nodup → T6.Nodup → (∀ a ∈ S0, a ∉ T6) → S1.Nodup) ∧ ∀ a ∈ S1, a ∈ S0 ∨ a ∈ T6
  | _, _, _, _, .nil => ⟨[], .nil, fun _ _ _ => List.nodup_nil, fun _ h => (nomatch h)⟩
  | _, _, _, 0, .cons (T := T) (T' := T') a b => by
    refine ⟨T6 ++ T', .cons o2 b, fun h1 h2 h3 => ?_, fun x hx => ?_⟩
    · have := List.nodup_append.mp h1
      exact List.nodup_append.mpr ⟨h2, this.2.1, fun x hx w hw e => h3 x (List.mem_append_right _ (e ▸ hw)) hx⟩
    · rcases List.mem_append.mp hx with h | h
      · exact .inr h
      · exact .inl (List.mem_append_right _ h)
  | _, _, _, k + 1, .cons (T := T) (T' := T') a b => by
    obtain ⟨S1, h1, h2, h3⟩ := Owns.setAt o2 k b
    refine ⟨T ++ S1, .cons a h1, fun g1 g2 g3 => ?_, fun x hx => ?_⟩
    · have gg := List.nodup_append.mp g1
      refine List.nodup_append.mpr ⟨gg.1, h2 gg.2.1 g2 fun x hx => g3 x (List.mem_append_right _ hx), fun x hx w hw e => ?_⟩
      subst e
      rcases h3 x hw with q | q
      · exact gg.2.2 x hx x q rfl
      · exact g3 x (List.mem_append_left _ hx) q
    · rcases List.mem_append.mp hx with h | h
      · exact .inl (List.mem_append_left _ h)
      · rcases h3 x h with q | q
        · exact .inl (List.mem_append_right _ q)
        · exact .inr q
end

section
variable {X : Cx} {pos : Pos}
/-- a list of one's own at a name -/
theorem own_list {K : PySem.W.Frag} {z : Z} (R : Rel K z) {i : Nat} {b : Bool} {ms : List MV} (h : z.ρ[i]? = some (ownS b (.lst ms))) : ∃ a xs T0, z.σ[i]? = some (some (.ref a)) ∧ z.TS i = a :: T0 ∧ z.H a = some (.lst xs) ∧ z.A a ∧ Owns K z.A z.H ms xs T0 := by
  obtain ⟨o, eo, ro⟩ := R.slot i _ h
  obtain ⟨v, rfl, ow⟩ := ownS_get ro
  generalize hT : z.TS i = T at ow
  cases ow with
  | lst h1 h2 h3 => exact ⟨_, _, _, eo, rfl, h1, h2, h3⟩
theorem isLstAt_ok {x : Nat} {ρ : Env} (h : isLstAt x ρ = true) : ∃ b ms, ρ[x]? = some (ownS b (.lst ms)) := by
  unfold isLstAt at h
  split at h
  · rename_i ms e; exact ⟨true, ms, e⟩
  · rename_i ms e; exact ⟨false, ms, e⟩
  · cases h
theorem appItem_ok {x : Nat} {r : MV} {ρ ρ' : Env} (h : appItem x r ρ = some ρ') : ∃ b ms, ρ[x]? = some (ownS b (.lst ms)) ∧ ms.length < sizeLine ∧ ρ' = ρ.set x (ownS b (.lst (ms ++ [r]))) := by
  unfold appItem at h
  split at h
  · rename_i ms e
    split at h
    · rename_i hl; cases h; exact ⟨true, ms, e, hl, rfl⟩
    · cases h
  · rename_i ms e
    split at h
    · rename_i hl; cases h; exact ⟨false, ms, e, hl, rfl⟩
    · cases h
  · cases h
theorem app_s {x : Str} {i : Nat} {p apos cpos : Pos} {e : Expr} {r : R3} (pv : PE X (.Name x p) (tVar i)) (hn : notSt e = true) (h : Snd X e r)
    (hbm : ∀ {t : TA}, PA X [e] t → PE X (.Call (.Attribute (.Name x p) "append" apos) [e] [] cpos) (tBM X.K "list" rAppend (tVar i) t)) :
    SndS X (.Expr (.Call (.Attribute (.Name x p) "append" apos) [e] [] cpos) pos) (fun ρ => if isLstAt i ρ then (r.v ρ).bind fun q => (appItem i q.1 q.2).bind fun ρ2 => some (.next, ρ2) else none) := fun z fl ρ' R e1 D f => by
  dsimp only at e1
  split at e1
  rotate_left
  · cases e1
  rename_i hl0
  obtain ⟨b0, ms0, hs0⟩ := isLstAt_ok hl0
  obtain ⟨a0, xs0, T00, g1, g2, g3, g4, g5⟩ := own_list R hs0
  obtain ⟨⟨r1, ρ1⟩, h1, e2⟩ := bind_some e1
  obtain ⟨ρ2, h2, e3⟩ := bind_some e2
  cases e3
  refine PS.rn (ps_expr (hbm (pa_cons pr pa_nil (notSt_ok hn _ _))) rfl) ⟨.ref a0, g1, .inl ⟨rfl, _, .inl (.inl g3)⟩, ?_⟩
  refine h.v z r1 ρ1 R h1 _ fun u z1 T s er es t => ?_
  obtain ⟨b, ms, hs, hlen, eρ⟩ := appItem_ok (show appItem i r1 ρ1 = some _ from h2)
  have hs : z1.ρ[i]? = some (ownS b (.lst ms)) := by rw [er]; exact hs
  obtain ⟨a, xs, T0, k1, k2, k3, k4, k5⟩ := own_list s.rel hs
  have k1' := k1
  have ea : a = a0 := by
    rw [es, g1] at k1
    cases k1; rfl
  subst ea
  refine ⟨a, xs, u, rfl, rfl, k3, by rw [k5.length]; exact hlen, ?_⟩
  have up : ∀ c o, c ≠ a → z1.H c = some o → upd z1.H a (.lst (xs ++ [u])) c = some o := fun c o n e => by rw [upd_ne n]; exact e
  have ndi := s.rel.nd i
  rw [k2] at ndi
  have nd0 := List.nodup_cons.mp ndi
  have aT : a ∉ T := fun w => t.apart a w i (by rw [k2]; exact List.mem_cons_self)
  have dT : ∀ c ∈ T0, c ∉ T := fun c hc w => t.apart c w i (by rw [k2]; exact List.mem_cons_of_mem _ hc)
  have own2 : Own X.K z1.A (upd z1.H a (.lst (xs ++ [u]))) (.lst (ms ++ [r1])) (.ref a) (a :: (T0 ++ T)) := by
    refine .lst upd_same k4 (Owns.snoc ?_ ?_)
    · exact t.own.step (fun c o e n => up c o (fun w => n (w ▸ k4)) e) (fun c w => .inl w) fun c hc => ⟨fun o e => up c o (fun w => aT (w ▸ hc)) e, (t.own.sub c hc).1⟩
    · exact k5.step (fun c o e n => up c o (fun w => n (w ▸ k4)) e) (fun c w => .inl w) fun c hc => ⟨fun o e => up c o (fun w => nd0.1 (w ▸ hc)) e, (k5.sub c hc).1⟩
  have s2 := put2_ok R s (H := upd z1.H a (.lst (xs ++ [u]))) hs k1' own2 ?_ ?_ ?_ ?_ ?_
  · have := f _ s2 (by show z1.ρ.set i _ = _; rw [er, eρ])
    show D.nx z.σ _
    rw [← es]; exact this
  · refine List.nodup_cons.mpr ⟨fun w => ?_, List.nodup_append.mpr ⟨nd0.2, t.nd, fun x hx w hw e => dT x hx (e ▸ hw)⟩⟩
    rcases List.mem_append.mp w with w | w
    · exact nd0.1 w
    · exact aT w
  · intro c hc j hj w
    rcases List.mem_cons.mp hc with rfl | hc
    · exact hj (s.rel.dj j i c w (by rw [k2]; exact List.mem_cons_self))
    · rcases List.mem_append.mp hc with hc | hc
      · exact hj (s.rel.dj j i c w (by rw [k2]; exact List.mem_cons_of_mem _ hc))
      · exact t.apart c hc j w
  · exact fun c o e n => up c o (fun w => n (by rw [k2, w]; exact List.mem_cons_self)) e
  · intro c e
    by_cases hc : c = a
    · rw [hc, upd_same] at e; cases e
    · rw [upd_ne hc] at e; exact e
  · intro c hc
    rcases List.mem_cons.mp hc with rfl | hc
    · exact .inr (.inr (by rw [k2]; exact List.mem_cons_self))
    · rcases List.mem_append.mp hc with hc | hc
      · exact .inr (.inr (by rw [k2]; exact List.mem_cons_of_mem _ hc))
      · rcases t.new c hc with w | w
        · exact .inl w
        · exact .inr (.inl w)
theorem setItem_ok {x : Nat} {k : Int} {r : MV} {ρ ρ' : Env} (h : setItem x k r ρ = some ρ') : ∃ b ms n, ρ[x]? = some (ownS b (.lst ms)) ∧ ixN ms.length k = some n ∧ ρ' = ρ.set x (ownS b (.lst (ms.set n r))) := by
  unfold setItem at h
  split at h
  · rename_i ms e
    obtain ⟨n, h1, h2⟩ := bind_some h
    cases h2
    exact ⟨true, ms, n, e, h1, rfl⟩
  · rename_i ms e
    obtain ⟨n, h1, h2⟩ := bind_some h
    cases h2
    exact ⟨false, ms, n, e, h1, rfl⟩
  · cases h
theorem setI_s {x : Str} {i : Nat} {p tp : Pos} {e ix : Expr} {r ri : R3} (pv : PE X (.Name x p) (tVar i)) (h : Snd X e r) (hi : Snd X ix ri) (hsl : notSl ix = true)
    (hsw : swapsWithSole [.Subscript (.Name x p) ix tp] e pos.line X.env = pure false) (hst : swappedStores [.Subscript (.Name x p) ix tp] e X.env = pure none)
    (hasg : ∀ v, assign (.Subscript (.Name x p) ix tp) X.env v = (do
      let ov ← holding [v] (eval (.Name x p) X.env)
      let iv ← holding [v, ov] (eval ix X.env)
      standAt tp
      holding [v, ov, iv] (PySem.setItem ov iv v)
      release [v, ov, iv] [])) :
    SndS X (.Assign [.Subscript (.Name x p) ix tp] e pos) (fun ρ => (r.v ρ).bind fun q => if isLstAt i q.2 then (ri.v q.2).bind fun q2 => (intOf q2.1).bind fun k => (setItem i k q.1 q2.2).bind fun ρ2 => some (.next, ρ2) else none) := fun z fl ρ' R e1 D f => by
  obtain ⟨⟨r1, ρ1⟩, h1, e2⟩ := bind_some (show (r.v z.ρ).bind _ = some _ from e1)
  dsimp only at e2
  split at e2
  rotate_left
  · cases e2
  rename_i hl0
  obtain ⟨⟨r2, ρ2⟩, h2, e3⟩ := bind_some e2
  obtain ⟨k, h3, e4⟩ := bind_some e3
  obtain ⟨ρ3, h4, e5⟩ := bind_some e4
  cases e5
  obtain ⟨b, ms, n, hs, hix, eρ⟩ := setItem_ok (show setItem i k r1 ρ2 = some _ from h4)
  refine PS.rn (ps_asg pr (pg_sub pv pr set_list hasg) hsw hst rfl) (h.v z r1 ρ1 R h1 _ fun u z1 T s er es t => ?_)
  obtain ⟨b0, ms0, hs0⟩ := isLstAt_ok hl0
  obtain ⟨a0, xs0, T00, g1, g2, g3, g4, g5⟩ := own_list s.rel (show z1.ρ[i]? = some (ownS b0 (.lst ms0)) by rw [er]; exact hs0)
  refine ⟨.ref a0, by rw [← es]; exact g1, ?_⟩
  rw [← es]
  refine hi.v z1 r2 ρ2 s.rel (by rw [er]; exact h2) _ fun u2 z2 T2 s2 er2 es2 t2 => ?_
  have sd := s2.drop s.rel t2
  have hh := t2.froze
  rw [show r2 = MV.val (.int k) from intOf_some h3] at hh
  -- the value is kept meanwhile
  obtain ⟨nS, ap⟩ := keep_apart sd (fun c hc => (t.own.sub c hc).2) t.apart
  have town := t.own.fr s.rel.sub sd.fr nS
  have hs2 : (z2.drop T2).ρ[i]? = some (ownS b (.lst ms)) := by show z2.ρ[i]? = _; rw [er2]; exact hs
  obtain ⟨a, xs, T0, k1, k2, k3, k4, k5⟩ := own_list sd.rel hs2
  have k1' := k1
  have ea : a = a0 := by
    have k1 : z2.σ[i]? = some (some (.ref a)) := k1
    rw [es2, g1] at k1
    cases k1; rfl
  subst ea
  refine ⟨a, xs, k, n, rfl, hh.intv, k3, by rw [k5.length]; exact hix, ?_⟩
  have up : ∀ c o, c ≠ a → (z2.drop T2).H c = some o → upd (z2.drop T2).H a (.lst (xs.set n u)) c = some o := fun c o n e => by rw [upd_ne n]; exact e
  have ndi := sd.rel.nd i
  rw [k2] at ndi
  have nd0 := List.nodup_cons.mp ndi
  have aT : a ∉ T := fun w => ap a w i (by rw [k2]; exact List.mem_cons_self)
  have dT : ∀ c ∈ T0, c ∉ T := fun c hc w => ap c w i (by rw [k2]; exact List.mem_cons_of_mem _ hc)
  have o1 : Own X.K (z2.drop T2).A (upd (z2.drop T2).H a (.lst (xs.set n u))) r1 u T := town.step (fun c o e n => up c o (fun w => n (w ▸ k4)) e) (fun c w => .inl w) fun c hc => ⟨fun o e => up c o (fun w => aT (w ▸ hc)) e, (town.sub c hc).1⟩
  have o2 : Owns X.K (z2.drop T2).A (upd (z2.drop T2).H a (.lst (xs.set n u))) ms xs T0 := k5.step (fun c o e n => up c o (fun w => n (w ▸ k4)) e) (fun c w => .inl w) fun c hc => ⟨fun o e => up c o (fun w => nd0.1 (w ▸ hc)) e, (k5.sub c hc).1⟩
  obtain ⟨S1, q1, q2, q3⟩ := Owns.setAt o1 n o2
  have s3 := put2_ok R (s.trans R sd) (H := upd (z2.drop T2).H a (.lst (xs.set n u))) hs2 k1' (.lst upd_same k4 q1) ?_ ?_ ?_ ?_ ?_
  · have := f _ s3 (by show z2.ρ.set i _ = _; rw [er2, eρ])
    show D.nx z1.σ _
    rw [← es2]; exact this
  · refine List.nodup_cons.mpr ⟨fun w => ?_, q2 nd0.2 t.nd dT⟩
    rcases q3 a w with w | w
    · exact nd0.1 w
    · exact aT w
  · intro c hc j hj w
    rcases List.mem_cons.mp hc with rfl | hc
    · exact hj (sd.rel.dj j i c w (by rw [k2]; exact List.mem_cons_self))
    · rcases q3 c hc with hc | hc
      · exact hj (sd.rel.dj j i c w (by rw [k2]; exact List.mem_cons_of_mem _ hc))
      · exact ap c hc j w
  · exact fun c o e n => up c o (fun w => n (by rw [k2, w]; exact List.mem_cons_self)) e
  · intro c e
    by_cases hc : c = a
    · rw [hc, upd_same] at e; cases e
    · rw [upd_ne hc] at e; exact e
  · intro c hc
    rcases List.mem_cons.mp hc with rfl | hc
    · exact .inr (.inr (by rw [k2]; exact List.mem_cons_self))
    · rcases q3 c hc with hc | hc
      · exact .inr (.inr (by rw [k2]; exact List.mem_cons_of_mem _ hc))
      · rcases t.new c hc with w | w
        · exact .inl w
        · exact .inr (.inl w)

/-! ### a, b = e, f and x op= e -/
theorem par_s {x y : Str} {i j : Nat} {px py pt pt2 : Pos} {kt k2 : Nat} {a b : Expr} {ra rb : R3} (hN : X.N.Nodup) (hc : X.calm = true) (hi : X.N[i]? = some x) (hj : X.N[j]? = some y) (hij : i ≠ j) (hx : X.env.scope.names.lookup x = some .local) (hy : X.env.scope.names.lookup y = some .local)
    (hl : SndL X [a, b] [ra, rb]) (hw : swappedStores [.Tuple [.Name x px, .Name y py] kt pt] (.Tuple [a, b] k2 pt2) X.env = pure (some [x, y])) (hs : swapsWithSole [.Tuple [.Name x px, .Name y py] kt pt] (.Tuple [a, b] k2 pt2) pos.line X.env = pure false) :
    SndS X (.Assign [.Tuple [.Name x px, .Name y py] kt pt] (.Tuple [a, b] k2 pt2) pos) (fun ρ => (ra.v ρ).bind fun q => (rb.v q.2).bind fun q2 => (putVar i (.own q.1) q2.2).bind fun ρ1 => (putVar j (.own q2.1) ρ1).bind fun ρ2 => some (.next, ρ2)) := fun z fl ρ' R e1 D f => by
  obtain ⟨⟨r1, ρ1⟩, h1, e2⟩ := bind_some (show (ra.v z.ρ).bind _ = some _ from e1)
  obtain ⟨⟨r2, ρ2⟩, h2, e3⟩ := bind_some e2
  obtain ⟨ρ3, h3, e4⟩ := bind_some e3
  obtain ⟨ρ4, h4, e5⟩ := bind_some e4
  cases e5
  have hev : evs [ra, rb] z.ρ = some ([r1, r2], ρ2) := by
    show (ra.v z.ρ).bind _ = _
    rw [h1]
    show ((rb.v ρ1).bind _).bind _ = _
    rw [show rb.v ρ1 = some (r2, ρ2) from h2]
    rfl
  refine PS.rn (ps_par hc hN hi hj hij hx hy pra hw hs) (evs_ok hl z [r1, r2] ρ2 R hev _ fun us z1 T s er es t => ?_)
  obtain ⟨own, nd, ap, new⟩ := t
  cases own with
  | @cons _ u1 T1 _ _ TR o1 t1 =>
    cases t1 with
    | @cons _ u2 T2 _ _ TR2 o2 t2 =>
      cases t2
      rw [List.append_nil] at nd ap new
      have nda := List.nodup_append.mp nd
      have tm1 : Tmp X.K z z1 r1 u1 T1 := ⟨o1, nda.1, fun b hb => ap b (List.mem_append_left _ hb), fun b hb => new b (List.mem_append_left _ hb)⟩
      obtain ⟨sa, era⟩ := set_ok R s tm1 (i := i) (ρ2 := ρ3) (by rw [er]; exact h3)
      have tm2 : Tmp X.K z (z1.bnd i (.own r1) u1 T1) r2 u2 T2 := by
        refine ⟨o2, nda.2.1, fun b hb k hk => ?_, fun b hb => new b (List.mem_append_right _ hb)⟩
        have hk : b ∈ z1.TS.up i T1 k := hk
        by_cases e : k = i
        · rw [e, TSet.up_same] at hk; exact nda.2.2 b hk b hb rfl
        · rw [TSet.up_ne e] at hk; exact ap b (List.mem_append_right _ hb) k hk
      obtain ⟨sb, erb⟩ := set_ok R sa tm2 (i := j) (by rw [era]; exact h4)
      refine ⟨u1, u2, rfl, ?_⟩
      have := f _ sb erb
      rw [← es]; exact this
def setAll : L2.St → List Nat → List V → L2.St
  | σ, i :: is, u :: us => setAll (σ.set i (some u)) is us
  | σ, _, _ => σ
theorem putVars_len : ∀ {is : List Nat} {ms : List MV} {ρ ρ2 : Env}, putVars is ms ρ = some ρ2 → ms.length = is.length
  | [], [], _, _, _ => rfl
  | i :: is, m :: ms, ρ, ρ2, h => by
    obtain ⟨ρ3, h3, h⟩ := bind_some (show (putVar i (.own m) ρ).bind _ = some _ from h)
    simp [putVars_len h]
  | [], _ :: _, _, _, h => by cases h
  | _ :: _, [], _, _, h => by cases h
theorem puts_ok {K : PySem.W.Frag} {z : Z} (R : Rel K z) : ∀ (is : List Nat) (ms : List MV) (us : List V) (T : List Addr) (z1 : Z) (ρ2 : Env), Stp K z z1 → TmpS K z z1 ms us T → putVars is ms z1.ρ = some ρ2 → ∃ z2, Stp K z z2 ∧ z2.ρ = ρ2 ∧ z2.H = z1.H ∧ z2.σ = setAll z1.σ is us
  | [], [], us, T, z1, ρ2, s, t, h => by
    cases h
    cases us with
    | nil => exact ⟨z1, s, rfl, rfl, rfl⟩
    | cons _ _ => have := t.own.length; simp at this
  | [], _ :: _, us, T, z1, ρ2, s, t, h => by cases h
  | _ :: _, [], us, T, z1, ρ2, s, t, h => by cases h
  | i :: is, m :: ms, us, T, z1, ρ2, s, t, h => by
    obtain ⟨ρ3, h3, h⟩ := bind_some (show (putVar i (.own m) z1.ρ).bind _ = some _ from h)
    obtain ⟨own, nd, ap, new⟩ := t
    cases own with
    | @cons _ u1 T1 _ us TR o1 t1 =>
      have nda := List.nodup_append.mp nd
      have tm1 : Tmp K z z1 m u1 T1 := ⟨o1, nda.1, fun b hb => ap b (List.mem_append_left _ hb), fun b hb => new b (List.mem_append_left _ hb)⟩
      obtain ⟨sa, era⟩ := set_ok R s tm1 (i := i) (ρ2 := ρ3) h3
      have tm2 : TmpS K z (z1.bnd i (.own m) u1 T1) ms us TR := by
        refine ⟨t1, nda.2.1, fun b hb k hk => ?_, fun b hb => new b (List.mem_append_right _ hb)⟩
        have hk : b ∈ z1.TS.up i T1 k := hk
        by_cases e : k = i
        · rw [e, TSet.up_same] at hk; exact nda.2.2 b hk b hb rfl
        · rw [TSet.up_ne e] at hk; exact ap b (List.mem_append_right _ hb) k hk
      obtain ⟨z2, s2, er2, eh2, es2⟩ := puts_ok R is ms us TR (z1.bnd i (.own m) u1 T1) ρ2 sa tm2 (by rw [era]; exact h)
      exact ⟨z2, s2, er2, eh2, es2⟩
theorem gnames_ok (hN : X.N.Nodup) : ∀ {is : List Nat} {es : List Expr}, TgsOk X (is.map .name) es → ∀ (us : List V) (σ : L2.St) (H : Hp) (Q : L2.St → Hp → Prop), us.length = is.length → Q (setAll σ is us) H → RunsGs X es us σ H Q
  | [], es, h, us, σ, H, Q, hl, q => by
    have h : TgsOk X [] es := h
    cases h
    cases us with
    | nil => exact PGs.rn pgs_nil ⟨rfl, q⟩
    | cons _ _ => simp at hl
  | i :: is, es, h, us, σ, H, Q, hl, q => by
    have h : TgsOk X (.name i :: is.map .name) es := h
    cases h with
    | cons hn ht hts =>
      cases us with
      | nil => simp at hl
      | cons u us =>
        refine PGs.rn (pgs_cons prg prgs (by rw [star_assign hn]; rfl)) ⟨u, us, rfl, ?_⟩
        cases ht with
        | name hi hx hf => exact PG.rn (pg_name hN hi hx hf) (gnames_ok hN hts us _ H Q (by simpa using hl) q)
theorem parT_s {is : List Nat} {es vs : List Expr} {k k2 : Nat} {p p2 : Pos} {rs : List R3} (hN : X.N.Nodup) (hc : X.calm = true) (h8 : is.length ≤ 8) (ht : TgsOk X (is.map .name) es) (hl : SndL X vs rs) (hs : swapsWithSole [.Tuple es k p] (.Tuple vs k2 p2) pos.line X.env = pure false) (hw : swappedStores [.Tuple es k p] (.Tuple vs k2 p2) X.env = pure none) :
    SndS X (.Assign [.Tuple es k p] (.Tuple vs k2 p2) pos) (fun ρ => (evs rs ρ).bind fun q => (putVars is q.1 q.2).bind fun ρ2 => some (.next, ρ2)) := fun z fl ρ' R e1 D f => by
  obtain ⟨⟨ms, ρ1⟩, h1, e2⟩ := bind_some (show (evs rs z.ρ).bind _ = some _ from e1)
  obtain ⟨ρ2, h2, e3⟩ := bind_some e2
  cases e3
  have hml : ms.length = is.length := putVars_len h2
  refine PS.rn (ps_asg (pe_tup pra) prg hs hw rfl) (evs_ok hl z ms ρ1 R h1 _ fun us z1 T s er es' t => ?_)
  have hul : us.length = is.length := by rw [t.own.length, hml]
  refine ⟨by rw [hul]; exact Nat.le_trans h8 (by decide), fun a ha => ?_⟩
  obtain ⟨p1, p2'⟩ := ht.plain
  have hel : es.length = is.length := by have := ht.length; simpa using this.symm
  refine PG.rn (pg_tup hc prgs p1 p2') ⟨a, us, rfl, .inl (.inl upd_same), by rw [hul, hel], ?_⟩
  refine gnames_ok hN ht us _ _ _ hul ?_
  have up : ∀ b u, z1.H b = some u → (upd z1.H a (.tup us)) b = some u := fun b u e => by rw [upd_ne (ne_of_none e ha)]; exact e
  have sl := lay_ok (A := z1.A) (o := .tup us) s.rel ha (fun a q => .inl q) fun a q => q
  have t2 : TmpS X.K z (z1.lay z1.A a (.tup us)) ms us T := ⟨t.own.step (fun b o e _ => up b o e) sl.fr.newA fun b hb => ⟨fun o e => up b o e, (t.own.sub b hb).1⟩, t.nd, t.apart, t.new⟩
  obtain ⟨z2, s2, er2, eh2, es2⟩ := puts_ok R is ms us T _ _ (s.trans R sl) t2 (by show putVars is ms z1.ρ = _; rw [er]; exact h2)
  have := f z2 s2 er2
  rw [eh2, es2] at this
  rw [← es']; exact this
theorem par3_s {x y w : Str} {i j l : Nat} {px py pw pt pt2 : Pos} {kt k2 : Nat} {a b c : Expr} {rs : List R3} (hN : X.N.Nodup) (hc : X.calm = true) (hi : X.N[i]? = some x) (hj : X.N[j]? = some y) (hl : X.N[l]? = some w) (hij : i ≠ j) (hil : i ≠ l) (hjl : j ≠ l) (hx : X.env.scope.names.lookup x = some .local) (hy : X.env.scope.names.lookup y = some .local) (hw0 : X.env.scope.names.lookup w = some .local)
    (hL : SndL X [a, b, c] rs) (hw : swappedStores [.Tuple [.Name x px, .Name y py, .Name w pw] kt pt] (.Tuple [a, b, c] k2 pt2) X.env = pure (some [x, y, w])) (hs : swapsWithSole [.Tuple [.Name x px, .Name y py, .Name w pw] kt pt] (.Tuple [a, b, c] k2 pt2) pos.line X.env = pure false) :
    SndS X (.Assign [.Tuple [.Name x px, .Name y py, .Name w pw] kt pt] (.Tuple [a, b, c] k2 pt2) pos) (fun ρ => (evs rs ρ).bind fun q => (putVars [i, j, l] q.1 q.2).bind fun ρ2 => some (.next, ρ2)) := fun z fl ρ' R e1 D f => by
  obtain ⟨⟨ms, ρ1⟩, h1, e2⟩ := bind_some (show (evs rs z.ρ).bind _ = some _ from e1)
  obtain ⟨ρ2, h2, e3⟩ := bind_some e2
  cases e3
  have hml : ms.length = 3 := putVars_len h2
  refine PS.rn (ps_par3 hc hN hi hj hl hij hil hjl hx hy hw0 pra hw hs) (evs_ok hL z ms ρ1 R h1 _ fun us z1 T s er es t => ?_)
  have hul : us.length = 3 := by rw [t.own.length, hml]
  obtain ⟨z2, s2, er2, eh2, es2⟩ := puts_ok R [i, j, l] ms us T z1 _ s t (by rw [er]; exact h2)
  match us, hul with
  | [u1, u2, u3], _ =>
    refine ⟨u1, u2, u3, rfl, ?_⟩
    have := f z2 s2 er2
    rw [eh2, es2] at this
    rw [← es]; exact this
theorem putVar_flat {K : PySem.W.Frag} {z z1 : Z} (R : Rel K z) (s : Stp K z z1) {n : Int} {i : Nat} {ρ2 : Env} (h : putVar i (.own (.val (.int n))) z1.ρ = some ρ2) : Stp K z (z1.bnd i (.own (.val (.int n))) (.int n) []) ∧ (z1.bnd i (.own (.val (.int n))) (.int n) []).ρ = ρ2 :=
  set_ok R s (Tmp.ofRep (.int n)) h
def augOf : BOp → Operator := opOf
theorem aug_s {x : Str} {i : Nat} {p : Pos} {op : BOp} {e : Expr} {r : R3} (hN : X.N.Nodup) (hi : X.N[i]? = some x) (hx : Loc X.env.scope x) (hf : X.fn x = true ∨ X.env.scope.names.lookup x = some .local) (h : Snd X e r) :
    SndS X (.AugAssign (.Name x p) (opOf op) e pos) (fun ρ => match ρ[i]? with
      | some (.own (.val (.int n))) => (r.v ρ).bind fun q => (intOf q.1).bind fun k => (augI op n k).bind fun r => (putVar i (.own (.val (.int r))) q.2).bind fun ρ2 => some (.next, ρ2)
      | _ => none) := fun z fl ρ' R e1 D f => by
  dsimp only at e1
  split at e1
  rotate_left
  · cases e1
  rename_i n hs
  obtain ⟨⟨r1, ρ1⟩, h1, e2⟩ := bind_some e1
  obtain ⟨k, h2, e3⟩ := bind_some e2
  obtain ⟨w, h3, e4⟩ := bind_some e3
  obtain ⟨ρ2, h4, e5⟩ := bind_some e4
  cases e5
  obtain ⟨o, eo, ro⟩ := R.slot i _ hs
  obtain ⟨v, rfl, ow⟩ := ownS_get (b := true) ro
  have hv : v = .int n := by
    generalize z.TS i = T at ow
    cases ow with | val q => exact q.intv
  subst hv
  have core : ∀ {ti : TIp}, PIp X (opOf op) ti → (∀ H Q, Q (.int w) H → ti (.int n) (.int k) H Q) → RunsS X (.AugAssign (.Name x p) (opOf op) e pos) D z.σ z.H := fun {ti} ho hti => by
    refine PS.rn (ps_aug hN hi hx pr ho hf) ⟨_, eo, h.v z r1 ρ1 R h1 _ fun u z1 T s er es t => ?_⟩
    have hh := t.froze
    rw [show r1 = MV.val (.int k) from intOf_some h2] at hh
    rw [hh.intv]
    refine hti _ _ ?_
    have sd := s.drop R t
    obtain ⟨s2, er2⟩ := putVar_flat (n := w) R sd (i := i) (by show putVar i _ z1.ρ = _; rw [er]; exact h4)
    have := f _ s2 er2
    show D.nx (z.σ.set i (some (.int w))) z1.H
    rw [← es]; exact this
  unfold augI at h3
  split at h3
  · cases h3; exact core ip_add fun H Q q => ⟨n, k, rfl, rfl, q⟩
  · cases h3; exact core ip_sub fun H Q q => ⟨n, k, rfl, rfl, q⟩
  · split at h3
    · rename_i hb
      cases h3
      simp only [big, Bool.and_eq_true, decide_eq_true_eq] at hb
      refine core (ti := rI CMul fun i j => .int (i * j)) (fun pins s σ H x y v u Q I rx ry hh => iop_mul pins s σ H x y v u Q I rx ry hh) fun H Q q => ⟨n, k, rfl, rfl, .inl ⟨by omega, by omega⟩, q⟩
    · cases h3
  · cases h3
end
end Q
set_option maxHeartbeats 1000000
namespace Q
open PySem L2 PyProof.Rows
section
variable {X : Cx} {pos : Pos}
/-- p[k] = e -/
theorem putT_s {a k e : Expr} {tp : Pos} {ra rk re : R3} (hu : X.A.units + 1 < cLine) (ha : Snd X a ra) (hk : Snd X k rk) (h : Snd X e re)
    (hsw : swapsWithSole [.Subscript a k tp] e pos.line X.env = pure false) (hst : swappedStores [.Subscript a k tp] e X.env = pure none)
    (hasg : ∀ v, assign (.Subscript a k tp) X.env v = (do
      let ov ← holding [v] (eval a X.env)
      let iv ← holding [v, ov] (eval k X.env)
      standAt tp
      holding [v, ov, iv] (PySem.setItem ov iv v)
      release [v, ov, iv] [])) :
    SndS X (.Assign [.Subscript a k tp] e pos) (fun ρ => (re.v ρ).bind fun r => (ra.q r.2).bind fun x => (keyE rk x.ρ).bind fun y => (putMV x.m y.1 r.1).bind fun m => if x.ls.isEmpty then none else (putPl x.i x.w m (unl x.ls y.2)).bind fun ρ2 => some (.next, ρ2)) := fun z fl ρ' R e1 D f => by
  obtain ⟨⟨r1, ρ1⟩, h1, e2⟩ := bind_some (show (re.v z.ρ).bind _ = some _ from e1)
  obtain ⟨x, h2, e3⟩ := bind_some e2
  obtain ⟨⟨k1, ρ2⟩, h3, e4⟩ := bind_some e3
  obtain ⟨m, h4, e5⟩ := bind_some e4
  dsimp only at e5
  split at e5
  · cases e5
  rename_i hm
  obtain ⟨ρ3, h5, e6⟩ := bind_some e5
  cases e6
  refine PS.rn (ps_asg pr (pg_sub pr pr (set_any hu) hasg) hsw hst rfl) (h.v z r1 ρ1 R h1 _ fun u z1 T s er es t => ?_)
  show RunsE X a z.σ z1.H _
  rw [← es]
  refine ha.q z1 x s.rel (by rw [er]; exact h2) _ fun u2 z2 p2 er2 es2 k2 => ?_
  show RunsE X k z1.σ z2.H _
  rw [← es2]
  refine key_ok hk p2.rel (by rw [er2]; exact h3) fun u3 z3 s3 er3 es3 k3 => ?_
  have sc := p2.close z3 s3
  obtain ⟨nS, ap⟩ := keep_apart sc (fun b hb => (t.own.sub b hb).2) t.apart
  have ow : Own X.K z3.A z3.H r1 u T := t.own.fr s.rel.sub sc.fr nS
  refine put_core R (s.pend R p2) s3 (k2.stp p2.rel s3) k3 ow t.nd ap t.new (by simpa using hm) h4 (by rw [er3]; exact h5) fun zf st e7 e8 => ?_
  have := f zf st e7
  show D.nx z2.σ zf.H
  rw [es2, es]
  rw [e8, es3, es2, es] at this
  exact this
theorem asg_sub2 {a k : Expr} {tp : Pos} (h : notSl k = true) (env : PySem.Env) (v : Value) : assign (.Subscript a k tp) env v = (do
      let ov ← holding [v] (eval a env)
      let iv ← holding [v, ov] (eval k env)
      standAt tp
      holding [v, ov, iv] (PySem.setItem ov iv v)
      release [v, ov, iv] []) := by
  cases k <;> first | (cases h; done) | rfl
end
end Q
set_option maxHeartbeats 1000000
namespace Q
open PySem L2 PyProof.Rows
section
variable {X : Cx} {pos : Pos}
/-- o.f = e -/
theorem fldT_s {a e : Expr} {tp : Pos} {ra re : R3} {c f : Str} (ha : Snd X a ra) (h : Snd X e re) (hn : ∀ C, KCls X.K c C → NoAttr X.K C f) (hsw : swapsWith e (some (.Attribute a f tp)) pos.line X.env = pure false) :
    SndS X (.Assign [.Attribute a f tp] e pos) (fun ρ => (re.v ρ).bind fun r => (ra.q r.2).bind fun x => (putF? c x.m f r.1).bind fun m => if x.ls.isEmpty then none else (putPl x.i x.w m (unl x.ls x.ρ)).bind fun ρ2 => some (.next, ρ2)) := fun z fl ρ' R e1 D ff => by
  obtain ⟨⟨r1, ρ1⟩, h1, e2⟩ := bind_some (show (re.v z.ρ).bind _ = some _ from e1)
  obtain ⟨x, h2, e3⟩ := bind_some e2
  obtain ⟨m, h4, e5⟩ := bind_some e3
  split at e5
  · cases e5
  rename_i hm
  obtain ⟨ρ3, h5, e6⟩ := bind_some e5
  cases e6
  refine PS.rn (ps_fld pr pr hsw) (h.v z r1 ρ1 R h1 _ fun u z1 T s er es t => ?_)
  rw [← es]
  refine ha.q z1 x s.rel (by rw [er]; exact h2) _ fun u2 z2 p2 er2 es2 k2 => ?_
  have sc := p2.close z2 (Stp.refl p2.rel)
  obtain ⟨nS, ap⟩ := keep_apart sc (fun b hb => (t.own.sub b hb).2) t.apart
  have ow : Own X.K z2.A z2.H r1 u T := t.own.fr s.rel.sub sc.fr nS
  have tr : isTree x.m = true := by
    unfold putF? at h4
    split at h4
    · rename_i e; rw [e]; rfl
    · cases h4
  obtain ⟨b, T0, rfl, oc, ndc, hA, dj, fin⟩ := node_core (Q := fun H => D.nx z1.σ H) R (s.pend R p2) (Stp.refl p2.rel) k2 t.nd ap t.new (by simpa using hm) tr (by rw [er2]; exact h5) fun zf st e7 e8 => by
    have := ff zf st e7
    rw [e8, es2] at this
    exact this
  have n1 := List.nodup_cons.mp ndc
  have dj0 : ∀ w ∈ T, w ∉ T0 := fun w hw g => dj w hw (List.mem_cons_of_mem _ g)
  have na : b ∉ T := fun g => dj b g List.mem_cons_self
  have nn : ∀ {T0' : List Addr}, (∀ w ∈ T0', w ∈ T0 ∨ w ∈ T) → b ∉ T0' := fun mem g => by
    rcases mem b g with g | g
    · exact n1.1 g
    · exact na g
  unfold putF? at h4
  split at h4
  rotate_left
  · cases h4
  rename_i c' fs ms em
  split at h4
  rotate_left
  · cases h4
  rename_i hc
  obtain ⟨rfl, hz⟩ := hc
  rw [em] at oc
  cases oc with | @nd _ _ o xs _ _ hH no _ om =>
  obtain ⟨hl, ndk, C, dx, kc, eo, cl, na2⟩ := no
  subst eo
  refine ⟨b, C, dx, fs.zip xs, rfl, hH, cl, hn C kc, by rw [List.length_zip]; exact Nat.lt_of_le_of_lt (Nat.min_le_left _ _) hz, ?_⟩
  rw [putF_zip hl]
  cases e : posOf f fs with
  | some n =>
    rw [e] at h4
    cases h4
    have hn2 : n < ms.length := by
      have := (List.getElem?_eq_some_iff.mp (posOf_some e)).1
      rw [← om.length]; omega
    obtain ⟨T2, o2, nd2, mem2⟩ := om.swap (List.getElem?_eq_getElem hn2) ow n1.2 t.nd dj0
    exact fin _ T2 (.nd upd_same ⟨by rw [List.length_set]; exact hl, ndk, C, dx, kc, rfl, cl, na2⟩ hA (o2.steps hA (nn mem2))) nd2 mem2
  | none =>
    rw [e] at h4
    cases h4
    have mem2 : ∀ w ∈ T0 ++ (T ++ []), w ∈ T0 ∨ w ∈ T := fun w hw => by simpa using hw
    have nd2 : (T0 ++ (T ++ [])).Nodup := List.nodup_append.mpr ⟨n1.2, by simpa using t.nd, fun x hx y hy e => dj0 y (by simpa using hy) (by rw [← e]; exact hx)⟩
    have o2 : Owns X.K z2.A z2.H (ms ++ [r1]) (xs ++ [u]) (T0 ++ (T ++ [])) := Owns.append om (.cons ow .nil)
    refine fin _ (T0 ++ (T ++ [])) (.nd upd_same ⟨by simp [hl], ?_, C, dx, kc, rfl, cl, fun g hg => ?_⟩ hA (o2.steps hA (nn mem2))) nd2 mem2
    · exact List.nodup_append.mpr ⟨ndk, by simp, fun x hx y hy e2 => posOf_none e (by rw [← List.mem_singleton.mp hy, ← e2]; exact hx)⟩
    · rcases List.mem_append.mp hg with hg | hg
      · exact na2 g hg
      · rw [List.mem_singleton.mp hg]; exact hn C kc
theorem sw_attr {v a : Expr} {f : Str} {p : Pos} {l : Nat} {env : PySem.Env} : swapsWith v (some (.Attribute a f p)) l env = pure false := by
  cases v <;> rfl
end
end Q
set_option maxHeartbeats 1000000
namespace Q
open PySem L2 PyProof.Rows
section
variable {X : Cx} {pos : Pos}
theorem for_s {tgE iter : Expr} {body : List Stmt} {tg : Tg} {fI : Env → Option (List D × Fl × Env × Lks)} {fb : Env → Option (Flow × Env)} (hp : PassesOwn (model X.prog X.w) X.A X.env X.xe) (hN : X.N.Nodup) (hc : X.calm = true) (hI : SndI X tgE iter fI) (hT : TgOk X tg tgE) (hb : SndB X body fb)
    (hset : ∀ x, foldedSetIterable iter X.env x = pure x) : SndS X (.For tgE iter body [] pos) (fun ρ => (fI ρ).bind fun q => (forL tg q.2.1 fb q.1 q.2.2.1).bind fun f => some (f.1, unl q.2.2.2 (clrT tg f.2))) := fun z flF ρ' R e1 D fin => by
  obtain ⟨⟨ds, fl, ρ1, ls⟩, h1, e2⟩ := bind_some (show (fI z.ρ).bind _ = some _ from e1)
  obtain ⟨⟨f0, ρF⟩, h2, e3⟩ := bind_some e2
  cases e3
  refine PS.rn (ps_for hp hc pri prg prb hset) (hI z ds fl ρ1 ls R h1 _ fun J z1 p1 er1 es1 it => ?_)
  obtain ⟨G, Y, w, hit⟩ := it.ex
  have R1 := p1.rel
  -- the end of the loop, from a state whose targets may be borrowed
  have close : ∀ z5, StpX X.K (ixs tg) z1 z5 → Stp X.K z ((z5.setR (clrT tg z5.ρ)).setR (unl ls (clrT tg z5.ρ))) := fun z5 s5 => by
    have := clrL_ok (K := X.K) (ts := ixs tg) (z := z1) (ixs tg) z5 s5 fun i hi => .inl hi
    rw [clrT_eq]
    exact p1.close _ this
  rw [← es1]
  refine for_it w (fun i σ H => ∃ zi, StpX X.K (ixs tg) z1 zi ∧ zi.σ = σ ∧ zi.H = H ∧ forL tg fl fb (ds.drop i) zi.ρ = some (f0, ρF)) ?_ (fun i σ H _ ⟨zi, s, _, eH, _⟩ => ?_) (fun i x σ H H' hi ⟨zi, s, eσ, eH, hr⟩ hy => ?_) fun σ H ⟨zn, s, eσ, eH, hr⟩ => ?_
  · refine ⟨z1, (Stp.refl R1).x, rfl, rfl, ?_⟩
    rw [List.drop_zero, er1]; exact h2
  · rw [← eH]; exact (hit zi s.rel s.fr).1
  · obtain ⟨d, hd⟩ : ∃ d, ds[i]? = some d := ⟨ds[i], List.getElem?_eq_getElem hi⟩
    have hdrop : ds.drop i = d :: ds.drop (i + 1) := by
      rw [List.drop_eq_getElem_cons hi]
      rw [List.getElem?_eq_getElem hi] at hd
      rw [Option.some.inj hd]
    rw [hdrop] at hr
    unfold forL at hr
    obtain ⟨ρt, g1, hr⟩ := bind_some hr
    obtain ⟨⟨fb1, ρb⟩, g2, hr⟩ := bind_some hr
    subst eσ eH
    obtain ⟨z3, s3, eH3, er3, es3, k3⟩ := (hit zi s.rel s.fr).2 i d x H' hd hy
    subst eH3
    rw [← es3]
    refine bind_ok hN hc hT z3 (childFl fl d) d x ρt _ s3.rel k3 (by rw [er3]; exact g1) fun z4 s4 er4 eh4 ea4 sS4 hσ4 => ?_
    have x4 : StpX X.K (ixs tg) z1 z4 := (s.step R1 s3).trans R1 s4
    refine hb z4 fb1 ρb s4.rel (by rw [er4]; exact g2) _ ?_
    cases fb1 with
    | next => exact fun z5 s5 er5 => ⟨z5, x4.step R1 s5, rfl, rfl, by rw [er5]; exact hr⟩
    | cnt => exact fun z5 s5 er5 => ⟨z5, x4.step R1 s5, rfl, rfl, by rw [er5]; exact hr⟩
    | brk =>
      cases hr
      intro z5 s5 er5
      exact fin ((z5.setR (clrT tg z5.ρ)).setR (unl ls (clrT tg z5.ρ))) (close z5 (x4.step R1 s5)) (by show unl ls (clrT tg z5.ρ) = _; rw [er5])
    | ret r =>
      cases hr
      intro v z5 T s5 er5 t5
      have x5 := x4.step R1 s5
      refine fin v ((z5.setR (clrT tg z5.ρ)).setR (unl ls (clrT tg z5.ρ))) T (close z5 x5) (by show unl ls (clrT tg z5.ρ) = _; rw [er5]) ⟨t5.own, t5.nd, t5.apart, fun b hb => ?_⟩
      have fr4 := p1.fr.trans R.trk x4.fr
      rcases t5.new b hb with q | q
      · exact fr4.newS b q
      · exact .inr (fr4.there b q)
  · subst eσ eH
    rw [List.drop_length] at hr
    unfold forL at hr
    cases hr
    exact fin ((zn.setR (clrT tg zn.ρ)).setR (unl ls (clrT tg zn.ρ))) (close zn s) rfl
theorem while_s {c : Expr} {rc : R3} {body : List Stmt} {fb : Env → Option (Flow × Env)} {n : Nat} (hp : PassesOwn (model X.prog X.w) X.A X.env X.xe) (hc : Snd X c rc) (hb : SndB X body fb) : SndS X (.While c body [] pos) (whileL rc fb n) := fun z flF ρF R e1 D fin => by
  refine PS.rn (ps_while hp prt prb) ⟨fun m σ H => ∃ zi, Stp X.K z zi ∧ zi.σ = σ ∧ zi.H = H ∧ whileL rc fb m zi.ρ = some (flF, ρF), ⟨n, z, Stp.refl R, rfl, rfl, e1⟩, fun m σ H ⟨zi, s, eσ, eH, hr⟩ => ?_⟩
  subst eσ eH
  cases m with
  | zero => unfold whileL at hr; cases hr
  | succ m =>
    unfold whileL at hr
    obtain ⟨⟨b, ρ1⟩, h1, hr⟩ := bind_some hr
    refine hc.t zi b ρ1 s.rel h1 _ fun z1 s1 er1 es1 => ?_
    have s01 := s.trans R s1
    cases b with
    | false =>
      cases hr
      rw [if_neg Bool.false_ne_true, ← es1]
      exact fin z1 s01 er1
    | true =>
      rw [if_pos rfl]
      obtain ⟨⟨fb1, ρb⟩, h2, hr⟩ := bind_some hr
      refine ⟨fun σ H => ∃ zi, Stp X.K z zi ∧ zi.σ = σ ∧ zi.H = H ∧ whileL rc fb m zi.ρ = some (flF, ρF), fun σ' H' h => ⟨m, Nat.lt_succ_self m, h⟩, ?_⟩
      rw [← es1]
      refine hb z1 fb1 ρb s1.rel (by rw [er1]; exact h2) _ ?_
      cases fb1 with
      | next => exact fun z5 s5 er5 => ⟨z5, s01.trans R s5, rfl, rfl, by rw [er5]; exact hr⟩
      | cnt => exact fun z5 s5 er5 => ⟨z5, s01.trans R s5, rfl, rfl, by rw [er5]; exact hr⟩
      | brk => cases hr; exact fun z5 s5 er5 => fin z5 (s01.trans R s5) er5
      | ret r => cases hr; exact fun v z5 T s5 er5 t5 => fin v z5 T (s01.trans R s5) er5 (t5.after s01.fr)
/-- name = [.. for ..] on one line -/
theorem asgLc_s {elt tgE iter : Expr} {cond : Option Expr} {scope : Scope} {lpos py : Pos} {y : Str} {i : Nat} {ownN : List (Str × Nat)} {tg : Tg} {fI : Env → Option (List D × Fl × Env × Lks)} {rc : Option R3} {re : R3} (hcalm : X.calm = true) (hN : X.N.Nodup) (hy : X.N[i]? = some y) (hyl : X.env.scope.names.lookup y = some .local)
    (hsw : swapsWith (.ListComp elt [⟨tgE, iter, cond.toList, 0⟩] scope lpos) (some (.Name y py)) pos.line X.env = pure true) (hI : SndI X tgE iter fI)
    (ok : BlkOk X.N X.env.scope scope ownN) (hT : ∀ s H C cl fp, TgOk (XB X scope s H C cl fp) tg tgE) (hix : ∀ i ∈ ixs tg, i ∈ ownN.map (·.2)) (hC : ∀ s H C cl fp, OptS (XB X scope s H C cl fp) cond rc) (hE : ∀ s H C cl fp, Snd (XB X scope s H C cl fp) elt re)
    (hset : ∀ x, foldedSetIterable iter X.env x = pure x) : SndS X (.Assign [.Name y py] (.ListComp elt [⟨tgE, iter, cond.toList, 0⟩] scope lpos) pos) (fun ρ => (evComp re tg fI rc (ownN.map (·.2)) ρ).bind fun q => (putVar i (.own q.1) q.2).bind fun ρ2 => some (.next, ρ2)) := fun z fl ρ' R e1 D f pins s0 I0 => by
  obtain ⟨⟨r1, ρ1⟩, h1, e2⟩ := bind_some (show (evComp re tg fI rc (ownN.map (·.2)) z.ρ).bind _ = some _ from e1)
  obtain ⟨ρ2, h2, e3⟩ := bind_some e2
  cases e3
  refine PS.rn (ps_setLc (i := i) (own := ownN) (g := bG X scope tgE) (tt := bT X scope cond) (te := bE X scope elt) hcalm hN hy hyl hsw pri ok (fun s H C cl fp => ⟨fun pins s' σ H' v u Q I rr hw => hw s H C cl fp pins s' u I rr⟩) comp_pts (fun s H C cl fp => ⟨fun pins s' σ H' Q I hw => hw s H C cl fp pins s' I⟩) hset)
    (comp_r s0 hcalm hN hI ok hT hix hC hE I0.len R h1 fun u z1 T s er es t => ?_) pins s0 I0
  obtain ⟨s2, er2⟩ := set_ok R s t (by rw [er]; exact h2)
  have := f (z1.bnd i (.own r1) u T) s2 er2
  show D.nx (z.σ.set i (some u)) z1.H
  rw [← es]; exact this
theorem asgLc2_s {elt tgE iter tg1E iter1 : Expr} {cond : Option Expr} {scope : Scope} {lpos py : Pos} {y : Str} {i : Nat} {ownN : List (Str × Nat)} {own own1 : List Nat} {tg tg1 : Tg} {fI : Env → Option (List D × Fl × Env × Lks)} {fJ : Env → Option (List D × Env)} {rc : Option R3} {re : R3} (hcalm : X.calm = true) (hN : X.N.Nodup) (hy : X.N[i]? = some y) (hyl : X.env.scope.names.lookup y = some .local)
    (hsw : swapsWith (.ListComp elt [⟨tgE, iter, [], 0⟩, ⟨tg1E, iter1, cond.toList, 0⟩] scope lpos) (some (.Name y py)) pos.line X.env = pure true) (hI : SndI X tgE iter fI)
    (ok : BlkOk X.N X.env.scope scope ownN) (ho : ownN.map (·.2) = own ++ own1) (hT : ∀ s H C cl fp, TgOk (XB X scope s H C cl fp) tg tgE) (hix : ∀ i ∈ ixs tg, i ∈ own) (hJ : ∀ s H C cl fp, SndJ (XB X scope s H C cl fp) tg1E iter1 fJ)
    (hT1 : ∀ s H C cl fp, TgOk (XB X scope s H C cl fp) tg1 tg1E) (hix1 : ∀ i ∈ ixs tg1, i ∈ own1) (hC : ∀ s H C cl fp, OptS (XB X scope s H C cl fp) cond rc) (hE : ∀ s H C cl fp, Snd (XB X scope s H C cl fp) elt re)
    (hset : ∀ x, foldedSetIterable iter X.env x = pure x) (hset1 : ∀ env x, foldedSetIterable iter1 env x = pure x) : SndS X (.Assign [.Name y py] (.ListComp elt [⟨tgE, iter, [], 0⟩, ⟨tg1E, iter1, cond.toList, 0⟩] scope lpos) pos) (fun ρ => (evComp2 re tg fI tg1 fJ rc own own1 ρ).bind fun q => (putVar i (.own q.1) q.2).bind fun ρ2 => some (.next, ρ2)) := fun z fl ρ' R e1 D f pins s0 I0 => by
  obtain ⟨⟨r1, ρ1⟩, h1, e2⟩ := bind_some (show (evComp2 re tg fI tg1 fJ rc own own1 z.ρ).bind _ = some _ from e1)
  obtain ⟨ρ2, h2, e3⟩ := bind_some e2
  cases e3
  obtain ⟨⟨ds, fl, ρ3, ls⟩, g1, e2⟩ := bind_some (show (fI z.ρ).bind _ = some _ from h1)
  dsimp only at e2
  split at e2
  · cases e2
  rename_i hfl
  obtain ⟨⟨rsF, ρF⟩, g2, e3⟩ := bind_some e2
  dsimp only at e3
  split at e3
  rotate_left
  · cases e3
  rename_i hlenF
  cases e3
  have hv : ∀ i ∈ own1, i ∈ ownN.map (·.2) := fun i hi => by rw [ho]; exact List.mem_append_right _ hi
  refine PS.rn (ps_setLc2 (i := i) (own := ownN) (vs1 := own1) (wi1 := bI X scope tg1E iter1) (g := bG X scope tgE) (g1 := bG X scope tg1E) (tt := bT X scope none) (tt1 := bT X scope cond) (te := bE X scope elt) hcalm hN hy hyl hsw pri ok hv (fun s H C cl fp => ⟨fun pins s' σ H' v u Q I rr hw => hw s H C cl fp pins s' u I rr⟩) (comp_pts (cond := none))
      (fun s H C cl fp => ⟨fun pins s' σ H' Q I hw => hw s H C cl fp pins s' I⟩) (fun s H C cl fp => ⟨fun pins s' σ H' v u Q I rr hw => hw s H C cl fp pins s' u I rr⟩) comp_pts (fun s H C cl fp => ⟨fun pins s' σ H' Q I hw => hw s H C cl fp pins s' I⟩) hset hset1)
    (comp2_r s0 hcalm hN hI ok hv hT (fun i hi => by rw [ho]; exact List.mem_append_left _ (hix i hi)) hJ hT1 hix1 hC hE I0.len R g1 hfl (by rw [ho]; exact g2) hlenF fun u z1 T s er es t => ?_) pins s0 I0
  obtain ⟨s2, er2⟩ := set_ok R s t (by rw [er, ho]; exact h2)
  have := f (z1.bnd i (.own (.lst rsF)) u T) s2 er2
  show D.nx (z.σ.set i (some u)) z1.H
  rw [← es]; exact this
end
end Q
set_option maxHeartbeats 2000000
namespace Q
open PySem L2 PyProof.Rows

/-! ### the look: an IR term is this piece of the text -/
def visB (sc : Scope) (x : Str) : Bool := match sc.names.lookup x with
  | some .local => true
  | some .cell => true
  | some .free => true
  | _ => false
def glB (sc : Scope) (x : Str) : Bool := match sc.names.lookup x with
  | some .globalImplicit => true
  | _ => false
def locB (sc : Scope) (x : Str) : Bool := match sc.names.lookup x with
  | some .local => true
  | some .cell => true
  | _ => false
def lclB (sc : Scope) (x : Str) : Bool := match sc.names.lookup x with
  | some .local => true
  | _ => false
theorem visB_ok {sc : Scope} {x : Str} (h : visB sc x = true) : Vis sc x := by
  unfold visB at h
  unfold Vis
  split at h <;> first | exact .inl (by assumption) | exact .inr (.inl (by assumption)) | exact .inr (.inr (by assumption)) | cases h
theorem glB_ok {sc : Scope} {x : Str} (h : glB sc x = true) : sc.names.lookup x = some .globalImplicit := by
  unfold glB at h
  split at h
  · assumption
  · cases h
theorem locB_ok {sc : Scope} {x : Str} (h : locB sc x = true) : L2.Loc sc x := by
  unfold locB at h
  unfold L2.Loc
  split at h <;> first | exact .inl (by assumption) | exact .inr (by assumption) | cases h
theorem lclB_ok {sc : Scope} {x : Str} (h : lclB sc x = true) : sc.names.lookup x = some .local := by
  unfold lclB at h
  split at h
  · assumption
  · cases h
def okN (x : Str) : Bool := (x == ("__debug__" : Str)) == false && (x == ("__classdict__" : Str)) == false
theorem okN_ok {x : Str} (h : okN x = true) : (x == ("__debug__" : Str)) = false ∧ (x == ("__classdict__" : Str)) = false := by
  unfold okN at h
  simp only [Bool.and_eq_true, beq_iff_eq] at h
  exact h
def cmpB : COp → CmpOp → Bool
  | .eq, .Eq => true | .ne, .NotEq => true | .lt, .Lt => true | .le, .LtE => true | .gt, .Gt => true | .ge, .GtE => true | .isin, .In => true | .notin, .NotIn => true | .ltD, .Lt => true
  | _, _ => false
theorem cmpB_ok {o : COp} {c : CmpOp} (h : cmpB o c = true) : c = cmpOf o := by
  cases o <;> cases c <;> first | rfl | cases h
def opB : BOp → Operator → Bool
  | .add, .Add => true | .sub, .Sub => true | .mul, .Mult => true | .fdiv, .FloorDiv => true | .mod, .Mod => true | .pow, .Pow => true
  | _, _ => false
theorem opB_ok {o : BOp} {c : Operator} (h : opB o c = true) : c = opOf o := by
  cases o <;> cases c <;> first | rfl | cases h
def cstB : D → Const → Bool
  | .int i, .int j => decide (i = j)
  | .bool i, .bool j => decide (i = j)
  | .str i, .str j => decide (i = j)
  | .none, .none => true
  | _, _ => false
def notSet : Expr → Bool
  | .Set _ _ _ => false
  | _ => true
theorem notSet_ok {e : Expr} (h : notSet e = true) (env : PySem.Env) (x : Value) : foldedSetIterable e env x = pure x := by
  cases e <;> first | (cases h; done) | rfl
theorem notSet_mark {e : Expr} (h : notSet e = true) (op : CmpOp) : behindInMarks op e = false := by
  cases e <;> first | (cases h; done) | rfl
def bltName : Blt → String
  | .len => "len" | .abs => "abs" | .int => "int" | .min2 => "min" | .max2 => "max" | .list => "list" | .tuple => "tuple" | .all => "all" | .any => "any" | .isi _ => "isinstance" | .sorted => "sorted" | .min1 => "min" | .max1 => "max" | .sortD => "sorted" | .minD => "min" | .maxD => "max"

def mopName : MOp → String
  | .app => "append" | .ext => "extend" | .pop => "pop" | .popI => "pop"
def isPop : MOp → Bool
  | .pop => true
  | _ => false
def chkKs : List Key → List (Option Expr) → Bool
  | [], [] => true
  | .inl i :: ks, some (.Constant (.int j) _ _) :: es => decide (i = j) && chkKs ks es
  | .inr x :: ks, some (.Constant (.str y) _ _) :: es => decide (x = y) && chkKs ks es
  | _, _ => false
def chkNm (N : List Str) (sc : Scope) : List (Nat × Nat) → List (Option Expr) → List Expr → Bool
  | [], [], [] => true
  | (i, j) :: r, some (.Name x _) :: ks, .Name y _ :: vs => (N[i]? == some x) && visB sc x && okN x && ((N[j]? == some y) && visB sc y && okN y) && chkNm N sc r ks vs
  | _, _, _ => false
def isRev : Ext → Bool
  | .rev => true
  | _ => false
def isRev2 : Ext → Bool
  | .rev2 => true
  | _ => false
def extN : Ext → String × String
  | .sset => ("sorted", "set") | .lset => ("len", "set") | .lrng1 => ("list", "range") | .trng1 => ("tuple", "range") | _ => ("", "")
structure Gi where
  P : List DefI
  consts : List (Str × D)
  free : List Str
  kws : List KwI
  flds : List (Str × Str)
def nmOf (g : Gi) (j : Nat) : Option (Str × Option Str) := (g.P[j]?).map fun d => (d.name, d.cls)

section
variable (g : Gi) (N : List Str)
mutual
def chkT (sc : Scope) (fb : Str → Bool) : Tg → Expr → Bool
  | .name i, e => match e with
    | .Name x _ => (N[i]? == some x) && locB sc x && (fb x || lclB sc x)
    | _ => false
  | .tup ts, e => match e with
    | .Tuple es _ _ => chkTs sc fb ts es
    | _ => false
def chkTs (sc : Scope) (fb : Str → Bool) : List Tg → List Expr → Bool
  | [], [] => true
  | t :: ts, e :: es => notSt e && chkT sc fb t e && chkTs sc fb ts es
  | _, _ => false
end
def chkTy (sc : Scope) : List Ty → Expr → Bool
  | ts, .Name x _ => (match ts with
    | [t] => x == Str.ofString (tyName t) && glB sc x && g.free.contains x
    | _ => false)
  | ts, .Tuple es _ _ => decide (ts.length ≤ 8) && go ts es
  | _, _ => false
where go : List Ty → List Expr → Bool
  | [], [] => true
  | t :: ts, .Name x _ :: es => x == Str.ofString (tyName t) && glB sc x && g.free.contains x && go ts es
  | _, _ => false
mutual
def chk : E → Scope → Expr → Bool
  | .var i, sc, e => match e with
    | .Name x _ => (N[i]? == some x) && visB sc x && okN x
    | _ => false
  | .cst d, _, e => match e with
    | .Constant c _ _ => cstB d c
    | _ => false
  | .gl k, sc, e => match e with
    | .Name x _ => ((g.consts[k]?).map (·.1) == some x) && glB sc x && okN x
    | _ => false
  | .tup es, sc, e => match e with
    | .Tuple xs _ _ => chks es sc xs
    | _ => false
  | .lst es, sc, e => match e with
    | .List xs _ => chks es sc xs
    | _ => false
  | .bin op a b, sc, e => match e with
    | .BinOp x o y _ => opB op o && chk a sc x && chk b sc y
    | _ => false
  | .neg a, sc, e => match e with
    | .UnaryOp .USub x _ => chk a sc x
    | _ => false
  | .cmp op a b, sc, e => match e with
    | .Compare x [o] [y] _ => cmpB op o && notSet y && chk a sc x && chk b sc y
    | _ => false
  | .chn o1 o2 a b c, sc, e => match e with
    | .Compare x [p1, p2] [y, z] _ => cmpB o1 p1 && cmpB o2 p2 && notSet z && chk a sc x && chk b sc y && chk c sc z
    | _ => false
  | .isN a, sc, e => match e with
    | .Compare x [.Is] [.Constant .none _ _] _ => chk a sc x
    | _ => false
  | .notN a, sc, e => match e with
    | .Compare x [.IsNot] [.Constant .none _ _] _ => chk a sc x
    | _ => false
  | .and a b, sc, e => match e with
    | .BoolOp .And (x :: y :: r) p => chk a sc x && (if r.isEmpty then chk b sc y else chk b sc (.BoolOp .And (y :: r) p))
    | _ => false
  | .or a b, sc, e => match e with
    | .BoolOp .Or (x :: y :: r) p => chk a sc x && (if r.isEmpty then chk b sc y else chk b sc (.BoolOp .Or (y :: r) p))
    | _ => false
  | .not a, sc, e => match e with
    | .UnaryOp .Not x _ => chk a sc x
    | _ => false
  | .ite c a b, sc, e => match e with
    | .IfExp x y z _ => chk c sc x && chk a sc y && chk b sc z
    | _ => false
  | .idx a b, sc, e => match e with
    | .Subscript x y _ => notSl y && chk a sc x && chk b sc y
    | _ => false
  | .slc a lo hi, sc, e => match e with
    | .Subscript x (.Slice l h none _) _ => chk a sc x && chkO lo sc l && chkO hi sc h
    | _ => false
  | .call j args, sc, e => match e with
    | .Call (.Name x _) (y :: ys) [] _ => (nmOf g j == some (x, none)) && glB sc x && okN x && chks args sc (y :: ys)
    | _ => false
  | .callK i args, sc, e => match e with
    | .Call (.Name x _) ys ks _ => (match g.kws[i]? with
      | some w => (nmOf g w.j == some (x, none)) && glB sc x && okN x && decide (ks.map (·.arg) = w.ks.map some) && decide (ys.length = w.np) && chks args sc (ys ++ ks.map (·.value))
      | none => false)
    | _ => false
  | .callT j a, sc, e => match e with
    | .Call (.Name x _) [y] [] _ => (nmOf g j == some (x, none)) && glB sc x && okN x && notSt y && chk a sc y
    | _ => false
  | .blt f args, sc, e => match e with
    | .Call (.Name x _) (y :: ys) [] _ => x == Str.ofString (bltName f) && glB sc x && g.free.contains x && (match f with
      | .isi tys => (match ys with
        | [t] => chks args sc [y] && notSt t && chkTy g sc tys t
        | _ => false)
      | _ => chks args sc (y :: ys))
    | _ => false
  | .comp elt tg it cond own, sc, e => match e with
    | .ListComp el [⟨tgt, iter, ifs, as⟩] scope _ => decide (as = 0) && notSet iter && chkI it sc tgt iter && blkC N sc scope (own.filterMap fun i => (N[i]?).map fun x => (x, i)) && decide ((own.filterMap fun i => (N[i]?).map fun x => (x, i)).map (·.2) = own)
        && chkT N (relS scope sc) (fun x => scope.names.lookup x == some .cell) tg tgt && (ixs tg).all (fun i => own.contains i) && chk elt (relS scope sc) el && (match ifs with
        | [] => (match cond with | none => true | some _ => false)
        | [i] => chkO cond (relS scope sc) (some i)
        | _ => false)
    | _ => false
  | .comp2 elt tg it tg1 k1 a1 b1 cond own own1, sc, e => match e with
    | .ListComp el [⟨tgt, iter, ifs0, as⟩, ⟨tgt1, iter1, ifs, as1⟩] scope _ => ifs0.isEmpty && decide (as = 0) && decide (as1 = 0) && notSet iter && notSet iter1 && chkI it sc tgt iter && blkC N sc scope ((own ++ own1).filterMap fun i => (N[i]?).map fun x => (x, i)) && decide (((own ++ own1).filterMap fun i => (N[i]?).map fun x => (x, i)).map (·.2) = own ++ own1)
        && chkT N (relS scope sc) (fun x => scope.names.lookup x == some .cell) tg tgt && (ixs tg).all (fun i => own.contains i) && chkT N (relS scope sc) (fun x => scope.names.lookup x == some .cell) tg1 tgt1 && (ixs tg1).all (fun i => own1.contains i) && chk elt (relS scope sc) el && (match ifs with
        | [] => (match cond with | none => true | some _ => false)
        | [i] => chkO cond (relS scope sc) (some i)
        | _ => false) && (match k1 with
        | 0 => b1.isNone && chk a1 (relS scope sc) iter1
        | 1 => (match iter1 with
          | .Call (.Name n _) [y] [] _ => b1.isNone && n == ("range" : Str) && glB (relS scope sc) n && g.free.contains n && notSt y && chk a1 (relS scope sc) y
          | _ => false)
        | 2 => (match iter1 with
          | .Call (.Name n _) [y, z] [] _ => n == ("range" : Str) && glB (relS scope sc) n && g.free.contains n && notSt y && notSt z && chk a1 (relS scope sc) y && chkO b1 (relS scope sc) (some z)
          | _ => false)
        | _ => false)
    | _ => false
  | .fld a f, sc, e => match e with
    | .Attribute x f' _ => (f' == f) && abOk x && chk a sc x
    | _ => false
  | .mop op p args, sc, e => match e with
    | .Call (.Attribute x m ap) ys [] cp => (m == Str.ofString (mopName op)) && abOk x && (ap.endLine == cp.line) && chk p sc x && (match ys with
      | [] => isPop op && chks args sc []
      | [y] => !isPop op && chks args sc [y]
      | _ => false)
    | _ => false
  | .dct ks es, sc, e => match e with
    | .Dict keys vals _ => !ks.isEmpty && decide (ks.length ≤ 15) && decide (ks.length = vals.length) && chkKs ks keys && chks es sc vals
    | _ => false
  | .callF j m r args, sc, e => match e with
    | .Call (.Attribute x m' ap) ys [] cp => ((nmOf g j).map (·.1) == some m') && ((nmOf g j).bind (·.2)).isSome && (m' == m) && abOk x && decide (ys.length < 29) && (ap.endLine == cp.line) && chk r sc x && chks args sc ys
    | _ => false
  | .mk c j args, sc, e => match e with
    | .Call (.Name x _) (y :: ys) [] _ => (nmOf g j == some (("__init__" : Str), some c)) && (x == c) && glB sc x && okN x && chks args sc (y :: ys)
    | _ => false
  | .dctV kvs, sc, e => match e with
    | .Dict keys vals _ => !kvs.isEmpty && decide (kvs.length ≤ 15) && chkNm N sc kvs keys vals
    | _ => false
  | .getT p k df, sc, e => match e with
    | .Call (.Attribute x m ap) [y, z] [] cp => (m == ("get" : Str)) && abOk x && (ap.endLine == cp.line) && chk p sc x && notSt y && notSt z && chk k sc y && chk df sc z
    | _ => false
  | .dnew _, _, e => match e with
    | .Dict [] [] _ => true
    | _ => false
  | .inT neg k p, sc, e => match e with
    | .Compare x [o] [y] _ => cmpB (if neg then .notin else .isin) o && notSet y && chk k sc x && chk p sc y
    | _ => false
  | .frz a, sc, e => notSt e && (plainT e && chk a sc e)
  | .mv i, sc, e => match e with
    | .Name x _ => (N[i]? == some x) && visB sc x && okN x
    | _ => false
  | .ext f args, sc, e => match e with
    | .Subscript x (.Slice (some (.UnaryOp .USub (.Constant (.int n2) _ _) _)) none (some (.UnaryOp .USub (.Constant (.int n) _ _) _)) _) _ => isRev2 f && decide (n2 = 2) && decide (n = 1) && chks args sc [x]
    | .Subscript x (.Slice none none (some (.UnaryOp .USub (.Constant (.int n) _ _) _)) _) _ => isRev f && decide (n = 1) && chks args sc [x]
    | .Call (.Name x _) [.Call (.Name y _) [a] [] _] [] _ => !isRev f && !isRev2 f && (x == Str.ofString (extN f).1) && (y == Str.ofString (extN f).2) && glB sc x && g.free.contains x && glB sc y && g.free.contains y && chks args sc [a]
    | _ => false
  | _, _, _ => false
def chks : List E → Scope → List Expr → Bool
  | [], _, [] => true
  | e :: es, sc, x :: xs => notSt x && chk e sc x && chks es sc xs
  | _, _, _ => false
def chkO : Option E → Scope → Option Expr → Bool
  | none, _, none => true
  | some e, sc, some x => chk e sc x
  | _, _, _ => false
def chkI : It → Scope → Expr → Expr → Bool
  | .seq e, sc, _, x => chk e sc x
  | .rng1 a, sc, _, x => match x with
    | .Call (.Name n _) [y] [] _ => n == ("range" : Str) && glB sc n && g.free.contains n && notSt y && chk a sc y
    | _ => false
  | .rng2 a b, sc, _, x => match x with
    | .Call (.Name n _) [y, z] [] _ => n == ("range" : Str) && glB sc n && g.free.contains n && notSt y && notSt z && chk a sc y && chk b sc z
    | _ => false
  | .enum a, sc, tg, x => match tg, x with
    | .Tuple _ _ _, .Call (.Name n _) [y] [] _ => n == ("enumerate" : Str) && glB sc n && g.free.contains n && notSt y && chk a sc y
    | _, _ => false
  | .zip a b, sc, tg, x => match tg, x with
    | .Tuple _ _ _, .Call (.Name n _) [y, z] [] _ => n == ("zip" : Str) && glB sc n && g.free.contains n && notSt y && notSt z && chk a sc y && chk b sc z
    | _, _ => false
end
end
end Q
set_option maxHeartbeats 4000000
namespace Q
open PySem L2 PyProof.Rows

/-- where a def is found: by its name, or in its class -/
def DefG (K : PySem.W.Frag) (mg : Str → Option Value) (d : DefI) (f : Addr) : Prop := match d.cls with
  | none => mg d.name = some (.ref f)
  | some c => ∃ C, KCls K c C ∧ Cls K C ∧ mg c = some (.ref C) ∧ Meth K C d.name f ∧ (d.name = "__init__" → PySem.W.makesIn K C = true ∧ PySem.W.keepIn K (.ref C) = true)
/-- what is known of the world a def runs in -/
structure Sta (g : Gi) (C : CtxQ) (N : List Str) (k : Nat) (X : Cx) : Prop where
  eN : X.N = N
  nd : N.Nodup
  calm : X.calm = true
  room : Room (k + 1) X.A
  free : ∀ x ∈ g.free, X.mg x = none
  consts : ∀ (i : Nat) p, g.consts[i]? = some p → C.glob i = some p.2 ∧ ∃ u v, X.mg p.1 = some u ∧ RelV v u ∧ ∀ A H, Rep X.K A H v p.2
  defs : ∀ (j : Nat) d, g.P[j]? = some d → ∃ f fd ps, DefG X.K X.mg d f ∧ PySem.W.keepIn X.K (.ref f) = true ∧ Binds X.K fd ps [] ∧ FnOk X.prog X.w X.K X.mg X.base CX0 k f fd ps (spD X.K d.np (C.call j))
  eW : C.kws = g.kws
  kwb : ∀ (i : Nat) w d, g.kws[i]? = some w → g.P[w.j]? = some d → ∃ f fd ps, DefG X.K X.mg d f ∧ PySem.W.keepIn X.K (.ref f) = true ∧ KBinds X.K fd ps w.ks (pmG w) (pmG w) ∧ FnOk X.prog X.w X.K X.mg X.base CX0 k f fd ps (spD X.K d.np (C.call w.j))
  len : ∀ (j : Nat) d sl r, g.P[j]? = some d → C.call j sl = some r → sl.length = d.np
  eC : ∀ (j : Nat) d, g.P[j]? = some d → C.cls j = d.cls
  nof : ∀ c f, (c, f) ∈ g.flds → ∀ C, KCls X.K c C → NoAttr X.K C f
section
variable {g : Gi} {C : CtxQ} {N : List Str} {k : Nat} {X : Cx}
theorem Sta.blk (S : Sta g C N k X) (scope : Scope) (s : Shared) (H : Hp) (c : Addr) (cl : List (Str × Addr)) (fp : List Addr) : Sta g C N k (XB X scope s H c cl fp) := ⟨S.eN, S.nd, S.calm, S.room, S.free, S.consts, S.defs, S.eW, S.kwb, S.len, S.eC, S.nof⟩
theorem Sta.units (S : Sta g C N k X) : X.A.units + 65 < cLine := by have := S.room.un; omega
theorem Sta.roomK (S : Sta g C N k X) : Room k X.A := S.room.mono (Nat.le_succ k)
theorem nm_ok {g : Gi} {j : Nat} {x : Str} {c : Option Str} (h : (nmOf g j == some (x, c)) = true) : ∃ d, g.P[j]? = some d ∧ d.name = x ∧ d.cls = c := by
  obtain ⟨d, hd, e⟩ := Option.map_eq_some_iff.mp (beq_iff_eq.mp h)
  cases e
  exact ⟨d, hd, rfl, rfl⟩
theorem DefG.ofMeth {K : PySem.W.Frag} {mg : Str → Option Value} {d : DefI} {f C : Addr} {c : Str} (hc : d.cls = some c) (kc : KCls K c C) (cl : Cls K C) (hm : mg c = some (.ref C)) (mt : Meth K C d.name f) (mk : PySem.W.makesIn K C = true) (kp : PySem.W.keepIn K (.ref C) = true) : DefG K mg d f := by
  unfold DefG
  rw [hc]
  exact ⟨C, kc, cl, hm, mt, fun _ => ⟨mk, kp⟩⟩
theorem DefG.plain {K : PySem.W.Frag} {mg : Str → Option Value} {d : DefI} {f : Addr} (h : DefG K mg d f) (hc : d.cls = none) : mg d.name = some (.ref f) := by
  unfold DefG at h
  rw [hc] at h; exact h
theorem DefG.meth {K : PySem.W.Frag} {mg : Str → Option Value} {d : DefI} {f : Addr} {c : Str} (h : DefG K mg d f) (hc : d.cls = some c) : ∃ C, KCls K c C ∧ Cls K C ∧ mg c = some (.ref C) ∧ Meth K C d.name f ∧ (d.name = "__init__" → PySem.W.makesIn K C = true ∧ PySem.W.keepIn K (.ref C) = true) := by
  unfold DefG at h
  rw [hc] at h; exact h
theorem and2 {a b : Bool} (h : (a && b) = true) : a = true ∧ b = true := by simpa using h
theorem gl_of {x : Str} {sc : Scope} (hs : X.env.scope = sc) (h : glB sc x = true) : Gl X x := by
  show X.env.scope.names.lookup x = _
  rw [hs]; exact glB_ok h
mutual
theorem chkT_ok {X : Cx} {N : List Str} {sc : Scope} {fb : Str → Bool} (hN : X.N = N) (hs : X.env.scope = sc) (hf : ∀ x, fb x = true → X.fn x = true) : ∀ (t : Tg) (e : Expr), chkT N sc fb t e = true → TgOk X t e
  | .name i, e, h => by
    cases e with
    | Name x p =>
      obtain ⟨h1, h3⟩ := and2 (show ((N[i]? == some x) && locB sc x && (fb x || lclB sc x)) = true from h)
      obtain ⟨h1, h2⟩ := and2 h1
      refine .name (by rw [hN]; exact beq_iff_eq.mp h1) (by rw [hs]; exact locB_ok h2) ?_
      rcases Bool.or_eq_true_iff.mp h3 with q | q
      · exact .inl (hf x q)
      · exact .inr (by rw [hs]; exact lclB_ok q)
    | _ => cases h
  | .tup ts, e, h => by
    cases e with
    | Tuple es k p => exact .tup (chkTs_ok hN hs hf ts es h)
    | _ => cases h
theorem chkTs_ok {X : Cx} {N : List Str} {sc : Scope} {fb : Str → Bool} (hN : X.N = N) (hs : X.env.scope = sc) (hf : ∀ x, fb x = true → X.fn x = true) : ∀ (t : List Tg) (e : List Expr), chkTs N sc fb t e = true → TgsOk X t e
  | [], [], _ => .nil
  | t :: ts, e :: es, h => by
    obtain ⟨h1, h2⟩ := and2 (show (notSt e && chkT N sc fb t e && chkTs N sc fb ts es) = true from h)
    obtain ⟨h0, h1⟩ := and2 h1
    exact .cons h0 (chkT_ok hN hs hf t e h1) (chkTs_ok hN hs hf ts es h2)
  | [], _ :: _, h => by cases h
  | _ :: _, [], h => by cases h
end
theorem cst_ok {d : D} {c : Const} {n : Nat} {p : Pos} (h : cstB d c = true) : Snd X (.Constant c n p) (ofV fun ρ => some (.val d, ρ)) := by
  unfold cstB at h
  split at h
  · have e := of_decide_eq_true h; subst e; exact const_ok pe_int rfl fun _ _ => .int _
  · have e := of_decide_eq_true h; subst e; exact const_ok pe_bl rfl fun _ _ => .bl _
  · have e := of_decide_eq_true h; subst e; exact const_ok pe_str rfl fun _ _ => .str _
  · exact const_ok pe_non rfl fun _ _ => .non
  · cases h
theorem free_of (S : Sta g C N k X) {x : Str} (h : g.free.contains x = true) : X.mg x = none := S.free x (List.contains_iff_mem.mp h)
theorem ty_go {sc : Scope} (S : Sta g C N k X) (hs : X.env.scope = sc) : ∀ (ts : List Ty) (es : List Expr), chkTy.go g sc ts es = true → ClsL X ts es
  | [], [], _ => .nil
  | t :: ts, e :: es, h => by
    cases e with
    | Name x p =>
      obtain ⟨h1, h4⟩ := and2 (show (x == Str.ofString (tyName t) && glB sc x && g.free.contains x && chkTy.go g sc ts es) = true from h)
      obtain ⟨h1, h3⟩ := and2 h1
      obtain ⟨h1, h2⟩ := and2 h1
      have e := beq_iff_eq.mp h1
      subst e
      exact .cons (gl_of hs h2) (free_of S h3) (ty_go S hs ts es h4)
    | _ => cases h
  | [], _ :: _, h => by cases h
  | _ :: _, [], h => by cases h
theorem vis_pe {sc : Scope} (S : Sta g C N k X) (hs : X.env.scope = sc) {i : Nat} {x : Str} {p : Pos} (h : ((N[i]? == some x) && visB sc x && okN x) = true) : X.N[i]? = some x ∧ Vis X.env.scope x ∧ (x == ("__debug__" : Str)) = false ∧ (x == ("__classdict__" : Str)) = false := by
  obtain ⟨h1, h3⟩ := and2 h
  obtain ⟨h1, h2⟩ := and2 h1
  exact ⟨by rw [S.eN]; exact beq_iff_eq.mp h1, by rw [hs]; exact visB_ok h2, (okN_ok h3).1, (okN_ok h3).2⟩
theorem chk_nost {e : E} {sc : Scope} {x : Expr} (h : chk g N e sc x = true) : notSt x = true := by
  cases x with
  | Starred a b => cases e <;> (unfold chk at h; cases h)
  | _ => rfl
/-- the names among the arguments -/
theorem args_var {sc : Scope} (S : Sta g C N k X) (hs : X.env.scope = sc) : ∀ (args : List E) (es : List Expr), chks g N args sc es = true → ∀ (j i : Nat), (args.map varOf)[j]? = some (some i) → ∃ (x : Str) (p : Pos), es[j]? = some (.Name x p) ∧ PE X (.Name x p) (tVar i)
  | [], [], _, j, i, e => by simp at e
  | a :: as, y :: ys, h, j, i, e => by
    unfold chks at h
    obtain ⟨h1, h2⟩ := and2 h
    obtain ⟨h0, h1⟩ := and2 h1
    cases j with
    | succ j =>
      obtain ⟨x, p, g1, g2⟩ := args_var S hs as ys h2 j i (by simpa using e)
      exact ⟨x, p, by simpa using g1, g2⟩
    | zero =>
      have e : varOf a = some i := by simpa using e
      cases a with
      | var i' =>
        cases e
        cases y with
        | Name x p =>
          unfold chk at h1
          obtain ⟨a1, a2, a3, a4⟩ := vis_pe (p := p) S hs h1
          exact ⟨x, p, rfl, pe_var a1 a2 a3 a4⟩
        | _ => unfold chk at h1; cases h1
      | _ => cases e
  | [], _ :: _, h, _, _, _ => by unfold chks at h; cases h
  | _ :: _, [], h, _, _, _ => by unfold chks at h; cases h
end
end Q
set_option maxHeartbeats 4000000
namespace Q
open PySem L2 PyProof.Rows
theorem RunsE.mono0 {X : Cx} {e : Expr} {σ : L2.St} {H : Hp} {Q Q' : VK} (h : RunsE X e σ H Q) (f : ∀ v H', Q v H' → Q' v H') : RunsE X e σ H Q' := RunsE.mono h f
theorem chkKs_ok {X : Cx} {pos : Pos} : ∀ {ks : List Key} {keys : List (Option Expr)} {es : List Expr} {rs : List R3}, chkKs ks keys = true → SndL X es rs → ks.length = es.length → PPs X pos keys es (trsOf X ks es) ∧ keys.all (·.isSome) = true ∧ keys.length = ks.length
  | [], [], [], _, _, _, _ => ⟨pps_nil, rfl, rfl⟩
  | [], [], _ :: _, _, _, _, h => by simp at h
  | .inl i :: ks, some (.Constant (.int j) _ _) :: keys, e :: es, _, h, .cons hn he t, hl => by
    unfold chkKs at h
    obtain ⟨h1, h2⟩ := and2 h
    have e0 := of_decide_eq_true h1
    subst e0
    obtain ⟨a, b, c⟩ := chkKs_ok (pos := pos) h2 t (by simpa using hl)
    exact ⟨pps_cons pe_int pr a, by simpa using b, by simp [c]⟩
  | .inr x :: ks, some (.Constant (.str y) _ _) :: keys, e :: es, _, h, .cons hn he t, hl => by
    unfold chkKs at h
    obtain ⟨h1, h2⟩ := and2 h
    have e0 := of_decide_eq_true h1
    subst e0
    obtain ⟨a, b, c⟩ := chkKs_ok (pos := pos) h2 t (by simpa using hl)
    exact ⟨pps_cons pe_str pr a, by simpa using b, by simp [c]⟩
  | .inl _ :: _, some (.Constant (.int _) _ _) :: _, [], _, _, _, h => by simp at h
  | .inr _ :: _, some (.Constant (.str _) _ _) :: _, [], _, _, _, h => by simp at h
section
variable {g : Gi} {C : CtxQ} {N : List Str} {k : Nat}
theorem blt_call {X : Cx} {f : Blt} (hf : bltIsi f = false) {p pos : Pos} {y : Expr} {ys : List Expr} {rs : List R3} (hl : SndL X (y :: ys) rs) (hg : Gl X (Str.ofString (bltName f))) (hm : X.mg (Str.ofString (bltName f)) = none) {t : TA} (ha : PA X (y :: ys) t) :
    PE X (.Call (.Name (Str.ofString (bltName f)) p) (y :: ys) [] pos) (tCB (CallAt X (bltFn f)) t) := by
  have hn : notSt y = true := by cases hl with | cons h _ _ => exact h
  have hst := notSt_ok hn ys X.env
  have hpl : (backTo pos (starEach ys X.env)).any (·.1) = false := by cases hl with | cons _ _ t => exact t.plain _ _
  cases f with
  | len => exact pe_callB CallAt.cr hg hm (by decide +kernel) ha (by decide) (by decide) hst hpl
  | abs => exact pe_callB CallAt.cr hg hm (by decide +kernel) ha (by decide) (by decide) hst hpl
  | int => exact pe_callTy CallAt.cr hg hm (by decide +kernel) ha (by decide) (by decide) hst hpl
  | min2 => exact pe_callB CallAt.cr hg hm (by decide +kernel) ha (by decide) (by decide) hst hpl
  | max2 => exact pe_callB CallAt.cr hg hm (by decide +kernel) ha (by decide) (by decide) hst hpl
  | list => exact pe_callTy CallAt.cr hg hm (by decide +kernel) ha (by decide) (by decide) hst hpl
  | tuple => exact pe_callTy CallAt.cr hg hm (by decide +kernel) ha (by decide) (by decide) hst hpl
  | all => exact pe_callB CallAt.cr hg hm (by decide +kernel) ha (by decide) (by decide) hst hpl
  | any => exact pe_callB CallAt.cr hg hm (by decide +kernel) ha (by decide) (by decide) hst hpl
  | isi _ => cases hf
  | sorted => exact pe_callB CallAt.cr hg hm (by decide +kernel) ha (by decide) (by decide) hst hpl
  | min1 => exact pe_callB CallAt.cr hg hm (by decide +kernel) ha (by decide) (by decide) hst hpl
  | max1 => exact pe_callB CallAt.cr hg hm (by decide +kernel) ha (by decide) (by decide) hst hpl
  | sortD => exact pe_callB CallAt.cr hg hm (by decide +kernel) ha (by decide) (by decide) hst hpl
  | minD => exact pe_callB CallAt.cr hg hm (by decide +kernel) ha (by decide) (by decide) hst hpl
  | maxD => exact pe_callB CallAt.cr hg hm (by decide +kernel) ha (by decide) (by decide) hst hpl
theorem chkTy_ok {X : Cx} {sc : Scope} (S : Sta g C N k X) (hs : X.env.scope = sc) {ts : List Ty} {t : Expr} (h : chkTy g sc ts t = true) :
    (∃ (ty : Ty) (q : Pos), ts = [ty] ∧ t = .Name (Str.ofString (tyName ty)) q ∧ Gl X (Str.ofString (tyName ty)) ∧ X.mg (Str.ofString (tyName ty)) = none) ∨ ∃ es k q, t = .Tuple es k q ∧ ClsL X ts es ∧ ts.length ≤ 8 := by
  unfold chkTy at h
  split at h
  · split at h
    · obtain ⟨h1, h3⟩ := and2 h
      obtain ⟨h1, h2⟩ := and2 h1
      have e := beq_iff_eq.mp h1
      subst e
      exact .inl ⟨_, _, rfl, rfl, gl_of hs h2, free_of S h3⟩
    · cases h
  · obtain ⟨h1, h2⟩ := and2 h
    exact .inr ⟨_, _, _, rfl, ty_go S hs _ _ h2, of_decide_eq_true h1⟩
  · cases h
theorem chkNm_ok {X : Cx} {sc : Scope} (S : Sta g C N k X) (hs : X.env.scope = sc) : ∀ {kvs : List (Nat × Nat)} {keys : List (Option Expr)} {vals : List Expr}, chkNm N sc kvs keys vals = true → NmL X keys vals kvs := by
  intro kvs
  induction kvs with
  | nil =>
    intro keys vals h
    unfold chkNm at h
    split at h
    · exact .nil
    · rename_i heq; cases heq
    · cases h
  | cons ij r ih =>
    intro keys vals h
    unfold chkNm at h
    split at h
    · rename_i heq; cases heq
    · rename_i heq
      cases heq
      obtain ⟨h1, h3⟩ := and2 h
      obtain ⟨h1, h2⟩ := and2 h1
      obtain ⟨a1, a2, a3, a4⟩ := vis_pe (p := default) S hs h1
      obtain ⟨b1, b2, b3, b4⟩ := vis_pe (p := default) S hs h2
      exact .cons (nmR_of a1 a2 a3 a4) (nmR_of b1 b2 b3 b4) (ih h3)
    · cases h
mutual
theorem chk_ok : ∀ (e : E) (X : Cx) (sc : Scope) (x : Expr), Sta g C N k X → X.env.scope = sc → chk g N e sc x = true → Snd X x (run C e)
  | .var i, X, sc, x, S, hs, h => by
    unfold chk at h
    split at h
    · obtain ⟨a1, a2, a3, a4⟩ := vis_pe (p := default) S hs h
      exact var_ok a1 a2 a3 a4
    · cases h
  | .cst d, X, sc, x, S, hs, h => by
    unfold chk at h
    split at h
    · exact cst_ok h
    · cases h
  | .gl i, X, sc, x, S, hs, h => by
    unfold chk at h
    split at h
    · rename_i nm p
      obtain ⟨h1, h3⟩ := and2 h
      obtain ⟨h1, h2⟩ := and2 h1
      obtain ⟨q, hq, e⟩ := Option.map_eq_some_iff.mp (beq_iff_eq.mp h1)
      subst e
      obtain ⟨eg, u, v, m1, r1, rp⟩ := S.consts i q hq
      have := const_ok (pe_glob (pos := p) (gl_of hs h2) m1 r1 (okN_ok h3).1) rfl rp
      unfold run
      have e2 : (fun ρ : Env => (C.glob i).bind fun d => some (MV.val d, ρ)) = fun ρ => some (.val q.2, ρ) := by funext ρ; rw [eg]; rfl
      rw [e2]; exact this
    · cases h
  | .tup es, X, sc, x, S, hs, h => by
    unfold chk at h
    split at h
    · unfold run; exact tupK_snd (chks_ok es X sc _ S hs h)
    · cases h
  | .lst es, X, sc, x, S, hs, h => by
    unfold chk at h
    split at h
    · unfold run; exact lst_snd (chks_ok es X sc _ S hs h)
    · cases h
  | .bin op a b, X, sc, x, S, hs, h => by
    unfold chk at h
    split at h
    · obtain ⟨h1, h3⟩ := and2 h
      obtain ⟨h1, h2⟩ := and2 h1
      have e := opB_ok h1
      subst e
      unfold run; exact bin_snd (chk_ok a X sc _ S hs h2) (chk_ok b X sc _ S hs h3)
    · cases h
  | .neg a, X, sc, x, S, hs, h => by
    unfold chk at h
    split at h
    · unfold run; exact neg_snd (chk_ok a X sc _ S hs h)
    · cases h
  | .cmp op a b, X, sc, x, S, hs, h => by
    unfold chk at h
    split at h
    · obtain ⟨h1, h4⟩ := and2 h
      obtain ⟨h1, h3⟩ := and2 h1
      obtain ⟨h1, h2⟩ := and2 h1
      have e := cmpB_ok h1
      subst e
      unfold run; exact cmp_snd S.units (notSet_mark h2 _) (chk_ok a X sc _ S hs h3) (chk_ok b X sc _ S hs h4)
    · cases h
  | .chn o1 o2 a b c, X, sc, x, S, hs, h => by
    unfold chk at h
    split at h
    · obtain ⟨h1, h6⟩ := and2 h
      obtain ⟨h1, h5⟩ := and2 h1
      obtain ⟨h1, h4⟩ := and2 h1
      obtain ⟨h1, h3⟩ := and2 h1
      obtain ⟨h1, h2⟩ := and2 h1
      have e := cmpB_ok h1
      have e2 := cmpB_ok h2
      subst e e2
      unfold run; exact chn_snd S.units (notSet_mark h3 _) (chk_ok a X sc _ S hs h4) (chk_ok b X sc _ S hs h5) (chk_ok c X sc _ S hs h6)
    · cases h
  | .isN a, X, sc, x, S, hs, h => by
    unfold chk at h
    split at h
    · unfold run; exact isN_snd false (chk_ok a X sc _ S hs h)
    · cases h
  | .notN a, X, sc, x, S, hs, h => by
    unfold chk at h
    split at h
    · unfold run; exact isN_snd true (chk_ok a X sc _ S hs h)
    · cases h
  | .and a b, X, sc, x, S, hs, h => by
    unfold chk at h
    split at h
    · rename_i x y r p
      obtain ⟨h1, h2⟩ := and2 h
      have ha := chk_ok a X sc _ S hs h1
      unfold run
      split at h2
      · rename_i hr
        have hb := chk_ok b X sc _ S hs h2
        have e : r = [] := List.isEmpty_iff.mp hr
        subst e
        obtain ⟨o1, o2⟩ := one_snd (op := .And) (pos := p) hb
        exact and_snd ha o1 o2
      · have hb := chk_ok b X sc _ S hs h2
        exact and_snd ha hb.v (hb.w rfl)
    · cases h
  | .or a b, X, sc, x, S, hs, h => by
    unfold chk at h
    split at h
    · rename_i x y r p
      obtain ⟨h1, h2⟩ := and2 h
      have ha := chk_ok a X sc _ S hs h1
      unfold run
      split at h2
      · rename_i hr
        have hb := chk_ok b X sc _ S hs h2
        have e : r = [] := List.isEmpty_iff.mp hr
        subst e
        obtain ⟨o1, o2⟩ := one_snd (op := .Or) (pos := p) hb
        exact or_snd ha o1 o2
      · have hb := chk_ok b X sc _ S hs h2
        exact or_snd ha hb.v (hb.w rfl)
    · cases h
  | .not a, X, sc, x, S, hs, h => by
    unfold chk at h
    split at h
    · unfold run; exact not_snd (chk_ok a X sc _ S hs h)
    · cases h
  | .ite c a b, X, sc, x, S, hs, h => by
    unfold chk at h
    split at h
    · obtain ⟨h1, h3⟩ := and2 h
      obtain ⟨h1, h2⟩ := and2 h1
      unfold run; exact ite_snd (chk_ok c X sc _ S hs h1) (chk_ok a X sc _ S hs h2) (chk_ok b X sc _ S hs h3)
    · cases h
  | .idx a b, X, sc, x, S, hs, h => by
    unfold chk at h
    split at h
    · obtain ⟨h1, h3⟩ := and2 h
      obtain ⟨h1, h2⟩ := and2 h1
      unfold run; exact idx_snd (by have := S.units; omega) h1 (chk_ok a X sc _ S hs h2) (chk_ok b X sc _ S hs h3)
    · cases h
  | .slc a lo hi, X, sc, x, S, hs, h => by
    unfold chk at h
    split at h
    · obtain ⟨h1, h3⟩ := and2 h
      obtain ⟨h1, h2⟩ := and2 h1
      unfold run; exact slc_snd (chk_ok a X sc _ S hs h1) (chkO_ok lo X sc _ S hs h2) (chkO_ok hi X sc _ S hs h3)
    · cases h
  | .call j args, X, sc, x, S, hs, h => by
    unfold chk at h
    split at h
    · obtain ⟨h1, h4⟩ := and2 h
      obtain ⟨h1, h3⟩ := and2 h1
      obtain ⟨h1, h2⟩ := and2 h1
      obtain ⟨d, hd, e, hcl⟩ := nm_ok h1
      subst e
      obtain ⟨f, fd, ps, m1, kp, bd, F⟩ := S.defs j d hd
      unfold run
      exact call_snd (chks_ok args X sc _ S hs h4) (args_var S hs args _ h4) (fun sl r e => S.len j d sl r hd e) F S.roomK (gl_of hs h2) (m1.plain hcl) kp bd (okN_ok h3).1
    · cases h
  | .callK i args, X, sc, x, S, hs, h => by
    unfold chk at h
    split at h
    · split at h
      · rename_i w hw
        obtain ⟨h1, h6⟩ := and2 h
        obtain ⟨h1, h5⟩ := and2 h1
        obtain ⟨h1, h4⟩ := and2 h1
        obtain ⟨h1, h3⟩ := and2 h1
        obtain ⟨h1, h2⟩ := and2 h1
        obtain ⟨d, hd, e, hcl⟩ := nm_ok h1
        subst e
        obtain ⟨f, fd, ps, m1, kp, bd, F⟩ := S.kwb i w d hw hd
        unfold run
        exact callK_snd (chks_ok args X sc _ S hs h6) (args_var S hs args _ h6) (by rw [S.eW]; exact hw) (fun sl r e => S.len w.j d sl r hd e) F S.roomK (gl_of hs h2) (m1.plain hcl) kp (of_decide_eq_true h4) (of_decide_eq_true h5) bd (okN_ok h3).1
      · cases h
    · cases h
  | .callT j a, X, sc, x, S, hs, h => by
    unfold chk at h
    split at h
    · obtain ⟨h1, h5⟩ := and2 h
      obtain ⟨h1, h4⟩ := and2 h1
      obtain ⟨h1, h3⟩ := and2 h1
      obtain ⟨h1, h2⟩ := and2 h1
      obtain ⟨d, hd, e, hcl⟩ := nm_ok h1
      subst e
      obtain ⟨f, fd, ps, m1, kp, bd, F⟩ := S.defs j d hd
      unfold run
      exact callT_snd (chk_ok a X sc _ S hs h5) h4 (fun sl r e => S.len j d sl r hd e) F S.roomK (gl_of hs h2) (m1.plain hcl) kp bd (okN_ok h3).1
    · cases h
  | .blt f args, X, sc, x, S, hs, h => by
    unfold chk at h
    split at h
    · rename_i nm p y ys pos
      obtain ⟨h1, h4⟩ := and2 h
      obtain ⟨h1, h3⟩ := and2 h1
      obtain ⟨h1, h2⟩ := and2 h1
      have e := beq_iff_eq.mp h1
      subst e
      have hg : Gl X (Str.ofString (bltName f)) := gl_of hs h2
      have hm := free_of S h3
      unfold run
      split at h4
      · rename_i tys
        split at h4
        · obtain ⟨h4, h6⟩ := and2 h4
          obtain ⟨h4, h5⟩ := and2 h4
          have hl := chks_ok args X sc _ S hs h4
          cases args with
          | nil => unfold chks at h4; cases h4
          | cons a as =>
            cases as with
            | cons _ _ => unfold chks at h4; obtain ⟨_, h4⟩ := and2 h4; unfold chks at h4; cases h4
            | nil =>
              have hl : SndL X [y] [run C a] := hl
              cases hl with
              | cons hn ha _ => exact isi_core ha hn h5 (fun hc hpa => pe_callB hc hg hm (show bootBuiltins (Str.ofString "isinstance") = _ by decide +kernel) hpa (show Str.ofString "isinstance" ≠ _ by decide) (show (Str.ofString "isinstance" == _) = false by decide) (notSt_ok hn _ _) (by rw [notSt_ok h5]; rfl)) (chkTy_ok S hs h6)
        · cases h4
      · rename_i hni
        have hf : bltIsi f = false := by cases f <;> first | rfl | exact absurd rfl (hni _)
        have hl := chks_ok args X sc _ S hs h4
        exact blt_v S.calm S.units hf hl (blt_call hf hl hg hm)
    · cases h
  | .comp elt tg it cond own, X, sc, x, S, hs, h => by
    unfold chk at h
    split at h
    · rename_i el tgt iter ifs as scope p
      obtain ⟨h1, h9⟩ := and2 h
      obtain ⟨h1, h8⟩ := and2 h1
      obtain ⟨h1, h7⟩ := and2 h1
      obtain ⟨h1, h6⟩ := and2 h1
      obtain ⟨h1, h5⟩ := and2 h1
      obtain ⟨h1, h4⟩ := and2 h1
      obtain ⟨h1, h3⟩ := and2 h1
      obtain ⟨h1, h2⟩ := and2 h1
      have e0 := of_decide_eq_true h1
      subst e0
      have eo := of_decide_eq_true h5
      have hok : BlkOk X.N X.env.scope scope (own.filterMap fun i => (N[i]?).map fun x => (x, i)) := by rw [S.eN, hs]; exact blkOk_by h4
      have hI : SndI X tgt iter (runI C it) := chkI_ok it X sc _ _ S hs h3
      have hsc : ∀ s H c cl fp, (XB X scope s H c cl fp).env.scope = relS scope sc := fun s H c cl fp => by rw [← hs]; rfl
      have hT : ∀ s H c cl fp, TgOk (XB X scope s H c cl fp) tg tgt := fun s H c cl fp => chkT_ok (S.blk scope s H c cl fp).eN (hsc s H c cl fp) (fun x q => q) tg tgt h6
      have hE : ∀ s H c cl fp, Snd (XB X scope s H c cl fp) el (run C elt) := fun s H c cl fp => chk_ok elt _ _ _ (S.blk scope s H c cl fp) (hsc s H c cl fp) h8
      have hix : ∀ i ∈ ixs tg, i ∈ (own.filterMap fun i => (N[i]?).map fun x => (x, i)).map (·.2) := fun i hi => by
        rw [eo]
        have := List.all_eq_true.mp h7 i hi
        exact List.contains_iff_mem.mp this
      unfold run
      have key : ∀ (co : Option Expr), ifs = co.toList → (∀ s H c cl fp, OptS (XB X scope s H c cl fp) co (runO C cond)) → Snd X (.ListComp el [⟨tgt, iter, ifs, 0⟩] scope p) (ofV (evComp (run C elt) tg (runI C it) (runO C cond) own)) := fun co e hC => by
        have hv := comp_v (pos := p) (cond := co) S.calm (by rw [S.eN]; exact S.nd) hI hok hT hix hC hE (notSet_ok h2 X.env)
        rw [eo] at hv
        rw [e]
        exact hv.snd rfl
      split at h9
      · split at h9
        · exact key none rfl fun s H c cl fp => by unfold runO; exact .none
        · cases h9
      · rename_i i
        exact key (some i) rfl fun s H c cl fp => chkO_ok cond _ _ _ (S.blk scope s H c cl fp) (hsc s H c cl fp) h9
      · cases h9
    · cases h
  | .fld a f, X, sc, x, S, hs, h => by
    unfold chk at h
    split at h
    · obtain ⟨h1, h3⟩ := and2 h
      obtain ⟨h1, h2⟩ := and2 h1
      have e0 := beq_iff_eq.mp h1
      subst e0
      unfold run; exact fld_snd h2 (chk_ok a X sc _ S hs h3)
    · cases h
  | .mop op p args, X, sc, x, S, hs, h => by
    unfold chk at h
    split at h
    · obtain ⟨h1, h5⟩ := and2 h
      obtain ⟨h1, h4⟩ := and2 h1
      obtain ⟨h1, h3⟩ := and2 h1
      obtain ⟨h1, h2⟩ := and2 h1
      have e0 := beq_iff_eq.mp h1
      subst e0
      have hp := chk_ok p X sc _ S hs h4
      unfold run
      split at h5
      · obtain ⟨h6, h7⟩ := and2 h5
        have hl := chks_ok args X sc _ S hs h7
        cases op <;> first | (cases h6; done) | skip
        generalize runs C args = rs at hl
        cases hl
        exact SndV.snd (mop0_v hp fun q => PE.rn (pe_bm0 PySem.F.plainAttrs_list PySem.F.slot_list_pop PySem.F.type_list_pop mt_pop pr (abOk_ok h2 _ _) h3) q) rfl
      · rename_i y0
        obtain ⟨h6, h7⟩ := and2 h5
        have hl := chks_ok args X sc _ S hs h7
        have hn : notSt y0 = true := by
          generalize runs C args = rs at hl
          cases hl with | cons h _ _ => exact h
        cases op with
        | app => exact SndV.snd (mop_v hp hl fun q => PE.rn (pe_bm PySem.F.plainAttrs_list PySem.F.slot_list_append PySem.F.type_list_append mt_append pr pra (abOk_ok h2 _ _) (by rw [notSt_ok hn]; rfl) h3 (notSt_ok hn _ _) rfl) q) rfl
        | ext => exact SndV.snd (mop_v hp hl fun q => PE.rn (pe_bm PySem.F.plainAttrs_list PySem.F.slot_list_extend PySem.F.type_list_extend mt_extend pr pra (abOk_ok h2 _ _) (by rw [notSt_ok hn]; rfl) h3 (notSt_ok hn _ _) rfl) q) rfl
        | popI => exact SndV.snd (mop_v hp hl fun q => PE.rn (pe_bm PySem.F.plainAttrs_list PySem.F.slot_list_pop PySem.F.type_list_pop mt_popAt pr pra (abOk_ok h2 _ _) (by rw [notSt_ok hn]; rfl) h3 (notSt_ok hn _ _) rfl) q) rfl
        | pop => cases h6
      · cases h5
    · cases h
  | .dct ks es, X, sc, x, S, hs, h => by
    unfold chk at h
    split at h
    · rename_i keys vals p
      obtain ⟨h1, h5⟩ := and2 h
      obtain ⟨h1, h4⟩ := and2 h1
      obtain ⟨h1, h3⟩ := and2 h1
      obtain ⟨h1, h2⟩ := and2 h1
      have hl := chks_ok es X sc _ S hs h5
      have e3 := of_decide_eq_true h3
      obtain ⟨hp, ha, hk⟩ := chkKs_ok (pos := p) h4 hl e3
      unfold run
      refine SndV.snd (dct_v hl e3 fun q => PE.rn (pe_disp hp ha (by rw [hk, e3]) (fun e => ?_) (by rw [hk]; exact of_decide_eq_true h2)) q) rfl
      rw [e] at hk
      cases ks with
      | nil => cases h1
      | cons _ _ => simp at hk
    · cases h
  | .dnew t, X, sc, x, S, hs, h => by
    unfold chk at h
    split at h
    · unfold run; exact SndV.snd (dnew_v t) rfl
    · cases h
  | .inT neg a b, X, sc, x, S, hs, h => by
    unfold chk at h
    split at h
    · obtain ⟨h1, h4⟩ := and2 h
      obtain ⟨h1, h3⟩ := and2 h1
      obtain ⟨h1, h2⟩ := and2 h1
      have e0 := cmpB_ok h1
      have e1 : cmpOf (if neg = true then .notin else .isin) = (if neg then CmpOp.NotIn else CmpOp.In) := by cases neg <;> rfl
      rw [e1] at e0
      subst e0
      unfold run
      have hu : X.A.units + 1 < cLine := by have := S.units; omega
      have hm : behindInMarks (if neg then CmpOp.NotIn else CmpOp.In) _ = false := notSet_mark h2 _
      exact inT_snd hu hm (chk_ok a X sc _ S hs h3) (chk_ok b X sc _ S hs h4)
    · cases h
  | .frz a, X, sc, x, S, hs, h => by
    unfold chk at h
    obtain ⟨h0, h3⟩ := and2 h
    obtain ⟨h1, h2⟩ := and2 h3
    have ha := chk_ok a X sc _ S hs h2
    unfold run
    refine SndV.snd (fun z r ρ' R e1 Q q => ?_) h1
    obtain ⟨⟨r1, ρ1⟩, k1, e2⟩ := bind_some (show ((run C a).v z.ρ).bind _ = some _ from e1)
    cases e2
    exact ha.v z r1 _ R k1 Q fun u z' T s er es t => q u (z'.drop T) [] (s.drop R t) er es (Tmp.ofRep t.froze)
  | .mv i, X, sc, x, S, hs, h => by
    unfold chk at h
    split at h
    · obtain ⟨a1, a2, a3, a4⟩ := vis_pe (p := default) S hs h
      unfold run
      refine SndV.snd (fun z r ρ' R e1 Q q => ?_) rfl
      unfold moveVar at e1
      split at e1
      · rename_i m hm
        cases e1
        obtain ⟨v, hv, st, tm⟩ := move_ok R hm
        exact PE.rn (pe_var a1 a2 a3 a4) ⟨v, hv, q v { z with ρ := z.ρ.set i .unset, TS := z.TS.up i [] } _ st rfl rfl tm⟩
      · cases e1
    · cases h
  | .ext f args, X, sc, x, S, hs, h => by
    unfold chk at h
    have one : ∀ {y : Expr}, SndL X [y] (runs C args) → ∃ ra, runs C args = [ra] ∧ notSt y = true ∧ Snd X y ra := fun {y} hl => by
      generalize runs C args = rs at hl
      cases hl with | cons hn h t =>
      cases t
      exact ⟨_, rfl, hn, h⟩
    unfold run
    split at h
    · obtain ⟨h1, h4⟩ := and2 h
      obtain ⟨h1, h3⟩ := and2 h1
      obtain ⟨h1, h2⟩ := and2 h1
      have e1 := of_decide_eq_true h2
      have e2 := of_decide_eq_true h3
      subst e1 e2
      obtain ⟨ra, er, hn, ha⟩ := one (chks_ok args X sc _ S hs h4)
      rw [er]
      cases f <;> first | (cases h1; done) | skip
      exact SndV.snd (rev2_v ha) rfl
    · obtain ⟨h1, h3⟩ := and2 h
      obtain ⟨h1, h2⟩ := and2 h1
      have e1 := of_decide_eq_true h2
      subst e1
      obtain ⟨ra, er, hn, ha⟩ := one (chks_ok args X sc _ S hs h3)
      rw [er]
      cases f <;> first | (cases h1; done) | skip
      exact SndV.snd (rev_v ha) rfl
    · obtain ⟨h1, h7⟩ := and2 h
      obtain ⟨h1, h6⟩ := and2 h1
      obtain ⟨h1, h5⟩ := and2 h1
      obtain ⟨h1, h4⟩ := and2 h1
      obtain ⟨h1, h3⟩ := and2 h1
      obtain ⟨h1, h2⟩ := and2 h1
      obtain ⟨h0, h1⟩ := and2 h1
      obtain ⟨h0, h0'⟩ := and2 h0
      have e1 := beq_iff_eq.mp h1
      have e2 := beq_iff_eq.mp h2
      subst e1 e2
      obtain ⟨ra, er, hn, ha⟩ := one (chks_ok args X sc _ S hs h7)
      rw [er]
      have g1 := gl_of hs h3
      have g2 := gl_of hs h5
      have m1 := free_of S h4
      have m2 := free_of S h6
      cases f with
      | sset => exact SndV.snd (sset_v S.calm hn ha g1 m1 g2 m2) rfl
      | lset => exact SndV.snd (lset_v S.calm hn ha g1 m1 g2 m2) rfl
      | lrng1 => exact SndV.snd (lrng1_v S.calm hn ha g1 m1 g2 m2) rfl
      | trng1 => exact SndV.snd (trng1_v S.calm hn ha g1 m1 g2 m2) rfl
      | lrng2 => exact SndV.snd (ext_no (by intro d fl; cases d <;> rfl)) rfl
      | trng2 => exact SndV.snd (ext_no (by intro d fl; cases d <;> rfl)) rfl
      | rev => cases h0
      | rev2 => cases h0'
    · cases h
  | .comp2 elt tg it tg1 k1 a1 b1 cond own own1, X, sc, x, S, hs, h => by
    unfold chk at h
    split at h
    · rename_i el tgt iter ifs0 as tgt1 iter1 ifs as1 scope p
      obtain ⟨h1, h15⟩ := and2 h
      obtain ⟨h1, h14⟩ := and2 h1
      obtain ⟨h1, h13⟩ := and2 h1
      obtain ⟨h1, h12⟩ := and2 h1
      obtain ⟨h1, h11⟩ := and2 h1
      obtain ⟨h1, h10⟩ := and2 h1
      obtain ⟨h1, h9⟩ := and2 h1
      obtain ⟨h1, h8⟩ := and2 h1
      obtain ⟨h1, h7⟩ := and2 h1
      obtain ⟨h1, h6⟩ := and2 h1
      obtain ⟨h1, h5⟩ := and2 h1
      obtain ⟨h1, h4⟩ := and2 h1
      obtain ⟨h1, h3⟩ := and2 h1
      obtain ⟨h1, h2⟩ := and2 h1
      have e0 := of_decide_eq_true h2
      have e00 := of_decide_eq_true h3
      have e000 : ifs0 = [] := List.isEmpty_iff.mp h1
      subst e0 e00 e000
      have eo := of_decide_eq_true h8
      have hok : BlkOk X.N X.env.scope scope ((own ++ own1).filterMap fun i => (N[i]?).map fun x => (x, i)) := by rw [S.eN, hs]; exact blkOk_by h7
      have hI : SndI X tgt iter (runI C it) := chkI_ok it X sc _ _ S hs h6
      have hsc : ∀ s H c cl fp, (XB X scope s H c cl fp).env.scope = relS scope sc := fun s H c cl fp => by rw [← hs]; rfl
      have hT : ∀ s H c cl fp, TgOk (XB X scope s H c cl fp) tg tgt := fun s H c cl fp => chkT_ok (S.blk scope s H c cl fp).eN (hsc s H c cl fp) (fun x q => q) tg tgt h9
      have hT1 : ∀ s H c cl fp, TgOk (XB X scope s H c cl fp) tg1 tgt1 := fun s H c cl fp => chkT_ok (S.blk scope s H c cl fp).eN (hsc s H c cl fp) (fun x q => q) tg1 tgt1 h11
      have hE : ∀ s H c cl fp, Snd (XB X scope s H c cl fp) el (run C elt) := fun s H c cl fp => chk_ok elt _ _ _ (S.blk scope s H c cl fp) (hsc s H c cl fp) h13
      have hix : ∀ i ∈ ixs tg, i ∈ own := fun i hi => List.contains_iff_mem.mp (List.all_eq_true.mp h10 i hi)
      have hix1 : ∀ i ∈ ixs tg1, i ∈ own1 := fun i hi => List.contains_iff_mem.mp (List.all_eq_true.mp h12 i hi)
      have hJ : ∀ s H c cl fp, SndJ (XB X scope s H c cl fp) tgt1 iter1 (evJ k1 (run C a1) (runO C b1)) := fun s H c cl fp => by
        have S' := S.blk scope s H c cl fp
        have hs' := hsc s H c cl fp
        split at h15
        · obtain ⟨g1, g2⟩ := and2 h15
          have e1 : b1 = none := by cases b1 with | none => rfl | some _ => cases g1
          subst e1
          exact seq_j (chk_ok a1 _ _ _ S' hs' g2)
        · split at h15
          · obtain ⟨g1, g6⟩ := and2 h15
            obtain ⟨g1, g5⟩ := and2 g1
            obtain ⟨g1, g4⟩ := and2 g1
            obtain ⟨g1, g3⟩ := and2 g1
            obtain ⟨g1, g2⟩ := and2 g1
            have e1 : b1 = none := by cases b1 with | none => rfl | some _ => cases g1
            have e2 := beq_iff_eq.mp g2
            subst e1 e2
            exact rng1_j (gl_of hs' g3) (free_of S' g4) g5 (chk_ok a1 _ _ _ S' hs' g6)
          · cases h15
        · split at h15
          · obtain ⟨g1, g7⟩ := and2 h15
            obtain ⟨g1, g6⟩ := and2 g1
            obtain ⟨g1, g5⟩ := and2 g1
            obtain ⟨g1, g4⟩ := and2 g1
            obtain ⟨g1, g3⟩ := and2 g1
            obtain ⟨g1, g2⟩ := and2 g1
            have e2 := beq_iff_eq.mp g1
            subst e2
            have hb := chkO_ok b1 _ _ _ S' hs' g7
            have ha := chk_ok a1 _ _ _ S' hs' g6
            generalize runO C b1 = rb at hb
            cases hb with
            | some hb => exact rng2_j (gl_of hs' g2) (free_of S' g3) g4 g5 ha hb
          · cases h15
        · cases h15
      unfold run
      have key : ∀ (co : Option Expr), ifs = co.toList → (∀ s H c cl fp, OptS (XB X scope s H c cl fp) co (runO C cond)) → Snd X (.ListComp el [⟨tgt, iter, [], 0⟩, ⟨tgt1, iter1, ifs, 0⟩] scope p) (ofV (evComp2 (run C elt) tg (runI C it) tg1 (evJ k1 (run C a1) (runO C b1)) (runO C cond) own own1)) := fun co e hC => by
        have hv := comp2_v (pos := p) (cond := co) S.calm (by rw [S.eN]; exact S.nd) hI hok eo hT hix hJ hT1 hix1 hC hE (notSet_ok h4 X.env) (fun env x => notSet_ok h5 env x)
        rw [e]
        exact hv.snd rfl
      split at h14
      · split at h14
        · exact key none rfl fun s H c cl fp => by unfold runO; exact .none
        · cases h14
      · rename_i i
        exact key (some i) rfl fun s H c cl fp => chkO_ok cond _ _ _ (S.blk scope s H c cl fp) (hsc s H c cl fp) h14
      · cases h14
    · cases h
  | .dcomp ke ve tg it own, X, sc, x, S, hs, h => by (unfold chk at h; cases h)
  | .lenT p, X, sc, x, S, hs, h => by (unfold chk at h; cases h)
  | .callF j m r args, X, sc, x, S, hs, h => by
    unfold chk at h
    split at h
    · obtain ⟨h1, h8⟩ := and2 h
      obtain ⟨h1, h7⟩ := and2 h1
      obtain ⟨h1, h6⟩ := and2 h1
      obtain ⟨h1, h5⟩ := and2 h1
      obtain ⟨h1, h4⟩ := and2 h1
      obtain ⟨h1, h3⟩ := and2 h1
      obtain ⟨h1, h2⟩ := and2 h1
      have e2 := beq_iff_eq.mp h1
      have e0 := beq_iff_eq.mp h3
      subst e0
      obtain ⟨c, hc⟩ := Option.isSome_iff_exists.mp h2
      obtain ⟨p0, hp0, ec⟩ := Option.bind_eq_some_iff.mp hc
      obtain ⟨d, hd, e1⟩ := Option.map_eq_some_iff.mp (show (g.P[j]?).map (fun d => (d.name, d.cls)) = some p0 from hp0)
      rw [hp0] at e2
      subst e1
      have e2 : d.name = _ := Option.some.inj e2
      subst e2
      obtain ⟨f, fd, ps, m1, kp, bd, F⟩ := S.defs j d hd
      obtain ⟨C0, kc, cl, mgc, mt, _⟩ := m1.meth ec
      unfold run
      exact SndV.snd (callF_v h4 (of_decide_eq_true h5) h6 (chk_ok r X sc _ S hs h7) (chks_ok args X sc _ S hs h8) (fun sl r e => S.len j d sl r hd e) ((S.eC j d hd).trans ec) kc cl mt F S.roomK bd) rfl
    · cases h
  | .mk c j args, X, sc, x, S, hs, h => by
    unfold chk at h
    split at h
    · obtain ⟨h1, h5⟩ := and2 h
      obtain ⟨h1, h4⟩ := and2 h1
      obtain ⟨h1, h3⟩ := and2 h1
      obtain ⟨h1, h2⟩ := and2 h1
      obtain ⟨d, hd, e1, hcl⟩ := nm_ok h1
      have e0 := beq_iff_eq.mp h2
      subst e0
      obtain ⟨f, fd, ps, m1, kp, bd, F⟩ := S.defs j d hd
      obtain ⟨C0, kc, cl, mgc, mt, mk⟩ := m1.meth hcl
      unfold run
      have hl := chks_ok args X sc _ S hs h5
      exact SndV.snd (mk_v hl (fun sl r e => S.len j d sl r hd e) kc cl ⟨(mk e1).1, by rw [← e1]; exact mt.at_, mt.fn, (mk e1).2⟩ F S.room bd (gl_of hs h3) mgc (okN_ok h4).1) rfl
    · cases h
  | .dctV kvs, X, sc, x, S, hs, h => by
    unfold chk at h
    split at h
    · obtain ⟨h1, h3⟩ := and2 h
      obtain ⟨h1, h2⟩ := and2 h1
      unfold run
      exact SndV.snd (dctV_v (chkNm_ok S hs h3) (fun e => by rw [e] at h1; cases h1) (of_decide_eq_true h2)) rfl
    · cases h
  | .getT p k df, X, sc, x, S, hs, h => by
    unfold chk at h
    split at h
    · obtain ⟨h1, h8⟩ := and2 h
      obtain ⟨h1, h7⟩ := and2 h1
      obtain ⟨h1, h6⟩ := and2 h1
      obtain ⟨h1, h5⟩ := and2 h1
      obtain ⟨h1, h4⟩ := and2 h1
      obtain ⟨h1, h3⟩ := and2 h1
      obtain ⟨h1, h2⟩ := and2 h1
      have e0 := beq_iff_eq.mp h1
      subst e0
      unfold run
      have hu : X.A.units + 1 < cLine := by have := S.units; omega
      exact SndV.snd (getT_v hu (chk_ok p X sc _ S hs h4) (chk_ok k X sc _ S hs h7) (chk_ok df X sc _ S hs h8) ⟨abOk_ok h2 _ _, by rw [notSt_ok h5, notSt_ok h6]; rfl, h3, by rw [notSt_ok h5, notSt_ok h6]; rfl⟩) rfl
    · cases h
  | .callD j args, X, sc, x, S, hs, h => by (unfold chk at h; cases h)
  | .callM j m args, X, sc, x, S, hs, h => by (unfold chk at h; cases h)
  | .new c j args, X, sc, x, S, hs, h => by (unfold chk at h; cases h)
theorem chks_ok : ∀ (es : List E) (X : Cx) (sc : Scope) (xs : List Expr), Sta g C N k X → X.env.scope = sc → chks g N es sc xs = true → SndL X xs (runs C es)
  | [], X, sc, [], S, hs, h => by unfold runs; exact .nil
  | e :: es, X, sc, x :: xs, S, hs, h => by
    unfold chks at h
    obtain ⟨h1, h2⟩ := and2 h
    obtain ⟨h0, h1⟩ := and2 h1
    unfold runs
    exact .cons h0 (chk_ok e X sc x S hs h1) (chks_ok es X sc xs S hs h2)
  | [], X, sc, _ :: _, S, hs, h => by unfold chks at h; cases h
  | _ :: _, X, sc, [], S, hs, h => by unfold chks at h; cases h
theorem chkO_ok : ∀ (e : Option E) (X : Cx) (sc : Scope) (x : Option Expr), Sta g C N k X → X.env.scope = sc → chkO g N e sc x = true → OptS X x (runO C e)
  | none, X, sc, none, S, hs, h => by unfold runO; exact .none
  | some e, X, sc, some x, S, hs, h => by
    unfold chkO at h
    unfold runO
    exact .some (chk_ok e X sc x S hs h)
  | none, X, sc, some _, S, hs, h => by unfold chkO at h; cases h
  | some _, X, sc, none, S, hs, h => by unfold chkO at h; cases h
theorem chkI_ok : ∀ (it : It) (X : Cx) (sc : Scope) (tg x : Expr), Sta g C N k X → X.env.scope = sc → chkI g N it sc tg x = true → SndI X tg x (runI C it)
  | .seq e, X, sc, tg, x, S, hs, h => by
    unfold chkI at h
    unfold runI
    exact seq_it (chk_ok e X sc x S hs h)
  | .rng1 a, X, sc, tg, x, S, hs, h => by
    unfold chkI at h
    split at h
    · obtain ⟨h1, h5⟩ := and2 h
      obtain ⟨h1, h4⟩ := and2 h1
      obtain ⟨h1, h3⟩ := and2 h1
      obtain ⟨h1, h2⟩ := and2 h1
      have e := beq_iff_eq.mp h1
      subst e
      unfold runI
      exact rng1_it (gl_of hs h2) (free_of S h3) h4 (chk_ok a X sc _ S hs h5)
    · cases h
  | .rng2 a b, X, sc, tg, x, S, hs, h => by
    unfold chkI at h
    split at h
    · obtain ⟨h1, h7⟩ := and2 h
      obtain ⟨h1, h6⟩ := and2 h1
      obtain ⟨h1, h5⟩ := and2 h1
      obtain ⟨h1, h4⟩ := and2 h1
      obtain ⟨h1, h3⟩ := and2 h1
      obtain ⟨h1, h2⟩ := and2 h1
      have e := beq_iff_eq.mp h1
      subst e
      unfold runI
      exact rng2_it (gl_of hs h2) (free_of S h3) h4 h5 (chk_ok a X sc _ S hs h6) (chk_ok b X sc _ S hs h7)
    · cases h
  | .enum a, X, sc, tg, x, S, hs, h => by
    unfold chkI at h
    split at h
    · obtain ⟨h1, h5⟩ := and2 h
      obtain ⟨h1, h4⟩ := and2 h1
      obtain ⟨h1, h3⟩ := and2 h1
      obtain ⟨h1, h2⟩ := and2 h1
      have e := beq_iff_eq.mp h1
      subst e
      unfold runI
      exact enum_it (gl_of hs h2) (free_of S h3) h4 (chk_ok a X sc _ S hs h5)
    · cases h
  | .zip a b, X, sc, tg, x, S, hs, h => by
    unfold chkI at h
    split at h
    · obtain ⟨h1, h7⟩ := and2 h
      obtain ⟨h1, h6⟩ := and2 h1
      obtain ⟨h1, h5⟩ := and2 h1
      obtain ⟨h1, h4⟩ := and2 h1
      obtain ⟨h1, h3⟩ := and2 h1
      obtain ⟨h1, h2⟩ := and2 h1
      have e := beq_iff_eq.mp h1
      subst e
      unfold runI
      exact zip_it (gl_of hs h2) (free_of S h3) h4 h5 (chk_ok a X sc _ S hs h6) (chk_ok b X sc _ S hs h7)
    · cases h
end
end
end Q
set_option maxHeartbeats 4000000
namespace Q
open PySem L2 PyProof.Rows

def isStar : Expr → Bool
  | .Starred _ _ => true
  | _ => false
def ssNames (sc : Scope) (ts : List Expr) : List Str := ts.filterMap fun
  | .Name id pos => if sc.names.lookup id == some .local && pos.line == (ts.head?.map (·.pos.line)).getD 0 then some id else none
  | _ => none
/-- the stores of a, b = .., as CPython swaps them -/
def ssD (sc : Scope) (ts : List Expr) (v : Expr) : Option (Option (List Str)) := match v with
  | .Tuple vs _ _ => if (!(ts.length == 2 || ts.length == 3) || vs.length != ts.length) = true then some none
    else if vs.any isStar = true then some none
    else if ((ssNames sc ts).length != ts.length || (ssNames sc ts).eraseDups.length != (ssNames sc ts).length) = true then some none
    else if vs.all (foldedForSure 8) = true then some none
    else if vs.all (constantsAlone 8) = true then none
    else some (some (ssNames sc ts))
  | _ => some none
theorem ss_ok {env : PySem.Env} {sc : Scope} (hs : env.scope = sc) (hk : sc.kind = .function) {ts : List Expr} {k : Nat} {p : Pos} {v : Expr} {r : Option (List Str)} (h : ssD sc ts v = some r) : swappedStores [.Tuple ts k p] v env = pure r := by
  have hb : env.blockKind = .function := by unfold Env.blockKind; rw [hs, hk]; rfl
  cases v with
  | Tuple vs k2 p2 =>
    subst hs
    unfold ssD at h
    dsimp only at h
    unfold swappedStores
    show (if (!(ts.length == 2 || ts.length == 3) || vs.length != ts.length || env.blockKind != ScopeKind.function) = true then pure none else
      if vs.any isStar = true then pure none else
      if ((ssNames env.scope ts).length != ts.length || (ssNames env.scope ts).eraseDups.length != (ssNames env.scope ts).length) = true then pure none else
      if vs.all (foldedForSure 8) = true then pure none else
      if vs.all (constantsAlone 8) = true then _ else pure (some (ssNames env.scope ts))) = pure r
    rw [hb]
    have e1 : (ScopeKind.function != ScopeKind.function) = false := by decide
    rw [e1, Bool.or_false]
    split at h
    · rename_i c; cases h; rw [if_pos c]
    · rename_i c
      rw [if_neg c]
      split at h
      · rename_i c2; cases h; rw [if_pos c2]
      · rename_i c2
        split at h
        · rename_i c3; cases h; rw [if_neg c2, if_pos c3]
        · rename_i c3
          split at h
          · rename_i c4; cases h; rw [if_neg c2, if_neg c3, if_pos c4]
          · rename_i c4
            split at h
            · cases h
            · rename_i c5
              cases h
              rw [if_neg c2, if_neg c3, if_neg c4, if_neg c5]
  | _ => cases h; rfl
/-- is the target stored within the comprehension's frame? -/
def swB (sc : Scope) (x : Str) (p : Pos) (v : Expr) : Bool := match v with
  | .ListComp _ _ s q => lclB sc x && (p.line == q.line) && !(s.names.any fun (n, k) => n == x && (k == .local || k == .cell))
  | .SetComp _ _ _ _ => true
  | .DictComp _ _ _ _ _ => true
  | _ => false
theorem lclB_iff {sc : Scope} {x : Str} : lclB sc x = (sc.names.lookup x == some NameKind.local) := by
  unfold lclB
  split
  · rename_i h; rw [h]; rfl
  · rename_i h
    cases e : sc.names.lookup x with
    | none => rfl
    | some k => cases k <;> first | rfl | exact absurd e h
theorem sw_ok {env : PySem.Env} {sc : Scope} (hs : env.scope = sc) (hk : sc.kind = .function) {x : Str} {p : Pos} {v : Expr} {l : Nat} (h : swB sc x p v = false) : swapsWith v (some (.Name x p)) l env = pure false := by
  have hb : env.blockKind = .function := by unfold Env.blockKind; rw [hs, hk]; rfl
  cases v with
  | ListComp a b s q =>
    unfold swB at h
    unfold swapsWith
    dsimp only
    rw [hb]
    unfold Env.kindOf
    rw [hs]
    rw [lclB_iff] at h
    have e1 : (ScopeKind.function == ScopeKind.function) = true := by decide
    rw [e1, Bool.true_and]
    show pure _ = pure false
    congr 1
  | SetComp _ _ _ _ => cases h
  | DictComp _ _ _ _ _ => cases h
  | _ => rfl
theorem sw_t {env : PySem.Env} {sc : Scope} (hs : env.scope = sc) (hk : sc.kind = .function) {x : Str} {p q : Pos} {a : Expr} {b : List Comprehension} {s : Scope} {l : Nat} (h : swB sc x p (.ListComp a b s q) = true) : swapsWith (.ListComp a b s q) (some (.Name x p)) l env = pure true ∧ sc.names.lookup x = some .local := by
  unfold swB at h
  obtain ⟨h1, h3⟩ := and2 h
  obtain ⟨h1, h2⟩ := and2 h1
  refine ⟨sw_true (by rw [hs]; exact hk) (by rw [hs]; exact lclB_ok h1) h2 (by simpa using h3), lclB_ok h1⟩
def isComp : Expr → Bool
  | .ListComp _ _ _ _ => true
  | .SetComp _ _ _ _ => true
  | .DictComp _ _ _ _ _ => true
  | _ => false
theorem nc_none {v : Expr} (h : isComp v = false) (l : Nat) (env : PySem.Env) : swapsWith v none l env = pure false := by
  cases v <;> first | (cases h; done) | rfl
theorem sole_tup {v : Expr} {es : List Expr} {k : Nat} {p : Pos} {l : Nat} {env : PySem.Env} : swapsWithSole [.Tuple es k p] v l env = pure false := by
  cases v <;> rfl
theorem sole_sub {v a b : Expr} {p : Pos} {l : Nat} {env : PySem.Env} : swapsWithSole [.Subscript a b p] v l env = pure false := by
  cases v <;> rfl
theorem ss_sub {v a b : Expr} {p : Pos} {env : PySem.Env} : swappedStores [.Subscript a b p] v env = pure none := by
  cases v <;> rfl
theorem asg_sub {x : Str} {p tp : Pos} {ix : Expr} (h : notSl ix = true) (env : PySem.Env) (v : Value) : assign (.Subscript (.Name x p) ix tp) env v = (do
      let ov ← holding [v] (eval (.Name x p) env)
      let iv ← holding [v, ov] (eval ix env)
      standAt tp
      holding [v, ov, iv] (PySem.setItem ov iv v)
      release [v, ov, iv] []) := by
  cases ix <;> first | (cases h; done) | rfl
end Q
set_option maxHeartbeats 4000000
namespace Q
open PySem L2 PyProof.Rows
section
variable (g : Gi) (N : List Str)
mutual
def chkS : S → Scope → Stmt → Bool
  | .pass, _, st => match st with
    | .Pass _ => true
    | _ => false
  | .ret e, sc, st => match st with
    | .Return (some x) _ => chk g N e sc x
    | _ => false
  | .retN, _, st => match st with
    | .Return none _ => true
    | _ => false
  | .asg tg e, sc, st => match st with
    | .Assign [t] v _ => (match tg, t with
      | .name i, .Name x p => (N[i]? == some x) && locB sc x && chk g N e sc v && (if swB sc x p v then (match e with | .comp _ _ _ _ _ => isComp v | .comp2 _ _ _ _ _ _ _ _ _ _ => isComp v | _ => false) else true)
      | .tup ts, .Tuple es _ _ => chkTs N sc (fun _ => true) ts es && chk g N e sc v && (match ssD sc es v with | some none => true | _ => false)
      | _, _ => false)
    | _ => false
  | .par i j a b, sc, st => match st with
    | .Assign [.Tuple [.Name x px, .Name y py] _ _] (.Tuple [v, w] _ _) _ => (N[i]? == some x) && (N[j]? == some y) && decide (i ≠ j) && lclB sc x && lclB sc y && chks g N [a, b] sc [v, w] && (match ssD sc [.Name x px, .Name y py] (.Tuple [v, w] 0 px) with | some (some ns) => decide (ns = [x, y]) | _ => false)
    | _ => false
  | .parN is es, sc, st => match st with
    | .Assign [.Tuple ts _ _] (.Tuple vs _ px) _ => decide (is.length ≤ 8) && chks g N es sc vs && (match ssD sc ts (.Tuple vs 0 px) with
      | some none => chkTs N sc (fun _ => true) (is.map .name) ts
      | some (some ns) => (match is, ts, vs with
        | [i, j, l], [.Name x _, .Name y _, .Name w _], [_, _, _] => (N[i]? == some x) && (N[j]? == some y) && (N[l]? == some w) && decide (i ≠ j) && decide (i ≠ l) && decide (j ≠ l) && lclB sc x && lclB sc y && lclB sc w && decide (ns = [x, y, w])
        | _, _, _ => false)
      | none => false)
    | _ => false
  | .setI xi ix e, sc, st => match st with
    | .Assign [.Subscript (.Name x _) iy _] v _ => ((N[xi]? == some x) && visB sc x && okN x) && notSl iy && chk g N ix sc iy && chk g N e sc v
    | _ => false
  | .app xi e, sc, st => match st with
    | .Expr (.Call (.Attribute (.Name x _) m ap) [v] [] cp) _ => ((N[xi]? == some x) && visB sc x && okN x) && (m == ("append" : Str)) && (ap.endLine == cp.line) && notSt v && chk g N e sc v
    | _ => false
  | .expr e, sc, st => match st with
    | .Expr v _ => !isComp v && chk g N e sc v
    | _ => false
  | .aug i op e, sc, st => match st with
    | .AugAssign (.Name x _) o v _ => opB op o && (N[i]? == some x) && locB sc x && chk g N e sc v
    | _ => false
  | .ifs c a b, sc, st => match st with
    | .If x y z _ => chk g N c sc x && chkB a sc y && chkB b sc z
    | _ => false
  | .forS tg it body, sc, st => match st with
    | .For t iter bd [] _ => notSet iter && chkI g N it sc t iter && chkT N sc (fun _ => true) tg t && chkB body sc bd
    | _ => false
  | .whil _ c body, sc, st => match st with
    | .While x bd [] _ => chk g N c sc x && chkB body sc bd
    | _ => false
  | .putT p k e, sc, st => match st with
    | .Assign [.Subscript x y _] v _ => notSl y && chk g N p sc x && chk g N k sc y && chk g N e sc v
    | _ => false
  | .fldT c p f e, sc, st => match st with
    | .Assign [.Attribute x f' _] v _ => (f' == f) && g.flds.contains (c, f) && chk g N p sc x && chk g N e sc v
    | _ => false
  | .stuck, _, _ => true
  | _, _, _ => false
def chkB : List S → Scope → List Stmt → Bool
  | [], _, [] => true
  | .forget _ :: ss, sc, ts => chkB ss sc ts
  | .frzV _ :: ss, sc, ts => chkB ss sc ts
  | s :: ss, sc, t :: ts => chkS s sc t && chkB ss sc ts
  | _, _, _ => false
end
end
section
variable {g : Gi} {C : CtxQ} {N : List Str} {k : Nat} {X : Cx}
/-- the world of a def's body -/
structure StaS (g : Gi) (C : CtxQ) (N : List Str) (k : Nat) (X : Cx) (sc : Scope) : Prop where
  S : Sta g C N k X
  kind : sc.kind = .function
  sc : X.env.scope = sc
  fn : ∀ x, X.fn x = true
  po : PassesOwn (model X.prog X.w) X.A X.env X.xe
theorem moveOf_some {e : E} {ρ : Env} {q : MV × Env} (h : moveOf e ρ = some q) : ∃ i m, e = .var i ∧ ρ[i]? = some (.own m) ∧ q = (m, ρ.set i .unset) := by
  unfold moveOf at h
  split at h
  · split at h
    · rename_i hm
      cases h
      exact ⟨_, _, rfl, hm, rfl⟩
    · cases h
  · cases h
theorem comp_of {sc : Scope} (T : StaS g C N k X sc) {elt : E} {tg : Tg} {it : It} {cond : Option E} {own : List Nat} {v : Expr} (h : chk g N (.comp elt tg it cond own) sc v = true) {x : Str} {i : Nat} {p pos : Pos} (hN : X.N[i]? = some x) (hsw : swB sc x p v = true) :
    SndS X (.Assign [.Name x p] v pos) (fun ρ => ((run C (.comp elt tg it cond own)).v ρ).bind fun q => (putVar i (.own q.1) q.2).bind fun ρ2 => some (.next, ρ2)) := by
  have S := T.S
  have hs := T.sc
  unfold chk at h
  split at h
  · rename_i el tgt iter ifs as scope q
    obtain ⟨h1, h9⟩ := and2 h
    obtain ⟨h1, h8⟩ := and2 h1
    obtain ⟨h1, h7⟩ := and2 h1
    obtain ⟨h1, h6⟩ := and2 h1
    obtain ⟨h1, h5⟩ := and2 h1
    obtain ⟨h1, h4⟩ := and2 h1
    obtain ⟨h1, h3⟩ := and2 h1
    obtain ⟨h1, h2⟩ := and2 h1
    have e0 := of_decide_eq_true h1
    subst e0
    have eo := of_decide_eq_true h5
    have hok : BlkOk X.N X.env.scope scope (own.filterMap fun i => (N[i]?).map fun x => (x, i)) := by rw [S.eN, hs]; exact blkOk_by h4
    have hI : SndI X tgt iter (runI C it) := chkI_ok it X sc _ _ S hs h3
    have hsc : ∀ s H c cl fp, (XB X scope s H c cl fp).env.scope = relS scope sc := fun s H c cl fp => by rw [← hs]; rfl
    have hT : ∀ s H c cl fp, TgOk (XB X scope s H c cl fp) tg tgt := fun s H c cl fp => chkT_ok (S.blk scope s H c cl fp).eN (hsc s H c cl fp) (fun x q => q) tg tgt h6
    have hE : ∀ s H c cl fp, Snd (XB X scope s H c cl fp) el (run C elt) := fun s H c cl fp => chk_ok elt _ _ _ (S.blk scope s H c cl fp) (hsc s H c cl fp) h8
    have hix : ∀ i ∈ ixs tg, i ∈ (own.filterMap fun i => (N[i]?).map fun x => (x, i)).map (·.2) := fun i hi => by
      rw [eo]
      have := List.all_eq_true.mp h7 i hi
      exact List.contains_iff_mem.mp this
    have key : ∀ (co : Option Expr), ifs = co.toList → (∀ s H c cl fp, OptS (XB X scope s H c cl fp) co (runO C cond)) → SndS X (.Assign [.Name x p] (.ListComp el [⟨tgt, iter, ifs, 0⟩] scope q) pos) (fun ρ => (evComp (run C elt) tg (runI C it) (runO C cond) own ρ).bind fun q => (putVar i (.own q.1) q.2).bind fun ρ2 => some (.next, ρ2)) := fun co e hC => by
      subst e
      obtain ⟨w1, w2⟩ := sw_t (l := pos.line) hs T.kind hsw
      have hv := asgLc_s (pos := pos) (cond := co) S.calm (by rw [S.eN]; exact S.nd) hN (by rw [hs]; exact w2) w1 hI hok hT hix hC hE (notSet_ok h2 X.env)
      rw [eo] at hv
      exact hv
    unfold run
    split at h9
    · split at h9
      · exact key none rfl fun s H c cl fp => by unfold runO; exact .none
      · cases h9
    · rename_i i
      exact key (some i) rfl fun s H c cl fp => chkO_ok cond _ _ _ (S.blk scope s H c cl fp) (hsc s H c cl fp) h9
    · cases h9
  · cases h
theorem comp2_of {sc : Scope} (T : StaS g C N k X sc) {elt : E} {tg : Tg} {it : It} {tg1 : Tg} {k1 : Nat} {a1 : E} {b1 cond : Option E} {own own1 : List Nat} {v : Expr} (h : chk g N (.comp2 elt tg it tg1 k1 a1 b1 cond own own1) sc v = true) {x : Str} {i : Nat} {p pos : Pos} (hN : X.N[i]? = some x) (hsw : swB sc x p v = true) :
    SndS X (.Assign [.Name x p] v pos) (fun ρ => ((run C (.comp2 elt tg it tg1 k1 a1 b1 cond own own1)).v ρ).bind fun q => (putVar i (.own q.1) q.2).bind fun ρ2 => some (.next, ρ2)) := by
  have S := T.S
  have hs := T.sc
  unfold chk at h
  split at h
  · rename_i el tgt iter ifs0 as tgt1 iter1 ifs as1 scope q
    obtain ⟨h1, h15⟩ := and2 h
    obtain ⟨h1, h14⟩ := and2 h1
    obtain ⟨h1, h13⟩ := and2 h1
    obtain ⟨h1, h12⟩ := and2 h1
    obtain ⟨h1, h11⟩ := and2 h1
    obtain ⟨h1, h10⟩ := and2 h1
    obtain ⟨h1, h9⟩ := and2 h1
    obtain ⟨h1, h8⟩ := and2 h1
    obtain ⟨h1, h7⟩ := and2 h1
    obtain ⟨h1, h6⟩ := and2 h1
    obtain ⟨h1, h5⟩ := and2 h1
    obtain ⟨h1, h4⟩ := and2 h1
    obtain ⟨h1, h3⟩ := and2 h1
    obtain ⟨h1, h2⟩ := and2 h1
    have e0 := of_decide_eq_true h2
    have e00 := of_decide_eq_true h3
    have e000 : ifs0 = [] := List.isEmpty_iff.mp h1
    subst e0 e00 e000
    have eo := of_decide_eq_true h8
    have hok : BlkOk X.N X.env.scope scope ((own ++ own1).filterMap fun i => (N[i]?).map fun x => (x, i)) := by rw [S.eN, hs]; exact blkOk_by h7
    have hI : SndI X tgt iter (runI C it) := chkI_ok it X sc _ _ S hs h6
    have hsc : ∀ s H c cl fp, (XB X scope s H c cl fp).env.scope = relS scope sc := fun s H c cl fp => by rw [← hs]; rfl
    have hT : ∀ s H c cl fp, TgOk (XB X scope s H c cl fp) tg tgt := fun s H c cl fp => chkT_ok (S.blk scope s H c cl fp).eN (hsc s H c cl fp) (fun x q => q) tg tgt h9
    have hT1 : ∀ s H c cl fp, TgOk (XB X scope s H c cl fp) tg1 tgt1 := fun s H c cl fp => chkT_ok (S.blk scope s H c cl fp).eN (hsc s H c cl fp) (fun x q => q) tg1 tgt1 h11
    have hE : ∀ s H c cl fp, Snd (XB X scope s H c cl fp) el (run C elt) := fun s H c cl fp => chk_ok elt _ _ _ (S.blk scope s H c cl fp) (hsc s H c cl fp) h13
    have hix : ∀ i ∈ ixs tg, i ∈ own := fun i hi => List.contains_iff_mem.mp (List.all_eq_true.mp h10 i hi)
    have hix1 : ∀ i ∈ ixs tg1, i ∈ own1 := fun i hi => List.contains_iff_mem.mp (List.all_eq_true.mp h12 i hi)
    have hJ : ∀ s H c cl fp, SndJ (XB X scope s H c cl fp) tgt1 iter1 (evJ k1 (run C a1) (runO C b1)) := fun s H c cl fp => by
      have S' := S.blk scope s H c cl fp
      have hs' := hsc s H c cl fp
      split at h15
      · obtain ⟨g1, g2⟩ := and2 h15
        have e1 : b1 = none := by cases b1 with | none => rfl | some _ => cases g1
        subst e1
        exact seq_j (chk_ok a1 _ _ _ S' hs' g2)
      · split at h15
        · obtain ⟨g1, g6⟩ := and2 h15
          obtain ⟨g1, g5⟩ := and2 g1
          obtain ⟨g1, g4⟩ := and2 g1
          obtain ⟨g1, g3⟩ := and2 g1
          obtain ⟨g1, g2⟩ := and2 g1
          have e1 : b1 = none := by cases b1 with | none => rfl | some _ => cases g1
          have e2 := beq_iff_eq.mp g2
          subst e1 e2
          exact rng1_j (gl_of hs' g3) (free_of S' g4) g5 (chk_ok a1 _ _ _ S' hs' g6)
        · cases h15
      · split at h15
        · obtain ⟨g1, g7⟩ := and2 h15
          obtain ⟨g1, g6⟩ := and2 g1
          obtain ⟨g1, g5⟩ := and2 g1
          obtain ⟨g1, g4⟩ := and2 g1
          obtain ⟨g1, g3⟩ := and2 g1
          obtain ⟨g1, g2⟩ := and2 g1
          have e2 := beq_iff_eq.mp g1
          subst e2
          have hb := chkO_ok b1 _ _ _ S' hs' g7
          have ha := chk_ok a1 _ _ _ S' hs' g6
          generalize runO C b1 = rb at hb
          cases hb with
          | some hb => exact rng2_j (gl_of hs' g2) (free_of S' g3) g4 g5 ha hb
        · cases h15
      · cases h15
    have key : ∀ (co : Option Expr), ifs = co.toList → (∀ s H c cl fp, OptS (XB X scope s H c cl fp) co (runO C cond)) → SndS X (.Assign [.Name x p] (.ListComp el [⟨tgt, iter, [], 0⟩, ⟨tgt1, iter1, ifs, 0⟩] scope q) pos) (fun ρ => (evComp2 (run C elt) tg (runI C it) tg1 (evJ k1 (run C a1) (runO C b1)) (runO C cond) own own1 ρ).bind fun q => (putVar i (.own q.1) q.2).bind fun ρ2 => some (.next, ρ2)) := fun co e hC => by
      subst e
      obtain ⟨w1, w2⟩ := sw_t (l := pos.line) hs T.kind hsw
      exact asgLc2_s (pos := pos) (cond := co) S.calm (by rw [S.eN]; exact S.nd) hN (by rw [hs]; exact w2) w1 hI hok eo hT hix hJ hT1 hix1 hC hE (notSet_ok h4 X.env) (fun env x => notSet_ok h5 env x)
    unfold run
    split at h14
    · split at h14
      · exact key none rfl fun s H c cl fp => by unfold runO; exact .none
      · cases h14
    · rename_i i
      exact key (some i) rfl fun s H c cl fp => chkO_ok cond _ _ _ (S.blk scope s H c cl fp) (hsc s H c cl fp) h14
    · cases h14
  · cases h
theorem exes_next {C : CtxQ} {s : S} {ss : List S} {ρ ρ1 : Env} (h : exe C s ρ = some (.next, ρ1)) : exes C (s :: ss) ρ = exes C ss ρ1 := by
  conv => lhs; unfold exes
  rw [h]; rfl
theorem fin_after {z z1 : Z} {D : Ends} {fl : Flow} {ρ' : Env} (R : Rel X.K z) (s : Stp X.K z z1) (f : Fin' X.K z D fl ρ') : Fin' X.K z1 D fl ρ' := by
  cases fl with
  | next => exact fun z5 s5 er5 => f z5 (s.trans R s5) er5
  | cnt => exact fun z5 s5 er5 => f z5 (s.trans R s5) er5
  | brk => exact fun z5 s5 er5 => f z5 (s.trans R s5) er5
  | ret r => exact fun v z5 T s5 er5 t5 => f v z5 T (s.trans R s5) er5 (t5.after s.fr)
theorem forget_b {is : List Nat} {ss : List S} {ts : List Stmt} (h : SndB X ts (exes C ss)) : SndB X ts (exes C (.forget is :: ss)) := fun z fl ρ' R e D f => by
  cases hg : gone is z.ρ with
  | false =>
    have : exes C (.forget is :: ss) z.ρ = none := by
      conv => lhs; unfold exes
      unfold exe
      rw [hg]; rfl
    rw [this] at e; cases e
  | true =>
    have e0 : exe C (.forget is) z.ρ = some (.next, wipeE is z.ρ) := by unfold exe; rw [hg]; rfl
    rw [exes_next e0] at e
    have s := forget_ok R hg
    exact h (z.forget is) fl ρ' s.rel e D (fin_after R s f)
theorem frz_b {i : Nat} {ss : List S} {ts : List Stmt} (h : SndB X ts (exes C ss)) : SndB X ts (exes C (.frzV i :: ss)) := fun z fl ρ' R e D f => by
  have e1 : (thenS ((frzAt i z.ρ).bind fun ρ2 => some (Flow.next, ρ2)) (exes C ss)) = some (fl, ρ') := by
    have : exes C (.frzV i :: ss) z.ρ = thenS (exe C (.frzV i) z.ρ) (exes C ss) := by conv => lhs; unfold exes
    rw [this] at e
    unfold exe at e
    exact e
  unfold frzAt at e1
  split at e1
  · rename_i m hm
    have e2 : exes C ss (z.ρ.set i (.own (.val (freeze m)))) = some (fl, ρ') := e1
    obtain ⟨v, A, hv, st, rp⟩ := froze_ok (b := true) R hm
    exact h _ fl ρ' st.rel e2 D (fin_after R st f)
  · cases e1
mutual
theorem chkS_ok : ∀ (s : S) (sc : Scope) (st : Stmt), StaS g C N k X sc → chkS g N s sc st = true → SndS X st (exe C s)
  | .pass, sc, st, T, h => by
    unfold chkS at h
    split at h
    · exact pass_s
    · cases h
  | .ret e, sc, st, T, h => by
    unfold chkS at h
    split at h
    · rename_i x p
      have he := chk_ok e X sc x T.S T.sc h
      intro z fl ρ' R e1 D f
      unfold exe at e1
      split at e1
      · rename_i q hq
        obtain ⟨i, m, e0, hm, eq⟩ := moveOf_some hq
        subst e0 eq
        cases e1
        obtain ⟨v, hv, s, t⟩ := move_ok R hm
        unfold chk at h
        split at h
        · obtain ⟨a1, a2, a3, a4⟩ := vis_pe (p := default) T.S T.sc h
          exact PS.rn (ps_ret (pe_var a1 a2 a3 a4)) ⟨v, hv, f v { z with ρ := z.ρ.set i .unset, TS := z.TS.up i [] } _ s rfl t⟩
        · cases h
      · exact ret_s he R e1 f
    · cases h
  | .retN, sc, st, T, h => by
    unfold chkS at h
    split at h
    · exact retN_s
    · cases h
  | .asg tg e, sc, st, T, h => by
    unfold chkS at h
    split at h
    · rename_i t v pos
      split at h
      · rename_i i x p
        obtain ⟨h1, h4⟩ := and2 h
        obtain ⟨h1, h3⟩ := and2 h1
        obtain ⟨h1, h2⟩ := and2 h1
        have hN : X.N[i]? = some x := by rw [T.S.eN]; exact beq_iff_eq.mp h1
        cases hsw : swB sc x p v with
        | true =>
          rw [hsw] at h4
          simp only [if_true] at h4
          split at h4
          · exact comp_of T h3 hN hsw
          · exact comp2_of T h3 hN hsw
          · cases h4
        | false => exact asg_s (by rw [T.S.eN]; exact T.S.nd) hN (by rw [T.sc]; exact locB_ok h2) (.inl (T.fn x)) (chk_ok e X sc v T.S T.sc h3) (sw_ok T.sc T.kind hsw)
      · rename_i ts es kk p
        obtain ⟨h1, h3⟩ := and2 h
        obtain ⟨h1, h2⟩ := and2 h1
        split at h3
        · rename_i hss
          exact asgT_s (by rw [T.S.eN]; exact T.S.nd) T.S.calm (.tup (chkTs_ok T.S.eN T.sc (fun x _ => T.fn x) ts es h1)) (chk_ok e X sc v T.S T.sc h2) sole_tup (ss_ok T.sc T.kind hss)
        · cases h3
      · cases h
    · cases h
  | .par i j a b, sc, st, T, h => by
    unfold chkS at h
    split at h
    · rename_i x px y py kt pt v w k2 pt2 pos
      obtain ⟨h1, h7⟩ := and2 h
      obtain ⟨h1, h6⟩ := and2 h1
      obtain ⟨h1, h5⟩ := and2 h1
      obtain ⟨h1, h4⟩ := and2 h1
      obtain ⟨h1, h3⟩ := and2 h1
      obtain ⟨h1, h2⟩ := and2 h1
      have hl := chks_ok [a, b] X sc [v, w] T.S T.sc h6
      split at h7
      · rename_i ns hss
        have e := of_decide_eq_true h7
        subst e
        exact par_s (by rw [T.S.eN]; exact T.S.nd) T.S.calm (by rw [T.S.eN]; exact beq_iff_eq.mp h1) (by rw [T.S.eN]; exact beq_iff_eq.mp h2) (of_decide_eq_true h3) (by rw [T.sc]; exact lclB_ok h4) (by rw [T.sc]; exact lclB_ok h5) hl (ss_ok T.sc T.kind hss) sole_tup
      · cases h7
    · cases h
  | .parN is es, sc, st, T, h => by
    unfold chkS at h
    split at h
    · rename_i ts kt pt vs k2 pt2 pos
      obtain ⟨h1, h3⟩ := and2 h
      obtain ⟨h1, h2⟩ := and2 h1
      have h8 := of_decide_eq_true h1
      have hl := chks_ok es X sc vs T.S T.sc h2
      have hnd : X.N.Nodup := by rw [T.S.eN]; exact T.S.nd
      split at h3
      · rename_i hss
        exact parT_s hnd T.S.calm h8 (chkTs_ok T.S.eN T.sc (fun x _ => T.fn x) _ ts h3) hl sole_tup (ss_ok T.sc T.kind hss)
      · rename_i ns hss
        split at h3
        · obtain ⟨h3, g10⟩ := and2 h3
          obtain ⟨h3, g9⟩ := and2 h3
          obtain ⟨h3, g8⟩ := and2 h3
          obtain ⟨h3, g7⟩ := and2 h3
          obtain ⟨h3, g6⟩ := and2 h3
          obtain ⟨h3, g5⟩ := and2 h3
          obtain ⟨h3, g4⟩ := and2 h3
          obtain ⟨h3, g3⟩ := and2 h3
          obtain ⟨g1, g2⟩ := and2 h3
          have e := of_decide_eq_true g10
          subst e
          exact par3_s hnd T.S.calm (by rw [T.S.eN]; exact beq_iff_eq.mp g1) (by rw [T.S.eN]; exact beq_iff_eq.mp g2) (by rw [T.S.eN]; exact beq_iff_eq.mp g3) (of_decide_eq_true g4) (of_decide_eq_true g5) (of_decide_eq_true g6) (by rw [T.sc]; exact lclB_ok g7) (by rw [T.sc]; exact lclB_ok g8) (by rw [T.sc]; exact lclB_ok g9) hl (ss_ok T.sc T.kind hss) sole_tup
        · cases h3
      · cases h3
    · cases h
  | .setI xi ix e, sc, st, T, h => by
    unfold chkS at h
    split at h
    · obtain ⟨h1, h4⟩ := and2 h
      obtain ⟨h1, h3⟩ := and2 h1
      obtain ⟨h1, h2⟩ := and2 h1
      obtain ⟨a1, a2, a3, a4⟩ := vis_pe (p := default) T.S T.sc h1
      exact setI_s (pe_var a1 a2 a3 a4) (chk_ok e X sc _ T.S T.sc h4) (chk_ok ix X sc _ T.S T.sc h3) h2 sole_sub ss_sub (asg_sub h2 X.env)
    · cases h
  | .app xi e, sc, st, T, h => by
    unfold chkS at h
    split at h
    · obtain ⟨h1, h5⟩ := and2 h
      obtain ⟨h1, h4⟩ := and2 h1
      obtain ⟨h1, h3⟩ := and2 h1
      obtain ⟨h1, h2⟩ := and2 h1
      obtain ⟨a1, a2, a3, a4⟩ := vis_pe (p := default) T.S T.sc h1
      have e0 := beq_iff_eq.mp h2
      subst e0
      refine app_s (pe_var a1 a2 a3 a4) h4 (chk_ok e X sc _ T.S T.sc h5) fun ha => ?_
      exact pe_bm PySem.F.plainAttrs_list PySem.F.slot_list_append PySem.F.type_list_append mt_append (pe_var a1 a2 a3 a4) ha rfl (by rw [notSt_ok h4]; rfl) h3 (notSt_ok h4 _ _) rfl
    · cases h
  | .expr e, sc, st, T, h => by
    unfold chkS at h
    split at h
    · obtain ⟨h1, h2⟩ := and2 h
      exact expr_s (chk_ok e X sc _ T.S T.sc h2) (nc_none (by simpa using h1) _ _)
    · cases h
  | .aug i op e, sc, st, T, h => by
    unfold chkS at h
    split at h
    · obtain ⟨h1, h4⟩ := and2 h
      obtain ⟨h1, h3⟩ := and2 h1
      obtain ⟨h1, h2⟩ := and2 h1
      have e0 := opB_ok h1
      subst e0
      exact aug_s (by rw [T.S.eN]; exact T.S.nd) (by rw [T.S.eN]; exact beq_iff_eq.mp h2) (by rw [T.sc]; exact locB_ok h3) (.inl (T.fn _)) (chk_ok e X sc _ T.S T.sc h4)
    · cases h
  | .ifs c a b, sc, st, T, h => by
    unfold chkS at h
    split at h
    · obtain ⟨h1, h3⟩ := and2 h
      obtain ⟨h1, h2⟩ := and2 h1
      exact if_s (chk_ok c X sc _ T.S T.sc h1) (chkB_ok a sc _ T h2) (chkB_ok b sc _ T h3)
    · cases h
  | .forS tg it body, sc, st, T, h => by
    unfold chkS at h
    split at h
    · obtain ⟨h1, h4⟩ := and2 h
      obtain ⟨h1, h3⟩ := and2 h1
      obtain ⟨h1, h2⟩ := and2 h1
      exact for_s T.po (by rw [T.S.eN]; exact T.S.nd) T.S.calm (chkI_ok it X sc _ _ T.S T.sc h2) (chkT_ok T.S.eN T.sc (fun x _ => T.fn x) tg _ h3) (chkB_ok body sc _ T h4) (notSet_ok h1 X.env)
    · cases h
  | .whil n c body, sc, st, T, h => by
    unfold chkS at h
    split at h
    · obtain ⟨h1, h2⟩ := and2 h
      exact while_s T.po (chk_ok c X sc _ T.S T.sc h1) (chkB_ok body sc _ T h2)
    · cases h
  | .putT p k e, sc, st, T, h => by
    unfold chkS at h
    split at h
    · obtain ⟨h1, h4⟩ := and2 h
      obtain ⟨h1, h3⟩ := and2 h1
      obtain ⟨h1, h2⟩ := and2 h1
      exact putT_s (by have := T.S.units; omega) (chk_ok p X sc _ T.S T.sc h2) (chk_ok k X sc _ T.S T.sc h3) (chk_ok e X sc _ T.S T.sc h4) sole_sub ss_sub (asg_sub2 h1 X.env)
    · cases h
  | .stuck, sc, st, T, h => fun z fl ρ' R e => by cases e
  | .fldT c p f e, sc, st, T, h => by
    unfold chkS at h
    split at h
    · obtain ⟨h1, h4⟩ := and2 h
      obtain ⟨h1, h3⟩ := and2 h1
      obtain ⟨h1, h2⟩ := and2 h1
      have e0 := beq_iff_eq.mp h1
      subst e0
      exact fldT_s (chk_ok p X sc _ T.S T.sc h3) (chk_ok e X sc _ T.S T.sc h4) (fun C kc => T.S.nof c _ (List.contains_iff_mem.mp h2) C kc) sw_attr
    · cases h
  | .fldsT i fs e, sc, st, T, h => by (unfold chkS at h; cases h)
  | .forget _, sc, st, T, h => by (unfold chkS at h; cases h)
  | .frzV _, sc, st, T, h => by (unfold chkS at h; cases h)
theorem chkB_ok : ∀ (s : List S) (sc : Scope) (st : List Stmt), StaS g C N k X sc → chkB g N s sc st = true → SndB X st (exes C s)
  | [], sc, [], T, h => nil_b
  | .forget is :: ss, sc, ts, T, h => forget_b (chkB_ok ss sc ts T (by unfold chkB at h; exact h))
  | .frzV i :: ss, sc, ts, T, h => frz_b (chkB_ok ss sc ts T (by unfold chkB at h; exact h))
  | s :: ss, sc, t :: ts, T, h => by
    have cons : chkS g N s sc t = true → chkB g N ss sc ts = true → SndB X (t :: ts) (exes C (s :: ss)) := fun h1 h2 => cons_b (chkS_ok s sc t T h1) (chkB_ok ss sc ts T h2)
    cases s <;> first
      | (exact forget_b (chkB_ok ss sc (t :: ts) T (by unfold chkB at h; exact h)))
      | (exact frz_b (chkB_ok ss sc (t :: ts) T (by unfold chkB at h; exact h)))
      | (unfold chkB at h; obtain ⟨h1, h2⟩ := and2 h; exact cons h1 h2)
  | [], sc, _ :: _, T, h => by unfold chkB at h; cases h
  | s :: ss, sc, [], T, h => by
    cases s <;> first
      | (exact forget_b (chkB_ok ss sc [] T (by unfold chkB at h; exact h)))
      | (exact frz_b (chkB_ok ss sc [] T (by unfold chkB at h; exact h)))
      | (unfold chkB at h; cases h)
end
end
end Q
set_option maxHeartbeats 4000000
namespace Q
open PySem L2 PyProof.Rows

/-! ### a def's frame: its parameters, then its own names -/
theorem ext_get {ρ : Env} {n i : Nat} {s : Slot} (h : (ρ ++ List.replicate n Slot.unset)[i]? = some s) : ρ[i]? = some s ∨ (ρ[i]? = none ∧ s = .unset) := by
  by_cases hi : i < ρ.length
  · rw [List.getElem?_append_left hi] at h; exact .inl h
  · rw [List.getElem?_append_right (by omega), List.getElem?_replicate] at h
    split at h
    · cases h; exact .inr ⟨List.getElem?_eq_none_iff.mpr (by omega), rfl⟩
    · cases h
theorem ext_of {ρ : Env} {n i : Nat} {s : Slot} (h : ρ[i]? = some s) : (ρ ++ List.replicate n Slot.unset)[i]? = some s := by
  rw [List.getElem?_append_left (List.getElem?_eq_some_iff.mp h).1]; exact h
section
variable {K : PySem.W.Frag} {z : Z}
def Z.ext (z : Z) (n : Nat) : Z := { z with ρ := z.ρ ++ List.replicate n .unset, σ := z.σ ++ List.replicate n none }
theorem ext_S {n : Nat} : (z.ext n).S = z.S := by
  funext a
  refine propext ⟨fun ⟨i, h, k⟩ => ⟨i, h, fun ⟨m, q⟩ => k ⟨m, ext_of q⟩⟩, fun ⟨i, h, k⟩ => ⟨i, h, fun ⟨m, q⟩ => ?_⟩⟩
  rcases ext_get q with q | ⟨_, q⟩
  · exact k ⟨m, q⟩
  · cases q
theorem ext_ok (R : Rel K z) (n : Nat) : Rel K (z.ext n) := by
  refine ⟨?_, fun i s e => ?_, fun i e => ?_, R.nd, R.dj, R.trk⟩
  · show (z.ρ ++ _).length = (z.σ ++ _).length
    simp [R.len]
  · rcases ext_get e with e | ⟨e0, rfl⟩
    · obtain ⟨o, e2, r⟩ := R.slot i s e
      refine ⟨o, ?_, ?_⟩
      · show (z.σ ++ _)[i]? = _
        rw [List.getElem?_append_left (by rw [← R.len]; exact R.lt e)]; exact e2
      · rw [ext_S]; exact r
    · have hl : i < (z.ρ ++ List.replicate n Slot.unset).length := (List.getElem?_eq_some_iff.mp e).1
      refine ⟨(z.σ ++ List.replicate n none)[i]'(by simpa [R.len] using hl), List.getElem?_eq_getElem _, ?_⟩
      show SlotR K _ _ _ _ _ (z.TS i)
      rw [R.out i e0]; exact .unset
  · refine R.out i ?_
    have : (z.ρ ++ List.replicate n Slot.unset)[i]? = none := e
    rw [List.getElem?_eq_none_iff] at this ⊢
    simp at this; omega
/-- a def's end: its own names are gone -/
def Z.cut (z : Z) (np : Nat) : Z := { z with ρ := z.ρ.take np, σ := z.σ.take np, TS := fun i => if i < np then z.TS i else [] }
theorem take_get {α : Type} {xs : List α} {n i : Nat} {x : α} (h : (xs.take n)[i]? = some x) : i < n ∧ xs[i]? = some x := by
  rw [List.getElem?_take] at h
  split at h
  · rename_i hi; exact ⟨hi, h⟩
  · cases h
theorem cut_S {zf : Z} {np : Nat} {a : Addr} (h : (zf.cut np).S a) : zf.S a := by
  obtain ⟨i, h, k⟩ := h
  have h : a ∈ (if i < np then zf.TS i else []) := h
  split at h
  · rename_i hi
    refine ⟨i, h, fun ⟨m, q⟩ => k ⟨m, ?_⟩⟩
    show (zf.ρ.take np)[i]? = _
    rw [List.getElem?_take, if_pos hi]; exact q
  · cases h
theorem cut_ok {zf : Z} {n np : Nat} (R : Rel K z) (hn : z.ρ.length = np) (s : Stp K (z.ext n) zf) : Stp K z (zf.cut np) := by
  have len : zf.ρ.length = np + n := by
    have := s.kp.len
    rw [this]; show (z.ρ ++ _).length = _; simp [hn]
  have lenσ : zf.σ.length = np + n := by rw [← s.rel.len]; exact len
  have cg : ∀ {i : Nat} {t : Slot}, i < np → zf.ρ[i]? = some t → (zf.ρ.take np)[i]? = some t := fun {i t} hi h => by rw [List.getElem?_take, if_pos hi]; exact h
  have cσ : ∀ {i : Nat}, i < np → (zf.σ.take np)[i]? = zf.σ[i]? := fun {i} hi => by rw [List.getElem?_take, if_pos hi]
  have eσ : ∀ {i : Nat}, i < np → (z.ext n).σ[i]? = z.σ[i]? := fun {i} hi => by
    show (z.σ ++ _)[i]? = _
    rw [List.getElem?_append_left (by rw [← R.len, hn]; exact hi)]
  have lt : ∀ {i : Nat} {t : Slot}, z.ρ[i]? = some t → i < np := fun {i t} h => by rw [← hn]; exact R.lt h
  have bk : ∀ {i : Nat} {t : Slot}, i < np → (z.ext n).ρ[i]? = some t → z.ρ[i]? = some t := fun {i t} hi h => by
    rcases ext_get h with h | ⟨h, _⟩
    · exact h
    · rw [List.getElem?_eq_none_iff] at h; omega
  have sE : ∀ a, (z.ext n).S a ↔ z.S a := fun a => by rw [ext_S]
  have fr : Fr z.A z.S z.H (zf.cut np).A (zf.cut np).S (zf.cut np).H := by
    have f := s.fr
    refine ⟨fun b o e m => f.keep b o e fun q => m ((sE b).mp q), f.newA, fun a q => ?_, fun a q m => f.keepA a q fun w => m ((sE a).mp w), f.there⟩
    rcases f.newS a (cut_S q) with q | q
    · exact .inl ((sE a).mp q)
    · exact .inr q
  have tsC : ∀ {i : Nat}, i < np → (zf.cut np).TS i = zf.TS i := fun {i} hi => if_pos hi
  refine ⟨⟨?_, fun i t e => ?_, fun i e => ?_, fun i => ?_, fun i j a h1 h2 => ?_, s.rel.trk⟩, fr, ⟨?_, fun i m e => ?_, fun i m e => ?_, fun i m e => ?_, fun i m e => ?_, fun i fl d e => ?_⟩⟩
  · show (zf.ρ.take np).length = (zf.σ.take np).length
    rw [List.length_take, List.length_take, s.rel.len]
  · obtain ⟨hi, e⟩ := take_get (show (zf.ρ.take np)[i]? = some t from e)
    obtain ⟨o, e2, r⟩ := s.rel.slot i t e
    refine ⟨o, (cσ hi).trans e2, ?_⟩
    rw [tsC hi]
    show SlotR K zf.A _ zf.H t o _
    generalize zf.TS i = Tj at r
    cases r with
    | unset => exact .unset
    | own r => exact .own r
    | io r => exact .io r
    | lck r => exact .lck r
    | bor r => exact .bor (r.lessS fun a q => cut_S q)
  · have e : (zf.ρ.take np)[i]? = none := e
    rw [List.getElem?_eq_none_iff, List.length_take] at e
    show (if i < np then zf.TS i else []) = []
    split
    · refine s.rel.out i (List.getElem?_eq_none_iff.mpr ?_); omega
    · rfl
  · show (if i < np then zf.TS i else []).Nodup
    split
    · exact s.rel.nd i
    · exact List.nodup_nil
  · have h1 : a ∈ (if i < np then zf.TS i else []) := h1
    have h2 : a ∈ (if j < np then zf.TS j else []) := h2
    split at h1
    · split at h2
      · exact s.rel.dj i j a h1 h2
      · cases h2
    · cases h1
  · show (zf.ρ.take np).length = z.ρ.length
    rw [List.length_take, len, hn]; omega
  · have hi := lt e
    obtain ⟨q1, q2, q3⟩ := s.kp.lck i m (ext_of e)
    exact ⟨cg hi q1, (cσ hi).trans (q2.trans (eσ hi)), (tsC hi).trans q3⟩
  · obtain ⟨hi, e⟩ := take_get (show (zf.ρ.take np)[i]? = some _ from e)
    exact bk hi (s.kp.lckB i m e)
  · have hi := lt e
    obtain ⟨m', q1, q2⟩ := s.kp.io i m (ext_of e)
    exact ⟨m', cg hi q1, (cσ hi).trans (q2.trans (eσ hi))⟩
  · obtain ⟨hi, e⟩ := take_get (show (zf.ρ.take np)[i]? = some _ from e)
    obtain ⟨m', q⟩ := s.kp.ioB i m e
    exact ⟨m', bk hi q⟩
  · obtain ⟨hi, e⟩ := take_get (show (zf.ρ.take np)[i]? = some _ from e)
    obtain ⟨q1, q2⟩ := s.kp.bor i fl d e
    exact ⟨bk hi q1, (cσ hi).trans (q2.trans (eσ hi))⟩
theorem cut_tmp {zf : Z} {n np : Nat} {r : MV} {v : V} {T : List Addr} (t : Tmp K (z.ext n) zf r v T) : Tmp K z (zf.cut np) r v T := by
  refine ⟨t.own, t.nd, fun b hb i hi => ?_, fun b hb => ?_⟩
  · have hi : b ∈ (if i < np then zf.TS i else []) := hi
    split at hi
    · exact t.apart b hb i hi
    · cases hi
  · have := t.new b hb
    rw [ext_S] at this; exact this
end

/-! ### every def of the text -/
def okDef (g : Gi) (d : DefI) (st : Stmt) : Bool :=
  decide ((defScope st).kind = .function) && !(defScope st).isCoroutine && !(defScope st).isGenerator && decide d.names.Nodup && decide (d.np ≤ d.names.length)
    && (d.names.take d.np).all (fun x => decide ((defScope st).names.lookup x = some .local) || decide ((defScope st).names.lookup x = some .cell)) && (defScope st).names.all (fun y => !decide (y.2 = .free))
    && chkB g d.names d.body (defScope st) (defBody st)
structure DefW (K : PySem.W.Frag) (mg : Str → Option Value) (d : DefI) (st : Stmt) (f : Addr) (fd : FuncData) : Prop where
  fn : Fun K d.name d.qn st f fd
  gl : DefG K mg d f
  bd : Binds K fd (d.names.take d.np) []
structure World1 (g : Gi) (tx : Nat → Stmt) (K : PySem.W.Frag) (mg : Str → Option Value) : Prop where
  ok : ∀ (j : Nat) d, g.P[j]? = some d → okDef g d (tx j) = true
  W : ∀ (j : Nat) d, g.P[j]? = some d → ∃ f fd, DefW K mg d (tx j) f fd
  kw : ∀ (i : Nat) w d, g.kws[i]? = some w → g.P[w.j]? = some d → ∀ f fd, Fun K d.name d.qn (tx w.j) f fd → KBinds K fd (d.names.take d.np) w.ks (pmG w) (pmG w)
  free : ∀ x ∈ g.free, mg x = none
  consts : ∀ (i : Nat) p, g.consts[i]? = some p → ∃ u v, mg p.1 = some u ∧ RelV v u ∧ ∀ A H, Rep K A H v p.2
  nof : ∀ c f, (c, f) ∈ g.flds → ∀ C, KCls K c C → NoAttr K C f
theorem defs_ok {P : Program} {w : World} {K : PySem.W.Frag} {mg : Str → Option Value} {base : Heap} {g : Gi} {tx : Nat → Stmt} (W : World1 g tx K mg) :
    ∀ (n j : Nat) d f fd, g.P[j]? = some d → Fun K d.name d.qn (tx j) f fd → FnOk P w K mg base CX0 (2 * n) f fd (d.names.take d.np) (spD K d.np (runDef g.P g.consts g.kws n j))
  | 0, j, d, f, fd, hd, F => by
    refine ⟨fun vs H Q E ⟨z, r, outs, R, eH, eσ, el, e, q⟩ => (by cases e), fun A outer s H args us vs Q E hr he hb hv ⟨z, r, outs, R, eH, eσ, el, e, q⟩ => (by cases e)⟩
  | n + 1, j, d, f, fd, hd, F => by
    have hok := W.ok j d hd
    unfold okDef at hok
    obtain ⟨h1, h8⟩ := and2 hok
    obtain ⟨h1, h7⟩ := and2 h1
    obtain ⟨h1, h6⟩ := and2 h1
    obtain ⟨h1, h5⟩ := and2 h1
    obtain ⟨h1, h4⟩ := and2 h1
    obtain ⟨h1, h3⟩ := and2 h1
    obtain ⟨h1, h2⟩ := and2 h1
    have hnp : d.np ≤ d.names.length := of_decide_eq_true h5
    have plen : (d.names.take d.np).length = d.np := by rw [List.length_take]; omega
    have S : FnScope d.names (d.names.take d.np) (defScope (tx j)) := by
      refine ⟨of_decide_eq_true h1, by simpa using h2, by simpa using h3, of_decide_eq_true h4, by rw [plen], fun x hx => ?_, fun y hy => ?_⟩
      · have := List.all_eq_true.mp h6 x hx
        rcases Bool.or_eq_true_iff.mp this with q | q
        · exact .inl (of_decide_eq_true q)
        · exact .inr (of_decide_eq_true q)
      · have := List.all_eq_true.mp h7 y hy
        simpa using this
    refine F.ok (k := 2 * n + 1) S (fun vs H Q E ⟨z, r, outs, R, eH, eσ, el, e, q⟩ => el.trans plen.symm) (fun cdv A outer s H vs Q E hr ⟨z, r, outs, R, eH, eσ, el, e, q⟩ => ?_)
    unfold runDef at e
    rw [hd] at e
    dsimp only at e
    split at e
    · rename_i hl
      obtain ⟨⟨fl, ρF⟩, e1, e2⟩ := bind_some e
      obtain ⟨r', e3, e4⟩ := bind_some e2
      cases e4
      refine ⟨_, prb, ?_⟩
      have T : StaS g ⟨runDef g.P g.consts g.kws n, fun k => ((g.P[k]?).map (·.modes)).getD [], fun k => (g.consts[k]?).map (·.2), g.kws, fun k => (g.P[k]?).bind (·.cls), fun k => ((g.P[k]?).map (·.dfl)).getD []⟩ d.names (2 * n) (cxOf CX0 P w K mg base d.names d.qn (defScope (tx j)) f cdv A outer s H E).nox (defScope (tx j)) := by
        refine ⟨⟨rfl, S.nd, rfl, hr, W.free, fun i p hp => ⟨by show (g.consts[i]?).map (·.2) = some p.2; rw [hp]; rfl, W.consts i p hp⟩, fun j' d' h' => ?_, rfl, fun i' w' d' hw' h' => ?_, fun j' d' sl r h' e' => ?_, fun j' d' h' => by show (g.P[j']?).bind (·.cls) = d'.cls; rw [h']; rfl, W.nof⟩, S.kind, rfl, fun _ => rfl, PassesOwn.never⟩
        · obtain ⟨f', fd', D'⟩ := W.W j' d' h'
          exact ⟨f', fd', _, D'.gl, D'.fn.kp, D'.bd, defs_ok W n j' d' f' fd' h' D'.fn⟩
        · obtain ⟨f', fd', D'⟩ := W.W w'.j d' h'
          exact ⟨f', fd', _, D'.gl, D'.fn.kp, W.kw i' w' d' hw' h' f' fd' D'.fn, defs_ok W n w'.j d' f' fd' h' D'.fn⟩
        · cases n with
          | zero => cases e'
          | succ n =>
            have e' : runDef g.P g.consts g.kws (n + 1) j' sl = some r := e'
            unfold runDef at e'
            rw [h'] at e'
            dsimp only at e'
            split at e'
            · assumption
            · cases e'
      have hs := chkB_ok d.body (defScope (tx j)) (defBody (tx j)) T h8
      have R' := ext_ok R (d.names.length - z.ρ.length)
      have sσ : (z.ext (d.names.length - z.ρ.length)).σ = start d.names vs := by
        show z.σ ++ _ = vs.map some ++ _
        rw [eσ, R.len, eσ, List.length_map]
      have key := hs (z.ext (d.names.length - z.ρ.length)) fl ρF R' e1 { nx := fun _ H' => Q .non H', rt := Q } ?_
      · rw [sσ] at key
        have e0 : (z.ext (d.names.length - z.ρ.length)).H = H := eH
        rw [e0] at key; exact key
      · cases fl with
        | next =>
          cases e3
          intro zf sf er
          exact q .non (zf.cut d.np) [] (cut_ok R hl sf) (by show zf.ρ.take d.np = _; rw [er]) (Tmp.ofRep .non)
        | brk => cases e3
        | cnt => cases e3
        | ret r0 =>
          cases e3
          intro v zf T sf er t
          exact q v (zf.cut d.np) T (cut_ok R hl sf) (by show zf.ρ.take d.np = _; rw [er]) (cut_tmp t)
    · cases e
end Q
set_option maxHeartbeats 4000000
namespace Q
open PySem L2 PyProof.Rows

theorem reps_ints {K : PySem.W.Frag} {A : AP} {H : Hp} : ∀ ns : List Int, Reps K A H (ns.map V.int) (ns.map PyData.int)
  | [] => .nil
  | n :: ns => .cons (.int n) (reps_ints ns)
def scriptS (ns : List Int) : Slot := .own (.val (.list (ns.map .int)))
/-- a law over the layer: every script is answered by True -/
theorem walk_q {l : PySem.W.OpenLaw} {n k j : Nat} {q : Program} {loose : List Str} {XP : (Str → Option Value) → Heap → Prop} {YP : World → Heap → Prop} {d : DefRec} {K : Params → PySem.W.Frag} {x : Str} {g : Gi} {tx : Nat → Stmt} {di : DefI}
    (hn : l.most = some n) (hn2 : n ≤ sizeLine) (hdf : d.params.defaults = []) (hr : Room (2 * k) callerA)
    (hj : g.P[j]? = some di) (hcl : di.cls = none) (hql : di.qual = none) (hnm : di.name = d.name) (hnp : di.np = 1) (hps : di.names.take 1 = [x])
    (hY : ∀ (w : World) (h : Heap), YP w h → (K w.params).In h)
    (F : ∀ (w : World) (mg : Str → Option Value) (h : Heap), (K w.params).In h → h.Ns mainGlobals mg → World1 g tx (K w.params) mg)
    (hb : ∀ (w : World) (f : Addr) (fd : FuncData), Fun (K w.params) di.name di.name (tx j) f fd → ∀ (s : Shared) (u : Value), BindsTo s fd ⟨[u], []⟩ [(x, u)])
    (hlaw : ∀ ns : List Int, ns.length ≤ n → ∃ outs, runDef g.P g.consts g.kws k j [scriptS ns] = some (.val (.bool true), outs)) :
    PySem.W.WalkO q loose XP YP l.row.toRowW d [] (fun f vs => PySem.call f vs) := by
  refine Att.attach_call hn hdf fun w s₀ s₁ mg mb fa o pm cd doc a vs ns G Y ho hd hcd hmg hobj hints hlen hg => ?_
  have KX := hY w _ Y
  have W := F w mg _ KX G.T.g
  obtain ⟨f, fd, D⟩ := W.W j di hj
  have e : fa = f := by
    have := D.gl.plain hcl
    rw [hnm, hmg] at this
    cases this; rfl
  subst e
  have hfn : Fun (K w.params) di.name di.name (tx j) fa fd := by
    have := D.fn
    unfold DefI.qn at this
    rw [hql] at this
    exact this
  refine law_call KX G.T.g G.T.b G.T.builtins G.T.nolimit hg hobj hints (Nat.le_trans hlen hn2) hr (fun base hK hN => ?_) (hb w fa fd hfn) (sp := spD (K w.params) di.np (runDef g.P g.consts g.kws k j)) (fun H hO hS => ?_) (CX := CX0) fun H e s' h => h
  · have := defs_ok (P := l.prog) (w := w) (base := base) W k j di fa fd hj D.fn
    rw [hnp, hps] at this
    rw [hnp]; exact this
  · obtain ⟨outs, hrun⟩ := hlaw ns hlen
    have hs : LsA (K w.params) (fun _ => False) H a (ns.map V.int) := by
      rcases hS with h | ⟨ob, its, m, hk, hc, hdn, hda, hz, rv⟩
      · exact .inl ⟨h, fun z => z⟩
      · have e2 := KX a ob hk
        rw [hobj] at e2
        cases e2
        exact .inr ⟨vs, _, hk, vals_ints hints, by rw [List.length_map]; exact Nat.le_trans hlen hn2⟩
    refine ⟨⟨fun _ => False, H, [scriptS ns], [some (.ref a)], fun _ => []⟩, _, outs, ?_, rfl, rfl, hnp.symm, hrun, fun v zo T s er t => ?_⟩
    · refine ⟨rfl, fun i s e => ?_, fun _ _ => rfl, fun _ => List.nodup_nil, fun _ _ _ h => (nomatch h), fun _ h => h.elim⟩
      cases i with
      | zero =>
        cases e
        exact ⟨_, rfl, .own (.val (.lst hs (reps_ints ns)))⟩
      | succ i => cases i <;> cases e
    · cases t.own with | val h => exact h.blv
end Q
set_option maxHeartbeats 4000000
namespace Q
/-! ### the evaluator's equations, for simp -/
section
variable {C : CtxQ} {ρ : Env}
@[simp] theorem ofV_v {v : Env → Option (MV × Env)} : (ofV v).v = v := rfl
@[simp] theorem ofV_p {v : Env → Option (MV × Env)} : (ofV v).p ρ = (v ρ).bind fun q => some (freeze q.1, .val, q.2, []) := rfl
@[simp] theorem ofV_t {v : Env → Option (MV × Env)} : (ofV v).t ρ = (v ρ).bind fun q => (truthR (freeze q.1)).bind fun b => some (b, q.2) := rfl
@[simp] theorem run_var_v {i : Nat} : (run C (.var i)).v ρ = takeVar i ρ := rfl
@[simp] theorem run_var_p {i : Nat} : (run C (.var i)).p ρ = peekVar i ρ := rfl
@[simp] theorem run_var_t {i : Nat} : (run C (.var i)).t ρ = (takeVar i ρ).bind fun q => (truthR (freeze q.1)).bind fun b => some (b, q.2) := rfl
@[simp] theorem run_cst_v {d : D} : (run C (.cst d)).v ρ = some (.val d, ρ) := rfl
@[simp] theorem run_cst_p {d : D} : (run C (.cst d)).p ρ = (some (.val d, ρ)).bind fun q => some (freeze q.1, .val, q.2, []) := rfl
@[simp] theorem run_cst_t {d : D} : (run C (.cst d)).t ρ = (some (.val d, ρ)).bind fun q => (truthR (freeze q.1)).bind fun b => some (b, q.2) := rfl
@[simp] theorem run_gl_v {k : Nat} : (run C (.gl k)).v ρ = (C.glob k).bind fun d => some (.val d, ρ) := rfl
@[simp] theorem run_gl_p {k : Nat} : (run C (.gl k)).p ρ = ((C.glob k).bind fun d => some (.val d, ρ)).bind fun q => some (freeze q.1, .val, q.2, []) := rfl
@[simp] theorem run_gl_t {k : Nat} : (run C (.gl k)).t ρ = ((C.glob k).bind fun d => some (.val d, ρ)).bind fun q => (truthR (freeze q.1)).bind fun b => some (b, q.2) := rfl
@[simp] theorem run_tup_v {es : List E} : (run C (.tup es)).v ρ = (evs (runs C es) ρ).bind fun q => if q.1.length ≤ PySem.sizeLine then some (.val (.tuple (freezes q.1)), q.2) else none := rfl
@[simp] theorem run_tup_p {es : List E} : (run C (.tup es)).p ρ = ((evs (runs C es) ρ).bind fun q => if q.1.length ≤ PySem.sizeLine then some (.val (.tuple (freezes q.1)), q.2) else none).bind fun q => some (freeze q.1, .val, q.2, []) := rfl
@[simp] theorem run_tup_t {es : List E} : (run C (.tup es)).t ρ = ((evs (runs C es) ρ).bind fun q => if q.1.length ≤ PySem.sizeLine then some (.val (.tuple (freezes q.1)), q.2) else none).bind fun q => (truthR (freeze q.1)).bind fun b => some (b, q.2) := rfl
@[simp] theorem run_lst_v {es : List E} : (run C (.lst es)).v ρ = (evs (runs C es) ρ).bind fun q => if q.1.length ≤ PySem.sizeLine then some (.lst q.1, q.2) else none := rfl
@[simp] theorem run_lst_p {es : List E} : (run C (.lst es)).p ρ = ((evs (runs C es) ρ).bind fun q => if q.1.length ≤ PySem.sizeLine then some (.lst q.1, q.2) else none).bind fun q => some (freeze q.1, .val, q.2, []) := rfl
@[simp] theorem run_lst_t {es : List E} : (run C (.lst es)).t ρ = ((evs (runs C es) ρ).bind fun q => if q.1.length ≤ PySem.sizeLine then some (.lst q.1, q.2) else none).bind fun q => (truthR (freeze q.1)).bind fun b => some (b, q.2) := rfl
@[simp] theorem run_bin_v {op : BOp} {a b : E} : (run C (.bin op a b)).v ρ = evBin op (run C a) (run C b) ρ := rfl
@[simp] theorem run_bin_p {op : BOp} {a b : E} : (run C (.bin op a b)).p ρ = (evBin op (run C a) (run C b) ρ).bind fun q => some (freeze q.1, .val, q.2, []) := rfl
@[simp] theorem run_bin_t {op : BOp} {a b : E} : (run C (.bin op a b)).t ρ = (evBin op (run C a) (run C b) ρ).bind fun q => (truthR (freeze q.1)).bind fun b => some (b, q.2) := rfl
@[simp] theorem run_neg_v {a : E} : (run C (.neg a)).v ρ = ((run C a).v ρ).bind fun q => (intOf q.1).bind fun i => some (.val (.int (-i)), q.2) := rfl
@[simp] theorem run_neg_p {a : E} : (run C (.neg a)).p ρ = (((run C a).v ρ).bind fun q => (intOf q.1).bind fun i => some (.val (.int (-i)), q.2)).bind fun q => some (freeze q.1, .val, q.2, []) := rfl
@[simp] theorem run_neg_t {a : E} : (run C (.neg a)).t ρ = (((run C a).v ρ).bind fun q => (intOf q.1).bind fun i => some (.val (.int (-i)), q.2)).bind fun q => (truthR (freeze q.1)).bind fun b => some (b, q.2) := rfl
@[simp] theorem run_cmp_v {op : COp} {a b : E} : (run C (.cmp op a b)).v ρ = evCmp op (run C a) (run C b) ρ := rfl
@[simp] theorem run_cmp_p {op : COp} {a b : E} : (run C (.cmp op a b)).p ρ = (evCmp op (run C a) (run C b) ρ).bind fun q => some (freeze q.1, .val, q.2, []) := rfl
@[simp] theorem run_cmp_t {op : COp} {a b : E} : (run C (.cmp op a b)).t ρ = (evCmp op (run C a) (run C b) ρ).bind fun q => (truthR (freeze q.1)).bind fun b => some (b, q.2) := rfl
@[simp] theorem run_chn_v {o1 o2 : COp} {a b c : E} : (run C (.chn o1 o2 a b c)).v ρ = evChn o1 o2 (run C a) (run C b) (run C c) ρ := rfl
@[simp] theorem run_chn_p {o1 o2 : COp} {a b c : E} : (run C (.chn o1 o2 a b c)).p ρ = (evChn o1 o2 (run C a) (run C b) (run C c) ρ).bind fun q => some (freeze q.1, .val, q.2, []) := rfl
@[simp] theorem run_chn_t {o1 o2 : COp} {a b c : E} : (run C (.chn o1 o2 a b c)).t ρ = (evChn o1 o2 (run C a) (run C b) (run C c) ρ).bind fun q => (truthR (freeze q.1)).bind fun b => some (b, q.2) := rfl
@[simp] theorem run_isN_v {a : E} : (run C (.isN a)).v ρ = ((run C a).p ρ).bind fun q => some (.val (.bool (isNone q.1)), unl q.2.2.2 q.2.2.1) := rfl
@[simp] theorem run_isN_p {a : E} : (run C (.isN a)).p ρ = (((run C a).p ρ).bind fun q => some (.val (.bool (isNone q.1)), unl q.2.2.2 q.2.2.1)).bind fun q => some (freeze q.1, .val, q.2, []) := rfl
@[simp] theorem run_isN_t {a : E} : (run C (.isN a)).t ρ = (((run C a).p ρ).bind fun q => some (.val (.bool (isNone q.1)), unl q.2.2.2 q.2.2.1)).bind fun q => (truthR (freeze q.1)).bind fun b => some (b, q.2) := rfl
@[simp] theorem run_notN_v {a : E} : (run C (.notN a)).v ρ = ((run C a).p ρ).bind fun q => some (.val (.bool (!isNone q.1)), unl q.2.2.2 q.2.2.1) := rfl
@[simp] theorem run_notN_p {a : E} : (run C (.notN a)).p ρ = (((run C a).p ρ).bind fun q => some (.val (.bool (!isNone q.1)), unl q.2.2.2 q.2.2.1)).bind fun q => some (freeze q.1, .val, q.2, []) := rfl
@[simp] theorem run_notN_t {a : E} : (run C (.notN a)).t ρ = (((run C a).p ρ).bind fun q => some (.val (.bool (!isNone q.1)), unl q.2.2.2 q.2.2.1)).bind fun q => (truthR (freeze q.1)).bind fun b => some (b, q.2) := rfl
@[simp] theorem run_and_v {a b : E} : (run C (.and a b)).v ρ = evAnd (run C a) (run C b) ρ := rfl
@[simp] theorem run_and_p {a b : E} : (run C (.and a b)).p ρ = (evAnd (run C a) (run C b) ρ).bind fun q => some (freeze q.1, .val, q.2, []) := rfl
@[simp] theorem run_and_t {a b : E} : (run C (.and a b)).t ρ = ((run C a).t ρ).bind fun q => if q.1 then (run C b).t q.2 else some (false, q.2) := rfl
@[simp] theorem run_or_v {a b : E} : (run C (.or a b)).v ρ = evOr (run C a) (run C b) ρ := rfl
@[simp] theorem run_or_p {a b : E} : (run C (.or a b)).p ρ = (evOr (run C a) (run C b) ρ).bind fun q => some (freeze q.1, .val, q.2, []) := rfl
@[simp] theorem run_or_t {a b : E} : (run C (.or a b)).t ρ = ((run C a).t ρ).bind fun q => if q.1 then some (true, q.2) else (run C b).t q.2 := rfl
@[simp] theorem run_not_v {a : E} : (run C (.not a)).v ρ = evNot (run C a) ρ := rfl
@[simp] theorem run_not_p {a : E} : (run C (.not a)).p ρ = (evNot (run C a) ρ).bind fun q => some (freeze q.1, .val, q.2, []) := rfl
@[simp] theorem run_not_t {a : E} : (run C (.not a)).t ρ = ((run C a).t ρ).bind fun q => some (!q.1, q.2) := rfl
@[simp] theorem run_ite_v {c a b : E} : (run C (.ite c a b)).v ρ = evIte (run C c) (run C a) (run C b) ρ := rfl
@[simp] theorem run_ite_p {c a b : E} : (run C (.ite c a b)).p ρ = (evIte (run C c) (run C a) (run C b) ρ).bind fun q => some (freeze q.1, .val, q.2, []) := rfl
@[simp] theorem run_ite_t {c a b : E} : (run C (.ite c a b)).t ρ = ((run C c).t ρ).bind fun q => if q.1 then (run C a).t q.2 else (run C b).t q.2 := rfl
@[simp] theorem run_var_q {i : Nat} : (run C (.var i)).q ρ = qVar i ρ := rfl
@[simp] theorem run_idx_v {a b : E} : (run C (.idx a b)).v ρ = if treeQ (run C a) ρ then vOfQ (qIdx (run C a) (run C b)) ρ else evIdx (run C a) (run C b) ρ := rfl
@[simp] theorem run_idx_p {a b : E} : (run C (.idx a b)).p ρ = if treeQ (run C a) ρ then pOfQ (qIdx (run C a) (run C b)) ρ else pkIdx (run C a) (run C b) ρ := rfl
@[simp] theorem run_idx_q {a b : E} : (run C (.idx a b)).q ρ = qIdx (run C a) (run C b) ρ := rfl
@[simp] theorem run_idx_t {a b : E} : (run C (.idx a b)).t ρ = (if treeQ (run C a) ρ then vOfQ (qIdx (run C a) (run C b)) ρ else evIdx (run C a) (run C b) ρ).bind fun q => (truthR (freeze q.1)).bind fun b => some (b, q.2) := rfl
@[simp] theorem ofV_q {v : Env → Option (MV × Env)} : (ofV v).q ρ = none := rfl
@[simp] theorem ofV_kd {v : Env → Option (MV × Env)} : (ofV v).kd ρ = none := rfl
@[simp] theorem run_slc_v {a : E} {lo hi : Option E} : (run C (.slc a lo hi)).v ρ = evSlc (run C a) (runO C lo) (runO C hi) ρ := rfl
@[simp] theorem run_slc_p {a : E} {lo hi : Option E} : (run C (.slc a lo hi)).p ρ = (evSlc (run C a) (runO C lo) (runO C hi) ρ).bind fun q => some (freeze q.1, .val, q.2, []) := rfl
@[simp] theorem run_slc_t {a : E} {lo hi : Option E} : (run C (.slc a lo hi)).t ρ = (evSlc (run C a) (runO C lo) (runO C hi) ρ).bind fun q => (truthR (freeze q.1)).bind fun b => some (b, q.2) := rfl
@[simp] theorem run_call_v {j : Nat} {args : List E} : (run C (.call j args)).v ρ = evCall C j (args.map varOf) (runs C args) ρ := rfl
@[simp] theorem run_call_p {j : Nat} {args : List E} : (run C (.call j args)).p ρ = (evCall C j (args.map varOf) (runs C args) ρ).bind fun q => some (freeze q.1, .val, q.2, []) := rfl
@[simp] theorem run_call_t {j : Nat} {args : List E} : (run C (.call j args)).t ρ = (evCall C j (args.map varOf) (runs C args) ρ).bind fun q => (truthR (freeze q.1)).bind fun b => some (b, q.2) := rfl
@[simp] theorem run_callK_v {j : Nat} {args : List E} : (run C (.callK j args)).v ρ = evCallK C j (args.map varOf) (runs C args) ρ := rfl
@[simp] theorem run_callK_p {j : Nat} {args : List E} : (run C (.callK j args)).p ρ = (evCallK C j (args.map varOf) (runs C args) ρ).bind fun q => some (freeze q.1, .val, q.2, []) := rfl
@[simp] theorem run_callK_t {j : Nat} {args : List E} : (run C (.callK j args)).t ρ = (evCallK C j (args.map varOf) (runs C args) ρ).bind fun q => (truthR (freeze q.1)).bind fun b => some (b, q.2) := rfl
@[simp] theorem run_callT_v {j : Nat} {a : E} : (run C (.callT j a)).v ρ = ((run C a).v ρ).bind fun q => (C.call j [.own q.1]).bind fun c => some (c.1, q.2) := rfl
@[simp] theorem run_callT_p {j : Nat} {a : E} : (run C (.callT j a)).p ρ = (((run C a).v ρ).bind fun q => (C.call j [.own q.1]).bind fun c => some (c.1, q.2)).bind fun q => some (freeze q.1, .val, q.2, []) := rfl
@[simp] theorem run_callT_t {j : Nat} {a : E} : (run C (.callT j a)).t ρ = (((run C a).v ρ).bind fun q => (C.call j [.own q.1]).bind fun c => some (c.1, q.2)).bind fun q => (truthR (freeze q.1)).bind fun b => some (b, q.2) := rfl
@[simp] theorem run_blt_v {f : Blt} {args : List E} : (run C (.blt f args)).v ρ = evBlt f (runs C args) ρ := rfl
@[simp] theorem run_blt_p {f : Blt} {args : List E} : (run C (.blt f args)).p ρ = (evBlt f (runs C args) ρ).bind fun q => some (freeze q.1, .val, q.2, []) := rfl
@[simp] theorem run_blt_t {f : Blt} {args : List E} : (run C (.blt f args)).t ρ = (evBlt f (runs C args) ρ).bind fun q => (truthR (freeze q.1)).bind fun b => some (b, q.2) := rfl
@[simp] theorem run_comp_v {elt : E} {tg : Tg} {it : It} {cond : Option E} {own : List Nat} : (run C (.comp elt tg it cond own)).v ρ = evComp (run C elt) tg (runI C it) (runO C cond) own ρ := rfl
@[simp] theorem run_comp_p {elt : E} {tg : Tg} {it : It} {cond : Option E} {own : List Nat} : (run C (.comp elt tg it cond own)).p ρ = (evComp (run C elt) tg (runI C it) (runO C cond) own ρ).bind fun q => some (freeze q.1, .val, q.2, []) := rfl
@[simp] theorem run_comp_t {elt : E} {tg : Tg} {it : It} {cond : Option E} {own : List Nat} : (run C (.comp elt tg it cond own)).t ρ = (evComp (run C elt) tg (runI C it) (runO C cond) own ρ).bind fun q => (truthR (freeze q.1)).bind fun b => some (b, q.2) := rfl
@[simp] theorem runs_nil : runs C [] = [] := rfl
@[simp] theorem runs_cons {e : E} {es : List E} : runs C (e :: es) = run C e :: runs C es := rfl
@[simp] theorem runO_none : runO C none = none := rfl
@[simp] theorem runO_some {e : E} : runO C (some e) = some (run C e) := rfl
@[simp] theorem varOf_var {i : Nat} : varOf (.var i) = some i := rfl
@[simp] theorem evs_nil : evs [] ρ = some ([], ρ) := rfl
@[simp] theorem evs_cons {e : R3} {es : List R3} : evs (e :: es) ρ = (e.v ρ).bind fun q => (evs es q.2).bind fun q2 => some (q.1 :: q2.1, q2.2) := rfl
@[simp] theorem pks_nil : pks [] ρ = some ([], ρ, []) := rfl
@[simp] theorem pks_cons {e : R3} {es : List R3} : pks (e :: es) ρ = (e.p ρ).bind fun q => (pks es q.2.2.1).bind fun q2 => some ((q.1, q.2.1) :: q2.1, q2.2.1, q.2.2.2 ++ q2.2.2) := rfl
@[simp] theorem unl_nil : unl [] ρ = ρ := rfl
@[simp] theorem unl_cons {i : Nat} {s : Slot} {r : Lks} : unl ((i, s) :: r) ρ = (unl r ρ).set i s := rfl
@[simp] theorem freeze_val {d : D} : freeze (.val d) = d := by unfold freeze; rfl
@[simp] theorem freeze_lst {ms : List MV} : freeze (.lst ms) = .list (freezes ms) := by unfold freeze; rfl
@[simp] theorem freezes_nil : freezes [] = [] := by unfold freezes; rfl
@[simp] theorem freezes_cons {m : MV} {ms : List MV} : freezes (m :: ms) = freeze m :: freezes ms := by conv => lhs; unfold freezes
@[simp] theorem exes_nil : exes C [] ρ = some (.next, ρ) := rfl
@[simp] theorem exes_cons {s : S} {ss : List S} : exes C (s :: ss) ρ = thenS (exe C s ρ) (exes C ss) := rfl
@[simp] theorem thenS_next {k : Env → Option (Flow × Env)} : thenS (some (.next, ρ)) k = k ρ := rfl
@[simp] theorem thenS_ret {r : MV} {k : Env → Option (Flow × Env)} : thenS (some (.ret r, ρ)) k = some (.ret r, ρ) := rfl
@[simp] theorem exe_pass : exe C .pass ρ = some (.next, ρ) := rfl
@[simp] theorem exe_ret {e : E} : exe C (.ret e) ρ = match moveOf e ρ with | some q => some (.ret q.1, q.2) | none => ((run C e).v ρ).bind fun q => some (.ret q.1, q.2) := rfl
@[simp] theorem exe_retN : exe C .retN ρ = some (.ret (.val .none), ρ) := rfl
@[simp] theorem exe_asgN {i : Nat} {e : E} : exe C (.asg (.name i) e) ρ = ((run C e).v ρ).bind fun q => (putVar i (.own q.1) q.2).bind fun ρ2 => some (.next, ρ2) := rfl
@[simp] theorem exe_asgT {ts : List Tg} {e : E} : exe C (.asg (.tup ts) e) ρ = ((run C e).v ρ).bind fun q => (bindT (.tup ts) .val (freeze q.1) q.2).bind fun ρ2 => some (.next, ρ2) := rfl
@[simp] theorem exe_par {i j : Nat} {a b : E} : exe C (.par i j a b) ρ = ((run C a).v ρ).bind fun q => ((run C b).v q.2).bind fun q2 => (putVar i (.own q.1) q2.2).bind fun ρ1 => (putVar j (.own q2.1) ρ1).bind fun ρ2 => some (.next, ρ2) := rfl
@[simp] theorem exe_setI {x : Nat} {ix e : E} : exe C (.setI x ix e) ρ = ((run C e).v ρ).bind fun q => if isLstAt x q.2 then ((run C ix).v q.2).bind fun q2 => (intOf q2.1).bind fun i => (setItem x i q.1 q2.2).bind fun ρ2 => some (.next, ρ2) else none := rfl
@[simp] theorem exe_app {x : Nat} {e : E} : exe C (.app x e) ρ = if isLstAt x ρ then ((run C e).v ρ).bind fun q => (appItem x q.1 q.2).bind fun ρ2 => some (.next, ρ2) else none := rfl
@[simp] theorem exe_expr {e : E} : exe C (.expr e) ρ = ((run C e).v ρ).bind fun q => some (.next, q.2) := rfl
@[simp] theorem exe_aug {i : Nat} {op : BOp} {e : E} : exe C (.aug i op e) ρ = match ρ[i]? with
    | some (.own (.val (.int n))) => ((run C e).v ρ).bind fun q => (intOf q.1).bind fun k => (augI op n k).bind fun r => (putVar i (.own (.val (.int r))) q.2).bind fun ρ2 => some (.next, ρ2)
    | _ => none := rfl
@[simp] theorem exe_ifs {c : E} {a b : List S} : exe C (.ifs c a b) ρ = ((run C c).t ρ).bind fun q => if q.1 then exes C a q.2 else exes C b q.2 := rfl
theorem exe_for {tg : Tg} {it : It} {body : List S} : exe C (.forS tg it body) ρ = (runI C it ρ).bind fun q => (forL tg q.2.1 (exes C body) q.1 q.2.2.1).bind fun f => some (f.1, unl q.2.2.2 (clrT tg f.2)) := rfl
@[simp] theorem runI_seq {e : E} : runI C (.seq e) ρ = ((run C e).p ρ).bind fun q => (items? q.1).bind fun xs => some (xs, if q.2.1 = .deep then .deep else .val, q.2.2.1, q.2.2.2) := rfl
@[simp] theorem runI_rng1 {a : E} : runI C (.rng1 a) ρ = ((run C a).v ρ).bind fun q => (intOf q.1).bind fun n => if inRng n then some (rangeD 0 n.toNat, .val, q.2, []) else none := rfl
@[simp] theorem runI_rng2 {a b : E} : runI C (.rng2 a b) ρ = ((run C a).v ρ).bind fun q => ((run C b).v q.2).bind fun q2 => (intOf q.1).bind fun i => (intOf q2.1).bind fun j =>
      if inRng i && inRng j then some (rangeD i (j - i).toNat, .val, q2.2, []) else none := rfl
@[simp] theorem runI_zip {a b : E} : runI C (.zip a b) ρ = ((run C a).p ρ).bind fun q => ((run C b).p q.2.2.1).bind fun q2 => (sameSeq q.1 q2.1).bind fun xy =>
      some (zipD xy.1 xy.2, if q.2.1 = .deep ∨ q2.2.1 = .deep then .deep else .val, q2.2.2.1, q.2.2.2 ++ q2.2.2.2) := rfl
@[simp] theorem runI_enum {a : E} : runI C (.enum a) ρ = ((run C a).p ρ).bind fun q => (items? q.1).bind fun xs => some (enumD 0 xs, if q.2.1 = .deep then .deep else .val, q.2.2.1, q.2.2.2) := rfl
end
section
variable {i j : Int} {f1 f2 : Fl} {xs ys : List D}
@[simp] theorem binR_add : binR .add (.int i) f1 (.int j) f2 = some (.val (.int (i + j))) := rfl
@[simp] theorem binR_sub : binR .sub (.int i) f1 (.int j) f2 = some (.val (.int (i - j))) := rfl
@[simp] theorem binR_mul : binR .mul (.int i) f1 (.int j) f2 = if (-18446744073709551616 < i ∧ i < 18446744073709551616) ∨ (-18446744073709551616 < j ∧ j < 18446744073709551616) then some (.val (.int (i * j))) else none := by
  show (if ((-big < i && i < big) || (-big < j && j < big)) = true then some (MV.val (.int (i * j))) else none) = _
  simp only [Bool.or_eq_true, Bool.and_eq_true, decide_eq_true_eq]
@[simp] theorem binR_fdiv : binR .fdiv (.int i) f1 (.int j) f2 = if 0 < j ∧ j < 1073741824 then some (.val (.int (i / j))) else none := by
  show (if (0 < j && j < 1073741824) = true then some (MV.val (.int (i / j))) else none) = _
  simp only [Bool.and_eq_true, decide_eq_true_eq]
@[simp] theorem binR_mod : binR .mod (.int i) f1 (.int j) f2 = if 0 < j then some (.val (.int (i % j))) else none := by
  show (if 0 < j then some (MV.val (.int (i % j))) else none) = _
  rfl
@[simp] theorem binR_pow : binR .pow (.int i) f1 (.int j) f2 = if 0 ≤ j ∧ j ≤ 1000 ∧ -18446744073709551616 < i ∧ i < 18446744073709551616 then some (.val (.int (i ^ j.toNat))) else none := by
  show (if (0 ≤ j && j ≤ 1000 && -big < i && i < big) = true then some (MV.val (.int (i ^ j.toNat))) else none) = _
  simp only [Bool.and_eq_true, decide_eq_true_eq, and_assoc]
@[simp] theorem binR_tup : binR .add (.tuple xs) f1 (.tuple ys) f2 = if xs.length + ys.length ≤ PySem.sizeLine ∧ f1 ≠ .deep ∧ f2 ≠ .deep then some (.val (.tuple (xs ++ ys))) else none := by
  show (if (xs.length + ys.length ≤ nSeq && (f1 != .deep && f2 != .deep)) = true then some (MV.val (.tuple (xs ++ ys))) else none) = _
  simp only [Bool.and_eq_true, decide_eq_true_eq, bne_iff_ne]
@[simp] theorem binR_lst : binR .add (.list xs) f1 (.list ys) f2 = if xs.length + ys.length ≤ PySem.sizeLine ∧ f1 ≠ .deep ∧ f2 ≠ .deep then some (.lst ((xs ++ ys).map .val)) else none := by
  show (if (xs.length + ys.length ≤ nSeq && (f1 != .deep && f2 != .deep)) = true then some (MV.lst ((xs ++ ys).map .val)) else none) = _
  simp only [Bool.and_eq_true, decide_eq_true_eq, bne_iff_ne]
@[simp] theorem binR_rep {k : Int} : binR .mul (.list xs) f1 (.int k) f2 = if xs.length * k.toNat ≤ PySem.sizeLine ∧ -9223372036854775808 ≤ k ∧ k < 9223372036854775808 ∧ f1 ≠ .deep then some (.lst ((List.replicate k.toNat xs).flatten.map .val)) else none := by
  show (if (xs.length * k.toNat ≤ nSeq && -(2 ^ 63) ≤ k && k < 2 ^ 63 && f1 != .deep) = true then some (MV.lst ((List.replicate k.toNat xs).flatten.map .val)) else none) = _
  simp only [Bool.and_eq_true, decide_eq_true_eq, bne_iff_ne, and_assoc]
  rfl
end
/-- the world of a program's defs -/
def ctx (P : List DefI) (G : List (PySem.Str × D)) (W : List KwI) (n : Nat) : CtxQ := ⟨runDef P G W n, fun k => ((P[k]?).map (·.modes)).getD [], fun k => (G[k]?).map (·.2), W, fun k => (P[k]?).bind (·.cls), fun k => ((P[k]?).map (·.dfl)).getD []⟩
theorem def_eq {P : List DefI} {G : List (PySem.Str × D)} {W : List KwI} {n j : Nat} {d : DefI} {sl : Env} (h : P[j]? = some d) (hl : sl.length = d.np) :
    runDef P G W (n + 1) j sl = (exes (ctx P G W n) d.body (sl ++ List.replicate (d.names.length - sl.length) .unset)).bind fun q => (retOf q.1).bind fun r => some (r, q.2.take d.np) := by
  show (match P[j]? with | none => none | some d => if sl.length = d.np then _ else none) = _
  rw [h]
  exact if_pos hl
abbrev I (i : Int) : MV := .val (.int i)
/-- the box of draws -/
def Bx (n : Int) (m : MV) : Prop := ∃ x y c : Int, m = .lst [I x, I y, I c] ∧ 0 ≤ c ∧ c ≤ n
theorem Bx.mono {n n' : Int} {m : MV} (h : n ≤ n') (b : Bx n m) : Bx n' m := by
  obtain ⟨x, y, c, e, h1, h2⟩ := b
  exact ⟨x, y, c, e, h1, by omega⟩
end Q
set_option maxHeartbeats 4000000
namespace Q
open PySem
/-! ### data that may be compared -/
def Sh (n : Nat) (d : D) : Prop := d.canLay0 = true ∧ d.depth ≤ n
theorem Sh.shaped {n : Nat} {d : D} (h : Sh n d) (hn : n ≤ 64) : SeqAt.shaped d = true := by
  unfold SeqAt.shaped
  rw [h.1, Bool.true_and]
  exact decide_eq_true (Nat.le_trans h.2 hn)
theorem Sh.int {n : Nat} {i : Int} : Sh n (.int i) := ⟨by simp [PyData.canLay0], by simp [PyData.depth]⟩
theorem Sh.bool {n : Nat} {i : Bool} : Sh n (.bool i) := ⟨by simp [PyData.canLay0], by simp [PyData.depth]⟩
theorem Sh.none {n : Nat} : Sh n .none := ⟨by simp [PyData.canLay0], by simp [PyData.depth]⟩
theorem Sh.all {n : Nat} : ∀ {xs : List D}, (∀ x ∈ xs, Sh n x) → PyData.canLayAll0 xs = true ∧ PyData.depthAll xs ≤ n
  | [], _ => ⟨by simp [PyData.canLayAll0], by simp [PyData.depthAll]⟩
  | x :: xs, h => by
    obtain ⟨h1, h2⟩ := Sh.all (n := n) (xs := xs) fun y hy => h y (List.mem_cons_of_mem _ hy)
    obtain ⟨g1, g2⟩ := h x List.mem_cons_self
    exact ⟨by simp [PyData.canLayAll0, h1, g1], by simp [PyData.depthAll]; omega⟩
theorem Sh.tuple {n : Nat} {xs : List D} (h : ∀ x ∈ xs, Sh n x) : Sh (n + 1) (.tuple xs) := by
  obtain ⟨h1, h2⟩ := Sh.all h
  exact ⟨by simp [PyData.canLay0, h1], by simp [PyData.depth]; omega⟩
theorem Sh.list {n : Nat} {xs : List D} (h : ∀ x ∈ xs, Sh n x) : Sh (n + 1) (.list xs) := by
  obtain ⟨h1, h2⟩ := Sh.all h
  exact ⟨by simp [PyData.canLay0, h1], by simp [PyData.depth]; omega⟩
theorem Sh.ints {as : List Int} : ∀ x ∈ as.map PyData.int, Sh 0 x := fun x hx => by
  obtain ⟨i, _, rfl⟩ := List.mem_map.mp hx
  exact .int
theorem eqvAll_ints (as bs : List Int) : PyData.eqvAll (as.map .int) (bs.map .int) = decide (as = bs) := PySem.W.eqvAll_map (α := Int) as bs
theorem eq_tints (as bs : List Int) : eqD (.tuple (as.map .int)) (.tuple (bs.map .int)) = some (decide (as = bs)) := by
  unfold eqD
  rw [(Sh.tuple Sh.ints).shaped (by decide), (Sh.tuple Sh.ints).shaped (by decide)]
  simp [PyData.eqv, eqvAll_ints]
@[simp] theorem freezes_vals : ∀ xs : List D, freezes (xs.map .val) = xs
  | [] => by simp
  | x :: xs => by simp [freezes_vals xs]
@[simp] theorem all_vals (xs : List D) : ((xs.map MV.val).all isVal) = true := by
  rw [List.all_eq_true]
  intro x hx
  obtain ⟨y, _, rfl⟩ := List.mem_map.mp hx
  rfl
@[simp] theorem flag_vals (xs : List D) : flagOf (.lst (xs.map MV.val)) = .shal := by
  show (if (xs.map MV.val).all isVal then Fl.shal else Fl.deep) = _
  rw [all_vals, if_pos rfl]
@[simp] theorem flat_ints (as : List Int) : (as.map PyData.int).all flat = true := by
  rw [List.all_eq_true]
  intro x hx
  obtain ⟨y, _, rfl⟩ := List.mem_map.mp hx
  rfl
@[simp] theorem bad_ints (fl : Fl) (as : List Int) : badFl fl (as.map PyData.int) = false := by
  unfold badFl
  rw [flat_ints]; simp
@[simp] theorem bad_val (xs : List D) : badFl .val xs = false := rfl
@[simp] theorem bad_shal (xs : List D) : badFl .shal xs = false := rfl
theorem cutD_to (xs : List D) (k : Nat) : cutD xs none (some (k : Int)) = xs.take k := by
  unfold cutD
  rw [HT.sIx_none, HT.sIx_nat, List.drop_zero, Nat.sub_zero]
  rw [Nat.min_comm, ← List.take_take]
  exact List.take_of_length_le (by rw [List.length_take]; omega)

/-! ### turns -/
theorem forL_inv {tg : Tg} {fl : Fl} {body : Env → Option (Flow × Env)} (P : List D → Env → Prop) : ∀ (ds : List D) (ρ : Env), P ds ρ → (∀ d rest ρ, P (d :: rest) ρ → ∃ ρt ρ', bindT tg (childFl fl d) d ρ = some ρt ∧ body ρt = some (.next, ρ') ∧ P rest ρ') →
    ∃ ρ', forL tg fl body ds ρ = some (.next, ρ') ∧ P [] ρ'
  | [], ρ, h, _ => ⟨ρ, rfl, h⟩
  | d :: ds, ρ, h, step => by
    obtain ⟨ρt, ρ1, h1, h2, h3⟩ := step d ds ρ h
    obtain ⟨ρ2, h4, h5⟩ := forL_inv P ds ρ1 h3 step
    refine ⟨ρ2, ?_, h5⟩
    unfold forL
    rw [h1, Option.bind_some, h2, Option.bind_some]
    exact h4
/-- a comprehension whose turns leave the frame as it was -/
theorem compL_map {tg : Tg} {fl : Fl} {elt : R3} {own : List Nat} {f : D → MV} {ρ : Env} : ∀ (ds : List D) (acc : List MV), (∀ d ∈ ds, ∃ ρt ρ', bindT tg (childFl fl d) d ρ = some ρt ∧ elt.v ρt = some (f d, ρ') ∧ wipeE own ρ' = ρ) →
    compL tg fl none elt own ds acc ρ = some (acc ++ ds.map f, ρ)
  | [], acc, _ => by unfold compL; simp
  | d :: ds, acc, h => by
    obtain ⟨ρt, ρ', h1, h2, h3⟩ := h d List.mem_cons_self
    unfold compL
    rw [h1, Option.bind_some]
    show ((some (true, ρt) : Option (Bool × Env)).bind _) = _
    rw [Option.bind_some, if_pos rfl, h2, Option.bind_some, h3, compL_map ds _ fun d hd => h d (List.mem_cons_of_mem _ hd)]
    simp
theorem compL_filter {tg : Tg} {fl : Fl} {elt cond : R3} {own : List Nat} {f : D → MV} {p : D → Bool} {ρ : Env} : ∀ (ds : List D) (acc : List MV), (∀ d ∈ ds, ∃ ρt ρc, bindT tg (childFl fl d) d ρ = some ρt ∧ cond.t ρt = some (p d, ρc) ∧ (p d = false → wipeE own ρc = ρ) ∧ (p d = true → ∃ ρ', elt.v ρc = some (f d, ρ') ∧ wipeE own ρ' = ρ)) →
    compL tg fl (some cond) elt own ds acc ρ = some (acc ++ (ds.filter p).map f, ρ)
  | [], acc, _ => by unfold compL; simp
  | d :: ds, acc, h => by
    obtain ⟨ρt, ρc, h1, h2, h3, h4⟩ := h d List.mem_cons_self
    have ih := fun acc => compL_filter (tg := tg) (fl := fl) (elt := elt) (cond := cond) (own := own) (f := f) (p := p) (ρ := ρ) ds acc fun d hd => h d (List.mem_cons_of_mem _ hd)
    unfold compL
    rw [h1, Option.bind_some]
    show ((cond.t ρt).bind _) = _
    rw [h2, Option.bind_some]
    cases hp : p d with
    | true =>
      obtain ⟨ρ', h5, h6⟩ := h4 hp
      rw [if_pos rfl, h5, Option.bind_some, h6, ih]
      simp [hp]
    | false =>
      rw [if_neg Bool.false_ne_true, h3 hp, ih]
      simp [hp]
theorem zipD_ints : ∀ (as bs : List Int), zipD (as.map .int) (bs.map .int) = (as.zip bs).map fun p => .tuple [.int p.1, .int p.2]
  | [], _ => rfl
  | _ :: _, [] => rfl
  | a :: as, b :: bs => by
    show PyData.tuple [.int a, .int b] :: zipD (as.map .int) (bs.map .int) = _
    rw [zipD_ints as bs]; rfl
theorem boolsOf_map {α : Type} (f : α → Bool) : ∀ xs : List α, boolsOf (xs.map fun x => .bool (f x)) = some (xs.map f)
  | [] => rfl
  | x :: xs => by
    show (boolsOf (xs.map fun x => .bool (f x))).map (f x :: ·) = _
    rw [boolsOf_map f xs]; rfl
@[simp] theorem ctx_call {P : List DefI} {G : List (PySem.Str × D)} {W : List KwI} {n : Nat} : (ctx P G W n).call = runDef P G W n := rfl
theorem ctx_modes {P : List DefI} {G : List (PySem.Str × D)} {W : List KwI} {n j : Nat} : (ctx P G W n).modes j = ((P[j]?).map (·.modes)).getD [] := rfl
@[simp] theorem ctx_glob {P : List DefI} {G : List (PySem.Str × D)} {W : List KwI} {n j : Nat} : (ctx P G W n).glob j = (G[j]?).map (·.2) := rfl
theorem ctx_kws {P : List DefI} {G : List (PySem.Str × D)} {W : List KwI} {n : Nat} : (ctx P G W n).kws = W := rfl
theorem zip_begins : ∀ as bs : List Int, (decide (as.length ≤ bs.length) && ((as.zip bs).map fun p => decide (p.1 = p.2)).all id) = decide (bs.take as.length = as)
  | [], bs => by simp
  | a :: as, [] => by simp
  | a :: as, b :: bs => by
    have ih := zip_begins as bs
    simp only [List.length_cons, List.zip_cons_cons, List.map_cons, List.all_cons, List.take_succ_cons, List.cons.injEq, id]
    rw [Bool.eq_iff_iff] at ih ⊢
    simp only [Bool.and_eq_true, decide_eq_true_eq, Nat.add_le_add_iff_right] at ih ⊢
    rw [← ih]
    constructor
    · rintro ⟨h1, h2, h3⟩; exact ⟨h2.symm, h1, h3⟩
    · rintro ⟨h1, h2, h3⟩; exact ⟨h2, h1.symm, h3⟩
end Q
set_option maxHeartbeats 4000000
namespace Q
/-! ### runs that end well -/
def Ok {α : Type} (x : Option α) (Q : α → Prop) : Prop := ∃ r, x = some r ∧ Q r
section
variable {α β : Type} {Q P : α → Prop} {x : Option α}
@[simp] theorem Ok_some {a : α} : Ok (some a) Q = Q a := propext ⟨fun ⟨_, e, q⟩ => by cases e; exact q, fun q => ⟨a, rfl, q⟩⟩
@[simp] theorem Ok_none : Ok (none : Option α) Q = False := propext ⟨fun ⟨_, e, _⟩ => by (cases e), fun h => h.elim⟩
@[simp] theorem Ok_bind {f : α → Option β} {Q : β → Prop} : Ok (x.bind f) Q = Ok x fun a => Ok (f a) Q := by
  cases x <;> simp
@[simp] theorem Ok_map {f : α → β} {Q : β → Prop} : Ok (x.map f) Q = Ok x fun a => Q (f a) := by
  cases x <;> simp
theorem Ok_ite {c : Prop} [Decidable c] {a b : Option α} : Ok (if c then a else b) Q = if c then Ok a Q else Ok b Q := by
  split <;> rfl
theorem Ok.mono (h : Ok x P) (f : ∀ a, P a → Q a) : Ok x Q := by
  obtain ⟨r, e, p⟩ := h
  exact ⟨r, e, f r p⟩
theorem Ok.use {a : α} (e : x = some a) (h : Q a) : Ok x Q := ⟨a, e, h⟩
theorem Ok.get (h : Ok x Q) : ∃ r, x = some r ∧ Q r := h
end
theorem Ok_thenS {x : Option (Flow × Env)} {k : Env → Option (Flow × Env)} {Q : Flow × Env → Prop} : Ok (thenS x k) Q = Ok x fun q => match q.1 with
    | .next => Ok (k q.2) Q
    | _ => Q q := by
  unfold thenS
  rw [Ok_bind]
  congr 1
  funext ⟨f, e⟩
  cases f <;> simp
/-- what a turn's end asks -/
def Turn (P : Env → Prop) (Q : Flow × Env → Prop) (q : Flow × Env) : Prop := match q.1 with
  | .next => P q.2
  | .cnt => P q.2
  | .brk => Q (.next, q.2)
  | .ret r => Q (.ret r, q.2)
@[simp] theorem Turn_next {P : Env → Prop} {Q : Flow × Env → Prop} {ρ : Env} : Turn P Q (.next, ρ) = P ρ := rfl
@[simp] theorem Turn_ret {P : Env → Prop} {Q : Flow × Env → Prop} {ρ : Env} {r : MV} : Turn P Q (.ret r, ρ) = Q (.ret r, ρ) := rfl
theorem Ok_forL {tg : Tg} {fl : Fl} {body : Env → Option (Flow × Env)} {Q : Flow × Env → Prop} (P : List D → Env → Prop) : ∀ (ds : List D) (ρ : Env), P ds ρ →
    (∀ d rest ρ, P (d :: rest) ρ → Ok (bindT tg (childFl fl d) d ρ) fun ρt => Ok (body ρt) (Turn (P rest) Q)) → (∀ ρ, P [] ρ → Q (.next, ρ)) → Ok (forL tg fl body ds ρ) Q
  | [], ρ, h, _, e => by unfold forL; rw [Ok_some]; exact e ρ h
  | d :: ds, ρ, h, step, e => by
    unfold forL
    obtain ⟨ρt, h1, ⟨f, ρ1⟩, h2, h3⟩ := step d ds ρ h
    rw [h1, Option.bind_some, h2, Option.bind_some]
    cases f with
    | next => exact Ok_forL P ds ρ1 h3 step e
    | cnt => exact Ok_forL P ds ρ1 h3 step e
    | brk => rw [Ok_some]; exact h3
    | ret r => rw [Ok_some]; exact h3
/-! ### slots that may be stored to -/
def canPut : Slot → Bool
  | .unset => true
  | .own _ => true
  | .bor _ _ => true
  | _ => false
@[simp] theorem canPut_unset : canPut .unset = true := rfl
@[simp] theorem canPut_own {m : MV} : canPut (.own m) = true := rfl
@[simp] theorem canPut_bor {f : Bf} {d : D} : canPut (.bor f d) = true := rfl
theorem putVar_eq {i : Nat} {s : Slot} {ρ : Env} : putVar i s ρ = (ρ[i]?).bind fun t => if canPut t then some (ρ.set i s) else none := by
  unfold putVar
  cases ρ[i]? with
  | none => rfl
  | some t => cases t <;> rfl
section
variable {C : CtxQ} {ρ : Env}
@[simp] theorem run_var_kd {i : Nat} : (run C (.var i)).kd ρ = none := rfl
@[simp] theorem run_cst_q {d : D} : (run C (.cst d)).q ρ = none := rfl
@[simp] theorem run_cst_kd {d : D} : (run C (.cst d)).kd ρ = none := rfl
@[simp] theorem run_idx_kd {a b : E} : (run C (.idx a b)).kd ρ = none := rfl
@[simp] theorem run_gl_q {k : Nat} : (run C (.gl k)).q ρ = none := rfl
@[simp] theorem run_gl_kd {k : Nat} : (run C (.gl k)).kd ρ = none := rfl
@[simp] theorem run_tup_q {es : List E} : (run C (.tup es)).q ρ = none := rfl
@[simp] theorem run_tup_kd {es : List E} : (run C (.tup es)).kd ρ = (evs (runs C es) ρ).bind fun q => if q.1.length ≤ PySem.sizeLine then (keysOf (freezes q.1)).bind fun ks => some (ks, q.2) else none := rfl
@[simp] theorem run_lst_q {es : List E} : (run C (.lst es)).q ρ = none := rfl
@[simp] theorem run_bin_q {op : BOp} {a b : E} : (run C (.bin op a b)).q ρ = none := rfl
@[simp] theorem run_bin_kd {op : BOp} {a b : E} : (run C (.bin op a b)).kd ρ = none := rfl
@[simp] theorem run_cmp_q {op : COp} {a b : E} : (run C (.cmp op a b)).q ρ = none := rfl
@[simp] theorem run_and_q {a b : E} : (run C (.and a b)).q ρ = none := rfl
@[simp] theorem run_or_q {a b : E} : (run C (.or a b)).q ρ = none := rfl
@[simp] theorem run_not_q {a : E} : (run C (.not a)).q ρ = none := rfl
@[simp] theorem run_ite_q {c a b : E} : (run C (.ite c a b)).q ρ = none := rfl
@[simp] theorem run_ite_kd {c a b : E} : (run C (.ite c a b)).kd ρ = none := rfl
@[simp] theorem run_slc_q {a : E} {lo hi : Option E} : (run C (.slc a lo hi)).q ρ = none := rfl
@[simp] theorem run_call_q {j : Nat} {args : List E} : (run C (.call j args)).q ρ = none := rfl
@[simp] theorem run_call_kd {j : Nat} {args : List E} : (run C (.call j args)).kd ρ = none := rfl
@[simp] theorem run_callK_q {j : Nat} {args : List E} : (run C (.callK j args)).q ρ = none := rfl
@[simp] theorem run_blt_q {f : Blt} {args : List E} : (run C (.blt f args)).q ρ = none := rfl
@[simp] theorem run_blt_kd {f : Blt} {args : List E} : (run C (.blt f args)).kd ρ = none := rfl
@[simp] theorem run_comp_q {elt : E} {tg : Tg} {it : It} {cond : Option E} {own : List Nat} : (run C (.comp elt tg it cond own)).q ρ = none := rfl
@[simp] theorem run_mop_v {op : MOp} {p : E} {args : List E} : (run C (.mop op p args)).v ρ = (evMop op (run C p) (runs C args)) ρ := rfl
@[simp] theorem run_mop_p {op : MOp} {p : E} {args : List E} : (run C (.mop op p args)).p ρ = ((evMop op (run C p) (runs C args)) ρ).bind fun q => some (freeze q.1, .val, q.2, []) := rfl
@[simp] theorem run_mop_t {op : MOp} {p : E} {args : List E} : (run C (.mop op p args)).t ρ = ((evMop op (run C p) (runs C args)) ρ).bind fun q => (truthR (freeze q.1)).bind fun b => some (b, q.2) := rfl
@[simp] theorem run_mop_q {op : MOp} {p : E} {args : List E} : (run C (.mop op p args)).q ρ = none := rfl
@[simp] theorem run_mop_kd {op : MOp} {p : E} {args : List E} : (run C (.mop op p args)).kd ρ = none := rfl
@[simp] theorem run_ext_v {f : Ext} {args : List E} : (run C (.ext f args)).v ρ = (evExt f (runs C args)) ρ := rfl
@[simp] theorem run_ext_p {f : Ext} {args : List E} : (run C (.ext f args)).p ρ = ((evExt f (runs C args)) ρ).bind fun q => some (freeze q.1, .val, q.2, []) := rfl
@[simp] theorem run_ext_t {f : Ext} {args : List E} : (run C (.ext f args)).t ρ = ((evExt f (runs C args)) ρ).bind fun q => (truthR (freeze q.1)).bind fun b => some (b, q.2) := rfl
@[simp] theorem run_ext_q {f : Ext} {args : List E} : (run C (.ext f args)).q ρ = none := rfl
@[simp] theorem run_ext_kd {f : Ext} {args : List E} : (run C (.ext f args)).kd ρ = none := rfl
@[simp] theorem run_dct_v {ks : List L2.Key} {es : List E} : (run C (.dct ks es)).v ρ = (evDct ks (runs C es)) ρ := rfl
@[simp] theorem run_dct_p {ks : List L2.Key} {es : List E} : (run C (.dct ks es)).p ρ = ((evDct ks (runs C es)) ρ).bind fun q => some (freeze q.1, .val, q.2, []) := rfl
@[simp] theorem run_dct_t {ks : List L2.Key} {es : List E} : (run C (.dct ks es)).t ρ = ((evDct ks (runs C es)) ρ).bind fun q => (truthR (freeze q.1)).bind fun b => some (b, q.2) := rfl
@[simp] theorem run_dct_q {ks : List L2.Key} {es : List E} : (run C (.dct ks es)).q ρ = none := rfl
@[simp] theorem run_dct_kd {ks : List L2.Key} {es : List E} : (run C (.dct ks es)).kd ρ = none := rfl
@[simp] theorem run_dnew_v {t : Bool} : (run C (.dnew t)).v ρ = ((fun ρ => some (MV.nd (if t then .dT [] else .dK []) [], ρ))) ρ := rfl
@[simp] theorem run_dnew_p {t : Bool} : (run C (.dnew t)).p ρ = (((fun ρ => some (MV.nd (if t then .dT [] else .dK []) [], ρ))) ρ).bind fun q => some (freeze q.1, .val, q.2, []) := rfl
@[simp] theorem run_dnew_t {t : Bool} : (run C (.dnew t)).t ρ = (((fun ρ => some (MV.nd (if t then .dT [] else .dK []) [], ρ))) ρ).bind fun q => (truthR (freeze q.1)).bind fun b => some (b, q.2) := rfl
@[simp] theorem run_dnew_q {t : Bool} : (run C (.dnew t)).q ρ = none := rfl
@[simp] theorem run_dnew_kd {t : Bool} : (run C (.dnew t)).kd ρ = none := rfl
@[simp] theorem run_dctV_v {kvs : List (Nat × Nat)} : (run C (.dctV kvs)).v ρ = (evDctV kvs) ρ := rfl
@[simp] theorem run_getT_v {p k df : E} : (run C (.getT p k df)).v ρ = (evGetT (run C p) (run C k) (run C df)) ρ := rfl
@[simp] theorem run_getT_p {p k df : E} : (run C (.getT p k df)).p ρ = ((evGetT (run C p) (run C k) (run C df)) ρ).bind fun q => some (freeze q.1, .val, q.2, []) := rfl
@[simp] theorem run_inT_v {neg : Bool} {k p : E} : (run C (.inT neg k p)).v ρ = (evInT neg (run C k) (run C p)) ρ := rfl
@[simp] theorem run_inT_p {neg : Bool} {k p : E} : (run C (.inT neg k p)).p ρ = ((evInT neg (run C k) (run C p)) ρ).bind fun q => some (freeze q.1, .val, q.2, []) := rfl
@[simp] theorem run_inT_t {neg : Bool} {k p : E} : (run C (.inT neg k p)).t ρ = ((evInT neg (run C k) (run C p)) ρ).bind fun q => (truthR (freeze q.1)).bind fun b => some (b, q.2) := rfl
@[simp] theorem run_inT_q {neg : Bool} {k p : E} : (run C (.inT neg k p)).q ρ = none := rfl
@[simp] theorem run_inT_kd {neg : Bool} {k p : E} : (run C (.inT neg k p)).kd ρ = none := rfl
@[simp] theorem run_frz_v {a : E} : (run C (.frz a)).v ρ = ((fun ρ => ((run C a).v ρ).bind fun q => some (MV.val (freeze q.1), q.2))) ρ := rfl
@[simp] theorem run_frz_p {a : E} : (run C (.frz a)).p ρ = (((fun ρ => ((run C a).v ρ).bind fun q => some (MV.val (freeze q.1), q.2))) ρ).bind fun q => some (freeze q.1, .val, q.2, []) := rfl
@[simp] theorem run_frz_t {a : E} : (run C (.frz a)).t ρ = (((fun ρ => ((run C a).v ρ).bind fun q => some (MV.val (freeze q.1), q.2))) ρ).bind fun q => (truthR (freeze q.1)).bind fun b => some (b, q.2) := rfl
@[simp] theorem run_frz_q {a : E} : (run C (.frz a)).q ρ = none := rfl
@[simp] theorem run_frz_kd {a : E} : (run C (.frz a)).kd ρ = none := rfl
@[simp] theorem run_mv_v {i : Nat} : (run C (.mv i)).v ρ = (moveVar i) ρ := rfl
@[simp] theorem run_mv_p {i : Nat} : (run C (.mv i)).p ρ = ((moveVar i) ρ).bind fun q => some (freeze q.1, .val, q.2, []) := rfl
@[simp] theorem run_mv_t {i : Nat} : (run C (.mv i)).t ρ = ((moveVar i) ρ).bind fun q => (truthR (freeze q.1)).bind fun b => some (b, q.2) := rfl
@[simp] theorem run_mv_q {i : Nat} : (run C (.mv i)).q ρ = none := rfl
@[simp] theorem run_mv_kd {i : Nat} : (run C (.mv i)).kd ρ = none := rfl
@[simp] theorem run_comp2_v {elt : E} {tg : Tg} {it : It} {tg1 : Tg} {k1 : Nat} {a1 : E} {b1 cond : Option E} {own own1 : List Nat} : (run C (.comp2 elt tg it tg1 k1 a1 b1 cond own own1)).v ρ = (evComp2 (run C elt) tg (runI C it) tg1 (evJ k1 (run C a1) (runO C b1)) (runO C cond) own own1) ρ := rfl
@[simp] theorem run_comp2_p {elt : E} {tg : Tg} {it : It} {tg1 : Tg} {k1 : Nat} {a1 : E} {b1 cond : Option E} {own own1 : List Nat} : (run C (.comp2 elt tg it tg1 k1 a1 b1 cond own own1)).p ρ = ((evComp2 (run C elt) tg (runI C it) tg1 (evJ k1 (run C a1) (runO C b1)) (runO C cond) own own1) ρ).bind fun q => some (freeze q.1, .val, q.2, []) := rfl
@[simp] theorem run_comp2_t {elt : E} {tg : Tg} {it : It} {tg1 : Tg} {k1 : Nat} {a1 : E} {b1 cond : Option E} {own own1 : List Nat} : (run C (.comp2 elt tg it tg1 k1 a1 b1 cond own own1)).t ρ = ((evComp2 (run C elt) tg (runI C it) tg1 (evJ k1 (run C a1) (runO C b1)) (runO C cond) own own1) ρ).bind fun q => (truthR (freeze q.1)).bind fun b => some (b, q.2) := rfl
@[simp] theorem run_comp2_q {elt : E} {tg : Tg} {it : It} {tg1 : Tg} {k1 : Nat} {a1 : E} {b1 cond : Option E} {own own1 : List Nat} : (run C (.comp2 elt tg it tg1 k1 a1 b1 cond own own1)).q ρ = none := rfl
@[simp] theorem run_comp2_kd {elt : E} {tg : Tg} {it : It} {tg1 : Tg} {k1 : Nat} {a1 : E} {b1 cond : Option E} {own own1 : List Nat} : (run C (.comp2 elt tg it tg1 k1 a1 b1 cond own own1)).kd ρ = none := rfl
@[simp] theorem run_fld_v {a : E} {f : PySem.Str} : (run C (.fld a f)).v ρ = if treeQ (run C a) ρ then vOfQ (qFld (run C a) f) ρ else evFldD (run C a) f ρ := rfl
@[simp] theorem run_fld_p {a : E} {f : PySem.Str} : (run C (.fld a f)).p ρ = if treeQ (run C a) ρ then pOfQ (qFld (run C a) f) ρ else (evFldD (run C a) f ρ).bind fun q => some (freeze q.1, .val, q.2, []) := rfl
@[simp] theorem run_fld_t {a : E} {f : PySem.Str} : (run C (.fld a f)).t ρ = (if treeQ (run C a) ρ then vOfQ (qFld (run C a) f) ρ else evFldD (run C a) f ρ).bind fun q => (truthR (freeze q.1)).bind fun b => some (b, q.2) := rfl
@[simp] theorem run_callF_v {j : Nat} {m : PySem.Str} {r : E} {args : List E} : (run C (.callF j m r args)).v ρ = evCallF C j m (run C r) (runs C args) ρ := rfl
@[simp] theorem run_callF_p {j : Nat} {m : PySem.Str} {r : E} {args : List E} : (run C (.callF j m r args)).p ρ = (evCallF C j m (run C r) (runs C args) ρ).bind fun q => some (freeze q.1, .val, q.2, []) := rfl
@[simp] theorem run_callF_t {j : Nat} {m : PySem.Str} {r : E} {args : List E} : (run C (.callF j m r args)).t ρ = (evCallF C j m (run C r) (runs C args) ρ).bind fun q => (truthR (freeze q.1)).bind fun b => some (b, q.2) := rfl
@[simp] theorem run_callF_q {j : Nat} {m : PySem.Str} {r : E} {args : List E} : (run C (.callF j m r args)).q ρ = none := rfl
@[simp] theorem run_callF_kd {j : Nat} {m : PySem.Str} {r : E} {args : List E} : (run C (.callF j m r args)).kd ρ = none := rfl
@[simp] theorem run_mk_v {j : Nat} {c : PySem.Str} {args : List E} : (run C (.mk c j args)).v ρ = evMk C c j (runs C args) ρ := rfl
@[simp] theorem exe_fldT {c : PySem.Str} {p : E} {f : PySem.Str} {e : E} : exe C (.fldT c p f e) ρ = ((run C e).v ρ).bind fun r => ((run C p).q r.2).bind fun x => (putF? c x.m f r.1).bind fun m => if x.ls.isEmpty then none else (putPl x.i x.w m (unl x.ls x.ρ)).bind fun ρ2 => some (.next, ρ2) := rfl
@[simp] theorem run_fld_q {a : E} {f : PySem.Str} : (run C (.fld a f)).q ρ = qFld (run C a) f ρ := rfl
@[simp] theorem run_fld_kd {a : E} {f : PySem.Str} : (run C (.fld a f)).kd ρ = none := rfl
@[simp] theorem exe_putT {p k e : E} : exe C (.putT p k e) ρ = ((run C e).v ρ).bind fun r => ((run C p).q r.2).bind fun x => (keyE (run C k) x.ρ).bind fun y => (putMV x.m y.1 r.1).bind fun m => if x.ls.isEmpty then none else (putPl x.i x.w m (unl x.ls y.2)).bind fun ρ2 => some (.next, ρ2) := rfl
end
end Q
namespace Q
@[simp] def s_evO := @evO.eq_1
@[simp] def s_evC := @evC.eq_1
@[simp] def s_evBin := @evBin.eq_1
@[simp] def s_evCmp := @evCmp.eq_1
@[simp] def s_evChn := @evChn.eq_1
@[simp] def s_evAnd := @evAnd.eq_1
@[simp] def s_evOr := @evOr.eq_1
@[simp] def s_evNot := @evNot.eq_1
@[simp] def s_evIte := @evIte.eq_1
@[simp] def s_evIdx := @evIdx.eq_1
@[simp] def s_pkIdx := @pkIdx.eq_1
@[simp] def s_evSlc := @evSlc.eq_1
@[simp] def s_evCall := @evCall.eq_1
@[simp] def s_evCallK := @evCallK.eq_1
@[simp] def s_evBlt := @evBlt.eq_1
@[simp] def s_evComp := @evComp.eq_1
@[simp] def s_evMop := @evMop.eq_1
@[simp] def s_evExt := @evExt.eq_1
@[simp] def s_evDct := @evDct.eq_1
@[simp] def s_evInT := @evInT.eq_1
@[simp] def s_vOfQ := @vOfQ.eq_1
@[simp] def s_evFldD := @evFldD.eq_1
@[simp] def s_evCallF := @evCallF.eq_1
@[simp] def s_evMk := @evMk.eq_1
@[simp] def s_pOfQ := @pOfQ.eq_1
@[simp] def s_qFld := @qFld.eq_1
@[simp] def s_qIdx := @qIdx.eq_1
@[simp] def s_keyE := @keyE.eq_1
@[simp] def s_bRd := @bRd.eq_1
@[simp] def s_peekVar := @peekVar.eq_1
@[simp] def s_takeVar := @takeVar.eq_1
@[simp] def s_qVar := @qVar.eq_1
@[simp] def s_putPl := @putPl.eq_1
@[simp] def s_appItem := @appItem.eq_1
@[simp] def s_treeQ := @treeQ.eq_1
@[simp] def s_moveVar := @moveVar.eq_1
@[simp] def s_evA1 := @evA.eq_1
@[simp] def s_evA2 := @evA.eq_2
@[simp] def s_evA3 := @evA.eq_3
@[simp] def s_evA4 := @evA.eq_4
@[simp] def s_evA5 := @evA.eq_5
@[simp] def s_fill1 := @fill.eq_1
@[simp] def s_fill2 := @fill.eq_2
@[simp] def s_fill3 := @fill.eq_3
@[simp] def s_back1 := @back.eq_1
@[simp] def s_back2 := @back.eq_2
@[simp] def s_back3 := @back.eq_3
@[simp] def s_back4 := @back.eq_4
@[simp] def s_bindT1 := @bindT.eq_1
@[simp] def s_bindT2 := @bindT.eq_2
@[simp] def s_bindTs1 := @bindTs.eq_1
@[simp] def s_bindTs2 := @bindTs.eq_2
@[simp] def s_bindTs3 := @bindTs.eq_3
@[simp] def s_setAt1 := @setAt.eq_1
@[simp] def s_setAt2 := @setAt.eq_2
@[simp] def s_setAt3 := @setAt.eq_3
@[simp] def s_setAt4 := @setAt.eq_4
@[simp] def s_posOf1 := @posOf.eq_1
@[simp] def s_posOf2 := @posOf.eq_2
@[simp] def s_keysOf1 := @keysOf.eq_1
@[simp] def s_keysOf2 := @keysOf.eq_2
@[simp] def s_permL1 := @permL.eq_1
@[simp] def s_permL2 := @permL.eq_2
@[simp] def s_clrT1 := @clrT.eq_1
@[simp] def s_clrT2 := @clrT.eq_2
@[simp] def s_clrTs1 := @clrTs.eq_1
@[simp] def s_clrTs2 := @clrTs.eq_2
@[simp] def s_boolsOf1 := @boolsOf.eq_1
@[simp] def s_boolsOf2 := @boolsOf.eq_2
@[simp] def s_boolsOf3 := @boolsOf.eq_3
open PySem
section
variable {d : D} {i : Int} {b : Bool} {x : Str} {xs ys : List D} {ps : List (D × D)} {m : MV} {ms : List MV} {k : Kind} {ρ : Env} {fl : Fl} {n : Nat} {e : E}
@[simp] def s_kid := @Plc.kid.eq_1
@[simp] theorem isTree_val : isTree (.val d) = false := rfl
@[simp] theorem isTree_lst : isTree (.lst ms) = true := rfl
@[simp] theorem isTree_nd : isTree (.nd k ms) = true := rfl
@[simp] theorem kids_lst : kids (.lst ms) = ms := rfl
@[simp] theorem kids_nd : kids (.nd k ms) = ms := rfl
@[simp] theorem kids_val : kids (.val d) = [] := rfl
@[simp] theorem intOf_int : intOf (.val (.int i)) = some i := rfl
@[simp] theorem truthR_bool : truthR (.bool b) = some b := rfl
@[simp] theorem truthR_int : truthR (.int i) = some (i != 0) := rfl
@[simp] theorem truthR_list : truthR (.list xs) = some (!xs.isEmpty) := rfl
@[simp] theorem truthR_tuple : truthR (.tuple xs) = some (!xs.isEmpty) := rfl
@[simp] theorem truthR_none : truthR .none = some false := rfl
@[simp] theorem retOf_next : retOf .next = some (.val .none) := rfl
@[simp] theorem retOf_ret : retOf (.ret m) = some m := rfl
@[simp] theorem isNone_none : isNone .none = true := rfl
@[simp] theorem isNone_bool : isNone (.bool b) = false := rfl
@[simp] theorem isNone_int : isNone (.int i) = false := rfl
@[simp] theorem isNone_str : isNone (.str x) = false := rfl
@[simp] theorem isNone_list : isNone (.list xs) = false := rfl
@[simp] theorem isNone_tuple : isNone (.tuple xs) = false := rfl
@[simp] theorem keyOf_int : keyOf (.int i) = some (.inl i) := rfl
@[simp] theorem keyOf_str : keyOf (.str x) = some (.inr x) := rfl
@[simp] theorem isDict_none : isDict .none = false := rfl
@[simp] theorem isDict_bool : isDict (.bool b) = false := rfl
@[simp] theorem isDict_int : isDict (.int i) = false := rfl
@[simp] theorem isDict_str : isDict (.str x) = false := rfl
@[simp] theorem isDict_list : isDict (.list xs) = false := rfl
@[simp] theorem isDict_tuple : isDict (.tuple xs) = false := rfl
@[simp] theorem flat_int : flat (.int i) = true := rfl
@[simp] theorem flat_str : flat (.str x) = true := rfl
@[simp] theorem flat_bool : flat (.bool b) = true := rfl
@[simp] theorem flat_none : flat .none = true := rfl
@[simp] theorem flat_list : flat (.list xs) = false := rfl
@[simp] theorem flat_tuple : flat (.tuple xs) = false := rfl
@[simp] theorem isVal_val : isVal (.val d) = true := rfl
@[simp] theorem isVal_lst : isVal (.lst ms) = false := rfl
@[simp] theorem isVal_nd : isVal (.nd k ms) = false := rfl
@[simp] theorem items_list : items? (.list xs) = some xs := rfl
@[simp] theorem items_tuple : items? (.tuple xs) = some xs := rfl
@[simp] theorem same_list : sameSeq (.list xs) (.list ys) = some (xs, ys) := rfl
@[simp] theorem same_tuple : sameSeq (.tuple xs) (.tuple ys) = some (xs, ys) := rfl
@[simp] theorem slotOf_val : slotOf .val d = .own (.val d) := rfl
@[simp] theorem slotOf_shal : slotOf .shal d = .bor (.fl .shal) d := rfl
@[simp] theorem slotOf_deep : slotOf .deep d = .bor (.fl .deep) d := rfl
@[simp] theorem childFl_val : childFl .val d = .val := rfl
@[simp] theorem childFl_shal : childFl .shal d = .val := rfl
@[simp] theorem childFl_deep : childFl .deep d = if flat d then .val else .deep := rfl
@[simp] theorem flagOf_val : flagOf (.val d) = .val := rfl
@[simp] theorem flagOf_nd : flagOf (.nd k ms) = .deep := rfl
theorem flagOf_lst : flagOf (.lst ms) = if ms.all isVal then .shal else .deep := rfl
@[simp] theorem moveOf_var : moveOf (.var n) ρ = match ρ[n]? with | some (.own m) => some (m, ρ.set n .unset) | _ => none := rfl
@[simp] theorem moveOf_cst : moveOf (.cst d) ρ = none := rfl
@[simp] theorem isLst_eq : isLstAt n ρ = match ρ[n]? with | some (.own (.lst _)) => true | some (.io (.lst _)) => true | _ => false := rfl
@[simp] theorem isTy_int {t : Ty} : isTy t (.int i) = match t with | .int => true | _ => false := by cases t <;> rfl
@[simp] theorem isTy_bool {t : Ty} : isTy t (.bool b) = match t with | .int => true | .bool => true | _ => false := by cases t <;> rfl
@[simp] theorem isTy_str {t : Ty} : isTy t (.str x) = match t with | .str => true | _ => false := by cases t <;> rfl
@[simp] theorem isTy_list {t : Ty} : isTy t (.list xs) = match t with | .list => true | _ => false := by cases t <;> rfl
@[simp] theorem isTy_tuple {t : Ty} : isTy t (.tuple xs) = match t with | .tuple => true | _ => false := by cases t <;> rfl
@[simp] theorem isTy_none {t : Ty} : isTy t .none = false := by cases t <;> rfl
end
@[simp] theorem moveOf_tup {ρ : Env} {es : _} : moveOf (.tup es) ρ = none := rfl
@[simp] theorem moveOf_lst {ρ : Env} {es : _} : moveOf (.lst es) ρ = none := rfl
@[simp] theorem moveOf_bin {ρ : Env} {op : _} {a : _} {b : _} : moveOf (.bin op a b) ρ = none := rfl
@[simp] theorem moveOf_neg {ρ : Env} {a : _} : moveOf (.neg a) ρ = none := rfl
@[simp] theorem moveOf_cmp {ρ : Env} {op : _} {a : _} {b : _} : moveOf (.cmp op a b) ρ = none := rfl
@[simp] theorem moveOf_chn {ρ : Env} {o1 : _} {o2 : _} {a : _} {b : _} {c : _} : moveOf (.chn o1 o2 a b c) ρ = none := rfl
@[simp] theorem moveOf_isN {ρ : Env} {a : _} : moveOf (.isN a) ρ = none := rfl
@[simp] theorem moveOf_notN {ρ : Env} {a : _} : moveOf (.notN a) ρ = none := rfl
@[simp] theorem moveOf_and {ρ : Env} {a : _} {b : _} : moveOf (.and a b) ρ = none := rfl
@[simp] theorem moveOf_or {ρ : Env} {a : _} {b : _} : moveOf (.or a b) ρ = none := rfl
@[simp] theorem moveOf_not {ρ : Env} {a : _} : moveOf (.not a) ρ = none := rfl
@[simp] theorem moveOf_ite {ρ : Env} {c : _} {a : _} {b : _} : moveOf (.ite c a b) ρ = none := rfl
@[simp] theorem moveOf_idx {ρ : Env} {a : _} {b : _} : moveOf (.idx a b) ρ = none := rfl
@[simp] theorem moveOf_slc {ρ : Env} {a : _} {lo : _} {hi : _} : moveOf (.slc a lo hi) ρ = none := rfl
@[simp] theorem moveOf_call {ρ : Env} {j : _} {args : _} : moveOf (.call j args) ρ = none := rfl
@[simp] theorem moveOf_callK {ρ : Env} {j : _} {args : _} : moveOf (.callK j args) ρ = none := rfl
@[simp] theorem moveOf_callT {ρ : Env} {j : _} {a : _} : moveOf (.callT j a) ρ = none := rfl
@[simp] theorem moveOf_blt {ρ : Env} {f : _} {args : _} : moveOf (.blt f args) ρ = none := rfl
@[simp] theorem moveOf_comp {ρ : Env} {elt : _} {tg : _} {it : _} {cond : _} {own : _} : moveOf (.comp elt tg it cond own) ρ = none := rfl
@[simp] theorem moveOf_gl {ρ : Env} {k : _} : moveOf (.gl k) ρ = none := rfl
@[simp] theorem moveOf_fld {ρ : Env} {a : _} {f : _} : moveOf (.fld a f) ρ = none := rfl
@[simp] theorem moveOf_mop {ρ : Env} {op : _} {p : _} {args : _} : moveOf (.mop op p args) ρ = none := rfl
@[simp] theorem moveOf_ext {ρ : Env} {f : _} {args : _} : moveOf (.ext f args) ρ = none := rfl
@[simp] theorem moveOf_dct {ρ : Env} {ks : _} {es : _} : moveOf (.dct ks es) ρ = none := rfl
@[simp] theorem moveOf_callF {ρ : Env} {j : _} {m : _} {r : _} {a : _} : moveOf (.callF j m r a) ρ = none := rfl
@[simp] theorem moveOf_mk {ρ : Env} {j : _} {m : _} {a : _} : moveOf (.mk m j a) ρ = none := rfl
@[simp] theorem moveOf_dctV {ρ : Env} {t : _} : moveOf (.dctV t) ρ = none := rfl
@[simp] theorem moveOf_dnew {ρ : Env} {t : _} : moveOf (.dnew t) ρ = none := rfl
@[simp] theorem moveOf_inT {ρ : Env} {neg : _} {k : _} {p : _} : moveOf (.inT neg k p) ρ = none := rfl
section
variable {d e : D} {i j : Int} {b : Bool} {x y : Str} {xs ys : List D} {m r : MV} {ms rs : List MV} {k : Kind} {f1 f2 fl : Fl} {ks : List L2.Key} {kt : List (List L2.Key)} {kk : L2.Key} {kl : List L2.Key}
@[simp] theorem cmpR_eq : cmpR .eq d e = eqD d e := rfl
@[simp] theorem cmpR_ne : cmpR .ne d e = (eqD d e).map (! ·) := rfl
@[simp] theorem cmpR_lt : cmpR .lt (.int i) (.int j) = some (decide (i < j)) := rfl
@[simp] theorem cmpR_le : cmpR .le (.int i) (.int j) = some (decide (i ≤ j)) := rfl
@[simp] theorem cmpR_gt : cmpR .gt (.int i) (.int j) = some (decide (j < i)) := rfl
@[simp] theorem cmpR_ge : cmpR .ge (.int i) (.int j) = some (decide (j ≤ i)) := rfl
@[simp] theorem cmpR_inL : cmpR .isin d (.list xs) = inD d xs := rfl
@[simp] theorem cmpR_inT : cmpR .isin d (.tuple xs) = inD d xs := rfl
@[simp] theorem cmpR_niL : cmpR .notin d (.list xs) = (inD d xs).map (! ·) := rfl
@[simp] theorem cmpR_niT : cmpR .notin d (.tuple xs) = (inD d xs).map (! ·) := rfl
@[simp] theorem bltR_lenL : bltR .len [(.list xs, fl)] = some (.val (.int xs.length)) := rfl
@[simp] theorem bltR_lenT : bltR .len [(.tuple xs, fl)] = some (.val (.int xs.length)) := rfl
@[simp] theorem bltR_lenS : bltR .len [(.str x, fl)] = if x.length ≤ PySem.sizeLine then some (.val (.int x.length)) else none := rfl
@[simp] theorem bltR_abs : bltR .abs [(.int i, fl)] = some (.val (.int (if i < 0 then -i else i))) := rfl
@[simp] theorem bltR_int : bltR .int [(.int i, fl)] = some (.val (.int i)) := rfl
@[simp] theorem bltR_intb : bltR .int [(.bool b, fl)] = some (.val (.int (if b then 1 else 0))) := rfl
@[simp] theorem bltR_min2 : bltR .min2 [(.int i, f1), (.int j, f2)] = some (.val (.int (if j < i then j else i))) := rfl
@[simp] theorem bltR_max2 : bltR .max2 [(.int i, f1), (.int j, f2)] = some (.val (.int (if j > i then j else i))) := rfl
@[simp] theorem bltR_listL : bltR .list [(.list xs, fl)] = if badFl fl xs then none else some (.lst (xs.map .val)) := rfl
@[simp] theorem bltR_listT : bltR .list [(.tuple xs, fl)] = if badFl fl xs then none else some (.lst (xs.map .val)) := rfl
@[simp] theorem bltR_tupL : bltR .tuple [(.list xs, fl)] = if badFl fl xs then none else some (.val (.tuple xs)) := rfl
@[simp] theorem bltR_tupT : bltR .tuple [(.tuple xs, fl)] = if fl = .deep then none else some (.val (.tuple xs)) := rfl
@[simp] theorem bltR_all : bltR .all [(.list xs, fl)] = (boolsOf xs).map fun bs => .val (.bool (bs.all id)) := rfl
@[simp] theorem bltR_any : bltR .any [(.list xs, fl)] = (boolsOf xs).map fun bs => .val (.bool (bs.any id)) := rfl
@[simp] theorem bltR_min1 : bltR .min1 [(.list xs, fl)] = (intsOf xs).bind fun ns => (minI ns).map fun i => .val (.int i) := rfl
@[simp] theorem bltR_max1 : bltR .max1 [(.list xs, fl)] = (intsOf xs).bind fun ns => (maxI ns).map fun i => .val (.int i) := rfl
@[simp] theorem bltR_sorted : bltR .sorted [(.list xs, fl)] = (intsOf xs).bind fun ns => some (.lst ((sortI ns).map fun i => .val (.int i))) := rfl
@[simp] theorem bltR_isi {tys : List Ty} : bltR (.isi tys) [(d, fl)] = if isDict d then none else some (.val (.bool (tys.any fun t => isTy t d))) := rfl
@[simp] theorem idxR_list : idxR (.list xs) (.int i) = L2.atI xs i := rfl
@[simp] theorem idxR_tuple : idxR (.tuple xs) (.int i) = L2.atI xs i := rfl
@[simp] theorem idxR_str : idxR (.str x) (.int i) = if x.length ≤ PySem.sizeLine then (L2.atI x.cps.toList i).map fun c => .str ⟨#[c]⟩ else none := rfl
@[simp] theorem slcR_list {lo hi : Option Int} : slcR (.list xs) fl lo hi = if badFl fl xs then none else some (.lst ((cutD xs lo hi).map .val)) := rfl
@[simp] theorem slcR_tuple {lo hi : Option Int} : slcR (.tuple xs) fl lo hi = if fl = .deep then none else some (.val (.tuple (cutD xs lo hi))) := rfl
@[simp] theorem mopR_app : mopR .app (.lst ms) [r] = if ms.length < PySem.sizeLine then some (.val .none, .lst (ms ++ [r])) else none := rfl
@[simp] theorem mopR_ext : mopR .ext (.lst ms) [.lst rs] = if ms.length + rs.length ≤ PySem.sizeLine then some (.val .none, .lst (ms ++ rs)) else none := rfl
@[simp] theorem ixMV_lst : ixMV (.lst ms) (.k (.inl i)) = L2.ixN ms.length i := rfl
@[simp] theorem ixMV_dK : ixMV (.nd (.dK ks) ms) (.k kk) = posOf kk ks := rfl
@[simp] theorem ixMV_dT : ixMV (.nd (.dT kt) ms) (.t kl) = posOf kl kt := rfl
@[simp] theorem putMV_lst : putMV (.lst ms) (.k (.inl i)) r = (L2.ixN ms.length i).bind fun n => some (.lst (ms.set n r)) := rfl
@[simp] theorem putMV_dK : putMV (.nd (.dK ks) ms) (.k kk) r = putK .dK ks ms kk r := rfl
@[simp] theorem putMV_dT : putMV (.nd (.dT kt) ms) (.t kl) r = putK .dT kt ms kl r := rfl
end
end Q
set_option maxHeartbeats 4000000
namespace Q
open PySem
/-! ### plain data and how slots show them -/
def Scal : D → Prop
  | .int _ => True
  | .bool _ => True
  | .str x => PyData.strOk x = true
  | .none => True
  | _ => False
/-- data of so many levels, each row short -/
def Good : Nat → D → Prop
  | 0, d => Scal d
  | n + 1, d => Scal d ∨ ∃ xs : List D, (d = .list xs ∨ d = .tuple xs) ∧ xs.length < 1000 ∧ ∀ x ∈ xs, Good n x
theorem Good.up : ∀ {n : Nat} {d : D}, Good n d → Good (n + 1) d
  | 0, _, h => .inl h
  | n + 1, _, .inl h => .inl h
  | n + 1, _, .inr ⟨xs, e, l, g⟩ => .inr ⟨xs, e, l, fun x hx => (g x hx).up⟩
theorem Good.le {n m : Nat} {d : D} (h : n ≤ m) (g : Good n d) : Good m d := by
  induction h with
  | refl => exact g
  | step _ ih => exact ih.up
theorem Sh.str {n : Nat} {x : Str} (h : PyData.strOk x = true) : Sh n (.str x) := ⟨by simp [PyData.canLay0, h], by simp [PyData.depth]⟩
theorem Scal.sh {n : Nat} {d : D} (h : Scal d) : Sh n d := by
  cases d with
  | int _ => exact .int
  | bool _ => exact .bool
  | str _ => exact .str h
  | none => exact .none
  | list _ => cases h
  | tuple _ => cases h
  | dict _ => cases h
theorem Good.sh : ∀ {n : Nat} {d : D}, Good n d → Sh n d
  | 0, _, h => Scal.sh h
  | n + 1, _, .inl h => h.sh
  | n + 1, _, .inr ⟨xs, .inl e, l, g⟩ => by subst e; exact Sh.list fun x hx => (g x hx).sh
  | n + 1, _, .inr ⟨xs, .inr e, l, g⟩ => by subst e; exact Sh.tuple fun x hx => (g x hx).sh
theorem eqv_refl_all : ∀ {n : Nat} {xs : List D}, (∀ x ∈ xs, PyData.eqv x x = true) → PyData.eqvAll xs xs = true
  | _, [], _ => by simp [PyData.eqvAll]
  | n, x :: xs, h => by
    simp only [PyData.eqvAll, Bool.and_eq_true]
    exact ⟨h x List.mem_cons_self, eqv_refl_all (n := n) fun y hy => h y (List.mem_cons_of_mem _ hy)⟩
theorem Good.eqv : ∀ {n : Nat} {d : D}, Good n d → PyData.eqv d d = true
  | n, .int i, _ => by simp [PyData.eqv]
  | n, .bool i, _ => by simp [PyData.eqv]
  | n, .str i, _ => by simp [PyData.eqv]
  | n, .none, _ => by simp [PyData.eqv]
  | 0, .list _, h => by cases h
  | 0, .tuple _, h => by cases h
  | 0, .dict _, h => by cases h
  | n + 1, .list xs, h => by
    rcases h with h | ⟨ys, e | e, l, g⟩
    · cases h
    · cases e; simp only [PyData.eqv]; exact eqv_refl_all (n := 0) fun x hx => (g x hx).eqv
    · cases e
  | n + 1, .tuple xs, h => by
    rcases h with h | ⟨ys, e | e, l, g⟩
    · cases h
    · cases e
    · cases e; simp only [PyData.eqv]; exact eqv_refl_all (n := 0) fun x hx => (g x hx).eqv
  | n + 1, .dict _, h => by
    rcases h with h | ⟨ys, e | e, l, g⟩
    · cases h
    · cases e
    · cases e
theorem Good.eqD {n : Nat} {d : D} (h : Good n d) (hn : n ≤ 64) : eqD d d = some true := by
  unfold Q.eqD
  rw [h.sh.shaped hn]
  simp [h.eqv]
/-- a slot that shows data -/
inductive Shows : Slot → D → Prop
  | own (d : D) : Shows (.own (.val d)) d
  | fl (f : Fl) (d : D) : Shows (.bor (.fl f) d) d
  | tree {m : MV} {d : D} : isTree m = true → d = freeze m → Shows (.bor (.tree m) d) d
def flS : Slot → Fl
  | .own m => flagOf m
  | .bor (.fl f) _ => f
  | .bor (.tree m) _ => flagOf m
  | _ => .val
theorem Shows.peek {s : Slot} {d : D} {i : Nat} {ρ : Env} (h : Shows s d) (e : ρ[i]? = some s) : peekVar i ρ = some (d, flS s, ρ, []) := by
  cases h with
  | own _ => simp [e, flS]
  | fl _ _ => simp [e, flS]
  | tree h q => subst q; simp [e, flS]
theorem tree_notScal {m : MV} (h : isTree m = true) : ¬ Scal (freeze m) := by
  cases m with
  | val _ => cases h
  | lst ms => simp [Scal]
  | nd k ms => intro q; unfold freeze ndD at q; cases q
theorem Shows.of (f : Fl) (d : D) : Shows (slotOf f d) d := by
  cases f
  · exact .own d
  · exact .fl _ d
  · exact .fl _ d
theorem canPut_slotOf {f : Fl} {d : D} : canPut (slotOf f d) = true := by cases f <;> rfl
end Q
set_option maxHeartbeats 4000000
namespace Q
open PySem
/-! ### loops over typed items -/
theorem forL_fold {α β : Type} {tg : Tg} {fl : Fl} {body : Env → Option (Flow × Env)} (enc : β → Env) (it : α → D) (step : β → α → β) (inv : β → Prop) : ∀ (xs : List α) (b : β), inv b →
    (∀ b a, a ∈ xs → inv b → inv (step b a) ∧ ∃ ρt, bindT tg (childFl fl (it a)) (it a) (enc b) = some ρt ∧ body ρt = some (.next, enc (step b a))) →
    forL tg fl body (xs.map it) (enc b) = some (.next, enc (xs.foldl step b)) ∧ inv (xs.foldl step b)
  | [], b, hb, _ => ⟨rfl, hb⟩
  | a :: xs, b, hb, h => by
    obtain ⟨h1, ρt, h2, h3⟩ := h b a List.mem_cons_self hb
    have ih := forL_fold (tg := tg) (fl := fl) (body := body) enc it step inv xs (step b a) h1 fun b a' ha => h b a' (List.mem_cons_of_mem _ ha)
    refine ⟨?_, ih.2⟩
    show forL tg fl body (it a :: xs.map it) (enc b) = _
    unfold forL
    rw [h2, Option.bind_some, h3, Option.bind_some]
    exact ih.1
theorem forL_pre {α β : Type} {tg : Tg} {fl : Fl} {body : Env → Option (Flow × Env)} (enc : β → Env) (it : α → D) (step : β → α → β) : ∀ (xs : List α) (b0 : β),
    (∀ pre a post, xs = pre ++ a :: post → ∃ ρt, bindT tg (childFl fl (it a)) (it a) (enc (pre.foldl step b0)) = some ρt ∧ body ρt = some (.next, enc (step (pre.foldl step b0) a))) →
    forL tg fl body (xs.map it) (enc b0) = some (.next, enc (xs.foldl step b0))
  | [], b, _ => rfl
  | a :: xs, b, h => by
    obtain ⟨ρt, h2, h3⟩ := h [] a xs rfl
    have ih := forL_pre (tg := tg) (fl := fl) (body := body) enc it step xs (step b a) fun pre a' post hx => h (a :: pre) a' post (by rw [hx]; rfl)
    show forL tg fl body (it a :: xs.map it) (enc b) = _
    unfold forL
    rw [show bindT tg (childFl fl (it a)) (it a) (enc b) = some ρt from h2, Option.bind_some, h3, Option.bind_some]
    exact ih
theorem compL_mapT {α : Type} {tg : Tg} {fl : Fl} {elt : R3} {own : List Nat} {ρ : Env} (it : α → D) (g : α → MV) : ∀ (xs : List α) (acc : List MV),
    (∀ a ∈ xs, ∃ ρt ρ', bindT tg (childFl fl (it a)) (it a) ρ = some ρt ∧ elt.v ρt = some (g a, ρ') ∧ wipeE own ρ' = ρ) →
    compL tg fl none elt own (xs.map it) acc ρ = some (acc ++ xs.map g, ρ)
  | [], acc, _ => by simp [compL]
  | a :: xs, acc, h => by
    obtain ⟨ρt, ρ', h1, h2, h3⟩ := h a List.mem_cons_self
    show compL tg fl none elt own (it a :: xs.map it) acc ρ = _
    unfold compL
    rw [h1, Option.bind_some]
    show ((some (true, ρt) : Option (Bool × Env)).bind _) = _
    rw [Option.bind_some, if_pos rfl, h2, Option.bind_some, h3, compL_mapT it g xs _ fun a' ha => h a' (List.mem_cons_of_mem _ ha)]
    simp
/-- a comprehension whose turns change the frame -/
theorem compL_inv {tg : Tg} {fl : Fl} {elt : R3} {own : List Nat} (P : List D → List MV → Env → Prop) : ∀ (ds : List D) (acc : List MV) (ρ : Env), P ds acc ρ →
    (∀ d rest acc ρ, P (d :: rest) acc ρ → ∃ ρt r ρ', bindT tg (childFl fl d) d ρ = some ρt ∧ elt.v ρt = some (r, ρ') ∧ P rest (acc ++ [r]) (wipeE own ρ')) →
    ∃ acc' ρ', compL tg fl none elt own ds acc ρ = some (acc', ρ') ∧ P [] acc' ρ'
  | [], acc, ρ, h, _ => ⟨acc, ρ, rfl, h⟩
  | d :: ds, acc, ρ, h, step => by
    obtain ⟨ρt, r, ρ', h1, h2, h3⟩ := step d ds acc ρ h
    obtain ⟨acc', ρ'', h4, h5⟩ := compL_inv P ds (acc ++ [r]) (wipeE own ρ') h3 step
    refine ⟨acc', ρ'', ?_, h5⟩
    unfold compL
    rw [h1, Option.bind_some]
    show ((some (true, ρt) : Option (Bool × Env)).bind _) = _
    rw [Option.bind_some, if_pos rfl, h2, Option.bind_some]
    exact h4
theorem compL_filT {α : Type} {tg : Tg} {fl : Fl} {cond elt : R3} {own : List Nat} {ρ : Env} (it : α → D) (p : α → Bool) (g : α → MV) : ∀ (xs : List α) (acc : List MV),
    (∀ a ∈ xs, ∃ ρt ρc, bindT tg (childFl fl (it a)) (it a) ρ = some ρt ∧ cond.t ρt = some (p a, ρc) ∧ (p a = false → wipeE own ρc = ρ) ∧ (p a = true → ∃ ρ', elt.v ρc = some (g a, ρ') ∧ wipeE own ρ' = ρ)) →
    compL tg fl (some cond) elt own (xs.map it) acc ρ = some (acc ++ (xs.filter p).map g, ρ)
  | [], acc, _ => by simp [compL]
  | a :: xs, acc, h => by
    obtain ⟨ρt, ρc, h1, h2, h3, h4⟩ := h a List.mem_cons_self
    have ih := fun acc => compL_filT (tg := tg) (fl := fl) (cond := cond) (elt := elt) (own := own) (ρ := ρ) it p g xs acc fun a' ha => h a' (List.mem_cons_of_mem _ ha)
    show compL tg fl (some cond) elt own (it a :: xs.map it) acc ρ = _
    unfold compL
    rw [h1, Option.bind_some]
    show ((cond.t ρt).bind _) = _
    rw [h2, Option.bind_some]
    cases hp : p a with
    | true =>
      obtain ⟨ρ', h5, h6⟩ := h4 hp
      rw [if_pos rfl, h5, Option.bind_some, h6, ih]
      simp [hp]
    | false =>
      rw [if_neg Bool.false_ne_true, h3 hp, ih]
      simp [hp]
theorem comp2L_mapT {α β : Type} {tg tg1 : Tg} {fJ : Env → Option (List D × Env)} {elt : R3} {own own1 : List Nat} {ρ : Env} (it : α → D) (ys : α → List β) (it1 : β → D) (g : α → β → MV) : ∀ (xs : List α) (acc : List MV),
    (∀ a ∈ xs, ∃ ρt ρj, bindT tg .val (it a) ρ = some ρt ∧ fJ ρt = some ((ys a).map it1, ρj) ∧ wipeE own (wipeE own1 ρj) = ρ ∧ ∀ b ∈ ys a, ∃ ρ1 ρ', bindT tg1 .val (it1 b) (wipeE own1 ρj) = some ρ1 ∧ elt.v ρ1 = some (g a b, ρ') ∧ wipeE own1 ρ' = wipeE own1 ρj) →
    comp2L tg tg1 fJ none elt own own1 (xs.map it) acc ρ = some (acc ++ xs.flatMap fun a => (ys a).map (g a), ρ)
  | [], acc, _ => by simp [comp2L]
  | a :: xs, acc, h => by
    obtain ⟨ρt, ρj, h1, h2, h3, h4⟩ := h a List.mem_cons_self
    have ih := fun acc => comp2L_mapT (tg := tg) (tg1 := tg1) (fJ := fJ) (elt := elt) (own := own) (own1 := own1) (ρ := ρ) it ys it1 g xs acc fun a' ha => h a' (List.mem_cons_of_mem _ ha)
    show comp2L tg tg1 fJ none elt own own1 (it a :: xs.map it) acc ρ = _
    unfold comp2L
    rw [h1, Option.bind_some, h2, Option.bind_some]
    show ((compL tg1 .val none elt own1 ((ys a).map it1) acc (wipeE own1 ρj)).bind _) = _
    rw [compL_mapT it1 (g a) (ys a) acc fun b hb => h4 b hb, Option.bind_some]
    show comp2L tg tg1 fJ none elt own own1 (xs.map it) _ (wipeE own (wipeE own1 ρj)) = _
    rw [h3, ih]
    simp
@[simp] theorem sz_le {n : Nat} (h : n < 1000001) : (n ≤ sizeLine) = True := by
  have : (1000001 : Nat) ≤ sizeLine := by decide
  simp; omega
@[simp] theorem sz_lt {n : Nat} (h : n < 1000001) : (n < sizeLine) = True := by
  have : (1000001 : Nat) ≤ sizeLine := by decide
  simp; omega
section
variable {C : CtxQ} {ρ : Env}
@[simp] def s_evComp2 := @evComp2.eq_1
@[simp] theorem evJ_0 {a : R3} : evJ 0 a none = evJ0 a := rfl
@[simp] theorem evJ_1 {a : R3} : evJ 1 a none = evJ1 a := rfl
@[simp] theorem evJ_2 {a b : R3} : evJ 2 a (some b) = evJ2 a b := rfl
@[simp] theorem moveOf_comp2 {ρ : Env} {elt : E} {tg : Tg} {it : It} {tg1 : Tg} {k1 : Nat} {a1 : E} {b1 cond : Option E} {own own1 : List Nat} : moveOf (.comp2 elt tg it tg1 k1 a1 b1 cond own own1) ρ = none := rfl
@[simp] theorem moveOf_frz {ρ : Env} {a : E} : moveOf (.frz a) ρ = none := rfl
@[simp] def s_evJ0 := @evJ0.eq_1
@[simp] def s_evJ1 := @evJ1.eq_1
@[simp] def s_evJ2 := @evJ2.eq_1
@[simp] theorem exe_forget {is : List Nat} : exe C (.forget is) ρ = if gone is ρ then some (.next, wipeE is ρ) else none := rfl
@[simp] theorem exe_frzV {i : Nat} : exe C (.frzV i) ρ = (frzAt i ρ).bind fun ρ2 => some (.next, ρ2) := rfl
@[simp] theorem exe_parN {is : List Nat} {es : List E} : exe C (.parN is es) ρ = (evs (runs C es) ρ).bind fun q => (putVars is q.1 q.2).bind fun ρ2 => some (.next, ρ2) := rfl
@[simp] theorem bindT_list {ts : List Tg} {fl : Fl} {ds : List D} : bindT (.tup ts) fl (.list ds) ρ = bindTs ts fl ds ρ := rfl
@[simp] theorem bindT_tuple {ts : List Tg} {fl : Fl} {ds : List D} : bindT (.tup ts) fl (.tuple ds) ρ = bindTs ts fl ds ρ := rfl
@[simp] theorem evO_some {e : R3} : evO (some e) ρ = (e.v ρ).bind fun q => (intOf q.1).bind fun i => some (some i, q.2) := rfl
@[simp] theorem evC_some {e : R3} : evC (some e) ρ = e.t ρ := rfl
@[simp] def s_putVars1 := @putVars.eq_1
@[simp] def s_putVars2 := @putVars.eq_2
@[simp] def s_frzAt := @frzAt.eq_1
@[simp] def s_gone := @gone.eq_1
@[simp] def s_wipeE := @wipeE.eq_1
@[simp] def s_unwipe := @unwipe.eq_1
end
section
variable {α : Type} {f : α → D} {l : List α} {xs : List D} {fl : Fl}
@[simp] theorem freezes_mapv : freezes (l.map fun x => MV.val (f x)) = l.map f := by
  have := freezes_vals (l.map f)
  rw [List.map_map] at this
  exact this
@[simp] theorem freezes_mapc : freezes (l.map (MV.val ∘ f)) = l.map f := freezes_mapv
@[simp] theorem freezes_app : ∀ {a b : List MV}, freezes (a ++ b) = freezes a ++ freezes b
  | [], b => by simp
  | x :: a, b => by simp [freezes_app (a := a) (b := b)]
@[simp] theorem all_mapv : ((l.map fun x => MV.val (f x)).all isVal) = true := by
  rw [List.all_eq_true]
  intro x hx
  obtain ⟨y, _, rfl⟩ := List.mem_map.mp hx
  rfl
@[simp] theorem all_mapc : ((l.map (MV.val ∘ f)).all isVal) = true := all_mapv
@[simp] theorem flag_mapv : flagOf (.lst (l.map fun x => MV.val (f x))) = .shal := by
  show (if _ then Fl.shal else Fl.deep) = _
  rw [all_mapv, if_pos rfl]
@[simp] theorem flag_mapc : flagOf (.lst (l.map (MV.val ∘ f))) = .shal := flag_mapv
@[simp] theorem flag_nil : flagOf (.lst []) = .shal := rfl
@[simp] theorem extR_sset : extR .sset [(.list xs, fl)] = (intsOf xs).bind fun ns => if ns.length < 64 then some (.lst ((sset ns).map fun i => .val (.int i))) else none := rfl
@[simp] theorem extR_lsetL : extR .lset [(.list xs, fl)] = (intsOf xs).bind fun ns => if ns.length < 64 then some (.val (.int (sset ns).length)) else none := rfl
@[simp] theorem extR_lsetT : extR .lset [(.tuple xs, fl)] = (intsOf xs).bind fun ns => if ns.length < 64 then some (.val (.int (sset ns).length)) else none := rfl
@[simp] theorem extR_lrng1 {n : Int} : extR .lrng1 [(.int n, fl)] = if inRng n && n.toNat ≤ 16777216 then some (.lst ((rangeD 0 n.toNat).map .val)) else none := rfl
@[simp] theorem extR_trng1 {n : Int} : extR .trng1 [(.int n, fl)] = if inRng n && n.toNat ≤ 16777216 then some (.val (.tuple (rangeD 0 n.toNat))) else none := rfl
@[simp] theorem extR_rev : extR .rev [(.list xs, fl)] = if badFl fl xs then none else some (.lst (xs.reverse.map .val)) := rfl
end
end Q
set_option maxHeartbeats 4000000
namespace EM
abbrev Pl := List (Int × Int)
def rg (n : Nat) : List Int := (List.range n).map fun (k : Nat) => (k : Int)
theorem mem_rg {n : Nat} {k : Int} : k ∈ rg n ↔ 0 ≤ k ∧ k < n := by
  unfold rg
  rw [List.mem_map]
  constructor
  · rintro ⟨a, h, rfl⟩
    rw [List.mem_range] at h
    omega
  · rintro ⟨h1, h2⟩
    exact ⟨k.toNat, List.mem_range.mpr (by omega), by omega⟩
theorem rg_up (n : Nat) : (rg n).Pairwise (· < ·) := by
  unfold rg
  rw [List.pairwise_map]
  exact List.pairwise_lt_range.imp fun h => by omega
theorem rg_len (n : Nat) : (rg n).length = n := by simp [rg]
theorem rg_get {n k : Nat} (h : k < n) : (rg n)[k]? = some (k : Int) := by simp [rg, h]
/-- one meeting -/
def gstep (m : Bool) (K : Int → Int → Bool) (e : Int × Int) : Int → Int → Bool := fun o p => if p = e.2 ∨ (m = true ∧ p = e.1) then K o e.1 || K o e.2 else K o p
def gall (m : Bool) (pl : Pl) : Int → Int → Bool := pl.foldl (gstep m) fun o p => decide (o = p)
def gfrom (m : Bool) (K : Int → Int → Bool) (pl : Pl) : Int → Int → Bool := pl.foldl (gstep m) K
def LeK (K L : Int → Int → Bool) : Prop := ∀ o p, K o p = true → L o p = true
theorem gstep_mono {m : Bool} {K L : Int → Int → Bool} {e : Int × Int} (h : LeK K L) : LeK (gstep m K e) (gstep m L e) := fun o p hk => by
  unfold gstep at hk ⊢
  split at hk
  · rename_i hc
    rw [if_pos hc]
    rw [Bool.or_eq_true] at hk ⊢
    rcases hk with hk | hk
    · exact .inl (h _ _ hk)
    · exact .inr (h _ _ hk)
  · rename_i hc
    rw [if_neg hc]
    exact h _ _ hk
theorem gstep_ge {m : Bool} {K : Int → Int → Bool} {e : Int × Int} : LeK K (gstep m K e) := fun o p hk => by
  unfold gstep
  split
  · rename_i hc
    rw [Bool.or_eq_true]
    rcases hc with rfl | ⟨_, rfl⟩
    · exact .inr hk
    · exact .inl hk
  · exact hk
theorem gfrom_mono {m : Bool} : ∀ {pl : Pl} {K L : Int → Int → Bool}, LeK K L → LeK (gfrom m K pl) (gfrom m L pl)
  | [], _, _, h => h
  | e :: pl, _, _, h => gfrom_mono (pl := pl) (gstep_mono h)
theorem gfrom_append {m : Bool} {K : Int → Int → Bool} {a b : Pl} : gfrom m K (a ++ b) = gfrom m (gfrom m K a) b := List.foldl_append
theorem gfrom_ge {m : Bool} : ∀ {pl : Pl} {K : Int → Int → Bool}, LeK K (gfrom m K pl)
  | [], _ => fun _ _ h => h
  | e :: pl, K => fun o p h => gfrom_ge (pl := pl) o p (gstep_ge (e := e) o p h)
/-- more meetings never lose a look -/
theorem gall_more {m : Bool} {a b c : Pl} : LeK (gall m (a ++ c)) (gall m (a ++ (b ++ c))) := by
  show LeK (gfrom m _ (a ++ c)) (gfrom m _ (a ++ (b ++ c)))
  rw [gfrom_append, gfrom_append, gfrom_append]
  exact gfrom_mono gfrom_ge
/-- of a plan some are left out -/
theorem gfrom_filter {m : Bool} {f : Int × Int → Bool} : ∀ {pl : Pl} {K L : Int → Int → Bool}, LeK K L → LeK (gfrom m K (pl.filter f)) (gfrom m L pl)
  | [], _, _, h => h
  | e :: pl, K, L, h => by
    cases hf : f e with
    | true => rw [List.filter_cons_of_pos hf]; exact gfrom_filter (pl := pl) (gstep_mono h)
    | false =>
      rw [List.filter_cons_of_neg (by simp [hf])]
      exact gfrom_filter (pl := pl) (K := K) (L := gstep m L e) fun o p hk => gstep_ge o p (h o p hk)
/-- the looks that a person gets -/
def row (m : Bool) (n : Nat) (K : Int → Int → Bool) (p : Int) : List Int := (rg n).filter fun o => K o p
def col (m : Bool) (n : Nat) (K : Int → Int → Bool) (o : Int) : List Int := (rg n).filter fun p => K o p
def kn (m : Bool) (n : Nat) (K : Int → Int → Bool) : List (List Int) := (rg n).map (row m n K)
def prz (n : Nat) : List (Int × Int) := (rg n).flatMap fun i => ((rg n).filter fun j => decide (i < j)).map fun j => (i, j)
theorem mem_prz {n : Nat} {q : Int × Int} : q ∈ prz n ↔ 0 ≤ q.1 ∧ q.1 < q.2 ∧ q.2 < n := by
  unfold prz
  rw [List.mem_flatMap]
  constructor
  · rintro ⟨i, hi, h⟩
    obtain ⟨j, hj, rfl⟩ := List.mem_map.mp h
    obtain ⟨h1, h2⟩ := List.mem_filter.mp hj
    have := mem_rg.mp hi
    have := mem_rg.mp h1
    have := of_decide_eq_true h2
    refine ⟨?_, ?_, ?_⟩ <;> dsimp only <;> omega
  · rintro ⟨h1, h2, h3⟩
    exact ⟨q.1, mem_rg.mpr ⟨h1, by omega⟩, List.mem_map.mpr ⟨q.2, List.mem_filter.mpr ⟨mem_rg.mpr ⟨by omega, h3⟩, decide_eq_true h2⟩, rfl⟩⟩
def both (n : Nat) (K : Int → Int → Bool) (q : Int × Int) : Bool := (rg n).any fun p => K q.1 p && K q.2 p
def unk (n : Nat) (K : Int → Int → Bool) : List (Int × Int) := (prz n).filter fun q => !both n K q
theorem unk_mono {n : Nat} {K L : Int → Int → Bool} (h : LeK K L) {q : Int × Int} (hq : both n K q = true) : both n L q = true := by
  unfold both at hq ⊢
  rw [List.any_eq_true] at hq ⊢
  obtain ⟨p, h1, h2⟩ := hq
  rw [Bool.and_eq_true] at h2
  exact ⟨p, h1, by rw [h _ _ h2.1, h _ _ h2.2]; rfl⟩
theorem filter_more {α : Type} {p q : α → Bool} : ∀ {xs : List α}, (∀ x ∈ xs, p x = true → q x = true) → (decide ((xs.filter q).length > (xs.filter p).length) = xs.any fun x => q x && !p x)
  | [], _ => by simp
  | x :: xs, h => by
    have hx := h x List.mem_cons_self
    have le : (xs.filter p).length ≤ (xs.filter q).length := by
      have : ∀ {ys : List α}, (∀ y ∈ ys, p y = true → q y = true) → (ys.filter p).length ≤ (ys.filter q).length := fun {ys} hy => by
        induction ys with
        | nil => simp
        | cons y ys ih =>
          have ih := ih fun z hz => hy z (List.mem_cons_of_mem _ hz)
          have h1 := hy y List.mem_cons_self
          cases hp : p y <;> cases hq : q y <;> simp_all <;> omega
      exact this fun y hy => h y (List.mem_cons_of_mem _ hy)
    have ih := filter_more (p := p) (q := q) (xs := xs) fun y hy => h y (List.mem_cons_of_mem _ hy)
    rw [List.any_cons, ← ih]
    cases hp : p x with
    | true =>
      have hq := hx hp
      simp [hp, hq]
    | false =>
      cases hq : q x with
      | true => simp [hp, hq]; omega
      | false => simp [hp, hq]
end EM
set_option maxHeartbeats 4000000
namespace EM
def cut (l : Pl) (k : Int) : Pl := l.take k.toNat ++ l.drop (k.toNat + 1)
def at' (l : Pl) (k : Int) : Int × Int := l.getD k.toNat (0, 0)
theorem at_some {l : Pl} {k : Nat} (h : k < l.length) : l[k]? = some (at' l k) := by
  unfold at'
  rw [List.getD_eq_getElem?_getD, Int.toNat_natCast]
  simp [h]
theorem cut_perm {l : Pl} {k : Nat} (h : k < l.length) : (at' l k :: cut l k).Perm l := by
  have e : l = l.take k ++ (at' l k :: l.drop (k + 1)) := by
    have h1 := at_some h
    have h2 : l[k] = at' l k := by rw [List.getElem?_eq_getElem h] at h1; exact Option.some.inj h1
    conv => lhs; rw [← List.take_append_drop k l]
    rw [List.drop_eq_getElem_cons h, h2]
  unfold cut
  rw [Int.toNat_natCast]
  conv => rhs; rw [e]
  exact List.perm_middle.symm
theorem cut_len {l : Pl} {k : Nat} {n : Nat} (h : k < l.length) (hl : l.length = n + 1) : (cut l k).length = n := by
  have := (cut_perm h).length_eq
  rw [List.length_cons] at this
  omega
/-- all orders: of each place, or of some alone -/
def ord (c : Pl → Int → Bool) (s : Pl → Pl) : Nat → Pl → List Pl
  | 0, _ => [[]]
  | n + 1, l => ((rg (s l).length).filter (c (s l))).flatMap fun k => (ord c s n (cut (s l) k)).map fun r => at' (s l) k :: r
theorem ord_perm {c : Pl → Int → Bool} {s : Pl → Pl} (hs : ∀ l, (s l).Perm l) (hc : ∀ l a, a ∈ l → ∃ k : Nat, k < l.length ∧ at' l k = a ∧ c l k = true) : ∀ (n : Nat) (l : Pl), l.length = n → ∀ o, o ∈ ord c s n l ↔ o.Perm l
  | 0, l, hl, o => by
    have : l = [] := List.length_eq_zero_iff.mp hl
    subst this
    unfold ord
    rw [List.mem_singleton]
    exact ⟨fun h => by rw [h], fun h => List.Perm.eq_nil h⟩
  | n + 1, l, hl, o => by
    have hsl : (s l).length = n + 1 := by rw [(hs l).length_eq, hl]
    unfold ord
    rw [List.mem_flatMap]
    constructor
    · rintro ⟨k, hk, ho⟩
      obtain ⟨hk, _⟩ := List.mem_filter.mp hk
      obtain ⟨r, hr, rfl⟩ := List.mem_map.mp ho
      obtain ⟨k0, k1⟩ := mem_rg.mp hk
      obtain ⟨j, rfl⟩ := Int.eq_ofNat_of_zero_le k0
      have hj : j < (s l).length := by omega
      have := (ord_perm hs hc n (cut (s l) j) (cut_len hj hsl) r).mp hr
      exact ((this.cons _).trans (cut_perm hj)).trans (hs l)
    · intro h
      cases o with
      | nil => have := h.length_eq; rw [hl] at this; simp at this
      | cons a r =>
        have ha : a ∈ s l := ((h.trans (hs l).symm).mem_iff).mp List.mem_cons_self
        obtain ⟨k, hk, e, hck⟩ := hc (s l) a ha
        refine ⟨k, List.mem_filter.mpr ⟨mem_rg.mpr ⟨by omega, by omega⟩, hck⟩, List.mem_map.mpr ⟨r, ?_, by rw [e]⟩⟩
        rw [ord_perm hs hc n (cut (s l) k) (cut_len hk hsl) r]
        have h1 : (a :: r).Perm (a :: cut (s l) k) := by
          rw [← e] at h ⊢
          exact (h.trans (hs l).symm).trans (cut_perm hk).symm
        exact h1.cons_inv
def fac : Nat → Nat
  | 0 => 1
  | n + 1 => (n + 1) * fac n
theorem ord_len {c : Pl → Int → Bool} {s : Pl → Pl} (hs : ∀ l, (s l).Perm l) : ∀ (n : Nat) (l : Pl), l.length = n → (ord c s n l).length ≤ fac n
  | 0, l, hl => by unfold ord fac; simp
  | n + 1, l, hl => by
    have hsl : (s l).length = n + 1 := by rw [(hs l).length_eq, hl]
    unfold ord fac
    have h : ∀ xs : List Int, (∀ k ∈ xs, 0 ≤ k ∧ k < (s l).length) → (xs.flatMap fun k => (ord c s n (cut (s l) k)).map fun r => at' (s l) k :: r).length ≤ xs.length * fac n := fun xs => by
      induction xs with
      | nil => simp
      | cons x xs ih =>
        intro hx
        obtain ⟨x0, x1⟩ := hx x List.mem_cons_self
        obtain ⟨j, rfl⟩ := Int.eq_ofNat_of_zero_le x0
        have := ord_len (c := c) hs n (cut (s l) j) (cut_len (by omega) hsl)
        have := ih fun k hk => hx k (List.mem_cons_of_mem _ hk)
        rw [List.flatMap_cons, List.length_append, List.length_map, List.length_cons, Nat.add_mul, Nat.one_mul]
        omega
    have h1 := h ((rg (s l).length).filter (c (s l))) fun k hk => mem_rg.mp (List.mem_filter.mp hk).1
    have h2 := List.length_filter_le (c (s l)) (rg (s l).length)
    rw [rg_len] at h2
    exact Nat.le_trans h1 (Nat.mul_le_mul_right _ (by omega))
theorem first_at : ∀ (l : Pl) (a : Int × Int), a ∈ l → ∃ k : Nat, k < l.length ∧ at' l k = a ∧ (k = 0 ∨ at' l ((k : Int) - 1) ≠ a) := fun l a => by
  induction l with
  | nil => intro h; cases h
  | cons x l ih =>
    intro h
    by_cases hx : x = a
    · exact ⟨0, by simp, by simp [at', hx], .inl rfl⟩
    · have h : a ∈ l := by
        rcases List.mem_cons.mp h with e | e
        · exact absurd e.symm hx
        · exact e
      obtain ⟨k, h1, h2, h3⟩ := ih h
      refine ⟨k + 1, by simp; omega, by simpa [at'] using h2, .inr ?_⟩
      rcases h3 with rfl | h3
      · simpa [at'] using hx
      · cases k with
        | zero => simpa [at'] using hx
        | succ k =>
          have e1 : at' (x :: l) (((k + 1 + 1 : Nat) : Int) - 1) = at' l (((k + 1 : Nat) : Int) - 1) := by
            unfold at'
            have e2 : (((k + 1 + 1 : Nat) : Int) - 1).toNat = k + 1 := by omega
            have e3 : (((k + 1 : Nat) : Int) - 1).toNat = k := by omega
            rw [e2, e3]; simp
          rw [e1]; exact h3
def newAt (l : Pl) (k : Int) : Bool := decide (k = 0) || !decide (at' l k = at' l (k - 1))
theorem new_ok : ∀ l a, a ∈ l → ∃ k : Nat, k < l.length ∧ at' l k = a ∧ newAt l k = true := fun l a h => by
  obtain ⟨k, h1, h2, h3⟩ := first_at l a h
  refine ⟨k, h1, h2, ?_⟩
  unfold newAt
  rcases h3 with rfl | h3
  · simp
  · have : ¬ at' l k = at' l ((k : Int) - 1) := fun e => h3 (e ▸ h2)
    simp [this]
theorem all_ok : ∀ (l : Pl) a, a ∈ l → ∃ k : Nat, k < l.length ∧ at' l k = a ∧ (fun (_ : Pl) (_ : Int) => true) l k = true := fun l a h => by
  obtain ⟨k, h1, h2, _⟩ := first_at l a h
  exact ⟨k, h1, h2, rfl⟩
end EM
set_option maxHeartbeats 4000000
namespace EM
def bz (l : Pl) : List Int := l.flatMap fun e => [e.1, e.2]
theorem bz_cons {e : Int × Int} {l : Pl} : bz (e :: l) = e.1 :: e.2 :: bz l := rfl
theorem bz_len (l : Pl) : (bz l).length = 2 * l.length := by
  induction l with
  | nil => rfl
  | cons e l ih => rw [bz_cons, List.length_cons, List.length_cons, List.length_cons, ih]; omega
theorem gstep_out {m : Bool} {K : Int → Int → Bool} {e : Int × Int} {o p : Int} (h1 : p ≠ e.1) (h2 : p ≠ e.2) : gstep m K e o p = K o p := by
  unfold gstep
  rw [if_neg]
  rintro (h | ⟨_, h⟩)
  · exact h2 h
  · exact h1 h
theorem gstep_in {K : Int → Int → Bool} {e : Int × Int} {o p : Int} (h : p = e.1 ∨ p = e.2) : gstep true K e o p = (K o e.1 || K o e.2) := by
  unfold gstep
  rw [if_pos]
  rcases h with h | h
  · exact .inr ⟨rfl, h⟩
  · exact .inl h
theorem round_out : ∀ {l : Pl} {K : Int → Int → Bool} {o p : Int}, p ∉ bz l → gfrom true K l o p = K o p
  | [], _, _, _, _ => rfl
  | e :: l, K, o, p, h => by
    rw [bz_cons, List.mem_cons, List.mem_cons, not_or, not_or] at h
    show gfrom true (gstep true K e) l o p = _
    rw [round_out h.2.2, gstep_out h.1 h.2.1]
theorem round_in : ∀ {l : Pl} {K : Int → Int → Bool} {p : Int}, (bz l).Nodup → p ∈ bz l → ∃ a b, a ∈ bz l ∧ b ∈ bz l ∧ ∀ o, gfrom true K l o p = (K o a || K o b)
  | [], _, _, _, h => by cases h
  | e :: l, K, p, hn, h => by
    rw [bz_cons] at hn h ⊢
    obtain ⟨n1, hn⟩ := List.nodup_cons.mp hn
    obtain ⟨n2, hn⟩ := List.nodup_cons.mp hn
    rw [List.mem_cons, not_or] at n1
    by_cases hp : p ∈ bz l
    · obtain ⟨a, b, ha, hb, hh⟩ := round_in (K := gstep true K e) hn hp
      refine ⟨a, b, List.mem_cons_of_mem _ (List.mem_cons_of_mem _ ha), List.mem_cons_of_mem _ (List.mem_cons_of_mem _ hb), fun o => ?_⟩
      show gfrom true (gstep true K e) l o p = _
      rw [hh o, gstep_out (fun h => n1.2 (h ▸ ha)) (fun h => n2 (h ▸ ha)), gstep_out (fun h => n1.2 (h ▸ hb)) (fun h => n2 (h ▸ hb))]
    · refine ⟨e.1, e.2, List.mem_cons_self, List.mem_cons_of_mem _ List.mem_cons_self, fun o => ?_⟩
      show gfrom true (gstep true K e) l o p = _
      rw [round_out hp]
      refine gstep_in ?_
      rcases List.mem_cons.mp h with h | h
      · exact .inl h
      · rcases List.mem_cons.mp h with h | h
        · exact .inr h
        · exact absurd h hp
def cnt (N : Nat) (K : Int → Int → Bool) (p : Int) : Nat := ((rg N).filter fun o => K o p).length
theorem filter_or {α : Type} (f g : α → Bool) : ∀ xs : List α, (xs.filter fun x => f x || g x).length ≤ (xs.filter f).length + (xs.filter g).length
  | [] => by simp
  | x :: xs => by
    have := filter_or f g xs
    cases hf : f x <;> cases hg : g x <;> simp [hf, hg] <;> omega
theorem cnt_round {N c : Nat} {K : Int → Int → Bool} {l : Pl} (hn : (bz l).Nodup) (hc : ∀ p, cnt N K p ≤ c) (p : Int) : cnt N (gfrom true K l) p ≤ 2 * c := by
  by_cases hp : p ∈ bz l
  · obtain ⟨a, b, _, _, h⟩ := round_in (K := K) hn hp
    have e : cnt N (gfrom true K l) p = ((rg N).filter fun o => K o a || K o b).length := by unfold cnt; simp only [h]
    rw [e]
    have h1 := filter_or (fun o => K o a) (fun o => K o b) (rg N)
    have h2 := hc a
    have h3 := hc b
    unfold cnt at h2 h3
    omega
  · have e : cnt N (gfrom true K l) p = cnt N K p := by unfold cnt; simp only [round_out hp]
    rw [e]
    have := hc p
    omega
theorem cnt_rounds {N : Nat} : ∀ (R : List Pl) (c : Nat) (K : Int → Int → Bool), (∀ l ∈ R, (bz l).Nodup) → (∀ p, cnt N K p ≤ c) → ∀ p, cnt N (gfrom true K R.flatten) p ≤ c * 2 ^ R.length
  | [], c, K, _, hc, p => by simpa [gfrom] using hc p
  | l :: R, c, K, hn, hc, p => by
    rw [List.flatten_cons, gfrom_append, List.length_cons, Nat.pow_succ, show c * (2 ^ R.length * 2) = 2 * c * 2 ^ R.length by rw [Nat.mul_comm (2 ^ R.length) 2, ← Nat.mul_assoc, Nat.mul_comm c 2]]
    exact cnt_rounds R (2 * c) (gfrom true K l) (fun l' h => hn l' (List.mem_cons_of_mem _ h)) (fun p => cnt_round (hn l List.mem_cons_self) hc p) p
theorem cnt_one {N : Nat} (p : Int) : cnt N (fun o p => decide (o = p)) p ≤ 1 := by
  unfold cnt
  have h : ((rg N).filter fun o => decide (o = p)).Pairwise (· < ·) := (rg_up N).filter _
  have hm : ∀ o ∈ (rg N).filter fun o => decide (o = p), o = p := fun o ho => of_decide_eq_true (List.mem_filter.mp ho).2
  generalize (rg N).filter (fun o => decide (o = p)) = xs at h hm
  match xs, h, hm with
  | [], _, _ => simp
  | [_], _, _ => simp
  | a :: b :: r, h, hm =>
    have h1 := hm a List.mem_cons_self
    have h2 := hm b (List.mem_cons_of_mem _ List.mem_cons_self)
    have := (List.pairwise_cons.mp h).1 b List.mem_cons_self
    omega
/-- after so many rounds nobody has more looks than this -/
theorem looks_le {N : Nat} {R : List Pl} (hn : ∀ l ∈ R, (bz l).Nodup) (p : Int) : cnt N (gall true R.flatten) p ≤ 2 ^ R.length := by
  have := cnt_rounds (N := N) R 1 (fun o p => decide (o = p)) hn cnt_one p
  rw [Nat.one_mul] at this
  exact this
/-- who sits out the last round -/
theorem looks_out {N : Nat} {R : List Pl} {l : Pl} (hn : ∀ l ∈ R, (bz l).Nodup) {p : Int} (hp : p ∉ bz l) : cnt N (gall true (R ++ [l]).flatten) p ≤ 2 ^ R.length := by
  have e : cnt N (gall true (R ++ [l]).flatten) p = cnt N (gall true R.flatten) p := by
    unfold cnt
    have : ∀ o, gall true (R ++ [l]).flatten o p = gall true R.flatten o p := fun o => by
      rw [List.flatten_append]
      show gfrom true _ (R.flatten ++ [l].flatten) o p = _
      rw [gfrom_append]
      have : [l].flatten = l := by simp
      rw [this, round_out hp]; rfl
    simp only [this]
  rw [e]
  exact looks_le hn p
theorem nodup_sub : ∀ {xs ys : List Int}, xs.Nodup → (∀ x ∈ xs, x ∈ ys) → xs.length ≤ ys.length
  | [], _, _, _ => Nat.zero_le _
  | x :: xs, ys, hn, h => by
    obtain ⟨n1, hn⟩ := List.nodup_cons.mp hn
    have hx := h x List.mem_cons_self
    have := nodup_sub (xs := xs) (ys := ys.erase x) hn fun y hy => by
      have hne : y ≠ x := fun e => n1 (e ▸ hy)
      exact (List.mem_erase_of_ne hne).mpr (h y (List.mem_cons_of_mem _ hy))
    rw [List.length_erase_of_mem hx] at this
    have hp := List.length_pos_of_mem hx
    rw [List.length_cons]; omega
theorem some_out {N : Nat} {l : Pl} (hn : (bz l).Nodup) (hr : ∀ x ∈ bz l, 0 ≤ x ∧ x < N) (hN : N % 2 = 1) : ∃ p ∈ rg N, p ∉ bz l := by
  by_cases h : ∃ p ∈ rg N, p ∉ bz l
  · exact h
  · exfalso
    have h1 : ∀ p ∈ rg N, p ∈ bz l := fun p hp => Classical.byContradiction fun hh => h ⟨p, hp, hh⟩
    have h2 := nodup_sub ((rg_up N).imp fun h => by omega : (rg N).Nodup) h1
    have h3 := nodup_sub (ys := rg N) hn fun x hx => mem_rg.mpr (hr x hx)
    rw [rg_len] at h2 h3
    have := bz_len l
    omega
end EM
set_option maxHeartbeats 4000000
namespace Lk73
open PySem L2 PyProof.Rows Q
def top (i : Nat) : Stmt := PySem.Challenge.pw_hiddenforks_k73_whole_somebody.main.body.getD i (.Pass ⟨0, 0, 0, 0⟩)
def tx : Nat → Stmt
  | 0 => top 1
  | 1 => top 5
  | 2 => top 6
  | 3 => top 7
  | 4 => top 8
  | 5 => top 9
  | 6 => top 10
  | 7 => inClass (top 11) 0
  | 8 => inClass (top 11) 1
  | 9 => inClass (top 11) 2
  | 10 => inClass (top 11) 3
  | 11 => inClass (top 11) 4
  | 12 => inClass (top 11) 5
  | 13 => inClass (top 11) 6
  | 14 => inClass (top 11) 7
  | 15 => inClass (top 11) 8
  | 16 => top 12
  | 17 => top 13
  | 18 => top 15
  | 19 => top 16
  | 20 => top 17
  | 21 => top 18
  | 22 => top 19
  | 23 => top 20
  | 24 => top 21
  | _ => top 0
def d0 : DefI := ⟨"as_tuples", 1, ["thing", "part"], [.d], [
    .ret (.ite (.blt (.isi [.list, .tuple]) [(.var 0)]) (.blt .tuple [(.comp (.call 0 [(.var 1)]) (.name 1) (.seq (.var 0)) none [1])]) (.var 0))], none, [], none⟩
def b1_0 : List S := [
    .asg (.name 6) (.ext .sset [(.bin .add (.idx (.var 3) (.var 4)) (.idx (.var 3) (.var 5)))]),
    .frzV 6,
    .setI 3 (.var 5) (.var 6),
    .ifs (.cmp .eq (.var 1) (.gl 0)) [
      .setI 3 (.var 4) (.frz (.blt .list [(.var 6)]))] [],
    .forget [4, 5, 6]]
def d1 : DefI := ⟨"known_by", 3, ["people", "way", "plan", "known", "person", "other", "both"], [.d, .d, .d], [
    .asg (.name 3) (.comp (.frz (.lst [(.var 4)])) (.name 4) (.rng1 (.var 0)) none [4]),
    .forS (.tup [(.name 4), (.name 5)]) (.seq (.var 2)) b1_0,
    .frzV 3,
    .ret (.var 3)], none, [], none⟩
def d2 : DefI := ⟨"all_pairs", 1, ["people", "one", "other"], [.d], [
    .ret (.frz (.comp2 (.tup [(.var 1), (.var 2)]) (.name 1) (.rng1 (.var 0)) (.name 2) 2 (.bin .add (.var 1) (.cst (.int 1))) (some (.var 0)) none [1] [2]))], none, [], none⟩
def d3 : DefI := ⟨"has_both", 2, ["some", "pair"], [.d, .d], [
    .ret (.and (.cmp .isin (.idx (.var 1) (.cst (.int 0))) (.var 0)) (.cmp .isin (.idx (.var 1) (.cst (.int 1))) (.var 0)))], none, [], none⟩
def d4 : DefI := ⟨"unknown_pairs", 3, ["people", "way", "plan", "known", "pair", "some"], [.d, .d, .d], [
    .asg (.name 3) (.call 1 [(.var 0), (.var 1), (.var 2)]),
    .ret (.frz (.comp (.var 4) (.name 4) (.seq (.call 2 [(.var 0)])) (some (.not (.blt .any [(.comp (.call 3 [(.var 5), (.var 4)]) (.name 5) (.seq (.var 3)) none [5])]))) [4]))], none, [], none⟩
def b5_0 : List S := [
    .ifs (.not (.call 3 [(.var 8), (.var 5)])) [
      .ret (.tup [(.var 5), (.var 7)])] [],
    .forget [7, 8]]
def b5_1 : List S := [
    .forS (.tup [(.name 7), (.name 8)]) (.enum (.var 4)) b5_0,
    .forget [5, 7, 8]]
def d5 : DefI := ⟨"against", 4, ["people", "way", "plan", "goal", "known", "pair", "found", "person", "some"], [.d, .d, .d, .d], [
    .ifs (.cmp .eq (.var 3) (.gl 1)) [
      .asg (.name 6) (.call 4 [(.var 0), (.var 1), (.var 2)]),
      .ret (.ite (.cmp .gt (.blt .len [(.var 6)]) (.cst (.int 0))) (.idx (.var 6) (.cst (.int 0))) (.cst .none))] [],
    .asg (.name 4) (.call 1 [(.var 0), (.var 1), (.var 2)]),
    .forS (.name 5) (.seq (.call 2 [(.var 0)])) b5_1,
    .ret (.cst .none)], none, [], none⟩
def d6 : DefI := ⟨"reaches", 4, ["people", "way", "plan", "goal"], [.d, .d, .d, .d], [
    .ret (.isN (.call 5 [(.var 0), (.var 1), (.var 2), (.var 3)]))], none, [], none⟩
def d7 : DefI := ⟨"__init__", 4, ["self", "people", "way", "graph"], [.io, .d, .d, .d], [
    .fldT "Ways" (.var 0) "own_people" (.var 1),
    .fldT "Ways" (.var 0) "own_is_meet" (.cmp .eq (.var 2) (.gl 0)),
    .fldT "Ways" (.var 0) "own_pairs" (.call 0 [(.var 3)])], some "Ways", [], some "Ways.__init__"⟩
def d8 : DefI := ⟨"nexts", 2, ["self", "person", "found", "one", "other"], [.d, .d], [
    .asg (.name 2) (.comp (.var 4) (.tup [(.name 3), (.name 4)]) (.seq (.fld (.var 0) "own_pairs")) (some (.cmp .eq (.var 3) (.var 1))) [3, 4]),
    .frzV 2,
    .ret (.frz (.bin .add (.var 2) (.comp (.var 3) (.tup [(.name 3), (.name 4)]) (.seq (.fld (.var 0) "own_pairs")) (some (.and (.cmp .eq (.var 4) (.var 1)) (.fld (.var 0) "own_is_meet"))) [3, 4])))], some "Ways", [], some "Ways.nexts"⟩
def d9 : DefI := ⟨"backs", 2, ["self", "person", "found", "one", "other"], [.d, .d], [
    .asg (.name 2) (.comp (.var 3) (.tup [(.name 3), (.name 4)]) (.seq (.fld (.var 0) "own_pairs")) (some (.cmp .eq (.var 4) (.var 1))) [3, 4]),
    .frzV 2,
    .ret (.frz (.bin .add (.var 2) (.comp (.var 4) (.tup [(.name 3), (.name 4)]) (.seq (.fld (.var 0) "own_pairs")) (some (.and (.cmp .eq (.var 3) (.var 1)) (.fld (.var 0) "own_is_meet"))) [3, 4])))], some "Ways", [], some "Ways.backs"⟩
def b10_0 : List S := [
    .ifs (.cmp .notin (.var 6) (.var 3)) [
      .app 3 (.var 6),
      .app 4 (.tup [(.var 6), (.idx (.var 3) (.var 5))])] [],
    .forget [6]]
def b10_1 : List S := [
    .forS (.name 6) (.seq (.ite (.var 2) (.callF 9 "backs" (.var 0) [(.idx (.var 3) (.var 5))]) (.callF 8 "nexts" (.var 0) [(.idx (.var 3) (.var 5))]))) b10_0,
    .aug 5 .add (.cst (.int 1)),
    .forget [6]]
def d10 : DefI := ⟨"forest", 3, ["self", "sources", "is_back", "known", "found", "at", "other"], [.d, .d, .d], [
    .parN [3, 4, 5] [(.blt .list [(.var 1)]), (.lst []), (.cst (.int 0))],
    .whil 1000 (.cmp .lt (.var 5) (.blt .len [(.var 3)])) b10_1,
    .frzV 4,
    .ret (.var 4)], some "Ways", [], some "Ways.forest"⟩
def b11_0 : List S := [
    .asg (.name 2) (.callF 10 "forest" (.var 0) [(.lst [(.var 1)]), (.cst (.bool true))]),
    .frzV 2,
    .ifs (.cmp .eq (.blt .len [(.var 2)]) (.bin .sub (.fld (.var 0) "own_people") (.cst (.int 1)))) [
      .ret (.tup [(.ext .rev [(.var 2)]), (.var 1)])] [],
    .forget [1, 2]]
def d11 : DefI := ⟨"inward", 1, ["self", "root", "found"], [.d], [
    .forS (.name 1) (.rng1 (.fld (.var 0) "own_people")) b11_0,
    .ret (.cst .none)], some "Ways", [], some "Ways.inward"⟩
def b12_0 : List S := [
    .asg (.name 3) (.comp (.var 4) (.name 4) (.seq (.callF 8 "nexts" (.var 0) [(.var 1)])) (some (.cmp .isin (.var 4) (.callF 8 "nexts" (.var 0) [(.var 2)]))) [4]),
    .frzV 3,
    .ifs (.cmp .gt (.blt .len [(.var 3)]) (.cst (.int 1))) [
      .ret (.tup [(.var 1), (.idx (.var 3) (.cst (.int 0))), (.var 2), (.idx (.var 3) (.cst (.int 1)))])] [],
    .forget [2, 3]]
def b12_1 : List S := [
    .forS (.name 2) (.rng2 (.bin .add (.var 1) (.cst (.int 1))) (.fld (.var 0) "own_people")) b12_0,
    .forget [1, 2, 3]]
def d12 : DefI := ⟨"ring", 1, ["self", "one", "other", "both", "person"], [.d], [
    .forS (.name 1) (.rng1 (.fld (.var 0) "own_people")) b12_1,
    .ret (.cst .none)], some "Ways", [], some "Ways.ring"⟩
def d13 : DefI := ⟨"told_all", 3, ["self", "inward", "root", "outward", "person", "parent"], [.d, .d, .d], [
    .asg (.name 3) (.callF 10 "forest" (.var 0) [(.lst [(.var 2)]), (.cst (.bool false))]),
    .frzV 3,
    .ifs (.cmp .lt (.blt .len [(.var 3)]) (.bin .sub (.fld (.var 0) "own_people") (.cst (.int 1)))) [
      .ret (.cst .none)] [],
    .ret (.frz (.bin .add (.var 1) (.comp (.tup [(.var 5), (.var 4)]) (.tup [(.name 4), (.name 5)]) (.seq (.var 3)) none [4, 5])))], some "Ways", [], some "Ways.told_all"⟩
def d14 : DefI := ⟨"met_all", 2, ["self", "inward", "ring", "far", "one", "two", "three", "four"], [.d, .d], [
    .asg (.name 2) (.callF 12 "ring" (.var 0) []),
    .frzV 2,
    .ifs (.isN (.var 2)) [
      .ret (.frz (.bin .add (.var 1) (.ext .rev2 [(.var 1)])))] [],
    .asg (.name 3) (.callF 10 "forest" (.var 0) [(.var 2), (.cst (.bool true))]),
    .frzV 3,
    .asg (.tup [(.name 4), (.name 5), (.name 6), (.name 7)]) (.var 2),
    .ret (.frz (.bin .add (.bin .add (.ext .rev [(.var 3)]) (.lst [(.tup [(.var 4), (.var 5)]), (.tup [(.var 6), (.var 7)]), (.tup [(.var 5), (.var 6)]), (.tup [(.var 4), (.var 7)])])) (.var 3)))], some "Ways", [], some "Ways.met_all"⟩
def d15 : DefI := ⟨"plan", 2, ["self", "goal", "some"], [.d, .d], [
    .asg (.name 2) (.callF 11 "inward" (.var 0) []),
    .frzV 2,
    .ifs (.or (.isN (.var 2)) (.cmp .eq (.var 1) (.gl 1))) [
      .ret (.ite (.isN (.var 2)) (.cst .none) (.idx (.var 2) (.cst (.int 0))))] [],
    .ret (.ite (.fld (.var 0) "own_is_meet") (.frz (.callF 14 "met_all" (.var 0) [(.idx (.var 2) (.cst (.int 0)))])) (.frz (.callF 13 "told_all" (.var 0) [(.idx (.var 2) (.cst (.int 0))), (.idx (.var 2) (.cst (.int 1)))])))], some "Ways", [], some "Ways.plan"⟩
def d16 : DefI := ⟨"meeting_plan", 4, ["people", "way", "graph", "goal", "found", "pair"], [.d, .d, .d, .d], [
    .asg (.name 4) (.callF 15 "plan" (.mk "Ways" 7 [(.var 0), (.var 1), (.var 2)]) [(.var 3)]),
    .frzV 4,
    .ifs (.isN (.var 4)) [
      .ret (.cst .none)] [],
    .ret (.blt .tuple [(.comp (.ite (.cmp .eq (.var 1) (.gl 0)) (.blt .tuple [(.blt .sortD [(.var 5)])]) (.var 5)) (.name 5) (.seq (.var 4)) none [5])])], none, [], none⟩
def d17 : DefI := ⟨"fewest_meetings", 4, ["people", "way", "graph", "goal", "found"], [.d, .d, .d, .d], [
    .asg (.name 4) (.call 16 [(.var 0), (.var 1), (.var 2), (.var 3)]),
    .ret (.ite (.isN (.var 4)) (.cst .none) (.blt .len [(.var 4)]))], none, [], none⟩
def d18 : DefI := ⟨"_law_box", 2, ["_law_script", "_law_k", "_law_cell", "_law_seed"], [.d, .d], [
    .asg (.name 2) (.ite (.cmp .lt (.var 1) (.blt .len [(.var 0)])) (.idx (.var 0) (.var 1)) (.cst (.int 0))),
    .asg (.name 3) (.bin .mod (.blt .int [(.bin .mul (.bin .add (.bin .add (.bin .mod (.blt .int [(.var 2)]) (.cst (.int 2305843009213693921))) (.bin .mul (.cst (.int 41177)) (.var 1))) (.cst (.int 53))) (.cst (.int 38923)))]) (.cst (.int 2147483563))),
    .ret (.lst [(.bin .mul (.blt .abs [(.var 2)]) (.blt .int [(.cmp .ge (.blt .abs [(.var 2)]) (.bin .pow (.cst (.int 10)) (.cst (.int 18))))])), (.var 3), (.cst (.int 0))])], none, [], none⟩
def d19 : DefI := ⟨"_law_take", 2, ["_law_box_here", "_law_span", "_law_once", "_law_odd", "_law_found"], [.io, .d], [
    .ifs (.cmp .gt (.idx (.var 0) (.cst (.int 0))) (.cst (.int 0))) [
      .asg (.name 4) (.bin .mod (.blt .int [(.idx (.var 0) (.cst (.int 0)))]) (.var 1)),
      .setI 0 (.cst (.int 0)) (.bin .fdiv (.idx (.var 0) (.cst (.int 0))) (.var 1)),
      .ret (.var 4)] [],
    .setI 0 (.cst (.int 2)) (.bin .add (.idx (.var 0) (.cst (.int 2))) (.cst (.int 1))),
    .asg (.name 2) (.bin .mod (.blt .int [(.bin .pow (.bin .add (.idx (.var 0) (.cst (.int 1))) (.bin .mul (.cst (.int 51749)) (.idx (.var 0) (.cst (.int 2))))) (.cst (.int 3)))]) (.cst (.int 2147483549))),
    .asg (.name 3) (.bin .add (.bin .mod (.blt .int [(.var 2)]) (.cst (.int 30011))) (.cst (.int 17))),
    .ret (.bin .mod (.blt .int [(.bin .fdiv (.bin .mod (.blt .int [(.bin .add (.bin .mul (.var 2) (.var 3)) (.bin .mul (.idx (.var 0) (.cst (.int 2))) (.cst (.int 7039))))]) (.cst (.int 2147483629))) (.cst (.int 32)))]) (.var 1))], none, [], none⟩
def d20 : DefI := ⟨"_law_of", 2, ["_law_box_here", "_law_some"], [.io, .d], [
    .ret (.idx (.var 1) (.call 19 [(.var 0), (.blt .len [(.var 1)])]))], none, [], none⟩
def b21_0 : List S := [
    .app 3 (.tup [(.call 19 [(.var 0), (.var 4)]), (.var 4)]),
    .forget [4]]
def b21_1 : List S := [
    .par 4 10 (.call 19 [(.var 0), (.var 1)]) (.call 19 [(.var 0), (.var 1)]),
    .asg (.name 7) (.tup [(.blt .min2 [(.var 4), (.var 10)]), (.blt .max2 [(.var 4), (.var 10)])]),
    .asg (.name 3) (.bin .add (.var 3) (.bin .mul (.lst [(.var 7)]) (.blt .int [(.and (.cmp .ne (.var 4) (.var 10)) (.cmp .notin (.var 7) (.var 3)))]))),
    .forget [4, 5, 7, 10]]
def b21_2 : List S := [
    .app 8 (.frz (.mop .popI (.var 9) [(.call 19 [(.var 0), (.blt .len [(.var 9)])])]))]
def d21 : DefI := ⟨"_law_tree", 3, ["_law_box_here", "_law_crowd", "_law_more", "_law_found", "_law_p", "_law_turn", "_law_pairs_so", "_law_pair", "_law_names", "_law_rest_so", "_law_q"], [.io, .d, .d], [
    .asg (.name 3) (.lst []),
    .forS (.name 4) (.rng2 (.cst (.int 1)) (.var 1)) b21_0,
    .forS (.name 5) (.rng1 (.var 2)) b21_1,
    .parN [8, 9] [(.lst []), (.ext .lrng1 [(.var 1)])],
    .whil 1000 (.cmp .ne (.var 9) (.lst [])) b21_2,
    .asg (.name 6) (.comp (.blt .sorted [(.lst [(.idx (.var 8) (.var 4)), (.idx (.var 8) (.var 10))])]) (.tup [(.name 4), (.name 10)]) (.seq (.var 3)) none [4, 10]),
    .frzV 6,
    .ret (.blt .tuple [(.blt .sortD [(.comp (.blt .tuple [(.var 7)]) (.name 7) (.seq (.var 6)) none [7])])])], none, [], none⟩
def b22_0 : List S := [
    .ifs (.cmp .ne (.cmp .isin (.var 4) (.var 2)) (.cmp .isin (.var 5) (.var 2))) [
      .app 2 (.ite (.cmp .isin (.var 4) (.var 2)) (.var 5) (.var 4))] [],
    .forget [4, 5]]
def b22_1 : List S := [
    .forS (.tup [(.name 4), (.name 5)]) (.seq (.var 1)) b22_0,
    .forget [3, 4, 5]]
def d22 : DefI := ⟨"_law_is_connected", 2, ["_law_crowd", "_law_web", "_law_here", "_law_turn", "_law_p", "_law_q"], [.d, .d], [
    .asg (.name 2) (.lst [(.cst (.int 0))]),
    .forS (.name 3) (.rng1 (.var 0)) b22_1,
    .ret (.cmp .eq (.blt .len [(.var 2)]) (.var 0))], none, [], none⟩
def b23_0 : List S := [
    .ifs (.cmp .eq (.call 4 [(.var 1), (.cst (.str "meet")), (.bin .add (.slc (.var 3) none (some (.var 4))) (.slc (.var 3) (some (.bin .add (.var 4) (.cst (.int 1)))) none))]) (.lst [])) [
      .ret (.cst (.bool false))] [],
    .forget [4]]
def b23_1 : List S := [
    .ifs (.cmp .ne (.notN (.call 17 [(.var 1), (.cst (.str "meet")), (.var 7), (.var 9)])) (.var 8)) [
      .ret (.cst (.bool false))] [],
    .ifs (.cmp .ne (.notN (.call 16 [(.var 1), (.cst (.str "meet")), (.var 7), (.var 9)])) (.var 8)) [
      .ret (.cst (.bool false))] [],
    .forget [9]]
def d23 : DefI := ⟨"_law_right", 1, ["_law_box_here", "_law_crowd", "_law_web", "_law_some", "_law_k", "_law_short", "_law_gone", "_law_less", "_law_is_joined", "_law_aim", "_law_turn", "_law_pair"], [.io], [
    .asg (.name 1) (.bin .add (.cst (.int 2)) (.call 19 [(.var 0), (.cst (.int 9))])),
    .asg (.name 2) (.call 21 [(.var 0), (.var 1), (.call 19 [(.var 0), (.cst (.int 8))])]),
    .asg (.name 3) (.call 16 [(.var 1), (.cst (.str "meet")), (.var 2), (.cst (.str "somebody"))]),
    .ifs (.or (.cmp .ne (.call 17 [(.var 1), (.cst (.str "meet")), (.var 2), (.cst (.str "somebody"))]) (.bin .sub (.var 1) (.cst (.int 1)))) (.cmp .ne (.blt .len [(.var 3)]) (.bin .sub (.var 1) (.cst (.int 1))))) [
      .ret (.cst (.bool false))] [],
    .ifs (.or (.cmp .ne (.comp (.var 11) (.name 11) (.seq (.var 3)) (some (.cmp .notin (.var 11) (.var 2))) [11]) (.lst [])) (.not (.call 6 [(.var 1), (.cst (.str "meet")), (.var 3), (.cst (.str "somebody"))]))) [
      .ret (.cst (.bool false))] [],
    .forS (.name 4) (.rng1 (.blt .len [(.var 3)])) b23_0,
    .asg (.name 5) (.blt .tuple [(.comp (.call 20 [(.var 0), (.var 2)]) (.name 10) (.rng1 (.bin .sub (.var 1) (.cst (.int 2)))) none [10])]),
    .ifs (.call 6 [(.var 1), (.cst (.str "meet")), (.var 5), (.cst (.str "somebody"))]) [
      .ret (.cst (.bool false))] [],
    .asg (.name 6) (.call 19 [(.var 0), (.blt .len [(.var 2)])]),
    .asg (.name 7) (.bin .add (.slc (.var 2) none (some (.var 6))) (.slc (.var 2) (some (.bin .add (.var 6) (.cst (.int 1)))) none)),
    .frzV 7,
    .asg (.name 8) (.call 22 [(.var 1), (.var 7)]),
    .forS (.name 9) (.seq (.tup [(.cst (.str "somebody")), (.cst (.str "everybody"))])) b23_1,
    .ret (.cst (.bool true))], none, [], none⟩
def b24_0 : List S := [
    .asg (.name 2) (.call 18 [(.var 0), (.var 1)]),
    .ifs (.not (.blt .all [(.comp (.call 23 [(.var 2)]) (.name 3) (.rng1 (.cst (.int 4))) none [3])])) [
      .ret (.cst (.bool false))] [],
    .forget [1, 2]]
def d24 : DefI := ⟨"law", 1, ["_law_script", "_law_k", "_law_box_here", "_law_lap"], [.d], [
    .forS (.name 1) (.rng1 (.bin .add (.cst (.int 1)) (.blt .min2 [(.cst (.int 1)), (.blt .len [(.var 0)])]))) b24_0,
    .ret (.cst (.bool true))], none, [], none⟩
def defs : List DefI := [d0, d1, d2, d3, d4, d5, d6, d7, d8, d9, d10, d11, d12, d13, d14, d15, d16, d17, d18, d19, d20, d21, d22, d23, d24]
def kws : List KwI := []
def consts : List (Str × D) := [("MEET", (.str "meet")), ("SOMEBODY", (.str "somebody"))]
def g : Gi := ⟨defs, consts, ["isinstance", "list", "tuple", "range", "sorted", "set", "any", "len", "enumerate", "int", "abs", "min", "max", "all"], kws, [("Ways", "own_people"), ("Ways", "own_is_meet"), ("Ways", "own_pairs")]⟩
theorem okd0 : okDef g d0 (tx 0) = true := by decide +kernel
theorem okd1 : okDef g d1 (tx 1) = true := by decide +kernel
theorem okd2 : okDef g d2 (tx 2) = true := by decide +kernel
theorem okd3 : okDef g d3 (tx 3) = true := by decide +kernel
theorem okd4 : okDef g d4 (tx 4) = true := by decide +kernel
theorem okd5 : okDef g d5 (tx 5) = true := by decide +kernel
theorem okd6 : okDef g d6 (tx 6) = true := by decide +kernel
theorem okd7 : okDef g d7 (tx 7) = true := by decide +kernel
theorem okd8 : okDef g d8 (tx 8) = true := by decide +kernel
theorem okd9 : okDef g d9 (tx 9) = true := by decide +kernel
theorem okd10 : okDef g d10 (tx 10) = true := by decide +kernel
theorem okd11 : okDef g d11 (tx 11) = true := by decide +kernel
theorem okd12 : okDef g d12 (tx 12) = true := by decide +kernel
theorem okd13 : okDef g d13 (tx 13) = true := by decide +kernel
theorem okd14 : okDef g d14 (tx 14) = true := by decide +kernel
theorem okd15 : okDef g d15 (tx 15) = true := by decide +kernel
theorem okd16 : okDef g d16 (tx 16) = true := by decide +kernel
theorem okd17 : okDef g d17 (tx 17) = true := by decide +kernel
theorem okd18 : okDef g d18 (tx 18) = true := by decide +kernel
theorem okd19 : okDef g d19 (tx 19) = true := by decide +kernel
theorem okd20 : okDef g d20 (tx 20) = true := by decide +kernel
theorem okd21 : okDef g d21 (tx 21) = true := by decide +kernel
theorem okd22 : okDef g d22 (tx 22) = true := by decide +kernel
theorem okd23 : okDef g d23 (tx 23) = true := by decide +kernel
theorem okd24 : okDef g d24 (tx 24) = true := by decide +kernel
theorem w1 {K : PySem.W.Frag} {h : Heap} {mg : Str → Option Value} (X : K.In h) (G : h.Ns mainGlobals mg)
    {CWays : Addr} (aCWays : PySem.W.nsIn K mainGlobals "Ways" = some (some (.ref CWays))) (pgWays : PySem.W.plainGet K CWays Str.empty = true) (hdWays : PySem.W.hasDictIn K CWays = true) (poWays : PySem.W.plainOver K CWays = true) (saWays : PySem.W.findIn K (.ref CWays) "__setattr__" = some (some (.builtin "object.__setattr__"))) (mkWays : PySem.W.makesIn K CWays = true) (kcWays : PySem.W.keepIn K (.ref CWays) = true)
    (nf0 : PySem.W.findIn K (.ref CWays) "own_people" = some none)
    (nf1 : PySem.W.findIn K (.ref CWays) "own_is_meet" = some none)
    (nf2 : PySem.W.findIn K (.ref CWays) "own_pairs" = some none)
    {f0 : Addr} {od0 an0 : Option Addr} {sl0 : Array (Option Value)} {oc0 kV0 dc0 pm0 cd0 ct0 : Value}
    (a0 : PySem.W.nsIn K mainGlobals "as_tuples" = some (some (.ref f0))) (l0 : K.lookup f0 = some ⟨oc0, od0, .func (PySem.W.fnOf "as_tuples" "as_tuples" (defArgs (tx 0)) (defBody (tx 0)) (defScope (tx 0)) .none kV0 dc0 pm0 an0 cd0 ct0), sl0⟩) (c0 : PySem.W.codeIn K cd0 "as_tuples" = true) (k0 : PySem.W.keepIn K (.ref f0) = true)
    {f1 : Addr} {od1 an1 : Option Addr} {sl1 : Array (Option Value)} {oc1 kV1 dc1 pm1 cd1 ct1 : Value}
    (a1 : PySem.W.nsIn K mainGlobals "known_by" = some (some (.ref f1))) (l1 : K.lookup f1 = some ⟨oc1, od1, .func (PySem.W.fnOf "known_by" "known_by" (defArgs (tx 1)) (defBody (tx 1)) (defScope (tx 1)) .none kV1 dc1 pm1 an1 cd1 ct1), sl1⟩) (c1 : PySem.W.codeIn K cd1 "known_by" = true) (k1 : PySem.W.keepIn K (.ref f1) = true)
    {f2 : Addr} {od2 an2 : Option Addr} {sl2 : Array (Option Value)} {oc2 kV2 dc2 pm2 cd2 ct2 : Value}
    (a2 : PySem.W.nsIn K mainGlobals "all_pairs" = some (some (.ref f2))) (l2 : K.lookup f2 = some ⟨oc2, od2, .func (PySem.W.fnOf "all_pairs" "all_pairs" (defArgs (tx 2)) (defBody (tx 2)) (defScope (tx 2)) .none kV2 dc2 pm2 an2 cd2 ct2), sl2⟩) (c2 : PySem.W.codeIn K cd2 "all_pairs" = true) (k2 : PySem.W.keepIn K (.ref f2) = true)
    {f3 : Addr} {od3 an3 : Option Addr} {sl3 : Array (Option Value)} {oc3 kV3 dc3 pm3 cd3 ct3 : Value}
    (a3 : PySem.W.nsIn K mainGlobals "has_both" = some (some (.ref f3))) (l3 : K.lookup f3 = some ⟨oc3, od3, .func (PySem.W.fnOf "has_both" "has_both" (defArgs (tx 3)) (defBody (tx 3)) (defScope (tx 3)) .none kV3 dc3 pm3 an3 cd3 ct3), sl3⟩) (c3 : PySem.W.codeIn K cd3 "has_both" = true) (k3 : PySem.W.keepIn K (.ref f3) = true)
    {f4 : Addr} {od4 an4 : Option Addr} {sl4 : Array (Option Value)} {oc4 kV4 dc4 pm4 cd4 ct4 : Value}
    (a4 : PySem.W.nsIn K mainGlobals "unknown_pairs" = some (some (.ref f4))) (l4 : K.lookup f4 = some ⟨oc4, od4, .func (PySem.W.fnOf "unknown_pairs" "unknown_pairs" (defArgs (tx 4)) (defBody (tx 4)) (defScope (tx 4)) .none kV4 dc4 pm4 an4 cd4 ct4), sl4⟩) (c4 : PySem.W.codeIn K cd4 "unknown_pairs" = true) (k4 : PySem.W.keepIn K (.ref f4) = true)
    {f5 : Addr} {od5 an5 : Option Addr} {sl5 : Array (Option Value)} {oc5 kV5 dc5 pm5 cd5 ct5 : Value}
    (a5 : PySem.W.nsIn K mainGlobals "against" = some (some (.ref f5))) (l5 : K.lookup f5 = some ⟨oc5, od5, .func (PySem.W.fnOf "against" "against" (defArgs (tx 5)) (defBody (tx 5)) (defScope (tx 5)) .none kV5 dc5 pm5 an5 cd5 ct5), sl5⟩) (c5 : PySem.W.codeIn K cd5 "against" = true) (k5 : PySem.W.keepIn K (.ref f5) = true)
    {f6 : Addr} {od6 an6 : Option Addr} {sl6 : Array (Option Value)} {oc6 kV6 dc6 pm6 cd6 ct6 : Value}
    (a6 : PySem.W.nsIn K mainGlobals "reaches" = some (some (.ref f6))) (l6 : K.lookup f6 = some ⟨oc6, od6, .func (PySem.W.fnOf "reaches" "reaches" (defArgs (tx 6)) (defBody (tx 6)) (defScope (tx 6)) .none kV6 dc6 pm6 an6 cd6 ct6), sl6⟩) (c6 : PySem.W.codeIn K cd6 "reaches" = true) (k6 : PySem.W.keepIn K (.ref f6) = true)
    {f7 : Addr} {od7 an7 : Option Addr} {sl7 : Array (Option Value)} {oc7 kV7 dc7 pm7 cd7 ct7 : Value}
    (a7 : PySem.W.findIn K (.ref CWays) "__init__" = some (some (.ref f7))) (i7 : PySem.W.isFn K (.ref f7) = true) (l7 : K.lookup f7 = some ⟨oc7, od7, .func (PySem.W.fnOf "__init__" "Ways.__init__" (defArgs (tx 7)) (defBody (tx 7)) (defScope (tx 7)) .none kV7 dc7 pm7 an7 cd7 ct7), sl7⟩) (c7 : PySem.W.codeIn K cd7 "Ways.__init__" = true) (k7 : PySem.W.keepIn K (.ref f7) = true)
    {f8 : Addr} {od8 an8 : Option Addr} {sl8 : Array (Option Value)} {oc8 kV8 dc8 pm8 cd8 ct8 : Value}
    (a8 : PySem.W.findIn K (.ref CWays) "nexts" = some (some (.ref f8))) (i8 : PySem.W.isFn K (.ref f8) = true) (l8 : K.lookup f8 = some ⟨oc8, od8, .func (PySem.W.fnOf "nexts" "Ways.nexts" (defArgs (tx 8)) (defBody (tx 8)) (defScope (tx 8)) .none kV8 dc8 pm8 an8 cd8 ct8), sl8⟩) (c8 : PySem.W.codeIn K cd8 "Ways.nexts" = true) (k8 : PySem.W.keepIn K (.ref f8) = true)
    {f9 : Addr} {od9 an9 : Option Addr} {sl9 : Array (Option Value)} {oc9 kV9 dc9 pm9 cd9 ct9 : Value}
    (a9 : PySem.W.findIn K (.ref CWays) "backs" = some (some (.ref f9))) (i9 : PySem.W.isFn K (.ref f9) = true) (l9 : K.lookup f9 = some ⟨oc9, od9, .func (PySem.W.fnOf "backs" "Ways.backs" (defArgs (tx 9)) (defBody (tx 9)) (defScope (tx 9)) .none kV9 dc9 pm9 an9 cd9 ct9), sl9⟩) (c9 : PySem.W.codeIn K cd9 "Ways.backs" = true) (k9 : PySem.W.keepIn K (.ref f9) = true)
    {f10 : Addr} {od10 an10 : Option Addr} {sl10 : Array (Option Value)} {oc10 kV10 dc10 pm10 cd10 ct10 : Value}
    (a10 : PySem.W.findIn K (.ref CWays) "forest" = some (some (.ref f10))) (i10 : PySem.W.isFn K (.ref f10) = true) (l10 : K.lookup f10 = some ⟨oc10, od10, .func (PySem.W.fnOf "forest" "Ways.forest" (defArgs (tx 10)) (defBody (tx 10)) (defScope (tx 10)) .none kV10 dc10 pm10 an10 cd10 ct10), sl10⟩) (c10 : PySem.W.codeIn K cd10 "Ways.forest" = true) (k10 : PySem.W.keepIn K (.ref f10) = true)
    {f11 : Addr} {od11 an11 : Option Addr} {sl11 : Array (Option Value)} {oc11 kV11 dc11 pm11 cd11 ct11 : Value}
    (a11 : PySem.W.findIn K (.ref CWays) "inward" = some (some (.ref f11))) (i11 : PySem.W.isFn K (.ref f11) = true) (l11 : K.lookup f11 = some ⟨oc11, od11, .func (PySem.W.fnOf "inward" "Ways.inward" (defArgs (tx 11)) (defBody (tx 11)) (defScope (tx 11)) .none kV11 dc11 pm11 an11 cd11 ct11), sl11⟩) (c11 : PySem.W.codeIn K cd11 "Ways.inward" = true) (k11 : PySem.W.keepIn K (.ref f11) = true)
    {f12 : Addr} {od12 an12 : Option Addr} {sl12 : Array (Option Value)} {oc12 kV12 dc12 pm12 cd12 ct12 : Value}
    (a12 : PySem.W.findIn K (.ref CWays) "ring" = some (some (.ref f12))) (i12 : PySem.W.isFn K (.ref f12) = true) (l12 : K.lookup f12 = some ⟨oc12, od12, .func (PySem.W.fnOf "ring" "Ways.ring" (defArgs (tx 12)) (defBody (tx 12)) (defScope (tx 12)) .none kV12 dc12 pm12 an12 cd12 ct12), sl12⟩) (c12 : PySem.W.codeIn K cd12 "Ways.ring" = true) (k12 : PySem.W.keepIn K (.ref f12) = true)
    {f13 : Addr} {od13 an13 : Option Addr} {sl13 : Array (Option Value)} {oc13 kV13 dc13 pm13 cd13 ct13 : Value}
    (a13 : PySem.W.findIn K (.ref CWays) "told_all" = some (some (.ref f13))) (i13 : PySem.W.isFn K (.ref f13) = true) (l13 : K.lookup f13 = some ⟨oc13, od13, .func (PySem.W.fnOf "told_all" "Ways.told_all" (defArgs (tx 13)) (defBody (tx 13)) (defScope (tx 13)) .none kV13 dc13 pm13 an13 cd13 ct13), sl13⟩) (c13 : PySem.W.codeIn K cd13 "Ways.told_all" = true) (k13 : PySem.W.keepIn K (.ref f13) = true)
    {f14 : Addr} {od14 an14 : Option Addr} {sl14 : Array (Option Value)} {oc14 kV14 dc14 pm14 cd14 ct14 : Value}
    (a14 : PySem.W.findIn K (.ref CWays) "met_all" = some (some (.ref f14))) (i14 : PySem.W.isFn K (.ref f14) = true) (l14 : K.lookup f14 = some ⟨oc14, od14, .func (PySem.W.fnOf "met_all" "Ways.met_all" (defArgs (tx 14)) (defBody (tx 14)) (defScope (tx 14)) .none kV14 dc14 pm14 an14 cd14 ct14), sl14⟩) (c14 : PySem.W.codeIn K cd14 "Ways.met_all" = true) (k14 : PySem.W.keepIn K (.ref f14) = true)
    {f15 : Addr} {od15 an15 : Option Addr} {sl15 : Array (Option Value)} {oc15 kV15 dc15 pm15 cd15 ct15 : Value}
    (a15 : PySem.W.findIn K (.ref CWays) "plan" = some (some (.ref f15))) (i15 : PySem.W.isFn K (.ref f15) = true) (l15 : K.lookup f15 = some ⟨oc15, od15, .func (PySem.W.fnOf "plan" "Ways.plan" (defArgs (tx 15)) (defBody (tx 15)) (defScope (tx 15)) .none kV15 dc15 pm15 an15 cd15 ct15), sl15⟩) (c15 : PySem.W.codeIn K cd15 "Ways.plan" = true) (k15 : PySem.W.keepIn K (.ref f15) = true)
    {f16 : Addr} {od16 an16 : Option Addr} {sl16 : Array (Option Value)} {oc16 kV16 dc16 pm16 cd16 ct16 : Value}
    (a16 : PySem.W.nsIn K mainGlobals "meeting_plan" = some (some (.ref f16))) (l16 : K.lookup f16 = some ⟨oc16, od16, .func (PySem.W.fnOf "meeting_plan" "meeting_plan" (defArgs (tx 16)) (defBody (tx 16)) (defScope (tx 16)) .none kV16 dc16 pm16 an16 cd16 ct16), sl16⟩) (c16 : PySem.W.codeIn K cd16 "meeting_plan" = true) (k16 : PySem.W.keepIn K (.ref f16) = true)
    {f17 : Addr} {od17 an17 : Option Addr} {sl17 : Array (Option Value)} {oc17 kV17 dc17 pm17 cd17 ct17 : Value}
    (a17 : PySem.W.nsIn K mainGlobals "fewest_meetings" = some (some (.ref f17))) (l17 : K.lookup f17 = some ⟨oc17, od17, .func (PySem.W.fnOf "fewest_meetings" "fewest_meetings" (defArgs (tx 17)) (defBody (tx 17)) (defScope (tx 17)) .none kV17 dc17 pm17 an17 cd17 ct17), sl17⟩) (c17 : PySem.W.codeIn K cd17 "fewest_meetings" = true) (k17 : PySem.W.keepIn K (.ref f17) = true)
    {f18 : Addr} {od18 an18 : Option Addr} {sl18 : Array (Option Value)} {oc18 kV18 dc18 pm18 cd18 ct18 : Value}
    (a18 : PySem.W.nsIn K mainGlobals "_law_box" = some (some (.ref f18))) (l18 : K.lookup f18 = some ⟨oc18, od18, .func (PySem.W.fnOf "_law_box" "_law_box" (defArgs (tx 18)) (defBody (tx 18)) (defScope (tx 18)) .none kV18 dc18 pm18 an18 cd18 ct18), sl18⟩) (c18 : PySem.W.codeIn K cd18 "_law_box" = true) (k18 : PySem.W.keepIn K (.ref f18) = true)
    {f19 : Addr} {od19 an19 : Option Addr} {sl19 : Array (Option Value)} {oc19 kV19 dc19 pm19 cd19 ct19 : Value}
    (a19 : PySem.W.nsIn K mainGlobals "_law_take" = some (some (.ref f19))) (l19 : K.lookup f19 = some ⟨oc19, od19, .func (PySem.W.fnOf "_law_take" "_law_take" (defArgs (tx 19)) (defBody (tx 19)) (defScope (tx 19)) .none kV19 dc19 pm19 an19 cd19 ct19), sl19⟩) (c19 : PySem.W.codeIn K cd19 "_law_take" = true) (k19 : PySem.W.keepIn K (.ref f19) = true)
    {f20 : Addr} {od20 an20 : Option Addr} {sl20 : Array (Option Value)} {oc20 kV20 dc20 pm20 cd20 ct20 : Value}
    (a20 : PySem.W.nsIn K mainGlobals "_law_of" = some (some (.ref f20))) (l20 : K.lookup f20 = some ⟨oc20, od20, .func (PySem.W.fnOf "_law_of" "_law_of" (defArgs (tx 20)) (defBody (tx 20)) (defScope (tx 20)) .none kV20 dc20 pm20 an20 cd20 ct20), sl20⟩) (c20 : PySem.W.codeIn K cd20 "_law_of" = true) (k20 : PySem.W.keepIn K (.ref f20) = true)
    {f21 : Addr} {od21 an21 : Option Addr} {sl21 : Array (Option Value)} {oc21 kV21 dc21 pm21 cd21 ct21 : Value}
    (a21 : PySem.W.nsIn K mainGlobals "_law_tree" = some (some (.ref f21))) (l21 : K.lookup f21 = some ⟨oc21, od21, .func (PySem.W.fnOf "_law_tree" "_law_tree" (defArgs (tx 21)) (defBody (tx 21)) (defScope (tx 21)) .none kV21 dc21 pm21 an21 cd21 ct21), sl21⟩) (c21 : PySem.W.codeIn K cd21 "_law_tree" = true) (k21 : PySem.W.keepIn K (.ref f21) = true)
    {f22 : Addr} {od22 an22 : Option Addr} {sl22 : Array (Option Value)} {oc22 kV22 dc22 pm22 cd22 ct22 : Value}
    (a22 : PySem.W.nsIn K mainGlobals "_law_is_connected" = some (some (.ref f22))) (l22 : K.lookup f22 = some ⟨oc22, od22, .func (PySem.W.fnOf "_law_is_connected" "_law_is_connected" (defArgs (tx 22)) (defBody (tx 22)) (defScope (tx 22)) .none kV22 dc22 pm22 an22 cd22 ct22), sl22⟩) (c22 : PySem.W.codeIn K cd22 "_law_is_connected" = true) (k22 : PySem.W.keepIn K (.ref f22) = true)
    {f23 : Addr} {od23 an23 : Option Addr} {sl23 : Array (Option Value)} {oc23 kV23 dc23 pm23 cd23 ct23 : Value}
    (a23 : PySem.W.nsIn K mainGlobals "_law_right" = some (some (.ref f23))) (l23 : K.lookup f23 = some ⟨oc23, od23, .func (PySem.W.fnOf "_law_right" "_law_right" (defArgs (tx 23)) (defBody (tx 23)) (defScope (tx 23)) .none kV23 dc23 pm23 an23 cd23 ct23), sl23⟩) (c23 : PySem.W.codeIn K cd23 "_law_right" = true) (k23 : PySem.W.keepIn K (.ref f23) = true)
    {f24 : Addr} {od24 an24 : Option Addr} {sl24 : Array (Option Value)} {oc24 kV24 dc24 pm24 cd24 ct24 : Value}
    (a24 : PySem.W.nsIn K mainGlobals "law" = some (some (.ref f24))) (l24 : K.lookup f24 = some ⟨oc24, od24, .func (PySem.W.fnOf "law" "law" (defArgs (tx 24)) (defBody (tx 24)) (defScope (tx 24)) .none kV24 dc24 pm24 an24 cd24 ct24), sl24⟩) (c24 : PySem.W.codeIn K cd24 "law" = true) (k24 : PySem.W.keepIn K (.ref f24) = true)
    {gt0 : Tok} (g0 : PySem.W.nsIn K mainGlobals "MEET" = some (some (.str "meet" gt0)))
    {gt1 : Tok} (g1 : PySem.W.nsIn K mainGlobals "SOMEBODY" = some (some (.str "somebody" gt1)))
    (z0 : PySem.W.nsIn K mainGlobals "isinstance" = some none) (z1 : PySem.W.nsIn K mainGlobals "list" = some none) (z2 : PySem.W.nsIn K mainGlobals "tuple" = some none) (z3 : PySem.W.nsIn K mainGlobals "range" = some none) (z4 : PySem.W.nsIn K mainGlobals "sorted" = some none) (z5 : PySem.W.nsIn K mainGlobals "set" = some none) (z6 : PySem.W.nsIn K mainGlobals "any" = some none) (z7 : PySem.W.nsIn K mainGlobals "len" = some none) (z8 : PySem.W.nsIn K mainGlobals "enumerate" = some none) (z9 : PySem.W.nsIn K mainGlobals "int" = some none) (z10 : PySem.W.nsIn K mainGlobals "abs" = some none) (z11 : PySem.W.nsIn K mainGlobals "min" = some none) (z12 : PySem.W.nsIn K mainGlobals "max" = some none) (z13 : PySem.W.nsIn K mainGlobals "all" = some none) : World1 g tx K mg := by
  refine ⟨fun j d e => ?_, fun j d e => ?_, fun i w d ew e f fd F => ?_, fun x hx => ?_, fun i p e => ?_, fun c f hcf C kc => ?_⟩
  · match j, e with
    | 0, e => cases (show some d0 = some d from e); exact okd0
    | 1, e => cases (show some d1 = some d from e); exact okd1
    | 2, e => cases (show some d2 = some d from e); exact okd2
    | 3, e => cases (show some d3 = some d from e); exact okd3
    | 4, e => cases (show some d4 = some d from e); exact okd4
    | 5, e => cases (show some d5 = some d from e); exact okd5
    | 6, e => cases (show some d6 = some d from e); exact okd6
    | 7, e => cases (show some d7 = some d from e); exact okd7
    | 8, e => cases (show some d8 = some d from e); exact okd8
    | 9, e => cases (show some d9 = some d from e); exact okd9
    | 10, e => cases (show some d10 = some d from e); exact okd10
    | 11, e => cases (show some d11 = some d from e); exact okd11
    | 12, e => cases (show some d12 = some d from e); exact okd12
    | 13, e => cases (show some d13 = some d from e); exact okd13
    | 14, e => cases (show some d14 = some d from e); exact okd14
    | 15, e => cases (show some d15 = some d from e); exact okd15
    | 16, e => cases (show some d16 = some d from e); exact okd16
    | 17, e => cases (show some d17 = some d from e); exact okd17
    | 18, e => cases (show some d18 = some d from e); exact okd18
    | 19, e => cases (show some d19 = some d from e); exact okd19
    | 20, e => cases (show some d20 = some d from e); exact okd20
    | 21, e => cases (show some d21 = some d from e); exact okd21
    | 22, e => cases (show some d22 = some d from e); exact okd22
    | 23, e => cases (show some d23 = some d from e); exact okd23
    | 24, e => cases (show some d24 = some d from e); exact okd24
    | _ + 25, e => cases e
  · match j, e with
    | 0, e => cases (show some d0 = some d from e); exact ⟨_, _, ⟨fun_mk (st := tx 0) l0 c0 k0, PySem.W.mg_of X G a0, (fun_mk (st := tx 0) l0 c0 k0).binds (ps := ["thing"]) fun _ _ _ _ _ _ us hl => match us, hl with | [_], _ => rfl⟩⟩
    | 1, e => cases (show some d1 = some d from e); exact ⟨_, _, ⟨fun_mk (st := tx 1) l1 c1 k1, PySem.W.mg_of X G a1, (fun_mk (st := tx 1) l1 c1 k1).binds (ps := ["people", "way", "plan"]) fun _ _ _ _ _ _ us hl => match us, hl with | [_, _, _], _ => rfl⟩⟩
    | 2, e => cases (show some d2 = some d from e); exact ⟨_, _, ⟨fun_mk (st := tx 2) l2 c2 k2, PySem.W.mg_of X G a2, (fun_mk (st := tx 2) l2 c2 k2).binds (ps := ["people"]) fun _ _ _ _ _ _ us hl => match us, hl with | [_], _ => rfl⟩⟩
    | 3, e => cases (show some d3 = some d from e); exact ⟨_, _, ⟨fun_mk (st := tx 3) l3 c3 k3, PySem.W.mg_of X G a3, (fun_mk (st := tx 3) l3 c3 k3).binds (ps := ["some", "pair"]) fun _ _ _ _ _ _ us hl => match us, hl with | [_, _], _ => rfl⟩⟩
    | 4, e => cases (show some d4 = some d from e); exact ⟨_, _, ⟨fun_mk (st := tx 4) l4 c4 k4, PySem.W.mg_of X G a4, (fun_mk (st := tx 4) l4 c4 k4).binds (ps := ["people", "way", "plan"]) fun _ _ _ _ _ _ us hl => match us, hl with | [_, _, _], _ => rfl⟩⟩
    | 5, e => cases (show some d5 = some d from e); exact ⟨_, _, ⟨fun_mk (st := tx 5) l5 c5 k5, PySem.W.mg_of X G a5, (fun_mk (st := tx 5) l5 c5 k5).binds (ps := ["people", "way", "plan", "goal"]) fun _ _ _ _ _ _ us hl => match us, hl with | [_, _, _, _], _ => rfl⟩⟩
    | 6, e => cases (show some d6 = some d from e); exact ⟨_, _, ⟨fun_mk (st := tx 6) l6 c6 k6, PySem.W.mg_of X G a6, (fun_mk (st := tx 6) l6 c6 k6).binds (ps := ["people", "way", "plan", "goal"]) fun _ _ _ _ _ _ us hl => match us, hl with | [_, _, _, _], _ => rfl⟩⟩
    | 7, e => cases (show some d7 = some d from e); exact ⟨_, _, ⟨fun_mk (st := tx 7) l7 c7 k7, DefG.ofMeth (d := d7) rfl aCWays ⟨pgWays, hdWays, poWays, saWays⟩ (PySem.W.mg_of X G aCWays) ⟨a7, i7, k7⟩ mkWays kcWays, (fun_mk (st := tx 7) l7 c7 k7).binds (ps := ["self", "people", "way", "graph"]) fun _ _ _ _ _ _ us hl => match us, hl with | [_, _, _, _], _ => rfl⟩⟩
    | 8, e => cases (show some d8 = some d from e); exact ⟨_, _, ⟨fun_mk (st := tx 8) l8 c8 k8, DefG.ofMeth (d := d8) rfl aCWays ⟨pgWays, hdWays, poWays, saWays⟩ (PySem.W.mg_of X G aCWays) ⟨a8, i8, k8⟩ mkWays kcWays, (fun_mk (st := tx 8) l8 c8 k8).binds (ps := ["self", "person"]) fun _ _ _ _ _ _ us hl => match us, hl with | [_, _], _ => rfl⟩⟩
    | 9, e => cases (show some d9 = some d from e); exact ⟨_, _, ⟨fun_mk (st := tx 9) l9 c9 k9, DefG.ofMeth (d := d9) rfl aCWays ⟨pgWays, hdWays, poWays, saWays⟩ (PySem.W.mg_of X G aCWays) ⟨a9, i9, k9⟩ mkWays kcWays, (fun_mk (st := tx 9) l9 c9 k9).binds (ps := ["self", "person"]) fun _ _ _ _ _ _ us hl => match us, hl with | [_, _], _ => rfl⟩⟩
    | 10, e => cases (show some d10 = some d from e); exact ⟨_, _, ⟨fun_mk (st := tx 10) l10 c10 k10, DefG.ofMeth (d := d10) rfl aCWays ⟨pgWays, hdWays, poWays, saWays⟩ (PySem.W.mg_of X G aCWays) ⟨a10, i10, k10⟩ mkWays kcWays, (fun_mk (st := tx 10) l10 c10 k10).binds (ps := ["self", "sources", "is_back"]) fun _ _ _ _ _ _ us hl => match us, hl with | [_, _, _], _ => rfl⟩⟩
    | 11, e => cases (show some d11 = some d from e); exact ⟨_, _, ⟨fun_mk (st := tx 11) l11 c11 k11, DefG.ofMeth (d := d11) rfl aCWays ⟨pgWays, hdWays, poWays, saWays⟩ (PySem.W.mg_of X G aCWays) ⟨a11, i11, k11⟩ mkWays kcWays, (fun_mk (st := tx 11) l11 c11 k11).binds (ps := ["self"]) fun _ _ _ _ _ _ us hl => match us, hl with | [_], _ => rfl⟩⟩
    | 12, e => cases (show some d12 = some d from e); exact ⟨_, _, ⟨fun_mk (st := tx 12) l12 c12 k12, DefG.ofMeth (d := d12) rfl aCWays ⟨pgWays, hdWays, poWays, saWays⟩ (PySem.W.mg_of X G aCWays) ⟨a12, i12, k12⟩ mkWays kcWays, (fun_mk (st := tx 12) l12 c12 k12).binds (ps := ["self"]) fun _ _ _ _ _ _ us hl => match us, hl with | [_], _ => rfl⟩⟩
    | 13, e => cases (show some d13 = some d from e); exact ⟨_, _, ⟨fun_mk (st := tx 13) l13 c13 k13, DefG.ofMeth (d := d13) rfl aCWays ⟨pgWays, hdWays, poWays, saWays⟩ (PySem.W.mg_of X G aCWays) ⟨a13, i13, k13⟩ mkWays kcWays, (fun_mk (st := tx 13) l13 c13 k13).binds (ps := ["self", "inward", "root"]) fun _ _ _ _ _ _ us hl => match us, hl with | [_, _, _], _ => rfl⟩⟩
    | 14, e => cases (show some d14 = some d from e); exact ⟨_, _, ⟨fun_mk (st := tx 14) l14 c14 k14, DefG.ofMeth (d := d14) rfl aCWays ⟨pgWays, hdWays, poWays, saWays⟩ (PySem.W.mg_of X G aCWays) ⟨a14, i14, k14⟩ mkWays kcWays, (fun_mk (st := tx 14) l14 c14 k14).binds (ps := ["self", "inward"]) fun _ _ _ _ _ _ us hl => match us, hl with | [_, _], _ => rfl⟩⟩
    | 15, e => cases (show some d15 = some d from e); exact ⟨_, _, ⟨fun_mk (st := tx 15) l15 c15 k15, DefG.ofMeth (d := d15) rfl aCWays ⟨pgWays, hdWays, poWays, saWays⟩ (PySem.W.mg_of X G aCWays) ⟨a15, i15, k15⟩ mkWays kcWays, (fun_mk (st := tx 15) l15 c15 k15).binds (ps := ["self", "goal"]) fun _ _ _ _ _ _ us hl => match us, hl with | [_, _], _ => rfl⟩⟩
    | 16, e => cases (show some d16 = some d from e); exact ⟨_, _, ⟨fun_mk (st := tx 16) l16 c16 k16, PySem.W.mg_of X G a16, (fun_mk (st := tx 16) l16 c16 k16).binds (ps := ["people", "way", "graph", "goal"]) fun _ _ _ _ _ _ us hl => match us, hl with | [_, _, _, _], _ => rfl⟩⟩
    | 17, e => cases (show some d17 = some d from e); exact ⟨_, _, ⟨fun_mk (st := tx 17) l17 c17 k17, PySem.W.mg_of X G a17, (fun_mk (st := tx 17) l17 c17 k17).binds (ps := ["people", "way", "graph", "goal"]) fun _ _ _ _ _ _ us hl => match us, hl with | [_, _, _, _], _ => rfl⟩⟩
    | 18, e => cases (show some d18 = some d from e); exact ⟨_, _, ⟨fun_mk (st := tx 18) l18 c18 k18, PySem.W.mg_of X G a18, (fun_mk (st := tx 18) l18 c18 k18).binds (ps := ["_law_script", "_law_k"]) fun _ _ _ _ _ _ us hl => match us, hl with | [_, _], _ => rfl⟩⟩
    | 19, e => cases (show some d19 = some d from e); exact ⟨_, _, ⟨fun_mk (st := tx 19) l19 c19 k19, PySem.W.mg_of X G a19, (fun_mk (st := tx 19) l19 c19 k19).binds (ps := ["_law_box_here", "_law_span"]) fun _ _ _ _ _ _ us hl => match us, hl with | [_, _], _ => rfl⟩⟩
    | 20, e => cases (show some d20 = some d from e); exact ⟨_, _, ⟨fun_mk (st := tx 20) l20 c20 k20, PySem.W.mg_of X G a20, (fun_mk (st := tx 20) l20 c20 k20).binds (ps := ["_law_box_here", "_law_some"]) fun _ _ _ _ _ _ us hl => match us, hl with | [_, _], _ => rfl⟩⟩
    | 21, e => cases (show some d21 = some d from e); exact ⟨_, _, ⟨fun_mk (st := tx 21) l21 c21 k21, PySem.W.mg_of X G a21, (fun_mk (st := tx 21) l21 c21 k21).binds (ps := ["_law_box_here", "_law_crowd", "_law_more"]) fun _ _ _ _ _ _ us hl => match us, hl with | [_, _, _], _ => rfl⟩⟩
    | 22, e => cases (show some d22 = some d from e); exact ⟨_, _, ⟨fun_mk (st := tx 22) l22 c22 k22, PySem.W.mg_of X G a22, (fun_mk (st := tx 22) l22 c22 k22).binds (ps := ["_law_crowd", "_law_web"]) fun _ _ _ _ _ _ us hl => match us, hl with | [_, _], _ => rfl⟩⟩
    | 23, e => cases (show some d23 = some d from e); exact ⟨_, _, ⟨fun_mk (st := tx 23) l23 c23 k23, PySem.W.mg_of X G a23, (fun_mk (st := tx 23) l23 c23 k23).binds (ps := ["_law_box_here"]) fun _ _ _ _ _ _ us hl => match us, hl with | [_], _ => rfl⟩⟩
    | 24, e => cases (show some d24 = some d from e); exact ⟨_, _, ⟨fun_mk (st := tx 24) l24 c24 k24, PySem.W.mg_of X G a24, (fun_mk (st := tx 24) l24 c24 k24).binds (ps := ["_law_script"]) fun _ _ _ _ _ _ us hl => match us, hl with | [_], _ => rfl⟩⟩
    | _ + 25, e => cases e
  · match i, ew with
    | _ + 0, ew => cases ew
  · have hx : x ∈ (["isinstance", "list", "tuple", "range", "sorted", "set", "any", "len", "enumerate", "int", "abs", "min", "max", "all"] : List Str) := hx
    simp only [List.mem_cons, List.not_mem_nil, or_false] at hx
    rcases hx with rfl | rfl | rfl | rfl | rfl | rfl | rfl | rfl | rfl | rfl | rfl | rfl | rfl | rfl
    · exact PySem.W.mg_none_of X G z0
    · exact PySem.W.mg_none_of X G z1
    · exact PySem.W.mg_none_of X G z2
    · exact PySem.W.mg_none_of X G z3
    · exact PySem.W.mg_none_of X G z4
    · exact PySem.W.mg_none_of X G z5
    · exact PySem.W.mg_none_of X G z6
    · exact PySem.W.mg_none_of X G z7
    · exact PySem.W.mg_none_of X G z8
    · exact PySem.W.mg_none_of X G z9
    · exact PySem.W.mg_none_of X G z10
    · exact PySem.W.mg_none_of X G z11
    · exact PySem.W.mg_none_of X G z12
    · exact PySem.W.mg_none_of X G z13
  · match i, e with
    | 0, e => cases (show some ((("MEET" : Str), ((.str "meet") : D)) : Str × D) = some p from e); exact ⟨_, .str _, PySem.W.mg_of X G g0, ⟨_, rfl⟩, fun A H => .str _⟩
    | 1, e => cases (show some ((("SOMEBODY" : Str), ((.str "somebody") : D)) : Str × D) = some p from e); exact ⟨_, .str _, PySem.W.mg_of X G g1, ⟨_, rfl⟩, fun A H => .str _⟩
    | _ + 2, e => cases e
  · have hcf : (c, f) ∈ ([("Ways", "own_people"), ("Ways", "own_is_meet"), ("Ways", "own_pairs")] : List (Str × Str)) := hcf
    simp only [List.mem_cons, List.not_mem_nil, or_false, Prod.mk.injEq] at hcf
    rcases hcf with ⟨rfl, rfl⟩ | ⟨rfl, rfl⟩ | ⟨rfl, rfl⟩
    · cases (show some (some (Value.ref CWays)) = some (some (Value.ref C)) from aCWays.symm.trans kc); exact nf0
    · cases (show some (some (Value.ref CWays)) = some (some (Value.ref C)) from aCWays.symm.trans kc); exact nf1
    · cases (show some (some (Value.ref CWays)) = some (some (Value.ref C)) from aCWays.symm.trans kc); exact nf2
abbrev sem (n j : Nat) : Q.Env → Option (MV × Q.Env) := runDef defs consts kws n j
@[simp] theorem md0 {n : Nat} : (ctx defs consts kws n).modes 0 = [.d] := rfl
@[simp] theorem md1 {n : Nat} : (ctx defs consts kws n).modes 1 = [.d, .d, .d] := rfl
@[simp] theorem md2 {n : Nat} : (ctx defs consts kws n).modes 2 = [.d] := rfl
@[simp] theorem md3 {n : Nat} : (ctx defs consts kws n).modes 3 = [.d, .d] := rfl
@[simp] theorem md4 {n : Nat} : (ctx defs consts kws n).modes 4 = [.d, .d, .d] := rfl
@[simp] theorem md5 {n : Nat} : (ctx defs consts kws n).modes 5 = [.d, .d, .d, .d] := rfl
@[simp] theorem md6 {n : Nat} : (ctx defs consts kws n).modes 6 = [.d, .d, .d, .d] := rfl
@[simp] theorem md7 {n : Nat} : (ctx defs consts kws n).modes 7 = [.io, .d, .d, .d] := rfl
@[simp] theorem md8 {n : Nat} : (ctx defs consts kws n).modes 8 = [.d, .d] := rfl
@[simp] theorem md9 {n : Nat} : (ctx defs consts kws n).modes 9 = [.d, .d] := rfl
@[simp] theorem md10 {n : Nat} : (ctx defs consts kws n).modes 10 = [.d, .d, .d] := rfl
@[simp] theorem md11 {n : Nat} : (ctx defs consts kws n).modes 11 = [.d] := rfl
@[simp] theorem md12 {n : Nat} : (ctx defs consts kws n).modes 12 = [.d] := rfl
@[simp] theorem md13 {n : Nat} : (ctx defs consts kws n).modes 13 = [.d, .d, .d] := rfl
@[simp] theorem md14 {n : Nat} : (ctx defs consts kws n).modes 14 = [.d, .d] := rfl
@[simp] theorem md15 {n : Nat} : (ctx defs consts kws n).modes 15 = [.d, .d] := rfl
@[simp] theorem md16 {n : Nat} : (ctx defs consts kws n).modes 16 = [.d, .d, .d, .d] := rfl
@[simp] theorem md17 {n : Nat} : (ctx defs consts kws n).modes 17 = [.d, .d, .d, .d] := rfl
@[simp] theorem md18 {n : Nat} : (ctx defs consts kws n).modes 18 = [.d, .d] := rfl
@[simp] theorem md19 {n : Nat} : (ctx defs consts kws n).modes 19 = [.io, .d] := rfl
@[simp] theorem md20 {n : Nat} : (ctx defs consts kws n).modes 20 = [.io, .d] := rfl
@[simp] theorem md21 {n : Nat} : (ctx defs consts kws n).modes 21 = [.io, .d, .d] := rfl
@[simp] theorem md22 {n : Nat} : (ctx defs consts kws n).modes 22 = [.d, .d] := rfl
@[simp] theorem md23 {n : Nat} : (ctx defs consts kws n).modes 23 = [.io] := rfl
@[simp] theorem md24 {n : Nat} : (ctx defs consts kws n).modes 24 = [.d] := rfl
end Lk73
set_option maxHeartbeats 4000000
namespace Q
theorem eq_bools (a b : Bool) : eqD (.bool a) (.bool b) = some (decide (a = b)) := by
  unfold eqD
  rw [(Sh.bool (n := 0)).shaped (by decide), (Sh.bool (n := 0)).shaped (by decide)]
  simp [PySem.PyData.eqv, PySem.W.beq_decide]
theorem eq_ints (a b : Int) : eqD (.int a) (.int b) = some (decide (a = b)) := by
  unfold eqD
  rw [(Sh.int (n := 0)).shaped (by decide), (Sh.int (n := 0)).shaped (by decide)]
  simp [PySem.PyData.eqv, PySem.W.beq_decide]
end Q
namespace Lk73
open Q
abbrev cx (n : Nat) : CtxQ := ctx defs consts kws n
abbrev I (i : Int) : MV := .val (.int i)
/-- the box: how often it was asked, at most -/
def Bx (b : Int) (m : MV) : Prop := ∃ x y c : Int, m = .lst [I x, I y, I c] ∧ 0 ≤ c ∧ c ≤ b ∧ 0 ≤ y ∧ y < 2147483563
theorem Bx.mono {a b : Int} {m : MV} (h : a ≤ b) (B : Bx a m) : Bx b m := by
  obtain ⟨x, y, c, e, h1, h2, h3⟩ := B
  exact ⟨x, y, c, e, h1, by omega, h3⟩
theorem take_ok {n : Nat} {m : MV} {b k : Int} (B : Bx b m) (hb : b < 1000000000) (h0 : 0 < k) (h1 : k < 1000000) : ∃ r m', sem (n + 1) 19 [.io m, .own (.val (.int k))] = some (.val (.int r), [.io m', .own (.val (.int k))]) ∧ 0 ≤ r ∧ r < k ∧ Bx (b + 1) m' := by
  obtain ⟨x, y, c, rfl, hc, hcb, hy0, hy1⟩ := B
  rw [sem, def_eq (d := d19) rfl rfl]
  by_cases hx : 0 < x
  · refine ⟨x % k, .lst [.val (.int (x / k)), .val (.int y), .val (.int c)], ?_, Int.emod_nonneg _ (by omega), Int.emod_lt_of_pos _ h0, _, _, _, rfl, hc, by omega, hy0, hy1⟩
    simp [d19, Q.setItem, putVar_eq, hx, h0, show k < 1073741824 by omega, L2.ixN]
  · have key : ∃ z : Int, ((exes (cx n) d19.body ([Slot.io (.lst [I x, I y, I c]), .own (.val (.int k))] ++ List.replicate (d19.names.length - 2) .unset)).bind fun q => (retOf q.1).bind fun r => some (r, q.2.take d19.np))
        = some (.val (.int (z % k)), [.io (.lst [I x, I y, I (c + 1)]), .own (.val (.int k))]) := by
      apply Exists.intro
      simp [d19, Q.setItem, putVar_eq, hx, h0, show k < 1073741824 by omega, L2.ixN, show -18446744073709551616 < y + 51749 * (c + 1) by omega, show y + 51749 * (c + 1) < 18446744073709551616 by omega, show ∀ z : Int, -18446744073709551616 < z % 2147483549 by intro z; omega, show ∀ z : Int, z % 2147483549 < 18446744073709551616 by intro z; omega]
      rfl
    obtain ⟨z, hz⟩ := key
    exact ⟨_, _, hz, Int.emod_nonneg _ (by omega), Int.emod_lt_of_pos _ h0, _, _, _, rfl, by omega, by omega, hy0, hy1⟩
end Lk73
set_option maxHeartbeats 4000000
namespace Q
open EM
abbrev D1 (d : D) : Slot := .own (.val d)
def lD (l : List Int) : D := .list (l.map .int)
def pD (p : Int × Int) : D := .tuple [.int p.1, .int p.2]
def pL (p : Int × Int) : D := .list [.int p.1, .int p.2]
def wy (m : Bool) : D := if m then .str "meet" else .str "tell"
/-- how a plan may be handed in -/
inductive PlD (pl : Pl) : D → Prop
  | tup : PlD pl (.tuple (pl.map pD))
  | lst : PlD pl (.list (pl.map pD))
  | soft : PlD pl (.list (pl.map pL))
theorem PlD.items {pl : Pl} {d : D} (h : PlD pl d) : ∃ f, (f = pD ∨ f = pL) ∧ items? d = some (pl.map f) := by
  cases h with
  | tup => exact ⟨pD, .inl rfl, rfl⟩
  | lst => exact ⟨pD, .inl rfl, rfl⟩
  | soft => exact ⟨pL, .inr rfl, rfl⟩
def In (N : Nat) (pl : Pl) : Prop := ∀ e ∈ pl, 0 ≤ e.1 ∧ e.1 < N ∧ 0 ≤ e.2 ∧ e.2 < N
theorem intsOf_map : ∀ l : List Int, intsOf (l.map .int) = some l
  | [] => rfl
  | i :: l => by
    show (intsOf (l.map .int)).bind _ = _
    rw [intsOf_map l]; rfl
theorem rangeD_rg (n : Nat) : rangeD 0 n = (rg n).map .int := by
  unfold rangeD rg
  rw [List.map_map]
  congr 1
  funext k
  simp
theorem eq_strs {a b : PySem.Str} (ha : PySem.PyData.strOk a = true) (hb : PySem.PyData.strOk b = true) : eqD (.str a) (.str b) = some (decide (a = b)) := by
  unfold eqD
  rw [(Sh.str (n := 0) ha).shaped (by decide), (Sh.str (n := 0) hb).shaped (by decide)]
  simp [PySem.PyData.eqv, PySem.W.beq_decide]
theorem wy_eq (m : Bool) : eqD (wy m) (.str "meet") = some m := by
  cases m
  · show eqD (.str "tell") (.str "meet") = _
    rw [eq_strs (by decide +kernel) (by decide +kernel)]
    congr 1
  · show eqD (.str "meet") (.str "meet") = _
    rw [eq_strs (by decide +kernel) (by decide +kernel)]
    congr 1
theorem ixN_in {n : Nat} {i : Int} (h0 : 0 ≤ i) (h1 : i < n) : L2.ixN n i = some i.toNat := by
  unfold L2.ixN
  rw [if_pos h0, if_pos h1]
theorem row_len {m : Bool} {n : Nat} {K : Int → Int → Bool} {p : Int} : (row m n K p).length ≤ n := by
  unfold row
  exact Nat.le_trans (List.length_filter_le _ _) (by rw [rg_len]; exact Nat.le_refl n)
theorem mix_eq {m : Bool} {n : Nat} {K : Int → Int → Bool} {a b : Int} : sset (row m n K a ++ row m n K b) = (rg n).filter fun o => K o a || K o b := by
  refine (sset_eq ((rg_up n).filter _) fun k => ?_).symm
  simp only [row, List.mem_filter, List.mem_append, Bool.or_eq_true]
  constructor
  · rintro ⟨h, g | g⟩
    · exact .inl ⟨h, g⟩
    · exact .inr ⟨h, g⟩
  · rintro (⟨h, g⟩ | ⟨h, g⟩)
    · exact ⟨h, .inl g⟩
    · exact ⟨h, .inr g⟩
def mix (n : Nat) (K : Int → Int → Bool) (e : Int × Int) : List Int := (rg n).filter fun o => K o e.1 || K o e.2
theorem kn_get {m : Bool} {n : Nat} {K : Int → Int → Bool} {p : Int} (h0 : 0 ≤ p) (h1 : p < n) : (kn m n K)[p.toNat]? = some (row m n K p) := by
  unfold kn
  rw [List.getElem?_map, rg_get (by omega)]
  simp [Int.toNat_of_nonneg h0]
theorem kn_len {m : Bool} {n : Nat} {K : Int → Int → Bool} : (kn m n K).length = n := by simp [kn, rg_len]
theorem kn_step {m : Bool} {n : Nat} {K : Int → Int → Bool} {e : Int × Int} (h0 : 0 ≤ e.1) (h1 : e.1 < n) (g0 : 0 ≤ e.2) (g1 : e.2 < n) :
    (if m then ((kn m n K).set e.2.toNat (mix n K e)).set e.1.toNat (mix n K e) else (kn m n K).set e.2.toNat (mix n K e)) = kn m n (gstep m K e) := by
  apply List.ext_getElem?
  intro i
  by_cases hi : i < n
  · have hg : (kn m n (gstep m K e))[i]? = some (row m n (gstep m K e) (i : Int)) := by
      have := kn_get (m := m) (n := n) (K := gstep m K e) (p := (i : Int)) (by omega) (by omega)
      simpa using this
    have hk : (kn m n K)[i]? = some (row m n K (i : Int)) := by
      have := kn_get (m := m) (n := n) (K := K) (p := (i : Int)) (by omega) (by omega)
      simpa using this
    rw [hg]
    have hr : row m n (gstep m K e) (i : Int) = if ((i : Int) = e.2 ∨ (m = true ∧ (i : Int) = e.1)) then mix n K e else row m n K (i : Int) := by
      unfold row mix gstep
      split
      · rfl
      · rfl
    rw [hr]
    have l1 : i < (kn m n K).length := by rw [kn_len]; exact hi
    cases m with
    | false =>
      simp only [Bool.false_eq_true, if_false, false_and, or_false]
      by_cases hb : (i : Int) = e.2
      · have : e.2.toNat = i := by omega
        rw [if_pos hb, this, List.getElem?_set_self l1]
      · rw [if_neg hb, List.getElem?_set_ne (by omega), hk]
    | true =>
      simp only [if_true, true_and]
      by_cases ha : (i : Int) = e.1
      · have : e.1.toNat = i := by omega
        rw [if_pos (.inr ha), this, List.getElem?_set_self (by rw [List.length_set]; exact l1)]
      · rw [List.getElem?_set_ne (by omega)]
        by_cases hb : (i : Int) = e.2
        · have : e.2.toNat = i := by omega
          rw [if_pos (.inl hb), this, List.getElem?_set_self l1]
        · rw [if_neg (by simp [ha, hb]), List.getElem?_set_ne (by omega), hk]
  · have h1 : (kn m n (gstep m K e))[i]? = none := List.getElem?_eq_none (by rw [kn_len]; omega)
    rw [h1]
    apply List.getElem?_eq_none
    cases m <;> simp [kn_len] <;> omega
end Q
namespace Lk73
open Q EM
theorem cs0 : consts[0]? = some (("MEET", .str "meet") : PySem.Str × D) := rfl
def encK (k : Int) (N : Nat) (m : Bool) (d : D) (K : Int → Int → Bool) : Q.Env := [D1 (.int k), D1 (wy m), D1 d, .own (.lst ((kn m N K).map fun l => .val (lD l))), .unset, .unset, .unset]
theorem inR {k : Int} (h0 : 0 ≤ k) (h1 : k < 1000) : inRng k = true := inRng_iff.mpr (by omega)
theorem kn0 {m : Bool} {N : Nat} : (kn m N fun o p => decide (o = p)) = (rg N).map fun i => [i] := by
  unfold kn
  apply List.map_congr_left
  intro i hi
  unfold row
  have h1 : ((rg N).filter fun o => decide (o = i)).Pairwise (· < ·) := (rg_up N).filter _
  have h2 : ∀ x, x ∈ ((rg N).filter fun o => decide (o = i)) ↔ x = i := fun x => by
    rw [List.mem_filter]
    constructor
    · rintro ⟨_, h⟩; exact of_decide_eq_true h
    · rintro rfl; exact ⟨hi, decide_eq_true rfl⟩
  have h3 := sset_eq h1 (ns := [i]) fun x => by rw [h2]; simp
  rw [h3]; rfl
theorem known_ok {n N : Nat} {k : Int} (hk : k = N) (hN : N ≤ 12) {m : Bool} {pl : Pl} (hp : In N pl) {d : D} (hd : PlD pl d) :
    sem (n + 1) 1 [D1 (.int k), D1 (wy m), D1 d] = some (.val (.list ((kn m N (gall m pl)).map lD)), [D1 (.int k), D1 (wy m), D1 d]) := by
  obtain ⟨f, hf, hit⟩ := hd.items
  have hr := inR (k := k) (by omega) (by omega)
  have hkt : k.toNat = N := by omega
  have hz : N < 1000001 := by omega
  have st1 : exe (cx n) (.asg (.name 3) (.comp (.frz (.lst [(.var 4)])) (.name 4) (.rng1 (.var 0)) none [4])) [D1 (.int k), D1 (wy m), D1 d, .unset, .unset, .unset, .unset] = some (.next, encK k N m d fun o p => decide (o = p)) := by
    have hc := compL_mapT (tg := .name 4) (fl := .val) (elt := run (cx n) (.frz (.lst [(.var 4)]))) (own := [4]) (ρ := [D1 (.int k), D1 (wy m), D1 d, .unset, .unset, .unset, .unset]) PySem.PyData.int (fun i => .val (lD [i])) (rg N) [] fun a ha => by
      refine ⟨_, [D1 (.int k), D1 (wy m), D1 d, .unset, D1 (.int a), .unset, .unset], by simp [putVar_eq]; rfl, by simp [lD], by simp⟩
    simp [hr, hkt, rangeD_rg, hc, putVar_eq, encK, kn0, rg_len, hz]
  have hfor := forL_fold (tg := .tup [.name 4, .name 5]) (fl := .val) (body := exes (cx n) b1_0) (encK k N m d) f (gstep m) (fun _ => True) pl (fun o p => decide (o = p)) trivial fun K e he _ => by
    obtain ⟨a0, a1, b0, b1⟩ := hp e he
    refine ⟨trivial, [D1 (.int k), D1 (wy m), D1 d, .own (.lst ((kn m N K).map fun l => .val (lD l))), D1 (.int e.1), D1 (.int e.2), .unset], ?_, ?_⟩
    · rcases hf with rfl | rfl <;> simp [pD, pL, encK, putVar_eq]
    · have ia := ixN_in a0 a1
      have ib := ixN_in b0 b1
      have ga := kn_get (m := m) (K := K) a0 a1
      have gb := kn_get (m := m) (K := K) b0 b1
      have la : (row m N K e.1).length ≤ N := row_len
      have lb : (row m N K e.2).length ≤ N := row_len
      have l64 : (row m N K e.1).length + (row m N K e.2).length < 64 := by omega
      have lsz : (row m N K e.1).length + (row m N K e.2).length < 1000001 := by omega
      have st : encK k N m d (gstep m K e) = [D1 (.int k), D1 (wy m), D1 d, .own (.lst ((if m then ((kn m N K).set e.2.toNat (mix N K e)).set e.1.toNat (mix N K e) else (kn m N K).set e.2.toNat (mix N K e)).map fun l => .val (lD l))), .unset, .unset, .unset] := by
        rw [kn_step a0 a1 b0 b1]; rfl
      rw [st]
      have hm : sset (row m N K e.1 ++ row m N K e.2) = mix N K e := mix_eq
      have hio : ∀ l : List Int, intsOf (l.map .int) = some l := intsOf_map
      cases m <;> simp [b1_0, ia, ib, ga, gb, kn_len, lD, hio, ← List.map_append, hm, l64, lsz, putVar_eq, Q.setItem, cs0, wy_eq]
  rw [sem, def_eq (d := d1) rfl rfl]
  have hgo : exes (cx n) d1.body [D1 (.int k), D1 (wy m), D1 d, .unset, .unset, .unset, .unset] = some (.ret (.val (.list ((kn m N (gall m pl)).map lD))), [D1 (.int k), D1 (wy m), D1 d, .unset, .unset, .unset, .unset]) := by
    show exes (cx n) [_, .forS (.tup [(.name 4), (.name 5)]) (.seq (.var 2)) _, _, _] _ = _
    rw [exes_cons, st1, thenS_next, exes_cons, exe_for]
    have hI : runI (cx n) (.seq (.var 2)) (encK k N m d fun o p => decide (o = p)) = some (pl.map f, .val, encK k N m d (fun o p => decide (o = p)), []) := by
      simp [encK, hit]
    rw [hI, Option.bind_some]
    show thenS ((forL _ .val _ (pl.map f) _).bind _) _ = _
    rw [hfor.1]
    simp [encK, gall]
  show ((exes (cx n) d1.body [D1 (.int k), D1 (wy m), D1 d, .unset, .unset, .unset, .unset]).bind _) = _
  rw [hgo]
  rfl
end Lk73
set_option maxHeartbeats 4000000
namespace Q
open EM
theorem up_eq {xs ys : List Int} (hx : xs.Pairwise (· < ·)) (hy : ys.Pairwise (· < ·)) (h : ∀ k, k ∈ xs ↔ k ∈ ys) : xs = ys := by
  have h1 := sset_eq hx (ns := ys) h
  have h2 := sset_eq hy (ns := ys) fun _ => Iff.rfl
  rw [h1, ← h2]
theorem in_ints {i : Int} {l : List Int} : inD (.int i) (l.map .int) = some (decide (i ∈ l)) := by
  unfold inD
  rw [(Sh.int (n := 0)).shaped (by decide), (Sh.list (n := 0) Sh.ints).shaped (by decide)]
  simp only [Bool.and_self, if_true]
  congr 1
  induction l with
  | nil => rfl
  | cons x l ih =>
    rw [List.map_cons, List.any_cons, ih]
    have : PySem.PyData.eqv (.int x) (.int i) = decide (x = i) := by simp [PySem.PyData.eqv, PySem.W.beq_decide]
    rw [this]
    by_cases h1 : x = i
    · subst h1; simp
    · have h2 : ¬ i = x := fun e => h1 e.symm
      simp [h1, h2]
theorem at_pair0 {a b : D} : L2.atI [a, b] 0 = some a := rfl
theorem at_pair1 {a b : D} : L2.atI [a, b] 1 = some b := rfl
theorem pairs_sh {q : Int × Int} : Sh 1 (pD q) := Sh.tuple fun x hx => by
  simp only [List.mem_cons, List.not_mem_nil, or_false] at hx
  rcases hx with rfl | rfl <;> exact Sh.int
theorem eqv_pair {p q : Int × Int} : PySem.PyData.eqv (pD p) (pD q) = decide (p = q) := by
  have : PySem.PyData.eqv (pD p) (pD q) = (decide (p.1 = q.1) && decide (p.2 = q.2)) := by
    simp [pD, PySem.PyData.eqv, PySem.PyData.eqvAll, PySem.W.beq_decide]
  rw [this, Bool.eq_iff_iff]
  simp [Prod.ext_iff]
theorem in_pairs {q : Int × Int} {l : List (Int × Int)} : inD (pD q) (l.map pD) = some (decide (q ∈ l)) := by
  unfold inD
  rw [pairs_sh.shaped (by decide), (Sh.list (n := 1) fun x hx => by obtain ⟨y, _, rfl⟩ := List.mem_map.mp hx; exact pairs_sh).shaped (by decide)]
  simp only [Bool.and_self, if_true]
  congr 1
  induction l with
  | nil => rfl
  | cons x l ih =>
    rw [List.map_cons, List.any_cons, ih, eqv_pair]
    by_cases h1 : x = q
    · subst h1; simp
    · have h2 : ¬ q = x := fun e => h1 e.symm
      simp [h1, h2]
theorem rng_after {N : Nat} {i : Int} (h0 : 0 ≤ i) (h1 : i < N) : rangeD (i + 1) ((N : Int) - (i + 1)).toNat = ((rg N).filter fun j => decide (i < j)).map .int := by
  have : rangeD (i + 1) ((N : Int) - (i + 1)).toNat = ((List.range ((N : Int) - (i + 1)).toNat).map fun (k : Nat) => i + 1 + (k : Int)).map .int := by
    unfold rangeD
    rw [List.map_map]; rfl
  rw [this]
  congr 1
  refine up_eq ?_ ((rg_up N).filter _) fun k => ?_
  · rw [List.pairwise_map]
    exact List.pairwise_lt_range.imp fun h => by omega
  · simp only [List.mem_map, List.mem_range, List.mem_filter, mem_rg, decide_eq_true_eq]
    constructor
    · rintro ⟨a, h, rfl⟩; omega
    · rintro ⟨⟨g0, g1⟩, g2⟩
      exact ⟨(k - (i + 1)).toNat, by omega, by omega⟩
theorem prz_len {N : Nat} : (prz N).length ≤ N * N := by
  unfold prz
  have h : ∀ (l : List Int), (l.flatMap fun i => ((rg N).filter fun j => decide (i < j)).map fun j => (i, j)).length ≤ l.length * N := fun l => by
    induction l with
    | nil => simp
    | cons x l ih =>
      rw [List.flatMap_cons, List.length_append, List.length_map, List.length_cons, Nat.add_mul, Nat.one_mul]
      have := List.length_filter_le (fun j => decide (x < j)) (rg N)
      rw [rg_len] at this
      omega
  have := h (rg N)
  rw [rg_len] at this; exact this
end Q
namespace Lk73
open Q EM
theorem all_pairs_ok {n N : Nat} {k : Int} (hk : k = N) (hN : N ≤ 12) : sem (n + 1) 2 [D1 (.int k)] = some (.val (.list ((prz N).map pD)), [D1 (.int k)]) := by
  have hr := inR (k := k) (by omega) (by omega)
  have hkt : k.toNat = N := by omega
  have hc := comp2L_mapT (tg := .name 1) (tg1 := .name 2) (fJ := evJ2 (run (cx n) (.bin .add (.var 1) (.cst (.int 1)))) (run (cx n) (.var 0))) (elt := run (cx n) (.tup [(.var 1), (.var 2)])) (own := [1, 2]) (own1 := [2]) (ρ := [D1 (.int k), .unset, .unset]) PySem.PyData.int (fun i => (rg N).filter fun j => decide (i < j)) PySem.PyData.int (fun i j => .val (pD (i, j))) (rg N) [] fun a ha => by
    obtain ⟨a0, a1⟩ := mem_rg.mp ha
    have hr2 := inR (k := a + 1) (by omega) (by omega)
    have hra := rng_after a0 a1
    rw [← hk] at hra
    refine ⟨[D1 (.int k), D1 (.int a), .unset], [D1 (.int k), D1 (.int a), .unset], by simp [putVar_eq], by simp [hr, hr2, hra], by simp, fun b hb => ⟨[D1 (.int k), D1 (.int a), D1 (.int b)], [D1 (.int k), D1 (.int a), D1 (.int b)], by simp [putVar_eq], by simp [pD], by simp⟩⟩
  have hz : (prz N).length < 1000001 := by
    have h1 := prz_len (N := N)
    have h2 : N * N ≤ 12 * 12 := Nat.mul_le_mul hN hN
    omega
  have he : ((rg N).flatMap fun i => ((rg N).filter fun j => decide (i < j)).map fun j => MV.val (pD (i, j))) = (prz N).map fun q => .val (pD q) := by
    unfold prz
    rw [List.map_flatMap]
    congr 1
    funext i
    rw [List.map_map]; rfl
  rw [he] at hc
  rw [sem, def_eq (d := d2) rfl rfl]
  simp [d2, hr, hkt, rangeD_rg, hc, hz]
theorem has_both_ok {n : Nat} {l : List Int} {q : Int × Int} : sem (n + 1) 3 [D1 (lD l), D1 (pD q)] = some (.val (.bool (decide (q.1 ∈ l) && decide (q.2 ∈ l))), [D1 (lD l), D1 (pD q)]) := by
  rw [sem, def_eq (d := d3) rfl rfl]
  by_cases h : q.1 ∈ l
  · simp [d3, pD, lD, in_ints, at_pair0, at_pair1, h]
  · simp [d3, pD, lD, in_ints, at_pair0, at_pair1, h]
theorem mem_row {m : Bool} {N : Nat} {K : Int → Int → Bool} {p o : Int} (h0 : 0 ≤ o) (h1 : o < N) : decide (o ∈ row m N K p) = K o p := by
  unfold row
  rw [Bool.eq_iff_iff, decide_eq_true_eq, List.mem_filter, mem_rg]
  simp [h0, h1]
theorem unknown_ok {n N : Nat} {k : Int} (hk : k = N) (hN : N ≤ 12) {m : Bool} {pl : Pl} (hp : In N pl) {d : D} (hd : PlD pl d) :
    sem (n + 2) 4 [D1 (.int k), D1 (wy m), D1 d] = some (.val (.list ((unk N (gall m pl)).map pD)), [D1 (.int k), D1 (wy m), D1 d]) := by
  have c1 : runDef defs consts kws (n + 1) 1 [D1 (.int k), D1 (wy m), D1 d] = _ := known_ok (n := n) hk hN hp hd
  have c2 : runDef defs consts kws (n + 1) 2 [D1 (.int k)] = _ := all_pairs_ok (n := n) hk hN
  have c3 : ∀ l q, runDef defs consts kws (n + 1) 3 [D1 (lD l), D1 (pD q)] = _ := fun l q => has_both_ok (n := n) (l := l) (q := q)
  have hc := compL_filT (tg := .name 4) (fl := .val) (cond := run (cx (n + 1)) (.not (.blt .any [(.comp (.call 3 [(.var 5), (.var 4)]) (.name 5) (.seq (.var 3)) none [5])]))) (elt := run (cx (n + 1)) (.var 4)) (own := [4]) (ρ := [D1 (.int k), D1 (wy m), D1 d, D1 (.list ((kn m N (gall m pl)).map lD)), .unset, .unset]) pD (fun q => !both N (gall m pl) q) (fun q => .val (pD q)) (prz N) [] fun q hq => by
    obtain ⟨q0, q1, q2⟩ := mem_prz.mp hq
    have hin := compL_mapT (tg := .name 5) (fl := .val) (elt := run (cx (n + 1)) (.call 3 [(.var 5), (.var 4)])) (own := [5]) (ρ := [D1 (.int k), D1 (wy m), D1 d, D1 (.list ((kn m N (gall m pl)).map lD)), D1 (pD q), .unset]) lD (fun l => .val (.bool (decide (q.1 ∈ l) && decide (q.2 ∈ l)))) (kn m N (gall m pl)) [] fun l hl => by
      refine ⟨[D1 (.int k), D1 (wy m), D1 d, D1 (.list ((kn m N (gall m pl)).map lD)), D1 (pD q), D1 (lD l)], [D1 (.int k), D1 (wy m), D1 d, D1 (.list ((kn m N (gall m pl)).map lD)), D1 (pD q), D1 (lD l)], by simp [putVar_eq], by simp [varOf, c3], by simp⟩
    have hb : ((kn m N (gall m pl)).map fun l => decide (q.1 ∈ l) && decide (q.2 ∈ l)).any id = both N (gall m pl) q := by
      unfold both kn
      rw [List.map_map, List.any_map]
      congr 1
      funext p
      show (decide (q.1 ∈ row m N _ p) && decide (q.2 ∈ row m N _ p)) = _
      rw [mem_row q0 (by omega), mem_row (by omega) (by omega)]
    have hbo := boolsOf_map (fun l : List Int => decide (q.1 ∈ l) && decide (q.2 ∈ l)) (kn m N (gall m pl))
    refine ⟨[D1 (.int k), D1 (wy m), D1 d, D1 (.list ((kn m N (gall m pl)).map lD)), D1 (pD q), .unset], [D1 (.int k), D1 (wy m), D1 d, D1 (.list ((kn m N (gall m pl)).map lD)), D1 (pD q), .unset], by simp [putVar_eq], ?_, fun _ => by simp, fun _ => ⟨[D1 (.int k), D1 (wy m), D1 d, D1 (.list ((kn m N (gall m pl)).map lD)), D1 (pD q), .unset], by simp, by simp⟩⟩
    have hz : (kn m N (gall m pl)).length < 1000001 := by rw [kn_len]; omega
    simp [-List.any_map, -List.map_map, hin, hz, hbo, hb]
  have hz : (unk N (gall m pl)).length < 1000001 := by
    have h1 := prz_len (N := N)
    have h2 : N * N ≤ 12 * 12 := Nat.mul_le_mul hN hN
    have h3 : (unk N (gall m pl)).length ≤ (prz N).length := List.length_filter_le _ _
    omega
  have hu : (prz N).filter (fun q => !both N (gall m pl) q) = unk N (gall m pl) := rfl
  rw [hu] at hc
  rw [sem, def_eq (d := d4) rfl rfl]
  simp [d4, varOf, c1, c2, hc, putVar_eq, hz]
end Lk73
set_option maxHeartbeats 4000000
namespace Q
open EM
theorem insL_le (n : Int) : ∀ xs : List Int, xs.Pairwise (· ≤ ·) → (insL n xs).Pairwise (· ≤ ·)
  | [], _ => by unfold insL; simp
  | x :: xs, h => by
    unfold insL
    split
    · rename_i hn
      refine List.pairwise_cons.mpr ⟨fun y hy => ?_, h⟩
      rcases List.mem_cons.mp hy with rfl | hy
      · exact hn
      · have := (List.pairwise_cons.mp h).1 y hy; omega
    · rename_i hn
      refine List.pairwise_cons.mpr ⟨fun y hy => ?_, insL_le n xs (List.pairwise_cons.mp h).2⟩
      have := (insL_perm n xs).mem_iff.mp hy
      rcases List.mem_cons.mp this with rfl | hy
      · omega
      · exact (List.pairwise_cons.mp h).1 y hy
theorem sortI_le : ∀ xs : List Int, (sortI xs).Pairwise (· ≤ ·)
  | [] => .nil
  | x :: xs => insL_le x _ (sortI_le xs)
theorem sortI_eq {xs ys : List Int} (hn : xs.Nodup) (hy : ys.Pairwise (· < ·)) (hm : ∀ k, k ∈ xs ↔ k ∈ ys) : sortI xs = ys := by
  have h1 : (sortI xs).Nodup := (sortI_perm xs).nodup_iff.mpr hn
  have h2 : (sortI xs).Pairwise (· < ·) := by
    have := (sortI_le xs).and h1
    exact this.imp fun h => by have := h.1; have := h.2; omega
  exact up_eq h2 hy fun k => (sortI_perm xs).mem_iff.trans (hm k)
theorem nodup_len {xs : List Int} {N : Nat} (hn : xs.Nodup) (h : ∀ x ∈ xs, 0 ≤ x ∧ x < N) : xs.length ≤ N := by
  have hp := perm_of_mem (ys := (rg N).filter fun x => decide (x ∈ xs)) hn (((rg_up N).filter _).imp fun h => by omega) fun k => by
    rw [List.mem_filter, mem_rg]
    simp only [decide_eq_true_eq]
    exact ⟨fun q => ⟨h k q, q⟩, fun q => q.2⟩
  rw [hp.length_eq]
  exact Nat.le_trans (List.length_filter_le _ _) (by rw [rg_len]; exact Nat.le_refl N)
/-- the law's own walk of one look -/
def hstep (m : Bool) (h : List Int) (e : Int × Int) : List Int := if e.1 ∈ h ∧ e.2 ∉ h then h ++ [e.2] else if m = true ∧ e.2 ∈ h ∧ e.1 ∉ h then h ++ [e.1] else h
structure HK (N : Nat) (o : Int) (h : List Int) (K : Int → Int → Bool) : Prop where
  nd : h.Nodup
  inn : ∀ x ∈ h, 0 ≤ x ∧ x < N
  mem : ∀ p, p ∈ h ↔ K o p = true
theorem hstep_ok {N : Nat} {o : Int} {h : List Int} {K : Int → Int → Bool} {m : Bool} {e : Int × Int} (H : HK N o h K) (h0 : 0 ≤ e.1) (h1 : e.1 < N) (g0 : 0 ≤ e.2) (g1 : e.2 < N) : HK N o (hstep m h e) (gstep m K e) := by
  have m1 := H.mem e.1
  have m2 := H.mem e.2
  unfold hstep gstep
  by_cases c1 : e.1 ∈ h <;> by_cases c2 : e.2 ∈ h
  · have k1 := m1.mp c1
    have k2 := m2.mp c2
    simp only [c1, c2, not_true, and_false, if_false]
    refine ⟨H.nd, H.inn, fun p => ?_⟩
    split
    · rename_i hc
      rw [k1]
      rcases hc with rfl | ⟨_, rfl⟩ <;> simp [c1, c2]
    · exact H.mem p
  · have k1 := m1.mp c1
    have k2 : K o e.2 = false := by cases hk : K o e.2 <;> simp_all
    simp only [c1, c2, not_false_iff, and_self, if_true]
    refine ⟨?_, fun x hx => ?_, fun p => ?_⟩
    · refine List.nodup_append.mpr ⟨H.nd, by simp, fun a ha b hb => ?_⟩
      rw [List.mem_singleton] at hb; subst hb
      exact fun q => c2 (q ▸ ha)
    · rcases List.mem_append.mp hx with hx | hx
      · exact H.inn x hx
      · rw [List.mem_singleton] at hx; subst hx; exact ⟨g0, g1⟩
    · rw [List.mem_append, List.mem_singleton]
      split
      · rename_i hc
        rw [k1]
        rcases hc with rfl | ⟨_, rfl⟩ <;> simp [c1]
      · rename_i hc
        have : p ≠ e.2 := fun q => hc (.inl q)
        simp [this, H.mem p]
  · have k1 : K o e.1 = false := by cases hk : K o e.1 <;> simp_all
    have k2 := m2.mp c2
    cases m with
    | false =>
      simp only [c1, c2, false_and, Bool.false_eq_true, if_false, or_false]
      refine ⟨H.nd, H.inn, fun p => ?_⟩
      split
      · rename_i hc; subst hc; simp [k2, c2]
      · exact H.mem p
    | true =>
      simp only [c1, c2, false_and, if_false, not_false_iff, and_self, if_true, true_and]
      refine ⟨?_, fun x hx => ?_, fun p => ?_⟩
      · refine List.nodup_append.mpr ⟨H.nd, by simp, fun a ha b hb => ?_⟩
        rw [List.mem_singleton] at hb; subst hb
        exact fun q => c1 (q ▸ ha)
      · rcases List.mem_append.mp hx with hx | hx
        · exact H.inn x hx
        · rw [List.mem_singleton] at hx; subst hx; exact ⟨h0, h1⟩
      · rw [List.mem_append, List.mem_singleton]
        split
        · rename_i hc
          rw [k2]
          rcases hc with rfl | rfl <;> simp [c2]
        · rename_i hc
          have : p ≠ e.1 := fun q => hc (.inr q)
          simp [this, H.mem p]
  · have k1 : K o e.1 = false := by cases hk : K o e.1 <;> simp_all
    have k2 : K o e.2 = false := by cases hk : K o e.2 <;> simp_all
    simp only [c1, c2, false_and, if_false, and_false]
    refine ⟨H.nd, H.inn, fun p => ?_⟩
    split
    · rename_i hc
      rw [k1, k2]
      rcases hc with rfl | ⟨_, rfl⟩ <;> simp [c1, c2]
    · exact H.mem p
theorem hfold_ok {N : Nat} {o : Int} {m : Bool} : ∀ {pl : Pl} {h : List Int} {K : Int → Int → Bool}, In N pl → HK N o h K → HK N o (pl.foldl (hstep m) h) (gfrom m K pl)
  | [], _, _, _, H => H
  | e :: pl, h, K, hp, H => by
    obtain ⟨a, b, c, d⟩ := hp e List.mem_cons_self
    exact hfold_ok (pl := pl) (fun e' he => hp e' (List.mem_cons_of_mem _ he)) (hstep_ok H a b c d)
theorem hk0 {N : Nat} {o : Int} (h0 : 0 ≤ o) (h1 : o < N) : HK N o [o] fun o p => decide (o = p) := ⟨by simp, fun x hx => by simp at hx; subst hx; exact ⟨h0, h1⟩, fun p => by simp [eq_comm]⟩
theorem hsort {N : Nat} {o : Int} {h : List Int} {K : Int → Int → Bool} {m : Bool} (H : HK N o h K) : sortI h = col m N K o := by
  unfold col
  refine sortI_eq H.nd ((rg_up N).filter _) fun k => ?_
  rw [List.mem_filter, mem_rg]
  exact ⟨fun q => ⟨H.inn k q, (H.mem k).mp q⟩, fun q => (H.mem k).mpr q.2⟩
theorem eq_lD {a b : List Int} : eqD (lD a) (lD b) = some (decide (a = b)) := by
  unfold eqD lD
  rw [(Sh.list Sh.ints).shaped (by decide), (Sh.list Sh.ints).shaped (by decide)]
  simp [PySem.PyData.eqv, eqvAll_ints]
theorem eqs {a b : PySem.Str} (ha : PySem.PyData.strOk a = true) (hb : PySem.PyData.strOk b = true) {c : Bool} (h : decide (a = b) = c) : eqD (.str a) (.str b) = some c := by rw [eq_strs ha hb, h]
theorem foldl_flat {α β : Type} (g : α → List β) : ∀ (xs : List α) (acc : List β), xs.foldl (fun acc a => acc ++ g a) acc = acc ++ xs.flatMap g
  | [], acc => by simp
  | x :: xs, acc => by rw [List.foldl_cons, foldl_flat g xs]; simp
theorem foldl_map {α β : Type} (g : α → β) : ∀ (xs : List α) (acc : List β), xs.foldl (fun acc a => acc ++ [g a]) acc = acc ++ xs.map g
  | [], acc => by simp
  | x :: xs, acc => by rw [List.foldl_cons, foldl_map g xs]; simp
end Q
namespace Lk73
open Q EM
theorem flat_len {α β : Type} {g : α → List β} {M : Nat} : ∀ {xs : List α}, (∀ x ∈ xs, (g x).length ≤ M) → (xs.flatMap g).length ≤ xs.length * M
  | [], _ => by simp
  | x :: xs, h => by
    rw [List.flatMap_cons, List.length_append, List.length_cons, Nat.add_mul, Nat.one_mul]
    have h1 := h x List.mem_cons_self
    have h2 := flat_len (g := g) (M := M) (xs := xs) fun y hy => h y (List.mem_cons_of_mem _ hy)
    omega
end Lk73
set_option maxHeartbeats 4000000
namespace Q
open EM
def SchE (N : Nat) (m : Bool) (e : Int × Int) : Prop := 0 ≤ e.1 ∧ e.1 < N ∧ 0 ≤ e.2 ∧ e.2 < N ∧ e.1 ≠ e.2 ∧ (m = true → e.1 < e.2)
theorem sch_in {N : Nat} {m : Bool} {pl : Pl} (h : ∀ e ∈ pl, SchE N m e) : In N pl := fun e he => by
  obtain ⟨a, b, c, d, _⟩ := h e he
  exact ⟨a, b, c, d⟩
/-- a drawn pair -/
def drawn (m : Bool) (p q : Int) : Int × Int := if m then ((if q < p then q else p), (if q > p then q else p)) else (p, q)
theorem drawn_ok {N : Nat} {m : Bool} {k p r : Int} (hk : k = N) (p0 : 0 ≤ p) (p1 : p < k) (r0 : 0 ≤ r) (r1 : r < k - 1) : SchE N m (drawn m p ((p + 1 + r) % k)) := by
  have h : (p + 1 + r) % k = if p + 1 + r < k then p + 1 + r else p + 1 + r - k := by
    split
    · exact Int.emod_eq_of_lt (by omega) (by omega)
    · rw [← Int.sub_emod_right]; exact Int.emod_eq_of_lt (by omega) (by omega)
  have h1 : 0 ≤ (p + 1 + r) % k ∧ (p + 1 + r) % k < k ∧ (p + 1 + r) % k ≠ p := by
    rw [h]; split <;> refine ⟨?_, ?_, ?_⟩ <;> omega
  generalize (p + 1 + r) % k = q at h1
  obtain ⟨q0, q1, q2⟩ := h1
  unfold drawn SchE
  cases m with
  | false =>
    show 0 ≤ p ∧ p < (N : Int) ∧ 0 ≤ q ∧ q < (N : Int) ∧ p ≠ q ∧ (false = true → p < q)
    exact ⟨p0, by omega, q0, by omega, fun e => q2 e.symm, fun h => by cases h⟩
  | true =>
    simp only [if_true]
    by_cases c : q < p
    · rw [if_pos c, if_neg (by omega)]
      exact ⟨q0, by omega, p0, by omega, q2, fun _ => c⟩
    · rw [if_neg c, if_pos (by omega)]
      exact ⟨p0, by omega, q0, by omega, fun e => q2 e.symm, fun _ => by omega⟩
end Q
namespace Lk73
open Q EM
def P12 (L : Int) (k most : Int) (N T : Nat) (m : Bool) (rest : List D) (ρ : Q.Env) : Prop := ∃ (M : MV) (pl : Pl) (B : Int), ρ = [.io M, D1 (.int k), D1 (.int most), D1 (wy m), .own (.lst (pl.map fun e => .val (pD e))), .unset, .unset, .unset] ∧ Bx B M ∧ B + 2 * rest.length ≤ L ∧ (∀ e ∈ pl, SchE N m e) ∧ pl.length + rest.length ≤ T
theorem of_ok {n : Nat} {M : MV} {b : Int} (B : Bx b M) (hb : b < 1000000000) : ∃ (m : Bool) (M' : MV), sem (n + 2) 20 [.io M, D1 (.list [.str "meet", .str "tell"])] = some (.val (wy m), [.io M', D1 (.list [.str "meet", .str "tell"])]) ∧ Bx (b + 1) M' := by
  obtain ⟨r, M1, t1, r0, r1, B1⟩ := take_ok (n := n) (k := 2) B hb (by omega) (by omega)
  have t1' : runDef defs consts kws (n + 1) 19 [.io M, D1 (.int 2)] = _ := t1
  refine ⟨decide (r = 0), M1, ?_, B1⟩
  have h : r = 0 ∨ r = 1 := by omega
  rw [sem, def_eq (d := d20) rfl rfl]
  rcases h with rfl | rfl
  · simp [d20, varOf, t1', at_pair0, wy]
  · simp [d20, varOf, t1', at_pair1, wy]
/-! ### data made of lists -/
/-! ### the same data -/
theorem zip_same : ∀ xs : List D, zipD xs xs = xs.map fun x => .tuple [x, x]
  | [] => rfl
  | x :: xs => by
    show PySem.PyData.tuple [x, x] :: zipD xs xs = _
    rw [zip_same xs]; rfl
end Lk73
set_option maxHeartbeats 4000000
namespace Q
open EM
/-- a loop that searches -/
theorem forL_find {α : Type} {tg : Tg} {fl : Fl} {body : Env → Option (Flow × Env)} {ρ : Env} (it : α → D) (p : α → Option (MV × Env)) : ∀ (xs : List α),
    (∀ a ∈ xs, ∃ ρt, bindT tg (childFl fl (it a)) (it a) ρ = some ρt ∧ body ρt = some (match p a with | none => (.next, ρ) | some x => (.ret x.1, x.2))) →
    forL tg fl body (xs.map it) ρ = some (match xs.findSome? p with | none => (.next, ρ) | some x => (.ret x.1, x.2))
  | [], _ => rfl
  | a :: xs, h => by
    obtain ⟨ρt, h1, h2⟩ := h a List.mem_cons_self
    have ih := forL_find (tg := tg) (fl := fl) (body := body) (ρ := ρ) it p xs fun a' ha => h a' (List.mem_cons_of_mem _ ha)
    show forL tg fl body (it a :: xs.map it) ρ = _
    unfold forL
    rw [h1, Option.bind_some, h2, Option.bind_some, List.findSome?_cons]
    cases hp : p a with
    | none => exact ih
    | some x => rfl
theorem find_fil {α β : Type} (c : α → Bool) (f : α → β) : ∀ xs : List α, (xs.findSome? fun i => if c i then some (f i) else none) = (xs.filter c).head?.map f
  | [] => rfl
  | x :: xs => by
    rw [List.findSome?_cons, find_fil c f xs]
    cases h : c x <;> simp [h]
theorem find_flat {α β γ : Type} (g : α → List β) (f : α → β → γ) : ∀ xs : List α, (xs.findSome? fun q => (g q).head?.map (f q)) = (xs.flatMap fun q => (g q).map fun i => (q, i)).head?.map fun x => f x.1 x.2
  | [] => rfl
  | x :: xs => by
    rw [List.findSome?_cons, find_flat g f xs, List.flatMap_cons]
    cases h : g x <;> simp
def lackP (N : Nat) (K : Int → Int → Bool) (q : Int × Int) : List Int := (rg N).filter fun p => !(K q.1 p && K q.2 p)
def lack (N : Nat) (K : Int → Int → Bool) : List ((Int × Int) × Int) := (prz N).flatMap fun q => (lackP N K q).map fun p => (q, p)
def qD (x : (Int × Int) × Int) : D := .tuple [pD x.1, .int x.2]
def gl (s : Bool) : D := if s then .str "somebody" else .str "everybody"
theorem gl_eq (s : Bool) : eqD (gl s) (.str "somebody") = some s := by
  cases s
  · show eqD (.str "everybody") (.str "somebody") = _
    rw [eq_strs (by decide +kernel) (by decide +kernel)]
    congr 1
  · show eqD (.str "somebody") (.str "somebody") = _
    rw [eq_strs (by decide +kernel) (by decide +kernel)]
    congr 1
def hdD : List D → D
  | [] => .none
  | x :: _ => x
/-- what a plan lacks -/
def rowsD (s : Bool) (N : Nat) (K : Int → Int → Bool) : List D := if s then (unk N K).map pD else (lack N K).map qD
theorem enum_kn {m : Bool} {N : Nat} {K : Int → Int → Bool} : enumD 0 ((kn m N K).map lD) = (rg N).map fun p => .tuple [.int p, lD (row m N K p)] := by
  have h : ∀ (j : Nat) (xs : List Nat) (g : Int → D), xs = (List.range xs.length).map (j + ·) → enumD j (xs.map fun (k : Nat) => g (k : Int)) = xs.map fun (k : Nat) => PySem.PyData.tuple [.int (k : Int), g (k : Int)] := fun j xs g => by
    induction xs generalizing j with
    | nil => intro _; rfl
    | cons x xs ih =>
      intro e
      have e1 : x = j := by
        have := congrArg List.head? e
        simp [List.range_succ_eq_map] at this
        exact this
      have e2 : xs = (List.range xs.length).map (j + 1 + ·) := by
        have := congrArg List.tail e
        rw [List.tail_cons, List.length_cons, List.range_succ_eq_map, List.map_cons, List.tail_cons, List.map_map] at this
        conv => lhs; rw [this]
        apply List.map_congr_left
        intro a _
        show j + (a + 1) = j + 1 + a
        omega
      rw [List.map_cons, List.map_cons]
      show PySem.PyData.tuple [.int (j : Nat), g x] :: enumD (j + 1) _ = _
      rw [ih (j + 1) e2, e1]
  have := h 0 (List.range N) (fun p => lD (row m N K p)) (by simp)
  unfold kn rg
  rw [List.map_map, List.map_map, List.map_map]
  exact this
theorem lack_len {N : Nat} (hN : N ≤ 12) {K : Int → Int → Bool} : (lack N K).length < 100000 := by
  have h1 := prz_len (N := N)
  have h2 : N * N ≤ 12 * 12 := Nat.mul_le_mul hN hN
  have h : ∀ xs : List (Int × Int), (xs.flatMap fun q => (lackP N K q).map fun p => (q, p)).length ≤ xs.length * 12 := fun xs => by
    induction xs with
    | nil => simp
    | cons x xs ih =>
      rw [List.flatMap_cons, List.length_append, List.length_map, List.length_cons, Nat.add_mul, Nat.one_mul]
      have : (lackP N K x).length ≤ N := by unfold lackP; exact Nat.le_trans (List.length_filter_le _ _) (by rw [rg_len]; exact Nat.le_refl N)
      omega
  have := h (prz N)
  unfold lack
  omega
end Q
namespace Lk73
open Q EM
theorem cs1 : consts[1]? = some (("SOMEBODY", .str "somebody") : PySem.Str × D) := rfl
theorem against_ok {n N : Nat} {k : Int} (hk : k = N) (hN : N ≤ 12) {m s : Bool} {pl : Pl} (hp : In N pl) {d : D} (hd : PlD pl d) {gd : D} (w1 : eqD gd (.str "somebody") = some s) :
    sem (n + 3) 5 [D1 (.int k), D1 (wy m), D1 d, D1 gd] = some (.val (hdD (rowsD s N (gall m pl))), [D1 (.int k), D1 (wy m), D1 d, D1 gd]) := by
  have c0 : runDef defs consts kws (n + 2) 1 [D1 (.int k), D1 (wy m), D1 d] = _ := known_ok (n := n + 1) hk hN hp hd
  have c1 : runDef defs consts kws (n + 2) 2 [D1 (.int k)] = _ := all_pairs_ok (n := n + 1) hk hN
  have c2 : ∀ l q, runDef defs consts kws (n + 2) 3 [D1 (lD l), D1 (pD q)] = _ := fun l q => has_both_ok (n := n + 1) (l := l) (q := q)
  have c3 : runDef defs consts kws (n + 2) 4 [D1 (.int k), D1 (wy m), D1 d] = _ := unknown_ok (n := n) hk hN hp hd
  cases s with
  | true =>
    rw [sem, def_eq (d := d5) rfl rfl]
    have er : rowsD true N (gall m pl) = (unk N (gall m pl)).map pD := rfl
    rw [er]
    cases hu : unk N (gall m pl) with
    | nil =>
      rw [hu] at c3
      simp [d5, varOf, cs1, w1, c3, putVar_eq, hdD]
    | cons q u =>
      rw [hu] at c3
      have h0 : (0 : Int) < (u.length : Int) + 1 := by omega
      have ha : L2.atI (pD q :: u.map pD) 0 = some (pD q) := L2.atI_nat (j := 0) rfl
      simp [d5, varOf, cs1, w1, c3, putVar_eq, hdD, h0, ha]
  | false =>
    generalize hG : gall m pl = K at *
    have hin : ∀ q, q ∈ prz N → forL (.tup [.name 7, .name 8]) .val (exes (cx (n + 2)) b5_0) (enumD 0 ((kn m N K).map lD)) [D1 (.int k), D1 (wy m), D1 d, D1 gd, D1 (.list ((kn m N K).map lD)), D1 (pD q), .unset, .unset, .unset]
        = some (match (lackP N K q).head?.map (fun p => ((MV.val (qD (q, p)), [D1 (.int k), D1 (wy m), D1 d, D1 gd, D1 (.list ((kn m N K).map lD)), D1 (pD q), .unset, D1 (.int p), D1 (lD (row m N K p))]) : MV × Q.Env)) with | none => (.next, [D1 (.int k), D1 (wy m), D1 d, D1 gd, D1 (.list ((kn m N K).map lD)), D1 (pD q), .unset, .unset, .unset]) | some x => (.ret x.1, x.2)) := fun q hq => by
      obtain ⟨q0, q1, q2⟩ := mem_prz.mp hq
      rw [enum_kn, forL_find (fun p => .tuple [.int p, lD (row m N K p)]) (fun p => if (!(K q.1 p && K q.2 p)) then some ((MV.val (qD (q, p)), [D1 (.int k), D1 (wy m), D1 d, D1 gd, D1 (.list ((kn m N K).map lD)), D1 (pD q), .unset, D1 (.int p), D1 (lD (row m N K p))]) : MV × Q.Env) else none)]
      · rw [find_fil]; rfl
      · intro p hp
        have m1 : decide (q.1 ∈ row m N K p) = K q.1 p := mem_row q0 (by omega)
        have m2 : decide (q.2 ∈ row m N K p) = K q.2 p := mem_row (by omega) (by omega)
        have c := c2 (row m N K p) q
        rw [m1, m2] at c
        refine ⟨[D1 (.int k), D1 (wy m), D1 d, D1 gd, D1 (.list ((kn m N K).map lD)), D1 (pD q), .unset, D1 (.int p), D1 (lD (row m N K p))], by simp [putVar_eq], ?_⟩
        cases hb : (K q.1 p && K q.2 p) with
        | true =>
          rw [hb] at c
          simp [b5_0, varOf, c]
        | false =>
          rw [hb] at c
          simp [b5_0, varOf, c, qD]
    have hout : forL (.name 5) .val (exes (cx (n + 2)) b5_1) ((prz N).map pD) [D1 (.int k), D1 (wy m), D1 d, D1 gd, D1 (.list ((kn m N K).map lD)), .unset, .unset, .unset, .unset]
        = some (match (lack N K).head?.map (fun x => ((MV.val (qD x), [D1 (.int k), D1 (wy m), D1 d, D1 gd, D1 (.list ((kn m N K).map lD)), D1 (pD x.1), .unset, D1 (.int x.2), D1 (lD (row m N K x.2))]) : MV × Q.Env)) with | none => (.next, [D1 (.int k), D1 (wy m), D1 d, D1 gd, D1 (.list ((kn m N K).map lD)), .unset, .unset, .unset, .unset]) | some x => (.ret x.1, x.2)) := by
      rw [forL_find pD (fun q => (lackP N K q).head?.map (fun p => ((MV.val (qD (q, p)), [D1 (.int k), D1 (wy m), D1 d, D1 gd, D1 (.list ((kn m N K).map lD)), D1 (pD q), .unset, D1 (.int p), D1 (lD (row m N K p))]) : MV × Q.Env)))]
      · rw [find_flat]; rfl
      · intro q hq
        have hi := hin q hq
        refine ⟨[D1 (.int k), D1 (wy m), D1 d, D1 gd, D1 (.list ((kn m N K).map lD)), D1 (pD q), .unset, .unset, .unset], by simp [putVar_eq], ?_⟩
        cases hl : (lackP N K q).head? with
        | none =>
          rw [hl] at hi
          have hi : forL (.tup [.name 7, .name 8]) .val (exes (cx (n + 2)) b5_0) (enumD 0 ((kn m N K).map lD)) [D1 (.int k), D1 (wy m), D1 d, D1 gd, D1 (.list ((kn m N K).map lD)), D1 (pD q), .unset, .unset, .unset] = some (.next, [D1 (.int k), D1 (wy m), D1 d, D1 gd, D1 (.list ((kn m N K).map lD)), D1 (pD q), .unset, .unset, .unset]) := hi
          simp [b5_1, exe_for, hi]
        | some p =>
          rw [hl] at hi
          have hi : forL (.tup [.name 7, .name 8]) .val (exes (cx (n + 2)) b5_0) (enumD 0 ((kn m N K).map lD)) [D1 (.int k), D1 (wy m), D1 d, D1 gd, D1 (.list ((kn m N K).map lD)), D1 (pD q), .unset, .unset, .unset] = some (.ret (.val (qD (q, p))), [D1 (.int k), D1 (wy m), D1 d, D1 gd, D1 (.list ((kn m N K).map lD)), D1 (pD q), .unset, D1 (.int p), D1 (lD (row m N K p))]) := hi
          simp [b5_1, exe_for, hi]
    rw [sem, def_eq (d := d5) rfl rfl]
    have er : rowsD false N K = (lack N K).map qD := rfl
    rw [er]
    cases hl : lack N K with
    | nil =>
      rw [hl] at hout
      have hout : forL (.name 5) .val (exes (cx (n + 2)) b5_1) ((prz N).map pD) [D1 (.int k), D1 (wy m), D1 d, D1 gd, D1 (.list ((kn m N K).map lD)), .unset, .unset, .unset, .unset] = some (.next, [D1 (.int k), D1 (wy m), D1 d, D1 gd, D1 (.list ((kn m N K).map lD)), .unset, .unset, .unset, .unset]) := hout
      simp [d5, exe_for, varOf, cs1, w1, c0, c1, hout, putVar_eq, hdD]
    | cons x l =>
      rw [hl] at hout
      have hout : forL (.name 5) .val (exes (cx (n + 2)) b5_1) ((prz N).map pD) [D1 (.int k), D1 (wy m), D1 d, D1 gd, D1 (.list ((kn m N K).map lD)), .unset, .unset, .unset, .unset] = some (.ret (.val (qD x)), [D1 (.int k), D1 (wy m), D1 d, D1 gd, D1 (.list ((kn m N K).map lD)), D1 (pD x.1), .unset, D1 (.int x.2), D1 (lD (row m N K x.2))]) := hout
      simp [d5, exe_for, varOf, cs1, w1, c0, c1, hout, putVar_eq, hdD]
theorem reaches_ok {n N : Nat} {k : Int} (hk : k = N) (hN : N ≤ 12) {m s : Bool} {pl : Pl} (hp : In N pl) {d : D} (hd : PlD pl d) {gd : D} (w1 : eqD gd (.str "somebody") = some s) :
    sem (n + 4) 6 [D1 (.int k), D1 (wy m), D1 d, D1 gd] = some (.val (.bool (isNone (hdD (rowsD s N (gall m pl))))), [D1 (.int k), D1 (wy m), D1 d, D1 gd]) := by
  have c : runDef defs consts kws (n + 3) 5 [D1 (.int k), D1 (wy m), D1 d, D1 gd] = _ := against_ok (n := n) hk hN hp hd w1
  rw [sem, def_eq (d := d6) rfl rfl]
  simp [d6, varOf, c]
end Lk73
set_option maxHeartbeats 4000000
namespace Q
open EM
def oD (o : Pl) : D := .tuple (o.map pD)
theorem cut_to {xs : List D} {i : Int} (h : 0 ≤ i) : cutD xs none (some i) = xs.take i.toNat := by
  obtain ⟨j, rfl⟩ := Int.eq_ofNat_of_zero_le h
  exact cutD_to xs j
theorem cut_from {xs : List D} {i : Int} (h : 0 ≤ i) : cutD xs (some (i + 1)) none = xs.drop (i.toNat + 1) := by
  obtain ⟨j, rfl⟩ := Int.eq_ofNat_of_zero_le h
  unfold cutD
  rw [show ((j : Int) + 1) = ((j + 1 : Nat) : Int) by omega, HT.sIx_none, HT.sIx_nat]
  simp only [Int.toNat_natCast]
  by_cases hj : j + 1 ≤ xs.length
  · rw [Nat.min_eq_left hj]
    exact List.take_of_length_le (by rw [List.length_drop]; omega)
  · rw [Nat.min_eq_right (by omega), List.drop_length, List.take_nil, List.drop_eq_nil_of_le (by omega)]
theorem foldl_if {α β : Type} (c : α → Bool) (g : α → List β) : ∀ (xs : List α) (acc : List β), xs.foldl (fun acc a => if c a then acc ++ g a else acc) acc = acc ++ (xs.filter c).flatMap g
  | [], acc => by simp
  | x :: xs, acc => by
    rw [List.foldl_cons, foldl_if c g xs]
    cases h : c x <;> simp [h]
theorem eq_pair {a b : Int × Int} : eqD (pD a) (pD b) = some (decide (a = b)) := by
  unfold eqD
  rw [pairs_sh.shaped (by decide), pairs_sh.shaped (by decide), eqv_pair]
  rfl
theorem at_list {l : Pl} {k : Int} (h0 : 0 ≤ k) (h1 : k < l.length) : L2.atI (l.map pD) k = some (pD (at' l k)) := by
  obtain ⟨j, rfl⟩ := Int.eq_ofNat_of_zero_le h0
  refine L2.atI_nat ?_
  rw [List.getElem?_map, at_some (by omega)]; rfl
theorem enum_from (f : Int × Int → D) : ∀ (j : Nat) (l : Pl), enumD j (l.map f) = (List.range l.length).map fun i => .tuple [.int ((j + i : Nat) : Int), f (at' l i)]
  | j, [] => rfl
  | j, x :: l => by
    show PySem.PyData.tuple [.int (j : Nat), f x] :: enumD (j + 1) (l.map f) = _
    rw [enum_from f (j + 1) l, List.length_cons, List.range_succ_eq_map, List.map_cons, List.map_map]
    congr 1
    apply List.map_congr_left
    intro i _
    show _ = PySem.PyData.tuple [.int ((j + (i + 1) : Nat) : Int), f (at' (x :: l) ((i + 1 : Nat) : Int))]
    have e : at' (x :: l) ((i + 1 : Nat) : Int) = at' l i := by unfold at'; rw [Int.toNat_natCast, Int.toNat_natCast]; simp
    rw [e, show j + 1 + i = j + (i + 1) by omega]
theorem enum_at {l : Pl} : enumD 0 (l.map pD) = (rg l.length).map fun k => .tuple [.int k, pD (at' l k)] := by
  rw [enum_from]
  unfold rg
  rw [List.map_map]
  apply List.map_congr_left
  intro i _
  simp
def srt (l : Pl) : Pl := l.mergeSort fun a b => PySem.W.dataLe false id (pD a) (pD b)
theorem srt_perm (l : Pl) : (srt l).Perm l := List.mergeSort_perm _ _
theorem srt_eq (l : Pl) : sortDs (l.map pD) = (srt l).map pD := (sortDs_merge _).trans (PySem.W.sort_maps pD (r := fun a b => PySem.W.dataLe false id (pD a) (pD b)) (s := PySem.W.dataLe false id) fun a _ b _ => rfl).symm
theorem alike_pair (a b : Int × Int) : PySem.W.alike (pD a) (pD b) = true := by simp [pD, PySem.W.alike, PySem.W.alikeAll]
theorem alike_pairs : ∀ a b : Pl, PySem.W.alikeAll (a.map pD) (b.map pD) = true
  | [], _ => by simp [PySem.W.alikeAll]
  | _ :: _, [] => by simp [PySem.W.alikeAll]
  | x :: a, y :: b => by
    show PySem.W.alikeAll (pD x :: a.map pD) (pD y :: b.map pD) = true
    rw [PySem.W.alikeAll, alike_pair, alike_pairs a b]; rfl
theorem depth_pairs : ∀ l : Pl, PySem.PyData.depthAll (l.map pD) ≤ 1
  | [] => by simp [PySem.PyData.depthAll]
  | x :: l => by
    show PySem.PyData.depthAll (pD x :: l.map pD) ≤ 1
    rw [PySem.PyData.depthAll]
    have := depth_pairs l
    have e : (pD x).depth = 1 := by simp [pD, PySem.PyData.depth, PySem.PyData.depthAll]
    omega
theorem plain_pairs : ∀ l : Pl, plainDs (l.map pD) = true
  | [] => rfl
  | x :: l => by
    show (plainD (pD x) && plainDs (l.map pD)) = true
    rw [plain_pairs l]; rfl
theorem sortOk_pairs {l : Pl} (h : l.length < 1000001) : sortOk (l.map pD) = true := by
  unfold sortOk
  simp only [Bool.and_eq_true, Bool.or_eq_true, decide_eq_true_eq]
  refine ⟨⟨⟨⟨?_, .inl ?_⟩, ?_⟩, ?_⟩, plain_pairs l⟩
  · unfold alikes
    refine List.all_eq_true.mpr fun d hd => List.all_eq_true.mpr fun e he => ?_
    obtain ⟨a, _, rfl⟩ := List.mem_map.mp hd
    obtain ⟨b, _, rfl⟩ := List.mem_map.mp he
    exact alike_pair a b
  · refine List.all_eq_true.mpr fun d hd => ?_
    obtain ⟨a, _, rfl⟩ := List.mem_map.mp hd
    rfl
  · rw [List.length_map]; exact Nat.le_trans (Nat.le_of_lt h) (by decide)
  · have := depth_pairs l; omega
/-! ### the least one -/
theorem neg_trans {a b c : D} (h1 : PySem.W.dataLt a b = false) (h2 : PySem.W.dataLt b c = false) : PySem.W.dataLt a c = false := by
  cases h : PySem.W.dataLt a c with
  | false => rfl
  | true =>
    rcases (PyProof.Rows.listOrd PyProof.Rows.itemOrd).negTrans _ (PySem.W.keyToks b) _ h with q | q
    · have q : PySem.W.dataLt a b = true := q
      rw [h1] at q; cases q
    · have q : PySem.W.dataLt b c = true := q
      rw [h2] at q; cases q
theorem minD_least : ∀ (xs : List D) (x y : D), y ∈ x :: xs → PySem.W.dataLt y (PySem.W.minD x xs) = false
  | [], x, y, h => by
    rw [List.mem_singleton] at h; subst h
    exact PySem.W.dataLt_self y
  | z :: xs, x, y, h => by
    show PySem.W.dataLt y (PySem.W.minD (if PySem.W.dataLt z x then z else x) xs) = false
    rcases List.mem_cons.mp h with rfl | h
    · refine neg_trans (b := if PySem.W.dataLt z y then z else y) ?_ (minD_least xs _ _ List.mem_cons_self)
      split
      · rename_i hz
        cases hh : PySem.W.dataLt y z with
        | false => rfl
        | true =>
          have := (PyProof.Rows.listOrd PyProof.Rows.itemOrd).trans _ _ _ hz hh
          have : PySem.W.dataLt z z = true := this
          rw [PySem.W.dataLt_self] at this; cases this
      · exact PySem.W.dataLt_self y
    · rcases List.mem_cons.mp h with rfl | h
      · refine neg_trans (b := if PySem.W.dataLt y x then y else x) ?_ (minD_least xs _ _ List.mem_cons_self)
        split
        · exact PySem.W.dataLt_self y
        · rename_i hz; simpa using hz
      · exact minD_least xs _ y (List.mem_cons_of_mem _ h)
def bD (N : Nat) (m : Bool) (o : Pl) : D := .tuple [.int ((unk N (gall m o)).length : Int), oD o]
theorem toks_pairs : ∀ a b : Pl, PySem.W.keyToksAll (a.map pD) = PySem.W.keyToksAll (b.map pD) → a = b
  | [], [], _ => rfl
  | [], y :: b, h => by simp [PySem.W.keyToksAll] at h
  | x :: a, [], h => by simp [PySem.W.keyToksAll] at h
  | x :: a, y :: b, h => by
    simp only [List.map_cons, pD, PySem.W.keyToksAll, PySem.W.keyToks, List.cons_append, List.nil_append, List.cons.injEq, Sum.inl.injEq, true_and] at h
    obtain ⟨h1, h2, h3⟩ := h
    rw [toks_pairs a b h3, Prod.ext h1 h2]
theorem toks_b {N : Nat} {m : Bool} {a b : Pl} (h : PySem.W.keyToks (bD N m a) = PySem.W.keyToks (bD N m b)) : a = b := by
  simp only [bD, oD, PySem.W.keyToks, PySem.W.keyToksAll, List.cons_append, List.nil_append, List.cons.injEq, true_and] at h
  exact toks_pairs a b (List.append_cancel_right h.2)
def mn : List D → D
  | [] => .none
  | x :: xs => PySem.W.minD x xs
theorem mn_mem {N : Nat} {m : Bool} {L : List Pl} (h : L ≠ []) : ∃ o ∈ L, mn (L.map (bD N m)) = bD N m o := by
  cases L with
  | nil => exact absurd rfl h
  | cons x xs =>
    have := minD_mem (bD N m x) (xs.map (bD N m))
    rw [← List.map_cons] at this
    obtain ⟨o, h1, h2⟩ := List.mem_map.mp this
    exact ⟨o, h1, h2.symm⟩
theorem mn_least {N : Nat} {m : Bool} {L : List Pl} {o : Pl} (h : o ∈ L) : PySem.W.dataLt (bD N m o) (mn (L.map (bD N m))) = false := by
  cases L with
  | nil => cases h
  | cons x xs =>
    refine minD_least _ _ _ ?_
    rw [← List.map_cons]
    exact List.mem_map.mpr ⟨o, h, rfl⟩
theorem mn_eq {N : Nat} {m : Bool} {L M : List Pl} (hL : L ≠ []) (hM : M ≠ []) (h : ∀ o, o ∈ L ↔ o ∈ M) : mn (L.map (bD N m)) = mn (M.map (bD N m)) := by
  obtain ⟨o1, h1, e1⟩ := mn_mem (N := N) (m := m) hL
  obtain ⟨o2, h2, e2⟩ := mn_mem (N := N) (m := m) hM
  have l1 := mn_least (N := N) (m := m) ((h o1).mp h1)
  have l2 := mn_least (N := N) (m := m) ((h o2).mpr h2)
  rw [e2] at l1
  rw [e1] at l2
  rw [e1, e2, toks_b (PyProof.Rows.lex_total _ _ l1 l2)]
end Q
set_option maxHeartbeats 4000000
namespace Q
@[simp] theorem bltR_sortD {xs : List D} {fl : Fl} : bltR .sortD [(.list xs, fl)] = if sortOk xs && !badFl fl xs then some (.lst ((sortDs xs).map .val)) else none := rfl
@[simp] theorem bltR_sortDT {xs : List D} {fl : Fl} : bltR .sortD [(.tuple xs, fl)] = if sortOk xs && !badFl fl xs then some (.lst ((sortDs xs).map .val)) else none := rfl
@[simp] theorem bltR_minD {x : D} {xs : List D} {fl : Fl} : bltR .minD [(.list (x :: xs), fl)] = if bestOk (x :: xs) && !badFl fl (x :: xs) then some (.val (PySem.W.minD x xs)) else none := rfl
end Q
namespace Lk73
open Q EM
theorem as_int {n : Nat} {i : Int} : sem (n + 1) 0 [D1 (.int i)] = some (.val (.int i), [D1 (.int i)]) := by
  rw [sem, def_eq (d := d0) rfl rfl]
  simp [d0]
theorem as_pair {n : Nat} {f : Int × Int → D} (hf : f = pD ∨ f = pL) {e : Int × Int} : sem (n + 2) 0 [D1 (f e)] = some (.val (pD e), [D1 (f e)]) := by
  have c : ∀ i, runDef defs consts kws (n + 1) 0 [D1 (.int i)] = _ := fun i => as_int (n := n) (i := i)
  have hc := compL_mapT (tg := .name 1) (fl := .val) (elt := run (cx (n + 1)) (.call 0 [(.var 1)])) (own := [1]) (ρ := [D1 (f e), .unset]) PySem.PyData.int (fun i => .val (.int i)) [e.1, e.2] [] fun i hi => by
    refine ⟨[D1 (f e), D1 (.int i)], [D1 (f e), D1 (.int i)], by simp [putVar_eq], by simp [varOf, c], by simp⟩
  rw [sem, def_eq (d := d0) rfl rfl]
  rcases hf with rfl | rfl
  · simp only [pD, List.map_cons, List.map_nil] at hc
    simp [d0, pD, hc]
  · simp only [pL, List.map_cons, List.map_nil] at hc
    simp [d0, pD, pL, hc]
theorem as_plan {n : Nat} {pl : Pl} (hl : pl.length < 1000001) {d : D} (hd : PlD pl d) : sem (n + 3) 0 [D1 d] = some (.val (.tuple (pl.map pD)), [D1 d]) := by
  have go : ∀ f : Int × Int → D, (f = pD ∨ f = pL) → ∀ d : D, compL (.name 1) .val none (run (cx (n + 2)) (.call 0 [(.var 1)])) [1] (pl.map f) [] [D1 d, .unset] = some ([] ++ pl.map fun e => .val (pD e), [D1 d, .unset]) := fun f hf d =>
    compL_mapT f (fun e => .val (pD e)) pl [] fun e he => by
      have c : runDef defs consts kws (n + 2) 0 [D1 (f e)] = _ := as_pair (n := n) hf (e := e)
      refine ⟨[D1 d, D1 (f e)], [D1 d, D1 (f e)], by simp [putVar_eq], by simp [varOf, c], by simp⟩
  rw [sem, def_eq (d := d0) rfl rfl]
  cases hd with
  | tup => simp [d0, go pD (.inl rfl), hl]
  | lst => simp [d0, go pD (.inl rfl), hl]
  | soft => simp [d0, go pL (.inr rfl), hl]
theorem fac_le {j : Nat} (h : j ≤ 6) : fac j ≤ 720 := by
  have : j = 0 ∨ j = 1 ∨ j = 2 ∨ j = 3 ∨ j = 4 ∨ j = 5 ∨ j = 6 := by omega
  rcases this with rfl | rfl | rfl | rfl | rfl | rfl | rfl <;> decide
theorem cut_map {l : Pl} {k : Int} : (l.map pD).take k.toNat ++ (l.map pD).drop (k.toNat + 1) = (cut l k).map pD := by unfold cut; simp
theorem rec_arg {n : Nat} {l : Pl} {k : Int} (h0 : 0 ≤ k) (h1 : k < l.length) (hl : l.length < 1000) : ((l.map pD).take k.toNat).length + ((l.map pD).drop (k.toNat + 1)).length ≤ PySem.sizeLine := by
  have : ((l.map pD).take k.toNat).length + ((l.map pD).drop (k.toNat + 1)).length < 1000001 := by
    rw [List.length_take, List.length_drop, List.length_map]; omega
  rw [sz_le this]; trivial
end Lk73
set_option maxHeartbeats 4000000
namespace Q
open EM
/-- an instance of Ways, as data -/
def Wy (k : Int) (m : Bool) (ps : Pl) : D := ndD (.obj "Ways" ["own_people", "own_is_meet", "own_pairs"]) [.int k, .bool m, .tuple (ps.map pD)]
theorem wf1 {k : Int} {m : Bool} {ps : Pl} : fldD (Wy k m ps) "own_people" = some (.int k) := by kernel_rfl
theorem wf2 {k : Int} {m : Bool} {ps : Pl} : fldD (Wy k m ps) "own_is_meet" = some (.bool m) := by kernel_rfl
theorem wf3 {k : Int} {m : Bool} {ps : Pl} : fldD (Wy k m ps) "own_pairs" = some (.tuple (ps.map pD)) := by kernel_rfl
theorem wo {k : Int} {m : Bool} {ps : Pl} {x : PySem.Str} (h : posD x [.str "own_people", .str "own_is_meet", .str "own_pairs"] = none) : isObjD (some "Ways") x (Wy k m ps) = true := by
  have e : objD (Wy k m ps) = some (("Ways" : PySem.Str), ([.str "own_people", .str "own_is_meet", .str "own_pairs"] : List D), ([.int k, .bool m, .tuple (ps.map pD)] : List D)) := by kernel_rfl
  unfold isObjD
  rw [e]
  simp [h]
def nx (m : Bool) (ps : Pl) (p : Int) : List Int := (ps.filter fun e => decide (e.1 = p)).map (·.2) ++ (ps.filter fun e => decide (e.2 = p) && m).map (·.1)
def bk (m : Bool) (ps : Pl) (p : Int) : List Int := (ps.filter fun e => decide (e.2 = p)).map (·.1) ++ (ps.filter fun e => decide (e.1 = p) && m).map (·.2)
theorem freezes_mapT2 {α : Type} (g : α → MV) (f : α → D) (h : ∀ a, freeze (g a) = f a) : ∀ l : List α, freezes (l.map g) = l.map f
  | [] => rfl
  | a :: l => by rw [List.map_cons, freezes_cons, freezes_mapT2 g f h l, h]; rfl
end Q
namespace Lk73
open Q EM
theorem cl8 {n : Nat} : (cx n).cls 8 = some "Ways" := rfl
theorem cl9 {n : Nat} : (cx n).cls 9 = some "Ways" := rfl
theorem cl10 {n : Nat} : (cx n).cls 10 = some "Ways" := rfl
theorem cl11 {n : Nat} : (cx n).cls 11 = some "Ways" := rfl
theorem cl12 {n : Nat} : (cx n).cls 12 = some "Ways" := rfl
theorem cl13 {n : Nat} : (cx n).cls 13 = some "Ways" := rfl
theorem cl14 {n : Nat} : (cx n).cls 14 = some "Ways" := rfl
theorem cl15 {n : Nat} : (cx n).cls 15 = some "Ways" := rfl
theorem init_ok {n : Nat} {k : Int} {m : Bool} {pl : Pl} (hl : pl.length < 1000001) {d : D} (hd : PlD pl d) :
    sem (n + 4) 7 [.io (.nd (.obj "Ways" []) []), D1 (.int k), D1 (wy m), D1 d] = some (.val .none, [.io (.nd (.obj "Ways" ["own_people", "own_is_meet", "own_pairs"]) [.val (.int k), .val (.bool m), .val (.tuple (pl.map pD))]), D1 (.int k), D1 (wy m), D1 d]) := by
  have c0 : runDef defs consts kws (n + 3) 0 [D1 d] = _ := as_plan (n := n) hl hd
  have we := wy_eq m
  have s1 : exe (cx (n + 3)) (.fldT "Ways" (.var 0) "own_people" (.var 1)) [.io (.nd (.obj "Ways" []) []), D1 (.int k), D1 (wy m), D1 d] = some (.next, [.io (.nd (.obj "Ways" ["own_people"]) [.val (.int k)]), D1 (.int k), D1 (wy m), D1 d]) := by
    generalize wy m = w
    kernel_rfl
  have s2 : exe (cx (n + 3)) (.fldT "Ways" (.var 0) "own_is_meet" (.cmp .eq (.var 2) (.gl 0))) [.io (.nd (.obj "Ways" ["own_people"]) [.val (.int k)]), D1 (.int k), D1 (wy m), D1 d] = some (.next, [.io (.nd (.obj "Ways" ["own_people", "own_is_meet"]) [.val (.int k), .val (.bool m)]), D1 (.int k), D1 (wy m), D1 d]) := by
    have hv : (run (cx (n + 3)) (.cmp .eq (.var 2) (.gl 0))).v [.io (.nd (.obj "Ways" ["own_people"]) [.val (.int k)]), D1 (.int k), D1 (wy m), D1 d] = some (.val (.bool m), [.io (.nd (.obj "Ways" ["own_people"]) [.val (.int k)]), D1 (.int k), D1 (wy m), D1 d]) := by
      simp [cs0, we]
    rw [exe_fldT, hv, Option.bind_some]
    generalize wy m = w
    kernel_rfl
  have s3 : exe (cx (n + 3)) (.fldT "Ways" (.var 0) "own_pairs" (.call 0 [(.var 3)])) [.io (.nd (.obj "Ways" ["own_people", "own_is_meet"]) [.val (.int k), .val (.bool m)]), D1 (.int k), D1 (wy m), D1 d] = some (.next, [.io (.nd (.obj "Ways" ["own_people", "own_is_meet", "own_pairs"]) [.val (.int k), .val (.bool m), .val (.tuple (pl.map pD))]), D1 (.int k), D1 (wy m), D1 d]) := by
    generalize wy m = w
    generalize pl.map pD = ys at *
    have hv : (run (cx (n + 3)) (.call 0 [(.var 3)])).v [.io (.nd (.obj "Ways" ["own_people", "own_is_meet"]) [.val (.int k), .val (.bool m)]), D1 (.int k), D1 w, D1 d] = some (.val (.tuple ys), [.io (.nd (.obj "Ways" ["own_people", "own_is_meet"]) [.val (.int k), .val (.bool m)]), D1 (.int k), D1 w, D1 d]) := by
      simp [varOf, c0]
    rw [exe_fldT, hv, Option.bind_some]
    kernel_rfl
  rw [sem, def_eq (d := d7) rfl rfl]
  show ((exes (cx (n + 3)) [_, _, _] [.io (.nd (.obj "Ways" []) []), D1 (.int k), D1 (wy m), D1 d]).bind _) = _
  rw [exes_cons, s1, thenS_next, exes_cons, s2, thenS_next, exes_cons, s3, thenS_next, exes_nil]
  rfl
theorem nexts_ok {n : Nat} {k p : Int} {m : Bool} {ps : Pl} (hl : ps.length < 1000) : sem (n + 1) 8 [D1 (Wy k m ps), D1 (.int p)] = some (.val (lD (nx m ps p)), [D1 (Wy k m ps), D1 (.int p)]) := by
  have w3 := wf3 (k := k) (m := m) (ps := ps)
  have w2 := wf2 (k := k) (m := m) (ps := ps)
  generalize Wy k m ps = W at *
  have h1 := compL_filT (tg := .tup [(.name 3), (.name 4)]) (fl := .val) (cond := run (cx n) (.cmp .eq (.var 3) (.var 1))) (elt := run (cx n) (.var 4)) (own := [3, 4]) (ρ := [D1 W, D1 (.int p), .unset, .unset, .unset]) pD (fun e => decide (e.1 = p)) (fun e => .val (.int e.2)) ps [] fun e he => by
    have q := eq_ints e.1 p
    refine ⟨[D1 W, D1 (.int p), .unset, D1 (.int e.1), D1 (.int e.2)], [D1 W, D1 (.int p), .unset, D1 (.int e.1), D1 (.int e.2)], by simp [pD, putVar_eq], by simp [q], fun _ => by simp, fun _ => ⟨_, by simp; rfl, by simp⟩⟩
  have f1 := freezes_mapT2 (fun e : Int × Int => MV.val (.int e.2)) (fun e => .int e.2) (fun _ => rfl) (ps.filter fun e => decide (e.1 = p))
  have h2 : ∀ q2 : D, compL (.tup [(.name 3), (.name 4)]) .val (some (run (cx n) (.and (.cmp .eq (.var 4) (.var 1)) (.fld (.var 0) "own_is_meet")))) (run (cx n) (.var 3)) [3, 4] (ps.map pD) [] [D1 W, D1 (.int p), D1 q2, .unset, .unset] = some ([] ++ (ps.filter fun e => decide (e.2 = p) && m).map fun e => .val (.int e.1), [D1 W, D1 (.int p), D1 q2, .unset, .unset]) := fun q2 => compL_filT pD (fun e => decide (e.2 = p) && m) (fun e => .val (.int e.1)) ps [] fun e he => by
    have q := eq_ints e.2 p
    refine ⟨[D1 W, D1 (.int p), D1 q2, D1 (.int e.1), D1 (.int e.2)], [D1 W, D1 (.int p), D1 q2, D1 (.int e.1), D1 (.int e.2)], by simp [pD, putVar_eq], ?_, fun _ => by simp, fun _ => ⟨_, by simp; rfl, by simp⟩⟩
    cases h : decide (e.2 = p) with
    | true =>
      rw [h] at q
      simp [q, w2]
    | false =>
      rw [h] at q
      simp [q]
  have f2 := freezes_mapT2 (fun e : Int × Int => MV.val (.int e.1)) (fun e => .int e.1) (fun _ => rfl) (ps.filter fun e => decide (e.2 = p) && m)
  have l1 : (ps.filter fun e => decide (e.1 = p)).length ≤ ps.length := List.length_filter_le _ _
  have l2 : (ps.filter fun e => decide (e.2 = p) && m).length ≤ ps.length := List.length_filter_le _ _
  have em : lD (nx m ps p) = .list ((ps.filter fun e => decide (e.1 = p)).map (fun e => .int e.2) ++ (ps.filter fun e => decide (e.2 = p) && m).map fun e => .int e.1) := by unfold lD nx; rw [List.map_append, List.map_map, List.map_map]; rfl
  rw [em]
  have z1 : ((ps.filter fun e => decide (e.1 = p)).map fun e => MV.val (.int e.2)).length < 1000001 := by rw [List.length_map]; omega
  have z2 : ((ps.filter fun e => decide (e.2 = p) && m).map fun e => MV.val (.int e.1)).length < 1000001 := by rw [List.length_map]; omega
  have z3 : ((ps.filter fun e => decide (e.1 = p)).map fun e => PySem.PyData.int e.2).length + ((ps.filter fun e => decide (e.2 = p) && m).map fun e => PySem.PyData.int e.1).length ≤ PySem.sizeLine := by
    rw [List.length_map, List.length_map]
    exact Nat.le_trans (show _ ≤ 2000 by omega) (by decide)
  generalize ((ps.filter fun e => decide (e.1 = p)).map fun e => MV.val (.int e.2)) = M1 at *
  generalize ((ps.filter fun e => decide (e.2 = p) && m).map fun e => MV.val (.int e.1)) = M2 at *
  generalize ((ps.filter fun e => decide (e.1 = p)).map fun e => PySem.PyData.int e.2) = L1 at *
  generalize ((ps.filter fun e => decide (e.2 = p) && m).map fun e => PySem.PyData.int e.1) = L2 at *
  generalize ps.map pD = xs at *
  rw [sem, def_eq (d := d8) rfl rfl]
  simp [d8, exes_cons, w3, h1, f1, z1, h2, f2, z2, z3, putVar_eq]
theorem backs_ok {n : Nat} {k p : Int} {m : Bool} {ps : Pl} (hl : ps.length < 1000) : sem (n + 1) 9 [D1 (Wy k m ps), D1 (.int p)] = some (.val (lD (bk m ps p)), [D1 (Wy k m ps), D1 (.int p)]) := by
  have w3 := wf3 (k := k) (m := m) (ps := ps)
  have w2 := wf2 (k := k) (m := m) (ps := ps)
  generalize Wy k m ps = W at *
  have h1 := compL_filT (tg := .tup [(.name 3), (.name 4)]) (fl := .val) (cond := run (cx n) (.cmp .eq (.var 4) (.var 1))) (elt := run (cx n) (.var 3)) (own := [3, 4]) (ρ := [D1 W, D1 (.int p), .unset, .unset, .unset]) pD (fun e => decide (e.2 = p)) (fun e => .val (.int e.1)) ps [] fun e he => by
    have q := eq_ints e.2 p
    refine ⟨[D1 W, D1 (.int p), .unset, D1 (.int e.1), D1 (.int e.2)], [D1 W, D1 (.int p), .unset, D1 (.int e.1), D1 (.int e.2)], by simp [pD, putVar_eq], by simp [q], fun _ => by simp, fun _ => ⟨_, by simp; rfl, by simp⟩⟩
  have f1 := freezes_mapT2 (fun e : Int × Int => MV.val (.int e.1)) (fun e => .int e.1) (fun _ => rfl) (ps.filter fun e => decide (e.2 = p))
  have h2 : ∀ q2 : D, compL (.tup [(.name 3), (.name 4)]) .val (some (run (cx n) (.and (.cmp .eq (.var 3) (.var 1)) (.fld (.var 0) "own_is_meet")))) (run (cx n) (.var 4)) [3, 4] (ps.map pD) [] [D1 W, D1 (.int p), D1 q2, .unset, .unset] = some ([] ++ (ps.filter fun e => decide (e.1 = p) && m).map fun e => .val (.int e.2), [D1 W, D1 (.int p), D1 q2, .unset, .unset]) := fun q2 => compL_filT pD (fun e => decide (e.1 = p) && m) (fun e => .val (.int e.2)) ps [] fun e he => by
    have q := eq_ints e.1 p
    refine ⟨[D1 W, D1 (.int p), D1 q2, D1 (.int e.1), D1 (.int e.2)], [D1 W, D1 (.int p), D1 q2, D1 (.int e.1), D1 (.int e.2)], by simp [pD, putVar_eq], ?_, fun _ => by simp, fun _ => ⟨_, by simp; rfl, by simp⟩⟩
    cases h : decide (e.1 = p) with
    | true =>
      rw [h] at q
      simp [q, w2]
    | false =>
      rw [h] at q
      simp [q]
  have f2 := freezes_mapT2 (fun e : Int × Int => MV.val (.int e.2)) (fun e => .int e.2) (fun _ => rfl) (ps.filter fun e => decide (e.1 = p) && m)
  have l1 : (ps.filter fun e => decide (e.2 = p)).length ≤ ps.length := List.length_filter_le _ _
  have l2 : (ps.filter fun e => decide (e.1 = p) && m).length ≤ ps.length := List.length_filter_le _ _
  have em : lD (bk m ps p) = .list ((ps.filter fun e => decide (e.2 = p)).map (fun e => .int e.1) ++ (ps.filter fun e => decide (e.1 = p) && m).map fun e => .int e.2) := by unfold lD bk; rw [List.map_append, List.map_map, List.map_map]; rfl
  rw [em]
  have z1 : ((ps.filter fun e => decide (e.2 = p)).map fun e => MV.val (.int e.1)).length < 1000001 := by rw [List.length_map]; omega
  have z2 : ((ps.filter fun e => decide (e.1 = p) && m).map fun e => MV.val (.int e.2)).length < 1000001 := by rw [List.length_map]; omega
  have z3 : ((ps.filter fun e => decide (e.2 = p)).map fun e => PySem.PyData.int e.1).length + ((ps.filter fun e => decide (e.1 = p) && m).map fun e => PySem.PyData.int e.2).length ≤ PySem.sizeLine := by
    rw [List.length_map, List.length_map]
    exact Nat.le_trans (show _ ≤ 2000 by omega) (by decide)
  generalize ((ps.filter fun e => decide (e.2 = p)).map fun e => MV.val (.int e.1)) = M1 at *
  generalize ((ps.filter fun e => decide (e.1 = p) && m).map fun e => MV.val (.int e.2)) = M2 at *
  generalize ((ps.filter fun e => decide (e.2 = p)).map fun e => PySem.PyData.int e.1) = L1 at *
  generalize ((ps.filter fun e => decide (e.1 = p) && m).map fun e => PySem.PyData.int e.2) = L2 at *
  generalize ps.map pD = xs at *
  rw [sem, def_eq (d := d9) rfl rfl]
  simp [d9, exes_cons, w3, h1, f1, z1, h2, f2, z2, z3, putVar_eq]
/-! ### the forest -/
def fst' (s : Int) (q : List Int × Pl) (o : Int) : List Int × Pl := if o ∈ q.1 then q else (q.1 ++ [o], q.2 ++ [(o, s)])
def fscan (nb : Int → List Int) (a : Nat) (q : List Int × Pl) : List Int × Pl := (nb (q.1.getD a 0)).foldl (fst' (q.1.getD a 0)) q
def fwalk (nb : Int → List Int) : Nat → Nat → List Int × Pl → List Int × Pl
  | 0, _, q => q
  | n + 1, a, q => if a < q.1.length then fwalk nb n (a + 1) (fscan nb a q) else q
structure FI (N : Nat) (q : List Int × Pl) : Prop where
  nd : q.1.Nodup
  inn : ∀ x ∈ q.1, 0 ≤ x ∧ x < N
  le : q.2.length ≤ q.1.length
theorem FI.len {N : Nat} {q : List Int × Pl} (h : FI N q) : q.1.length ≤ N := nodup_len h.nd h.inn
theorem FI.step {N : Nat} {q : List Int × Pl} {s o : Int} (h : FI N q) (ho : 0 ≤ o ∧ o < N) : FI N (fst' s q o) := by
  unfold fst'
  split
  · exact h
  · rename_i hn
    refine ⟨List.nodup_append.mpr ⟨h.nd, by simp, fun x hx y hy e => hn (by rw [List.mem_singleton.mp hy] at e; rw [← e]; exact hx)⟩, fun x hx => ?_, by simpa using h.le⟩
    rcases List.mem_append.mp hx with hx | hx
    · exact h.inn x hx
    · rw [List.mem_singleton.mp hx]; exact ho
theorem fst_get {s o : Int} {q : List Int × Pl} {a : Nat} (h : a < q.1.length) : (fst' s q o).1.getD a 0 = q.1.getD a 0 ∧ a < (fst' s q o).1.length := by
  unfold fst'
  split
  · exact ⟨rfl, h⟩
  · refine ⟨?_, by simp; omega⟩
    rw [List.getD_eq_getElem?_getD, List.getD_eq_getElem?_getD, List.getElem?_append_left h]
def nbr (b m : Bool) (ps : Pl) : Int → List Int := if b then bk m ps else nx m ps
theorem nbr_in {N : Nat} {b m : Bool} {ps : Pl} (h : In N ps) (p : Int) : ∀ o ∈ nbr b m ps p, 0 ≤ o ∧ o < N := fun o ho => by
  unfold nbr at ho
  cases b with
  | true =>
    simp only [if_true, bk, List.mem_append, List.mem_map, List.mem_filter] at ho
    rcases ho with ⟨e, he, rfl⟩ | ⟨e, he, rfl⟩
    · exact ⟨(h e he.1).1, (h e he.1).2.1⟩
    · exact ⟨(h e he.1).2.2.1, (h e he.1).2.2.2⟩
  | false =>
    simp only [Bool.false_eq_true, if_false, nx, List.mem_append, List.mem_map, List.mem_filter] at ho
    rcases ho with ⟨e, he, rfl⟩ | ⟨e, he, rfl⟩
    · exact ⟨(h e he.1).2.2.1, (h e he.1).2.2.2⟩
    · exact ⟨(h e he.1).1, (h e he.1).2.1⟩
def encF (W src : D) (b : Bool) (a : Nat) (q : List Int × Pl) : Q.Env := [D1 W, D1 src, D1 (.bool b), .own (.lst (q.1.map fun i => .val (.int i))), .own (.lst (q.2.map fun e => .val (pD e))), D1 (.int (a : Int)), .unset]
theorem scan_ok {n N : Nat} {b : Bool} {W src : D} {a : Nat} {s : Int} {os : List Int} (hN : N ≤ 12) (hos : ∀ o ∈ os, 0 ≤ o ∧ o < N) {q : List Int × Pl} (h : FI N q) (ha : a < q.1.length) (hs : q.1.getD a 0 = s) :
    forL (.name 6) .val (exes (cx n) b10_0) (os.map .int) (encF W src b a q) = some (.next, encF W src b a (os.foldl (fst' s) q)) ∧ (FI N (os.foldl (fst' s) q) ∧ a < (os.foldl (fst' s) q).1.length ∧ (os.foldl (fst' s) q).1.getD a 0 = s) := by
  refine forL_fold (tg := .name 6) (fl := .val) (body := exes (cx n) b10_0) (encF W src b a) PySem.PyData.int (fst' s) (fun q => FI N q ∧ a < q.1.length ∧ q.1.getD a 0 = s) os q ⟨h, ha, hs⟩ fun q o ho hq => ?_
  obtain ⟨h, ha, hs⟩ := hq
  have hst := h.step (s := s) (hos o ho)
  have hg := fst_get (s := s) (o := o) ha
  refine ⟨⟨hst, hg.2, hg.1.trans hs⟩, [D1 W, D1 src, D1 (.bool b), .own (.lst (q.1.map fun i => .val (.int i))), .own (.lst (q.2.map fun e => .val (pD e))), D1 (.int (a : Int)), D1 (.int o)], by simp [encF, putVar_eq], ?_⟩
  have hl := h.len
  have fz := freezes_mapT2 (fun i : Int => MV.val (.int i)) PySem.PyData.int (fun _ => rfl) q.1
  have hin := in_ints (i := o) (l := q.1)
  have hz1 : (q.1.map fun i => MV.val (.int i)).length < PySem.sizeLine := by rw [List.length_map]; exact Nat.lt_of_le_of_lt hl (Nat.lt_of_le_of_lt hN (by decide))
  have hz2 : (q.2.map fun e => MV.val (pD e)).length < PySem.sizeLine := by rw [List.length_map]; exact Nat.lt_of_le_of_lt h.le (Nat.lt_of_le_of_lt hl (Nat.lt_of_le_of_lt hN (by decide)))
  unfold encF fst'
  by_cases hm : o ∈ q.1
  · rw [if_pos hm]
    rw [decide_eq_true hm] at hin
    generalize (q.1.map fun i => MV.val (.int i)) = M1 at *
    generalize (q.2.map fun e => MV.val (pD e)) = M2 at *
    generalize q.1.map PySem.PyData.int = L1 at *
    simp [b10_0, fz, hin]
  · rw [if_neg hm]
    rw [decide_eq_false hm] at hin
    have hga : (q.1.map (fun i => MV.val (.int i)) ++ [MV.val (.int o)])[a]? = some (.val (.int s)) := by
      rw [List.getElem?_append_left (by rw [List.length_map]; exact ha), List.getElem?_map]
      have : q.1[a]? = some s := by
        rw [List.getD_eq_getElem?_getD, List.getElem?_eq_getElem ha] at hs
        rw [List.getElem?_eq_getElem ha]
        simpa using hs
      rw [this]; rfl
    have hix : L2.ixN ((q.1.map fun i => MV.val (.int i)).length + 1) (a : Int) = some a := by
      rw [ixN_in (by omega) (by rw [List.length_map]; omega), Int.toNat_natCast]
    simp only [List.map_append, List.map_cons, List.map_nil]
    generalize (q.1.map fun i => MV.val (.int i)) = M1 at *
    generalize (q.2.map fun e => MV.val (pD e)) = M2 at *
    generalize q.1.map PySem.PyData.int = L1 at *
    generalize (a : Int) = ai at *
    unfold pD
    simp [b10_0, fz, hin, hz1, hz2, Q.appItem, hix, hga]
end Lk73
set_option maxHeartbeats 4000000
namespace Lk73
open Q EM
theorem turn_ok {n N : Nat} {k : Int} {b m : Bool} {ps : Pl} {src : D} {a : Nat} (hN : N ≤ 12) (hp : In N ps) (hpl : ps.length < 1000) {q : List Int × Pl} (h : FI N q) (ha : a < q.1.length) :
    exes (cx (n + 1)) b10_1 (encF (Wy k m ps) src b a q) = some (.next, encF (Wy k m ps) src b (a + 1) (fscan (nbr b m ps) a q)) ∧ FI N (fscan (nbr b m ps) a q) ∧ a < (fscan (nbr b m ps) a q).1.length := by
  obtain ⟨s1, s2, s3, s4⟩ := scan_ok (n := n + 1) (b := b) (W := Wy k m ps) (src := src) (a := a) (s := q.1.getD a 0) (os := nbr b m ps (q.1.getD a 0)) hN (nbr_in hp _) h ha rfl
  refine ⟨?_, s2, s3⟩
  have hg : (q.1.map fun i => MV.val (.int i))[a]? = some (.val (.int (q.1.getD a 0))) := by
    rw [List.getElem?_map, List.getD_eq_getElem?_getD, List.getElem?_eq_getElem ha]; rfl
  have hix : L2.ixN (q.1.map fun i => MV.val (.int i)).length (a : Int) = some a := by
    rw [ixN_in (by omega) (by rw [List.length_map]; omega), Int.toNat_natCast]
  have cn : runDef defs consts kws (n + 1) 8 [D1 (Wy k m ps), D1 (.int (q.1.getD a 0))] = _ := nexts_ok (n := n) hpl
  have cb : runDef defs consts kws (n + 1) 9 [D1 (Wy k m ps), D1 (.int (q.1.getD a 0))] = _ := backs_ok (n := n) hpl
  have w8 := wo (k := k) (m := m) (ps := ps) (x := "nexts") (by kernel_rfl)
  have w9 := wo (k := k) (m := m) (ps := ps) (x := "backs") (by kernel_rfl)
  have hI : runI (cx (n + 1)) (.seq (.ite (.var 2) (.callF 9 "backs" (.var 0) [(.idx (.var 3) (.var 5))]) (.callF 8 "nexts" (.var 0) [(.idx (.var 3) (.var 5))]))) (encF (Wy k m ps) src b a q) = some ((nbr b m ps (q.1.getD a 0)).map .int, .val, encF (Wy k m ps) src b a q, []) := by
    unfold encF nbr
    generalize (q.2.map fun e => MV.val (pD e)) = M2
    generalize (q.1.map fun i => MV.val (.int i)) = M1 at *
    generalize q.1.getD a 0 = s at *
    generalize (a : Int) = ai at *
    generalize Wy k m ps = W at *
    cases b with
    | true => simp [cl9, w9, cb, hix, hg, datS, lD]
    | false => simp [cl8, w8, cn, hix, hg, datS, lD]
  have hf : forL (.name 6) .val (exes (cx (n + 1)) b10_0) ((nbr b m ps (q.1.getD a 0)).map .int) (encF (Wy k m ps) src b a q) = some (.next, encF (Wy k m ps) src b a (fscan (nbr b m ps) a q)) := s1
  have t1 : exe (cx (n + 1)) (.forS (.name 6) (.seq (.ite (.var 2) (.callF 9 "backs" (.var 0) [(.idx (.var 3) (.var 5))]) (.callF 8 "nexts" (.var 0) [(.idx (.var 3) (.var 5))]))) b10_0) (encF (Wy k m ps) src b a q) = some (.next, encF (Wy k m ps) src b a (fscan (nbr b m ps) a q)) := by
    rw [exe_for, hI, Option.bind_some]
    show (forL (.name 6) .val (exes (cx (n + 1)) b10_0) ((nbr b m ps (q.1.getD a 0)).map .int) (encF (Wy k m ps) src b a q)).bind _ = _
    rw [hf]
    rfl
  generalize fscan (nbr b m ps) a q = q' at *
  have t2 : exes (cx (n + 1)) [.aug 5 .add (.cst (.int 1)), .forget [6]] (encF (Wy k m ps) src b a q') = some (.next, encF (Wy k m ps) src b (a + 1) q') := by
    have e : ((a + 1 : Nat) : Int) = (a : Int) + 1 := by omega
    unfold encF
    rw [e]
    generalize (a : Int) = ai
    generalize Wy k m ps = W
    simp [exes_cons, Q.augI, putVar_eq]
  show exes (cx (n + 1)) (_ :: _) _ = _
  rw [exes_cons, t1, thenS_next]
  exact t2
theorem loop_ok {n N : Nat} {k : Int} {b m : Bool} {ps : Pl} {src : D} (hN : N ≤ 12) (hp : In N ps) (hpl : ps.length < 1000) : ∀ (j f a : Nat) (q : List Int × Pl), N ≤ a + j → j < f → FI N q →
    ∃ a', whileL (run (cx (n + 1)) (.cmp .lt (.var 5) (.blt .len [(.var 3)]))) (exes (cx (n + 1)) b10_1) f (encF (Wy k m ps) src b a q) = some (.next, encF (Wy k m ps) src b a' (fwalk (nbr b m ps) (j + 1) a q)) := by
  have hc : ∀ (a : Nat) (q : List Int × Pl), (run (cx (n + 1)) (.cmp .lt (.var 5) (.blt .len [(.var 3)]))).t (encF (Wy k m ps) src b a q) = some (decide (a < q.1.length), encF (Wy k m ps) src b a q) := fun a q => by
    have fz := freezes_mapT2 (fun i : Int => MV.val (.int i)) PySem.PyData.int (fun _ => rfl) q.1
    have hl : ((q.1.map PySem.PyData.int).length : Int) = (q.1.length : Int) := by simp
    have hd : decide ((a : Int) < (q.1.length : Int)) = decide (a < q.1.length) := by
      by_cases h : a < q.1.length
      · rw [decide_eq_true h, decide_eq_true (by omega)]
      · rw [decide_eq_false h, decide_eq_false (by omega)]
    rw [← hd]
    unfold encF
    generalize (q.1.map fun i => MV.val (.int i)) = M1 at *
    generalize (q.2.map fun e => MV.val (pD e)) = M2 at *
    generalize q.1.map PySem.PyData.int = L1 at *
    generalize (q.1.length : Int) = ln at *
    generalize (a : Int) = ai
    generalize Wy k m ps = W
    simp [fz, hl]
  intro j
  induction j with
  | zero =>
    intro f a q ha hf h
    cases f with
    | zero => omega
    | succ f =>
      have hn : ¬ a < q.1.length := by have := h.len; omega
      refine ⟨a, ?_⟩
      unfold whileL
      rw [hc, decide_eq_false hn]
      show some _ = _
      unfold fwalk
      rw [if_neg hn]
  | succ j ih =>
    intro f a q ha hf h
    cases f with
    | zero => omega
    | succ f =>
      by_cases hlt : a < q.1.length
      · obtain ⟨h1, h2, h3⟩ := turn_ok (n := n) (k := k) (b := b) (m := m) (src := src) hN hp hpl h hlt
        obtain ⟨a', e⟩ := ih f (a + 1) (fscan (nbr b m ps) a q) (by omega) (by omega) h2
        refine ⟨a', ?_⟩
        unfold whileL
        rw [hc, decide_eq_true hlt, Option.bind_some, if_pos rfl, h1, Option.bind_some]
        show whileL _ _ f _ = _
        rw [e]
        conv => rhs; unfold fwalk
        rw [if_pos hlt]
      · refine ⟨a, ?_⟩
        unfold whileL
        rw [hc, decide_eq_false hlt]
        show some _ = _
        unfold fwalk
        rw [if_neg hlt]
/-- what forest tells -/
def fo (N : Nat) (b m : Bool) (ps : Pl) (src : List Int) : Pl := (fwalk (nbr b m ps) (N + 1) 0 (src, [])).2
theorem forest_ok {n N : Nat} {k : Int} {b m : Bool} {ps : Pl} {src : List Int} {d : D} (hd : d = .list (src.map .int) ∨ d = .tuple (src.map .int)) (hN : N ≤ 12) (hp : In N ps) (hpl : ps.length < 1000) (hs : src.Nodup) (hsi : ∀ x ∈ src, 0 ≤ x ∧ x < N) :
    sem (n + 2) 10 [D1 (Wy k m ps), D1 d, D1 (.bool b)] = some (.val (.list ((fo N b m ps src).map pD)), [D1 (Wy k m ps), D1 d, D1 (.bool b)]) := by
  obtain ⟨a', e⟩ := loop_ok (n := n) (k := k) (b := b) (m := m) (src := d) hN hp hpl N 1000 0 (src, []) (by omega) (by omega) ⟨hs, hsi, Nat.zero_le _⟩
  have s1 : exe (cx (n + 1)) (.parN [3, 4, 5] [(.blt .list [(.var 1)]), (.lst []), (.cst (.int 0))]) [D1 (Wy k m ps), D1 d, D1 (.bool b), .unset, .unset, .unset, .unset] = some (.next, encF (Wy k m ps) d b 0 (src, [])) := by
    unfold encF
    have em : (src.map fun i => MV.val (.int i)) = (src.map PySem.PyData.int).map .val := by rw [List.map_map]; rfl
    rw [em]
    generalize src.map PySem.PyData.int = L at *
    generalize Wy k m ps = W
    rcases hd with rfl | rfl <;> simp [putVar_eq, putVars]
  have fz := freezes_mapT2 (fun e : Int × Int => MV.val (pD e)) pD (fun _ => rfl) (fo N b m ps src)
  rw [sem, def_eq (d := d10) rfl rfl]
  show ((exes (cx (n + 1)) [_, .whil 1000 (.cmp .lt (.var 5) (.blt .len [(.var 3)])) b10_1, _, _] [D1 (Wy k m ps), D1 d, D1 (.bool b), .unset, .unset, .unset, .unset]).bind _) = _
  rw [exes_cons, s1, thenS_next, exes_cons]
  have hw : exe (cx (n + 1)) (.whil 1000 (.cmp .lt (.var 5) (.blt .len [(.var 3)])) b10_1) (encF (Wy k m ps) d b 0 (src, [])) = some (.next, encF (Wy k m ps) d b a' (fwalk (nbr b m ps) (N + 1) 0 (src, []))) := e
  rw [hw, thenS_next]
  unfold encF
  show ((exes (cx (n + 1)) _ [D1 (Wy k m ps), D1 d, D1 (.bool b), _, .own (.lst ((fo N b m ps src).map fun e => .val (pD e))), _, .unset]).bind _) = _
  generalize (fo N b m ps src).map (fun e => MV.val (pD e)) = M2 at *
  generalize (fo N b m ps src).map pD = L2 at *
  generalize ((fwalk (nbr b m ps) (N + 1) 0 (src, [])).1.map fun i => MV.val (.int i)) = M1
  generalize Wy k m ps = W
  simp [fz]
  rfl
end Lk73
set_option maxHeartbeats 4000000
namespace Lk73
open Q EM
def inw (N : Nat) (m : Bool) (ps : Pl) : Option (Pl × Int) := (rg N).findSome? fun r => if (fo N true m ps [r]).length + 1 = N then some ((fo N true m ps [r]).reverse, r) else none
def inwD : Option (Pl × Int) → D
  | none => .none
  | some x => .tuple [.list (x.1.map pD), .int x.2]
theorem frz_rev (L : List D) : freezes (L.map MV.val).reverse = L.reverse := by
  rw [← List.map_reverse, freezes_mapT2 MV.val (fun d => d) (fun _ => rfl), List.map_id']
theorem fwalk_FI {N : Nat} {b m : Bool} {ps : Pl} (hp : In N ps) : ∀ (j a : Nat) (q : List Int × Pl), FI N q → FI N (fwalk (nbr b m ps) j a q)
  | 0, _, _, h => h
  | j + 1, a, q, h => by
    unfold fwalk
    split
    · refine fwalk_FI hp j (a + 1) _ ?_
      unfold fscan
      have : ∀ (os : List Int) (s : Int) (q : List Int × Pl), (∀ o ∈ os, 0 ≤ o ∧ o < N) → FI N q → FI N (os.foldl (fst' s) q) := fun os s => by
        induction os with
        | nil => intro q _ h; exact h
        | cons o os ih => intro q ho h; exact ih _ (fun x hx => ho x (List.mem_cons_of_mem _ hx)) (h.step (ho o List.mem_cons_self))
      exact this _ _ _ (nbr_in hp _) h
    · exact h
theorem fo_len {N : Nat} {b m : Bool} {ps : Pl} {src : List Int} (hp : In N ps) (hs : src.Nodup) (hsi : ∀ x ∈ src, 0 ≤ x ∧ x < N) : (fo N b m ps src).length ≤ N := by
  have h := fwalk_FI (b := b) (m := m) hp (N + 1) 0 (src, []) ⟨hs, hsi, Nat.zero_le _⟩
  exact Nat.le_trans h.le h.len
theorem inward_ok {n N : Nat} {k : Int} {m : Bool} {ps : Pl} (hk : k = N) (hN : N ≤ 12) (hp : In N ps) (hpl : ps.length < 1000) : sem (n + 3) 11 [D1 (Wy k m ps)] = some (.val (inwD (inw N m ps)), [D1 (Wy k m ps)]) := by
  have w1 := wf1 (k := k) (m := m) (ps := ps)
  have w10 := wo (k := k) (m := m) (ps := ps) (x := "forest") (by kernel_rfl)
  have hr := inR (k := k) (by omega) (by omega)
  have hkt : k.toNat = N := by omega
  have hf := forL_find (tg := .name 1) (fl := .val) (body := exes (cx (n + 2)) b11_0) (ρ := [D1 (Wy k m ps), .unset, .unset]) PySem.PyData.int (fun r => if (fo N true m ps [r]).length + 1 = N then some (MV.val (.tuple [.list ((fo N true m ps [r]).reverse.map pD), .int r]), [D1 (Wy k m ps), D1 (.int r), D1 (.list ((fo N true m ps [r]).map pD))]) else none) (rg N) fun r hr => by
    have hr := mem_rg.mp hr
    have cf : runDef defs consts kws (n + 2) 10 [D1 (Wy k m ps), D1 (.list [.int r]), D1 (.bool true)] = _ := forest_ok (n := n) (k := k) (b := true) (m := m) (src := [r]) (.inl rfl) hN hp hpl (by simp) (fun x hx => by rw [List.mem_singleton.mp hx]; exact hr)
    refine ⟨[D1 (Wy k m ps), D1 (.int r), .unset], by simp [putVar_eq], ?_⟩
    have hle : (((fo N true m ps [r]).map pD).length : Int) = ((fo N true m ps [r]).length : Int) := by rw [List.length_map]
    have hrv : ((fo N true m ps [r]).map pD).reverse = (fo N true m ps [r]).reverse.map pD := by rw [List.map_reverse]
    have q := eq_ints ((fo N true m ps [r]).length : Int) (k - 1)
    by_cases hc : (fo N true m ps [r]).length + 1 = N
    · rw [if_pos hc]
      rw [decide_eq_true (by omega)] at q
      rw [← hrv]
      generalize (fo N true m ps [r]).map pD = L at *
      generalize ((fo N true m ps [r]).length : Int) = ln at *
      generalize Wy k m ps = W at *
      simp [b11_0, exes_cons, cl10, w10, cf, datS, w1, hle, q, frz_rev, putVar_eq]
    · rw [if_neg hc]
      rw [decide_eq_false (by omega)] at q
      generalize (fo N true m ps [r]).map pD = L at *
      generalize ((fo N true m ps [r]).length : Int) = ln at *
      generalize Wy k m ps = W at *
      simp [b11_0, exes_cons, cl10, w10, cf, datS, w1, hle, q, frz_rev, putVar_eq]
  have hI : runI (cx (n + 2)) (.rng1 (.fld (.var 0) "own_people")) [D1 (Wy k m ps), .unset, .unset] = some ((rg N).map .int, .val, [D1 (Wy k m ps), .unset, .unset], []) := by
    have hrd := rangeD_rg N
    generalize Wy k m ps = W at *
    simp [w1, hr, hkt, hrd]
  have hfind : (rg N).findSome? (fun r => if (fo N true m ps [r]).length + 1 = N then some (MV.val (.tuple [.list ((fo N true m ps [r]).reverse.map pD), .int r]), [D1 (Wy k m ps), D1 (.int r), D1 (.list ((fo N true m ps [r]).map pD))]) else none) = (inw N m ps).map fun x => (MV.val (inwD (some x)), [D1 (Wy k m ps), D1 (.int x.2), D1 (.list (x.1.reverse.map pD))]) := by
    unfold inw
    generalize rg N = xs
    induction xs with
    | nil => rfl
    | cons x xs ih =>
      rw [List.findSome?_cons, List.findSome?_cons, ih]
      by_cases hc : (fo N true m ps [x]).length + 1 = N
      · rw [if_pos hc, if_pos hc]
        dsimp only
        show some _ = some (MV.val (inwD (some ((fo N true m ps [x]).reverse, x))), [D1 (Wy k m ps), D1 (.int x), D1 (.list ((fo N true m ps [x]).reverse.reverse.map pD))])
        rw [List.reverse_reverse]
        rfl
      · rw [if_neg hc, if_neg hc]
  rw [hfind] at hf
  rw [sem, def_eq (d := d11) rfl rfl]
  show ((exes (cx (n + 2)) [.forS (.name 1) (.rng1 (.fld (.var 0) "own_people")) b11_0, _] [D1 (Wy k m ps), .unset, .unset]).bind _) = _
  rw [exes_cons, exe_for, hI, Option.bind_some]
  show ((thenS ((forL (.name 1) .val (exes (cx (n + 2)) b11_0) ((rg N).map .int) [D1 (Wy k m ps), .unset, .unset]).bind _) _).bind _) = _
  rw [hf]
  cases inw N m ps with
  | none => rfl
  | some x => rfl
end Lk73
set_option maxHeartbeats 4000000
namespace Lk73
open Q EM
/-- those whom two can meet -/
def bth (m : Bool) (ps : Pl) (o t : Int) : List Int := (nx m ps o).filter fun p => decide (p ∈ nx m ps t)
def rg4 (m : Bool) (ps : Pl) (o t : Int) : Option (List Int) := if 1 < (bth m ps o t).length then some [o, (bth m ps o t).getD 0 0, t, (bth m ps o t).getD 1 0] else none
def ring4 (N : Nat) (m : Bool) (ps : Pl) : Option (List Int) := (rg N).findSome? fun o => ((rg N).filter fun t => decide (o < t)).findSome? fun t => rg4 m ps o t
def optT : Option (List Int) → D
  | none => .none
  | some l => .tuple (l.map .int)
theorem nx_len {m : Bool} {ps : Pl} {p : Int} (h : ps.length < 1000) : (nx m ps p).length < 2000 := by
  unfold nx
  rw [List.length_append, List.length_map, List.length_map]
  have h1 := List.length_filter_le (fun e : Int × Int => decide (e.1 = p)) ps
  have h2 := List.length_filter_le (fun e : Int × Int => decide (e.2 = p) && m) ps
  omega
theorem pair_turn {n : Nat} {k o t : Int} {m : Bool} {ps : Pl} (hpl : ps.length < 1000) :
    exes (cx (n + 1)) b12_0 [D1 (Wy k m ps), D1 (.int o), D1 (.int t), .unset, .unset] = some (match rg4 m ps o t with | none => (.next, [D1 (Wy k m ps), D1 (.int o), .unset, .unset, .unset]) | some l => (.ret (.val (.tuple (l.map .int))), [D1 (Wy k m ps), D1 (.int o), D1 (.int t), D1 (lD (bth m ps o t)), .unset])) := by
  have w8 := wo (k := k) (m := m) (ps := ps) (x := "nexts") (by kernel_rfl)
  have c1 : runDef defs consts kws (n + 1) 8 [D1 (Wy k m ps), D1 (.int o)] = _ := nexts_ok (n := n) hpl
  have c2 : runDef defs consts kws (n + 1) 8 [D1 (Wy k m ps), D1 (.int t)] = _ := nexts_ok (n := n) hpl
  have h1 := compL_filT (tg := .name 4) (fl := .val) (cond := run (cx (n + 1)) (.cmp .isin (.var 4) (.callF 8 "nexts" (.var 0) [(.var 2)]))) (elt := run (cx (n + 1)) (.var 4)) (own := [4]) (ρ := [D1 (Wy k m ps), D1 (.int o), D1 (.int t), .unset, .unset]) PySem.PyData.int (fun p => decide (p ∈ nx m ps t)) (fun p => .val (.int p)) (nx m ps o) [] fun p hp => by
    have hin := in_ints (i := p) (l := nx m ps t)
    refine ⟨[D1 (Wy k m ps), D1 (.int o), D1 (.int t), .unset, D1 (.int p)], [D1 (Wy k m ps), D1 (.int o), D1 (.int t), .unset, D1 (.int p)], by simp [putVar_eq], ?_, fun _ => by simp, fun _ => ⟨_, by simp; rfl, by simp⟩⟩
    unfold lD at c2
    generalize (nx m ps t).map PySem.PyData.int = L at *
    generalize Wy k m ps = W at *
    simp [cl8, w8, c2, datS, hin]
  have fz := freezes_mapT2 (fun p : Int => MV.val (.int p)) PySem.PyData.int (fun _ => rfl) (bth m ps o t)
  have hle : (bth m ps o t).length < 2000 := Nat.lt_of_le_of_lt (List.length_filter_le _ _) (nx_len hpl)
  have hz : ((bth m ps o t).map fun p => MV.val (.int p)).length < 1000001 := by rw [List.length_map]; omega
  have hll : (((bth m ps o t).map PySem.PyData.int).length : Int) = ((bth m ps o t).length : Int) := by rw [List.length_map]
  have h1' : compL (.name 4) .val (some (run (cx (n + 1)) (.cmp .isin (.var 4) (.callF 8 "nexts" (.var 0) [(.var 2)])))) (run (cx (n + 1)) (.var 4)) [4] ((nx m ps o).map .int) [] [D1 (Wy k m ps), D1 (.int o), D1 (.int t), .unset, .unset] = some ([] ++ (bth m ps o t).map fun p => .val (.int p), [D1 (Wy k m ps), D1 (.int o), D1 (.int t), .unset, .unset]) := h1
  have a0 : 1 < (bth m ps o t).length → L2.atI ((bth m ps o t).map PySem.PyData.int) 0 = some (.int ((bth m ps o t).getD 0 0)) := fun h => by
    refine L2.atI_nat (j := 0) ?_
    rw [List.getElem?_map, List.getElem?_eq_getElem (by omega), List.getD_eq_getElem?_getD, List.getElem?_eq_getElem (by omega)]; rfl
  have a1 : 1 < (bth m ps o t).length → L2.atI ((bth m ps o t).map PySem.PyData.int) 1 = some (.int ((bth m ps o t).getD 1 0)) := fun h => by
    refine L2.atI_nat (j := 1) ?_
    rw [List.getElem?_map, List.getElem?_eq_getElem (by omega), List.getD_eq_getElem?_getD, List.getElem?_eq_getElem (by omega)]; rfl
  unfold rg4 lD at *
  by_cases hc : 1 < (bth m ps o t).length
  · rw [if_pos hc]
    have b0 := a0 hc
    have b1 := a1 hc
    have hd : (1 : Int) < ((bth m ps o t).length : Int) := by omega
    clear a0 a1 h1
    generalize (bth m ps o t).getD 0 0 = x0 at *
    generalize (bth m ps o t).getD 1 0 = x1 at *
    generalize ((bth m ps o t).length : Int) = ln at *
    generalize (bth m ps o t).map (fun p => MV.val (.int p)) = M at *
    generalize (bth m ps o t).map PySem.PyData.int = L at *
    generalize (nx m ps o).map PySem.PyData.int = L1 at *
    generalize Wy k m ps = W at *
    simp [b12_0, exes_cons, cl8, w8, c1, datS, h1', fz, hz, hll, hd, b0, b1, putVar_eq]
  · rw [if_neg hc]
    have hd : ¬ (1 : Int) < ((bth m ps o t).length : Int) := by omega
    clear a0 a1 h1
    generalize ((bth m ps o t).length : Int) = ln at *
    generalize (bth m ps o t).map (fun p => MV.val (.int p)) = M at *
    generalize (bth m ps o t).map PySem.PyData.int = L at *
    generalize (nx m ps o).map PySem.PyData.int = L1 at *
    generalize Wy k m ps = W at *
    simp [b12_0, exes_cons, cl8, w8, c1, datS, h1', fz, hz, hll, hd, putVar_eq]
theorem find_map {α β γ : Type} (f : α → Option β) (g : α → β → γ) : ∀ xs : List α, xs.findSome? (fun a => (f a).map (g a)) = (xs.findSome? fun a => (f a).map fun b => (a, b)).map fun x => g x.1 x.2
  | [] => rfl
  | a :: xs => by
    rw [List.findSome?_cons, List.findSome?_cons, find_map f g xs]
    cases f a <;> rfl
theorem find_snd {α β : Type} (f : α → Option β) : ∀ xs : List α, (xs.findSome? fun a => (f a).map fun b => (a, b)).map (·.2) = xs.findSome? f
  | [] => rfl
  | a :: xs => by
    rw [List.findSome?_cons, List.findSome?_cons]
    cases h : f a with
    | none => exact find_snd f xs
    | some b => rfl
theorem row_turn {n N : Nat} {k o : Int} {m : Bool} {ps : Pl} (hk : k = N) (hN : N ≤ 12) (h0 : 0 ≤ o) (h1 : o < N) (hpl : ps.length < 1000) :
    ∃ ρ', exes (cx (n + 1)) b12_1 [D1 (Wy k m ps), D1 (.int o), .unset, .unset, .unset] = some (match ((rg N).filter fun t => decide (o < t)).findSome? (fun t => rg4 m ps o t) with | none => (.next, [D1 (Wy k m ps), .unset, .unset, .unset, .unset]) | some l => (.ret (.val (.tuple (l.map .int))), D1 (Wy k m ps) :: ρ')) := by
  have w1 := wf1 (k := k) (m := m) (ps := ps)
  have hf := forL_find (tg := .name 2) (fl := .val) (body := exes (cx (n + 1)) b12_0) (ρ := [D1 (Wy k m ps), D1 (.int o), .unset, .unset, .unset]) PySem.PyData.int (fun t => (rg4 m ps o t).map fun l => (MV.val (.tuple (l.map .int)), [D1 (Wy k m ps), D1 (.int o), D1 (.int t), D1 (lD (bth m ps o t)), .unset])) ((rg N).filter fun t => decide (o < t)) fun t ht => by
    refine ⟨[D1 (Wy k m ps), D1 (.int o), D1 (.int t), .unset, .unset], by simp [putVar_eq], ?_⟩
    rw [pair_turn hpl]
    cases rg4 m ps o t <;> rfl
  rw [find_map (fun t => rg4 m ps o t) (fun t l => (MV.val (.tuple (l.map .int)), [D1 (Wy k m ps), D1 (.int o), D1 (.int t), D1 (lD (bth m ps o t)), .unset]))] at hf
  have hs := find_snd (fun t => rg4 m ps o t) ((rg N).filter fun t => decide (o < t))
  have hI : runI (cx (n + 1)) (.rng2 (.bin .add (.var 1) (.cst (.int 1))) (.fld (.var 0) "own_people")) [D1 (Wy k m ps), D1 (.int o), .unset, .unset, .unset] = some (((rg N).filter fun t => decide (o < t)).map .int, .val, [D1 (Wy k m ps), D1 (.int o), .unset, .unset, .unset], []) := by
    have r1 := inR (k := o + 1) (by omega) (by omega)
    have r2 := inR (k := k) (by omega) (by omega)
    have ra := rng_after (N := N) h0 h1
    rw [← hk] at ra
    generalize Wy k m ps = W at *
    simp [w1, r1, r2, ra]
  have t1 : exe (cx (n + 1)) (.forS (.name 2) (.rng2 (.bin .add (.var 1) (.cst (.int 1))) (.fld (.var 0) "own_people")) b12_0) [D1 (Wy k m ps), D1 (.int o), .unset, .unset, .unset] = ((forL (.name 2) .val (exes (cx (n + 1)) b12_0) (((rg N).filter fun t => decide (o < t)).map .int) [D1 (Wy k m ps), D1 (.int o), .unset, .unset, .unset]).bind fun f => some (f.1, unl [] (clrT (.name 2) f.2))) := by
    rw [exe_for, hI, Option.bind_some]
  cases hx : ((rg N).filter fun t => decide (o < t)).findSome? (fun t => (rg4 m ps o t).map fun l => (t, l)) with
  | none =>
    rw [hx] at hf hs
    rw [← hs]
    refine ⟨[], ?_⟩
    show exes (cx (n + 1)) [_, _] _ = _
    rw [exes_cons, t1, hf]
    rfl
  | some x =>
    rw [hx] at hf hs
    rw [← hs]
    refine ⟨[D1 (.int o), D1 (.int x.1), D1 (lD (bth m ps o x.1)), .unset], ?_⟩
    show exes (cx (n + 1)) [_, _] _ = _
    rw [exes_cons, t1, hf]
    rfl
theorem ringW_ok {n N : Nat} {k : Int} {m : Bool} {ps : Pl} (hk : k = N) (hN : N ≤ 12) (hpl : ps.length < 1000) : sem (n + 2) 12 [D1 (Wy k m ps)] = some (.val (optT (ring4 N m ps)), [D1 (Wy k m ps)]) := by
  have w1 := wf1 (k := k) (m := m) (ps := ps)
  have key : ∀ xs : List Int, (∀ o ∈ xs, 0 ≤ o ∧ o < N) → ∃ ρ', forL (.name 1) .val (exes (cx (n + 1)) b12_1) (xs.map .int) [D1 (Wy k m ps), .unset, .unset, .unset, .unset] = some (match xs.findSome? (fun o => ((rg N).filter fun t => decide (o < t)).findSome? fun t => rg4 m ps o t) with | none => (.next, [D1 (Wy k m ps), .unset, .unset, .unset, .unset]) | some l => (.ret (.val (.tuple (l.map .int))), D1 (Wy k m ps) :: ρ')) := fun xs => by
    induction xs with
    | nil => intro _; exact ⟨[], rfl⟩
    | cons o xs ih =>
      intro h
      obtain ⟨ρ1, e1⟩ := row_turn (n := n) (m := m) (ps := ps) hk hN (h o List.mem_cons_self).1 (h o List.mem_cons_self).2 hpl
      obtain ⟨ρ2, e2⟩ := ih fun x hx => h x (List.mem_cons_of_mem _ hx)
      have hb : bindT (.name 1) (childFl .val (.int o)) (.int o) [D1 (Wy k m ps), .unset, .unset, .unset, .unset] = some [D1 (Wy k m ps), D1 (.int o), .unset, .unset, .unset] := by simp [putVar_eq]
      rw [List.findSome?_cons]
      cases hx : ((rg N).filter fun t => decide (o < t)).findSome? (fun t => rg4 m ps o t) with
      | none =>
        rw [hx] at e1
        refine ⟨ρ2, ?_⟩
        show (bindT (.name 1) (childFl .val (.int o)) (.int o) _).bind _ = _
        rw [hb, Option.bind_some, e1]
        exact e2
      | some l =>
        rw [hx] at e1
        refine ⟨ρ1, ?_⟩
        show (bindT (.name 1) (childFl .val (.int o)) (.int o) _).bind _ = _
        rw [hb, Option.bind_some, e1]
        rfl
  obtain ⟨ρ', hf⟩ := key (rg N) fun o ho => mem_rg.mp ho
  have hI : runI (cx (n + 1)) (.rng1 (.fld (.var 0) "own_people")) [D1 (Wy k m ps), .unset, .unset, .unset, .unset] = some ((rg N).map .int, .val, [D1 (Wy k m ps), .unset, .unset, .unset, .unset], []) := by
    have hr := inR (k := k) (by omega) (by omega)
    have hkt : k.toNat = N := by omega
    have hrd := rangeD_rg N
    generalize Wy k m ps = W at *
    simp [w1, hr, hkt, hrd]
  have hf' : forL (.name 1) .val (exes (cx (n + 1)) b12_1) ((rg N).map .int) [D1 (Wy k m ps), .unset, .unset, .unset, .unset] = some (match ring4 N m ps with | none => (.next, [D1 (Wy k m ps), .unset, .unset, .unset, .unset]) | some l => (.ret (.val (.tuple (l.map .int))), D1 (Wy k m ps) :: ρ')) := hf
  rw [sem, def_eq (d := d12) rfl rfl]
  show ((exes (cx (n + 1)) [.forS (.name 1) (.rng1 (.fld (.var 0) "own_people")) b12_1, _] [D1 (Wy k m ps), .unset, .unset, .unset, .unset]).bind _) = _
  rw [exes_cons, exe_for, hI, Option.bind_some]
  show ((thenS ((forL (.name 1) .val (exes (cx (n + 1)) b12_1) ((rg N).map .int) [D1 (Wy k m ps), .unset, .unset, .unset, .unset]).bind _) _).bind _) = _
  rw [hf']
  cases ring4 N m ps with
  | none => rfl
  | some x =>
    have ht : (clrT (.name 1) (D1 (Wy k m ps) :: ρ')).take 1 = [D1 (Wy k m ps)] := by
      unfold clrT
      split
      · cases ρ' <;> rfl
      · rfl
    show some (_, (clrT (.name 1) (D1 (Wy k m ps) :: ρ')).take 1) = _
    rw [ht]
    rfl
end Lk73
set_option maxHeartbeats 4000000
namespace Lk73
open Q EM
def swp (e : Int × Int) : Int × Int := (e.2, e.1)
/-- by telling: all to one, then from one to all -/
def tld (N : Nat) (m : Bool) (ps iw : Pl) (r : Int) : Option Pl := if (fo N false m ps [r]).length + 1 < N then none else some (iw ++ (fo N false m ps [r]).map swp)
def optL : Option Pl → D
  | none => .none
  | some l => .list (l.map pD)
theorem told_ok {n N : Nat} {k r : Int} {m : Bool} {ps iw : Pl} (hk : k = N) (hN : N ≤ 12) (hp : In N ps) (hpl : ps.length < 1000) (h0 : 0 ≤ r) (h1 : r < N) (hiw : iw.length < 1000) : sem (n + 3) 13 [D1 (Wy k m ps), D1 (.list (iw.map pD)), D1 (.int r)] = some (.val (optL (tld N m ps iw r)), [D1 (Wy k m ps), D1 (.list (iw.map pD)), D1 (.int r)]) := by
  have w1 := wf1 (k := k) (m := m) (ps := ps)
  have w10 := wo (k := k) (m := m) (ps := ps) (x := "forest") (by kernel_rfl)
  have cf : runDef defs consts kws (n + 2) 10 [D1 (Wy k m ps), D1 (.list [.int r]), D1 (.bool false)] = _ := forest_ok (n := n) (k := k) (b := false) (m := m) (src := [r]) (.inl rfl) hN hp hpl (by simp) (fun x hx => by rw [List.mem_singleton.mp hx]; exact ⟨h0, h1⟩)
  have fl : (fo N false m ps [r]).length ≤ N := fo_len hp (by simp) (fun x hx => by rw [List.mem_singleton.mp hx]; exact ⟨h0, h1⟩)
  unfold tld
  generalize fo N false m ps [r] = F at *
  have hle : ((F.map pD).length : Int) = (F.length : Int) := by rw [List.length_map]
  have hc := compL_mapT (tg := .tup [(.name 4), (.name 5)]) (fl := .val) (elt := run (cx (n + 2)) (.tup [(.var 5), (.var 4)])) (own := [4, 5]) (ρ := [D1 (Wy k m ps), D1 (.list (iw.map pD)), D1 (.int r), D1 (.list (F.map pD)), .unset, .unset]) pD (fun e => .val (pD (swp e))) F [] fun e he => by
    refine ⟨[D1 (Wy k m ps), D1 (.list (iw.map pD)), D1 (.int r), D1 (.list (F.map pD)), D1 (.int e.1), D1 (.int e.2)], [D1 (Wy k m ps), D1 (.list (iw.map pD)), D1 (.int r), D1 (.list (F.map pD)), D1 (.int e.1), D1 (.int e.2)], by simp [pD, putVar_eq], ?_, by simp⟩
    unfold pD swp
    simp
  have fz := freezes_mapT2 (fun e => MV.val (pD (swp e))) (fun e => pD (swp e)) (fun _ => rfl) F
  have em : (F.map fun e => pD (swp e)) = (F.map swp).map pD := by rw [List.map_map]; rfl
  rw [em] at fz
  have hz : (F.map fun e => MV.val (pD (swp e))).length < 1000001 := by rw [List.length_map]; omega
  have hz2 : (iw.map pD).length + ((F.map swp).map pD).length ≤ PySem.sizeLine := by
    rw [List.length_map, List.length_map, List.length_map]
    exact Nat.le_trans (show _ ≤ 1100 by omega) (by decide)
  by_cases hlt : F.length + 1 < N
  · rw [if_pos hlt]
    have hd : (F.length : Int) < k - 1 := by omega
    generalize (F.length : Int) = ln at *
    generalize F.map pD = L at *
    generalize iw.map pD = I at *
    generalize Wy k m ps = W at *
    rw [sem, def_eq (d := d13) rfl rfl]
    simp [d13, exes_cons, cl10, w10, cf, datS, w1, hle, hd, optL, putVar_eq]
  · rw [if_neg hlt]
    have hd : ¬ (F.length : Int) < k - 1 := by omega
    have eo : optL (some (iw ++ F.map swp)) = .list (iw.map pD ++ (F.map swp).map pD) := by
      show PySem.PyData.list _ = _
      rw [List.map_append]
    rw [eo]
    generalize (F.length : Int) = ln at *
    generalize (F.map fun e => MV.val (pD (swp e))) = M at *
    generalize (F.map swp).map pD = S at *
    generalize F.map pD = L at *
    generalize iw.map pD = I at *
    generalize Wy k m ps = W at *
    rw [sem, def_eq (d := d13) rfl rfl]
    simp [d13, exes_cons, cl10, w10, cf, datS, w1, hle, hd, hc, fz, hz, hz2, putVar_eq]
/-- by meetings: to one and back, or by a ring -/
def met (N : Nat) (m : Bool) (ps iw : Pl) : Pl := match ring4 N m ps with
  | none => iw ++ (iw.take (iw.length - 1)).reverse
  | some l => (fo N true m ps l).reverse ++ [(l.getD 0 0, l.getD 1 0), (l.getD 2 0, l.getD 3 0), (l.getD 1 0, l.getD 2 0), (l.getD 0 0, l.getD 3 0)] ++ fo N true m ps l
theorem ring4_four {N : Nat} {m : Bool} {ps : Pl} {l : List Int} (h : ring4 N m ps = some l) : ∃ a b c d, l = [a, b, c, d] := by
  unfold ring4 at h
  obtain ⟨o, _, h⟩ := List.exists_of_findSome?_eq_some h
  obtain ⟨t, _, h⟩ := List.exists_of_findSome?_eq_some h
  unfold rg4 at h
  split at h
  · cases h; exact ⟨_, _, _, _, rfl⟩
  · cases h
theorem met_ok {n N : Nat} {k : Int} {m : Bool} {ps iw : Pl} (hk : k = N) (hN : N ≤ 12) (hp : In N ps) (hpl : ps.length < 1000) (hiw : iw.length < 1000) (hnd : ∀ l, ring4 N m ps = some l → l.Nodup ∧ ∀ x ∈ l, 0 ≤ x ∧ x < N) : sem (n + 3) 14 [D1 (Wy k m ps), D1 (.list (iw.map pD))] = some (.val (.list ((met N m ps iw).map pD)), [D1 (Wy k m ps), D1 (.list (iw.map pD))]) := by
  have w10 := wo (k := k) (m := m) (ps := ps) (x := "forest") (by kernel_rfl)
  have w12 := wo (k := k) (m := m) (ps := ps) (x := "ring") (by kernel_rfl)
  have cr : runDef defs consts kws (n + 2) 12 [D1 (Wy k m ps)] = _ := ringW_ok (n := n) (m := m) (ps := ps) hk hN hpl
  unfold met
  cases hr : ring4 N m ps with
  | none =>
    rw [hr] at cr
    have em : (iw ++ (iw.take (iw.length - 1)).reverse).map pD = iw.map pD ++ ((iw.map pD).take ((iw.map pD).length - 1)).reverse := by
      rw [List.map_append, List.map_reverse, List.map_take, List.length_map]
    have hz : (iw.map pD).length + ((iw.map pD).take ((iw.map pD).length - 1)).reverse.length ≤ PySem.sizeLine := by
      rw [List.length_reverse, List.length_take, List.length_map]
      exact Nat.le_trans (show _ ≤ 2000 by omega) (by decide)
    rw [em]
    generalize iw.map pD = I at *
    generalize Wy k m ps = W at *
    rw [sem, def_eq (d := d14) rfl rfl]
    have cr' : runDef defs consts kws (n + 2) 12 [D1 W] = some (.val .none, [D1 W]) := cr
    have fr : freezes (List.take (I.length - 1) (List.map MV.val I)).reverse = (I.take (I.length - 1)).reverse := by
      rw [← List.map_take]; exact frz_rev _
    have hx : extR .rev2 [(.list I, .val)] = some (.lst ((I.take (I.length - 1)).reverse.map .val)) := rfl
    have hz' : I.length + (I.length - 1) ≤ PySem.sizeLine := by
      rw [List.length_reverse, List.length_take] at hz
      omega
    have fx : freezes (List.map MV.val I ++ (List.take (I.length - 1) (List.map MV.val I)).reverse) = I ++ (I.take (I.length - 1)).reverse := by
      have e : List.map MV.val I ++ (List.take (I.length - 1) (List.map MV.val I)).reverse = (I ++ (I.take (I.length - 1)).reverse).map MV.val := by simp
      rw [e, freezes_mapT2 MV.val (fun d => d) (fun _ => rfl), List.map_id']
    simp [d14, exes_cons, cl12, w12, cr', datS, hx, fr, hz', fx, putVar_eq]
  | some l =>
    rw [hr] at cr
    obtain ⟨hn1, hn2⟩ := hnd l hr
    obtain ⟨a, b, c, d, rfl⟩ := ring4_four hr
    have cf : runDef defs consts kws (n + 2) 10 [D1 (Wy k m ps), D1 (.tuple [.int a, .int b, .int c, .int d]), D1 (.bool true)] = some (.val (.list ((fo N true m ps [a, b, c, d]).map pD)), [D1 (Wy k m ps), D1 (.tuple [.int a, .int b, .int c, .int d]), D1 (.bool true)]) := forest_ok (n := n) (k := k) (b := true) (m := m) (src := [a, b, c, d]) (.inr rfl) hN hp hpl hn1 hn2
    have fl : (fo N true m ps [a, b, c, d]).length ≤ N := fo_len hp hn1 hn2
    show _ = some (MV.val (PySem.PyData.list (((fo N true m ps [a, b, c, d]).reverse ++ [(a, b), (c, d), (b, c), (a, d)] ++ fo N true m ps [a, b, c, d]).map pD)), _)
    have em : ((fo N true m ps [a, b, c, d]).reverse ++ [(a, b), (c, d), (b, c), (a, d)] ++ fo N true m ps [a, b, c, d]).map pD = ((fo N true m ps [a, b, c, d]).map pD).reverse ++ [.tuple [.int a, .int b], .tuple [.int c, .int d], .tuple [.int b, .int c], .tuple [.int a, .int d]] ++ (fo N true m ps [a, b, c, d]).map pD := by
      rw [List.map_append, List.map_append, List.map_reverse]; rfl
    rw [em]
    have hll : ((fo N true m ps [a, b, c, d]).map pD).length ≤ 12 := by rw [List.length_map]; omega
    generalize (fo N true m ps [a, b, c, d]).map pD = F at *
    generalize iw.map pD = I at *
    generalize Wy k m ps = W at *
    have cr' : runDef defs consts kws (n + 2) 12 [D1 W] = some (.val (.tuple [.int a, .int b, .int c, .int d]), [D1 W]) := cr
    have fr := frz_rev F
    have z1 : F.length + 4 ≤ PySem.sizeLine := Nat.le_trans (show F.length + 4 ≤ 16 by omega) (by decide)
    have z2 : F.length + 4 + F.length ≤ PySem.sizeLine := Nat.le_trans (show _ ≤ 28 by omega) (by decide)
    rw [sem, def_eq (d := d14) rfl rfl]
    simp [d14, exes_cons, cl12, w12, cl10, w10, cr', cf, datS, fr, z1, z2, putVar_eq]
/-- a plan of pairs with as few as can be -/
def plW (N : Nat) (m s : Bool) (ps : Pl) : Option Pl := match inw N m ps with
  | none => none
  | some x => if s then some x.1 else if m then some (met N m ps x.1) else tld N m ps x.1 x.2
theorem inw_in {N : Nat} {m : Bool} {ps : Pl} (hp : In N ps) {x : Pl × Int} (h : inw N m ps = some x) : (0 ≤ x.2 ∧ x.2 < N) ∧ x.1.length + 1 = N ∧ x.1 = (fo N true m ps [x.2]).reverse := by
  unfold inw at h
  obtain ⟨r, hr, h⟩ := List.exists_of_findSome?_eq_some h
  split at h
  · rename_i hl
    cases h
    exact ⟨mem_rg.mp hr, by rw [List.length_reverse]; exact hl, rfl⟩
  · cases h
theorem plan_ok {n N : Nat} {k : Int} {m s : Bool} {ps : Pl} (hk : k = N) (hN : N ≤ 12) (hp : In N ps) (hpl : ps.length < 1000) (hnd : ∀ l, ring4 N m ps = some l → l.Nodup ∧ ∀ x ∈ l, 0 ≤ x ∧ x < N) {gd : D} (w1 : eqD gd (.str "somebody") = some s) :
    sem (n + 4) 15 [D1 (Wy k m ps), D1 gd] = some (.val (optL (plW N m s ps)), [D1 (Wy k m ps), D1 gd]) := by
  have w2 := wf2 (k := k) (m := m) (ps := ps)
  have w11 := wo (k := k) (m := m) (ps := ps) (x := "inward") (by kernel_rfl)
  have w13 := wo (k := k) (m := m) (ps := ps) (x := "told_all") (by kernel_rfl)
  have w14 := wo (k := k) (m := m) (ps := ps) (x := "met_all") (by kernel_rfl)
  have ci : runDef defs consts kws (n + 3) 11 [D1 (Wy k m ps)] = _ := inward_ok (n := n) (m := m) hk hN hp hpl
  unfold plW
  cases hi : inw N m ps with
  | none =>
    rw [hi] at ci
    have ci' : runDef defs consts kws (n + 3) 11 [D1 (Wy k m ps)] = some (.val .none, [D1 (Wy k m ps)]) := ci
    generalize Wy k m ps = W at *
    rw [sem, def_eq (d := d15) rfl rfl]
    simp [d15, exes_cons, cl11, w11, ci', datS, optL, putVar_eq]
  | some x =>
    rw [hi] at ci
    obtain ⟨⟨r0, r1⟩, xl, _⟩ := inw_in hp hi
    have ci' : runDef defs consts kws (n + 3) 11 [D1 (Wy k m ps)] = some (.val (.tuple [.list (x.1.map pD), .int x.2]), [D1 (Wy k m ps)]) := ci
    have cm : runDef defs consts kws (n + 3) 14 [D1 (Wy k m ps), D1 (.list (x.1.map pD))] = _ := met_ok (n := n) (m := m) (iw := x.1) hk hN hp hpl (by omega) hnd
    have ct : runDef defs consts kws (n + 3) 13 [D1 (Wy k m ps), D1 (.list (x.1.map pD)), D1 (.int x.2)] = _ := told_ok (n := n) (m := m) (iw := x.1) hk hN hp hpl r0 r1 (by omega)
    cases s with
    | true =>
      show _ = some (MV.val (PySem.PyData.list (x.1.map pD)), _)
      generalize x.1.map pD = X at *
      generalize Wy k m ps = W at *
      rw [sem, def_eq (d := d15) rfl rfl]
      simp [d15, exes_cons, cl11, w11, ci', datS, cs1, w1, at_pair0, putVar_eq]
    | false =>
      cases m with
      | true =>
        show _ = some (MV.val (PySem.PyData.list ((met N true ps x.1).map pD)), _)
        generalize (met N true ps x.1).map pD = Y at *
        generalize x.1.map pD = X at *
        generalize Wy k true ps = W at *
        rw [sem, def_eq (d := d15) rfl rfl]
        simp [d15, exes_cons, cl11, w11, cl14, w14, ci', cm, w2, datS, cs1, w1, at_pair0, at_pair1, putVar_eq]
      | false =>
        show _ = some (MV.val (optL (tld N false ps x.1 x.2)), _)
        generalize optL (tld N false ps x.1 x.2) = Y at *
        generalize x.1.map pD = X at *
        generalize Wy k false ps = W at *
        rw [sem, def_eq (d := d15) rfl rfl]
        simp [d15, exes_cons, cl11, w11, cl13, w13, ci', ct, w2, datS, cs1, w1, at_pair0, at_pair1, putVar_eq]
end Lk73
set_option maxHeartbeats 4000000
namespace Lk73
open Q EM
def up2 (e : Int × Int) : Int × Int := if e.2 < e.1 then (e.2, e.1) else e
theorem sortW {e : Int × Int} : bltR .sortD [(pD e, .val)] = some (.lst [.val (.int (up2 e).1), .val (.int (up2 e).2)]) := by
  have h1 : sortDs [.int e.1, .int e.2] = [.int (up2 e).1, .int (up2 e).2] := by
    show insD (.int e.1) (insD (.int e.2) []) = _
    show (if PySem.W.dataLt (.int e.2) (.int e.1) then _ else _) = _
    rw [PySem.W.dataLt_int]
    unfold up2
    by_cases h : e.2 < e.1
    · rw [if_pos (by simpa using h), if_pos h]; rfl
    · rw [if_neg (by simpa using h), if_neg h]
  have h2 : sortOk [.int e.1, .int e.2] = true := by
    simp [sortOk, alikes, PySem.W.alike, tup1, noTup, PySem.PyData.depthAll, PySem.PyData.depth, plainDs, plainD, PySem.sizeLine]
  show (if sortOk [.int e.1, .int e.2] && !badFl .val [.int e.1, .int e.2] then some (MV.lst ((sortDs [.int e.1, .int e.2]).map .val)) else none) = _
  rw [h2, h1]; rfl
/-- the plan that is told -/
def mpl (N : Nat) (m s : Bool) (ps : Pl) : Option Pl := (plW N m s ps).map fun l => l.map fun e => if m then up2 e else e
def optM : Option Pl → D
  | none => .none
  | some l => .tuple (l.map pD)
theorem plW_len {N : Nat} (hN : N ≤ 12) {m s : Bool} {ps l : Pl} (hp : In N ps) (hnd : ∀ l, ring4 N m ps = some l → l.Nodup ∧ ∀ x ∈ l, 0 ≤ x ∧ x < N) (h : plW N m s ps = some l) : l.length < 100 := by
  unfold plW at h
  cases hi : inw N m ps with
  | none => rw [hi] at h; cases h
  | some x =>
    rw [hi] at h
    obtain ⟨hr, xl, _⟩ := inw_in hp hi
    dsimp only at h
    split at h
    · cases h; omega
    · split at h
      · cases h
        unfold met
        cases hr4 : ring4 N m ps with
        | none =>
          dsimp only
          rw [List.length_append, List.length_reverse, List.length_take]; omega
        | some r =>
          obtain ⟨n1, n2⟩ := hnd r hr4
          have := fo_len (b := true) (m := m) hp n1 n2
          dsimp only
          simp only [List.length_append, List.length_reverse, List.length_cons, List.length_nil]
          omega
      · unfold tld at h
        split at h
        · cases h
        · cases h
          have := fo_len (b := false) (m := m) (src := [x.2]) hp (by simp) (fun y hy => by rw [List.mem_singleton.mp hy]; exact hr)
          rw [List.length_append, List.length_map]; omega
theorem meeting_ok {n N : Nat} {k : Int} {m s : Bool} {ps : Pl} (hk : k = N) (hN : N ≤ 12) (hp : In N ps) (hpl : ps.length < 1000) (hnd : ∀ l, ring4 N m ps = some l → l.Nodup ∧ ∀ x ∈ l, 0 ≤ x ∧ x < N) {d gd : D} (hd : PlD ps d) (w1 : eqD gd (.str "somebody") = some s) :
    sem (n + 5) 16 [D1 (.int k), D1 (wy m), D1 d, D1 gd] = some (.val (optM (mpl N m s ps)), [D1 (.int k), D1 (wy m), D1 d, D1 gd]) := by
  have ini : runDef defs consts kws (n + 4) 7 [.io (.nd (.obj "Ways" []) []), D1 (.int k), D1 (wy m), D1 d] = _ := init_ok (n := n) (k := k) (m := m) (pl := ps) (by omega) hd
  have pc : runDef defs consts kws (n + 4) 15 [D1 (Wy k m ps), D1 gd] = _ := plan_ok (n := n) (m := m) hk hN hp hpl hnd w1
  have w15 := wo (k := k) (m := m) (ps := ps) (x := "plan") (by kernel_rfl)
  have we := wy_eq m
  have fW : freeze (.nd (.obj "Ways" ["own_people", "own_is_meet", "own_pairs"]) [.val (.int k), .val (.bool m), .val (.tuple (ps.map pD))]) = Wy k m ps := by kernel_rfl
  have s1 : ∀ rest, exes (cx (n + 4)) (.asg (.name 4) (.callF 15 "plan" (.mk "Ways" 7 [(.var 0), (.var 1), (.var 2)]) [(.var 3)]) :: .frzV 4 :: rest) [D1 (.int k), D1 (wy m), D1 d, D1 gd, .unset, .unset] = exes (cx (n + 4)) rest [D1 (.int k), D1 (wy m), D1 d, D1 gd, D1 (optL (plW N m s ps)), .unset] := fun rest => by
    generalize optL (plW N m s ps) = P at *
    generalize (MV.nd (.obj "Ways" ["own_people", "own_is_meet", "own_pairs"]) [.val (.int k), .val (.bool m), .val (.tuple (ps.map pD))]) = Mw at *
    generalize Wy k m ps = W at *
    generalize wy m = wm at *
    simp [exes_cons, cl15, ini, pc, datS, fW, w15, putVar_eq]
  rw [sem, def_eq (d := d16) rfl rfl]
  show ((exes (cx (n + 4)) (_ :: _ :: _) [D1 (.int k), D1 (wy m), D1 d, D1 gd, .unset, .unset]).bind _) = _
  rw [s1]
  unfold mpl
  cases hP : plW N m s ps with
  | none =>
    show _ = some (MV.val PySem.PyData.none, _)
    generalize wy m = wm at *
    simp [optL]
    rfl
  | some l =>
    have hl := plW_len hN hp hnd hP
    have hc := compL_mapT (tg := .name 5) (fl := .val) (elt := run (cx (n + 4)) (.ite (.cmp .eq (.var 1) (.gl 0)) (.blt .tuple [(.blt .sortD [(.var 5)])]) (.var 5))) (own := [5]) (ρ := [D1 (.int k), D1 (wy m), D1 d, D1 gd, D1 (.list (l.map pD)), .unset]) pD (fun e => .val (pD (if m then up2 e else e))) l [] fun e he => by
      refine ⟨[D1 (.int k), D1 (wy m), D1 d, D1 gd, D1 (.list (l.map pD)), D1 (pD e)], [D1 (.int k), D1 (wy m), D1 d, D1 gd, D1 (.list (l.map pD)), D1 (pD e)], by simp [putVar_eq], ?_, by simp⟩
      have sw := sortW (e := e)
      cases m with
      | true =>
        have e2 : pD (up2 e) = .tuple [.int (up2 e).1, .int (up2 e).2] := rfl
        show _ = some (MV.val (pD (up2 e)), _)
        rw [e2]
        generalize pD e = pe at *
        generalize wy true = wm at *
        simp [cs0, we, sw]
      | false =>
        show _ = some (MV.val (pD e), _)
        generalize pD e = pe at *
        generalize wy false = wm at *
        simp [cs0, we]
    have fz := freezes_mapT2 (fun e => MV.val (pD (if m then up2 e else e))) (fun e => pD (if m then up2 e else e)) (fun _ => rfl) l
    have em : (l.map fun e => pD (if m then up2 e else e)) = (l.map fun e => if m then up2 e else e).map pD := by rw [List.map_map]; rfl
    rw [em] at fz
    have hz : (l.map fun e => MV.val (pD (if m then up2 e else e))).length < 1000001 := by rw [List.length_map]; omega
    show _ = some (MV.val (PySem.PyData.tuple ((l.map fun e => if m then up2 e else e).map pD)), _)
    generalize (l.map fun e => if m then up2 e else e).map pD = Y at *
    generalize (l.map fun e => MV.val (pD (if m then up2 e else e))) = M at *
    have eo : optL (some l) = .list (l.map pD) := rfl
    rw [eo]
    generalize l.map pD = L at *
    generalize wy m = wm at *
    simp [exes_cons, hc, fz, hz]
    rfl
theorem fewest_ok {n N : Nat} {k : Int} {m s : Bool} {ps : Pl} (hk : k = N) (hN : N ≤ 12) (hp : In N ps) (hpl : ps.length < 1000) (hnd : ∀ l, ring4 N m ps = some l → l.Nodup ∧ ∀ x ∈ l, 0 ≤ x ∧ x < N) {d gd : D} (hd : PlD ps d) (w1 : eqD gd (.str "somebody") = some s) :
    sem (n + 6) 17 [D1 (.int k), D1 (wy m), D1 d, D1 gd] = some (.val (match mpl N m s ps with | none => .none | some l => .int (l.length : Int)), [D1 (.int k), D1 (wy m), D1 d, D1 gd]) := by
  have mc : runDef defs consts kws (n + 5) 16 [D1 (.int k), D1 (wy m), D1 d, D1 gd] = _ := meeting_ok (n := n) hk hN hp hpl hnd hd w1
  cases hP : mpl N m s ps with
  | none =>
    rw [hP] at mc
    have mc' : runDef defs consts kws (n + 5) 16 [D1 (.int k), D1 (wy m), D1 d, D1 gd] = some (.val .none, [D1 (.int k), D1 (wy m), D1 d, D1 gd]) := mc
    rw [sem, def_eq (d := d17) rfl rfl]
    generalize wy m = wm at *
    simp [d17, exes_cons, varOf, mc', putVar_eq]
  | some l =>
    rw [hP] at mc
    have mc' : runDef defs consts kws (n + 5) 16 [D1 (.int k), D1 (wy m), D1 d, D1 gd] = some (.val (.tuple (l.map pD)), [D1 (.int k), D1 (wy m), D1 d, D1 gd]) := mc
    have hl : ((l.map pD).length : Int) = (l.length : Int) := by rw [List.length_map]
    show _ = some (MV.val (PySem.PyData.int (l.length : Int)), _)
    generalize (l.length : Int) = ln at *
    generalize l.map pD = L at *
    rw [sem, def_eq (d := d17) rfl rfl]
    generalize wy m = wm at *
    simp [d17, exes_cons, varOf, mc', hl, putVar_eq]
end Lk73
set_option maxHeartbeats 4000000
namespace Q
open EM
/-! ### fewer than N - 1 meetings leave a pair unknown -/
theorem few_labels {N : Nat} (m : Bool) : ∀ (pl : Pl), ∃ (lab : Int → Int) (R : List Int), (∀ o p, gall m pl o p = true → lab o = lab p) ∧ (∀ x ∈ R, 0 ≤ x ∧ x < N) ∧ (R.Pairwise fun x y => lab x ≠ lab y) ∧ N ≤ R.length + pl.length := by
  intro pl
  have go : ∀ (pl : Pl) (K : Int → Int → Bool) (lab : Int → Int) (R : List Int), (∀ o p, K o p = true → lab o = lab p) → (∀ x ∈ R, 0 ≤ x ∧ x < N) → (R.Pairwise fun x y => lab x ≠ lab y) →
      ∃ (lab' : Int → Int) (R' : List Int), (∀ o p, pl.foldl (gstep m) K o p = true → lab' o = lab' p) ∧ (∀ x ∈ R', 0 ≤ x ∧ x < N) ∧ (R'.Pairwise fun x y => lab' x ≠ lab' y) ∧ R.length ≤ R'.length + pl.length := by
    intro pl
    induction pl with
    | nil => intro K lab R h1 h2 h3; exact ⟨lab, R, h1, h2, h3, Nat.le_refl _⟩
    | cons e pl ih =>
      intro K lab R h1 h2 h3
      have hlen : R.length ≤ (R.filter fun x => !decide (lab x = lab e.2)).length + 1 := by
        clear h2 ih
        induction R with
        | nil => simp
        | cons x R ihR =>
          obtain ⟨p1, p2⟩ := List.pairwise_cons.mp h3
          by_cases hx : lab x = lab e.2
          · have : R.filter (fun y => !decide (lab y = lab e.2)) = R := List.filter_eq_self.mpr fun y hy => by
              have := p1 y hy
              rw [hx] at this
              simp only [Bool.not_eq_true', decide_eq_false_iff_not]
              exact fun e => this e.symm
            rw [List.filter_cons_of_neg (by simp [hx]), this, List.length_cons]
            exact Nat.le_refl _
          · rw [List.filter_cons_of_pos (by simp [hx]), List.length_cons, List.length_cons]
            have := ihR p2
            omega
      have step := ih (gstep m K e) (fun x => if lab x = lab e.2 then lab e.1 else lab x) (if lab e.1 = lab e.2 then R else R.filter fun x => !decide (lab x = lab e.2)) (fun o p hk => ?_) (fun x hx => ?_) ?_
      · obtain ⟨lab', R', k1, k2, k3, k4⟩ := step
        refine ⟨lab', R', k1, k2, k3, ?_⟩
        rw [List.length_cons]
        split at k4 <;> omega
      · unfold gstep at hk
        split at hk
        · rename_i hc
          have hp : (if lab p = lab e.2 then lab e.1 else lab p) = lab e.1 := by
            rcases hc with rfl | ⟨_, rfl⟩
            · rw [if_pos rfl]
            · split <;> rfl
          rw [hp]
          rcases Bool.or_eq_true_iff.mp hk with h | h
          · rw [h1 _ _ h]; split <;> rfl
          · rw [if_pos (h1 _ _ h)]
        · rw [h1 _ _ hk]
      · split at hx
        · exact h2 x hx
        · exact h2 x (List.mem_filter.mp hx).1
      · by_cases he : lab e.1 = lab e.2
        · rw [if_pos he]
          refine h3.imp fun {x y} hxy => ?_
          rw [he]
          intro h
          apply hxy
          split at h <;> split at h <;> simp_all
        · rw [if_neg he]
          refine (List.Pairwise.filter _ h3).imp_of_mem fun {x y} hx hy hxy => ?_
          have hx := (List.mem_filter.mp hx).2
          have hy := (List.mem_filter.mp hy).2
          simp only [Bool.not_eq_true', decide_eq_false_iff_not] at hx hy
          rw [if_neg hx, if_neg hy]
          exact hxy
  have pw : (rg N).Pairwise fun x y => x ≠ y := (rg_up N).imp fun h => by omega
  obtain ⟨lab, R, h1, h2, h3, h4⟩ := go pl (fun o p => decide (o = p)) (fun x => x) (rg N) (fun o p h => of_decide_eq_true h) (fun x hx => mem_rg.mp hx) pw
  exact ⟨lab, R, h1, h2, h3, by rw [rg_len] at h4; exact h4⟩
theorem few_unknown {N : Nat} {m : Bool} {pl : Pl} (h : pl.length + 1 < N) : unk N (gall m pl) ≠ [] := by
  obtain ⟨lab, R, h1, h2, h3, h4⟩ := few_labels (N := N) m pl
  match R, h2, h3, h4 with
  | [], _, _, h4 => simp at h4; omega
  | [_], _, _, h4 => simp at h4; omega
  | x :: y :: R, h2, h3, _ =>
    have hxy : lab x ≠ lab y := (List.pairwise_cons.mp h3).1 y List.mem_cons_self
    have hx := h2 x List.mem_cons_self
    have hy := h2 y (List.mem_cons_of_mem _ List.mem_cons_self)
    have ne : x ≠ y := fun e => hxy (by rw [e])
    have key : ∀ a b : Int, 0 ≤ a → a < b → b < N → lab a ≠ lab b → (a, b) ∈ unk N (gall m pl) := fun a b a0 ab bN hl => by
      unfold unk
      refine List.mem_filter.mpr ⟨mem_prz.mpr ⟨a0, ab, bN⟩, ?_⟩
      cases hb : both N (gall m pl) (a, b) with
      | false => rfl
      | true =>
        unfold both at hb
        obtain ⟨p, _, hp⟩ := List.any_eq_true.mp hb
        rw [Bool.and_eq_true] at hp
        exact absurd ((h1 _ _ hp.1).trans (h1 _ _ hp.2).symm) hl
    intro hn
    rcases Int.lt_or_gt_of_ne ne with g | g
    · have := key x y hx.1 g hy.2 hxy
      rw [hn] at this; cases this
    · have := key y x hy.1 g hx.2 (fun e => hxy e.symm)
      rw [hn] at this; cases this
end Q
set_option maxHeartbeats 4000000
namespace Lk73
open Q EM
/-- what one scan adds -/
theorem scan_spec (s : Int) : ∀ (os : List Int) (q : List Int × Pl), ∃ ns : List Int, (os.foldl (fst' s) q).1 = q.1 ++ ns ∧ (os.foldl (fst' s) q).2 = q.2 ++ ns.map (fun o => (o, s)) ∧ (∀ o ∈ ns, o ∈ os) ∧ ∀ o ∈ os, o ∈ q.1 ++ ns
  | [], q => ⟨[], by simp, by simp, fun _ h => (nomatch h), fun _ h => (nomatch h)⟩
  | o :: os, q => by
    obtain ⟨ns, h1, h2, h3, h4⟩ := scan_spec s os (fst' s q o)
    by_cases hm : o ∈ q.1
    · have e : fst' s q o = q := by unfold fst'; rw [if_pos hm]
      rw [e] at h1 h2 h4
      refine ⟨ns, by rw [List.foldl_cons, e]; exact h1, by rw [List.foldl_cons, e]; exact h2, fun x hx => List.mem_cons_of_mem _ (h3 x hx), fun x hx => ?_⟩
      rcases List.mem_cons.mp hx with rfl | hx
      · exact List.mem_append_left _ hm
      · exact h4 x hx
    · have e : fst' s q o = (q.1 ++ [o], q.2 ++ [(o, s)]) := by unfold fst'; rw [if_neg hm]
      rw [e] at h1 h2 h4
      refine ⟨o :: ns, ?_, ?_, fun x hx => ?_, fun x hx => ?_⟩
      · rw [List.foldl_cons, e, h1]; simp
      · rw [List.foldl_cons, e, h2]; simp
      · rcases List.mem_cons.mp hx with rfl | hx
        · exact List.mem_cons_self
        · exact List.mem_cons_of_mem _ (h3 x hx)
      · rcases List.mem_cons.mp hx with rfl | hx
        · simp
        · have := h4 x hx
          simpa using this
/-- a set that nobody leaves -/
def Clo (nb : Int → List Int) (S : Int → Prop) : Prop := ∀ x, S x → ∀ o ∈ nb x, S o
/-- the forest: who is reached, and by whom -/
structure FW (nb : Int → List Int) (src K : List Int) (F : Pl) : Prop where
  ks : ∃ ns : List Int, K = src ++ ns ∧ F.map (·.1) = ns
  par : ∀ (i : Nat) e, F[i]? = some e → ∃ j, j < src.length + i ∧ K[j]? = some e.2 ∧ e.1 ∈ nb e.2
theorem walk_spec {N : Nat} {b m : Bool} {ps : Pl} (hp : In N ps) {src : List Int} : ∀ (j a : Nat) (K : List Int) (F : Pl), N < a + j → a ≤ K.length → FI N (K, F) → FW (nbr b m ps) src K F → (∀ i x, i < a → K[i]? = some x → ∀ o ∈ nbr b m ps x, o ∈ K) →
    FW (nbr b m ps) src (fwalk (nbr b m ps) j a (K, F)).1 (fwalk (nbr b m ps) j a (K, F)).2 ∧ (∀ x ∈ (fwalk (nbr b m ps) j a (K, F)).1, ∀ o ∈ nbr b m ps x, o ∈ (fwalk (nbr b m ps) j a (K, F)).1) ∧ ∀ S : Int → Prop, Clo (nbr b m ps) S → (∀ x ∈ K, S x) → ∀ x ∈ (fwalk (nbr b m ps) j a (K, F)).1, S x := by
  intro j
  induction j with
  | zero =>
    intro a K F hj ha h _ _
    have := h.len
    have : K.length ≤ N := this
    omega
  | succ j ih =>
    intro a K F hj ha h fw hc
    unfold fwalk
    by_cases hlt : a < K.length
    · rw [if_pos (show a < (K, F).1.length from hlt)]
      have hga : K[a]? = some (K.getD a 0) := by rw [List.getD_eq_getElem?_getD, List.getElem?_eq_getElem hlt]; rfl
      have hFI : FI N (fscan (nbr b m ps) a (K, F)) := by
        have := fwalk_FI (b := b) (m := m) hp 1 a (K, F) h
        unfold fwalk at this
        rw [if_pos (show a < (K, F).1.length from hlt)] at this
        exact this
      obtain ⟨ns, e1, e2, h3, h4⟩ := scan_spec (K.getD a 0) (nbr b m ps (K.getD a 0)) (K, F)
      have e1' : (fscan (nbr b m ps) a (K, F)).1 = K ++ ns := e1
      have e2' : (fscan (nbr b m ps) a (K, F)).2 = F ++ ns.map fun o => (o, K.getD a 0) := e2
      have eq : fscan (nbr b m ps) a (K, F) = (K ++ ns, F ++ ns.map fun o => (o, K.getD a 0)) := Prod.ext e1' e2'
      rw [eq] at hFI ⊢
      obtain ⟨⟨n0, k1, k2⟩, pr⟩ := fw
      have fl : F.length = n0.length := by rw [← k2, List.length_map]
      have kl : K.length = src.length + n0.length := by rw [k1, List.length_append]
      have step := ih (a + 1) (K ++ ns) (F ++ ns.map fun o => (o, K.getD a 0)) (by omega) (by rw [List.length_append]; omega) hFI ⟨⟨n0 ++ ns, by rw [k1, List.append_assoc], by rw [List.map_append, k2, List.map_map]; congr 1; exact List.map_id' ns⟩, fun i e he => ?_⟩ (fun i x hi hx => ?_)
      · obtain ⟨s1, s2, s3⟩ := step
        refine ⟨s1, s2, fun S hS hK => s3 S hS fun x hx => ?_⟩
        rcases List.mem_append.mp hx with hx | hx
        · exact hK x hx
        · exact hS (K.getD a 0) (hK _ (List.mem_of_getElem? hga)) x (h3 x hx)
      · by_cases hi : i < F.length
        · rw [List.getElem?_append_left hi] at he
          obtain ⟨j', q1, q2, q3⟩ := pr i e he
          exact ⟨j', q1, by rw [List.getElem?_append_left (List.getElem?_eq_some_iff.mp q2).1]; exact q2, q3⟩
        · rw [List.getElem?_append_right (by omega), List.getElem?_map] at he
          obtain ⟨o, ho, rfl⟩ := Option.map_eq_some_iff.mp he
          refine ⟨a, by omega, by rw [List.getElem?_append_left hlt]; exact hga, h3 o (List.mem_of_getElem? ho)⟩
      · by_cases hia : i < a
        · rw [List.getElem?_append_left (by omega)] at hx
          exact fun o ho => List.mem_append_left _ (hc i x hia hx o ho)
        · have : i = a := by omega
          subst this
          rw [List.getElem?_append_left hlt, hga] at hx
          cases hx
          exact h4
    · rw [if_neg (show ¬ a < (K, F).1.length from hlt)]
      refine ⟨fw, fun x hx => ?_, fun S _ hK => hK⟩
      obtain ⟨i, hi, rfl⟩ := List.getElem_of_mem hx
      exact hc i _ (by have : i < K.length := hi; omega) (List.getElem?_eq_getElem hi)
/-- who is reached -/
def rch (N : Nat) (b m : Bool) (ps : Pl) (src : List Int) : List Int := (fwalk (nbr b m ps) (N + 1) 0 (src, [])).1
theorem forest_spec {N : Nat} {b m : Bool} {ps : Pl} (hp : In N ps) {src : List Int} (hs : src.Nodup) (hsi : ∀ x ∈ src, 0 ≤ x ∧ x < N) :
    FI N (rch N b m ps src, fo N b m ps src) ∧ FW (nbr b m ps) src (rch N b m ps src) (fo N b m ps src) ∧ (∀ x ∈ rch N b m ps src, ∀ o ∈ nbr b m ps x, o ∈ rch N b m ps src) ∧ ∀ S : Int → Prop, Clo (nbr b m ps) S → (∀ x ∈ src, S x) → ∀ x ∈ rch N b m ps src, S x := by
  have h0 : FI N (src, []) := ⟨hs, hsi, Nat.zero_le _⟩
  have := walk_spec (b := b) (m := m) (src := src) hp (N + 1) 0 src [] (by omega) (Nat.zero_le _) h0 ⟨⟨[], by simp, rfl⟩, fun i e he => by simp at he⟩ (fun i x hi => by omega)
  exact ⟨fwalk_FI hp (N + 1) 0 (src, []) h0, this⟩
theorem rch_len {N : Nat} {b m : Bool} {ps : Pl} (hp : In N ps) {src : List Int} (hs : src.Nodup) (hsi : ∀ x ∈ src, 0 ≤ x ∧ x < N) : (rch N b m ps src).length = src.length + (fo N b m ps src).length := by
  obtain ⟨_, ⟨⟨ns, k1, k2⟩, _⟩, _⟩ := forest_spec (b := b) (m := m) hp hs hsi
  rw [k1, List.length_append, ← k2, List.length_map]
/-! ### all comes to one -/
theorem gstep_up {m : Bool} {K : Int → Int → Bool} {e : Int × Int} {o p : Int} (h : K o p = true) : gstep m K e o p = true := by
  unfold gstep
  split
  · rename_i hc
    rcases hc with rfl | ⟨_, rfl⟩ <;> simp [h]
  · exact h
theorem gstep_up2 {K : Int → Int → Bool} {e : Int × Int} : gstep true K (up2 e) = gstep true K e := by
  funext o p
  unfold up2
  split
  · unfold gstep
    by_cases h1 : p = e.1
    · subst h1
      simp [Bool.or_comm]
    · by_cases h2 : p = e.2
      · subst h2; simp [Bool.or_comm]
      · simp [h1, h2]
  · rfl
theorem gall_up2 (pl : Pl) : gall true (pl.map up2) = gall true pl := by
  unfold gall
  generalize (fun o p : Int => decide (o = p)) = K
  induction pl generalizing K with
  | nil => rfl
  | cons e pl ih => rw [List.map_cons, List.foldl_cons, List.foldl_cons, gstep_up2, ih]
/-- along a forest, the last one first: each look comes to the root (meetings or tellings) -/
theorem inward_all {nb : Int → List Int} {r : Int} {K : List Int} {F : Pl} (m : Bool) (fw : FW nb [r] K F) : ∀ x ∈ K, gall m F.reverse x r = true := by
  obtain ⟨⟨ns, k1, k2⟩, pr⟩ := fw
  -- behind the meetings from t on, each look is with one of the first t + 1
  have key : ∀ (t : Nat) (Kn : Int → Int → Bool), t ≤ F.length → (∀ x ∈ K, ∃ i y, i < 1 + t ∧ K[i]? = some y ∧ Kn x y = true) → ∀ x ∈ K, (F.take t).reverse.foldl (gstep m) Kn x r = true := by
    intro t
    induction t with
    | zero =>
      intro Kn _ h x hx
      obtain ⟨i, y, hi, hy, hk⟩ := h x hx
      have : i = 0 := by omega
      subst this
      rw [k1] at hy
      cases hy
      exact hk
    | succ t ih =>
      intro Kn ht h x hx
      have hg : F[t]? = some (F[t]'(by omega)) := List.getElem?_eq_getElem (by omega)
      generalize F[t]'(by omega) = e at hg
      rw [List.take_add_one, hg]
      show ((F.take t ++ [e]).reverse).foldl (gstep m) Kn x r = true
      rw [List.reverse_append, List.reverse_singleton, List.singleton_append, List.foldl_cons]
      refine ih (gstep m Kn e) (by omega) (fun x hx => ?_) x hx
      obtain ⟨i, y, hi, hy, hk⟩ := h x hx
      by_cases hlt : i < 1 + t
      · exact ⟨i, y, hlt, hy, gstep_up hk⟩
      · have hi' : i = 1 + t := by omega
        subst hi'
        obtain ⟨j, q1, q2, _⟩ := pr t e hg
        have he : y = e.1 := by
          have h2 : (F.map (·.1))[t]? = some e.1 := by rw [List.getElem?_map, hg]; rfl
          rw [k2] at h2
          rw [k1, List.getElem?_append_right (by simp)] at hy
          have : ns[t]? = some y := by
            have e0 : 1 + t - [r].length = t := by simp
            rwa [e0] at hy
          rw [h2] at this
          exact (Option.some.inj this).symm
        subst he
        refine ⟨j, e.2, by simpa using q1, q2, ?_⟩
        unfold gstep
        rw [if_pos (.inl rfl), hk]; rfl
  intro x hx
  have := key F.length (fun o p => decide (o = p)) (Nat.le_refl _) (fun x hx => by
    obtain ⟨i, hi, rfl⟩ := List.getElem_of_mem hx
    refine ⟨i, K[i], ?_, List.getElem?_eq_getElem hi, by simp⟩
    have : K.length = 1 + ns.length := by rw [k1]; simp; omega
    have : F.length = ns.length := by rw [← k2, List.length_map]
    omega) x hx
  rw [List.take_length] at this
  exact this
theorem unk_nil {N : Nat} {K : Int → Int → Bool} {r : Int} (h0 : 0 ≤ r) (h1 : r < N) (h : ∀ x : Int, 0 ≤ x → x < N → K x r = true) : unk N K = [] := by
  unfold unk
  rw [List.filter_eq_nil_iff]
  intro q hq
  have := mem_prz.mp hq
  have hb : both N K q = true := by
    unfold both
    exact List.any_eq_true.mpr ⟨r, mem_rg.mpr ⟨h0, h1⟩, by rw [h q.1 (by omega) (by omega), h q.2 (by omega) (by omega)]; rfl⟩
  rw [hb]; decide
theorem full_mem {N : Nat} {K : List Int} (nd : K.Nodup) (inn : ∀ x ∈ K, 0 ≤ x ∧ x < N) (hl : K.length = N) : ∀ x : Int, 0 ≤ x → x < N → x ∈ K := fun x h0 h1 => by
  by_cases hm : x ∈ K
  · exact hm
  · have := nodup_len (xs := x :: K) (N := N) (List.nodup_cons.mpr ⟨hm, nd⟩) (fun y hy => by
      rcases List.mem_cons.mp hy with rfl | hy
      · exact ⟨h0, h1⟩
      · exact inn y hy)
    rw [List.length_cons] at this
    omega
end Lk73
set_option maxHeartbeats 4000000
namespace Lk73
open Q EM
/-! ### meetings: who is joined -/
theorem nb_iff {ps : Pl} {x o : Int} : o ∈ nbr true true ps x ↔ (o, x) ∈ ps ∨ (x, o) ∈ ps := by
  unfold nbr bk
  rw [if_pos rfl, List.mem_append, List.mem_map, List.mem_map]
  constructor
  · rintro (⟨e, he, rfl⟩ | ⟨e, he, rfl⟩)
    · obtain ⟨h1, h2⟩ := List.mem_filter.mp he
      have := of_decide_eq_true h2
      exact .inl (by rw [← this]; exact h1)
    · obtain ⟨h1, h2⟩ := List.mem_filter.mp he
      rw [Bool.and_true] at h2
      have := of_decide_eq_true h2
      exact .inr (by rw [← this]; exact h1)
  · rintro (h | h)
    · exact .inl ⟨(o, x), List.mem_filter.mpr ⟨h, by simp⟩, rfl⟩
    · exact .inr ⟨(x, o), List.mem_filter.mpr ⟨h, by simp⟩, rfl⟩
/-- no pair goes across -/
def Shut (ps : Pl) (S : Int → Prop) : Prop := ∀ e ∈ ps, S e.1 ↔ S e.2
theorem Shut.clo {ps : Pl} {S : Int → Prop} (h : Shut ps S) : Clo (nbr true true ps) S := fun x hx o ho => by
  rcases nb_iff.mp ho with g | g
  · exact (h _ g).mpr hx
  · exact (h _ g).mp hx
theorem Shut.neg {ps : Pl} {S : Int → Prop} (h : Shut ps S) : Shut ps fun x => ¬ S x := fun e he => by
  have := h e he
  exact ⟨fun g k => g (this.mpr k), fun g k => g (this.mp k)⟩
theorem rch_shut {N : Nat} {ps : Pl} (hp : In N ps) {r : Int} (h0 : 0 ≤ r) (h1 : r < N) : Shut ps fun x => x ∈ rch N true true ps [r] := fun e he => by
  obtain ⟨_, _, hc, _⟩ := forest_spec (b := true) (m := true) (src := [r]) hp (by simp) (fun x hx => by rw [List.mem_singleton.mp hx]; exact ⟨h0, h1⟩)
  exact ⟨fun h => hc _ h _ (nb_iff.mpr (.inr he)), fun h => hc _ h _ (nb_iff.mpr (.inl he))⟩
/-- all are joined: a shut set that has one of them has all -/
def Joined (N : Nat) (ps : Pl) : Prop := ∀ S : Int → Prop, Shut ps S → ∀ x : Int, 0 ≤ x → x < N → S x → ∀ y : Int, 0 ≤ y → y < N → S y
theorem rch_full {N : Nat} {ps : Pl} (hp : In N ps) {r : Int} (h0 : 0 ≤ r) (h1 : r < N) (hj : Joined N ps) : (fo N true true ps [r]).length + 1 = N := by
  have hr : [r].Nodup := by simp
  have hri : ∀ x ∈ [r], 0 ≤ x ∧ x < (N : Int) := fun x hx => by rw [List.mem_singleton.mp hx]; exact ⟨h0, h1⟩
  obtain ⟨hf, fw, hc, hm⟩ := forest_spec (b := true) (m := true) hp hr hri
  have hl := rch_len (b := true) (m := true) hp hr hri
  have mem : ∀ y ∈ rg N, y ∈ rch N true true ps [r] := fun y hy => by
    obtain ⟨y0, y1⟩ := mem_rg.mp hy
    refine hj _ (rch_shut hp h0 h1) r h0 h1 ?_ y y0 y1
    obtain ⟨⟨ns, k1, _⟩, _⟩ := fw
    rw [k1]; simp
  have h2 := nodup_sub (xs := rg N) (ys := rch N true true ps [r]) ((rg_up N).imp fun h => by omega) mem
  have h3 : (rch N true true ps [r]).length ≤ N := hf.len
  rw [rg_len] at h2
  simp only [List.length_cons, List.length_nil] at hl
  omega
theorem joined_of_full {N : Nat} {ps : Pl} (hp : In N ps) {r : Int} (h0 : 0 ≤ r) (h1 : r < N) (hl : (fo N true true ps [r]).length + 1 = N) : Joined N ps := fun S hS x x0 x1 hx y y0 y1 => by
  have hr : [r].Nodup := by simp
  have hri : ∀ x ∈ [r], 0 ≤ x ∧ x < (N : Int) := fun x hx => by rw [List.mem_singleton.mp hx]; exact ⟨h0, h1⟩
  obtain ⟨hf, fw, hc, hm⟩ := forest_spec (b := true) (m := true) hp hr hri
  have hln := rch_len (b := true) (m := true) hp hr hri
  simp only [List.length_cons, List.length_nil] at hln
  have full := full_mem (N := N) hf.nd hf.inn (by show (rch N true true ps [r]).length = N; omega)
  have hSr : S r := by
    refine Classical.byContradiction fun hn => ?_
    exact hm (fun z => ¬ S z) hS.neg.clo (fun z hz => by rw [List.mem_singleton.mp hz]; exact hn) x (full x x0 x1) hx
  exact hm S hS.clo (fun z hz => by rw [List.mem_singleton.mp hz]; exact hSr) y (full y y0 y1)
theorem inw_iff {N : Nat} {ps : Pl} (h1 : 0 < N) (hp : In N ps) : (inw N true ps).isSome = true ↔ Joined N ps := by
  constructor
  · intro h
    obtain ⟨x, hx⟩ := Option.isSome_iff_exists.mp h
    obtain ⟨hr, hl, he⟩ := inw_in hp hx
    rw [he, List.length_reverse] at hl
    exact joined_of_full hp hr.1 hr.2 hl
  · intro h
    unfold inw
    obtain ⟨n, rfl⟩ : ∃ n, N = n + 1 := ⟨N - 1, by omega⟩
    have e : rg (n + 1) = 0 :: ((List.range n).map fun k => ((k + 1 : Nat) : Int)) := by
      unfold rg
      rw [List.range_succ_eq_map, List.map_cons, List.map_map]; rfl
    rw [e, List.findSome?_cons, if_pos (rch_full hp (by decide) (by omega) h)]
    rfl
end Lk73
set_option maxHeartbeats 4000000
namespace Lk73
open Q EM
def cst (H : List Int) (e : Int × Int) : List Int := if decide (e.1 ∈ H) = decide (e.2 ∈ H) then H else H ++ [if e.1 ∈ H then e.2 else e.1]
structure CI (N : Nat) (H : List Int) : Prop where
  nd : H.Nodup
  inn : ∀ x ∈ H, 0 ≤ x ∧ x < N
  z : (0 : Int) ∈ H
theorem CI.len {N : Nat} {H : List Int} (h : CI N H) : H.length ≤ N := nodup_len h.nd h.inn
theorem CI.step {N : Nat} {H : List Int} {e : Int × Int} (h : CI N H) (he : 0 ≤ e.1 ∧ e.1 < N ∧ 0 ≤ e.2 ∧ e.2 < N) : CI N (cst H e) := by
  unfold cst
  split
  · exact h
  · rename_i hc
    have key : ∀ o : Int, o ∉ H → 0 ≤ o ∧ o < N → CI N (H ++ [o]) := fun o ho hr => ⟨List.nodup_append.mpr ⟨h.nd, by simp, fun x hx y hy e => ho (by rw [List.mem_singleton.mp hy] at e; rw [← e]; exact hx)⟩, fun x hx => by
      rcases List.mem_append.mp hx with hx | hx
      · exact h.inn x hx
      · rw [List.mem_singleton.mp hx]; exact hr, List.mem_append_left _ h.z⟩
    split
    · rename_i h1
      refine key _ (fun h2 => hc ?_) ⟨he.2.2.1, he.2.2.2⟩
      rw [decide_eq_true h1, decide_eq_true h2]
    · rename_i h1
      exact key _ h1 ⟨he.1, he.2.1⟩
theorem scan_CI {N : Nat} : ∀ {ps : Pl} {H : List Int}, In N ps → CI N H → CI N (ps.foldl cst H)
  | [], _, _, h => h
  | e :: ps, H, hp, h => scan_CI (ps := ps) (fun x hx => hp x (List.mem_cons_of_mem _ hx)) (h.step (hp e List.mem_cons_self))
theorem cst_len (H : List Int) (e : Int × Int) : H.length ≤ (cst H e).length := by
  unfold cst
  split
  · exact Nat.le_refl _
  · simp
theorem scan_len : ∀ (ps : Pl) (H : List Int), H.length ≤ (ps.foldl cst H).length
  | [], _ => Nat.le_refl _
  | e :: ps, H => Nat.le_trans (cst_len H e) (scan_len ps (cst H e))
theorem scan_fix : ∀ (ps : Pl) (H : List Int), (ps.foldl cst H).length = H.length → Shut ps fun x => x ∈ H
  | [], _, _ => fun _ h => (nomatch h)
  | e :: ps, H, hl => by
    have h1 := cst_len H e
    have h2 := scan_len ps (cst H e)
    have hl : (ps.foldl cst (cst H e)).length = H.length := hl
    have he : decide (e.1 ∈ H) = decide (e.2 ∈ H) := by
      refine Classical.byContradiction fun hn => ?_
      have : (cst H e).length = H.length + 1 := by unfold cst; rw [if_neg hn]; simp
      omega
    have ec : cst H e = H := by unfold cst; rw [if_pos he]
    rw [ec] at hl
    have ih := scan_fix ps H hl
    intro x hx
    rcases List.mem_cons.mp hx with rfl | hx
    · exact decide_eq_decide.mp he
    · exact ih x hx
theorem scan_shut : ∀ (ps : Pl) (H : List Int), (Shut ps fun x => x ∈ H) → ps.foldl cst H = H
  | [], _, _ => rfl
  | e :: ps, H, h => by
    have ec : cst H e = H := by unfold cst; rw [if_pos (decide_eq_decide.mpr (h e List.mem_cons_self))]
    rw [List.foldl_cons, ec]
    exact scan_shut ps H fun x hx => h x (List.mem_cons_of_mem _ hx)
theorem scan_min {S : Int → Prop} : ∀ (ps : Pl) (H : List Int), Shut ps S → (∀ x ∈ H, S x) → ∀ x ∈ ps.foldl cst H, S x
  | [], _, _, h => h
  | e :: ps, H, hS, h => by
    refine scan_min ps (cst H e) (fun x hx => hS x (List.mem_cons_of_mem _ hx)) fun x hx => ?_
    have hE := hS e List.mem_cons_self
    unfold cst at hx
    split at hx
    · exact h x hx
    · rename_i hc
      rcases List.mem_append.mp hx with hx | hx
      · exact h x hx
      · have hx := List.mem_singleton.mp hx
        subst hx
        split
        · rename_i h1
          exact hE.mp (h _ h1)
        · rename_i h1
          have h2 : e.2 ∈ H := Classical.byContradiction fun h2 => hc (by rw [decide_eq_false h1, decide_eq_false h2])
          exact hE.mpr (h _ h2)
/-- those who are joined to the first one -/
def cnn (t : Nat) (ps : Pl) : List Int := (List.range t).foldl (fun H _ => ps.foldl cst H) [0]
theorem cnn_succ (t : Nat) (ps : Pl) : cnn (t + 1) ps = ps.foldl cst (cnn t ps) := by
  unfold cnn
  rw [List.range_succ, List.foldl_append]; rfl
theorem cnn_CI {N : Nat} (h0 : 0 < N) {ps : Pl} (hp : In N ps) : ∀ t, CI N (cnn t ps)
  | 0 => ⟨by simp [cnn], fun x hx => by simp [cnn] at hx; subst hx; exact ⟨by decide, by omega⟩, by simp [cnn]⟩
  | t + 1 => by rw [cnn_succ]; exact scan_CI hp (cnn_CI h0 hp t)
theorem cnn_shut {N : Nat} (h0 : 0 < N) {ps : Pl} (hp : In N ps) : Shut ps fun x => x ∈ cnn N ps := by
  have key : ∀ t, (Shut ps fun x => x ∈ cnn t ps) ∨ t + 1 ≤ (cnn t ps).length := fun t => by
    induction t with
    | zero => exact .inr (by simp [cnn])
    | succ t ih =>
      rw [cnn_succ]
      rcases ih with ih | ih
      · rw [scan_shut ps _ ih]; exact .inl ih
      · have hle := scan_len ps (cnn t ps)
        by_cases he : (ps.foldl cst (cnn t ps)).length = (cnn t ps).length
        · have := scan_fix ps _ he
          rw [scan_shut ps _ this]; exact .inl this
        · exact .inr (by omega)
  rcases key N with h | h
  · exact h
  · have := (cnn_CI h0 hp N).len
    omega
theorem cnn_min {S : Int → Prop} {ps : Pl} (hS : Shut ps S) (h0 : S 0) : ∀ t, ∀ x ∈ cnn t ps, S x
  | 0 => fun x hx => by simp [cnn] at hx; subst hx; exact h0
  | t + 1 => by rw [cnn_succ]; exact scan_min ps _ hS (cnn_min hS h0 t)
theorem cnn_iff {N : Nat} (h0 : 0 < N) {ps : Pl} (hp : In N ps) : (cnn N ps).length = N ↔ Joined N ps := by
  have hc := cnn_CI h0 hp N
  constructor
  · intro hl S hS x x0 x1 hx y y0 y1
    have full := full_mem hc.nd hc.inn hl
    by_cases hS0 : S 0
    · exact cnn_min hS hS0 N y (full y y0 y1)
    · exact absurd hx (cnn_min hS.neg hS0 N x (full x x0 x1))
  · intro hj
    have h2 := nodup_sub (xs := rg N) (ys := cnn N ps) ((rg_up N).imp fun h => by omega) fun y hy => by
      obtain ⟨y0, y1⟩ := mem_rg.mp hy
      exact hj _ (cnn_shut h0 hp) 0 (by decide) (by omega) hc.z y y0 y1
    rw [rg_len] at h2
    have := hc.len
    omega
/-! ### the law's own walk -/
def encC (k : Int) (d : D) (H : List Int) : Q.Env := [D1 (.int k), D1 d, .own (.lst (H.map fun i => .val (.int i))), .unset, .unset, .unset]
theorem edge_ok {n N : Nat} {k : Int} {d s3 : D} {H : List Int} {ps : Pl} (hN : N ≤ 12) (hp : In N ps) (h : CI N H) :
    forL (.tup [(.name 4), (.name 5)]) .val (exes (cx n) b22_0) (ps.map pD) [D1 (.int k), D1 d, .own (.lst (H.map fun i => .val (.int i))), D1 s3, .unset, .unset] = some (.next, [D1 (.int k), D1 d, .own (.lst ((ps.foldl cst H).map fun i => .val (.int i))), D1 s3, .unset, .unset]) ∧ CI N (ps.foldl cst H) := by
  refine forL_fold (tg := .tup [(.name 4), (.name 5)]) (fl := .val) (body := exes (cx n) b22_0) (fun H => [D1 (.int k), D1 d, .own (.lst (H.map fun i => .val (.int i))), D1 s3, .unset, .unset]) pD cst (CI N) ps H h fun H e he h => ?_
  have hst := h.step (hp e he)
  refine ⟨hst, [D1 (.int k), D1 d, .own (.lst (H.map fun i => .val (.int i))), D1 s3, D1 (.int e.1), D1 (.int e.2)], by simp [pD, putVar_eq], ?_⟩
  have fz := freezes_mapT2 (fun i : Int => MV.val (.int i)) PySem.PyData.int (fun _ => rfl) H
  have h1 := in_ints (i := e.1) (l := H)
  have h2 := in_ints (i := e.2) (l := H)
  have hq := eq_bools (decide (e.1 ∈ H)) (decide (e.2 ∈ H))
  have hl := h.len
  have hz : (H.map fun i => MV.val (.int i)).length < PySem.sizeLine := by rw [List.length_map]; exact Nat.lt_of_le_of_lt hl (Nat.lt_of_le_of_lt hN (by decide))
  unfold cst
  by_cases hc : decide (e.1 ∈ H) = decide (e.2 ∈ H)
  · rw [if_pos hc]
    rw [decide_eq_true hc] at hq
    generalize (H.map fun i => MV.val (.int i)) = M at *
    generalize H.map PySem.PyData.int = L at *
    generalize decide (e.1 ∈ H) = b1 at *
    generalize decide (e.2 ∈ H) = b2 at *
    simp [b22_0, fz, h1, h2, hq]
  · rw [if_neg hc]
    rw [decide_eq_false hc] at hq
    rw [List.map_append, List.map_cons, List.map_nil]
    by_cases hm : e.1 ∈ H
    · rw [if_pos hm]
      rw [decide_eq_true hm] at h1 hq
      generalize (H.map fun i => MV.val (.int i)) = M at *
      generalize H.map PySem.PyData.int = L at *
      generalize decide (e.2 ∈ H) = b2 at *
      simp [b22_0, fz, h1, h2, hq, Q.appItem, hz]
    · rw [if_neg hm]
      rw [decide_eq_false hm] at h1 hq
      generalize (H.map fun i => MV.val (.int i)) = M at *
      generalize H.map PySem.PyData.int = L at *
      generalize decide (e.2 ∈ H) = b2 at *
      simp [b22_0, fz, h1, h2, hq, Q.appItem, hz]
theorem conn_ok {n N : Nat} {k : Int} {ps : Pl} (hk : k = N) (h0 : 0 < N) (hN : N ≤ 12) (hp : In N ps) : sem (n + 1) 22 [D1 (.int k), D1 (.tuple (ps.map pD))] = some (.val (.bool (decide ((cnn N ps).length = N))), [D1 (.int k), D1 (.tuple (ps.map pD))]) := by
  have hf := forL_fold (tg := .name 3) (fl := .val) (body := exes (cx n) b22_1) (encC k (.tuple (ps.map pD))) (fun j : Nat => PySem.PyData.int (0 + (j : Int))) (fun H _ => ps.foldl cst H) (CI N) (List.range N) [0] (cnn_CI h0 hp 0) fun H j hj h => by
    obtain ⟨e1, e2⟩ := edge_ok (n := n) (k := k) (d := .tuple (ps.map pD)) (s3 := .int (0 + (j : Int))) hN hp h
    refine ⟨e2, [D1 (.int k), D1 (.tuple (ps.map pD)), .own (.lst (H.map fun i => .val (.int i))), D1 (.int (0 + (j : Int))), .unset, .unset], by simp [encC, putVar_eq], ?_⟩
    show exes (cx n) [.forS (.tup [(.name 4), (.name 5)]) (.seq (.var 1)) b22_0, .forget [3, 4, 5]] _ = _
    rw [exes_cons, exe_for]
    have hI : runI (cx n) (.seq (.var 1)) [D1 (.int k), D1 (.tuple (ps.map pD)), .own (.lst (H.map fun i => .val (.int i))), D1 (.int (0 + (j : Int))), .unset, .unset] = some (ps.map pD, .val, [D1 (.int k), D1 (.tuple (ps.map pD)), .own (.lst (H.map fun i => .val (.int i))), D1 (.int (0 + (j : Int))), .unset, .unset], []) := rfl
    rw [hI, Option.bind_some]
    show thenS ((forL (.tup [(.name 4), (.name 5)]) .val (exes (cx n) b22_0) (ps.map pD) _).bind _) _ = _
    rw [e1]
    rfl
  have hr := inR (k := k) (by omega) (by omega)
  have hkt : k.toNat = N := by omega
  have hI : runI (cx n) (.rng1 (.var 0)) (encC k (.tuple (ps.map pD)) [0]) = some ((List.range N).map fun (j : Nat) => PySem.PyData.int (0 + (j : Int)), .val, encC k (.tuple (ps.map pD)) [0], []) := by
    have e : rangeD 0 N = (List.range N).map fun (j : Nat) => PySem.PyData.int (0 + (j : Int)) := rfl
    rw [← e]
    unfold encC
    generalize ps.map pD = L
    simp [hr, hkt]
  have fz := freezes_mapT2 (fun i : Int => MV.val (.int i)) PySem.PyData.int (fun _ => rfl) (cnn N ps)
  have hl : (((cnn N ps).map PySem.PyData.int).length : Int) = ((cnn N ps).length : Int) := by rw [List.length_map]
  have hq : eqD (.int ((cnn N ps).length : Int)) (.int k) = some (decide ((cnn N ps).length = N)) := by
    rw [eq_ints]
    congr 1
    exact decide_eq_decide.mpr (by omega)
  rw [sem, def_eq (d := d22) rfl rfl]
  show ((exes (cx n) [_, .forS (.name 3) (.rng1 (.var 0)) b22_1, _] [D1 (.int k), D1 (.tuple (ps.map pD)), .unset, .unset, .unset, .unset]).bind _) = _
  have s1 : exe (cx n) (.asg (.name 2) (.lst [(.cst (.int 0))])) [D1 (.int k), D1 (.tuple (ps.map pD)), .unset, .unset, .unset, .unset] = some (.next, encC k (.tuple (ps.map pD)) [0]) := rfl
  rw [exes_cons, s1, thenS_next, exes_cons, exe_for, hI, Option.bind_some]
  show ((thenS ((forL (.name 3) .val (exes (cx n) b22_1) ((List.range N).map fun (j : Nat) => PySem.PyData.int (0 + (j : Int))) (encC k (.tuple (ps.map pD)) [0])).bind _) _).bind _) = _
  rw [hf.1]
  show ((thenS ((some (Flow.next, encC k (.tuple (ps.map pD)) (cnn N ps))).bind _) _).bind _) = _
  unfold encC
  generalize ((cnn N ps).map fun i => MV.val (.int i)) = M at *
  generalize (cnn N ps).map PySem.PyData.int = L at *
  generalize ((cnn N ps).length : Int) = ln at *
  generalize ps.map pD = P
  simp [fz, hl, hq]
  rfl
end Lk73
set_option maxHeartbeats 4000000
namespace Q
open EM
def atL (l : List Int) (k : Nat) : Int := l.getD k 0
theorem atL_some {l : List Int} {k : Nat} (h : k < l.length) : l[k]? = some (atL l k) := by
  unfold atL; rw [List.getD_eq_getElem?_getD]; simp [h]
theorem popL_perm {l : List Int} {k : Nat} (h : k < l.length) : (atL l k :: l.eraseIdx k).Perm l := by
  have e : l = l.take k ++ (atL l k :: l.drop (k + 1)) := by
    have h1 := atL_some h
    have h2 : l[k] = atL l k := by rw [List.getElem?_eq_getElem h] at h1; exact Option.some.inj h1
    conv => lhs; rw [← List.take_append_drop k l]
    rw [List.drop_eq_getElem_cons h, h2]
  rw [List.eraseIdx_eq_take_drop_succ]
  conv => rhs; rw [e]
  exact List.perm_middle.symm
theorem mopR_popI {ms : List MV} {i : Int} : mopR .popI (.lst ms) [.val (.int i)] = if -9223372036854775808 ≤ i && i < 9223372036854775808 then (L2.ixN ms.length i).bind fun k => (ms[k]?).bind fun r => some (r, .lst (ms.eraseIdx k)) else none := rfl
theorem exe_whil {C : CtxQ} {n : Nat} {c : E} {body : List S} {ρ : Env} : exe C (.whil n c body) ρ = whileL (run C c) (exes C body) n ρ := rfl
theorem popL {rest : List Int} {r : Int} (r0 : 0 ≤ r) (r1 : r < rest.length) (hl : rest.length < 1000) : mopR .popI (.lst (rest.map fun i => MV.val (.int i))) [.val (.int r)] = some (.val (.int (atL rest r.toNat)), .lst ((rest.eraseIdx r.toNat).map fun i => .val (.int i))) := by
  have hi : r.toNat < rest.length := by omega
  have hg : (rest.map fun i => MV.val (.int i))[r.toNat]? = some (.val (.int (atL rest r.toNat))) := by
    rw [List.getElem?_map, atL_some hi]; rfl
  have hr1 : (-9223372036854775808 : Int) ≤ r := by omega
  have hr2 : r < 9223372036854775808 := by omega
  rw [mopR_popI, List.length_map, ixN_in r0 r1]
  simp only [Option.bind_some, hg, hr1, hr2, decide_true, Bool.and_true, if_true]
  rw [List.eraseIdx_eq_take_drop_succ, List.eraseIdx_eq_take_drop_succ, List.map_append, List.map_take, List.map_drop]
theorem rangeD_cons (lo : Int) (n : Nat) : rangeD lo (n + 1) = .int lo :: rangeD (lo + 1) n := by
  unfold rangeD
  rw [List.range_succ_eq_map, List.map_cons, List.map_map]
  congr 1
  · simp
  · apply List.map_congr_left
    intro k _
    show PySem.PyData.int (lo + ((k + 1 : Nat) : Int)) = .int (lo + 1 + (k : Int))
    congr 1
    omega
end Q
namespace Lk73
open Q EM
/-- pairs of a drawn tree, up to somebody -/
structure TR (p : Int) (f : Pl) : Prop where
  rng : ∀ e ∈ f, 0 ≤ e.1 ∧ e.1 < e.2 ∧ e.2 < p
  nd : f.Nodup
  tr : ∀ i : Int, 1 ≤ i → i < p → ∃ t, 0 ≤ t ∧ t < i ∧ (t, i) ∈ f
def encT (M : MV) (c h : Int) (f : Pl) : Q.Env := [.io M, D1 (.int c), D1 (.int h), .own (.lst (f.map fun e => .val (pD e))), .unset, .unset, .unset, .unset, .unset, .unset, .unset]
theorem tree_ok {n : Nat} {c h : Int} : ∀ (j : Nat) (p : Int) (f : Pl) (M : MV) (b : Int), 1 ≤ p → p + j < 100 → f.length < 100 → TR p f → (f.length : Int) < p → Bx b M → b + j < 800000000 →
    ∃ f' M', forL (.name 4) .val (exes (cx (n + 1)) b21_0) (rangeD p j) (encT M c h f) = some (.next, encT M' c h f') ∧ TR (p + j) f' ∧ (f'.length : Int) < p + j ∧ Bx (b + j) M'
  | 0, p, f, M, b, _, _, _, hf, hl, B, _ => ⟨f, M, rfl, by simpa using hf, by simpa using hl, by simpa using B⟩
  | j + 1, p, f, M, b, hp, hpj, hfl, hf, hl, B, hb => by
    obtain ⟨r, M1, t1, r0, r1, B1⟩ := take_ok (n := n) (k := p) B (by omega) (by omega) (by omega)
    have t1' : runDef defs consts kws (n + 1) 19 [.io M, D1 (.int p)] = _ := t1
    have hz : (f.map fun e => MV.val (pD e)).length < PySem.sizeLine := by rw [List.length_map]; exact Nat.lt_trans hfl (by decide)
    have body : exes (cx (n + 1)) b21_0 [.io M, D1 (.int c), D1 (.int h), .own (.lst (f.map fun e => .val (pD e))), D1 (.int p), .unset, .unset, .unset, .unset, .unset, .unset] = some (.next, encT M1 c h (f ++ [(r, p)])) := by
      unfold encT
      rw [List.map_append, List.map_cons, List.map_nil]
      generalize (f.map fun e => MV.val (pD e)) = F at *
      unfold pD
      simp [b21_0, varOf, t1', Q.appItem, hz]
    have hf' : TR (p + 1) (f ++ [(r, p)]) := by
      refine ⟨fun e he => ?_, List.nodup_append.mpr ⟨hf.nd, by simp, fun x hx y hy e => ?_⟩, fun i h1 h2 => ?_⟩
      · rcases List.mem_append.mp he with he | he
        · have := hf.rng e he; omega
        · rw [List.mem_singleton.mp he]; dsimp only; omega
      · rw [List.mem_singleton.mp hy] at e
        have := hf.rng x hx
        rw [e] at this
        dsimp only at this
        omega
      · by_cases hi : i < p
        · obtain ⟨t, q0, q1, q2⟩ := hf.tr i h1 hi
          exact ⟨t, q0, q1, List.mem_append_left _ q2⟩
        · have : i = p := by omega
          subst this
          exact ⟨r, r0, r1, by simp⟩
    obtain ⟨f', M', e1, e2, e3, e4⟩ := tree_ok (n := n) (c := c) (h := h) j (p + 1) (f ++ [(r, p)]) M1 (b + 1) (by omega) (by omega) (by rw [List.length_append, List.length_singleton]; omega) hf' (by rw [List.length_append, List.length_singleton]; omega) B1 (by omega)
    refine ⟨f', M', ?_, by rw [show p + ((j + 1 : Nat) : Int) = p + 1 + (j : Int) by omega]; exact e2, by omega, by rw [show b + ((j + 1 : Nat) : Int) = b + 1 + (j : Int) by omega]; exact e4⟩
    rw [rangeD_cons]
    have hb1 : bindT (.name 4) (childFl .val (.int p)) (.int p) (encT M c h f) = some [.io M, D1 (.int c), D1 (.int h), .own (.lst (f.map fun e => .val (pD e))), D1 (.int p), .unset, .unset, .unset, .unset, .unset, .unset] := by simp [encT, putVar_eq]
    show (bindT (.name 4) (childFl .val (.int p)) (.int p) (encT M c h f)).bind _ = _
    rw [hb1, Option.bind_some, body]
    exact e1
def mnx (p q : Int) : Int × Int := (if q < p then q else p, if q > p then q else p)
theorem more_turn {n : Nat} {N : Nat} {c h t : Int} {f : Pl} {M : MV} {b : Int} (hc : c = N) (h1 : 1 ≤ c) (hN : N ≤ 12) (hf : TR c f) (hfl : f.length < 100) (B : Bx b M) (hb : b < 700000000) :
    ∃ f' M', exes (cx (n + 1)) b21_1 [.io M, D1 (.int c), D1 (.int h), .own (.lst (f.map fun e => .val (pD e))), .unset, D1 (.int t), .unset, .unset, .unset, .unset, .unset] = some (.next, encT M' c h f') ∧ TR c f' ∧ f'.length ≤ f.length + 1 ∧ Bx (b + 2) M' := by
  obtain ⟨r1, M1, t1, a0, a1, B1⟩ := take_ok (n := n) (k := c) B (by omega) (by omega) (by omega)
  obtain ⟨r2, M2, t2, b0, b1, B2⟩ := take_ok (n := n) (k := c) B1 (by omega) (by omega) (by omega)
  have t1' : runDef defs consts kws (n + 1) 19 [.io M, D1 (.int c)] = _ := t1
  have t2' : runDef defs consts kws (n + 1) 19 [.io M1, D1 (.int c)] = _ := t2
  have fz := freezes_mapT2 (fun e : Int × Int => MV.val (pD e)) pD (fun _ => rfl) f
  have hin := in_pairs (q := mnx r1 r2) (l := f)
  have q := eq_ints r1 r2
  have z0 : (f.map pD).length ≤ PySem.sizeLine := by rw [List.length_map]; exact Nat.le_trans (show _ ≤ 200 by omega) (by decide)
  have z1 : (f.map pD).length + 1 ≤ PySem.sizeLine := by rw [List.length_map]; exact Nat.le_trans (show _ ≤ 200 by omega) (by decide)
  have em : (f.map fun e => MV.val (pD e)) = (f.map pD).map .val := by rw [List.map_map]; rfl
  have e1 : exe (cx (n + 1)) (.par 4 10 (.call 19 [(.var 0), (.var 1)]) (.call 19 [(.var 0), (.var 1)])) [.io M, D1 (.int c), D1 (.int h), .own (.lst (f.map fun e => .val (pD e))), .unset, D1 (.int t), .unset, .unset, .unset, .unset, .unset] = some (.next, [.io M2, D1 (.int c), D1 (.int h), .own (.lst (f.map fun e => .val (pD e))), D1 (.int r1), D1 (.int t), .unset, .unset, .unset, .unset, D1 (.int r2)]) := by
    simp [varOf, t1', t2', putVar_eq]
  have e2 : exe (cx (n + 1)) (.asg (.name 7) (.tup [(.blt .min2 [(.var 4), (.var 10)]), (.blt .max2 [(.var 4), (.var 10)])])) [.io M2, D1 (.int c), D1 (.int h), .own (.lst (f.map fun e => .val (pD e))), D1 (.int r1), D1 (.int t), .unset, .unset, .unset, .unset, D1 (.int r2)] = some (.next, [.io M2, D1 (.int c), D1 (.int h), .own (.lst (f.map fun e => .val (pD e))), D1 (.int r1), D1 (.int t), .unset, D1 (pD (mnx r1 r2)), .unset, .unset, D1 (.int r2)]) := by
    unfold pD mnx
    simp [putVar_eq]
  have fin : ∀ f', (f' = f ∨ (r1 ≠ r2 ∧ mnx r1 r2 ∉ f ∧ f' = f ++ [mnx r1 r2])) → exe (cx (n + 1)) (.asg (.name 3) (.bin .add (.var 3) (.bin .mul (.lst [(.var 7)]) (.blt .int [(.and (.cmp .ne (.var 4) (.var 10)) (.cmp .notin (.var 7) (.var 3)))])))) [.io M2, D1 (.int c), D1 (.int h), .own (.lst (f.map fun e => .val (pD e))), D1 (.int r1), D1 (.int t), .unset, D1 (pD (mnx r1 r2)), .unset, .unset, D1 (.int r2)] = some (.next, [.io M2, D1 (.int c), D1 (.int h), .own (.lst (f'.map fun e => .val (pD e))), D1 (.int r1), D1 (.int t), .unset, D1 (pD (mnx r1 r2)), .unset, .unset, D1 (.int r2)]) →
      ∃ f' M', exes (cx (n + 1)) b21_1 [.io M, D1 (.int c), D1 (.int h), .own (.lst (f.map fun e => .val (pD e))), .unset, D1 (.int t), .unset, .unset, .unset, .unset, .unset] = some (.next, encT M' c h f') ∧ TR c f' ∧ f'.length ≤ f.length + 1 ∧ Bx (b + 2) M' := fun f' hf' e3 => by
    refine ⟨f', M2, ?_, ?_, ?_, B2.mono (by omega)⟩
    · show exes (cx (n + 1)) [_, _, _, _] _ = _
      rw [exes_cons, e1, thenS_next, exes_cons, e2, thenS_next, exes_cons, e3, thenS_next]
      rfl
    · rcases hf' with rfl | ⟨hne, hni, rfl⟩
      · exact hf
      · refine ⟨fun e he => ?_, List.nodup_append.mpr ⟨hf.nd, by simp, fun x hx y hy e => hni (by rw [List.mem_singleton.mp hy] at e; rw [← e]; exact hx)⟩, fun i i1 i2 => ?_⟩
        · rcases List.mem_append.mp he with he | he
          · exact hf.rng e he
          · rw [List.mem_singleton.mp he]
            unfold mnx
            dsimp only
            refine ⟨?_, ?_, ?_⟩ <;> (split <;> (try split) <;> omega)
        · obtain ⟨t, q0, q1, q2⟩ := hf.tr i i1 i2
          exact ⟨t, q0, q1, List.mem_append_left _ q2⟩
    · rcases hf' with rfl | ⟨_, _, rfl⟩
      · omega
      · simp
  by_cases hne : r1 = r2
  · rw [decide_eq_true hne] at q
    refine fin f (.inl rfl) ?_
    rw [em]
    generalize pD (mnx r1 r2) = pr at *
    generalize f.map pD = L at *
    simp [q, z0, putVar_eq]
  · rw [decide_eq_false hne] at q
    by_cases hm : mnx r1 r2 ∈ f
    · rw [decide_eq_true hm] at hin
      refine fin f (.inl rfl) ?_
      rw [em]
      generalize pD (mnx r1 r2) = pr at *
      generalize f.map pD = L at *
      simp [q, hin, z0, putVar_eq]
    · rw [decide_eq_false hm] at hin
      refine fin (f ++ [mnx r1 r2]) (.inr ⟨hne, hm, rfl⟩) ?_
      have em2 : ((f ++ [mnx r1 r2]).map fun e => MV.val (pD e)) = (f.map pD ++ [pD (mnx r1 r2)]).map .val := by simp
      rw [em, em2]
      generalize pD (mnx r1 r2) = pr at *
      generalize f.map pD = L at *
      simp [q, hin, z1, putVar_eq]
theorem more_ok {n : Nat} {N : Nat} {c h : Int} (hc : c = N) (h1 : 1 ≤ c) (hN : N ≤ 12) : ∀ (j : Nat) (lo : Int) (f : Pl) (M : MV) (b : Int), TR c f → f.length + j < 100 → Bx b M → b + 2 * j < 700000000 →
    ∃ f' M', forL (.name 5) .val (exes (cx (n + 1)) b21_1) (rangeD lo j) (encT M c h f) = some (.next, encT M' c h f') ∧ TR c f' ∧ f'.length ≤ f.length + j ∧ Bx (b + 2 * j) M'
  | 0, lo, f, M, b, hf, _, B, _ => ⟨f, M, rfl, hf, Nat.le_refl _, by simpa using B⟩
  | j + 1, lo, f, M, b, hf, hl, B, hb => by
    obtain ⟨f1, M1, e1, g1, l1, B1⟩ := more_turn (n := n) (h := h) (t := lo) hc h1 hN hf (by omega) B (by omega)
    obtain ⟨f', M', e2, g2, l2, B2⟩ := more_ok (n := n) (h := h) hc h1 hN j (lo + 1) f1 M1 (b + 2) g1 (by omega) B1 (by omega)
    refine ⟨f', M', ?_, g2, by omega, by rw [show b + 2 * ((j + 1 : Nat) : Int) = b + 2 + 2 * (j : Int) by omega]; exact B2⟩
    rw [rangeD_cons]
    have hb1 : bindT (.name 5) (childFl .val (.int lo)) (.int lo) (encT M c h f) = some [.io M, D1 (.int c), D1 (.int h), .own (.lst (f.map fun e => .val (pD e))), .unset, D1 (.int lo), .unset, .unset, .unset, .unset, .unset] := by simp [encT, putVar_eq]
    show (bindT (.name 5) (childFl .val (.int lo)) (.int lo) (encT M c h f)).bind _ = _
    rw [hb1, Option.bind_some, e1]
    exact e2
theorem pops_ok {n : Nat} {s1 s2 s3 s4 s5 s6 s7 s10 : Slot} : ∀ (j f : Nat) (rest dr : List Int) (M : MV) (b : Int), rest.length = j → j ≤ 12 → j < f → dr.length + j ≤ 12 → Bx b M → b + j < 800000000 →
    ∃ (dr' : List Int) (M' : MV), whileL (run (cx (n + 1)) (.cmp .ne (.var 9) (.lst []))) (exes (cx (n + 1)) b21_2) f [.io M, s1, s2, s3, s4, s5, s6, s7, .own (.lst (dr.map fun i => .val (.int i))), .own (.lst (rest.map fun i => .val (.int i))), s10]
      = some (.next, [.io M', s1, s2, s3, s4, s5, s6, s7, .own (.lst (dr'.map fun i => .val (.int i))), .own (.lst []), s10]) ∧ dr'.Perm (dr ++ rest) ∧ Bx (b + j) M'
  | 0, f + 1, rest, dr, M, b, hl, _, _, _, B, _ => by
    have : rest = [] := List.length_eq_zero_iff.mp hl
    subst this
    have e0 : eqD (.list []) (.list []) = some true := eq_lD (a := []) (b := [])
    refine ⟨dr, M, ?_, by simp, by simpa using B⟩
    unfold whileL
    simp [e0]
  | j + 1, f + 1, rest, dr, M, b, hl, hj, hf, hd, B, hb => by
    have hne : ¬ rest = [] := fun h => by rw [h] at hl; cases hl
    have e1 : eqD (.list (rest.map .int)) (.list []) = some (decide (rest = [])) := eq_lD (a := rest) (b := [])
    rw [decide_eq_false hne] at e1
    obtain ⟨r, M1, t1, r0, r1, B1⟩ := take_ok (n := n) (k := (rest.length : Int)) B (by omega) (by omega) (by omega)
    have hi : r.toNat < rest.length := by omega
    have t1' : runDef defs consts kws (n + 1) 19 [.io M, D1 (.int (rest.length : Int))] = _ := t1
    obtain ⟨dr', M', h1, h2, h3⟩ := pops_ok (n := n) (s1 := s1) (s2 := s2) (s3 := s3) (s4 := s4) (s5 := s5) (s6 := s6) (s7 := s7) (s10 := s10) j f (rest.eraseIdx r.toNat) (dr ++ [atL rest r.toNat]) M1 (b + 1) (by rw [List.length_eraseIdx_of_lt hi]; omega) (by omega) (by omega) (by simp; omega) B1 (by omega)
    refine ⟨dr', M', ?_, ?_, by rw [show b + ((j + 1 : Nat) : Int) = b + 1 + (j : Int) by omega]; exact h3⟩
    · unfold whileL
      have fz := freezes_mapT2 (fun i : Int => MV.val (.int i)) PySem.PyData.int (fun _ => rfl) rest
      have hc : (run (cx (n + 1)) (.cmp .ne (.var 9) (.lst []))).t [.io M, s1, s2, s3, s4, s5, s6, s7, .own (.lst (dr.map fun i => .val (.int i))), .own (.lst (rest.map fun i => .val (.int i))), s10] = some (true, [.io M, s1, s2, s3, s4, s5, s6, s7, .own (.lst (dr.map fun i => .val (.int i))), .own (.lst (rest.map fun i => .val (.int i))), s10]) := by
        simp [fz, e1]
      have hm := popL (rest := rest) r0 r1 (by omega)
      have hz : dr.length < PySem.sizeLine := Nat.lt_of_lt_of_le (show dr.length < 1000 by omega) (by decide)
      have hbd : exes (cx (n + 1)) b21_2 [.io M, s1, s2, s3, s4, s5, s6, s7, .own (.lst (dr.map fun i => .val (.int i))), .own (.lst (rest.map fun i => .val (.int i))), s10] = some (.next, [.io M1, s1, s2, s3, s4, s5, s6, s7, .own (.lst ((dr ++ [atL rest r.toNat]).map fun i => .val (.int i))), .own (.lst ((rest.eraseIdx r.toNat).map fun i => .val (.int i))), s10]) := by
        have hml : ((freezes (rest.map fun i => MV.val (.int i))).length : Int) = (rest.length : Int) := by rw [fz]; simp
        have hz' : (dr.map fun i => MV.val (.int i)).length < PySem.sizeLine := by simpa using hz
        rw [List.map_append, List.map_cons, List.map_nil]
        generalize (rest.eraseIdx r.toNat).map (fun i => MV.val (.int i)) = ms' at hm ⊢
        generalize rest.map (fun i => MV.val (.int i)) = ms at hm hml ⊢
        generalize dr.map (fun i => MV.val (.int i)) = ds at hz' ⊢
        generalize atL rest r.toNat = a at hm ⊢
        generalize (rest.length : Int) = len at hml t1' ⊢
        clear r0 r1 h1 h2 h3 hc B1 hb hf hd hj hl hne e1 t1 B hz fz
        simp [b21_2, varOf, t1', hm, Q.appItem, hz', hml]
      rw [hc, Option.bind_some, if_pos rfl, hbd, Option.bind_some]
      exact h1
    · refine h2.trans ?_
      rw [List.append_assoc]
      exact (popL_perm hi).append_left dr
end Lk73
set_option maxHeartbeats 4000000
namespace Lk73
open Q EM
def ren (l : List Int) (e : Int × Int) : Int × Int := if atL l e.1.toNat ≤ atL l e.2.toNat then (atL l e.1.toNat, atL l e.2.toNat) else (atL l e.2.toNat, atL l e.1.toNat)
/-- a drawn graph that joins all -/
structure WB (N : Nat) (w : Pl) : Prop where
  rng : ∀ e ∈ w, 0 ≤ e.1 ∧ e.1 < e.2 ∧ e.2 < N
  nd : w.Nodup
theorem WB.inn {N : Nat} {w : Pl} (h : WB N w) : In N w := fun e he => by
  have := h.rng e he
  exact ⟨by omega, by omega, by omega, by omega⟩
theorem atL_inj {l : List Int} (nd : l.Nodup) {i j : Nat} (hi : i < l.length) (hj : j < l.length) (h : atL l i = atL l j) : i = j := by
  have h1 := atL_some hi
  have h2 := atL_some hj
  rw [h] at h1
  exact (List.getElem?_inj hi nd).mp (h1.trans h2.symm)
theorem web_ok {N : Nat} {l : List Int} {f : Pl} (hl : l.Perm (rg N)) (hf : TR N f) : WB N (srt (f.map (ren l))) ∧ (0 < N → Joined N (srt (f.map (ren l)))) := by
  have nd : l.Nodup := hl.nodup_iff.mpr ((rg_up N).imp fun h => by omega)
  have ln : l.length = N := by rw [hl.length_eq, rg_len]
  have mem : ∀ i : Nat, i < N → 0 ≤ atL l i ∧ atL l i < N := fun i hi => mem_rg.mp (hl.mem_iff.mp (List.mem_of_getElem? (atL_some (l := l) (k := i) (by omega))))
  have inj : ∀ {i j : Int}, 0 ≤ i → i < N → 0 ≤ j → j < N → atL l i.toNat = atL l j.toNat → i = j := fun {i j} a b c d h => by
    have := atL_inj nd (by omega) (by omega) h
    omega
  have mw : ∀ e, e ∈ srt (f.map (ren l)) ↔ ∃ q ∈ f, ren l q = e := fun e => by rw [(srt_perm _).mem_iff, List.mem_map]
  refine ⟨⟨fun e he => ?_, (srt_perm _).nodup_iff.mpr ?_⟩, fun hN S hS x x0 x1 hx y y0 y1 => ?_⟩
  · obtain ⟨q, hq, rfl⟩ := (mw e).mp he
    have hr := hf.rng q hq
    have m1 := mem q.1.toNat (by omega)
    have m2 := mem q.2.toNat (by omega)
    have ne : atL l q.1.toNat ≠ atL l q.2.toNat := fun h => by
      have := inj (by omega) (by omega) (by omega) (by omega) h
      omega
    unfold ren
    split
    · dsimp only; omega
    · dsimp only; omega
  · have : ∀ (f : Pl), (∀ e ∈ f, 0 ≤ e.1 ∧ e.1 < e.2 ∧ e.2 < (N : Int)) → f.Nodup → (f.map (ren l)).Nodup := fun f => by
      induction f with
      | nil => intro _ _; exact List.nodup_nil
      | cons e f ih =>
        intro hr hn
        obtain ⟨h1, h2⟩ := List.nodup_cons.mp hn
        rw [List.map_cons]
        refine List.nodup_cons.mpr ⟨fun hm => h1 ?_, ih (fun x hx => hr x (List.mem_cons_of_mem _ hx)) h2⟩
        obtain ⟨q, hq, eq⟩ := List.mem_map.mp hm
        have re := hr e List.mem_cons_self
        have rq := hr q (List.mem_cons_of_mem _ hq)
        have key : (atL l q.1.toNat = atL l e.1.toNat ∧ atL l q.2.toNat = atL l e.2.toNat) ∨ (atL l q.1.toNat = atL l e.2.toNat ∧ atL l q.2.toNat = atL l e.1.toNat) := by
          unfold ren at eq
          split at eq <;> split at eq <;> (injection eq with a b) <;> first | exact .inl ⟨a, b⟩ | exact .inr ⟨a, b⟩ | exact .inl ⟨b, a⟩ | exact .inr ⟨b, a⟩
        rcases key with ⟨a, b⟩ | ⟨a, b⟩
        · have e1 := inj (by omega) (by omega) (by omega) (by omega) a
          have e2 := inj (by omega) (by omega) (by omega) (by omega) b
          have : q = e := Prod.ext e1 e2
          rw [← this]; exact hq
        · have e1 := inj (by omega) (by omega) (by omega) (by omega) a
          have e2 := inj (by omega) (by omega) (by omega) (by omega) b
          omega
    exact this f hf.rng hf.nd
  · have ed : ∀ t i : Int, (t, i) ∈ f → (S (atL l t.toNat) ↔ S (atL l i.toNat)) := fun t i h => by
      have := hS (ren l (t, i)) ((mw _).mpr ⟨_, h, rfl⟩)
      unfold ren at this
      split at this
      · exact this
      · exact this.symm
    have down : ∀ j : Nat, j < N → S (atL l j) → S (atL l 0) := fun j => by
      induction j using Nat.strongRecOn with
      | _ j ih =>
        intro hj hSj
        by_cases h0 : j = 0
        · rw [← h0]; exact hSj
        · obtain ⟨t, q0, q1, q2⟩ := hf.tr (j : Int) (by omega) (by omega)
          have := (ed t j q2).mpr (by rw [Int.toNat_natCast]; exact hSj)
          exact ih t.toNat (by omega) (by omega) this
    have up : ∀ j : Nat, j < N → S (atL l 0) → S (atL l j) := fun j => by
      induction j using Nat.strongRecOn with
      | _ j ih =>
        intro hj hS0
        by_cases h0 : j = 0
        · rw [h0]; exact hS0
        · obtain ⟨t, q0, q1, q2⟩ := hf.tr (j : Int) (by omega) (by omega)
          have := (ed t j q2).mp (ih t.toNat (by omega) (by omega) hS0)
          rwa [Int.toNat_natCast] at this
    have pos : ∀ z : Int, 0 ≤ z → z < N → ∃ j : Nat, j < N ∧ atL l j = z := fun z z0 z1 => by
      have hz : z ∈ l := hl.mem_iff.mpr (mem_rg.mpr ⟨z0, z1⟩)
      obtain ⟨j, hj, e⟩ := List.getElem_of_mem hz
      refine ⟨j, by omega, ?_⟩
      have := atL_some hj
      rw [List.getElem?_eq_getElem hj, e] at this
      exact (Option.some.inj this).symm
    obtain ⟨j, hj, rfl⟩ := pos x x0 x1
    obtain ⟨i, hi, rfl⟩ := pos y y0 y1
    exact up i hi (down j hj hx)
end Lk73
set_option maxHeartbeats 4000000
namespace Lk73
open Q EM
theorem ren_run {n : Nat} {l : List Int} {e : Int × Int} {s0 s1 s2 s3 s5 s6 s7 s9 : Slot} (h : 0 ≤ e.1 ∧ e.1 < l.length ∧ 0 ≤ e.2 ∧ e.2 < l.length) :
    (run (cx n) (.blt .sorted [(.lst [(.idx (.var 8) (.var 4)), (.idx (.var 8) (.var 10))])])).v [s0, s1, s2, s3, D1 (.int e.1), s5, s6, s7, .own (.lst (l.map fun i => .val (.int i))), s9, D1 (.int e.2)] = some (.lst [.val (.int (ren l e).1), .val (.int (ren l e).2)], [s0, s1, s2, s3, D1 (.int e.1), s5, s6, s7, .own (.lst (l.map fun i => .val (.int i))), s9, D1 (.int e.2)]) := by
  obtain ⟨a0, a1, b0, b1⟩ := h
  have x1 : L2.ixN (l.map fun i => MV.val (.int i)).length e.1 = some e.1.toNat := ixN_in a0 (by rw [List.length_map]; exact a1)
  have x2 : L2.ixN (l.map fun i => MV.val (.int i)).length e.2 = some e.2.toNat := ixN_in b0 (by rw [List.length_map]; exact b1)
  have g1 : (l.map fun i => MV.val (.int i))[e.1.toNat]? = some (.val (.int (atL l e.1.toNat))) := by rw [List.getElem?_map, atL_some (by omega)]; rfl
  have g2 : (l.map fun i => MV.val (.int i))[e.2.toNat]? = some (.val (.int (atL l e.2.toNat))) := by rw [List.getElem?_map, atL_some (by omega)]; rfl
  have hs : ∀ p q : Int, sortI [p, q] = if p ≤ q then [p, q] else [q, p] := fun p q => by simp [sortI, insL]
  have hi : intsOf [.int (atL l e.1.toNat), .int (atL l e.2.toNat)] = some [atL l e.1.toNat, atL l e.2.toNat] := rfl
  unfold ren
  generalize (l.map fun i => MV.val (.int i)) = M at *
  generalize atL l e.1.toNat = x at *
  generalize atL l e.2.toNat = y at *
  generalize e.1.toNat = i1 at *
  generalize e.2.toNat = i2 at *
  by_cases hxy : x ≤ y
  · simp [x1, x2, g1, g2, hi, hs, hxy]
  · simp [x1, x2, g1, g2, hi, hs, hxy]
theorem drawn_ok {n N : Nat} {c h b : Int} {M : MV} (hc : c = N) (h1 : 1 ≤ c) (hN : N ≤ 12) (h0 : 0 ≤ h) (h8 : h < 20) (B : Bx b M) (hb : b < 500000000) :
    ∃ w M', sem (n + 2) 21 [.io M, D1 (.int c), D1 (.int h)] = some (.val (.tuple (w.map pD)), [.io M', D1 (.int c), D1 (.int h)]) ∧ WB N w ∧ Joined N w ∧ w.length < 100 ∧ (2 ≤ N → w ≠ []) ∧ Bx (b + 100) M' := by
  obtain ⟨f1, M1, e1, g1, l1, B1⟩ := tree_ok (n := n) (c := c) (h := h) (N - 1) 1 [] M b (by decide) (by omega) (by decide) ⟨fun _ h => (nomatch h), List.nodup_nil, fun i a b => by omega⟩ (by decide) B (by omega)
  have hcN : (1 : Int) + ((N - 1 : Nat) : Int) = c := by omega
  rw [hcN] at g1 l1
  obtain ⟨f, M2, e2, g2, l2, B2⟩ := more_ok (n := n) (h := h) hc h1 hN h.toNat 0 f1 M1 _ g1 (by omega) B1 (by omega)
  obtain ⟨l, M3, e3, p3, B3⟩ := pops_ok (n := n) (s1 := D1 (.int c)) (s2 := D1 (.int h)) (s3 := .own (.lst (f.map fun e => .val (pD e)))) (s4 := .unset) (s5 := .unset) (s6 := .unset) (s7 := .unset) (s10 := .unset) N 1000 (rg N) [] M2 _ (by rw [rg_len]) hN (by omega) (by simpa using hN) B2 (by omega)
  have p3 : l.Perm (rg N) := by simpa using p3
  have ll : l.length = N := by rw [p3.length_eq, rg_len]
  have hTR : TR N f := by rw [← hc]; exact g2
  obtain ⟨wb, jn⟩ := web_ok p3 hTR
  have hfl : f.length < 60 := by omega
  have hwl : (srt (f.map (ren l))).length = f.length := by rw [(srt_perm _).length_eq, List.length_map]
  refine ⟨srt (f.map (ren l)), M3, ?_, wb, jn (by omega), by omega, fun h2 hn => ?_, B3.mono (by omega)⟩
  rotate_left
  · obtain ⟨t, _, _, q⟩ := hTR.tr 1 (by decide) (by omega)
    have : f = [] := List.length_eq_zero_iff.mp (by rw [← hwl, hn]; rfl)
    rw [this] at q; cases q
  have hr1 := inR (k := c) (by omega) (by omega)
  have hr2 := inR (k := h) (by omega) (by omega)
  have hr0 := inR (k := 1) (by decide) (by decide)
  have hct : c.toNat = N := by omega
  have hcm : (c - 1).toNat = N - 1 := by omega
  have a1 : exe (cx (n + 1)) (.asg (.name 3) (.lst [])) [.io M, D1 (.int c), D1 (.int h), .unset, .unset, .unset, .unset, .unset, .unset, .unset, .unset] = some (.next, encT M c h []) := rfl
  have a2 : exe (cx (n + 1)) (.forS (.name 4) (.rng2 (.cst (.int 1)) (.var 1)) b21_0) (encT M c h []) = some (.next, encT M1 c h f1) := by
    rw [exe_for]
    have hI : runI (cx (n + 1)) (.rng2 (.cst (.int 1)) (.var 1)) (encT M c h []) = some (rangeD 1 (N - 1), .val, encT M c h [], []) := by
      unfold encT
      simp [hr0, hr1, hcm, hct]
    rw [hI, Option.bind_some]
    show (forL (.name 4) .val (exes (cx (n + 1)) b21_0) (rangeD 1 (N - 1)) (encT M c h [])).bind _ = _
    rw [e1]; rfl
  have a3 : exe (cx (n + 1)) (.forS (.name 5) (.rng1 (.var 2)) b21_1) (encT M1 c h f1) = some (.next, encT M2 c h f) := by
    rw [exe_for]
    have hI : runI (cx (n + 1)) (.rng1 (.var 2)) (encT M1 c h f1) = some (rangeD 0 h.toNat, .val, encT M1 c h f1, []) := by
      unfold encT
      generalize (f1.map fun e => MV.val (pD e)) = F
      simp [hr2]
    rw [hI, Option.bind_some]
    show (forL (.name 5) .val (exes (cx (n + 1)) b21_1) (rangeD 0 h.toNat) (encT M1 c h f1)).bind _ = _
    rw [e2]; rfl
  have a4 : exe (cx (n + 1)) (.parN [8, 9] [(.lst []), (.ext .lrng1 [(.var 1)])]) (encT M2 c h f) = some (.next, [.io M2, D1 (.int c), D1 (.int h), .own (.lst (f.map fun e => .val (pD e))), .unset, .unset, .unset, .unset, .own (.lst (([] : List Int).map fun i => .val (.int i))), .own (.lst ((rg N).map fun i => .val (.int i))), .unset]) := by
    have hrd := rangeD_rg N
    have em : (rg N).map (fun i => MV.val (.int i)) = ((rg N).map PySem.PyData.int).map .val := by rw [List.map_map]; rfl
    have hz : N ≤ 16777216 := by omega
    rw [em]
    unfold encT
    generalize (f.map fun e => MV.val (pD e)) = F
    simp [hr1, hct, hz, hrd, putVar_eq, putVars]
  have a5 : exe (cx (n + 1)) (.whil 1000 (.cmp .ne (.var 9) (.lst [])) b21_2) [.io M2, D1 (.int c), D1 (.int h), .own (.lst (f.map fun e => .val (pD e))), .unset, .unset, .unset, .unset, .own (.lst (([] : List Int).map fun i => .val (.int i))), .own (.lst ((rg N).map fun i => .val (.int i))), .unset] = some (.next, [.io M3, D1 (.int c), D1 (.int h), .own (.lst (f.map fun e => .val (pD e))), .unset, .unset, .unset, .unset, .own (.lst (l.map fun i => .val (.int i))), .own (.lst []), .unset]) := e3
  -- the pairs with their names
  have fzf := freezes_mapT2 (fun e : Int × Int => MV.val (pD e)) pD (fun _ => rfl) f
  have h2 : compL (.tup [(.name 4), (.name 10)]) .val none (run (cx (n + 1)) (.blt .sorted [(.lst [(.idx (.var 8) (.var 4)), (.idx (.var 8) (.var 10))])])) [4, 10] (f.map pD) [] [.io M3, D1 (.int c), D1 (.int h), .lck (.lst (f.map fun e => .val (pD e))), .unset, .unset, .unset, .unset, .own (.lst (l.map fun i => .val (.int i))), .own (.lst []), .unset] = some ([] ++ f.map fun e => .lst [.val (.int (ren l e).1), .val (.int (ren l e).2)], [.io M3, D1 (.int c), D1 (.int h), .lck (.lst (f.map fun e => .val (pD e))), .unset, .unset, .unset, .unset, .own (.lst (l.map fun i => .val (.int i))), .own (.lst []), .unset]) := compL_mapT pD (fun e => .lst [.val (.int (ren l e).1), .val (.int (ren l e).2)]) f [] fun e he => by
    have hr := hTR.rng e he
    exact ⟨[.io M3, D1 (.int c), D1 (.int h), .lck (.lst (f.map fun e => .val (pD e))), D1 (.int e.1), .unset, .unset, .unset, .own (.lst (l.map fun i => .val (.int i))), .own (.lst []), D1 (.int e.2)], _, by simp [pD, putVar_eq], ren_run (by rw [ll]; omega), by simp⟩
  have fz2 := freezes_mapT2 (fun e => MV.lst [.val (.int (ren l e).1), .val (.int (ren l e).2)]) (fun e => pL (ren l e)) (fun e => rfl) f
  have hz2 : (f.map fun e => MV.lst [.val (.int (ren l e).1), .val (.int (ren l e).2)]).length < 1000001 := by rw [List.length_map]; omega
  have h3 : ∀ (s8 : Slot) (q6 : D), compL (.name 7) .val none (run (cx (n + 1)) (.blt .tuple [(.var 7)])) [7] (f.map fun e => pL (ren l e)) [] [.io M3, D1 (.int c), D1 (.int h), .own (.lst (f.map fun e => .val (pD e))), .unset, .unset, D1 q6, .unset, s8, .own (.lst []), .unset] = some ([] ++ f.map fun e => .val (pD (ren l e)), [.io M3, D1 (.int c), D1 (.int h), .own (.lst (f.map fun e => .val (pD e))), .unset, .unset, D1 q6, .unset, s8, .own (.lst []), .unset]) := fun s8 q6 => compL_mapT (fun e => pL (ren l e)) (fun e => .val (pD (ren l e))) f [] fun e he => by
    refine ⟨[.io M3, D1 (.int c), D1 (.int h), .own (.lst (f.map fun e => .val (pD e))), .unset, .unset, D1 q6, D1 (pL (ren l e)), s8, .own (.lst []), .unset], [.io M3, D1 (.int c), D1 (.int h), .own (.lst (f.map fun e => .val (pD e))), .unset, .unset, D1 q6, D1 (pL (ren l e)), s8, .own (.lst []), .unset], by simp [putVar_eq], ?_, by simp⟩
    unfold pL pD
    simp
  have fz3 := freezes_mapT2 (fun e => MV.val (pD (ren l e))) (fun e => pD (ren l e)) (fun _ => rfl) f
  have em3 : (f.map fun e => pD (ren l e)) = (f.map (ren l)).map pD := by rw [List.map_map]; rfl
  rw [em3] at fz3
  have hz3 : (f.map fun e => MV.val (pD (ren l e))).length < 1000001 := by rw [List.length_map]; omega
  have hbl : bltR .sortD [(.list ((f.map (ren l)).map pD), .val)] = some (.lst (((srt (f.map (ren l))).map pD).map .val)) := by
    show (if sortOk ((f.map (ren l)).map pD) && !badFl .val ((f.map (ren l)).map pD) then some (MV.lst ((sortDs ((f.map (ren l)).map pD)).map .val)) else none) = _
    rw [sortOk_pairs (by rw [List.length_map]; omega), srt_eq]; rfl
  generalize (srt (f.map (ren l))).map pD = W at *
  generalize (f.map (ren l)).map pD = Y at *
  generalize (f.map fun e => MV.val (pD (ren l e))) = R3 at *
  generalize (f.map fun e => MV.lst [.val (.int (ren l e).1), .val (.int (ren l e).2)]) = R2 at *
  generalize (f.map fun e => pL (ren l e)) = P2 at *
  generalize (l.map fun i => MV.val (.int i)) = Ml at *
  have a6 : ∀ rest, exes (cx (n + 1)) (.asg (.name 6) (.comp (.blt .sorted [(.lst [(.idx (.var 8) (.var 4)), (.idx (.var 8) (.var 10))])]) (.tup [(.name 4), (.name 10)]) (.seq (.var 3)) none [4, 10]) :: .frzV 6 :: rest) [.io M3, D1 (.int c), D1 (.int h), .own (.lst (f.map fun e => .val (pD e))), .unset, .unset, .unset, .unset, .own (.lst Ml), .own (.lst []), .unset] = exes (cx (n + 1)) rest [.io M3, D1 (.int c), D1 (.int h), .own (.lst (f.map fun e => .val (pD e))), .unset, .unset, D1 (.list P2), .unset, .own (.lst Ml), .own (.lst []), .unset] := fun rest => by
    have hv : (f.map fun e => MV.val (pD e)).all isVal = true := by simp [isVal]
    clear h3 a1 a2 a3 a4 a5 e1 e2 e3
    generalize (f.map fun e => MV.val (pD e)) = F at *
    generalize f.map pD = Fd at *
    simp [exes_cons, fzf, h2, fz2, hz2, hv, flagOf, putVar_eq]
  have a7 : exe (cx (n + 1)) (.ret (.blt .tuple [(.blt .sortD [(.comp (.blt .tuple [(.var 7)]) (.name 7) (.seq (.var 6)) none [7])])])) [.io M3, D1 (.int c), D1 (.int h), .own (.lst (f.map fun e => .val (pD e))), .unset, .unset, D1 (.list P2), .unset, .own (.lst Ml), .own (.lst []), .unset] = some (.ret (.val (.tuple W)), [.io M3, D1 (.int c), D1 (.int h), .own (.lst (f.map fun e => .val (pD e))), .unset, .unset, D1 (.list P2), .unset, .own (.lst Ml), .own (.lst []), .unset]) := by
    have h3' := h3 (.own (.lst Ml)) (.list P2)
    clear h2 h3 a1 a2 a3 a4 a5 a6 e1 e2 e3
    generalize (f.map fun e => MV.val (pD e)) = F at *
    simp [h3', fz3, hz3, hbl]
  rw [sem, def_eq (d := d21) rfl rfl]
  show ((exes (cx (n + 1)) (_ :: _ :: _ :: _ :: _ :: _) [.io M, D1 (.int c), D1 (.int h), .unset, .unset, .unset, .unset, .unset, .unset, .unset, .unset]).bind _) = _
  rw [exes_cons, a1, thenS_next, exes_cons, a2, thenS_next, exes_cons, a3, thenS_next, exes_cons, a4, thenS_next, exes_cons, a5, thenS_next, a6, exes_cons, a7]
  rfl
end Lk73
set_option maxHeartbeats 4000000
namespace Lk73
open Q EM
theorem nx_iff {ps : Pl} {x o : Int} : o ∈ nx true ps x ↔ (x, o) ∈ ps ∨ (o, x) ∈ ps := by
  unfold nx
  rw [List.mem_append, List.mem_map, List.mem_map]
  constructor
  · rintro (⟨e, he, rfl⟩ | ⟨e, he, rfl⟩)
    · obtain ⟨h1, h2⟩ := List.mem_filter.mp he
      have := of_decide_eq_true h2
      exact .inl (by rw [← this]; exact h1)
    · obtain ⟨h1, h2⟩ := List.mem_filter.mp he
      rw [Bool.and_true] at h2
      have := of_decide_eq_true h2
      exact .inr (by rw [← this]; exact h1)
  · rintro (h | h)
    · exact .inl ⟨(x, o), List.mem_filter.mpr ⟨h, by simp⟩, rfl⟩
    · exact .inr ⟨(o, x), List.mem_filter.mpr ⟨h, by simp⟩, rfl⟩
theorem nx_nd {N : Nat} {ps : Pl} (h : WB N ps) (x : Int) : (nx true ps x).Nodup := by
  have inj1 : ∀ (f : Pl), f.Nodup → (∀ e ∈ f, e.1 = x) → (f.map (·.2)).Nodup := fun f => by
    induction f with
    | nil => intro _ _; exact List.nodup_nil
    | cons e f ih =>
      intro hn hx
      obtain ⟨h1, h2⟩ := List.nodup_cons.mp hn
      rw [List.map_cons]
      refine List.nodup_cons.mpr ⟨fun hm => h1 ?_, ih h2 fun y hy => hx y (List.mem_cons_of_mem _ hy)⟩
      obtain ⟨q, hq, eq⟩ := List.mem_map.mp hm
      have : q = e := Prod.ext ((hx q (List.mem_cons_of_mem _ hq)).trans (hx e List.mem_cons_self).symm) eq
      rw [← this]; exact hq
  have inj2 : ∀ (f : Pl), f.Nodup → (∀ e ∈ f, e.2 = x) → (f.map (·.1)).Nodup := fun f => by
    induction f with
    | nil => intro _ _; exact List.nodup_nil
    | cons e f ih =>
      intro hn hx
      obtain ⟨h1, h2⟩ := List.nodup_cons.mp hn
      rw [List.map_cons]
      refine List.nodup_cons.mpr ⟨fun hm => h1 ?_, ih h2 fun y hy => hx y (List.mem_cons_of_mem _ hy)⟩
      obtain ⟨q, hq, eq⟩ := List.mem_map.mp hm
      have : q = e := Prod.ext eq ((hx q (List.mem_cons_of_mem _ hq)).trans (hx e List.mem_cons_self).symm)
      rw [← this]; exact hq
  unfold nx
  refine List.nodup_append.mpr ⟨inj1 _ (h.nd.filter _) fun e he => of_decide_eq_true (List.mem_filter.mp he).2, inj2 _ (h.nd.filter _) fun e he => by
    have := (List.mem_filter.mp he).2
    rw [Bool.and_true] at this
    exact of_decide_eq_true this, fun a ha b hb e => ?_⟩
  obtain ⟨p, hp, rfl⟩ := List.mem_map.mp ha
  obtain ⟨q, hq, eq⟩ := List.mem_map.mp hb
  have p1 := of_decide_eq_true (List.mem_filter.mp hp).2
  have q1 := (List.mem_filter.mp hq).2
  rw [Bool.and_true] at q1
  have q1 := of_decide_eq_true q1
  have rp := h.rng p (List.mem_filter.mp hp).1
  have rq := h.rng q (List.mem_filter.mp hq).1
  omega
theorem ring_nd {N : Nat} {ps : Pl} (h : WB N ps) : ∀ l, ring4 N true ps = some l → l.Nodup ∧ ∀ x ∈ l, 0 ≤ x ∧ x < N := fun l hl => by
  unfold ring4 at hl
  obtain ⟨o, ho, hl⟩ := List.exists_of_findSome?_eq_some hl
  obtain ⟨t, ht, hl⟩ := List.exists_of_findSome?_eq_some hl
  obtain ⟨ht1, ht2⟩ := List.mem_filter.mp ht
  have ht2 := of_decide_eq_true ht2
  have ho := mem_rg.mp ho
  have ht1 := mem_rg.mp ht1
  unfold rg4 at hl
  split at hl
  · rename_i hlen
    cases hl
    have nd : (bth true ps o t).Nodup := (nx_nd h o).filter _
    have g0 : (bth true ps o t)[0]? = some ((bth true ps o t).getD 0 0) := by rw [List.getD_eq_getElem?_getD, List.getElem?_eq_getElem (by omega)]; rfl
    have g1 : (bth true ps o t)[1]? = some ((bth true ps o t).getD 1 0) := by rw [List.getD_eq_getElem?_getD, List.getElem?_eq_getElem (by omega)]; rfl
    have ne : (bth true ps o t).getD 0 0 ≠ (bth true ps o t).getD 1 0 := fun e => by
      rw [e] at g0
      have := (List.getElem?_inj (by omega) nd).mp (g0.trans g1.symm)
      cases this
    have mm : ∀ b, b ∈ bth true ps o t → (0 ≤ b ∧ b < N) ∧ b ≠ o ∧ b ≠ t := fun b hb => by
      unfold bth at hb
      obtain ⟨m1, m2⟩ := List.mem_filter.mp hb
      have m2 := of_decide_eq_true m2
      have a1 := nx_iff.mp m1
      have a2 := nx_iff.mp m2
      have r1 : (0 ≤ b ∧ b < N) ∧ b ≠ o := by
        rcases a1 with q | q
        · have := h.rng _ q; dsimp only at this; omega
        · have := h.rng _ q; dsimp only at this; omega
      have r2 : b ≠ t := by
        rcases a2 with q | q
        · have := h.rng _ q; dsimp only at this; omega
        · have := h.rng _ q; dsimp only at this; omega
      exact ⟨r1.1, r1.2, r2⟩
    have m0 := mm _ (List.mem_of_getElem? g0)
    have m1 := mm _ (List.mem_of_getElem? g1)
    generalize (bth true ps o t).getD 0 0 = b0 at *
    generalize (bth true ps o t).getD 1 0 = b1 at *
    refine ⟨?_, fun x hx => ?_⟩
    · simp only [List.nodup_cons, List.mem_cons, List.not_mem_nil, or_false, not_or, List.nodup_nil, and_true, not_false_eq_true]
      refine ⟨⟨fun e => m0.2.1 e.symm, by omega, fun e => m1.2.1 e.symm⟩, ⟨m0.2.2, ne⟩, fun e => m1.2.2 e.symm⟩
    · simp only [List.mem_cons, List.not_mem_nil, or_false] at hx
      rcases hx with rfl | rfl | rfl | rfl
      · exact ho
      · exact m0.1
      · exact ht1
      · exact m1.1
  · cases hl
theorem plan_some {N : Nat} {w : Pl} (h2 : 2 ≤ N) (h : WB N w) (hj : Joined N w) : ∃ P, mpl N true true w = some P ∧ P.length + 1 = N ∧ (∀ e ∈ P, e ∈ w) ∧ unk N (gall true P) = [] := by
  have hs := (inw_iff (by omega) h.inn).mpr hj
  obtain ⟨x, hx⟩ := Option.isSome_iff_exists.mp hs
  obtain ⟨hr, hl, he⟩ := inw_in h.inn hx
  have hri : ∀ y ∈ [x.2], 0 ≤ y ∧ y < (N : Int) := fun y hy => by rw [List.mem_singleton.mp hy]; exact hr
  obtain ⟨hf, fw, hc, hm⟩ := forest_spec (b := true) (m := true) (src := [x.2]) h.inn (by simp) hri
  have hln := rch_len (b := true) (m := true) (src := [x.2]) h.inn (by simp) hri
  have hfl : (fo N true true w [x.2]).length + 1 = N := by rw [he, List.length_reverse] at hl; exact hl
  refine ⟨x.1.map up2, ?_, by rw [List.length_map]; exact hl, fun e hE => ?_, ?_⟩
  · unfold mpl plW
    rw [hx]
    rfl
  · obtain ⟨q, hq, rfl⟩ := List.mem_map.mp hE
    rw [he, List.mem_reverse] at hq
    obtain ⟨i, hi, eq⟩ := List.getElem_of_mem hq
    obtain ⟨_, pr⟩ := fw
    obtain ⟨j, _, _, hn⟩ := pr i q (by rw [List.getElem?_eq_getElem hi, eq])
    rcases nb_iff.mp hn with g | g
    · have := h.rng _ g
      dsimp only at this
      unfold up2
      rw [if_neg (by omega)]; exact g
    · have := h.rng _ g
      dsimp only at this
      unfold up2
      rw [if_pos (by omega)]; exact g
  · rw [gall_up2, he]
    refine unk_nil hr.1 hr.2 fun y y0 y1 => ?_
    refine inward_all true fw y ?_
    refine full_mem (N := N) hf.nd hf.inn ?_ y y0 y1
    simp only [List.length_cons, List.length_nil] at hln
    show (rch N true true w [x.2]).length = N
    omega
theorem mpl_iff {N : Nat} {s : Bool} {w : Pl} (h0 : 0 < N) (h : In N w) : (mpl N true s w).isSome = true ↔ Joined N w := by
  rw [← inw_iff h0 h]
  unfold mpl plW
  cases inw N true w with
  | none => simp
  | some x => cases s <;> simp
end Lk73
set_option maxHeartbeats 4000000
namespace Lk73
open Q EM
theorem eq_nilP {l : List (Int × Int)} : eqD (.list (l.map pD)) (.list []) = some (decide (l = [])) := by
  have sh : ∀ x ∈ l.map pD, Sh 1 x := fun x hx => by
    obtain ⟨y, _, rfl⟩ := List.mem_map.mp hx
    exact pairs_sh
  unfold eqD
  rw [(Sh.list sh).shaped (by decide), (Sh.list (n := 0) (xs := []) (fun x h => (nomatch h))).shaped (by decide)]
  cases l <;> simp [PySem.PyData.eqv, PySem.PyData.eqvAll]
theorem ofW_ok {n : Nat} {w : Pl} {M : MV} {b : Int} (hw : w ≠ []) (hl : w.length < 1000) (B : Bx b M) (hb : b < 1000000000) : ∃ (e : Int × Int) (M' : MV), sem (n + 2) 20 [.io M, D1 (.tuple (w.map pD))] = some (.val (pD e), [.io M', D1 (.tuple (w.map pD))]) ∧ e ∈ w ∧ Bx (b + 1) M' := by
  have h0 : 0 < w.length := List.length_pos_iff.mpr hw
  obtain ⟨r, M1, t1, r0, r1, B1⟩ := take_ok (n := n) (k := (w.length : Int)) B hb (by omega) (by omega)
  have t1' : runDef defs consts kws (n + 1) 19 [.io M, D1 (.int (w.length : Int))] = some (.val (.int r), [.io M1, D1 (.int (w.length : Int))]) := t1
  refine ⟨at' w r, M1, ?_, ?_, B1⟩
  · have ha := at_list (l := w) r0 r1
    have e : (w.map pD).length = w.length := List.length_map _
    rw [← e] at t1'
    rw [sem, def_eq (d := d20) rfl rfl]
    generalize w.map pD = W at *
    simp [d20, varOf, t1', ha]
  · have hr : r = ((r.toNat : Nat) : Int) := by omega
    rw [hr]
    exact List.mem_of_getElem? (at_some (l := w) (k := r.toNat) (by omega))
def isT (o : Bool) : Bool := o

theorem s0 {n : Nat} {M : MV} {M1 : MV} {r : Int} (t : runDef defs consts kws (n + 7) 19 [.io M, D1 (.int 9)] = some (.val (.int r), [.io M1, D1 (.int 9)])) : exe (cx (n + 7)) (.asg (.name 1) (.bin .add (.cst (.int 2)) (.call 19 [(.var 0), (.cst (.int 9))]))) [.io M, .unset, .unset, .unset, .unset, .unset, .unset, .unset, .unset, .unset, .unset, .unset] = some (.next, [.io M1, D1 (.int (2 + r)), .unset, .unset, .unset, .unset, .unset, .unset, .unset, .unset, .unset, .unset]) := by
  simp [varOf, t, putVar_eq]
theorem s1 {n : Nat} {M : MV} {M1 : MV} {c : Int} {r : Int} {W : D} {M2 : MV} (t : runDef defs consts kws (n + 7) 19 [.io M, D1 (.int 8)] = some (.val (.int r), [.io M1, D1 (.int 8)])) (t2 : runDef defs consts kws (n + 7) 21 [.io M1, D1 (.int c), D1 (.int r)] = some (.val (W), [.io M2, D1 (.int c), D1 (.int r)])) : exe (cx (n + 7)) (.asg (.name 2) (.call 21 [(.var 0), (.var 1), (.call 19 [(.var 0), (.cst (.int 8))])])) [.io M, D1 (.int c), .unset, .unset, .unset, .unset, .unset, .unset, .unset, .unset, .unset, .unset] = some (.next, [.io M2, D1 (.int c), D1 W, .unset, .unset, .unset, .unset, .unset, .unset, .unset, .unset, .unset]) := by
  simp [varOf, t, t2, putVar_eq]
theorem s2 {n : Nat} {M : MV} {c : Int} {W : D} {S : D} (t : runDef defs consts kws (n + 7) 16 [D1 (.int c), D1 (.str "meet"), D1 W, D1 (.str "somebody")] = some (.val (S), [D1 (.int c), D1 (.str "meet"), D1 W, D1 (.str "somebody")])) : exe (cx (n + 7)) (.asg (.name 3) (.call 16 [(.var 1), (.cst (.str "meet")), (.var 2), (.cst (.str "somebody"))])) [.io M, D1 (.int c), D1 W, .unset, .unset, .unset, .unset, .unset, .unset, .unset, .unset, .unset] = some (.next, [.io M, D1 (.int c), D1 W, D1 S, .unset, .unset, .unset, .unset, .unset, .unset, .unset, .unset]) := by
  simp [varOf, t, putVar_eq]
theorem s3 {n : Nat} {M : MV} {c : Int} {W : D} {Sl : List D} (hl : (Sl.length : Int) = c - 1) (t : runDef defs consts kws (n + 7) 17 [D1 (.int c), D1 (.str "meet"), D1 W, D1 (.str "somebody")] = some (.val (.int (Sl.length : Int)), [D1 (.int c), D1 (.str "meet"), D1 W, D1 (.str "somebody")])) : exe (cx (n + 7)) (.ifs (.or (.cmp .ne (.call 17 [(.var 1), (.cst (.str "meet")), (.var 2), (.cst (.str "somebody"))]) (.bin .sub (.var 1) (.cst (.int 1)))) (.cmp .ne (.blt .len [(.var 3)]) (.bin .sub (.var 1) (.cst (.int 1))))) [ .ret (.cst (.bool false))] []) [.io M, D1 (.int c), D1 W, D1 (.tuple Sl), .unset, .unset, .unset, .unset, .unset, .unset, .unset, .unset] = some (.next, [.io M, D1 (.int c), D1 W, D1 (.tuple Sl), .unset, .unset, .unset, .unset, .unset, .unset, .unset, .unset]) := by
  simp [varOf, t, putVar_eq, hl, eq_ints]
theorem s4 {n : Nat} {M : MV} {c : Int} {w p : Pl} (hp : ∀ e ∈ p, e ∈ w) (t : runDef defs consts kws (n + 7) 6 [D1 (.int c), D1 (.str "meet"), D1 (.tuple (p.map pD)), D1 (.str "somebody")] = some (.val (.bool true), [D1 (.int c), D1 (.str "meet"), D1 (.tuple (p.map pD)), D1 (.str "somebody")])) : exe (cx (n + 7)) (.ifs (.or (.cmp .ne (.comp (.var 11) (.name 11) (.seq (.var 3)) (some (.cmp .notin (.var 11) (.var 2))) [11]) (.lst [])) (.not (.call 6 [(.var 1), (.cst (.str "meet")), (.var 3), (.cst (.str "somebody"))]))) [ .ret (.cst (.bool false))] []) [.io M, D1 (.int c), D1 (.tuple (w.map pD)), D1 (.tuple (p.map pD)), .unset, .unset, .unset, .unset, .unset, .unset, .unset, .unset] = some (.next, [.io M, D1 (.int c), D1 (.tuple (w.map pD)), D1 (.tuple (p.map pD)), .unset, .unset, .unset, .unset, .unset, .unset, .unset, .unset]) := by
  have hc := compL_filT (tg := .name 11) (fl := .val) (cond := run (cx (n + 7)) (.cmp .notin (.var 11) (.var 2))) (elt := run (cx (n + 7)) (.var 11)) (own := [11]) (ρ := [.io M, D1 (.int c), D1 (.tuple (w.map pD)), D1 (.tuple (p.map pD)), .unset, .unset, .unset, .unset, .unset, .unset, .unset, .unset]) pD (fun q => !decide (q ∈ w)) (fun q => .val (pD q)) p [] fun q hq => by
    have hi := in_pairs (q := q) (l := w)
    refine ⟨[.io M, D1 (.int c), D1 (.tuple (w.map pD)), D1 (.tuple (p.map pD)), .unset, .unset, .unset, .unset, .unset, .unset, .unset, D1 (pD q)], [.io M, D1 (.int c), D1 (.tuple (w.map pD)), D1 (.tuple (p.map pD)), .unset, .unset, .unset, .unset, .unset, .unset, .unset, D1 (pD q)], by simp [putVar_eq], ?_, fun _ => by simp, fun _ => ⟨[.io M, D1 (.int c), D1 (.tuple (w.map pD)), D1 (.tuple (p.map pD)), .unset, .unset, .unset, .unset, .unset, .unset, .unset, D1 (pD q)], by simp, by simp⟩⟩
    generalize p.map pD = Pd at *
    generalize w.map pD = Wd at *
    generalize pD q = qd at *
    simp [hi]
  have e0 : p.filter (fun q => !decide (q ∈ w)) = [] := List.filter_eq_nil_iff.mpr fun q hq => by simp [hp q hq]
  rw [e0] at hc
  generalize p.map pD = Pd at *
  generalize w.map pD = Wd at *
  have en : eqD (.list []) (.list []) = some true := eq_nilP (l := [])
  simp [varOf, t, hc, en]
theorem s5 {n : Nat} {M : MV} {c : Int} {W : D} {p : Pl} (hl : p.length < 100) (t : ∀ k : Int, 0 ≤ k → k < p.length → ∃ u : Pl, u ≠ [] ∧ runDef defs consts kws (n + 7) 4 [D1 (.int c), D1 (.str "meet"), D1 (.tuple ((cut p k).map pD))] = some (.val (.list (u.map pD)), [D1 (.int c), D1 (.str "meet"), D1 (.tuple ((cut p k).map pD))])) : exe (cx (n + 7)) (.forS (.name 4) (.rng1 (.blt .len [(.var 3)])) b23_0) [.io M, D1 (.int c), D1 W, D1 (.tuple (p.map pD)), .unset, .unset, .unset, .unset, .unset, .unset, .unset, .unset] = some (.next, [.io M, D1 (.int c), D1 W, D1 (.tuple (p.map pD)), .unset, .unset, .unset, .unset, .unset, .unset, .unset, .unset]) := by
  have hf := forL_find (tg := .name 4) (fl := .val) (body := exes (cx (n + 7)) b23_0) (ρ := [.io M, D1 (.int c), D1 W, D1 (.tuple (p.map pD)), .unset, .unset, .unset, .unset, .unset, .unset, .unset, .unset]) PySem.PyData.int (fun _ => none) (rg p.length) fun k hk => by
    obtain ⟨k0, k1⟩ := mem_rg.mp hk
    obtain ⟨u, hu, tk⟩ := t k k0 k1
    refine ⟨[.io M, D1 (.int c), D1 W, D1 (.tuple (p.map pD)), D1 (.int k), .unset, .unset, .unset, .unset, .unset, .unset, .unset], by simp [putVar_eq], ?_⟩
    have en := eq_nilP (l := u)
    rw [decide_eq_false hu] at en
    have hct := cut_to (xs := p.map pD) (i := k) k0
    have hcf := cut_from (xs := p.map pD) (i := k) k0
    have hz := rec_arg (n := n) (l := p) k0 k1 (by omega)
    rw [← cut_map] at tk
    generalize (p.map pD).take k.toNat = A at *
    generalize (p.map pD).drop (k.toNat + 1) = A2 at *
    generalize p.map pD = Pd at *
    generalize u.map pD = Ud at *
    simp [b23_0, exes_cons, varOf, hct, hcf, hz, tk, en]
  have hn : (rg p.length).findSome? (fun _ => (none : Option (MV × Q.Env))) = none := List.findSome?_eq_none_iff.mpr fun _ _ => rfl
  rw [hn] at hf
  rw [← rangeD_rg] at hf
  rw [exe_for]
  have hr := inR (k := (p.length : Int)) (by omega) (by omega)
  have e : (p.map pD).length = p.length := List.length_map _
  have hI : runI (cx (n + 7)) (.rng1 (.blt .len [(.var 3)])) [.io M, D1 (.int c), D1 W, D1 (.tuple (p.map pD)), .unset, .unset, .unset, .unset, .unset, .unset, .unset, .unset] = some (rangeD 0 p.length, .val, [.io M, D1 (.int c), D1 W, D1 (.tuple (p.map pD)), .unset, .unset, .unset, .unset, .unset, .unset, .unset, .unset], []) := by
    rw [← e] at hr ⊢
    generalize p.map pD = Pd at *
    simp [hr]
  rw [hI, Option.bind_some]
  show (forL (.name 4) .val (exes (cx (n + 7)) b23_0) (rangeD 0 p.length) _).bind _ = _
  rw [hf]; rfl
theorem s6 {n N : Nat} {M : MV} {c b : Int} {S : D} {w : Pl} (hw : w ≠ []) (hl : w.length < 1000) (hc : c = N) (h2 : 2 ≤ N) (hN : N ≤ 12) (B : Bx b M) (hb : b < 400000000) : ∃ (sh : Pl) (M' : MV), exe (cx (n + 7)) (.asg (.name 5) (.blt .tuple [(.comp (.call 20 [(.var 0), (.var 2)]) (.name 10) (.rng1 (.bin .sub (.var 1) (.cst (.int 2)))) none [10])])) [.io M, D1 (.int c), D1 (.tuple (w.map pD)), D1 S, .unset, .unset, .unset, .unset, .unset, .unset, .unset, .unset] = some (.next, [.io M', D1 (.int c), D1 (.tuple (w.map pD)), D1 S, .unset, D1 (.tuple (sh.map pD)), .unset, .unset, .unset, .unset, .unset, .unset]) ∧ sh.length + 2 = N ∧ (∀ e ∈ sh, e ∈ w) ∧ Bx (b + 12) M' := by
  obtain ⟨acc', ρ', hC, sh, M', e1, e2, hm, hlen, B'⟩ := compL_inv (tg := .name 10) (fl := .val) (elt := run (cx (n + 7)) (.call 20 [(.var 0), (.var 2)])) (own := [10])
    (fun rest acc ρ => ∃ (sh : Pl) (M' : MV), ρ = [.io M', D1 (.int c), D1 (.tuple (w.map pD)), D1 S, .unset, .unset, .unset, .unset, .unset, .unset, .unset, .unset] ∧ acc = sh.map (fun e => .val (pD e)) ∧ (∀ e ∈ sh, e ∈ w) ∧ sh.length + rest.length + 2 = N ∧ Bx (b + sh.length) M')
    (rangeD 0 (N - 2)) [] [.io M, D1 (.int c), D1 (.tuple (w.map pD)), D1 S, .unset, .unset, .unset, .unset, .unset, .unset, .unset, .unset] ⟨[], M, rfl, rfl, fun _ h => (nomatch h), by rw [rangeD_len]; simp; omega, by simpa using B⟩ fun d rest acc ρ hI => by
      obtain ⟨sh, M', rfl, rfl, hm, hlen, B'⟩ := hI
      simp only [List.length_cons] at hlen
      obtain ⟨e, M2, t, he, B2⟩ := ofW_ok (n := n + 5) hw hl B' (by omega)
      have t' : runDef defs consts kws (n + 7) 20 [.io M', D1 (.tuple (w.map pD))] = some (.val (pD e), [.io M2, D1 (.tuple (w.map pD))]) := t
      refine ⟨[.io M', D1 (.int c), D1 (.tuple (w.map pD)), D1 S, .unset, .unset, .unset, .unset, .unset, .unset, D1 d, .unset], .val (pD e), [.io M2, D1 (.int c), D1 (.tuple (w.map pD)), D1 S, .unset, .unset, .unset, .unset, .unset, .unset, D1 d, .unset], ?_, ?_, sh ++ [e], M2, ?_, by simp, fun x hx => ?_, by simp; omega, ?_⟩
      · generalize w.map pD = Wd
        simp [putVar_eq]
      · generalize w.map pD = Wd at *
        generalize pD e = ed at *
        simp [varOf, t']
      · generalize w.map pD = Wd
        simp
      · rcases List.mem_append.mp hx with hx | hx
        · exact hm x hx
        · rw [List.mem_singleton.mp hx]; exact he
      · rw [List.length_append, List.length_singleton]
        have : b + ((sh.length + 1 : Nat) : Int) = b + (sh.length : Int) + 1 := by omega
        rw [this]; exact B2
  simp only [List.length_nil] at hlen
  refine ⟨sh, M', ?_, by omega, hm, B'.mono (by omega)⟩
  subst e1 e2
  have hr := inR (k := c - 2) (by omega) (by omega)
  have hct : (c - 2).toNat = N - 2 := by omega
  have fz := freezes_mapT2 (fun e : Int × Int => MV.val (pD e)) pD (fun _ => rfl) sh
  have hz : (sh.map fun e : Int × Int => MV.val (pD e)).length < 1000001 := by rw [List.length_map]; omega
  generalize (sh.map fun e : Int × Int => MV.val (pD e)) = A at *
  generalize sh.map pD = Sd at *
  generalize w.map pD = Wd at *
  simp [hr, hct, hC, fz, hz, putVar_eq]

theorem s7 {n : Nat} {M : MV} {c : Int} {W : D} {S : D} {Z : D} (t : runDef defs consts kws (n + 7) 6 [D1 (.int c), D1 (.str "meet"), D1 Z, D1 (.str "somebody")] = some (.val (.bool false), [D1 (.int c), D1 (.str "meet"), D1 Z, D1 (.str "somebody")])) : exe (cx (n + 7)) (.ifs (.call 6 [(.var 1), (.cst (.str "meet")), (.var 5), (.cst (.str "somebody"))]) [ .ret (.cst (.bool false))] []) [.io M, D1 (.int c), D1 W, D1 S, .unset, D1 Z, .unset, .unset, .unset, .unset, .unset, .unset] = some (.next, [.io M, D1 (.int c), D1 W, D1 S, .unset, D1 Z, .unset, .unset, .unset, .unset, .unset, .unset]) := by
  simp [varOf, t]
theorem s8 {n : Nat} {M : MV} {M1 : MV} {c : Int} {h : Int} {S : D} {Z : D} {Wl : List D} (t : runDef defs consts kws (n + 7) 19 [.io M, D1 (.int (Wl.length : Int))] = some (.val (.int h), [.io M1, D1 (.int (Wl.length : Int))])) : exe (cx (n + 7)) (.asg (.name 6) (.call 19 [(.var 0), (.blt .len [(.var 2)])])) [.io M, D1 (.int c), D1 (.tuple Wl), D1 S, .unset, D1 Z, .unset, .unset, .unset, .unset, .unset, .unset] = some (.next, [.io M1, D1 (.int c), D1 (.tuple Wl), D1 S, .unset, D1 Z, D1 (.int h), .unset, .unset, .unset, .unset, .unset]) := by
  simp [varOf, t, putVar_eq]
theorem s9 {n : Nat} {M : MV} {c h : Int} {S Z : D} {w : Pl} (h0 : 0 ≤ h) (h1 : h < w.length) (hl : w.length < 1000) (rest : List Q.S) : exes (cx (n + 7)) ((.asg (.name 7) (.bin .add (.slc (.var 2) none (some (.var 6))) (.slc (.var 2) (some (.bin .add (.var 6) (.cst (.int 1)))) none))) :: .frzV 7 :: rest) [.io M, D1 (.int c), D1 (.tuple (w.map pD)), D1 S, .unset, D1 Z, D1 (.int h), .unset, .unset, .unset, .unset, .unset] = exes (cx (n + 7)) rest [.io M, D1 (.int c), D1 (.tuple (w.map pD)), D1 S, .unset, D1 Z, D1 (.int h), D1 (.tuple ((cut w h).map pD)), .unset, .unset, .unset, .unset] := by
  have hct := cut_to (xs := w.map pD) (i := h) h0
  have hcf := cut_from (xs := w.map pD) (i := h) h0
  have hz := rec_arg (n := n) (l := w) h0 h1 hl
  rw [← cut_map]
  generalize (w.map pD).take h.toNat = A at *
  generalize (w.map pD).drop (h.toNat + 1) = A2 at *
  generalize w.map pD = Wd at *
  simp [exes_cons, hct, hcf, hz, putVar_eq]

theorem s11 {n : Nat} {M : MV} {c : Int} {h : Int} {W : D} {S : D} {Z L J : D} (t : runDef defs consts kws (n + 7) 22 [D1 (.int c), D1 L] = some (.val (J), [D1 (.int c), D1 L])) : exe (cx (n + 7)) (.asg (.name 8) (.call 22 [(.var 1), (.var 7)])) [.io M, D1 (.int c), D1 W, D1 S, .unset, D1 Z, D1 (.int h), D1 L, .unset, .unset, .unset, .unset] = some (.next, [.io M, D1 (.int c), D1 W, D1 S, .unset, D1 Z, D1 (.int h), D1 L, D1 J, .unset, .unset, .unset]) := by
  simp [varOf, t, putVar_eq]
theorem s12 {n : Nat} {M : MV} {c h : Int} {W S Z L : D} {j : Bool} {x1 x2 x3 x4 : D} (n1 : isNone x1 = !j) (n2 : isNone x2 = !j) (n3 : isNone x3 = !j) (n4 : isNone x4 = !j)
    (t1 : runDef defs consts kws (n + 7) 17 [D1 (.int c), D1 (.str "meet"), D1 L, D1 (.str "somebody")] = some (.val (x1), [D1 (.int c), D1 (.str "meet"), D1 L, D1 (.str "somebody")])) (t2 : runDef defs consts kws (n + 7) 16 [D1 (.int c), D1 (.str "meet"), D1 L, D1 (.str "somebody")] = some (.val (x2), [D1 (.int c), D1 (.str "meet"), D1 L, D1 (.str "somebody")])) (t3 : runDef defs consts kws (n + 7) 17 [D1 (.int c), D1 (.str "meet"), D1 L, D1 (.str "everybody")] = some (.val (x3), [D1 (.int c), D1 (.str "meet"), D1 L, D1 (.str "everybody")])) (t4 : runDef defs consts kws (n + 7) 16 [D1 (.int c), D1 (.str "meet"), D1 L, D1 (.str "everybody")] = some (.val (x4), [D1 (.int c), D1 (.str "meet"), D1 L, D1 (.str "everybody")])) : exe (cx (n + 7)) (.forS (.name 9) (.seq (.tup [(.cst (.str "somebody")), (.cst (.str "everybody"))])) b23_1) [.io M, D1 (.int c), D1 W, D1 S, .unset, D1 Z, D1 (.int h), D1 L, D1 (.bool j), .unset, .unset, .unset] = some (.next, [.io M, D1 (.int c), D1 W, D1 S, .unset, D1 Z, D1 (.int h), D1 L, D1 (.bool j), .unset, .unset, .unset]) := by
  rw [exe_for]
  have hI : runI (cx (n + 7)) (.seq (.tup [(.cst (.str "somebody")), (.cst (.str "everybody"))])) [.io M, D1 (.int c), D1 W, D1 S, .unset, D1 Z, D1 (.int h), D1 L, D1 (.bool j), .unset, .unset, .unset] = some ([.str "somebody", .str "everybody"], .val, [.io M, D1 (.int c), D1 W, D1 S, .unset, D1 Z, D1 (.int h), D1 L, D1 (.bool j), .unset, .unset, .unset], []) := by simp
  rw [hI, Option.bind_some]
  have eb := eq_bools j j
  rw [decide_eq_true rfl] at eb
  have b1 : exes (cx (n + 7)) b23_1 [.io M, D1 (.int c), D1 W, D1 S, .unset, D1 Z, D1 (.int h), D1 L, D1 (.bool j), D1 (.str "somebody"), .unset, .unset] = some (.next, [.io M, D1 (.int c), D1 W, D1 S, .unset, D1 Z, D1 (.int h), D1 L, D1 (.bool j), .unset, .unset, .unset]) := by
    simp [b23_1, exes_cons, varOf, t1, t2, n1, n2, eb]
  have b2 : exes (cx (n + 7)) b23_1 [.io M, D1 (.int c), D1 W, D1 S, .unset, D1 Z, D1 (.int h), D1 L, D1 (.bool j), D1 (.str "everybody"), .unset, .unset] = some (.next, [.io M, D1 (.int c), D1 W, D1 S, .unset, D1 Z, D1 (.int h), D1 L, D1 (.bool j), .unset, .unset, .unset]) := by
    simp [b23_1, exes_cons, varOf, t3, t4, n3, n4, eb]
  have g1 : forL (.name 9) .val (exes (cx (n + 7)) b23_1) [.str "somebody", .str "everybody"] [.io M, D1 (.int c), D1 W, D1 S, .unset, D1 Z, D1 (.int h), D1 L, D1 (.bool j), .unset, .unset, .unset] = some (.next, [.io M, D1 (.int c), D1 W, D1 S, .unset, D1 Z, D1 (.int h), D1 L, D1 (.bool j), .unset, .unset, .unset]) := by
    unfold forL
    have q1 : bindT (.name 9) (childFl .val (.str "somebody")) (.str "somebody") [.io M, D1 (.int c), D1 W, D1 S, .unset, D1 Z, D1 (.int h), D1 L, D1 (.bool j), .unset, .unset, .unset] = some [.io M, D1 (.int c), D1 W, D1 S, .unset, D1 Z, D1 (.int h), D1 L, D1 (.bool j), D1 (.str "somebody"), .unset, .unset] := by simp [putVar_eq]
    rw [q1, Option.bind_some, b1, Option.bind_some]
    show forL (.name 9) .val (exes (cx (n + 7)) b23_1) [.str "everybody"] [.io M, D1 (.int c), D1 W, D1 S, .unset, D1 Z, D1 (.int h), D1 L, D1 (.bool j), .unset, .unset, .unset] = _
    unfold forL
    have q2 : bindT (.name 9) (childFl .val (.str "everybody")) (.str "everybody") [.io M, D1 (.int c), D1 W, D1 S, .unset, D1 Z, D1 (.int h), D1 L, D1 (.bool j), .unset, .unset, .unset] = some [.io M, D1 (.int c), D1 W, D1 S, .unset, D1 Z, D1 (.int h), D1 L, D1 (.bool j), D1 (.str "everybody"), .unset, .unset] := by simp [putVar_eq]
    rw [q2, Option.bind_some, b2, Option.bind_some]
    rfl
  show (forL (.name 9) .val (exes (cx (n + 7)) b23_1) [.str "somebody", .str "everybody"] _).bind _ = _
  rw [g1]; rfl

theorem cut_sub {l : Pl} {k : Int} : (cut l k).Sublist l := by
  unfold cut
  have h := List.Sublist.append (List.Sublist.refl (l.take k.toNat)) (List.drop_sublist_drop_left l (Nat.le_succ k.toNat))
  rw [List.take_append_drop] at h
  exact h
theorem isN_opt {o : Option Pl} : isNone (optM o) = !o.isSome := by cases o <;> rfl
theorem right_ok {n : Nat} {M : MV} {b : Int} (B : Bx b M) (hb : b < 300000000) : ∃ M', sem (n + 8) 23 [.io M] = some (.val (.bool true), [.io M']) ∧ Bx (b + 150) M' := by
  obtain ⟨r, M1, t1, r0, r1, B1⟩ := take_ok (n := n + 6) (k := 9) B (by omega) (by decide) (by decide)
  obtain ⟨r2, M2, t2, q0, q1, B2⟩ := take_ok (n := n + 6) (k := 8) B1 (by omega) (by decide) (by decide)
  generalize hc : 2 + r = c at *
  obtain ⟨N, hcN⟩ : ∃ N : Nat, c = N := ⟨c.toNat, by omega⟩
  have h2 : 2 ≤ N := by omega
  have hN : N ≤ 12 := by omega
  obtain ⟨w, M3, t3, hw, hj, hwl, hwn, B3⟩ := drawn_ok (n := n + 5) (h := r2) hcN (by omega) hN q0 (by omega) B2 (by omega)
  have hwn := hwn h2
  obtain ⟨P, hP, hPl, hPw, hPu⟩ := plan_some h2 hw hj
  have gs : eqD (.str "somebody") (.str "somebody") = some true := gl_eq true
  have ge : eqD (.str "everybody") (.str "somebody") = some false := gl_eq false
  have hPin : In N P := fun e he => hw.inn e (hPw e he)
  have m16 := meeting_ok (n := n + 2) (m := true) hcN hN hw.inn (by omega) (ring_nd hw) (PlD.tup (pl := w)) gs
  have m17 := fewest_ok (n := n + 1) (m := true) hcN hN hw.inn (by omega) (ring_nd hw) (PlD.tup (pl := w)) gs
  rw [hP] at m16 m17
  have m6 := reaches_ok (n := n + 3) (m := true) hcN hN hPin (PlD.tup (pl := P)) gs
  have hr6 : isNone (hdD (rowsD true N (gall true P))) = true := by
    have : rowsD true N (gall true P) = [] := by unfold rowsD; rw [if_pos rfl, hPu]; rfl
    rw [this]; rfl
  rw [hr6] at m6
  obtain ⟨sh, M4, e6, hsl, hsw, B4⟩ := s6 (n := n) (S := .tuple (P.map pD)) hwn (by omega) hcN h2 hN B3 (by omega)
  have m6s := reaches_ok (n := n + 3) (m := true) hcN hN (fun e he => hw.inn e (hsw e he)) (PlD.tup (pl := sh)) gs
  have hr6s : isNone (hdD (rowsD true N (gall true sh))) = false := by
    have hu := few_unknown (N := N) (m := true) (pl := sh) (by omega)
    unfold rowsD
    rw [if_pos rfl]
    cases h : unk N (gall true sh) with
    | nil => exact absurd h hu
    | cons x l => rfl
  rw [hr6s] at m6s
  have hw0 : 0 < w.length := List.length_pos_iff.mpr hwn
  obtain ⟨h, M5, t5, h0, h1, B5⟩ := take_ok (n := n + 6) (k := (w.length : Int)) B4 (by omega) (by omega) (by omega)
  have hL : WB N (cut w h) := ⟨fun e he => hw.rng e (cut_sub.subset he), cut_sub.nodup hw.nd⟩
  have hLl : (cut w h).length < 1000 := by have := (cut_sub (l := w) (k := h)).length_le; omega
  have m22 := conn_ok (n := n + 6) hcN (by omega) hN hL.inn
  generalize hjn : decide ((cnn N (cut w h)).length = N) = j at *
  have hji : ∀ s, (mpl N true s (cut w h)).isSome = j := fun s => by
    rw [← hjn, Bool.eq_iff_iff, mpl_iff (by omega) hL.inn, decide_eq_true_eq, cnn_iff (by omega) hL.inn]
  have c1 := fewest_ok (n := n + 1) (m := true) hcN hN hL.inn hLl (ring_nd hL) (PlD.tup (pl := cut w h)) gs
  have c2 := meeting_ok (n := n + 2) (m := true) hcN hN hL.inn hLl (ring_nd hL) (PlD.tup (pl := cut w h)) gs
  have c3 := fewest_ok (n := n + 1) (m := true) hcN hN hL.inn hLl (ring_nd hL) (PlD.tup (pl := cut w h)) ge
  have c4 := meeting_ok (n := n + 2) (m := true) hcN hN hL.inn hLl (ring_nd hL) (PlD.tup (pl := cut w h)) ge
  have isF : ∀ s, isNone (match mpl N true s (cut w h) with | none => .none | some l => .int (l.length : Int)) = !j := fun s => by
    rw [← hji s]
    cases mpl N true s (cut w h) <;> rfl
  have isM : ∀ s, isNone (optM (mpl N true s (cut w h))) = !j := fun s => by rw [isN_opt, hji s]
  have lenP : ((P.map pD).length : Int) = c - 1 := by rw [List.length_map]; omega
  have lenP' : (P.length : Int) = ((P.map pD).length : Int) := by rw [List.length_map]
  have lenW : ((w.length : Nat) : Int) = ((w.map pD).length : Int) := by rw [List.length_map]
  refine ⟨M5, ?_, B5.mono (by omega)⟩
  have x0 := s0 (n := n) t1
  rw [hc] at x0
  have x1 := s1 (n := n) t2 t3
  have x2 := s2 (n := n) (M := M3) m16
  have x3 : exe (cx (n + 7)) (.ifs (.or (.cmp .ne (.call 17 [(.var 1), (.cst (.str "meet")), (.var 2), (.cst (.str "somebody"))]) (.bin .sub (.var 1) (.cst (.int 1)))) (.cmp .ne (.blt .len [(.var 3)]) (.bin .sub (.var 1) (.cst (.int 1))))) [ .ret (.cst (.bool false))] []) [.io M3, D1 (.int c), D1 (.tuple (w.map pD)), D1 (.tuple (P.map pD)), .unset, .unset, .unset, .unset, .unset, .unset, .unset, .unset] = some (.next, [.io M3, D1 (.int c), D1 (.tuple (w.map pD)), D1 (.tuple (P.map pD)), .unset, .unset, .unset, .unset, .unset, .unset, .unset, .unset]) := s3 (n := n) (M := M3) (Sl := P.map pD) lenP (by rw [← lenP']; exact m17)
  have x4 := s4 (n := n) (M := M3) hPw m6
  have x5 := s5 (n := n) (M := M3) (W := .tuple (w.map pD)) (p := P) (by omega) fun k k0 k1 => by
    have hcl : (cut P k).length + 1 = P.length := by
      unfold cut
      rw [List.length_append, List.length_take, List.length_drop]; omega
    refine ⟨unk N (gall true (cut P k)), few_unknown (by omega), ?_⟩
    exact unknown_ok (n := n + 5) (m := true) hcN hN (fun e he => hPin e (cut_sub.subset he)) (PlD.tup (pl := cut P k))
  have x7 := s7 (n := n) (M := M4) (W := .tuple (w.map pD)) (S := .tuple (P.map pD)) m6s
  have x8 := s8 (n := n) (M := M4) (M1 := M5) (c := c) (S := .tuple (P.map pD)) (Z := .tuple (sh.map pD)) (Wl := w.map pD) (h := h) (by rw [← lenW]; exact t5)
  have x11 := s11 (n := n) (M := M5) (W := .tuple (w.map pD)) (S := .tuple (P.map pD)) (Z := .tuple (sh.map pD)) (h := h) m22
  have x12 := s12 (n := n) (M := M5) (W := .tuple (w.map pD)) (S := .tuple (P.map pD)) (Z := .tuple (sh.map pD)) (h := h) (isF true) (isM true) (isF false) (isM false) c1 c2 c3 c4
  rw [sem, def_eq (d := d23) rfl rfl]
  show ((exes (cx (n + 7)) (_ :: _ :: _ :: _ :: _ :: _ :: _ :: _ :: _ :: _ :: _ :: _ :: _ :: _) [.io M, .unset, .unset, .unset, .unset, .unset, .unset, .unset, .unset, .unset, .unset, .unset]).bind _) = _
  rw [exes_cons, x0, thenS_next, exes_cons, x1, thenS_next, exes_cons, x2, thenS_next]
  show ((exes (cx (n + 7)) (_ :: _ :: _ :: _ :: _ :: _ :: _ :: _ :: _ :: _ :: _) [.io M3, D1 (.int c), D1 (.tuple (w.map pD)), D1 (.tuple (P.map pD)), .unset, .unset, .unset, .unset, .unset, .unset, .unset, .unset]).bind _) = _
  rw [exes_cons, x3, thenS_next, exes_cons, x4, thenS_next, exes_cons, x5, thenS_next, exes_cons, e6, thenS_next, exes_cons, x7, thenS_next, exes_cons, x8, thenS_next, s9 h0 h1 (by omega), exes_cons, x11, thenS_next, exes_cons, x12, thenS_next]
  rfl
end Lk73
set_option maxHeartbeats 4000000
namespace Lk73
open Q EM
theorem freezes_rep (j : Nat) : freezes (List.replicate j (MV.val (.bool true))) = List.replicate j (.bool true) := by
  induction j with
  | zero => rfl
  | succ j ih => rw [List.replicate_succ, List.replicate_succ, freezes_cons, ih]; rfl
theorem bools_rep (j : Nat) : boolsOf (List.replicate j (.bool true)) = some (List.replicate j true) := by
  induction j with
  | zero => rfl
  | succ j ih =>
    rw [List.replicate_succ]
    show (boolsOf (List.replicate j (.bool true))).map (true :: ·) = _
    rw [ih]; rfl
theorem box_ok {n : Nat} {ns : List Int} {k : Int} (h0 : 0 ≤ k) : ∃ M, sem (n + 1) 18 [scriptS ns, D1 (.int k)] = some (M, [scriptS ns, D1 (.int k)]) ∧ Bx 0 M := by
  have mk1 : ∀ (c : Prop) [Decidable c], -18446744073709551616 < (if c then (1 : Int) else 0) := fun c _ => by split <;> decide
  have mk2 : ∀ (c : Prop) [Decidable c], (if c then (1 : Int) else 0) < 18446744073709551616 := fun c _ => by split <;> decide
  have bx : ∀ {a b : Int}, 0 ≤ b → b < 2147483563 → Bx 0 (.lst [.val (.int a), .val (.int b), .val (.int 0)]) := fun {a b} h1 h2 => ⟨_, _, _, rfl, Int.le_refl _, Int.le_refl _, h1, h2⟩
  by_cases h : k < ns.length
  · have hat : L2.atI (ns.map PySem.PyData.int) k = some (.int (ns[k.toNat]'(by omega))) := by
      have := L2.atI_nat (xs := ns.map PySem.PyData.int) (j := k.toNat) (v := .int (ns[k.toNat]'(by omega))) (by simp)
      rwa [Int.toNat_of_nonneg h0] at this
    generalize (ns[k.toNat]'(by omega)) = cell at hat
    refine ⟨_, ?_, bx (a := (if cell < 0 then -cell else cell) * (if (10 : Int) ^ 18 ≤ (if cell < 0 then -cell else cell) then 1 else 0)) (b := ((cell % 2305843009213693921 + 41177 * k + 53) * 38923) % 2147483563) (by omega) (by omega)⟩
    rw [sem, def_eq (d := d18) rfl rfl]
    simp [d18, scriptS, hat, h, putVar_eq, mk1, mk2]
  · refine ⟨_, ?_, bx (a := 0) (b := ((0 + 41177 * k + 53) * 38923) % 2147483563) (by omega) (by omega)⟩
    rw [sem, def_eq (d := d18) rfl rfl]
    simp [d18, scriptS, h, putVar_eq]
theorem all_right {n : Nat} {ns : List Int} {k : Int} {M : MV} (B : Bx 0 M) : ∃ M', compL (.name 3) .val none (run (cx (n + 9)) (.call 23 [(.var 2)])) [3] (rangeD 0 4) [] [scriptS ns, D1 (.int k), .own M, .unset] = some (List.replicate 4 (.val (.bool true)), [scriptS ns, D1 (.int k), .own M', .unset]) := by
  obtain ⟨acc, ρ, e, j, M', b, h1, h2, h3⟩ := compL_inv (tg := .name 3) (fl := .val) (elt := run (cx (n + 9)) (.call 23 [(.var 2)])) (own := [3]) (fun rest acc ρ => ∃ (j : Nat) (M' : MV) (b : Int), (ρ = [scriptS ns, D1 (.int k), .own M', .unset] ∧ acc = List.replicate j (.val (.bool true))) ∧ (Bx b M' ∧ b + 150 * rest.length ≤ 600) ∧ j + rest.length = 4) (rangeD 0 4) [] [scriptS ns, D1 (.int k), .own M, .unset] ⟨0, M, 0, ⟨rfl, rfl⟩, ⟨B, by rw [rangeD_len]; decide⟩, by rw [rangeD_len]⟩ (fun d rest acc ρ h => by
    obtain ⟨j, M', b, ⟨rfl, rfl⟩, ⟨B', hb⟩, hj⟩ := h
    rw [List.length_cons] at hb hj
    obtain ⟨M2, t, B2⟩ := right_ok (n := n + 1) B' (by omega)
    have t' : runDef defs consts kws (n + 9) 23 [.io M'] = _ := t
    refine ⟨[scriptS ns, D1 (.int k), .own M', D1 d], .val (.bool true), [scriptS ns, D1 (.int k), .own M2, D1 d], by simp [putVar_eq], by simp [varOf, t'], j + 1, M2, b + 150, ⟨by simp, ?_⟩, ⟨B2, by omega⟩, by omega⟩
    rw [List.replicate_succ'])
  obtain ⟨rfl, rfl⟩ := h1
  have hj : j = 4 := by simpa using h3
  subst hj
  exact ⟨M', e⟩
def lvl : Nat := 11
theorem law_key (n : Nat) (ns : List Int) : Ok (sem (n + 10) 24 [scriptS ns]) fun r => r.1 = .val (.bool true) := by
  rw [sem, def_eq (d := d24) rfl rfl]
  obtain ⟨K, hI⟩ : ∃ K : Nat, runI (cx (n + 9)) (.rng1 (.bin .add (.cst (.int 1)) (.blt .min2 [(.cst (.int 1)), (.blt .len [(.var 0)])]))) [scriptS ns, .unset, .unset, .unset] = some (rangeD 0 K, .val, [scriptS ns, .unset, .unset, .unset], []) := by
    by_cases h : (ns.length : Int) < 1
    · have e : (ns.length : Int) = 0 := by omega
      have hr := inR (k := 1) (by omega) (by omega)
      exact ⟨1, by simp [scriptS, e, hr]⟩
    · have hr := inR (k := 2) (by omega) (by omega)
      exact ⟨2, by simp [scriptS, h, hr]⟩
  show Ok ((exes (cx (n + 9)) [.forS (.name 1) (.rng1 (.bin .add (.cst (.int 1)) (.blt .min2 [(.cst (.int 1)), (.blt .len [(.var 0)])]))) b24_0, _] [scriptS ns, .unset, .unset, .unset]).bind _) _
  rw [exes_cons, Ok_bind, Ok_thenS, exe_for, hI, Option.bind_some, Ok_bind]
  refine Ok_forL (fun rest ρ => ρ = [scriptS ns, .unset, .unset, .unset] ∧ ∀ d ∈ rest, ∃ k : Int, 0 ≤ k ∧ d = .int k) _ _ ⟨rfl, fun d hd => ?_⟩ (fun d rest ρ h => ?_) (fun ρ h => ?_)
  · simp only [rangeD, List.mem_map, List.mem_range] at hd
    obtain ⟨k, hk, rfl⟩ := hd
    exact ⟨_, by omega, rfl⟩
  · obtain ⟨rfl, hr⟩ := h
    obtain ⟨k, hk, rfl⟩ := hr d List.mem_cons_self
    obtain ⟨M, eb, Bb⟩ := box_ok (n := n + 8) (ns := ns) hk
    obtain ⟨M', hc⟩ := all_right (n := n) (ns := ns) (k := k) Bb
    have eb' : runDef defs consts kws (n + 9) 18 [scriptS ns, D1 (.int k)] = _ := eb
    have h6 : inRng 4 = true := inR (by omega) (by omega)
    have hb := bools_rep 4
    have hf := freezes_rep 4
    have hz : 4 < 1000001 := by decide
    have key : exes (cx (n + 9)) b24_0 [scriptS ns, D1 (.int k), .unset, .unset] = some (.next, [scriptS ns, .unset, .unset, .unset]) := by
      unfold scriptS at eb' hc ⊢
      generalize hL : List.replicate 4 (MV.val (.bool true)) = L at hc hf
      have hLl : L.length < 1000001 := by rw [← hL]; decide
      generalize List.replicate 4 (PySem.PyData.bool true) = Ld at hf hb
      simp [b24_0, varOf, eb', h6, hc, hf, hb, hLl, putVar_eq]
    have hbd : bindT (.name 1) (childFl .val (.int k)) (.int k) [scriptS ns, .unset, .unset, .unset] = some [scriptS ns, D1 (.int k), .unset, .unset] := by simp [putVar_eq]
    rw [hbd, Ok_some, key, Ok_some, Turn_next]
    exact ⟨rfl, fun d h => hr d (List.mem_cons_of_mem _ h)⟩
  · obtain ⟨rfl, _⟩ := h
    simp
theorem law_true (ns : List Int) (hn : ns.length ≤ 63) : ∃ outs, runDef g.P g.consts g.kws lvl 24 [scriptS ns] = some (.val (.bool true), outs) := by
  obtain ⟨⟨m, o⟩, e, h⟩ := (law_key 1 ns).get
  have h : m = .val (.bool true) := h
  subst h
  exact ⟨o, e⟩
end Lk73
open PySem PySem.W PyProof.Rows
set_option maxHeartbeats 0 in
theorem PySem.Challenge.cw_hiddenforks_k73_whole_somebody_holds : PySem.Challenge.rw_hiddenforks_k73_whole_somebody.Holds := by
  w_on; o_law; k_head; (case hw => w_witness2)
  k_fill
  refine Q.walk_q (l := PySem.Challenge.rw_hiddenforks_k73_whole_somebody) (n := 63) (k := Lk73.lvl) (j := 24) (x := "_law_script") (g := Lk73.g) (tx := Lk73.tx) (di := Lk73.d24) rfl (by decide) rfl ⟨rfl, by decide, by decide⟩ rfl rfl rfl rfl rfl rfl (fun w h Y => PySem.W.kIn_of Y) ?F ?B Lk73.law_true
  case B =>
    intro w f fd F s u
    obtain ⟨oc, od, kV, doc, pm, an, cdv, ct, osl, rfl, lk, hcd⟩ := F.ex
    exact .of_eq rfl
  case F =>
    intro w mg h KX G
    refine' Lk73.w1 KX G ?aCWays ?pgWays ?hdWays ?poWays ?saWays ?mkWays ?kcWays ?nf0 ?nf1 ?nf2 ?a0 ?l0 ?c0 ?k0 ?a1 ?l1 ?c1 ?k1 ?a2 ?l2 ?c2 ?k2 ?a3 ?l3 ?c3 ?k3 ?a4 ?l4 ?c4 ?k4 ?a5 ?l5 ?c5 ?k5 ?a6 ?l6 ?c6 ?k6 ?a7 ?i7 ?l7 ?c7 ?k7 ?a8 ?i8 ?l8 ?c8 ?k8 ?a9 ?i9 ?l9 ?c9 ?k9 ?a10 ?i10 ?l10 ?c10 ?k10 ?a11 ?i11 ?l11 ?c11 ?k11 ?a12 ?i12 ?l12 ?c12 ?k12 ?a13 ?i13 ?l13 ?c13 ?k13 ?a14 ?i14 ?l14 ?c14 ?k14 ?a15 ?i15 ?l15 ?c15 ?k15 ?a16 ?l16 ?c16 ?k16 ?a17 ?l17 ?c17 ?k17 ?a18 ?l18 ?c18 ?k18 ?a19 ?l19 ?c19 ?k19 ?a20 ?l20 ?c20 ?k20 ?a21 ?l21 ?c21 ?k21 ?a22 ?l22 ?c22 ?k22 ?a23 ?l23 ?c23 ?k23 ?a24 ?l24 ?c24 ?k24 ?gl0 ?gl1 ?z0 ?z1 ?z2 ?z3 ?z4 ?z5 ?z6 ?z7 ?z8 ?z9 ?z10 ?z11 ?z12 ?z13
    (case aCWays => k_is); (case pgWays => k_is); (case hdWays => k_is); (case poWays => k_is); (case saWays => k_is); (case mkWays => k_is); (case kcWays => k_is); (case nf0 => k_is); (case nf1 => k_is); (case nf2 => k_is); (case a0 => k_is); (case l0 => k_is); (case c0 => k_is); (case k0 => k_is); (case a1 => k_is); (case l1 => k_is); (case c1 => k_is); (case k1 => k_is); (case a2 => k_is); (case l2 => k_is); (case c2 => k_is); (case k2 => k_is); (case a3 => k_is); (case l3 => k_is); (case c3 => k_is); (case k3 => k_is); (case a4 => k_is); (case l4 => k_is); (case c4 => k_is); (case k4 => k_is); (case a5 => k_is); (case l5 => k_is); (case c5 => k_is); (case k5 => k_is); (case a6 => k_is); (case l6 => k_is); (case c6 => k_is); (case k6 => k_is); (case a7 => k_is); (case i7 => k_is); (case l7 => k_is); (case c7 => k_is); (case k7 => k_is); (case a8 => k_is); (case i8 => k_is); (case l8 => k_is); (case c8 => k_is); (case k8 => k_is); (case a9 => k_is); (case i9 => k_is); (case l9 => k_is); (case c9 => k_is); (case k9 => k_is); (case a10 => k_is); (case i10 => k_is); (case l10 => k_is); (case c10 => k_is); (case k10 => k_is); (case a11 => k_is); (case i11 => k_is); (case l11 => k_is); (case c11 => k_is); (case k11 => k_is); (case a12 => k_is); (case i12 => k_is); (case l12 => k_is); (case c12 => k_is); (case k12 => k_is); (case a13 => k_is); (case i13 => k_is); (case l13 => k_is); (case c13 => k_is); (case k13 => k_is); (case a14 => k_is); (case i14 => k_is); (case l14 => k_is); (case c14 => k_is); (case k14 => k_is); (case a15 => k_is); (case i15 => k_is); (case l15 => k_is); (case c15 => k_is); (case k15 => k_is); (case a16 => k_is); (case l16 => k_is); (case c16 => k_is); (case k16 => k_is); (case a17 => k_is); (case l17 => k_is); (case c17 => k_is); (case k17 => k_is); (case a18 => k_is); (case l18 => k_is); (case c18 => k_is); (case k18 => k_is); (case a19 => k_is); (case l19 => k_is); (case c19 => k_is); (case k19 => k_is); (case a20 => k_is); (case l20 => k_is); (case c20 => k_is); (case k20 => k_is); (case a21 => k_is); (case l21 => k_is); (case c21 => k_is); (case k21 => k_is); (case a22 => k_is); (case l22 => k_is); (case c22 => k_is); (case k22 => k_is); (case a23 => k_is); (case l23 => k_is); (case c23 => k_is); (case k23 => k_is); (case a24 => k_is); (case l24 => k_is); (case c24 => k_is); (case k24 => k_is); (case gl0 => k_is); (case gl1 => k_is); (case z0 => k_is); (case z1 => k_is); (case z2 => k_is); (case z3 => k_is); (case z4 => k_is); (case z5 => k_is); (case z6 => k_is); (case z7 => k_is); (case z8 => k_is); (case z9 => k_is); (case z10 => k_is); (case z11 => k_is); (case z12 => k_is); (case z13 => k_is)
