import PyProof.Rows.All
import Wide.All
import OpenK.AllK
import Wide.FinOn
import HandS.ForMost
import HandS.Exc
import HandS.TryOnly
import HandS.ExcOwn
import HandS.WordsExc
import HandS.Wide
import HandS.WideBits
import HandS.TupAny
import HandS.Style
import KE.DataEq
import KE.LtData
import KE.DataMinMax
import KE.SortData
import HandS.TupMul
import HandS.Conv
import HandS.RaiseMore
import PyProof.ReprRoads
import HandS.Small
import HandS.More
import HandS.Zip
import KE.KExcSuper
import HandS.ExcSuper
import HandS.ExcInit
import HandS.ExcField
import HandS.ListItems
import HandS.CallLocal
import HandS.Codes
import HandS.SortInts
import HandS.Ends
import PySem.Challenge.RW_codeddeals_k11_cells_one_by_one
set_option Elab.async false
set_option linter.all false
set_option maxRecDepth 100000
namespace Pw
open PySem PySem.Spec PyProof.Rows L2

abbrev D := PyData
/-- the drawn source's numbers -/
structure Src where
  cells : List Int
  left : Int
  mixed : Int
  turn : Int
/-- what a slot, an argument, a result holds -/
inductive SV where
  | sh (d : D)
  | own (d : D)
  | fn (a : Addr)
  | src
  | exd (fs : List (Str × D))
  | fns (as : List Addr)
  | exn (fs : List (Str × D))
  | scr (ns : List Int)
structure S where
  sl : List (Option SV)
  src : Option Src
structure Ex where
  cls : Addr
  fs : List (Str × D)
inductive Res (α : Type) where
  | ok (a : α) (s : S)
  | exc (e : Ex) (s : S)
  | err
def Res.bind {α β : Type} (r : Res α) (k : α → S → Res β) : Res β :=
  match r with
  | .ok a s => k a s
  | .exc e s => .exc e s
  | .err => .err
def Res.sat {α : Type} (r : Res α) (Q : α → S → Prop) (E : Ex → S → Prop) : Prop :=
  match r with
  | .ok a s => Q a s
  | .exc e s => E e s
  | .err => False
theorem Res.sat_bind {α β : Type} {r : Res α} {k : α → S → Res β} {Q : β → S → Prop} {E : Ex → S → Prop} : (r.bind k).sat Q E ↔ r.sat (fun a s => (k a s).sat Q E) E := by
  cases r <;> exact Iff.rfl
theorem Res.sat_mono {α : Type} {r : Res α} {Q Q' : α → S → Prop} {E E' : Ex → S → Prop} (h : r.sat Q E) (hq : ∀ a s, Q a s → Q' a s) (he : ∀ a s, E a s → E' a s) : r.sat Q' E' := by
  cases r with
  | ok a s => exact hq _ _ h
  | exc e s => exact he _ _ h
  | err => exact h

/-! ### what a value holds -/
def keyD : Key → D
  | .inl i => .int i
  | .inr s => .str s
mutual
inductive Rp (K : PySem.W.Frag) (H : Hp) (O : Addr → Prop) : V → D → Prop
  | non : Rp K H O .non .none
  | bl (b : Bool) : Rp K H O (.bl b) (.bool b)
  | int (i : Int) : Rp K H O (.int i) (.int i)
  | str (x : Str) : Rp K H O (.str x) (.str x)
  | lst {a : Addr} {xs : List V} {ds : List D} : H a = some (.lst xs) → ¬ O a → RpA K H O xs ds → Rp K H O (.ref a) (.list ds)
  | tup {a : Addr} {xs : List V} {ds : List D} : H a = some (.tup xs) → ¬ O a → RpA K H O xs ds → Rp K H O (.ref a) (.tuple ds)
  | tupK {a : Addr} {xs : List V} {ds : List D} {o : Obj} {its : Array Value} {n : Nat} : K.lookup a = some o → o.cls = .type "tuple" → o.data = .seq its n → its.size ≤ sizeLine → Vals xs its.toList → RpA K H O xs ds → Rp K H O (.ref a) (.tuple ds)
  | dic {a : Addr} {kvs : List (Key × V)} {ds : List (D × D)} : H a = some (.dK kvs) → ¬ O a → RpD K H O kvs ds → Rp K H O (.ref a) (.dict ds)
inductive RpA (K : PySem.W.Frag) (H : Hp) (O : Addr → Prop) : List V → List D → Prop
  | nil : RpA K H O [] []
  | cons {v : V} {vs : List V} {d : D} {ds : List D} : Rp K H O v d → RpA K H O vs ds → RpA K H O (v :: vs) (d :: ds)
inductive RpD (K : PySem.W.Frag) (H : Hp) (O : Addr → Prop) : List (Key × V) → List (D × D) → Prop
  | nil : RpD K H O [] []
  | cons {k : Key} {v : V} {vs : List (Key × V)} {d : D} {ds : List (D × D)} : Rp K H O v d → RpD K H O vs ds → RpD K H O ((k, v) :: vs) ((keyD k, d) :: ds)
end
section
variable {K : PySem.W.Frag} {H H' : Hp} {O O' : Addr → Prop}
mutual
theorem Rp.keep (hk : ∀ b x, H b = some x → ¬ O b → H' b = some x) (ho : ∀ b, O' b → O b ∨ H b = none) : ∀ {v : V} {d : D}, Rp K H O v d → Rp K H' O' v d
  | _, _, .non => .non
  | _, _, .bl b => .bl b
  | _, _, .int i => .int i
  | _, _, .str x => .str x
  | _, _, .lst e n r => .lst (hk _ _ e n) (fun z => (ho _ z).elim n fun q => by rw [e] at q; cases q) (RpA.keep hk ho r)
  | _, _, .tup e n r => .tup (hk _ _ e n) (fun z => (ho _ z).elim n fun q => by rw [e] at q; cases q) (RpA.keep hk ho r)
  | _, _, .tupK e1 e2 e3 e4 e5 r => .tupK e1 e2 e3 e4 e5 (RpA.keep hk ho r)
  | _, _, .dic e n r => .dic (hk _ _ e n) (fun z => (ho _ z).elim n fun q => by rw [e] at q; cases q) (RpD.keep hk ho r)
theorem RpA.keep (hk : ∀ b x, H b = some x → ¬ O b → H' b = some x) (ho : ∀ b, O' b → O b ∨ H b = none) : ∀ {v : List V} {d : List D}, RpA K H O v d → RpA K H' O' v d
  | _, _, .nil => .nil
  | _, _, .cons r s => .cons (Rp.keep hk ho r) (RpA.keep hk ho s)
theorem RpD.keep (hk : ∀ b x, H b = some x → ¬ O b → H' b = some x) (ho : ∀ b, O' b → O b ∨ H b = none) : ∀ {v : List (Key × V)} {d : List (D × D)}, RpD K H O v d → RpD K H' O' v d
  | _, _, .nil => .nil
  | _, _, .cons r s => .cons (Rp.keep hk ho r) (RpD.keep hk ho s)
end
theorem Rp.less (h : Rp K H O v d) (ho : ∀ b, O' b → O b) : Rp K H O' v d := h.keep (fun _ _ e _ => e) fun b z => .inl (ho b z)
theorem RpA.less (h : RpA K H O v d) (ho : ∀ b, O' b → O b) : RpA K H O' v d := h.keep (fun _ _ e _ => e) fun b z => .inl (ho b z)
theorem RpD.less (h : RpD K H O v d) (ho : ∀ b, O' b → O b) : RpD K H O' v d := h.keep (fun _ _ e _ => e) fun b z => .inl (ho b z)
theorem RpA.length : ∀ {v : List V} {d : List D}, RpA K H O v d → v.length = d.length
  | _, _, .nil => rfl
  | _, _, .cons _ s => congrArg (· + 1) (RpA.length s)
theorem RpD.length : ∀ {v : List (Key × V)} {d : List (D × D)}, RpD K H O v d → v.length = d.length
  | _, _, .nil => rfl
  | _, _, .cons _ s => congrArg (· + 1) (RpD.length s)
theorem RpA.append : ∀ {v w : List V} {d e : List D}, RpA K H O v d → RpA K H O w e → RpA K H O (v ++ w) (d ++ e)
  | _, _, _, _, .nil, s => s
  | _, _, _, _, .cons r t, s => .cons r (RpA.append t s)
theorem RpA.get : ∀ {v : List V} {ds : List D} {i : Nat} {d : D}, RpA K H O v ds → ds[i]? = some d → ∃ x, v[i]? = some x ∧ Rp K H O x d
  | _, _, _, _, .nil, e => by simp at e
  | _, _, 0, _, .cons r _, e => by simp at e; subst e; exact ⟨_, rfl, r⟩
  | _, _, i + 1, d, .cons _ t, e => by
    obtain ⟨x, h1, h2⟩ := RpA.get (i := i) (d := d) t (by simpa using e)
    exact ⟨x, by simpa using h1, h2⟩
theorem RpA.take : ∀ {v : List V} {ds : List D} (n : Nat), RpA K H O v ds → RpA K H O (v.take n) (ds.take n)
  | _, _, 0, _ => by simpa using RpA.nil
  | _, _, n + 1, .nil => by simpa using RpA.nil
  | _, _, n + 1, .cons r t => by simpa using RpA.cons r (RpA.take n t)
theorem RpA.drop : ∀ {v : List V} {ds : List D} (n : Nat), RpA K H O v ds → RpA K H O (v.drop n) (ds.drop n)
  | _, _, 0, r => by simpa using r
  | _, _, n + 1, .nil => by simpa using RpA.nil
  | _, _, n + 1, .cons r t => by simpa using RpA.drop n t
theorem RpA.eraseIdx : ∀ {v : List V} {ds : List D} (n : Nat), RpA K H O v ds → RpA K H O (v.eraseIdx n) (ds.eraseIdx n)
  | _, _, _, .nil => by simpa using RpA.nil
  | _, _, 0, .cons r t => by simpa using t
  | _, _, n + 1, .cons r t => by simpa using RpA.cons r (RpA.eraseIdx n t)
theorem RpA.set : ∀ {v : List V} {ds : List D} {x : V} {d : D} (n : Nat), Rp K H O x d → RpA K H O v ds → RpA K H O (v.set n x) (ds.set n d)
  | _, _, _, _, _, _, .nil => by simpa using RpA.nil
  | _, _, _, _, 0, q, .cons r t => by simpa using RpA.cons q t
  | _, _, _, _, n + 1, q, .cons r t => by simpa using RpA.cons r (RpA.set n q t)
theorem RpA.reverse : ∀ {v : List V} {ds : List D}, RpA K H O v ds → RpA K H O v.reverse ds.reverse
  | _, _, .nil => by simpa using RpA.nil
  | _, _, .cons r t => by simpa using (RpA.reverse t).append (.cons r .nil)
theorem RpA.rep {v : List V} {ds : List D} (h : RpA K H O v ds) : ∀ k : Nat, RpA K H O (List.replicate k v).flatten (List.replicate k ds).flatten
  | 0 => .nil
  | k + 1 => by
    rw [List.replicate_succ, List.replicate_succ, List.flatten_cons, List.flatten_cons]
    exact h.append (RpA.rep h k)
end

/-! ### the state -/
structure Zx where
  K : PySem.W.Frag
  H0 : Hp
  Oc : Addr → Prop
  A : Option (Addr × Addr)
  Xn : Option (Addr × Addr)
abbrev Ent := Option V × Option SV
/-- an owned list or dict -/
def RpO (K : PySem.W.Frag) (H : Hp) (O : Addr → Prop) (a : Addr) : D → Prop
  | .list ds => ∃ xs, H a = some (.lst xs) ∧ RpA K H O xs ds
  | .dict ds => ∃ ks, H a = some (.dK ks) ∧ RpD K H O ks ds
  | _ => False
def InA (A : Option (Addr × Addr)) (a : Addr) : Prop := match A with
  | none => False
  | some (x, y) => a = x ∨ a = y
/-- fields of an error -/
def RpF (K : PySem.W.Frag) (H : Hp) (O : Addr → Prop) (xs : List (Str × V)) (fs : List (Str × D)) : Prop :=
  Paired (fun (p : Str × V) (q : Str × D) => p.1 = q.1 ∧ Rp K H O p.2 q.2) xs fs
def ScrK (K : PySem.W.Frag) (a : Addr) (xs : List V) : Prop := ∃ (o : Obj) (its : Array Value) (n : Nat), K.lookup a = some o ∧ o.cls = .type "list" ∧ o.dict = none ∧ o.data = .seq its n ∧ its.size ≤ sizeLine ∧ Vals xs its.toList
def SvOk (Z : Zx) (H : Hp) (O : Addr → Prop) (v : V) : SV → Prop
  | .sh d => Rp Z.K H O v d
  | .own d => ∃ a, v = .ref a ∧ O a ∧ (Z.H0 a = none ∧ ¬ Z.Oc a) ∧ ¬ InA Z.A a ∧ RpO Z.K H O a d
  | .fn a => v = .ref a
  | .src => ∃ x y, Z.A = some (x, y) ∧ v = .ref x
  | .fns as => ∃ a, v = .ref a ∧ ¬ O a ∧ H a = some (.tup (as.map V.ref))
  | .scr ns => ∃ a, v = .ref a ∧ ((Rd H a (.lst (ns.map V.int)) ∧ ¬ O a) ∨ ScrK Z.K a (ns.map V.int))
  | .exn fs => ∃ a dd xs, Z.Xn = some (a, dd) ∧ v = .ref a ∧ ¬ O dd ∧ H dd = some (.xd xs) ∧ RpF Z.K H O xs fs
  | .exd fs => ∃ a xs, v = .ref a ∧ ¬ O a ∧ H a = some (.xd xs) ∧ RpF Z.K H O xs fs
def EntOk (Z : Zx) (H : Hp) (O : Addr → Prop) (e : Ent) : Prop := ∀ s, e.2 = some s → ∃ v, e.1 = some v ∧ SvOk Z H O v s
def Apart (p q : Ent) : Prop := ∀ d e a, p.2 = some (.own d) → q.2 = some (.own e) → p.1 = some (.ref a) → q.1 ≠ some (.ref a)
theorem Apart.symm {p q : Ent} (h : Apart p q) : Apart q p := fun d e a h1 h2 h3 h4 => h e d a h2 h1 h4 h3
def srcKv (y : Addr) (s : Src) : List (Key × V) := [(.inr "cells", .ref y), (.inr "left", .int s.left), (.inr "mixed", .int s.mixed), (.inr "turn", .int s.turn)]
def SrcOk (A : Option (Addr × Addr)) (H : Hp) (O : Addr → Prop) (src : Option Src) : Prop := match src, A with
  | none, none => True
  | some s, some (x, y) => x ≠ y ∧ O x ∧ O y ∧ H x = some (.dK (srcKv y s)) ∧ H y = some (.lst (s.cells.map V.int))
  | _, _ => False
structure RelO (Z : Zx) (H : Hp) (src : Option Src) (L : List Ent) (O : Addr → Prop) : Prop where
  oc : ∀ a, Z.Oc a → O a
  ent : ∀ e ∈ L, EntOk Z H O e
  ap : L.Pairwise Apart
  src : SrcOk Z.A H O src
  base : ∀ b x, Z.H0 b = some x → ¬ InA Z.A b → H b = some x
  live : ∀ b, O b → ∃ x, H b = some x
def Rel (Z : Zx) (H : Hp) (src : Option Src) (L : List Ent) : Prop := ∃ O, RelO Z H src L O
end Pw
set_option Elab.async false
set_option linter.all false
set_option maxRecDepth 100000
namespace Pw
open PySem PySem.Spec PyProof.Rows L2
section
variable {Z : Zx} {H H' : Hp} {O O' Dt : Addr → Prop} {src src' : Option Src} {L L' : List Ent} {v : V} {d : D}
theorem paired_imp {α β : Type} {F G : α → β → Prop} : ∀ {l₁ : List α} {l₂ : List β}, Paired F l₁ l₂ → (∀ a b, F a b → G a b) → Paired G l₁ l₂
  | _, _, .nil, _ => .nil
  | _, _, .cons r t, f => .cons (f _ _ r) (paired_imp t f)
/-- a step of the heap: what is dirty was forbidden -/
structure Stp (H H' : Hp) (O O' Dt : Addr → Prop) : Prop where
  hk : ∀ b x, H b = some x → ¬ Dt b → H' b = some x
  hd : ∀ b, Dt b → O b
  ho : ∀ b, O' b → O b ∨ H b = none
  hi : ∀ b, O b → ¬ Dt b → O' b
theorem Stp.rp (t : Stp H H' O O' Dt) {K} (h : Rp K H O v d) : Rp K H' O' v d := h.keep (fun b x e n => t.hk b x e fun z => n (t.hd b z)) t.ho
theorem Stp.rpA (t : Stp H H' O O' Dt) {K} {vs ds} (h : RpA K H O vs ds) : RpA K H' O' vs ds := h.keep (fun b x e n => t.hk b x e fun z => n (t.hd b z)) t.ho
theorem Stp.rpD (t : Stp H H' O O' Dt) {K} {vs ds} (h : RpD K H O vs ds) : RpD K H' O' vs ds := h.keep (fun b x e n => t.hk b x e fun z => n (t.hd b z)) t.ho
theorem Stp.rpO (t : Stp H H' O O' Dt) {K} {a : Addr} (n : ¬ Dt a) (h : RpO K H O a d) : RpO K H' O' a d := by
  cases d <;> try exact h
  · obtain ⟨xs, e, r⟩ := h; exact ⟨xs, t.hk _ _ e n, t.rpA r⟩
  · obtain ⟨xs, e, r⟩ := h; exact ⟨xs, t.hk _ _ e n, t.rpD r⟩
/-- an entry that owns no dirty thing -/
def Clear (Dt : Addr → Prop) (e : Ent) : Prop := ∀ d a, e.2 = some (.own d) → e.1 = some (.ref a) → ¬ Dt a
theorem Stp.sv (t : Stp H H' O O' Dt) {s : SV} (c : ∀ d a, s = .own d → v = .ref a → ¬ Dt a) (h : SvOk Z H O v s) : SvOk Z H' O' v s := by
  cases s with
  | sh d => exact t.rp h
  | own d => obtain ⟨a, e, o, f, n, r⟩ := h; exact ⟨a, e, t.hi a o (c d a rfl e), f, n, t.rpO (c d a rfl e) r⟩
  | fn a => exact h
  | src => exact h
  | fns as =>
    obtain ⟨a, e, n, q⟩ := h
    refine ⟨a, e, fun z => ?_, t.hk _ _ q fun z => n (t.hd _ z)⟩
    rcases t.ho _ z with y | y
    · exact n y
    · rw [q] at y; cases y
  | scr ns =>
    obtain ⟨a, e, ⟨q, n⟩ | q⟩ := h
    · have nd : ¬ Dt a := fun z => n (t.hd _ z)
      have some' : ∃ x, H a = some x := q.elim (fun q => ⟨_, q⟩) fun ⟨o, q⟩ => ⟨_, q⟩
      refine ⟨a, e, .inl ⟨?_, fun z => ?_⟩⟩
      · rcases q with q | ⟨o, q⟩
        · exact .inl (t.hk _ _ q nd)
        · exact .inr ⟨o, t.hk _ _ q nd⟩
      · obtain ⟨x, hx⟩ := some'
        rcases t.ho _ z with y | y
        · exact n y
        · rw [hx] at y; cases y
    · exact ⟨a, e, .inr q⟩
  | exn fs =>
    obtain ⟨a, dd, xs, z, e, n, q, r⟩ := h
    refine ⟨a, dd, xs, z, e, fun z => ?_, t.hk _ _ q fun z => n (t.hd _ z), paired_imp r fun p q z => ⟨z.1, t.rp z.2⟩⟩
    rcases t.ho _ z with y | y
    · exact n y
    · rw [q] at y; cases y
  | exd fs =>
    obtain ⟨a, xs, e, n, q, r⟩ := h
    refine ⟨a, xs, e, fun z => ?_, t.hk _ _ q fun z => n (t.hd _ z), paired_imp r fun p q z => ⟨z.1, t.rp z.2⟩⟩
    rcases t.ho _ z with y | y
    · exact n y
    · rw [q] at y; cases y
theorem Stp.ent (t : Stp H H' O O' Dt) {e : Ent} (c : Clear Dt e) (h : EntOk Z H O e) : EntOk Z H' O' e := fun s q => by
  obtain ⟨v, e1, r⟩ := h s q
  exact ⟨v, e1, t.sv (fun d a z y => c d a (z ▸ q) (y ▸ e1)) r⟩
theorem Stp.of_keep (hk : ∀ b x, H b = some x → H' b = some x) : Stp H H' O O (fun _ => False) := ⟨fun b x e _ => hk b x e, fun _ z => z.elim, fun _ z => .inl z, fun _ z _ => z⟩
theorem Clear.none {e : Ent} : Clear (fun _ => False) e := fun _ _ _ _ z => z

theorem Rel.perm (h : Rel Z H src L) (p : L.Perm L') : Rel Z H src L' := by
  obtain ⟨O, r⟩ := h
  exact ⟨O, r.oc, fun e he => r.ent e (p.mem_iff.mpr he), (p.pairwise_iff fun h => h.symm).mp r.ap, r.src, r.base, r.live⟩
theorem Rel.pop {e : Ent} (h : Rel Z H src (e :: L)) : Rel Z H src L := by
  obtain ⟨O, r⟩ := h
  exact ⟨O, r.oc, fun e he => r.ent e (List.mem_cons_of_mem _ he), (List.pairwise_cons.mp r.ap).2, r.src, r.base, r.live⟩
theorem Rel.popN (T : List Ent) (h : Rel Z H src (T ++ L)) : Rel Z H src L := by
  induction T with
  | nil => exact h
  | cons e T ih => exact ih h.pop
/-- an entry without an owner -/
def Mild (e : Ent) : Prop := ∀ d, e.2 ≠ some (.own d)
theorem Mild.apart {e f : Ent} (m : Mild e) : Apart e f := fun d _ _ h => absurd h (m d)
theorem RelO.push {e : Ent} (r : RelO Z H src L O) (m : Mild e) (h : EntOk Z H O e) : RelO Z H src (e :: L) O :=
  ⟨r.oc, fun f hf => (List.mem_cons.mp hf).elim (fun z => z ▸ h) (r.ent f), List.pairwise_cons.mpr ⟨fun _ _ => m.apart, r.ap⟩, r.src, r.base, r.live⟩
theorem mild_none {x} : Mild (x, none) := fun _ h => by cases h
theorem mild_sh {x d} : Mild (x, some (.sh d)) := fun _ h => by cases h
theorem mild_fn {x a} : Mild (x, some (.fn a)) := fun _ h => by cases h
theorem mild_fns {x a} : Mild (x, some (.fns a)) := fun _ h => by cases h
theorem mild_exn {x a} : Mild (x, some (.exn a)) := fun _ h => by cases h
theorem mild_scr {x a} : Mild (x, some (.scr a)) := fun _ h => by cases h
theorem mild_src {x} : Mild (x, some .src) := fun _ h => by cases h
theorem mild_exd {x f} : Mild (x, some (.exd f)) := fun _ h => by cases h
theorem Rel.triv {x} (h : Rel Z H src L) : Rel Z H src ((x, none) :: L) := by
  obtain ⟨O, r⟩ := h
  exact ⟨O, r.push mild_none fun s q => by cases q⟩
/-- data without an object -/
def flat : D → Prop
  | .none | .bool _ | .int _ | .str _ => True
  | _ => False
def vOf : D → V
  | .bool b => .bl b
  | .int i => .int i
  | .str s => .str s
  | _ => .non
theorem rp_flat {K} (f : flat d) : Rp K H O (vOf d) d := by
  cases d <;> first | exact .non | exact .bl _ | exact .int _ | exact .str _ | exact f.elim
theorem Rel.flat (h : Rel Z H src L) (f : Pw.flat d) : Rel Z H src ((some (vOf d), some (.sh d)) :: L) := by
  obtain ⟨O, r⟩ := h
  exact ⟨O, r.push mild_sh fun s q => ⟨_, rfl, by cases q; exact rp_flat f⟩⟩
theorem Rel.int (h : Rel Z H src L) (i : Int) : Rel Z H src ((some (.int i), some (.sh (.int i))) :: L) := h.flat (d := .int i) trivial
theorem Rel.bl (h : Rel Z H src L) (i : Bool) : Rel Z H src ((some (.bl i), some (.sh (.bool i))) :: L) := h.flat (d := .bool i) trivial
theorem Rel.str (h : Rel Z H src L) (i : Str) : Rel Z H src ((some (.str i), some (.sh (.str i))) :: L) := h.flat (d := .str i) trivial
theorem Rel.non (h : Rel Z H src L) : Rel Z H src ((some .non, some (.sh .none)) :: L) := h.flat (d := .none) trivial
/-- a mild entry again -/
theorem Rel.dup {e : Ent} (h : Rel Z H src L) (m : Mild e) (he : e ∈ L) : Rel Z H src (e :: L) := by
  obtain ⟨O, r⟩ := h
  exact ⟨O, r.push m (r.ent e he)⟩
theorem srcOk_step (A : Option (Addr × Addr)) (hk : ∀ b x, InA A b → H b = some x → H' b = some x) (ho : ∀ b, InA A b → O b → O' b) (h : SrcOk A H O src) : SrcOk A H' O' src := by
  cases src with
  | none => cases A <;> exact h
  | some s =>
    cases A with
    | none => exact h
    | some p =>
      obtain ⟨n, o1, o2, h1, h2⟩ := h
      exact ⟨n, ho _ (.inl rfl) o1, ho _ (.inr rfl) o2, hk _ _ (.inl rfl) h1, hk _ _ (.inr rfl) h2⟩
/-- an owned thing is owned no more -/
theorem Rel.settle {v : Option V} {d : D} (h : Rel Z H src ((v, some (.own d)) :: L)) : Rel Z H src ((v, some (.sh d)) :: L) := by
  obtain ⟨O, r⟩ := h
  obtain ⟨w, e1, a, e2, oa, fa, na, ra⟩ := r.ent _ List.mem_cons_self _ rfl
  have e1 : v = some w := e1
  subst e1 e2
  have ap := (List.pairwise_cons.mp r.ap).1
  have t : Stp H H O (fun b => O b ∧ b ≠ a) (fun b => b = a) := ⟨fun _ _ e _ => e, fun b z => z ▸ oa, fun b z => .inl z.1, fun b z n => ⟨z, n⟩⟩
  refine ⟨fun b => O b ∧ b ≠ a, fun b z => ⟨r.oc b z, fun q => fa.2 (q ▸ z)⟩, fun f hf => ?_, List.pairwise_cons.mpr ⟨fun _ _ => mild_sh.apart, (List.pairwise_cons.mp r.ap).2⟩, srcOk_step _ (fun _ _ _ e => e) (fun b i o => ⟨o, fun z => na (z ▸ i)⟩) r.src, r.base, fun b z => r.live b z.1⟩
  rcases List.mem_cons.mp hf with rfl | hf
  · intro s q
    cases q
    refine ⟨_, rfl, ?_⟩
    cases d <;> first | exact ra.elim | skip
    · obtain ⟨xs, q, x⟩ := ra; exact .lst q (fun z => z.2 rfl) (t.rpA x)
    · obtain ⟨xs, q, x⟩ := ra; exact .dic q (fun z => z.2 rfl) (t.rpD x)
  · exact t.ent (fun d' b h1 h2 z => ap f hf d d' a rfl h1 rfl (by rw [h2, z])) (r.ent f (List.mem_cons_of_mem _ hf))
/-- a new object -/
theorem RelO.new {p : Addr} {o : HO} (r : RelO Z H src L O) (hp : H p = none) : RelO Z (upd H p o) src L O := by
  have k : ∀ b x, H b = some x → upd H p o b = some x := fun b x e => by rw [upd_ne (ne_of_none e hp)]; exact e
  exact ⟨r.oc, fun e he => (Stp.of_keep k).ent .none (r.ent e he), r.ap, srcOk_step _ (fun b x _ e => k b x e) (fun _ _ o => o) r.src, fun b x e n => k b x (r.base b x e n), fun b z => let ⟨x, e⟩ := r.live b z; ⟨x, k b x e⟩⟩
theorem RelO.fresh {p : Addr} (r : RelO Z H src L O) (hp : H p = none) : ¬ O p := fun z => by
  obtain ⟨x, e⟩ := r.live p z
  rw [hp] at e; cases e
theorem RelO.fresh0 {p : Addr} (r : RelO Z H src L O) (hp : H p = none) : ¬ InA Z.A p → Z.H0 p = none := fun n => by
  cases q : Z.H0 p with
  | none => rfl
  | some x => rw [r.base p x q n] at hp; cases hp
theorem RelO.freshA {p : Addr} (r : RelO Z H src L O) (hp : H p = none) (hs : src.isSome = Z.A.isSome) : ¬ InA Z.A p := fun z => by
  have q := r.src
  cases src <;> cases e : Z.A <;> rw [e] at q z hs <;> first | exact z | exact q | (simp at hs; done) | skip
  obtain ⟨n, o1, o2, h1, h2⟩ := q
  rcases z with rfl | rfl
  · rw [hp] at h1; cases h1
  · rw [hp] at h2; cases h2
theorem srcOk_some (h : SrcOk Z.A H O src) : src.isSome = Z.A.isSome := by
  cases src <;> cases e : Z.A <;> rw [e] at h <;> first | rfl | exact h.elim
/-- a new tuple of known things -/
theorem Rel.newTup {p : Addr} {vs : List V} {ds : List D} (h : Rel Z H src L) (hp : H p = none) (hr : ∀ O, RelO Z H src L O → RpA Z.K H O vs ds) : Rel Z (upd H p (.tup vs)) src ((some (.ref p), some (.sh (.tuple ds))) :: L) := by
  obtain ⟨O, r⟩ := h
  have k : ∀ b x, H b = some x → upd H p (.tup vs) b = some x := fun b x e => by rw [upd_ne (ne_of_none e hp)]; exact e
  refine ⟨O, (r.new hp).push mild_sh fun s q => ⟨_, rfl, ?_⟩⟩
  cases q
  exact .tup upd_same (r.fresh hp) ((Stp.of_keep k).rpA (hr O r))
theorem Rel.newOwn {p : Addr} {o : HO} {d : D} (h : Rel Z H src L) (hp : H p = none) (hr : ∀ O, RelO Z H src L O → RpO Z.K (upd H p o) (fun b => O b ∨ b = p) p d) : Rel Z (upd H p o) src ((some (.ref p), some (.own d)) :: L) := by
  obtain ⟨O, r⟩ := h
  have k : ∀ b x, H b = some x → upd H p o b = some x := fun b x e => by rw [upd_ne (ne_of_none e hp)]; exact e
  have t : Stp H (upd H p o) O (fun b => O b ∨ b = p) (fun _ => False) := ⟨fun b x e _ => k b x e, fun _ z => z.elim, fun b z => z.elim .inl fun z => .inr (z ▸ hp), fun _ z _ => .inl z⟩
  have nA := r.freshA hp (srcOk_some r.src)
  refine ⟨fun b => O b ∨ b = p, fun b z => .inl (r.oc b z), fun f hf => ?_, List.pairwise_cons.mpr ⟨fun f hf => ?_, r.ap⟩, srcOk_step _ (fun b x _ e => k b x e) (fun _ _ o => .inl o) r.src, fun b x e n => k b x (r.base b x e n), fun b z => ?_⟩
  · rcases List.mem_cons.mp hf with rfl | hf
    · intro s q
      cases q
      exact ⟨_, rfl, p, rfl, .inr rfl, ⟨r.fresh0 hp nA, fun z => r.fresh hp (r.oc p z)⟩, nA, hr O r⟩
    · exact t.ent .none (r.ent f hf)
  · intro d1 d2 a h1 h2 h3 h4
    obtain ⟨w, e1, a', e2, oa, _⟩ := r.ent f hf _ h2
    rw [e1] at h4
    have h3 : some (V.ref p) = some (V.ref a) := h3
    injection h3 with h3; injection h3 with h3
    injection h4 with h4
    rw [e2] at h4; injection h4 with h4
    rw [h4, ← h3] at oa
    exact r.fresh hp oa
  · rcases z with z | rfl
    · obtain ⟨x, e⟩ := r.live b z; exact ⟨x, k b x e⟩
    · exact ⟨o, upd_same⟩
/-- an owned thing is changed -/
theorem Rel.updOwn {p : Addr} {o : HO} {d d' : D} (h : Rel Z H src ((some (.ref p), some (.own d)) :: L)) (hr : ∀ O, RelO Z H src ((some (.ref p), some (.own d)) :: L) O → RpO Z.K H O p d → O p → RpO Z.K (upd H p o) O p d') : Rel Z (upd H p o) src ((some (.ref p), some (.own d')) :: L) := by
  obtain ⟨O, r⟩ := h
  obtain ⟨w, e1, a, e2, oa, fa, na, ra⟩ := r.ent _ List.mem_cons_self _ rfl
  have e1 : some (V.ref p) = some w := e1
  injection e1 with e1
  rw [← e1] at e2
  injection e2 with e2
  subst e2
  have ap := (List.pairwise_cons.mp r.ap).1
  have k : ∀ b x, H b = some x → ¬ b = p → upd H p o b = some x := fun b x e n => by rw [upd_ne n]; exact e
  have t : Stp H (upd H p o) O O (fun b => b = p) := ⟨k, fun b z => z ▸ oa, fun b z => .inl z, fun b z _ => z⟩
  refine ⟨O, r.oc, fun f hf => ?_, List.pairwise_cons.mpr ⟨fun f hf => ?_, (List.pairwise_cons.mp r.ap).2⟩, srcOk_step _ (fun b x i e => k b x e fun z => na (z ▸ i)) (fun _ _ o => o) r.src, fun b x e n => k b x (r.base b x e n) (fun z => by rw [z, fa.1] at e; cases e), fun b z => ?_⟩
  · rcases List.mem_cons.mp hf with rfl | hf
    · intro s q
      cases q
      exact ⟨_, rfl, p, rfl, oa, fa, na, hr O r ra oa⟩
    · exact t.ent (fun d' b h1 h2 z => ap f hf d d' p rfl h1 rfl (by rw [h2, z])) (r.ent f (List.mem_cons_of_mem _ hf))
  · intro d1 d2 a h1 h2 h3 h4
    have h3 : some (V.ref p) = some (V.ref a) := h3
    exact ap f hf d d2 p rfl h2 rfl (h4.trans h3.symm)
  · obtain ⟨x, e⟩ := r.live b z
    by_cases q : b = p
    · exact ⟨o, by rw [q]; exact upd_same⟩
    · exact ⟨x, k b x e q⟩
end

/-! ### slots -/
section
variable {Z : Zx} {H : Hp} {src : Option Src} {T : List Ent} {σ : L2.St} {sl : List (Option SV)}
theorem perm_set {α : Type} : ∀ (l : List α) (i : Nat) (x y : α), l[i]? = some x → (y :: l).Perm (x :: l.set i y)
  | [], _, _, _, h => by simp at h
  | a :: l, 0, x, y, h => by
    simp at h; subst h
    exact List.Perm.swap ..
  | a :: l, i + 1, x, y, h => by
    have ih := perm_set l i x y (by simpa using h)
    rw [List.set_cons_succ]
    exact (List.Perm.swap a y l).trans ((ih.cons a).trans (List.Perm.swap x a _))
theorem zip_set {α β : Type} : ∀ (l : List α) (m : List β) (i : Nat) (x : α) (y : β), List.zip (l.set i x) (m.set i y) = (List.zip l m).set i (x, y)
  | [], m, i, x, y => by simp
  | a :: l, [], i, x, y => by simp
  | a :: l, b :: m, 0, x, y => by simp
  | a :: l, b :: m, i + 1, x, y => by simp [zip_set l m i x y]
theorem zip_get {α β : Type} : ∀ {l : List α} {m : List β} {i : Nat} {x : α} {y : β}, l[i]? = some x → m[i]? = some y → (List.zip l m)[i]? = some (x, y)
  | [], m, i, x, y, h, _ => by simp at h
  | a :: l, [], i, x, y, _, h => by simp at h
  | a :: l, b :: m, 0, x, y, h, g => by simp at h g; subst h g; rfl
  | a :: l, b :: m, i + 1, x, y, h, g => by simpa using zip_get (l := l) (m := m) (i := i) (by simpa using h) (by simpa using g)
theorem set_id {α : Type} : ∀ (l : List α) (i : Nat) (x : α), l[i]? = some x → l.set i x = l
  | [], _, _, h => by simp at h
  | a :: l, 0, x, h => by simp at h; subst h; rfl
  | a :: l, i + 1, x, h => by rw [List.set_cons_succ, set_id l i x (by simpa using h)]
/-- a slot's thing is taken out -/
theorem Rel.takeSlot {i : Nat} {ov : Option V} {os : Option SV} (h : Rel Z H src (T ++ List.zip σ sl)) (h1 : σ[i]? = some ov) (h2 : sl[i]? = some os) : Rel Z H src ((ov, os) :: (T ++ List.zip σ (sl.set i none))) := by
  have e : List.zip σ (sl.set i none) = (List.zip σ sl).set i (ov, none) := by
    rw [← zip_set, set_id σ i ov h1]
  rw [e]
  refine (h.triv (x := ov)).perm ?_
  have p := perm_set (List.zip σ sl) i (ov, os) (ov, none) (zip_get h1 h2)
  have q : ((ov, none) :: (T ++ List.zip σ sl)).Perm (T ++ (ov, none) :: List.zip σ sl) := List.perm_middle.symm
  exact q.trans ((p.append_left T).trans List.perm_middle)
/-- a thing is put into a slot -/
theorem Rel.putSlot {i : Nat} {ov : Option V} {os : Option SV} (h : Rel Z H src ((ov, os) :: (T ++ List.zip σ sl))) (hl : σ.length = sl.length) : Rel Z H src (T ++ List.zip (σ.set i ov) (sl.set i os)) := by
  by_cases hi : i < σ.length
  · have h1 : σ[i]? = some σ[i] := List.getElem?_eq_getElem hi
    have h2 : sl[i]? = some sl[i] := List.getElem?_eq_getElem (hl ▸ hi)
    rw [zip_set]
    have p := perm_set (List.zip σ sl) i _ (ov, os) (zip_get h1 h2)
    have q : ((ov, os) :: (T ++ List.zip σ sl)).Perm (T ++ (ov, os) :: List.zip σ sl) := List.perm_middle.symm
    exact (h.perm (q.trans ((p.append_left T).trans List.perm_middle))).pop
  · rw [List.set_eq_of_length_le (by omega), List.set_eq_of_length_le (by omega)]
    exact h.pop
end
end Pw
set_option Elab.async false
set_option linter.all false
set_option maxRecDepth 100000
namespace Pw
open PySem PySem.Spec PyProof.Rows L2
abbrev Ev := S → Res SV
abbrev Vw := S → Res D
abbrev Tt := S → Res Bool
abbrev Ag := S → Res (List SV)
inductive Fl where
  | nx
  | ret (r : SV)
  | bk
  | ct
abbrev Sm := S → Res Fl

def RelS (Z : Zx) (H : Hp) (σ : L2.St) (T : List Ent) (s : S) : Prop := σ.length = s.sl.length ∧ Rel Z H s.src (T ++ List.zip σ s.sl)
def ExP (Z : Zx) (σ : L2.St) (T : List Ent) (W : WX) (e : Ex) (s : S) : Prop := ∀ dd H', RelS Z H' σ ((some (.ref dd), some (.exd e.fs)) :: T) s → W (.ref e.cls) (some dd) σ H'
def LE (Z : Zx) (W : WX) (f : Ev) : TE := fun σ H Q => ∃ T s, RelS Z H σ T s ∧ (f s).sat (fun r s' => ∀ v H', RelS Z H' σ ((some v, some r) :: T) s' → Q v H') (ExP Z σ T W)
def SV.dat : SV → Option D
  | .sh d => some d
  | .own d => some d
  | _ => none
def Has (L : List Ent) (v : V) (d : D) : Prop := ∃ r, (some v, some r) ∈ L ∧ r.dat = some d
def LV (Z : Zx) (W : WX) (f : Vw) : TE := fun σ H Q => ∃ T s, RelS Z H σ T s ∧ (f s).sat (fun d s' => ∀ v H' T', RelS Z H' σ (T' ++ T) s' → Has (T' ++ T ++ List.zip σ s'.sl) v d → Q v H') (ExP Z σ T W)
def LT (Z : Zx) (W : WX) (f : Tt) : TT := fun σ H Q => ∃ T s, RelS Z H σ T s ∧ (f s).sat (fun b s' => ∀ H', RelS Z H' σ T s' → Q b H') (ExP Z σ T W)
def ents (vs : List V) (rs : List SV) : List Ent := List.zip (vs.map some) (rs.map some)
def LA (Z : Zx) (W : WX) (f : Ag) : TA := fun σ H Q => ∃ T s, RelS Z H σ T s ∧ (f s).sat (fun rs s' => ∀ vs H', vs.length = rs.length → RelS Z H' σ (ents vs rs ++ T) s' → Q vs H') (ExP Z σ T W)
def FlP (Z : Zx) (T : List Ent) (D : Ends) (f : Fl) (s : S) : Prop := match f with
  | .nx => ∀ σ H, RelS Z H σ T s → D.nx σ H
  | .ret r => ∀ v σ H, RelS Z H σ ((some v, some r) :: T) s → D.rt v H
  | .bk => ∀ σ H, RelS Z H σ T s → D.bk σ H
  | .ct => ∀ σ H, RelS Z H σ T s → D.ct σ H
def ExS (Z : Zx) (T : List Ent) (W : WX) (e : Ex) (s : S) : Prop := ∀ σ, ExP Z σ T W e s
def LS (Z : Zx) (W : WX) (f : Sm) : TS := fun D σ H => ∃ T s, RelS Z H σ T s ∧ (f s).sat (FlP Z T D) (ExS Z T W)

def SnE (X : Cx) (Z : Zx) (W : WX) (e : Expr) (f : Ev) : Prop := X.K = Z.K → PE X e (LE Z W f)
def SnV (X : Cx) (Z : Zx) (W : WX) (e : Expr) (f : Vw) : Prop := X.K = Z.K → PE X e (LV Z W f)
def SnT (X : Cx) (Z : Zx) (W : WX) (e : Expr) (f : Tt) : Prop := X.K = Z.K → PT X e (LT Z W f)
def SnA (X : Cx) (Z : Zx) (W : WX) (es : List Expr) (f : Ag) : Prop := X.K = Z.K → PA X es (LA Z W f)
def SnS (X : Cx) (Z : Zx) (W : WX) (st : Stmt) (f : Sm) : Prop := X.K = Z.K → PS X st (LS Z W f)
def SnB (X : Cx) (Z : Zx) (W : WX) (st : List Stmt) (f : Sm) : Prop := X.K = Z.K → PSs X st (LS Z W f)

theorem pe_imp {X : Cx} {e : Expr} {t t' : TE} (h : PE X e t) (i : ∀ σ H Q, t' σ H Q → t σ H Q) : PE X e t' := ⟨fun pins s σ H Q I q => h.run pins s σ H Q I (i σ H Q q)⟩
theorem pt_imp {X : Cx} {e : Expr} {t t' : TT} (h : PT X e t) (i : ∀ σ H Q, t' σ H Q → t σ H Q) : PT X e t' := ⟨fun pins s σ H Q I q => h.run pins s σ H Q I (i σ H Q q)⟩
theorem pa_imp {X : Cx} {e : List Expr} {t t' : TA} (h : PA X e t) (i : ∀ σ H Q, t' σ H Q → t σ H Q) : PA X e t' := ⟨fun pos pins s σ H Q I q => h.run pos pins s σ H Q I (i σ H Q q)⟩
theorem ps_imp {X : Cx} {e : Stmt} {t t' : TS} (h : PS X e t) (i : ∀ D σ H, t' D σ H → t D σ H) : PS X e t' := ⟨fun pins s σ H D I q => h.run pins s σ H D I (i D σ H q)⟩
theorem pss_imp {X : Cx} {e : List Stmt} {t t' : TS} (h : PSs X e t) (i : ∀ D σ H, t' D σ H → t D σ H) : PSs X e t' := ⟨fun pins s σ H D I q => h.run pins s σ H D I (i D σ H q)⟩

section
variable {X : Cx} {Z : Zx} {W : WX} {e a b : Expr} {f fa : Ev} {H : Hp} {σ : L2.St} {T T' : List Ent} {s : S}
theorem RelS.slot {i : Nat} {r : SV} (h : RelS Z H σ T s) (e : s.sl[i]? = some (some r)) : ∃ v, σ[i]? = some (some v) ∧ (some v, some r) ∈ T ++ List.zip σ s.sl := by
  obtain ⟨hl, O, R⟩ := h
  have hi : i < σ.length := by rw [hl]; exact (List.getElem?_eq_some_iff.mp e).1
  have h1 : σ[i]? = some σ[i] := List.getElem?_eq_getElem hi
  have hm : (σ[i], some r) ∈ T ++ List.zip σ s.sl := List.mem_append_right _ (List.mem_of_getElem? (zip_get h1 e))
  obtain ⟨v, e1, _⟩ := R.ent _ hm r rfl
  have e1 : σ[i] = some v := e1
  rw [e1] at h1 hm
  exact ⟨v, h1, hm⟩
theorem RelS.perm (h : RelS Z H σ T s) (p : T.Perm T') : RelS Z H σ T' s := ⟨h.1, h.2.perm (p.append_right _)⟩
theorem RelS.pop {x : Ent} (h : RelS Z H σ (x :: T) s) : RelS Z H σ T s := ⟨h.1, h.2.pop⟩
theorem RelS.popN {T' : List Ent} (h : RelS Z H σ (T' ++ T) s) : RelS Z H σ T s := ⟨h.1, Rel.popN T' (by rw [← List.append_assoc]; exact h.2)⟩
theorem RelS.dup {x : Ent} (h : RelS Z H σ T s) (m : Mild x) (hx : x ∈ T ++ List.zip σ s.sl) : RelS Z H σ (x :: T) s := ⟨h.1, h.2.dup m hx⟩
theorem RelS.settle {v : Option V} {d : D} (h : RelS Z H σ ((v, some (.own d)) :: T) s) : RelS Z H σ ((v, some (.sh d)) :: T) s := ⟨h.1, h.2.settle⟩

/-! ### constants, names -/
def cD (d : D) : Ev := fun s => .ok (.sh d) s
theorem snE_C {v : V} {d : D} (h : PE X e (tC v)) (hf : flat d) (hv : vOf d = v) : SnE X Z W e (cD d) := fun _ => pe_imp h fun σ H Q ⟨T, s, R, q⟩ => by
  subst hv
  exact q _ _ ⟨R.1, R.2.flat hf⟩
theorem snE_int {i j pos} : SnE X Z W (.Constant (.int i) j pos) (cD (.int i)) := snE_C pe_int trivial rfl
theorem snE_bl {i j pos} : SnE X Z W (.Constant (.bool i) j pos) (cD (.bool i)) := snE_C pe_bl trivial rfl
theorem snE_non {j pos} : SnE X Z W (.Constant .none j pos) (cD .none) := snE_C pe_non trivial rfl
theorem snE_str {x j pos} : SnE X Z W (.Constant (.str x) j pos) (cD (.str x)) := snE_C pe_str trivial rfl
/-- a name read: what a slot owns is shared from then on -/
def cVar (i : Nat) : Ev := fun s => match s.sl[i]? with
  | some (some (.own d)) => .ok (.sh d) { s with sl := s.sl.set i (some (.sh d)) }
  | some (some (.sh d)) => .ok (.sh d) s
  | some (some (.fn a)) => .ok (.fn a) s
  | some (some .src) => .ok .src s
  | some (some (.scr ns)) => .ok (.scr ns) s
  | _ => .err
theorem RelS.share {i : Nat} {d : D} {v : V} (R : RelS Z H σ T s) (e : s.sl[i]? = some (some (.own d))) (hv : σ[i]? = some (some v)) : RelS Z H σ T { s with sl := s.sl.set i (some (.sh d)) } := by
  have R2 := (R.2.takeSlot hv e).settle.putSlot (i := i) (by simpa using R.1)
  rw [set_id σ i _ hv, List.set_set] at R2
  exact ⟨by simpa using R.1, R2⟩
theorem snE_var {i : Nat} (h : PE X e (tVar i)) : SnE X Z W e (cVar i) := fun _ => pe_imp h fun σ H Q ⟨T, s, R, q⟩ => by
  unfold cVar at q
  split at q
  · rename_i d e
    obtain ⟨v, hv, hm⟩ := R.slot e
    refine ⟨v, hv, q _ _ ?_⟩
    have R2 := R.share e hv
    have hi : i < s.sl.length := (List.getElem?_eq_some_iff.mp e).1
    obtain ⟨v', hv', hm'⟩ := R2.slot (i := i) (r := .sh d) (by simp [hi])
    rw [hv] at hv'; cases hv'
    exact R2.dup mild_sh hm'
  · rename_i d e
    obtain ⟨v, hv, hm⟩ := R.slot e
    exact ⟨v, hv, q _ _ (R.dup mild_sh hm)⟩
  · rename_i a e
    obtain ⟨v, hv, hm⟩ := R.slot e
    exact ⟨v, hv, q _ _ (R.dup mild_fn hm)⟩
  · rename_i e
    obtain ⟨v, hv, hm⟩ := R.slot e
    exact ⟨v, hv, q _ _ (R.dup mild_src hm)⟩
  · rename_i ns e
    obtain ⟨v, hv, hm⟩ := R.slot e
    exact ⟨v, hv, q _ _ (R.dup mild_scr hm)⟩
  · exact q.elim
/-- a name moved: the slot holds nothing we know behind it -/
def cMv (i : Nat) : Ev := fun s => match s.sl[i]? with
  | some (some r) => .ok r { s with sl := s.sl.set i none }
  | _ => .err
theorem snE_mv {i : Nat} (h : PE X e (tVar i)) : SnE X Z W e (cMv i) := fun _ => pe_imp h fun σ H Q ⟨T, s, R, q⟩ => by
  unfold cMv at q
  split at q
  · rename_i r e
    obtain ⟨v, hv, hm⟩ := R.slot e
    exact ⟨v, hv, q _ _ ⟨by simpa using R.1, R.2.takeSlot hv e⟩⟩
  · exact q.elim
/-! ### views -/
def cVarV (i : Nat) : Vw := fun s => match s.sl[i]? with
  | some (some (.own d)) => .ok d s
  | some (some (.sh d)) => .ok d s
  | _ => .err
theorem snV_var {i : Nat} (h : PE X e (tVar i)) : SnV X Z W e (cVarV i) := fun _ => pe_imp h fun σ H Q ⟨T, s, R, q⟩ => by
  unfold cVarV at q
  split at q
  · rename_i d e
    obtain ⟨v, hv, hm⟩ := R.slot e
    exact ⟨v, hv, q _ _ [] R ⟨_, hm, rfl⟩⟩
  · rename_i d e
    obtain ⟨v, hv, hm⟩ := R.slot e
    exact ⟨v, hv, q _ _ [] R ⟨_, hm, rfl⟩⟩
  · exact q.elim
def vE (f : Ev) : Vw := fun s => (f s).bind fun r s' => match r.dat with
  | some d => .ok d s'
  | none => .err
theorem snV_E (h : SnE X Z W e f) : SnV X Z W e (vE f) := fun k => pe_imp (h k) fun σ H Q ⟨T, s, R, q⟩ => by
  refine ⟨T, s, R, ?_⟩
  refine Res.sat_mono (Res.sat_bind.mp q) (fun r s' q v H' R' => ?_) fun e s h => h
  cases e : r.dat with
  | none => rw [e] at q; exact q.elim
  | some d => rw [e] at q; exact q _ _ [(some v, some r)] R' ⟨r, by simp, e⟩
/-! ### argument lists -/
def SV.settle : SV → SV
  | .own d => .sh d
  | r => r
theorem RelS.settleAny {v : Option V} {r : SV} (h : RelS Z H σ ((v, some r) :: T) s) : RelS Z H σ ((v, some r.settle) :: T) s := by
  cases r <;> first | exact h | exact h.settle
def cNil : Ag := fun s => .ok [] s
def cCons (f : Ev) (g : Ag) : Ag := fun s => (f s).bind fun r s1 => (g s1).bind fun rs s2 => .ok (r.settle :: rs) s2
theorem snA_nil : SnA X Z W [] cNil := fun _ => pa_imp pa_nil fun σ H Q ⟨T, s, R, q⟩ => q [] _ rfl R
theorem snA_cons {es : List Expr} {g : Ag} (h : SnE X Z W e f) (hr : SnA X Z W es g) (hs : starEach (e :: es) X.env = (false, eval e X.env) :: starEach es X.env := by rfl) : SnA X Z W (e :: es) (cCons f g) := fun k => pa_imp (pa_cons (h k) (hr k) hs) fun σ H Q ⟨T, s, R, q⟩ => by
  refine ⟨T, s, R, ?_⟩
  refine Res.sat_mono (Res.sat_bind.mp q) (fun r s1 q v H1 R1 => ?_) fun e s h => h
  refine ⟨(some v, some r.settle) :: T, s1, R1.settleAny, ?_⟩
  refine Res.sat_mono (Res.sat_bind.mp q) (fun rs s2 q vs H2 hl R2 => ?_) fun e s h dd H' R' => h dd H' ?_
  · refine q (v :: vs) H2 (by simpa [SV.settle] using hl) (R2.perm ?_)
    exact List.perm_middle
  · exact ⟨R'.1, (R'.perm (List.Perm.swap _ _ _)).pop.2⟩
/-! ### displays -/
def datas : List SV → Option (List D)
  | [] => some []
  | .sh d :: r => (datas r).map (d :: ·)
  | _ => none
theorem rpA_ents {O : Addr → Prop} : ∀ {vs : List V} {rs : List SV} {ds : List D}, vs.length = rs.length → datas rs = some ds → (∀ e ∈ ents vs rs, EntOk Z H O e) → RpA Z.K H O vs ds
  | [], [], _, _, e, _ => by cases e; exact .nil
  | v :: vs, r :: rs, ds, hl, e, h => by
    cases r <;> first | (simp [datas] at e; done) | skip
    rename_i d
    simp only [datas, Option.map_eq_some_iff] at e
    obtain ⟨ds', e1, rfl⟩ := e
    obtain ⟨w, e2, q⟩ := h (some v, some (.sh d)) (by simp [ents]) _ rfl
    cases e2
    exact .cons q (rpA_ents (by simpa using hl) e1 fun e he => h e (by simp only [ents, List.map_cons, List.zip_cons_cons]; exact List.mem_cons_of_mem _ he))
  | [], _ :: _, _, h, _, _ => by simp at h
  | _ :: _, [], _, h, _, _ => by simp at h
def cTup (g : Ag) : Ev := fun s => (g s).bind fun rs s1 => match datas rs with
  | some ds => if ds.length ≤ sizeLine then .ok (.sh (.tuple ds)) s1 else .err
  | none => .err
def cLst (g : Ag) : Ev := fun s => (g s).bind fun rs s1 => match datas rs with
  | some ds => if ds.length ≤ sizeLine then .ok (.own (.list ds)) s1 else .err
  | none => .err
theorem snE_tup {es : List Expr} {g : Ag} {x1 pos} (h : SnA X Z W es g) : SnE X Z W (.Tuple es x1 pos) (cTup g) := fun k => pe_imp (pe_tup (h k)) fun σ H Q ⟨T, s, R, q⟩ => by
  refine ⟨T, s, R, ?_⟩
  refine Res.sat_mono (Res.sat_bind.mp q) (fun rs s1 q vs H1 hl R1 => ?_) fun e s h => h
  split at q
  · rename_i ds e
    split at q
    · rename_i hz
      have hr : ∀ O, RelO Z H1 s1.src (ents vs rs ++ T ++ List.zip σ s1.sl) O → RpA Z.K H1 O vs ds := fun O r => rpA_ents hl e fun x hx => r.ent x (by simp [hx])
      obtain ⟨O, r⟩ := R1.2
      refine ⟨by rw [(hr O r).length]; exact hz, fun p hp => q _ _ ⟨R1.1, ?_⟩⟩
      have R2 := Rel.newTup (p := p) (vs := vs) (ds := ds) ⟨O, r⟩ hp hr
      have R3 := R2.perm (L' := ents vs rs ++ ((some (.ref p), some (.sh (.tuple ds))) :: (T ++ List.zip σ s1.sl))) (by rw [List.append_assoc]; exact List.perm_middle.symm)
      exact Rel.popN _ R3
    · exact q.elim
  · exact q.elim
theorem snE_lst {es : List Expr} {g : Ag} {pos} (h : SnA X Z W es g) : SnE X Z W (.List es pos) (cLst g) := fun k => pe_imp (pe_lst (h k)) fun σ H Q ⟨T, s, R, q⟩ => by
  refine ⟨T, s, R, ?_⟩
  refine Res.sat_mono (Res.sat_bind.mp q) (fun rs s1 q vs H1 hl R1 => ?_) fun e s h => h
  split at q
  · rename_i ds e
    split at q
    · rename_i hz
      have hr : ∀ O, RelO Z H1 s1.src (ents vs rs ++ T ++ List.zip σ s1.sl) O → RpA Z.K H1 O vs ds := fun O r => rpA_ents hl e fun x hx => r.ent x (by simp [hx])
      obtain ⟨O, r⟩ := R1.2
      refine ⟨by rw [(hr O r).length]; exact hz, fun p hp => q _ _ ⟨R1.1, ?_⟩⟩
      have R2 := Rel.newOwn (p := p) (o := .lst vs) (d := .list ds) ⟨O, r⟩ hp fun O r => ⟨vs, upd_same, (hr O r).keep (fun b x e _ => by rw [upd_ne (ne_of_none e hp)]; exact e) fun b z => Or.elim z Or.inl fun z => .inr (by rw [z]; exact hp)⟩
      have R3 := R2.perm (L' := ents vs rs ++ ((some (.ref p), some (.own (.list ds))) :: (T ++ List.zip σ s1.sl))) (by rw [List.append_assoc]; exact List.perm_middle.symm)
      exact Rel.popN _ R3
    · exact q.elim
  · exact q.elim
end
end Pw
set_option Elab.async false
set_option linter.all false
set_option maxRecDepth 100000
namespace Pw
open PySem PySem.Spec PyProof.Rows L2
section
variable {X : Cx} {Z : Zx} {W : WX} {e a b : Expr} {f fa : Ev} {fb : Vw} {H : Hp} {σ : L2.St} {T T' : List Ent} {s : S} {L : List Ent} {src : Option Src} {O : Addr → Prop} {v : V}
theorem Rel.mid {e : Ent} (T' : List Ent) (h : Rel Z H src (e :: (T' ++ L))) : Rel Z H src (e :: L) := Rel.popN T' (h.perm List.perm_middle.symm)
theorem Rp.bool_inv {K} {b : Bool} (h : Rp K H O v (.bool b)) : v = .bl b := by cases h; rfl
theorem Rp.int_inv {K} {b : Int} (h : Rp K H O v (.int b)) : v = .int b := by cases h; rfl
theorem Rp.str_inv {K} {b : Str} (h : Rp K H O v (.str b)) : v = .str b := by cases h; rfl
theorem Rp.non_inv {K} (h : Rp K H O v .none) : v = .non := by cases h; rfl
theorem RelO.has (r : RelO Z H src L O) {d : D} (h : Has L v d) : Rp Z.K H O v d ∨ ∃ a, v = .ref a ∧ RpO Z.K H O a d := by
  obtain ⟨x, hm, e⟩ := h
  obtain ⟨w, e1, q⟩ := r.ent _ hm x rfl
  cases e1
  cases x <;> first | (cases e; done) | skip
  · cases e; exact .inl q
  · cases e; obtain ⟨a, e1, _, _, _, z⟩ := q; exact .inr ⟨a, e1, z⟩
theorem RelO.int (r : RelO Z H src L O) {i : Int} (h : Has L v (.int i)) : v = .int i := (r.has h).elim Rp.int_inv fun ⟨_, _, z⟩ => z.elim
theorem RelO.str (r : RelO Z H src L O) {i : Str} (h : Has L v (.str i)) : v = .str i := (r.has h).elim Rp.str_inv fun ⟨_, _, z⟩ => z.elim
theorem RelO.bl (r : RelO Z H src L O) {i : Bool} (h : Has L v (.bool i)) : v = .bl i := (r.has h).elim Rp.bool_inv fun ⟨_, _, z⟩ => z.elim
theorem RelO.non (r : RelO Z H src L O) (h : Has L v .none) : v = .non := (r.has h).elim Rp.non_inv fun ⟨_, _, z⟩ => z.elim
theorem RelO.list (r : RelO Z H src L O) {ds : List D} (h : Has L v (.list ds)) : ∃ a xs, v = .ref a ∧ H a = some (.lst xs) ∧ RpA Z.K H O xs ds := by
  rcases r.has h with z | ⟨a, e, xs, q, z⟩
  · cases z with | lst q _ z => exact ⟨_, _, rfl, q, z⟩
  · exact ⟨a, xs, e, q, z⟩
theorem RelO.tuple (r : RelO Z H src L O) {ds : List D} (h : Has L v (.tuple ds)) : ∃ a xs, v = .ref a ∧ SqT Z.K H a xs ∧ RpA Z.K H O xs ds := by
  rcases r.has h with z | ⟨a, e, z⟩
  · cases z with
    | tup q _ z => exact ⟨_, _, rfl, SqT.of q, z⟩
    | tupK e1 e2 e3 e4 e5 z => exact ⟨_, _, rfl, .inr ⟨_, _, _, e1, e2, e3, e4, e5⟩, z⟩
  · exact z.elim
theorem RelO.dict (r : RelO Z H src L O) {ds : List (D × D)} (h : Has L v (.dict ds)) : ∃ a xs, v = .ref a ∧ H a = some (.dK xs) ∧ RpD Z.K H O xs ds := by
  rcases r.has h with z | ⟨a, e, xs, q, z⟩
  · cases z with | dic q _ z => exact ⟨_, _, rfl, q, z⟩
  · exact ⟨a, xs, e, q, z⟩

/-! ### operations of two values -/
def rD (K : PySem.W.Frag) (g : D → D → Option SV) : R2 := fun x y H Q => ∃ Z src L d1 d2 r, Z.K = K ∧ Rel Z H src L ∧ Has L x d1 ∧ Has L y d2 ∧ g d1 d2 = some r ∧ ∀ v H', Rel Z H' src ((some v, some r) :: L) → Q v H'
def Res.opt {α : Type} (o : Option α) (s : S) : Res α := match o with
  | some a => .ok a s
  | none => .err
def cBinE (g : D → D → Option SV) (fa : Ev) (fb : Vw) : Ev := fun s => (fa s).bind fun r s1 => match r.dat with
  | some d1 => (fb s1).bind fun d2 s2 => Res.opt (g d1 d2) s2
  | none => .err
def datAt (s : S) (i : Nat) : Option D := match s.sl[i]? with
  | some (some r) => r.dat
  | _ => none
/-- the left one is a name: what it holds counts when the operation comes -/
def cBinV (g : D → D → Option SV) (i : Nat) (fb : Vw) : Ev := fun s => match s.sl[i]? with
  | some (some _) => (fb s).bind fun d2 s2 => match datAt s2 i with
    | some d1 => Res.opt (g d1 d2) s2
    | none => .err
  | _ => .err
theorem sat_opt {α : Type} {o : Option α} {s : S} {Q : α → S → Prop} {E : Ex → S → Prop} (h : (Res.opt o s).sat Q E) : ∃ a, o = some a ∧ Q a s := by
  cases o with
  | none => exact h.elim
  | some a => exact ⟨a, rfl, h⟩
theorem RelS.datAt {i : Nat} {d : D} (R : RelS Z H σ T s) (h : Pw.datAt s i = some d) : ∃ v, σ[i]? = some (some v) ∧ Has (T ++ List.zip σ s.sl) v d := by
  unfold Pw.datAt at h
  split at h
  · rename_i r e
    obtain ⟨v, hv, hm⟩ := R.slot e
    exact ⟨v, hv, r, hm, h⟩
  · cases h
theorem rd_binE {g : D → D → Option SV} {ta tb : TE} (ha : ∀ σ H Q, LE Z W fa σ H Q → ta σ H Q) (hb : ∀ σ H Q, LV Z W fb σ H Q → tb σ H Q) {Q : VK} (q : LE Z W (cBinE g fa fb) σ H Q) : tOp (rD Z.K g) ta tb σ H Q := by
  obtain ⟨T, s, R, q⟩ := q
  refine ha _ _ _ ⟨T, s, R, Res.sat_mono (Res.sat_bind.mp q) (fun r s1 q v H1 R1 => ?_) fun e s h => h⟩
  cases e : r.dat with
  | none => rw [e] at q; exact q.elim
  | some d1 =>
    rw [e] at q
    refine hb _ _ _ ⟨_, s1, R1, Res.sat_mono (Res.sat_bind.mp q) (fun d2 s2 q v2 H2 T' R2 hv2 => ?_) fun e s h dd H' R' => h dd H' ⟨R'.1, (R'.perm (List.Perm.swap _ _ _)).pop.2⟩⟩
    obtain ⟨r3, e3, q⟩ := sat_opt q
    refine ⟨Z, s2.src, _, d1, d2, r3, rfl, R2.2, ⟨r, by simp, e⟩, hv2, e3, fun v3 H3 R3 => q v3 H3 ⟨R2.1, ?_⟩⟩
    have R4 : Rel Z H3 s2.src ((some v3, some r3) :: ((T' ++ [(some v, some r)]) ++ (T ++ List.zip σ s2.sl))) := by simpa using R3
    exact R4.mid
theorem rd_binV {g : D → D → Option SV} {i : Nat} {tb : TE} (hb : ∀ σ H Q, LV Z W fb σ H Q → tb σ H Q) {Q : VK} (q : LE Z W (cBinV g i fb) σ H Q) : tOp (rD Z.K g) (tVar i) tb σ H Q := by
  obtain ⟨T, s, R, q⟩ := q
  unfold cBinV at q
  split at q
  · rename_i r e
    obtain ⟨v, hv, hm⟩ := R.slot e
    refine ⟨v, hv, hb _ _ _ ⟨T, s, R, Res.sat_mono (Res.sat_bind.mp q) (fun d2 s2 q v2 H2 T' R2 hv2 => ?_) fun e s h => h⟩⟩
    cases e1 : Pw.datAt s2 i with
    | none => rw [e1] at q; exact q.elim
    | some d1 =>
      rw [e1] at q
      obtain ⟨r3, e3, q⟩ := sat_opt q
      obtain ⟨v', hv', hh⟩ := R2.datAt e1
      rw [hv] at hv'; cases hv'
      refine ⟨Z, s2.src, _, d1, d2, r3, rfl, R2.2, hh, hv2, e3, fun v3 H3 R3 => q v3 H3 ⟨R2.1, ?_⟩⟩
      have R4 : Rel Z H3 s2.src ((some v3, some r3) :: (T' ++ (T ++ List.zip σ s2.sl))) := by simpa using R3
      exact R4.mid
  · exact q.elim
theorem snE_binE {op : Operator} {g : D → D → Option SV} {pos} (ho : OpR X (binaryOp op) (rD X.K g)) (ha : SnE X Z W a fa) (hb : SnV X Z W b fb) : SnE X Z W (.BinOp a op b pos) (cBinE g fa fb) := fun k => pe_imp (pe_op ho (ha k) (hb k)) fun σ H Q q => by rw [k]; exact rd_binE (fun _ _ _ q => q) (fun _ _ _ q => q) q
theorem snE_binV {op : Operator} {g : D → D → Option SV} {i : Nat} {pos} (ho : OpR X (binaryOp op) (rD X.K g)) (ha : PE X a (tVar i)) (hb : SnV X Z W b fb) : SnE X Z W (.BinOp a op b pos) (cBinV g i fb) := fun k => pe_imp (pe_op ho ha (hb k)) fun σ H Q q => by rw [k]; exact rd_binV (fun _ _ _ q => q) q
theorem snE_ixE {g : D → D → Option SV} {pos} (ho : IxR X (rD X.K g)) (ha : SnE X Z W a fa) (hb : SnV X Z W b fb) (hs : PlainIx b) : SnE X Z W (.Subscript a b pos) (cBinE g fa fb) := fun k => pe_imp (pe_ix ho (ha k) (hb k) hs) fun σ H Q q => by rw [k]; exact rd_binE (fun _ _ _ q => q) (fun _ _ _ q => q) q
theorem snE_ixV {g : D → D → Option SV} {i : Nat} {pos} (ho : IxR X (rD X.K g)) (ha : PE X a (tVar i)) (hb : SnV X Z W b fb) (hs : PlainIx b) : SnE X Z W (.Subscript a b pos) (cBinV g i fb) := fun k => pe_imp (pe_ix ho ha (hb k) hs) fun σ H Q q => by rw [k]; exact rd_binV (fun _ _ _ q => q) q
theorem snE_cmpE {op : CmpOp} {g : D → D → Option SV} {pos} (ho : OpR X (compareOp op) (rD X.K g)) (ha : SnE X Z W a fa) (hb : SnV X Z W b fb) (hm : behindInMarks op b = false) : SnE X Z W (.Compare a [op] [b] pos) (cBinE g fa fb) := fun k => pe_imp (pe_cmpR ho (ha k) (hb k) hm) fun σ H Q q => by rw [k]; exact rd_binE (fun _ _ _ q => q) (fun _ _ _ q => q) q
theorem snE_cmpV {op : CmpOp} {g : D → D → Option SV} {i : Nat} {pos} (ho : OpR X (compareOp op) (rD X.K g)) (ha : PE X a (tVar i)) (hb : SnV X Z W b fb) (hm : behindInMarks op b = false) : SnE X Z W (.Compare a [op] [b] pos) (cBinV g i fb) := fun k => pe_imp (pe_cmpR ho ha (hb k) hm) fun σ H Q q => by rw [k]; exact rd_binV (fun _ _ _ q => q) q
/-! ### tests -/
def cT (f : Ev) : Tt := fun s => (f s).bind fun r s' => match r with
  | .sh (.bool b) => .ok b s'
  | _ => .err
theorem rd_T {t : TE} (h : ∀ σ H Q, LE Z W f σ H Q → t σ H Q) {Q : Bool → Hp → Prop} (q : LT Z W (cT f) σ H Q) : t σ H fun x H' => ∃ k, x = .bl k ∧ Q k H' := by
  obtain ⟨T, s, R, q⟩ := q
  refine h _ _ _ ⟨T, s, R, Res.sat_mono (Res.sat_bind.mp q) (fun r s1 q v H1 R1 => ?_) fun e s h => h⟩
  split at q
  · rename_i b
    obtain ⟨O, r⟩ := R1.2
    have e := r.bl (v := v) (i := b) ⟨.sh (.bool b), by simp, rfl⟩
    exact ⟨b, e, q _ R1.pop⟩
  · exact q.elim
theorem snT_val (h : SnE X Z W e f) (he : ∀ whole, isTrue e X.env whole = (do let v ← whole; standAt e.pos; holding [v] (truthy v)) := by intro _; rfl) : SnT X Z W e (cT f) := fun k => pt_imp (pt_val (h k) he) fun σ H Q q => rd_T (fun _ _ _ q => q) q
theorem snT_cmpE {op : CmpOp} {g : D → D → Option SV} {pos} (ho : OpR X (compareOp op) (rD X.K g)) (ha : SnE X Z W a fa) (hb : SnV X Z W b fb) (hm : behindInMarks op b = false) : SnT X Z W (.Compare a [op] [b] pos) (cT (cBinE g fa fb)) := fun k => pt_imp (pt_cmpR ho (ha k) (hb k) hm) fun σ H Q q => rd_T (fun _ _ _ q => by rw [k]; exact rd_binE (fun _ _ _ q => q) (fun _ _ _ q => q) q) q
theorem snT_cmpV {op : CmpOp} {g : D → D → Option SV} {i : Nat} {pos} (ho : OpR X (compareOp op) (rD X.K g)) (ha : PE X a (tVar i)) (hb : SnV X Z W b fb) (hm : behindInMarks op b = false) : SnT X Z W (.Compare a [op] [b] pos) (cT (cBinV g i fb)) := fun k => pt_imp (pt_cmpR ho ha (hb k) hm) fun σ H Q q => rd_T (fun _ _ _ q => by rw [k]; exact rd_binV (fun _ _ _ q => q) q) q
def SnW (X : Cx) (Z : Zx) (W : WX) (e : Expr) (f : Tt) : Prop := X.K = Z.K → PW X e (LT Z W f)
def cAnd (f g : Tt) : Tt := fun s => (f s).bind fun b s1 => if b = true then g s1 else .ok false s1
def cOr (f g : Tt) : Tt := fun s => (f s).bind fun b s1 => if b = true then .ok true s1 else g s1
def cNot (f : Tt) : Tt := fun s => (f s).bind fun b s1 => .ok (!b) s1
theorem pw_imp {X : Cx} {e : Expr} {t t' : TT} (h : PW X e t) (i : ∀ σ H Q, t' σ H Q → t σ H Q) : PW X e t' := ⟨fun wh pins s σ H Q I q => h.run wh pins s σ H Q I (i σ H Q q)⟩
variable {g h : Tt} {rest : List Expr}
theorem snT_W (h' : SnW X Z W e g) : SnT X Z W e g := fun k => (h' k).pt
theorem snW_and1 {pos} (ha : SnT X Z W a g) : SnW X Z W (.BoolOp .And [a] pos) g := fun k => pw_and1 (ha k)
theorem snW_or1 {pos} (ha : SnT X Z W a g) : SnW X Z W (.BoolOp .Or [a] pos) g := fun k => pw_or1 (ha k)
theorem snW_and {pos} (ha : SnT X Z W a g) (hb : SnW X Z W (.BoolOp .And (b :: rest) pos) h) : SnW X Z W (.BoolOp .And (a :: b :: rest) pos) (cAnd g h) := fun k => pw_imp (pw_and (ha k) (hb k)) fun σ H Q ⟨T, s, R, q⟩ => by
  refine ⟨T, s, R, Res.sat_mono (Res.sat_bind.mp q) (fun b s1 q H1 R1 => ?_) fun e s h => h⟩
  cases b with
  | true => exact ⟨T, s1, R1, q⟩
  | false => exact q H1 R1
theorem snW_or {pos} (ha : SnT X Z W a g) (hb : SnW X Z W (.BoolOp .Or (b :: rest) pos) h) : SnW X Z W (.BoolOp .Or (a :: b :: rest) pos) (cOr g h) := fun k => pw_imp (pw_or (ha k) (hb k)) fun σ H Q ⟨T, s, R, q⟩ => by
  refine ⟨T, s, R, Res.sat_mono (Res.sat_bind.mp q) (fun b s1 q H1 R1 => ?_) fun e s h => h⟩
  cases b with
  | true => exact q H1 R1
  | false => exact ⟨T, s1, R1, q⟩
theorem snT_not {pos} (ha : SnT X Z W a g) : SnT X Z W (.UnaryOp .Not a pos) (cNot g) := fun k => pt_imp (pt_not (ha k)) fun σ H Q ⟨T, s, R, q⟩ => ⟨T, s, R, Res.sat_bind.mp q⟩
/-- a or b, a and b, not a as values -/
def cOrV (f g : Ev) : Ev := fun s => (f s).bind fun r s1 => match r with
  | .sh (.bool b) => if b = true then .ok (.sh (.bool true)) s1 else g s1
  | _ => .err
def cAndV (f g : Ev) : Ev := fun s => (f s).bind fun r s1 => match r with
  | .sh (.bool b) => if b = true then g s1 else .ok (.sh (.bool false)) s1
  | _ => .err
def cNotV (f : Ev) : Ev := fun s => (f s).bind fun r s1 => match r with
  | .sh (.bool b) => .ok (.sh (.bool (!b))) s1
  | _ => .err
variable {k1 k2 : Ev}
theorem snE_one {op pos} (h : SnE X Z W a k1) : SnE X Z W (.BoolOp op [a] pos) k1 := fun k => pe_one (h k)
theorem snE_and {pos} (ha : SnE X Z W a k1) (hb : SnE X Z W (.BoolOp .And (b :: rest) pos) k2) : SnE X Z W (.BoolOp .And (a :: b :: rest) pos) (cAndV k1 k2) := fun k => pe_imp (pe_and (ha k) (hb k)) fun σ H Q ⟨T, s, R, q⟩ => by
  refine ⟨T, s, R, Res.sat_mono (Res.sat_bind.mp q) (fun r s1 q v H1 R1 => ?_) fun e s h => h⟩
  split at q
  · rename_i c
    obtain ⟨O, r⟩ := R1.2
    have e := r.bl (v := v) (i := c) ⟨.sh (.bool c), by simp, rfl⟩
    refine ⟨c, e, ?_⟩
    cases c with
    | true => exact ⟨T, s1, R1.pop, q⟩
    | false => exact q _ _ (e ▸ R1)
  · exact q.elim
theorem snE_or {pos} (ha : SnE X Z W a k1) (hb : SnE X Z W (.BoolOp .Or (b :: rest) pos) k2) : SnE X Z W (.BoolOp .Or (a :: b :: rest) pos) (cOrV k1 k2) := fun k => pe_imp (pe_or (ha k) (hb k)) fun σ H Q ⟨T, s, R, q⟩ => by
  refine ⟨T, s, R, Res.sat_mono (Res.sat_bind.mp q) (fun r s1 q v H1 R1 => ?_) fun e s h => h⟩
  split at q
  · rename_i c
    obtain ⟨O, r⟩ := R1.2
    have e := r.bl (v := v) (i := c) ⟨.sh (.bool c), by simp, rfl⟩
    refine ⟨c, e, ?_⟩
    cases c with
    | false => exact ⟨T, s1, R1.pop, q⟩
    | true => exact q _ _ (e ▸ R1)
  · exact q.elim
theorem snE_not {pos} (ha : SnE X Z W a k1) : SnE X Z W (.UnaryOp .Not a pos) (cNotV k1) := fun k => pe_imp (pe_not (ha k)) fun σ H Q ⟨T, s, R, q⟩ => by
  refine ⟨T, s, R, Res.sat_mono (Res.sat_bind.mp q) (fun r s1 q v H1 R1 => ?_) fun e s h => h⟩
  split at q
  · rename_i c
    obtain ⟨O, r⟩ := R1.2
    have e := r.bl (v := v) (i := c) ⟨.sh (.bool c), by simp, rfl⟩
    exact ⟨c, e, q _ _ ⟨R1.1, R1.pop.2.bl _⟩⟩
  · exact q.elim
def cIf (t : Tt) (f g : Ev) : Ev := fun s => (t s).bind fun b s1 => if b = true then f s1 else g s1
theorem snE_if {c : Expr} {pos} (hc : SnT X Z W c g) (ha : SnE X Z W a k1) (hb : SnE X Z W b k2) : SnE X Z W (.IfExp c a b pos) (cIf g k1 k2) := fun k => pe_imp (pe_ifExp (hc k) (ha k) (hb k)) fun σ H Q ⟨T, s, R, q⟩ => by
  refine ⟨T, s, R, Res.sat_mono (Res.sat_bind.mp q) (fun b s1 q H1 R1 => ?_) fun e s h => h⟩
  cases b with
  | true => exact ⟨T, s1, R1, q⟩
  | false => exact ⟨T, s1, R1, q⟩
end
end Pw
set_option Elab.async false
set_option linter.all false
set_option maxRecDepth 100000
namespace Pw
open PySem PySem.Spec PyProof.Rows L2
section
variable {X : Cx} {Z : Zx} {H : Hp} {σ : L2.St} {L : List Ent} {src : Option Src} {O : Addr → Prop} {v : V} {pins : List (Addr × Obj)} {s : Shared}
/-! ### what the heap of objects reads -/
theorem vals_key {P : Program} {w : World} : ∀ {kvs : List (Key × V)} {vs : List (Key × Value)} {es : List DictEntry}, KV kvs vs → Pairs (mixKind P w) es vs →
    Paired (fun (p : Key × V) (e : DictEntry) => RelV (kV p.1) e.key ∧ RelV p.2 e.val) kvs es
  | [], _, _, .nil, .nil => .nil
  | (k, x) :: _, _, _, .cons ⟨e1, e2⟩ r, .cons h1 h2 p => by
    refine .cons ⟨?_, by rw [h2]; exact e2⟩ (vals_key r p)
    have e1 : k = _ := e1
    rw [← e1] at h1
    have h1 : keyIs k _ = true := h1
    exact relV_key h1
mutual
theorem Rp.reads (I : Inv X pins σ H s) : ∀ {v : V} {d : D} {u : Value}, Rp X.K H O v d → RelV v u → ∃ as, Reads s.heap u d as
  | _, _, _, .non, r => by cases r; exact ⟨_, .none⟩
  | _, _, _, .bl b, r => by cases r; exact ⟨_, .bool b⟩
  | _, _, _, .int i, r => by obtain ⟨t, rfl⟩ := r; exact ⟨_, .int i t⟩
  | _, _, _, .str x, r => by obtain ⟨t, rfl⟩ := r; exact ⟨_, .str x t⟩
  | _, _, _, .lst e _ q, r => by
    cases r
    obtain ⟨its, rv, ⟨o, n, ho, hc, _, hd⟩, _⟩ := I.list (SqL.of e)
    obtain ⟨as, hr⟩ := RpA.reads I q rv
    exact ⟨_, .list ho hc hd hr⟩
  | _, _, _, .tup e _ q, r => by
    cases r
    obtain ⟨its, rv, ⟨o, ho, hc, n, hd⟩, _⟩ := I.tuple (SqT.of e)
    obtain ⟨as, hr⟩ := RpA.reads I q rv
    exact ⟨_, .tuple ho hc hd hr⟩
  | _, _, _, .tupK e1 e2 e3 e4 e5 q, r => by
    cases r
    obtain ⟨its, rv, ⟨o, ho, hc, n, hd⟩, _⟩ := I.tuple (xs := _) (show SqT X.K _ _ _ from .inr ⟨_, _, _, e1, e2, e3, e4, e5⟩)
    obtain ⟨as, hr⟩ := RpA.reads I q rv
    exact ⟨_, .tuple ho hc hd hr⟩
  | _, _, _, .dic e _ q, r => by
    cases r
    obtain ⟨_, _, vs, kv, o, es, ep, ho, hx, hd, _, hp, _⟩ := dk_of I.hok e
    obtain ⟨as, bs, h1, h2⟩ := RpD.reads I q (vals_key kv hp)
    exact ⟨_, .dict ho hx.1 hd h1 h2⟩
theorem RpA.reads (I : Inv X pins σ H s) : ∀ {vs : List V} {ds : List D} {us : List Value}, RpA X.K H O vs ds → Vals vs us → ∃ as, ReadsAll s.heap us ds as
  | _, _, _, .nil, r => by cases r; exact ⟨_, .nil⟩
  | _, _, _, .cons q t, r => by
    cases r with
    | cons r1 r2 =>
      obtain ⟨as, h1⟩ := Rp.reads I q r1
      obtain ⟨bs, h2⟩ := RpA.reads I t r2
      exact ⟨_, .cons h1 h2⟩
theorem RpD.reads (I : Inv X pins σ H s) : ∀ {vs : List (Key × V)} {ds : List (D × D)} {es : List DictEntry}, RpD X.K H O vs ds → Paired (fun (p : Key × V) (e : DictEntry) => RelV (kV p.1) e.key ∧ RelV p.2 e.val) vs es →
    ∃ as bs, ReadsAll s.heap (es.map (·.key)) (ds.map (·.1)) as ∧ ReadsAll s.heap (es.map (·.val)) (ds.map (·.2)) bs
  | _, _, _, .nil, r => by cases r; exact ⟨_, _, .nil, .nil⟩
  | _, _, _, .cons (k := k) q t, r => by
    cases r with
    | cons r1 r2 =>
      obtain ⟨as, h1⟩ := Rp.reads I q r1.2
      obtain ⟨bs, cs, h2, h3⟩ := RpD.reads I t r2
      have hk : ∀ e : Value, L2.RelV (kV k) e → ∃ as, Reads s.heap e (keyD k) as := fun e r => by
        cases k with
        | inl i => obtain ⟨t, rfl⟩ := r; exact ⟨_, .int i t⟩
        | inr x => obtain ⟨t, rfl⟩ := r; exact ⟨_, .str x t⟩
      obtain ⟨ks, hk⟩ := hk _ r1.1
      exact ⟨_, _, .cons hk h2, .cons h1 h3⟩
end
theorem RelO.reads (r : RelO Z H src L O) (hK : Z.K = X.K) (I : Inv X pins σ H s) {d : D} (h : Has L v d) {u : Value} (rv : RelV v u) : ∃ as, Reads s.heap u d as := by
  rcases r.has h with z | ⟨a, e, z⟩
  · rw [hK] at z; exact z.reads I rv
  · subst e
    cases rv
    cases d <;> first | exact z.elim | skip
    · obtain ⟨xs, q, z⟩ := z
      rw [hK] at z
      obtain ⟨its, rv, ⟨o, n, ho, hc, _, hd⟩, _⟩ := I.list (SqL.of q)
      obtain ⟨as, hr⟩ := RpA.reads I z rv
      exact ⟨_, .list ho hc hd hr⟩
    · obtain ⟨xs, q, z⟩ := z
      rw [hK] at z
      obtain ⟨_, _, vs, kv, o, es, ep, ho, hx, hd, _, hp, _⟩ := dk_of I.hok q
      obtain ⟨as, bs, h1, h2⟩ := RpD.reads I z (vals_key kv hp)
      exact ⟨_, .dict ho hx.1 hd h1 h2⟩
/-! ### arithmetic -/
def dAdd : D → D → Option SV
  | .int i, .int j => some (.sh (.int (i + j)))
  | .str x, .str y => if x.length + y.length ≤ sizeLine then some (.sh (.str (x ++ y))) else none
  | .list xs, .list ys => if xs.length + ys.length ≤ sizeLine then some (.own (.list (xs ++ ys))) else none
  | .tuple xs, .tuple ys => if xs.length + ys.length ≤ sizeLine then some (.sh (.tuple (xs ++ ys))) else none
  | _, _ => none
theorem opR_add : OpR X (binaryOp .Add) (rD X.K dAdd) := by
  intro pins s σ H x y v u Q I rx ry h
  obtain ⟨Z, src, L, d1, d2, r, hK, R, h1, h2, e, q⟩ := h
  obtain ⟨O, R0⟩ := id R
  unfold dAdd at e
  split at e
  · cases e
    exact op_add pins s σ H x y v u Q I rx ry ⟨_, _, R0.int h1, R0.int h2, q _ _ (R.int _)⟩
  · split at e
    · cases e
      exact op_add_str pins s σ H x y v u Q I rx ry ⟨_, _, R0.str h1, R0.str h2, by assumption, q _ _ (R.str _)⟩
    · cases e
  · split at e
    · rename_i hz
      cases e
      obtain ⟨a, xs, e1, ha, ra⟩ := R0.list h1
      obtain ⟨b, ys, e2, hb, rb⟩ := R0.list h2
      refine op_cat pins s σ H x y v u Q I rx ry ⟨a, b, xs, ys, e1, e2, ha, hb, by rw [ra.length, rb.length]; exact hz, fun p hp => q _ _ (R.newOwn hp fun O' R' => ?_)⟩
      obtain ⟨a', xs', e1', ha', ra'⟩ := R'.list h1
      obtain ⟨b', ys', e2', hb', rb'⟩ := R'.list h2
      rw [e1] at e1'; cases e1'; rw [ha] at ha'; cases ha'
      rw [e2] at e2'; cases e2'; rw [hb] at hb'; cases hb'
      exact ⟨_, upd_same, (ra'.append rb').keep (fun b x e _ => by rw [upd_ne (ne_of_none e hp)]; exact e) fun b z => Or.elim z .inl fun z => .inr (by rw [z]; exact hp)⟩
    · cases e
  · split at e
    · rename_i hz
      cases e
      obtain ⟨a, xs, e1, ha, ra⟩ := R0.tuple h1
      obtain ⟨b, ys, e2, hb, rb⟩ := R0.tuple h2
      rw [hK] at ha hb
      refine op_catA pins s σ H x y v u Q I rx ry ⟨a, b, xs, ys, e1, e2, ha, hb, by rw [ra.length, rb.length]; exact hz, fun z => ?_, fun z z' => ?_, fun _ _ p hp => q _ _ (R.newTup hp fun O' R' => ?_)⟩
      · subst z
        cases ra
        rw [e2] at h2
        refine q _ _ ⟨O, R0.push mild_sh fun s q => ⟨_, rfl, ?_⟩⟩
        cases q
        exact (R0.has h2).elim id fun ⟨_, _, z⟩ => z.elim
      · subst z'
        cases rb
        rw [List.append_nil] at q
        rw [e1] at h1
        refine q _ _ ⟨O, R0.push mild_sh fun s q => ⟨_, rfl, ?_⟩⟩
        cases q
        exact (R0.has h1).elim id fun ⟨_, _, z⟩ => z.elim
      · obtain ⟨a', xs', e1', ha', ra'⟩ := R'.tuple h1
        obtain ⟨b', ys', e2', hb', rb'⟩ := R'.tuple h2
        rw [hK] at ha' hb'
        rw [e1] at e1'; cases e1'; cases I.tuple_inj ha ha'
        rw [e2] at e2'; cases e2'; cases I.tuple_inj hb hb'
        exact ra'.append rb'
    · cases e
  · cases e
def dSub : D → D → Option SV
  | .int i, .int j => some (.sh (.int (i - j)))
  | _, _ => none
theorem opR_sub : OpR X (binaryOp .Sub) (rD X.K dSub) := by
  intro pins s σ H x y v u Q I rx ry h
  obtain ⟨Z, src, L, d1, d2, r, hK, R, h1, h2, e, q⟩ := h
  obtain ⟨O, R0⟩ := id R
  unfold dSub at e
  split at e
  · cases e
    exact op_sub pins s σ H x y v u Q I rx ry ⟨_, _, R0.int h1, R0.int h2, q _ _ (R.int _)⟩
  · cases e
def smallI (i : Int) : Bool := decide (-(2 ^ 64) < i) && decide (i < 2 ^ 64)
def mulFits (i j : Int) : Bool := smallI j || smallI i || decide ((Builtin.Int.intBits i : Int) + (Builtin.Int.intBits j : Int) ≤ 134217728)
def dMul : D → D → Option SV
  | .int i, .int j => if mulFits i j = true then some (.sh (.int (i * j))) else none
  | .list xs, .int k => if -(2 ^ 63) ≤ k ∧ k < 2 ^ 63 ∧ xs.length * k.toNat ≤ sizeLine then some (.own (.list (List.replicate k.toNat xs).flatten)) else none
  | .tuple xs, .int k => if xs ≠ [] ∧ 2 ≤ k ∧ k ≤ 1000 ∧ xs.length ≤ 1000 then some (.sh (.tuple (List.replicate k.toNat xs).flatten)) else none
  | .str x, .int k => if 0 ≤ k ∧ k ≤ 100000 ∧ x.length ≤ 100 then some (.sh (.str (Txt.mul x k))) else none
  | _, _ => none
theorem mulOk_of {x : Str} {n : Int} (h0 : 0 ≤ n) (h1 : n ≤ 100000) (h2 : x.length ≤ 100) : MulOk x n := by
  refine ⟨by simp; omega, fun a b => ?_, fun a b => ?_⟩
  · have h3 : (x.length : Int) ≤ 100 := by exact_mod_cast h2
    have : (100 : Int) ≤ (2 ^ 63 - 1) / n := by
      rw [Int.le_ediv_iff_mul_le (by omega)]
      omega
    omega
  · have : x.length * n.toNat ≤ 100 * 100000 := Nat.mul_le_mul h2 (by omega)
    unfold Builtin.Str.tooLong
    rw [sizeLine_eq]
    simp
    omega
theorem opR_mul : OpR X (binaryOp .Mult) (rD X.K dMul) := by
  intro pins s σ H x y v u Q I rx ry h
  obtain ⟨Z, src, L, d1, d2, r, hK, R, h1, h2, e, q⟩ := h
  obtain ⟨O, R0⟩ := id R
  unfold dMul at e
  split at e
  · split at e
    · rename_i hz
      cases e
      unfold mulFits smallI at hz
      simp only [Bool.or_eq_true, Bool.and_eq_true, decide_eq_true_eq] at hz
      rcases hz with (hz | hz) | hz
      · exact op_mul pins s σ H x y v u Q I rx ry ⟨_, _, R0.int h1, R0.int h2, .inr hz, q _ _ (R.int _)⟩
      · exact op_mul pins s σ H x y v u Q I rx ry ⟨_, _, R0.int h1, R0.int h2, .inl hz, q _ _ (R.int _)⟩
      · exact op_mulX pins s σ H x y v u Q I rx ry ⟨_, _, R0.int h1, R0.int h2, hz, q _ _ (R.int _)⟩
    · cases e
  · split at e
    · rename_i hz
      cases e
      obtain ⟨a, xs, e1, ha, ra⟩ := R0.list h1
      refine op_rep pins s σ H x y v u Q I rx ry ⟨a, _, xs, e1, R0.int h2, ha, hz.1, hz.2.1, by rw [ra.length]; exact hz.2.2, fun p hp => q _ _ (R.newOwn hp fun O' R' => ?_)⟩
      obtain ⟨a', xs', e1', ha', ra'⟩ := R'.list h1
      rw [e1] at e1'; cases e1'; rw [ha] at ha'; cases ha'
      exact ⟨_, upd_same, (ra'.rep _).keep (fun b x e _ => by rw [upd_ne (ne_of_none e hp)]; exact e) fun b z => Or.elim z .inl fun z => .inr (by rw [z]; exact hp)⟩
    · cases e
  · split at e
    · rename_i hz
      cases e
      obtain ⟨a, xs, e1, ha, ra⟩ := R0.tuple h1
      have ha' := ha
      rw [hK] at ha
      refine op_repT pins s σ H x y v u Q I rx ry ⟨a, _, xs, e1, R0.int h2, ha, fun z => hz.1 ?_, hz.2.1, hz.2.2.1, by rw [ra.length]; exact hz.2.2.2, fun p hp => q _ _ (R.newTup hp fun O' R' => ?_)⟩
      · subst z; cases ra; rfl
      · obtain ⟨a', xs', e1', ha', ra'⟩ := R'.tuple h1
        rw [hK] at ha'
        rw [e1] at e1'; cases e1'; cases I.tuple_inj ha ha'
        exact ra'.rep _
    · cases e
  · split at e
    · rename_i hz
      cases e
      have e1 := R0.str h1
      have e2 := R0.int h2
      subst e1 e2
      obtain ⟨t, rfl⟩ := rx
      obtain ⟨t', rfl⟩ := ry
      exact SB.mul (mulOk_of hz.1 hz.2.1 hz.2.2) fun t k => ⟨.str _, H, I.tok _, ⟨_, rfl⟩, q _ _ (R.str _)⟩
    · cases e
  · cases e
def dFdiv : D → D → Option SV
  | .int i, .int j => if 0 < j ∧ j.natAbs.log2 < 9000 then some (.sh (.int (i / j))) else none
  | _, _ => none
theorem opR_fdiv : OpR X (binaryOp .FloorDiv) (rD X.K dFdiv) := by
  intro pins s σ H x y v u Q I rx ry h
  obtain ⟨Z, src, L, d1, d2, r, hK, R, h1, h2, e, q⟩ := h
  obtain ⟨O, R0⟩ := id R
  unfold dFdiv at e
  split at e
  · split at e
    · rename_i hz
      cases e
      exact op_fdivW pins s σ H x y v u Q I rx ry ⟨_, _, R0.int h1, R0.int h2, hz, q _ _ (R.int _)⟩
    · cases e
  · cases e
def dMod : D → D → Option SV
  | .int i, .int j => if 0 < j then some (.sh (.int (i % j))) else none
  | _, _ => none
theorem opR_mod : OpR X (binaryOp .Mod) (rD X.K dMod) := by
  intro pins s σ H x y v u Q I rx ry h
  obtain ⟨Z, src, L, d1, d2, r, hK, R, h1, h2, e, q⟩ := h
  obtain ⟨O, R0⟩ := id R
  unfold dMod at e
  split at e
  · split at e
    · rename_i hz
      cases e
      exact op_mod pins s σ H x y v u Q I rx ry ⟨_, _, R0.int h1, R0.int h2, hz, q _ _ (R.int _)⟩
    · cases e
  · cases e
def dPow : D → D → Option SV
  | .int i, .int j => if 0 ≤ j ∧ j ≤ 100000 ∧ i.natAbs < 2 ^ 64 then some (.sh (.int (i ^ j.toNat))) else none
  | _, _ => none
theorem opR_pow : OpR X (binaryOp .Pow) (rD X.K dPow) := by
  intro pins s σ H x y v u Q I rx ry h
  obtain ⟨Z, src, L, d1, d2, r, hK, R, h1, h2, e, q⟩ := h
  obtain ⟨O, R0⟩ := id R
  unfold dPow at e
  split at e
  · split at e
    · rename_i hz
      cases e
      exact op_pow pins s σ H x y v u Q I rx ry ⟨_, _, R0.int h1, R0.int h2, ⟨hz.1, by omega, hz.2.2⟩, q _ _ (R.int _)⟩
    · cases e
  · cases e
/-! ### comparisons -/
def eqOk (a b : D) : Bool := a.plain && b.plain && decide (a.depth ≤ 40)
def dEq (a b : D) : Option SV := if eqOk a b = true then some (.sh (.bool (PyData.eqv a b))) else none
def dNe (a b : D) : Option SV := if eqOk a b = true then some (.sh (.bool (!PyData.eqv a b))) else none
theorem opR_eq (hu : X.A.units + 64 < cLine) : OpR X (compareOp .Eq) (rD X.K dEq) := by
  intro pins s σ H x y v u Q I rx ry h
  obtain ⟨Z, src, L, d1, d2, r, hK, R, h1, h2, e, q⟩ := h
  obtain ⟨O, R0⟩ := id R
  unfold dEq at e
  split at e
  · rename_i hz
    cases e
    simp only [eqOk, Bool.and_eq_true, decide_eq_true_eq] at hz
    obtain ⟨as, r1⟩ := R0.reads hK I h1 rx
    obtain ⟨bs, r2⟩ := R0.reads hK I h2 ry
    have hm : min d1.depth d2.depth ≤ d1.depth := Nat.min_le_left _ _
    exact SeqAt.eq_plain r1 r2 hz.1.1 hz.1.2 (by omega) ⟨.bl _, H, I, rfl, q _ _ (R.bl _)⟩
  · cases e
theorem opR_ne (hu : X.A.units + 64 < cLine) : OpR X (compareOp .NotEq) (rD X.K dNe) := by
  intro pins s σ H x y v u Q I rx ry h
  obtain ⟨Z, src, L, d1, d2, r, hK, R, h1, h2, e, q⟩ := h
  obtain ⟨O, R0⟩ := id R
  unfold dNe at e
  split at e
  · rename_i hz
    cases e
    simp only [eqOk, Bool.and_eq_true, decide_eq_true_eq] at hz
    obtain ⟨as, r1⟩ := R0.reads hK I h1 rx
    obtain ⟨bs, r2⟩ := R0.reads hK I h2 ry
    have hm : min d1.depth d2.depth ≤ d1.depth := Nat.min_le_left _ _
    exact SeqAt.ne_plain r1 r2 hz.1.1 hz.1.2 (by omega) ⟨.bl _, H, I, rfl, q _ _ (R.bl _)⟩
  · cases e
/-- an order of ints, of texts -/
def dOrd (p : Int → Int → Bool) (t : Str → Str → Bool) : D → D → Option SV
  | .int i, .int j => some (.sh (.bool (p i j)))
  | .str i, .str j => some (.sh (.bool (t i j)))
  | _, _ => none
def strLt (a b : Str) : Bool := decide (a.cps.toList < b.cps.toList)
theorem opR_ord {op : CmpOp} {p : Int → Int → Bool} {t : Str → Str → Bool} (hi : OpR X (compareOp op) (rI0 fun i j => .bl (p i j))) (ht : OpR X (compareOp op) (fun x y H Q => ∃ i j, x = .str i ∧ y = .str j ∧ Q (.bl (t i j)) H)) : OpR X (compareOp op) (rD X.K (dOrd p t)) := by
  intro pins s σ H x y v u Q I rx ry h
  obtain ⟨Z, src, L, d1, d2, r, hK, R, h1, h2, e, q⟩ := h
  obtain ⟨O, R0⟩ := id R
  unfold dOrd at e
  split at e
  · cases e
    exact hi pins s σ H x y v u Q I rx ry ⟨_, _, R0.int h1, R0.int h2, q _ _ (R.bl _)⟩
  · cases e
    exact ht pins s σ H x y v u Q I rx ry ⟨_, _, R0.str h1, R0.str h2, q _ _ (R.bl _)⟩
  · cases e
abbrev dLt := dOrd (fun i j => decide (i < j)) strLt
theorem opR_lt : OpR X (compareOp .Lt) (rD X.K dLt) := opR_ord op_lt op_lt_str
def dOrdI (p : Int → Int → Bool) : D → D → Option SV
  | .int i, .int j => some (.sh (.bool (p i j)))
  | _, _ => none
theorem opR_ordI {op : CmpOp} {p : Int → Int → Bool} (hi : OpR X (compareOp op) (rI0 fun i j => .bl (p i j))) : OpR X (compareOp op) (rD X.K (dOrdI p)) := by
  intro pins s σ H x y v u Q I rx ry h
  obtain ⟨Z, src, L, d1, d2, r, hK, R, h1, h2, e, q⟩ := h
  obtain ⟨O, R0⟩ := id R
  unfold dOrdI at e
  split at e
  · cases e
    exact hi pins s σ H x y v u Q I rx ry ⟨_, _, R0.int h1, R0.int h2, q _ _ (R.bl _)⟩
  · cases e
abbrev dLe := dOrdI fun i j => decide (i ≤ j)
abbrev dGt := dOrdI fun i j => decide (j < i)
abbrev dGe := dOrdI fun i j => decide (j ≤ i)
theorem opR_le : OpR X (compareOp .LtE) (rD X.K dLe) := opR_ordI op_le
theorem opR_gt : OpR X (compareOp .Gt) (rD X.K dGt) := opR_ordI op_gt
theorem opR_ge : OpR X (compareOp .GtE) (rD X.K dGe) := opR_ordI op_ge
/-! ### dicts -/
def keyOf : D → Option Key
  | .int i => some (.inl i)
  | .str x => some (.inr x)
  | _ => none
theorem keyOf_keyD (k : Key) : keyOf (keyD k) = some k := by cases k <;> rfl
def dLook : List (D × D) → Key → Option D
  | [], _ => none
  | p :: r, k => if keyOf p.1 = some k then some p.2 else dLook r k
def dHas (ds : List (D × D)) (k : Key) : Bool := (dLook ds k).isSome
def dPut (ds : List (D × D)) (k : Key) (x : D) : List (D × D) := if dHas ds k = true then ds.map fun p => if keyOf p.1 = some k then (p.1, x) else p else ds ++ [(keyD k, x)]
theorem RpD.look : ∀ {kvs : List (Key × V)} {ds : List (D × D)} {K}, RpD K H O kvs ds → ∀ k, match valV kvs k, dLook ds k with
    | some v, some d => Rp K H O v d
    | none, none => True
    | _, _ => False
  | _, _, _, .nil, k => trivial
  | _, _, _, .cons (k := j) (v := v) (d := d) (vs := vs) (ds := ds) r t, k => by
    have ih := RpD.look t k
    unfold dLook
    simp only [keyOf_keyD]
    by_cases e : j = k
    · rw [valV_pos e, if_pos (by rw [e])]; exact r
    · rw [valV_neg e, if_neg (fun z => e (Option.some.inj z))]; exact ih
theorem RpD.has {kvs : List (Key × V)} {ds : List (D × D)} {K} (r : RpD K H O kvs ds) (k : Key) : (valV kvs k).isSome = dHas ds k := by
  have q := r.look k
  unfold dHas
  cases e1 : valV kvs k <;> cases e2 : dLook ds k <;> rw [e1, e2] at q <;> first | rfl | exact q.elim
theorem RpD.append : ∀ {kvs ls : List (Key × V)} {ds es : List (D × D)} {K}, RpD K H O kvs ds → RpD K H O ls es → RpD K H O (kvs ++ ls) (ds ++ es)
  | _, _, _, _, _, .nil, s => s
  | _, _, _, _, _, .cons r t, s => .cons r (RpD.append t s)
theorem RpD.repl : ∀ {kvs : List (Key × V)} {ds : List (D × D)} {K}, RpD K H O kvs ds → ∀ (k : Key) {v : V} {d : D}, Rp K H O v d → RpD K H O (kvs.map fun kv => if kv.1 = k then (kv.1, v) else kv) (ds.map fun p => if keyOf p.1 = some k then (p.1, d) else p)
  | _, _, _, .nil, _, _, _, _ => .nil
  | _, _, _, .cons (k := j) r t, k, _, _, q => by
    have ih := RpD.repl t k q
    simp only [List.map_cons, keyOf_keyD]
    by_cases z : j = k
    · rw [if_pos z, if_pos (by rw [z])]; exact .cons q ih
    · rw [if_neg z, if_neg (fun x => z (Option.some.inj x))]; exact .cons r ih
theorem RpD.put {kvs : List (Key × V)} {ds : List (D × D)} {K} (r : RpD K H O kvs ds) (k : Key) {v : V} {d : D} (q : Rp K H O v d) : RpD K H O (putK kvs k v) (dPut ds k d) := by
  unfold putK dPut
  rw [← r.has k, valV_any]
  split
  · exact r.repl k q
  · exact r.append (.cons q .nil)
/-! ### in -/
def inOk (d : D) (xs : List D) : Bool := PyData.plainAll xs && d.plain && decide (d.depth ≤ 40)
def dIn (neg : Bool) : D → D → Option SV
  | d, .list xs => if inOk d xs = true then some (.sh (.bool (xor neg (xs.any fun y => PyData.eqv y d)))) else none
  | d, .tuple xs => if inOk d xs = true then some (.sh (.bool (xor neg (xs.any fun y => PyData.eqv y d)))) else none
  | d, .dict ds => (keyOf d).map fun k => .sh (.bool (xor neg (dHas ds k)))
  | .str x, .str y => some (.sh (.bool (xor neg (!(Builtin.Str.occurrences y x 0 y.length 1).isEmpty))))
  | _, _ => none
theorem kV_of {k : Key} {d : D} {K} (h : keyOf d = some k) (r : Rp K H O v d) : v = kV k := by
  cases d <;> simp only [keyOf] at h <;> first | (cases h; done) | skip
  · cases h; exact r.int_inv
  · cases h; exact r.str_inv
theorem keyD_of {k : Key} {d : D} (h : keyOf d = some k) : d = keyD k := by
  cases d <;> simp only [keyOf] at h <;> first | (cases h; done) | (cases h; rfl)
theorem RelO.key (r : RelO Z H src L O) {d : D} {k : Key} (h : Has L v d) (e : keyOf d = some k) : v = kV k := by
  rcases r.has h with z | ⟨a, _, z⟩
  · exact kV_of e z
  · cases d <;> first | exact z.elim | (simp [keyOf] at e)
theorem opR_in (hu : X.A.units + 64 < cLine) : OpR X (compareOp .In) (rD X.K (dIn false)) := by
  intro pins s σ H x y v u Q I rx ry h
  obtain ⟨Z, src, L, d1, d2, r, hK, R, h1, h2, e, q⟩ := h
  obtain ⟨O, R0⟩ := id R
  have fin : ∀ b, some (SV.sh (.bool b)) = some r → ∀ k', b = k' → EP X pins σ Q (.bool k') s := fun b e k' e' => by
    cases e; subst e'; exact ⟨.bl b, H, I, rfl, q _ _ (R.bl _)⟩
  unfold dIn at e
  split at e
  · split at e
    · rename_i hz
      simp only [inOk, Bool.and_eq_true, decide_eq_true_eq] at hz
      obtain ⟨as, r1⟩ := R0.reads hK I h1 rx
      obtain ⟨bs, r2⟩ := R0.reads hK I h2 ry
      refine SeqAt.in_list_data r2 r1 hz.1.1 hz.1.2 ?_ (fin _ e _ (Bool.false_xor _))
      have hm : ∀ n, min n d1.depth ≤ d1.depth := fun n => Nat.min_le_right _ _
      exact Nat.lt_of_le_of_lt (Nat.add_le_add_left (hm _) _) (by omega)
    · cases e
  · split at e
    · rename_i hz
      simp only [inOk, Bool.and_eq_true, decide_eq_true_eq] at hz
      obtain ⟨as, r1⟩ := R0.reads hK I h1 rx
      obtain ⟨bs, r2⟩ := R0.reads hK I h2 ry
      refine SeqAt.in_tuple_data r2 r1 hz.1.1 hz.1.2 ?_ (fin _ e _ (Bool.false_xor _))
      have hm : ∀ n, min n d1.depth ≤ d1.depth := fun n => Nat.min_le_right _ _
      exact Nat.lt_of_le_of_lt (Nat.add_le_add_left (hm _) _) (by omega)
    · cases e
  · obtain ⟨k, e1, e2⟩ := Option.map_eq_some_iff.mp e
    obtain ⟨a, kvs, e3, ha, ra⟩ := R0.dict h2
    have e4 := R0.key h1 e1
    subst e3 e4
    cases ry
    exact d_in (by omega) I (DGet.k (k := k) ha) rx fun s' I' => by
      rw [ra.has k]
      refine ⟨.bl _, H, I', rfl, ?_⟩
      rw [← e2] at q
      simpa using q _ _ (R.bl _)
  · have e1 := R0.str h1
    have e2 := R0.str h2
    cases e
    exact op_in_str pins s σ H x y v u Q I rx ry ⟨_, _, e1, e2, by simpa using q _ _ (R.bl _)⟩
  · cases e
theorem opR_notIn (hu : X.A.units + 64 < cLine) : OpR X (compareOp .NotIn) (rD X.K (dIn true)) := by
  intro pins s σ H x y v u Q I rx ry h
  obtain ⟨Z, src, L, d1, d2, r, hK, R, h1, h2, e, q⟩ := h
  obtain ⟨O, R0⟩ := id R
  have fin : ∀ b, some (SV.sh (.bool b)) = some r → ∀ k', b = k' → EP X pins σ Q (.bool k') s := fun b e k' e' => by
    cases e; subst e'; exact ⟨.bl b, H, I, rfl, q _ _ (R.bl _)⟩
  unfold dIn at e
  split at e
  · split at e
    · rename_i hz
      simp only [inOk, Bool.and_eq_true, decide_eq_true_eq] at hz
      obtain ⟨as, r1⟩ := R0.reads hK I h1 rx
      obtain ⟨bs, r2⟩ := R0.reads hK I h2 ry
      refine SeqAt.notIn_list_data r2 r1 hz.1.1 hz.1.2 ?_ (fin _ e _ (Bool.true_xor _))
      have hm : ∀ n, min n d1.depth ≤ d1.depth := fun n => Nat.min_le_right _ _
      exact Nat.lt_of_le_of_lt (Nat.add_le_add_left (hm _) _) (by omega)
    · cases e
  · split at e
    · rename_i hz
      simp only [inOk, Bool.and_eq_true, decide_eq_true_eq] at hz
      obtain ⟨as, r1⟩ := R0.reads hK I h1 rx
      obtain ⟨bs, r2⟩ := R0.reads hK I h2 ry
      refine SeqAt.notIn_tuple_data r2 r1 hz.1.1 hz.1.2 ?_ (fin _ e _ (Bool.true_xor _))
      have hm : ∀ n, min n d1.depth ≤ d1.depth := fun n => Nat.min_le_right _ _
      exact Nat.lt_of_le_of_lt (Nat.add_le_add_left (hm _) _) (by omega)
    · cases e
  · obtain ⟨k, e1, e2⟩ := Option.map_eq_some_iff.mp e
    obtain ⟨a, kvs, e3, ha, ra⟩ := R0.dict h2
    have e4 := R0.key h1 e1
    subst e3 e4
    cases ry
    exact d_notIn (by omega) I (DGet.k (k := k) ha) rx fun s' I' => by
      rw [ra.has k]
      refine ⟨.bl _, H, I', rfl, ?_⟩
      rw [← e2] at q
      simpa using q _ _ (R.bl _)
  · have e1 := R0.str h1
    have e2 := R0.str h2
    cases e
    exact op_notin_str pins s σ H x y v u Q I rx ry ⟨_, _, e1, e2, by simpa using q _ _ (R.bl _)⟩
  · cases e
/-! ### is -/
def isNone : D → Bool
  | .none => true
  | _ => false
def dIs (neg : Bool) : D → D → Option SV
  | d, .none => some (.sh (.bool (xor neg (isNone d))))
  | .bool a, .bool b => some (.sh (.bool (xor neg (decide (a = b)))))
  | _, _ => none
theorem RelO.isNone (r : RelO Z H src L O) {d : D} (h : Has L v d) : decide (v = .non) = Pw.isNone d := by
  rcases r.has h with z | ⟨a, e, z⟩
  · cases z <;> rfl
  · subst e
    cases d <;> first | exact z.elim | rfl
theorem opR_is : OpR X (compareOp .Is) (rD X.K (dIs false)) := by
  intro pins s σ H x y v u Q I rx ry h
  obtain ⟨Z, src, L, d1, d2, r, hK, R, h1, h2, e, q⟩ := h
  obtain ⟨O, R0⟩ := id R
  unfold dIs at e
  split at e
  · cases e
    exact op_isN pins s σ H x y v u Q I rx ry ⟨R0.non h2, by rw [R0.isNone h1]; simpa using q _ _ (R.bl _)⟩
  · cases e
    exact op_isBl pins s σ H x y v u Q I rx ry ⟨_, _, R0.bl h1, R0.bl h2, by simpa using q _ _ (R.bl _)⟩
  · cases e
theorem opR_isNot : OpR X (compareOp .IsNot) (rD X.K (dIs true)) := by
  intro pins s σ H x y v u Q I rx ry h
  obtain ⟨Z, src, L, d1, d2, r, hK, R, h1, h2, e, q⟩ := h
  obtain ⟨O, R0⟩ := id R
  unfold dIs at e
  split at e
  · cases e
    exact op_notN pins s σ H x y v u Q I rx ry ⟨R0.non h2, by rw [R0.isNone h1]; simpa using q _ _ (R.bl _)⟩
  · cases e
    exact op_notBl pins s σ H x y v u Q I rx ry ⟨_, _, R0.bl h1, R0.bl h2, by simpa using q _ _ (R.bl _)⟩
  · cases e
/-! ### items -/
theorem subTail {prog : Program} {w : World} {A : Around} {E : Value → Shared → Prop} {s : Shared} {value slice : Expr} {o i : Value} {T id : String} {Q : Value → Shared → Prop} (hT : s.TypeIs o T) (hl : typeLookup (.type T) "__getitem__" = pure (some (.builtin id))) (h : wpAny (model prog w) A (getItem o i) Q E s) (hs : subscripted slice false o i = operate [o, i] (getItem o i)) : wpAny (model prog w) A (subscriptTail value slice o i) Q E s := by
  have fin : wpAny (model prog w) A (subscripted slice false o i) (fun r t => wpAny (model prog w) A (letTemporaryGo value o r >>= fun _ => pure r) Q E t) E s :=
    hs ▸ wpAny_operating (wpAny_mono h (fun r t z => wpAny_bind (wpAny_letTemporaryGo (wpAny_pure z))) fun _ _ x => x)
  unfold subscriptTail
  refine wpAny_bind ?_
  rw [getitemInPython_of_ne hT.not_modules]; refine wpAny_bind (wpAny_specialOf hT hl ?_)
  first | exact wpAny_pure (wpAny_bind fin) | exact wpAny_bind (wpAny_pure (wpAny_bind fin)) | exact wpAny_bind fin
def dIx : D → D → Option SV
  | .list xs, .int i => (atI xs i).map .sh
  | .tuple xs, .int i => (atI xs i).map .sh
  | .str z, .int i => if z.length ≤ sizeLine then (atI z.cps.toList i).map fun c => .sh (.str ⟨#[c]⟩) else none
  | .dict ds, d => (keyOf d).bind fun k => (dLook ds k).map .sh
  | _, _ => none
theorem RpA.atI {K} {vs : List V} {ds : List D} (r : RpA K H O vs ds) {i : Int} {d : D} (h : L2.atI ds i = some d) : ∃ x, L2.atI vs i = some x ∧ Rp K H O x d := by
  unfold L2.atI at *
  rw [r.length]
  cases e : ixN ds.length i with
  | none => rw [e] at h; cases h
  | some j =>
    rw [e] at h
    exact r.get h
theorem RelO.pushSh (r : RelO Z H src L O) {d : D} (h : Rp Z.K H O v d) : Rel Z H src ((some v, some (.sh d)) :: L) := ⟨O, r.push mild_sh fun s q => ⟨_, rfl, by cases q; exact h⟩⟩
theorem ixR (hu : X.A.units + 64 < cLine) : IxR X (rD X.K dIx) := by
  intro value slice pins s σ H x y v u Q I rx ry h hs
  obtain ⟨Z, src, L, d1, d2, r, hK, R, h1, h2, e, q⟩ := h
  obtain ⟨O, R0⟩ := id R
  unfold dIx at e
  split at e
  · obtain ⟨d, e1, e2⟩ := Option.map_eq_some_iff.mp e
    subst e2
    obtain ⟨a, xs, e3, ha, ra⟩ := R0.list h1
    obtain ⟨w, e4, rw'⟩ := ra.atI e1
    exact ix_list value slice pins s σ H x y v u Q I rx ry ⟨a, xs, _, w, e3, R0.int h2, SqL.of ha, e4, q _ _ (R0.pushSh rw')⟩ hs
  · obtain ⟨d, e1, e2⟩ := Option.map_eq_some_iff.mp e
    subst e2
    obtain ⟨a, xs, e3, ha, ra⟩ := R0.tuple h1
    obtain ⟨w, e4, rw'⟩ := ra.atI e1
    exact ix_tup value slice pins s σ H x y v u Q I rx ry ⟨a, xs, _, w, e3, R0.int h2, hK ▸ ha, e4, q _ _ (R0.pushSh rw')⟩ hs
  · split at e
    · obtain ⟨c, e1, e2⟩ := Option.map_eq_some_iff.mp e
      subst e2
      exact ix_str value slice pins s σ H x y v u Q I rx ry ⟨_, _, c, R0.str h1, R0.int h2, by assumption, e1, q _ _ (R.str _)⟩ hs
    · cases e
  · obtain ⟨k, e1, e2⟩ := Option.bind_eq_some_iff.mp e
    obtain ⟨d, e3, e4⟩ := Option.map_eq_some_iff.mp e2
    subst e4
    obtain ⟨a, kvs, e5, ha, ra⟩ := R0.dict h1
    have e6 := R0.key h2 e1
    subst e5 e6
    cases rx
    have z := ra.look k
    rw [e3] at z
    cases e7 : valV kvs k with
    | none => rw [e7] at z; exact z.elim
    | some w =>
      rw [e7] at z
      have g : DGet H a (kV k) (some w) := e7 ▸ DGet.k (k := k) ha
      refine subTail (dict_typeIs I g) PySem.F.slot_dict_getitem.lookup (d_getItem (by omega) I g ry fun w' s3 I3 rw' => ⟨w, H, I3, rw', q _ _ (R0.pushSh z)⟩) hs
  · cases e
end
end Pw
set_option Elab.async false
set_option linter.all false
set_option maxRecDepth 100000
namespace Pw
open PySem PySem.Spec PyProof.Rows L2
/-! ### calls of built-ins by values -/
def rC (K : PySem.W.Frag) (g : D → Option SV) : List V → Hp → VK → Prop := fun xs H Q => ∃ Z src L d r x, xs = [x] ∧ Z.K = K ∧ Rel Z H src L ∧ Has L x d ∧ g d = some r ∧ ∀ v H', Rel Z H' src ((some v, some r) :: L) → Q v H'
def cCall1 (g : D → Option SV) (f : Vw) : Ev := fun s => (f s).bind fun d s1 => Res.opt (g d) s1
section
variable {X : Cx} {Z : Zx} {W : WX} {e a b : Expr} {f fa : Ev} {fb : Vw} {H : Hp} {σ : L2.St} {T T' : List Ent} {s : S} {L : List Ent} {src : Option Src} {O : Addr → Prop} {v : V}
theorem rd_call1 {g : D → Option SV} {Q : VK} (q : LE Z W (cCall1 g fb) σ H Q) : LV Z W fb σ H fun x H1 => rC Z.K g [x] H1 Q := by
  obtain ⟨T, s, R, q⟩ := q
  refine ⟨T, s, R, Res.sat_mono (Res.sat_bind.mp q) (fun d s1 q v H1 T' R1 hv => ?_) fun e s h => h⟩
  obtain ⟨r, e, q⟩ := sat_opt q
  refine ⟨Z, s1.src, _, d, r, v, rfl, rfl, R1.2, hv, e, fun w H2 R2 => q _ _ ⟨R1.1, ?_⟩⟩
  have R3 : Rel Z H2 s1.src ((some w, some r) :: (T' ++ (T ++ List.zip σ s1.sl))) := by simpa using R2
  exact R3.mid
theorem snE_callB {id : String} {x : Str} {p pos : Pos} {g : D → Option SV} (hc : CallR X (.builtin id) (rC X.K g)) (hg : Gl X x) (hm : X.mg x = none) (hv : bootBuiltins x = some (.builtin id)) (ha : SnV X Z W e fb) (hn : x ≠ "__name__" := by decide) (hdb : (x == ("__debug__" : Str)) = false := by decide)
    (he : starEach (e :: []) X.env = (false, eval e X.env) :: starEach [] X.env := by rfl) (hpl : (backTo pos (starEach [] X.env)).any (·.1) = false := by rfl) : SnE X Z W (.Call (.Name x p) [e] [] pos) (cCall1 g fb) := fun k =>
  pe_imp (pe_callB hc hg hm hv (pa_cons (ha k) pa_nil he) hn hdb he hpl) fun σ H Q q => by
    have q := rd_call1 q
    rw [← k] at q
    exact q
theorem snE_callTy {ty : String} {x : Str} {p pos : Pos} {g : D → Option SV} (hc : CallR X (.type ty) (rC X.K g)) (hg : Gl X x) (hm : X.mg x = none) (hv : bootBuiltins x = some (.type ty)) (ha : SnV X Z W e fb) (hn : x ≠ "__name__" := by decide) (hdb : (x == ("__debug__" : Str)) = false := by decide)
    (he : starEach (e :: []) X.env = (false, eval e X.env) :: starEach [] X.env := by rfl) (hpl : (backTo pos (starEach [] X.env)).any (·.1) = false := by rfl) : SnE X Z W (.Call (.Name x p) [e] [] pos) (cCall1 g fb) := fun k =>
  pe_imp (pe_callTy hc hg hm hv (pa_cons (ha k) pa_nil he) hn hdb he hpl) fun σ H Q q => by
    have q := rd_call1 q
    rw [← k] at q
    exact q
end
section
variable {X : Cx} {Z : Zx} {H : Hp} {σ : L2.St} {L : List Ent} {src : Option Src} {O : Addr → Prop} {v : V} {pins : List (Addr × Obj)}
def dLen : D → Option SV
  | .list xs => some (.sh (.int xs.length))
  | .tuple xs => some (.sh (.int xs.length))
  | .dict ds => some (.sh (.int ds.length))
  | .str x => if x.length ≤ sizeLine then some (.sh (.int x.length)) else none
  | _ => none
theorem call_lenR : CallR X (.builtin "len") (rC X.K dLen) := by
  intro pins s σ H xs us Q I rx h
  obtain ⟨Z, src, L, d, r, x, rfl, hK, R, h1, e, q⟩ := h
  obtain ⟨O, R0⟩ := id R
  unfold dLen at e
  split at e
  · cases e
    obtain ⟨a, ys, rfl, ha, ra⟩ := R0.list h1
    exact call_len_seq pins s σ H _ us Q I rx ⟨a, ys, rfl, .inl (SqL.of ha), by rw [ra.length]; exact q _ _ (R.int _)⟩
  · cases e
    obtain ⟨a, ys, rfl, ha, ra⟩ := R0.tuple h1
    exact call_len_seq pins s σ H _ us Q I rx ⟨a, ys, rfl, .inr (hK ▸ ha), by rw [ra.length]; exact q _ _ (R.int _)⟩
  · cases e
    obtain ⟨a, ys, rfl, ha, ra⟩ := R0.dict h1
    exact call_lenD pins s σ H _ us Q I rx ⟨a, ys, rfl, ha, by rw [ra.length]; exact q _ _ (R.int _)⟩
  · split at e
    · cases e
      cases R0.str h1
      exact call_len_str pins s σ H _ us Q I rx ⟨_, rfl, by assumption, q _ _ (R.int _)⟩
    · cases e
  · cases e
/-- the ints, the bools, the texts of a list -/
def dInts : List D → Option (List Int)
  | [] => some []
  | .int i :: r => (dInts r).map (i :: ·)
  | _ => none
def dBools : List D → Option (List Bool)
  | [] => some []
  | .bool i :: r => (dBools r).map (i :: ·)
  | _ => none
theorem RpA.asInts {K} : ∀ {vs : List V} {ds : List D} {ns : List Int}, RpA K H O vs ds → dInts ds = some ns → vs = ns.map V.int
  | _, _, _, .nil, e => by cases e; rfl
  | _, _, _, .cons (d := d) r t, e => by
    cases d <;> try (cases (show (none : Option (List Int)) = some _ from e))
    obtain ⟨ms, e1, rfl⟩ := Option.map_eq_some_iff.mp (show (dInts _).map _ = some _ from e)
    rw [r.int_inv, RpA.asInts t e1]; rfl
theorem RpA.asBools {K} : ∀ {vs : List V} {ds : List D} {ns : List Bool}, RpA K H O vs ds → dBools ds = some ns → vs = ns.map V.bl
  | _, _, _, .nil, e => by cases e; rfl
  | _, _, _, .cons (d := d) r t, e => by
    cases d <;> try (cases (show (none : Option (List Bool)) = some _ from e))
    obtain ⟨ms, e1, rfl⟩ := Option.map_eq_some_iff.mp (show (dBools _).map _ = some _ from e)
    rw [r.bool_inv, RpA.asBools t e1]; rfl
theorem ints_map (ns : List Int) : dInts (ns.map .int) = some ns := by
  induction ns with
  | nil => rfl
  | cons n r ih => simp [dInts, ih]
theorem bools_map (ns : List Bool) : dBools (ns.map .bool) = some ns := by
  induction ns with
  | nil => rfl
  | cons n r ih => simp [dBools, ih]
def dSum : D → Option SV
  | .list xs => (dInts xs).map fun ns => .sh (.int ns.sum)
  | _ => none
theorem call_sumR (hc : X.calm = true) : CallR X (.builtin "sum") (rC X.K dSum) := by
  intro pins s σ H xs us Q I rx h
  obtain ⟨Z, src, L, d, r, x, rfl, hK, R, h1, e, q⟩ := h
  obtain ⟨O, R0⟩ := id R
  unfold dSum at e
  split at e
  · obtain ⟨ns, e1, rfl⟩ := Option.map_eq_some_iff.mp e
    obtain ⟨a, ys, rfl, ha, ra⟩ := R0.list h1
    have e2 := ra.asInts e1
    subst e2
    exact cr_sum hc pins s σ H _ us Q I rx ⟨a, ns, rfl, SqL.of ha, q _ _ (R.int _)⟩
  · cases e
def dAll : D → Option SV
  | .list xs => (dBools xs).map fun ns => .sh (.bool (ns.all id))
  | _ => none
theorem call_allR (hc : X.calm = true) : CallR X (.builtin "all") (rC X.K dAll) := by
  intro pins s σ H xs us Q I rx h
  obtain ⟨Z, src, L, d, r, x, rfl, hK, R, h1, e, q⟩ := h
  obtain ⟨O, R0⟩ := id R
  unfold dAll at e
  split at e
  · obtain ⟨ns, e1, rfl⟩ := Option.map_eq_some_iff.mp e
    obtain ⟨a, ys, rfl, ha, ra⟩ := R0.list h1
    have e2 := ra.asBools e1
    subst e2
    exact cr_all hc pins s σ H _ us Q I rx ⟨a, ns, rfl, SqL.of ha, q _ _ (R.bl _)⟩
  · cases e
def dAny : D → Option SV
  | .list xs => (dBools xs).map fun ns => .sh (.bool (ns.any id))
  | _ => none
theorem call_anyR (hc : X.calm = true) : CallR X (.builtin "any") (rC X.K dAny) := by
  intro pins s σ H xs us Q I rx h
  obtain ⟨Z, src, L, d, r, x, rfl, hK, R, h1, e, q⟩ := h
  obtain ⟨O, R0⟩ := id R
  unfold dAny at e
  split at e
  · obtain ⟨ns, e1, rfl⟩ := Option.map_eq_some_iff.mp e
    obtain ⟨a, ys, rfl, ha, ra⟩ := R0.list h1
    have e2 := ra.asBools e1
    subst e2
    exact cr_any hc pins s σ H _ us Q I rx ⟨a, ns, rfl, SqL.of ha, q _ _ (R.bl _)⟩
  · cases e
def dAbs : D → Option SV
  | .int i => some (.sh (.int (if i < 0 then -i else i)))
  | _ => none
theorem call_absR : CallR X (.builtin "abs") (rC X.K dAbs) := by
  intro pins s σ H xs us Q I rx h
  obtain ⟨Z, src, L, d, r, x, rfl, hK, R, h1, e, q⟩ := h
  obtain ⟨O, R0⟩ := id R
  unfold dAbs at e
  split at e
  · cases e
    cases R0.int h1
    exact call_abs pins s σ H _ us Q I rx ⟨_, rfl, q _ _ (R.int _)⟩
  · cases e
def dInt : D → Option SV
  | .int i => some (.sh (.int i))
  | .bool k => some (.sh (.int (if k then 1 else 0)))
  | .str x => if x.length ≤ 640 then (PySem.intText? x).map fun n => .sh (.int n) else none
  | _ => none
theorem call_intR : CallR X (.type "int") (rC X.K dInt) := by
  intro pins s σ H xs us Q I rx h
  obtain ⟨Z, src, L, d, r, x, rfl, hK, R, h1, e, q⟩ := h
  obtain ⟨O, R0⟩ := id R
  unfold dInt at e
  split at e
  · cases e
    cases R0.int h1
    exact call_int1 pins s σ H _ us Q I rx (.inl ⟨_, rfl, q _ _ (R.int _)⟩)
  · cases e
    cases R0.bl h1
    exact call_int1 pins s σ H _ us Q I rx (.inr ⟨_, rfl, q _ _ (R.int _)⟩)
  · split at e
    · obtain ⟨n, e1, rfl⟩ := Option.map_eq_some_iff.mp e
      cases R0.str h1
      exact call_int_str pins s σ H _ us Q I rx ⟨_, n, rfl, e1, by assumption, q _ _ (R.int _)⟩
    · cases e
  · cases e
def dStr : D → Option SV
  | .int i => if i.natAbs.log2 < 1920 then some (.sh (.str (toString i))) else none
  | .str x => some (.sh (.str x))
  | _ => none
theorem call_strR : CallR X (.type "str") (rC X.K dStr) := by
  intro pins s σ H xs us Q I rx h
  obtain ⟨Z, src, L, d, r, x, rfl, hK, R, h1, e, q⟩ := h
  obtain ⟨O, R0⟩ := id R
  unfold dStr at e
  split at e
  · split at e
    · cases e
      cases R0.int h1
      exact call_str_int pins s σ H _ us Q I rx ⟨_, rfl, by assumption, q _ _ (R.str _)⟩
    · cases e
  · cases e
    cases R0.str h1
    exact SkE.call_str_str pins s σ H _ us Q I rx ⟨_, rfl, q _ _ (R.str _)⟩
  · cases e
theorem Rel.newListOf {p : Addr} {xs : List V} {ds : List D} (R : Rel Z H src L) (hp : H p = none) (h : ∀ O, RelO Z H src L O → RpA Z.K H O xs ds) : Rel Z (upd H p (.lst xs)) src ((some (.ref p), some (.own (.list ds))) :: L) :=
  R.newOwn hp fun O R' => ⟨xs, upd_same, (h O R').keep (fun b x e _ => by rw [upd_ne (ne_of_none e hp)]; exact e) fun b z => Or.elim z .inl fun z => .inr (by rw [z]; exact hp)⟩
theorem Rel.newDictOf {p : Addr} {xs : List (Key × V)} {ds : List (D × D)} (R : Rel Z H src L) (hp : H p = none) (h : ∀ O, RelO Z H src L O → RpD Z.K H O xs ds) : Rel Z (upd H p (.dK xs)) src ((some (.ref p), some (.own (.dict ds))) :: L) :=
  R.newOwn hp fun O R' => ⟨xs, upd_same, (h O R').keep (fun b x e _ => by rw [upd_ne (ne_of_none e hp)]; exact e) fun b z => Or.elim z .inl fun z => .inr (by rw [z]; exact hp)⟩
theorem RelO.listEq (r : RelO Z H src L O) {ds : List D} {a : Addr} {xs : List V} (h : Has L (.ref a) (.list ds)) (e : H a = some (.lst xs)) : RpA Z.K H O xs ds := by
  obtain ⟨b, ys, e1, e2, q⟩ := r.list h
  cases e1
  rw [e] at e2; cases e2
  exact q
theorem RelO.tupEq {s : Shared} (I : Inv X pins σ H s) (r : RelO Z H src L O) (hK : Z.K = X.K) {ds : List D} {a : Addr} {xs : List V} (h : Has L (.ref a) (.tuple ds)) (e : SqT Z.K H a xs) : RpA Z.K H O xs ds := by
  obtain ⟨b, ys, e1, e2, q⟩ := r.tuple h
  cases e1
  rw [hK] at e e2
  cases I.tuple_inj e e2
  exact q
theorem RelO.dictEq (r : RelO Z H src L O) {ds : List (D × D)} {a : Addr} {xs : List (Key × V)} (h : Has L (.ref a) (.dict ds)) (e : H a = some (.dK xs)) : RpD Z.K H O xs ds := by
  obtain ⟨b, ys, e1, e2, q⟩ := r.dict h
  cases e1
  rw [e] at e2; cases e2
  exact q
theorem RelO.shOf (r : RelO Z H src L O) {d : D} {w : V} (h : Has L w d) (n : ∀ a, RpO Z.K H O a d → False) : Rel Z H src ((some w, some (.sh d)) :: L) := by
  rcases r.has h with z | ⟨a, _, z⟩
  · exact r.pushSh z
  · exact (n a z).elim
/-- keys of a dict -/
theorem RpD.keys {K} : ∀ {kvs : List (Key × V)} {ds : List (D × D)}, RpD K H O kvs ds → RpA K H O (kvs.map fun kv => kV kv.1) (ds.map (·.1))
  | _, _, .nil => .nil
  | _, _, .cons (k := k) _ t => .cons (by cases k <;> first | exact .int _ | exact .str _) (RpD.keys t)
theorem RpD.vals {K} : ∀ {kvs : List (Key × V)} {ds : List (D × D)}, RpD K H O kvs ds → RpA K H O (kvs.map (·.2)) (ds.map (·.2))
  | _, _, .nil => .nil
  | _, _, .cons r t => .cons r (RpD.vals t)
def dList : D → Option SV
  | .list xs => some (.own (.list xs))
  | .tuple xs => some (.own (.list xs))
  | .dict ds => some (.own (.list (ds.map (·.1))))
  | _ => none
theorem call_listR (hc : X.calm = true) : CallR X (.type "list") (rC X.K dList) := by
  intro pins s σ H xs us Q I rx h
  obtain ⟨Z, src, L, d, r, x, rfl, hK, R, h1, e, q⟩ := h
  obtain ⟨O, R0⟩ := id R
  unfold dList at e
  split at e
  · cases e
    obtain ⟨a, ys, rfl, ha, ra⟩ := R0.list h1
    exact call_list_of pins s σ H _ us Q I rx ⟨a, ys, rfl, .inl (SqL.of ha), fun l hl => q _ _ (R.newListOf hl fun O' R' => R'.listEq h1 ha)⟩
  · cases e
    obtain ⟨a, ys, rfl, ha, ra⟩ := R0.tuple h1
    exact call_list_of pins s σ H _ us Q I rx ⟨a, ys, rfl, .inr (hK ▸ ha), fun l hl => q _ _ (R.newListOf hl fun O' R' => R'.tupEq I hK h1 ha)⟩
  · cases e
    obtain ⟨a, ys, rfl, ha, ra⟩ := R0.dict h1
    exact call_list_dK hc pins s σ H _ us Q I rx ⟨a, ys, rfl, ha, fun l hl => q _ _ (R.newListOf hl fun O' R' => (R'.dictEq h1 ha).keys)⟩
  · cases e
def dTuple : D → Option SV
  | .list xs => some (.sh (.tuple xs))
  | .tuple xs => some (.sh (.tuple xs))
  | _ => none
theorem call_tupleR : CallR X (.type "tuple") (rC X.K dTuple) := by
  intro pins s σ H xs us Q I rx h
  obtain ⟨Z, src, L, d, r, x, rfl, hK, R, h1, e, q⟩ := h
  obtain ⟨O, R0⟩ := id R
  unfold dTuple at e
  split at e
  · cases e
    obtain ⟨a, ys, rfl, ha, ra⟩ := R0.list h1
    exact call_tuple_of pins s σ H _ us Q I rx ⟨a, ys, rfl, .inl ⟨SqL.of ha, fun l hl => q _ _ (R.newTup hl fun O' R' => R'.listEq h1 ha)⟩⟩
  · cases e
    obtain ⟨a, ys, rfl, ha, ra⟩ := R0.tuple h1
    exact call_tuple_of pins s σ H _ us Q I rx ⟨a, ys, rfl, .inr ⟨hK ▸ ha, q _ _ (R0.shOf h1 fun _ z => z)⟩⟩
  · cases e
/-- pairs of a list -/
def pairsD : List D → Option (List (Key × D))
  | [] => some []
  | .tuple [k, x] :: r => (keyOf k).bind fun k => (pairsD r).map ((k, x) :: ·)
  | _ => none
def dMerge (ds : List (D × D)) (kvs : List (Key × D)) : List (D × D) := kvs.foldl (fun acc kv => dPut acc kv.1 kv.2) ds
theorem RpD.merge {K} : ∀ {kvs : List (Key × V)} {ks : List (Key × D)} {acc : List (Key × V)} {ds : List (D × D)}, Paired (fun (p : Key × V) (q : Key × D) => p.1 = q.1 ∧ Rp K H O p.2 q.2) kvs ks → RpD K H O acc ds → RpD K H O (mergeK acc kvs) (dMerge ds ks) := by
  intro kvs
  induction kvs with
  | nil => intro ks acc ds h r; cases h; exact r
  | cons p kvs ih =>
    intro ks acc ds h r
    cases h with
    | cons h1 h2 =>
      obtain ⟨k, x⟩ := p
      rename_i q _
      obtain ⟨k', d⟩ := q
      cases (h1.1 : k = k')
      have z := ih h2 (r.put k h1.2)
      exact z
theorem pairs_rp {K} : ∀ {vs : List V} {ds : List D} {ks : List (Key × D)}, RpA K H O vs ds → pairsD ds = some ks → ∃ (ps : List Addr) (kvs : List (Key × V)), vs = ps.map V.ref ∧ Paired (fun p kv => SqT K H p [kV kv.1, kv.2]) ps kvs ∧ Paired (fun (p : Key × V) (q : Key × D) => p.1 = q.1 ∧ Rp K H O p.2 q.2) kvs ks
  | _, _, _, .nil, e => by cases e; exact ⟨[], [], rfl, .nil, .nil⟩
  | _, _, _, .cons (d := d) r t, e => by
    unfold pairsD at e
    split at e
    · rename_i z; cases z
    · rename_i k x r' z
      cases z
      obtain ⟨k', e1, e2⟩ := Option.bind_eq_some_iff.mp e
      obtain ⟨ks, e3, rfl⟩ := Option.map_eq_some_iff.mp e2
      obtain ⟨ps, kvs, h1, h2, h3⟩ := pairs_rp t e3
      have fin : ∀ {a : Addr} {xs : List V}, SqT K H a xs → RpA K H O xs [k, x] → ∃ y, SqT K H a [kV k', y] ∧ Rp K H O y x := fun {a xs} q r => by
        cases r with
        | cons r1 r =>
          cases r with
          | cons r2 r =>
            cases r
            rw [kV_of e1 r1] at q
            exact ⟨_, q, r2⟩
      cases r with
      | tup q _ r =>
        obtain ⟨y, h4, h5⟩ := fin (SqT.of q) r
        exact ⟨_ :: ps, (k', y) :: kvs, by rw [h1]; rfl, .cons h4 h2, .cons ⟨rfl, h5⟩ h3⟩
      | tupK e1 e2 e3 e4 e5 r =>
        obtain ⟨y, h4, h5⟩ := fin (.inr ⟨_, _, _, e1, e2, e3, e4, e5⟩) r
        exact ⟨_ :: ps, (k', y) :: kvs, by rw [h1]; rfl, .cons h4 h2, .cons ⟨rfl, h5⟩ h3⟩
    · cases e
def dDict : D → Option SV
  | .list xs => (pairsD xs).map fun ks => .own (.dict (dMerge [] ks))
  | _ => none
theorem call_dictR (hc : X.calm = true) : CallR X (.type "dict") (rC X.K dDict) := by
  intro pins s σ H xs us Q I rx h
  obtain ⟨Z, src, L, d, r, x, rfl, hK, R, h1, e, q⟩ := h
  obtain ⟨O, R0⟩ := id R
  unfold dDict at e
  split at e
  · obtain ⟨ks, e1, rfl⟩ := Option.map_eq_some_iff.mp e
    obtain ⟨a, ys, rfl, ha, ra⟩ := R0.list h1
    obtain ⟨ps, kvs, rfl, h2, h3⟩ := pairs_rp ra e1
    refine call_dictP hc pins s σ H _ us Q I rx ⟨a, ps, kvs, rfl, SqL.of ha, hK ▸ h2, fun p hp => q _ _ (R.newDictOf hp fun O' R' => ?_)⟩
    have ra' := R'.listEq h1 ha
    have fix : ∀ {ps : List Addr} {kvs : List (Key × V)} {ds : List D} {ks : List (Key × D)}, RpA Z.K H O' (ps.map V.ref) ds → pairsD ds = some ks → Paired (fun p kv => SqT Z.K H p [kV kv.1, kv.2]) ps kvs → Paired (fun (p : Key × V) (q : Key × D) => p.1 = q.1 ∧ Rp Z.K H O' p.2 q.2) kvs ks := by
      intro ps kvs ds ks r e h
      obtain ⟨ps', kvs', e1, h2, h3⟩ := pairs_rp r e
      have inj : ∀ {l m : List Addr}, l.map V.ref = m.map V.ref → l = m := fun {l m} h => List.map_inj_right (fun _ _ z => by cases z; rfl) |>.mp h
      cases inj e1
      have same : ∀ {ps : List Addr} {k1 k2 : List (Key × V)}, Paired (fun p kv => SqT Z.K H p [kV kv.1, kv.2]) ps k1 → Paired (fun p kv => SqT Z.K H p [kV kv.1, kv.2]) ps k2 → k1 = k2 := by
        intro ps
        induction ps with
        | nil => intro k1 k2 a b; cases a; cases b; rfl
        | cons p ps ih =>
          intro k1 k2 a b
          cases a with
          | cons a1 a2 =>
            cases b with
            | cons b1 b2 =>
              rw [hK] at a1 b1
              have := I.tuple_inj a1 b1
              simp only [List.cons.injEq, and_true] at this
              rw [ih a2 b2, Prod.ext (kV_inj this.1) this.2]
      rw [same h h2]
      exact h3
    exact RpD.merge (fix ra' e1 h2) .nil
  · cases e
/-! ### repr -/
def dRepr (d : D) : Option SV := if d.showable = true ∧ d.hasDict = false ∧ d.depth ≤ 40 ∧ d.shown.length ≤ sizeLine then some (.sh (.str d.shown)) else none
theorem call_reprR (hu : X.A.units + 64 < cLine) (hg : X.A.guards = some []) : CallR X (.builtin "repr") (rC X.K dRepr) := by
  intro pins s σ H xs us Q I rx h
  obtain ⟨Z, src, L, d, r, x, rfl, hK, R, h1, e, q⟩ := h
  obtain ⟨O, R0⟩ := id R
  unfold dRepr at e
  split at e
  · rename_i hz
    obtain ⟨z1, z2, z3, z4⟩ := hz
    cases e
    obtain ⟨u, rfl, ru⟩ := vals1 rx
    obtain ⟨as, rd⟩ := R0.reads hK I h1 ru
    have fin : ∀ (h' : Heap) (w : Tok) (tk : Nat), (∀ b o, s.heap.get? b = some o → h'.get? b = some o) → EP X pins σ Q (.str d.shown w) { s with heap := h', toks := tk } := fun h' w tk k =>
      ⟨.str _, H, I.kept k, ⟨_, rfl⟩, q _ _ (R.str _)⟩
    have hd : d.hasDict = true → sysModules ∉ as := fun z => by rw [z2] at z; cases z
    cases rd with
    | none => exact PySem.P.repr_of_none (fin s.heap _ _ fun _ _ e => e)
    | bool b => exact PySem.P.repr_of_bool (fin s.heap _ _ fun _ _ e => e)
    | int i t => exact PySem.P.repr_of_int (by simpa [PyData.showable] using z1) (fin s.heap _ _ fun _ _ e => e)
    | str x t => exact PySem.P.repr_of_str (fin s.heap _ _ fun _ _ e => e) z4
    | list a b c d => exact repr_of_reads' (.list a b c d) z1 hd hg (by omega) (fun _ _ e => e) fin z4
    | tuple a b c d => exact repr_of_reads' (.tuple a b c d) z1 hd hg (by omega) (fun _ _ e => e) fin z4
    | dict a b c d e => simp [PyData.hasDict] at z2
  · cases e
end
end Pw
set_option Elab.async false
set_option linter.all false
set_option maxRecDepth 100000
namespace Pw
open PySem PySem.Spec PyProof.Rows L2
section
variable {X : Cx} {Z : Zx} {W : WX} {e a b : Expr} {f fa : Ev} {fb : Vw} {H : Hp} {σ σ' : L2.St} {T T' : List Ent} {s s' : S} {L : List Ent} {src : Option Src} {O : Addr → Prop} {v : V}
/-! ### targets -/
abbrev Tg := SV → S → Option S
abbrev Tgs := List D → S → Option S
/-- other names stay -/
def SameOff (is : List Nat) (σ σ' : L2.St) : Prop := σ'.length = σ.length ∧ ∀ j, j ∉ is → σ'[j]? = σ[j]?
theorem SameOff.trans {is js : List Nat} {σ1 σ2 σ3 : L2.St} (a : SameOff is σ1 σ2) (b : SameOff js σ2 σ3) : SameOff (is ++ js) σ1 σ3 :=
  ⟨b.1.trans a.1, fun j h => by simp only [List.mem_append, not_or] at h; exact (b.2 j h.2).trans (a.2 j h.1)⟩
def LG (Z : Zx) (g : Tg) (is : List Nat) : TG := fun v σ H Q => ∃ T s r s', RelS Z H σ ((some v, some r) :: T) s ∧ g r s = some s' ∧ ∀ σ', RelS Z H σ' T s' → SameOff is σ σ' → Q σ' H
def LGs (Z : Zx) (g : Tgs) (is : List Nat) : TGs := fun vs σ H Q => ∃ T s ds s', RelS Z H σ (ents vs (ds.map .sh) ++ T) s ∧ vs.length = ds.length ∧ g ds s = some s' ∧ ∀ σ', RelS Z H σ' T s' → SameOff is σ σ' → Q σ' H
def SnG (X : Cx) (Z : Zx) (tg : Expr) (g : Tg) (is : List Nat) : Prop := X.K = Z.K → PG X tg (LG Z g is)
def SnGs (X : Cx) (Z : Zx) (tg : List Expr) (g : Tgs) (is : List Nat) (n : Nat) : Prop := (∀ ds s s', g ds s = some s' → ds.length = n) ∧ (X.K = Z.K → PGs X tg (LGs Z g is))
theorem pg_imp {tg : Expr} {t t' : TG} (h : PG X tg t) (i : ∀ v σ H Q, t' v σ H Q → t v σ H Q) : PG X tg t' := ⟨fun pins s σ H v u Q I r q => h.run pins s σ H v u Q I r (i v σ H Q q)⟩
theorem pgs_imp {tg : List Expr} {t t' : TGs} (h : PGs X tg t) (i : ∀ v σ H Q, t' v σ H Q → t v σ H Q) : PGs X tg t' := ⟨fun pins s σ H v u Q I r q => h.run pins s σ H v u Q I r (i v σ H Q q)⟩
def gNm (i : Nat) : Tg := fun r s => some { s with sl := s.sl.set i (some r) }
def gTp (g : Tgs) : Tg := fun r s => match r with
  | .sh (.tuple ds) => g ds s
  | _ => none
def gsNil : Tgs := fun ds s => match ds with
  | [] => some s
  | _ => none
def gsCons (f : Tg) (g : Tgs) : Tgs := fun ds s => match ds with
  | d :: ds => (f (.sh d) s).bind (g ds)
  | [] => none
theorem RelS.put {i : Nat} {r : SV} (R : RelS Z H σ ((some v, some r) :: T) s) : RelS Z H (σ.set i (some v)) T { s with sl := s.sl.set i (some r) } :=
  ⟨by simpa using R.1, Rel.putSlot (i := i) R.2 R.1⟩
theorem snG_nm {tg : Expr} {i : Nat} (h : PG X tg (gName i)) : SnG X Z tg (gNm i) [i] := fun _ => pg_imp h fun v σ H Q ⟨T, s, r, s', R, e, q⟩ => by
  cases e
  exact q _ R.put ⟨by simp, fun j hj => by rw [List.getElem?_set_ne (by simpa using Ne.symm (by simpa using hj))]⟩
theorem snGs_nil : SnGs X Z [] gsNil [] 0 := ⟨fun ds s s' e => (by cases ds <;> first | rfl | cases e), fun _ => pgs_imp pgs_nil fun vs σ H Q ⟨T, s, ds, s', R, hl, e, q⟩ => by
  cases ds with
  | nil =>
    cases e
    cases vs with
    | nil => exact ⟨rfl, q _ R ⟨rfl, fun _ _ => rfl⟩⟩
    | cons v vs => simp at hl
  | cons d ds => cases e⟩
theorem snGs_cons {tg : Expr} {ts : List Expr} {g : Tg} {gs : Tgs} {is js : List Nat} {n : Nat} (h1 : SnG X Z tg g is) (h2 : SnGs X Z ts gs js n) (hs : (assignEach (tg :: ts) X.env).map (·.2) = assign tg X.env :: (assignEach ts X.env).map (·.2) := by rfl) : SnGs X Z (tg :: ts) (gsCons g gs) (is ++ js) (n + 1) := ⟨fun ds s s' e => (by
  cases ds with
  | nil => cases e
  | cons d ds =>
    obtain ⟨s1, _, e2⟩ := Option.bind_eq_some_iff.mp e
    rw [List.length_cons, h2.1 _ _ _ e2]), fun k => pgs_imp (pgs_cons (h1 k) (h2.2 k) hs) fun vs σ H Q ⟨T, s, ds, s', R, hl, e, q⟩ => by
  cases ds with
  | nil => cases e
  | cons d ds =>
    cases vs with
    | nil => simp at hl
    | cons v vs =>
      obtain ⟨s1, e1, e2⟩ := Option.bind_eq_some_iff.mp e
      exact ⟨v, vs, rfl, ents vs (ds.map .sh) ++ T, s, .sh d, s1, R, e1, fun σ1 R1 o1 => ⟨T, s1, ds, s', R1, by simpa using hl, e2, fun σ2 R2 o2 => q σ2 R2 (o1.trans o2)⟩⟩⟩
theorem rel_ents {K} : ∀ {vs : List V} {ds : List D}, RpA K H O vs ds → ∀ e ∈ ents vs (ds.map .sh), ∃ v d, e = (some v, some (.sh d)) ∧ Rp K H O v d
  | _, _, .nil, e, h => by simp [ents] at h
  | _, _, .cons r t, e, h => by
    simp only [ents, List.map_cons, List.zip_cons_cons, List.mem_cons] at h
    rcases h with rfl | h
    · exact ⟨_, _, rfl, r⟩
    · exact rel_ents t e (by simpa [ents] using h)
theorem RelO.pushN : ∀ {E : List Ent}, RelO Z H src L O → (∀ e ∈ E, ∃ v d, e = (some v, some (.sh d)) ∧ Rp Z.K H O v d) → RelO Z H src (E ++ L) O
  | [], r, _ => r
  | e :: E, r, h => by
    obtain ⟨v, d, rfl, q⟩ := h e List.mem_cons_self
    exact (RelO.pushN r fun e he => h e (List.mem_cons_of_mem _ he)).push mild_sh fun s z => ⟨v, rfl, by cases z; exact q⟩
theorem snG_tp {ts : List Expr} {k0 : Nat} {pos : Pos} {gs : Tgs} {n : Nat} {is : List Nat} (hc : X.calm = true) (h : SnGs X Z ts gs is n) (hn : (assignEach ts X.env).length = n := by rfl) (hst : (assignEach ts X.env).findIdx? (·.1) = none := by rfl) : SnG X Z (.Tuple ts k0 pos) (gTp gs) is := fun k => pg_imp (pg_tup hc (h.2 k) hn hst) fun v σ H Q ⟨T, s, r, s', R, e, q⟩ => by
  unfold gTp at e
  split at e
  · rename_i ds
    obtain ⟨O, R0⟩ := R.2
    obtain ⟨a, xs, e1, ha, ra⟩ := R0.tuple (v := v) ⟨_, List.mem_cons_self, rfl⟩
    refine ⟨a, xs, e1, k ▸ ha, by rw [ra.length]; exact h.1 _ _ _ e, T, s, ds, s', ⟨R.1, O, ?_⟩, ra.length, e, q⟩
    obtain ⟨O', z⟩ := R.pop.2
    have R1 : RelO Z H s.src (T ++ List.zip σ s.sl) O := ⟨R0.oc, fun e he => R0.ent e (List.mem_cons_of_mem _ he), (List.pairwise_cons.mp R0.ap).2, R0.src, R0.base, R0.live⟩
    rw [List.append_assoc]
    exact R1.pushN (rel_ents ra)
  · cases e
/-! ### statements -/
theorem LS_of {f : Sm} {D : Ends} (q : LS Z W f D σ H) : ∃ T s, RelS Z H σ T s ∧ (f s).sat (FlP Z T D) (ExS Z T W) := q
def cAsg (f : Ev) (g : Tg) : Sm := fun s => (f s).bind fun r s1 => match g r s1 with
  | some s2 => .ok .nx s2
  | none => .err
theorem rd_asg {g : Tg} {is : List Nat} {D : Ends} (q : LS Z W (cAsg f g) D σ H) : tAsg (LE Z W f) (LG Z g is) D σ H := by
  obtain ⟨T, s, R, q⟩ := q
  refine ⟨T, s, R, Res.sat_mono (Res.sat_bind.mp q) (fun r s1 q v H1 R1 => ?_) fun e s h => h σ⟩
  cases e : g r s1 with
  | none => rw [e] at q; exact q.elim
  | some s2 => rw [e] at q; exact ⟨T, s1, r, s2, R1, e, fun σ' R2 _ => q _ _ R2⟩
theorem snS_asg {tg : Expr} {pos} {g : Tg} {is : List Nat} (he : SnE X Z W e f) (hg : SnG X Z tg g is) (hs : swapsWithSole [tg] e pos.line X.env = pure false := by rfl) (hw : swappedStores [tg] e X.env = pure none := by rfl)
    (h1 : (assignEach [tg] X.env).map (·.2) = [assign tg X.env] := by rfl) : SnS X Z W (.Assign [tg] e pos) (cAsg f g) := fun k => ps_imp (ps_asg (he k) (hg k) hs hw h1) fun D σ H q => rd_asg q
theorem snS_set {i : Nat} {x : Str} {pos pos' : Pos} (hN : X.N.Nodup) (hi : X.N[i]? = some x) (hx : Loc X.env.scope x) (he : SnE X Z W e f) (hs : swapsWith e (some (.Name x pos')) pos.line X.env = pure false := by rfl) (hf : X.fn x = true ∨ X.env.scope.names.lookup x = some .local := by first | exact .inl rfl | exact .inr rfl | assumption) : SnS X Z W (.Assign [.Name x pos'] e pos) (cAsg f (gNm i)) := fun k =>
  ps_imp (ps_set hN hi hx (he k) hs hf) fun D σ H q => by
    obtain ⟨T, s, R, q⟩ := q
    exact ⟨T, s, R, Res.sat_mono (Res.sat_bind.mp q) (fun r s1 q v H1 R1 => q _ _ R1.put) fun e s h => h σ⟩
/-- several names at once -/
def cConsR (f : Ev) (g : Ag) : Ag := fun s => (f s).bind fun r s1 => (g s1).bind fun rs s2 => .ok (r :: rs) s2
theorem snA_consR {es : List Expr} {g : Ag} (h : SnE X Z W e f) (hr : SnA X Z W es g) (hs : starEach (e :: es) X.env = (false, eval e X.env) :: starEach es X.env := by rfl) : SnA X Z W (e :: es) (cConsR f g) := fun k => pa_imp (pa_cons (h k) (hr k) hs) fun σ H Q ⟨T, s, R, q⟩ => by
  refine ⟨T, s, R, ?_⟩
  refine Res.sat_mono (Res.sat_bind.mp q) (fun r s1 q v H1 R1 => ?_) fun e s h => h
  refine ⟨(some v, some r) :: T, s1, R1, ?_⟩
  refine Res.sat_mono (Res.sat_bind.mp q) (fun rs s2 q vs H2 hl R2 => ?_) fun e s h dd H' R' => h dd H' ?_
  · exact q (v :: vs) H2 (by simpa using hl) (R2.perm List.perm_middle)
  · exact ⟨R'.1, (R'.perm (List.Perm.swap _ _ _)).pop.2⟩
def setMany {α : Type} : List (Option α) → List Nat → List α → List (Option α)
  | l, i :: is, v :: vs => setMany (l.set i (some v)) is vs
  | l, _, _ => l
def cPar (is : List Nat) (g : Ag) : Sm := fun s => (g s).bind fun rs s1 => if is.length = rs.length then .ok .nx { s1 with sl := setMany s1.sl is rs } else .err
theorem RelS.putMany : ∀ {is : List Nat} {vs : List V} {rs : List SV} {σ : L2.St} {s : S}, vs.length = rs.length → RelS Z H σ (ents vs rs ++ T) s → RelS Z H (setMany σ is vs) T { s with sl := setMany s.sl is rs }
  | [], vs, rs, σ, s, hl, R => by unfold setMany; exact RelS.popN R
  | i :: is, [], [], σ, s, hl, R => by unfold setMany; exact R
  | i :: is, v :: vs, r :: rs, σ, s, hl, R => by
    unfold setMany
    have R1 := RelS.put (i := i) (show RelS Z H σ ((some v, some r) :: (ents vs rs ++ T)) s from R)
    exact RelS.putMany (s := { s with sl := s.sl.set i (some r) }) (by simpa using hl) R1
  | i :: is, [], r :: rs, σ, s, hl, R => by simp at hl
  | i :: is, v :: vs, [], σ, s, hl, R => by simp at hl
theorem snS_par2 {i j : Nat} {x y : Str} {g : Ag} {px py pt pos : Pos} {kt k2 pt2} (hc : X.calm = true) (hN : X.N.Nodup) (hi : X.N[i]? = some x) (hj : X.N[j]? = some y) (hij : i ≠ j) (hx : X.env.scope.names.lookup x = some .local) (hy : X.env.scope.names.lookup y = some .local) (ha : SnA X Z W [a, b] g)
    (hw : swappedStores [.Tuple [.Name x px, .Name y py] kt pt] (.Tuple [a, b] k2 pt2) X.env = pure (some [x, y])) (hs : swapsWithSole [.Tuple [.Name x px, .Name y py] kt pt] (.Tuple [a, b] k2 pt2) pos.line X.env = pure false := by rfl) :
    SnS X Z W (.Assign [.Tuple [.Name x px, .Name y py] kt pt] (.Tuple [a, b] k2 pt2) pos) (cPar [i, j] g) := fun k => ps_imp (ps_par hc hN hi hj hij hx hy (ha k) hw hs) fun D σ H ⟨T, s, R, q⟩ => by
  refine ⟨T, s, R, Res.sat_mono (Res.sat_bind.mp q) (fun rs s1 q vs H1 hl R1 => ?_) fun e s h => h σ⟩
  split at q
  · rename_i hr
    have R2 := R1.putMany (is := [i, j]) hl
    match vs, hl, R2 with
    | [v, w], _, R2 => exact ⟨v, w, rfl, q _ _ R2⟩
    | [], hl, _ => simp [← hr] at hl
    | [_], hl, _ => simp [← hr] at hl
    | _ :: _ :: _ :: _, hl, _ => simp [← hr] at hl
  · exact q.elim
theorem snS_par3 {i j l : Nat} {x y z : Str} {c : Expr} {g : Ag} {px py pz pt pos : Pos} {kt k2 pt2} (hc : X.calm = true) (hN : X.N.Nodup) (hi : X.N[i]? = some x) (hj : X.N[j]? = some y) (hl' : X.N[l]? = some z) (hij : i ≠ j) (hil : i ≠ l) (hjl : j ≠ l) (hx : X.env.scope.names.lookup x = some .local) (hy : X.env.scope.names.lookup y = some .local) (hz : X.env.scope.names.lookup z = some .local) (ha : SnA X Z W [a, b, c] g)
    (hw : swappedStores [.Tuple [.Name x px, .Name y py, .Name z pz] kt pt] (.Tuple [a, b, c] k2 pt2) X.env = pure (some [x, y, z])) (hs : swapsWithSole [.Tuple [.Name x px, .Name y py, .Name z pz] kt pt] (.Tuple [a, b, c] k2 pt2) pos.line X.env = pure false := by rfl) :
    SnS X Z W (.Assign [.Tuple [.Name x px, .Name y py, .Name z pz] kt pt] (.Tuple [a, b, c] k2 pt2) pos) (cPar [i, j, l] g) := fun k => ps_imp (ps_par3 hc hN hi hj hl' hij hil hjl hx hy hz (ha k) hw hs) fun D σ H ⟨T, s, R, q⟩ => by
  refine ⟨T, s, R, Res.sat_mono (Res.sat_bind.mp q) (fun rs s1 q vs H1 hl R1 => ?_) fun e s h => h σ⟩
  split at q
  · rename_i hr
    have R2 := R1.putMany (is := [i, j, l]) hl
    match vs, hl, R2 with
    | [v, w, u], _, R2 => exact ⟨v, w, u, rfl, q _ _ R2⟩
    | [], hl, _ => simp [← hr] at hl
    | [_], hl, _ => simp [← hr] at hl
    | [_, _], hl, _ => simp [← hr] at hl
    | _ :: _ :: _ :: _ :: _, hl, _ => simp [← hr] at hl
  · exact q.elim
/-- .. where a tuple is made: the targets are names -/
def PGn (X : Cx) (ts : List Expr) (is : List Nat) : Prop := PGs X ts (fun vs σ H Q => vs.length = is.length ∧ Q (setMany σ is vs) H)
theorem pgn_nil : PGn X [] [] := pgs_imp pgs_nil fun vs σ H Q ⟨h, q⟩ => by
  cases vs with
  | nil => exact ⟨rfl, q⟩
  | cons v vs => simp at h
theorem pgn_cons {tg : Expr} {ts : List Expr} {i : Nat} {is : List Nat} (h : PG X tg (gName i)) (hr : PGn X ts is) (hs : (assignEach (tg :: ts) X.env).map (·.2) = assign tg X.env :: (assignEach ts X.env).map (·.2) := by rfl) : PGn X (tg :: ts) (i :: is) := pgs_imp (pgs_cons h hr hs) fun vs σ H Q ⟨h, q⟩ => by
  cases vs with
  | nil => simp at h
  | cons v vs => exact ⟨v, vs, rfl, by simpa using h, q⟩
theorem snS_parT {ts es : List Expr} {is : List Nat} {g : Ag} {kt k2 : Nat} {pt pt2 pos : Pos} (hc : X.calm = true) (hg : PGn X ts is) (ha : SnA X Z W es g) (hw : swappedStores [.Tuple ts kt pt] (.Tuple es k2 pt2) X.env = pure none := by rfl) (hs : swapsWithSole [.Tuple ts kt pt] (.Tuple es k2 pt2) pos.line X.env = pure false := by rfl)
    (h1 : (assignEach [.Tuple ts kt pt] X.env).map (·.2) = [assign (.Tuple ts kt pt) X.env] := by rfl) (hn : (assignEach ts X.env).length = is.length := by rfl) (hst : (assignEach ts X.env).findIdx? (·.1) = none := by rfl) (hz : is.length ≤ 100 := by decide) :
    SnS X Z W (.Assign [.Tuple ts kt pt] (.Tuple es k2 pt2) pos) (cPar is g) := fun k => ps_imp (ps_asg (pe_tup (ha k)) (pg_tup hc hg hn hst) hs hw h1) fun D σ H ⟨T, s, R, q⟩ => by
  refine ⟨T, s, R, Res.sat_mono (Res.sat_bind.mp q) (fun rs s1 q vs H1 hl R1 => ?_) fun e s h => h σ⟩
  split at q
  · rename_i hr
    refine ⟨by rw [hl, ← hr, sizeLine_eq]; omega, fun p hp => ⟨p, vs, rfl, SqT.of upd_same, by rw [hl, hr], by rw [hl, hr], q _ _ ?_⟩⟩
    obtain ⟨O, R0⟩ := R1.2
    exact RelS.putMany hl ⟨R1.1, O, R0.new hp⟩
  · exact q.elim
/-- names op= -/
def cAug (g : D → D → Option SV) (i : Nat) (fb : Vw) : Sm := fun s => match s.sl[i]? with
  | some (some _) => (fb s).bind fun d2 s2 => match datAt s2 i with
    | some d1 => match g d1 d2 with
      | some r => .ok .nx { s2 with sl := s2.sl.set i (some r) }
      | none => .err
    | none => .err
  | _ => .err
theorem snS_aug {i : Nat} {x : Str} {op : Operator} {g : D → D → Option SV} {pos pos' : Pos} (ho : OpR X (inplaceOp op) (rD X.K g)) (hN : X.N.Nodup) (hi : X.N[i]? = some x) (hx : Loc X.env.scope x) (he : SnV X Z W e fb) (hf : X.fn x = true ∨ X.env.scope.names.lookup x = some .local := by first | exact .inl rfl | exact .inr rfl | assumption) :
    SnS X Z W (.AugAssign (.Name x pos') op e pos) (cAug g i fb) := fun k => ps_imp (ps_aug (ti := rD X.K g) hN hi hx (he k) ho hf) fun D σ H ⟨T, s, R, q⟩ => by
  unfold cAug at q
  split at q
  · rename_i r e
    obtain ⟨v, hv, hm⟩ := R.slot e
    refine ⟨v, hv, T, s, R, Res.sat_mono (Res.sat_bind.mp q) (fun d2 s2 q v2 H2 T' R2 hv2 => ?_) fun e s h => h σ⟩
    cases e1 : datAt s2 i with
    | none => rw [e1] at q; exact q.elim
    | some d1 =>
      rw [e1] at q
      cases e3 : g d1 d2 with
      | none => simp only [e3] at q; exact q.elim
      | some r3 =>
        simp only [e3] at q
        obtain ⟨v', hv', hh⟩ := R2.datAt e1
        rw [hv] at hv'; cases hv'
        refine ⟨Z, s2.src, _, d1, d2, r3, k.symm, R2.2, hh, hv2, e3, fun v3 H3 R3 => q _ _ (RelS.put ⟨R2.1, ?_⟩)⟩
        have R4 : Rel Z H3 s2.src ((some v3, some r3) :: (T' ++ (T ++ List.zip σ s2.sl))) := by simpa using R3
        exact R4.mid
  · exact q.elim
def dAddI : D → D → Option SV
  | .int i, .int j => some (.sh (.int (i + j)))
  | _, _ => none
theorem opR_iaddI : OpR X (inplaceOp .Add) (rD X.K dAddI) := by
  intro pins s σ H x y v u Q I rx ry h
  obtain ⟨Z, src, L, d1, d2, r, hK, R, h1, h2, e, q⟩ := h
  obtain ⟨O, R0⟩ := id R
  unfold dAddI at e
  split at e
  · cases e
    exact iop_add pins s σ H x y v u Q I rx ry ⟨_, _, R0.int h1, R0.int h2, q _ _ (R.int _)⟩
  · cases e
theorem opR_isub : OpR X (inplaceOp .Sub) (rD X.K dSub) := by
  intro pins s σ H x y v u Q I rx ry h
  obtain ⟨Z, src, L, d1, d2, r, hK, R, h1, h2, e, q⟩ := h
  obtain ⟨O, R0⟩ := id R
  unfold dSub at e
  split at e
  · cases e
    exact iop_sub pins s σ H x y v u Q I rx ry ⟨_, _, R0.int h1, R0.int h2, q _ _ (R.int _)⟩
  · cases e
/-! ### o[i] = v -/
def dSet : D → D → D → Option D
  | .list xs, .int k, x => (ixN xs.length k).map fun j => .list (xs.set j x)
  | .dict ds, k, x => (keyOf k).bind fun k => if ds.length < sizeLine then some (.dict (dPut ds k x)) else none
  | _, _, _ => none
def rSt (K : PySem.W.Frag) : TSet := fun o i v H Q => ∃ Z src L a dO dI dV dO', Z.K = K ∧ o = .ref a ∧ Rel Z H src ((some (.ref a), some (.own dO)) :: L) ∧ Has ((some (.ref a), some (.own dO)) :: L) i dI ∧ (some v, some (.sh dV)) ∈ L ∧ dSet dO dI dV = some dO' ∧ ∀ H', Rel Z H' src ((some (.ref a), some (.own dO')) :: L) → Q H'
theorem psetR (hu : X.A.units + 64 < cLine) : PSet X (rSt X.K) := by
  intro pins s σ H o i v ov iv u Q I ro ri rv h
  obtain ⟨Z, src, L, a, dO, dI, dV, dO', hK, rfl, R, h1, h2, e, q⟩ := h
  obtain ⟨O, R0⟩ := id R
  have hv : ∀ O, RelO Z H src ((some (.ref a), some (.own dO)) :: L) O → Rp Z.K H O v dV := fun O R0 => by
    obtain ⟨w, e1, z⟩ := R0.ent _ (List.mem_cons_of_mem _ h2) _ rfl
    cases e1; exact z
  have hi := h1
  have step : ∀ O, RelO Z H src ((some (.ref a), some (.own dO)) :: L) O → O a → ∀ o', ∀ b x, H b = some x → ¬ O b → upd H a o' b = some x := fun O R0 oa o' b x e n => by
    rw [upd_ne (fun z => n (by rw [z]; exact oa))]; exact e
  unfold dSet at e
  split at e
  · obtain ⟨j, e1, rfl⟩ := Option.map_eq_some_iff.mp e
    obtain ⟨b, xs, e2, ha, ra⟩ := R0.list (v := .ref a) ⟨_, List.mem_cons_self, rfl⟩
    cases e2
    refine set_list pins s σ H _ i v ov iv u Q I ro ri rv ⟨a, xs, _, j, rfl, R0.int hi, ha, by rw [ra.length]; exact e1, q _ (R.updOwn fun O' R' rO oa => ?_)⟩
    obtain ⟨ys, e3, ry⟩ := rO
    rw [ha] at e3; cases e3
    exact ⟨_, upd_same, (ry.set j (hv O' R')).keep (step O' R' oa _) fun _ z => .inl z⟩
  · obtain ⟨k, e1, e2⟩ := Option.bind_eq_some_iff.mp e
    split at e2
    · rename_i hz
      cases e2
      obtain ⟨b, xs, e2, ha, ra⟩ := R0.dict (v := .ref a) ⟨_, List.mem_cons_self, rfl⟩
      cases e2
      have ek := R0.key hi e1
      subst ek
      refine set_dict (by omega) pins s σ H _ _ v ov iv u Q I ro ri rv ⟨a, _, rfl, DPut.k ha (by rw [ra.length]; exact hz), q _ (R.updOwn fun O' R' rO oa => ?_)⟩
      obtain ⟨ys, e3, ry⟩ := rO
      rw [ha] at e3; cases e3
      exact ⟨_, upd_same, (ry.put k (hv O' R')).keep (step O' R' oa _) fun _ z => .inl z⟩
    · cases e2
  · cases e
theorem mem_zip_set {α β : Type} : ∀ {l : List α} {m : List β} {i : Nat} {x : α × β} {a : α} {b c : β}, x ∈ List.zip l m → l[i]? = some a → m[i]? = some b → x = (a, b) ∨ x ∈ List.zip l (m.set i c)
  | [], m, i, x, a, b, c, h, _, _ => by simp at h
  | _ :: _, [], i, x, a, b, c, h, _, _ => by simp at h
  | p :: l, q :: m, 0, x, a, b, c, h, e1, e2 => by
    simp at e1 e2 h
    subst e1 e2
    rcases h with h | h
    · exact .inl h
    · exact .inr (by simp [h])
  | p :: l, q :: m, i + 1, x, a, b, c, h, e1, e2 => by
    simp at h
    rcases h with h | h
    · exact .inr (by simp [h])
    · rcases mem_zip_set (c := c) h (by simpa using e1) (by simpa using e2) with z | z
      · exact .inl z
      · exact .inr (by simp [z])
theorem mem_takeSlot {sl : List (Option SV)} {i : Nat} {ov : Option V} {os : Option SV} {x : Ent} (h : x ∈ T ++ List.zip σ sl) (h1 : σ[i]? = some ov) (h2 : sl[i]? = some os) : x ∈ (ov, os) :: (T ++ List.zip σ (sl.set i none)) := by
  rcases List.mem_append.mp h with h | h
  · exact List.mem_cons_of_mem _ (List.mem_append_left _ h)
  · rcases mem_zip_set (c := none) h h1 h2 with z | z
    · rw [z]; exact List.mem_cons_self
    · exact List.mem_cons_of_mem _ (List.mem_append_right _ z)
theorem RelS.backSlot {i : Nat} {w : V} {r : SV} {src' : Option Src} {sl : List (Option SV)} (hl : σ.length = sl.length) (hw : σ[i]? = some (some w)) (R : Rel Z H src' ((some w, some r) :: (T ++ List.zip σ (sl.set i none)))) : RelS Z H σ T ⟨sl.set i (some r), src'⟩ := by
  have R1 := Rel.putSlot (i := i) R (by simpa using hl)
  rw [set_id σ i _ hw, List.set_set] at R1
  exact ⟨by simpa using hl, R1⟩
def cSetIx (i : Nat) (fk : Vw) (fv : Ev) : Sm := fun s => (fv s).bind fun r s1 => match r.settle with
  | .sh dV => match s1.sl[i]? with
    | some (some (.own _)) => (fk s1).bind fun dI s2 => match s2.sl[i]? with
      | some (some (.own dO)) => match dSet dO dI dV with
        | some dO' => .ok .nx { s2 with sl := s2.sl.set i (some (.own dO')) }
        | none => .err
      | _ => .err
    | _ => .err
  | _ => .err
theorem snS_setIx {o ix : Expr} {i : Nat} {fk : Vw} {pos pos' : Pos} (hu : X.A.units + 64 < cLine) (ho : PE X o (tVar i)) (hk : SnV X Z W ix fk) (hv : SnE X Z W e f) (hs : swapsWithSole [.Subscript o ix pos'] e pos.line X.env = pure false := by rfl) (hw : swappedStores [.Subscript o ix pos'] e X.env = pure none := by rfl)
    (h1 : (assignEach [.Subscript o ix pos'] X.env).map (·.2) = [assign (.Subscript o ix pos') X.env] := by rfl) (ha : ∀ v, assign (.Subscript o ix pos') X.env v = (do
      let ov ← holding [v] (eval o X.env)
      let iv ← holding [v, ov] (eval ix X.env)
      standAt pos'
      holding [v, ov, iv] (setItem ov iv v)
      release [v, ov, iv] []) := by intro _; rfl) : SnS X Z W (.Assign [.Subscript o ix pos'] e pos) (cSetIx i fk f) := fun k => ps_imp (ps_asg (hv k) (pg_sub ho (hk k) (psetR hu) ha) hs hw h1) fun D σ H ⟨T, s, R, q⟩ => by
  refine ⟨T, s, R, Res.sat_mono (Res.sat_bind.mp q) (fun r s1 q v H1 R1 => ?_) fun e s h => h σ⟩
  split at q
  · rename_i dV er
    have R1 := R1.settleAny
    rw [er] at R1
    split at q
    · rename_i d0 e0
      obtain ⟨w, hw, hm⟩ := R1.slot e0
      refine ⟨w, hw, _, s1, R1, Res.sat_mono (Res.sat_bind.mp q) (fun dI s2 q v2 H2 T' R2 hv2 => ?_) fun e s h dd H' R' => h σ dd H' ⟨R'.1, (R'.perm (List.Perm.swap _ _ _)).pop.2⟩⟩
      split at q
      · rename_i dO e1
        cases e2 : dSet dO dI dV with
        | none => rw [e2] at q; exact q.elim
        | some dO' =>
          rw [e2] at q
          obtain ⟨w', hw', hm'⟩ := R2.slot e1
          rw [hw] at hw'; cases hw'
          have R3 := Rel.takeSlot R2.2 hw e1
          obtain ⟨O, R4⟩ := id R3
          obtain ⟨w1, z1, a, z2, _⟩ := R4.ent _ List.mem_cons_self _ rfl
          cases z1
          subst z2
          obtain ⟨r', hm2, hd⟩ := hv2
          refine ⟨Z, s2.src, _, a, dO, dI, dV, dO', k.symm, rfl, R3, ⟨r', mem_takeSlot hm2 hw e1, hd⟩, by simp, e2, fun H3 R5 => q σ H3 ?_⟩
          have R6 := RelS.backSlot (i := i) R2.1 hw R5
          exact RelS.popN (T' := T' ++ [(some v, some (.sh dV))]) (by simpa using R6)
      · exact q.elim
    · exact q.elim
  · exact q.elim
end
end Pw
set_option Elab.async false
set_option linter.all false
set_option maxRecDepth 100000
namespace Pw
open PySem PySem.Spec PyProof.Rows L2
section
variable {X : Cx} {Z : Zx} {W : WX} {e a b : Expr} {f fa : Ev} {fb : Vw} {H : Hp} {σ σ' : L2.St} {T T' : List Ent} {s s' : S} {L : List Ent} {src : Option Src} {O : Addr → Prop} {v : V}
/-! ### methods -/
def tyD (ty : String) : D → Bool
  | .list _ => ty == "list"
  | .dict _ => ty == "dict"
  | .str _ => ty == "str"
  | _ => false
theorem RelO.ty (r : RelO Z H src L O) {ty : String} {d : D} (h : Has L v d) (e : tyD ty d = true) : tyV Z.K ty v H := by
  cases d <;> simp only [tyD] at e <;> first | (cases e; done) | skip
  · cases r.str h; exact beq_iff_eq.mp e
  · obtain ⟨a, xs, rfl, ha, _⟩ := r.list h
    exact .inl ⟨beq_iff_eq.mp e, xs, SqL.of ha⟩
  · obtain ⟨a, xs, rfl, ha, _⟩ := r.dict h
    exact .inr (.inr (.inl ⟨beq_iff_eq.mp e, .inl ⟨xs, ha⟩⟩))
def AllSh (L : List Ent) (xs : List V) (ds : List D) : Prop := xs.length = ds.length ∧ ∀ e ∈ ents xs (ds.map .sh), e ∈ L
theorem AllSh.rp {xs : List V} {ds : List D} (h : AllSh L xs ds) (r : RelO Z H src L O) : RpA Z.K H O xs ds := by
  obtain ⟨hl, hm⟩ := h
  refine rpA_ents (rs := ds.map .sh) (by simpa using hl) ?_ fun e he => r.ent e (hm e he)
  clear hl hm
  induction ds with
  | nil => rfl
  | cons d ds ih => simp [datas, ih]
theorem datas_sh : ∀ {rs : List SV} {ds : List D}, datas rs = some ds → rs = ds.map .sh
  | [], ds, e => by cases e; rfl
  | r :: rs, ds, e => by
    cases r <;> first | (simp [datas] at e; done) | skip
    simp only [datas, Option.map_eq_some_iff] at e
    obtain ⟨ds', e1, rfl⟩ := e
    rw [datas_sh e1]; rfl
/-- what an owned receiver becomes, what comes back -/
def rM (K : PySem.W.Frag) (g : D → List D → Option (D × SV)) : V → List V → Hp → VK → Prop := fun x xs H Q => ∃ Z src L a dO ds dO' r, Z.K = K ∧ x = .ref a ∧ Rel Z H src ((some (.ref a), some (.own dO)) :: L) ∧ AllSh ((some (.ref a), some (.own dO)) :: L) xs ds ∧ g dO ds = some (dO', r) ∧ ∀ v H', Rel Z H' src ((some v, some r) :: (some (.ref a), some (.own dO')) :: L) → Q v H'
def cMeth (i : Nat) (ty : String) (g : D → List D → Option (D × SV)) (ga : Ag) : Ev := fun s => match s.sl[i]? with
  | some (some (.own d0)) => if tyD ty d0 = true then (ga s).bind fun rs s1 => match s1.sl[i]?, datas rs with
    | some (some (.own dO)), some ds => match g dO ds with
      | some (dO', r) => .ok r { s1 with sl := s1.sl.set i (some (.own dO')) }
      | none => .err
    | _, _ => .err
    else .err
  | _ => .err
theorem rd_meth {i : Nat} {ty : String} {g : D → List D → Option (D × SV)} {ga : Ag} {Q : VK} (q : LE Z W (cMeth i ty g ga) σ H Q) : tBM Z.K ty (rM Z.K g) (tVar i) (LA Z W ga) σ H Q := by
  obtain ⟨T, s, R, q⟩ := q
  unfold cMeth at q
  split at q
  · rename_i d0 e0
    split at q
    · rename_i ht
      obtain ⟨v, hv, hm⟩ := R.slot e0
      obtain ⟨O, R0⟩ := id R.2
      refine ⟨v, hv, R0.ty ⟨_, hm, rfl⟩ ht, T, s, R, Res.sat_mono (Res.sat_bind.mp q) (fun rs s1 q vs H1 hl R1 => ?_) fun e s h => h⟩
      split at q
      · rename_i dO ds e1 e2
        have e3 := datas_sh e2
        subst e3
        cases e4 : g dO ds with
        | none => rw [e4] at q; exact q.elim
        | some p =>
          obtain ⟨dO', r⟩ := p
          rw [e4] at q
          have R3 := Rel.takeSlot R1.2 hv e1
          obtain ⟨O', R4⟩ := id R3
          obtain ⟨w1, z1, a, z2, _⟩ := R4.ent _ List.mem_cons_self _ rfl
          cases z1
          subst z2
          refine ⟨Z, s1.src, _, a, dO, ds, dO', r, rfl, rfl, R3, ⟨by simpa using hl, fun e he => List.mem_cons_of_mem _ (List.mem_append_left _ (List.mem_append_left _ he))⟩, e4, fun w H2 R5 => q w H2 ?_⟩
          have R6 : Rel Z H2 s1.src ((some (.ref a), some (.own dO')) :: (((some w, some r) :: (ents vs (ds.map .sh) ++ T)) ++ List.zip σ (s1.sl.set i none))) := R5.perm (List.Perm.swap _ _ _)
          have R7 := RelS.backSlot (i := i) R1.1 hv R6
          exact RelS.popN (T' := ents vs (ds.map .sh)) (R7.perm (by simpa using List.perm_middle.symm))
      · exact q.elim
    · exact q.elim
  · exact q.elim
theorem snE_meth0 {o : Expr} {i : Nat} {ty id : String} {name : Str} {apos cpos : Pos} {g : D → List D → Option (D × SV)} (pa : PlainAttrs ty) (slot : Slot ty name id) (hty : typeOf (.builtin id) = pure (.type "method_descriptor")) (hm : MtR X id (rM X.K g)) (ho : PE X o (tVar i))
    (hbase : attributeBase o name X.env (eval o X.env) = eval o X.env := by rfl) (hline : (apos.endLine == cpos.line) = true := by rfl) : SnE X Z W (.Call (.Attribute o name apos) [] [] cpos) (cMeth i ty g cNil) := fun k => pe_imp (pe_bm0 pa slot hty hm ho hbase hline) fun σ H Q q => by
  have q := rd_meth q
  rw [← k] at q
  obtain ⟨v, hv, h1, T, s, R, q⟩ := q
  exact ⟨v, hv, h1, q [] H rfl R⟩
theorem snE_meth {o : Expr} {es : List Expr} {i : Nat} {ty id : String} {name : Str} {apos cpos : Pos} {g : D → List D → Option (D × SV)} {ga : Ag} (pa : PlainAttrs ty) (slot : Slot ty name id) (hty : typeOf (.builtin id) = pure (.type "method_descriptor")) (hm : MtR X id (rM X.K g)) (ho : PE X o (tVar i)) (ha : SnA X Z W (e :: es) ga)
    (hbase : attributeBase o name X.env (eval o X.env) = eval o X.env := by rfl)
    (hfew : ((backTo cpos (starEach (e :: es) X.env)).all (fun x => !x.1) && (backToKw cpos (keywordEach [] X.env)).all (fun x => x.1.isSome) && decide ((e :: es).length + ([] : List Keyword).length + (if ([] : List Keyword).isEmpty then 0 else 1) < 30)) = true := by rfl)
    (hline : (apos.endLine == cpos.line) = true := by rfl) (hs : starEach (e :: es) X.env = (false, eval e X.env) :: starEach es X.env := by rfl) (hplain : (backTo cpos (starEach es X.env)).any (·.1) = false := by rfl) : SnE X Z W (.Call (.Attribute o name apos) (e :: es) [] cpos) (cMeth i ty g ga) := fun k =>
  pe_imp (pe_bm pa slot hty hm ho (ha k) hbase hfew hline hs hplain) fun σ H Q q => by
    have q := rd_meth q
    rw [← k] at q
    exact q
/-- a method that only looks -/
def rMV (K : PySem.W.Frag) (g : D → List D → Option SV) : V → List V → Hp → VK → Prop := fun x xs H Q => ∃ Z src L dO ds r, Z.K = K ∧ Rel Z H src L ∧ Has L x dO ∧ AllSh L xs ds ∧ g dO ds = some r ∧ ∀ v H', Rel Z H' src ((some v, some r) :: L) → Q v H'
def cMethV (i : Nat) (ty : String) (g : D → List D → Option SV) (ga : Ag) : Ev := fun s => match datAt s i with
  | some d0 => if tyD ty d0 = true then (ga s).bind fun rs s1 => match datAt s1 i, datas rs with
    | some dO, some ds => Res.opt (g dO ds) s1
    | _, _ => .err
    else .err
  | none => .err
def cMethE (ty : String) (g : D → List D → Option SV) (f : Ev) (ga : Ag) : Ev := fun s => (f s).bind fun r s0 => match r.dat with
  | some d0 => if tyD ty d0 = true then (ga s0).bind fun rs s1 => match datas rs with
    | some ds => Res.opt (g d0 ds) s1
    | _ => .err
    else .err
  | none => .err
theorem rd_methV {i : Nat} {ty : String} {g : D → List D → Option SV} {ga : Ag} {Q : VK} (q : LE Z W (cMethV i ty g ga) σ H Q) : tBM Z.K ty (rMV Z.K g) (tVar i) (LA Z W ga) σ H Q := by
  obtain ⟨T, s, R, q⟩ := q
  unfold cMethV at q
  split at q
  · rename_i d0 e0
    split at q
    · rename_i ht
      obtain ⟨v, hv, hm⟩ := R.datAt e0
      obtain ⟨O, R0⟩ := id R.2
      refine ⟨v, hv, R0.ty hm ht, T, s, R, Res.sat_mono (Res.sat_bind.mp q) (fun rs s1 q vs H1 hl R1 => ?_) fun e s h => h⟩
      split at q
      · rename_i dO ds e1 e2
        have e3 := datas_sh e2
        subst e3
        obtain ⟨r, e4, q⟩ := sat_opt q
        obtain ⟨v', hv', hm'⟩ := R1.datAt e1
        rw [hv] at hv'; cases hv'
        refine ⟨Z, s1.src, _, dO, ds, r, rfl, R1.2, hm', ⟨by simpa using hl, fun e he => List.mem_append_left _ (List.mem_append_left _ he)⟩, e4, fun w H2 R5 => q w H2 ⟨R1.1, ?_⟩⟩
        have R6 : Rel Z H2 s1.src ((some w, some r) :: (ents vs (ds.map .sh) ++ (T ++ List.zip σ s1.sl))) := by simpa using R5
        exact R6.mid
      · exact q.elim
    · exact q.elim
  · exact q.elim
theorem rd_methE {ty : String} {g : D → List D → Option SV} {ga : Ag} {Q : VK} (q : LE Z W (cMethE ty g f ga) σ H Q) : tBM Z.K ty (rMV Z.K g) (LE Z W f) (LA Z W ga) σ H Q := by
  obtain ⟨T, s, R, q⟩ := q
  refine ⟨T, s, R, Res.sat_mono (Res.sat_bind.mp q) (fun r s0 q v H0 R0 => ?_) fun e s h => h⟩
  cases e0 : r.dat with
  | none => rw [e0] at q; exact q.elim
  | some d0 =>
    simp only [e0] at q
    split at q
    · rename_i ht
      obtain ⟨O, Q0⟩ := id R0.2
      have hm : Has ((some v, some r) :: T ++ List.zip σ s0.sl) v d0 := ⟨r, by simp, e0⟩
      refine ⟨Q0.ty hm ht, _, s0, R0, Res.sat_mono (Res.sat_bind.mp q) (fun rs s1 q vs H1 hl R1 => ?_) fun e s h dd H' R' => h dd H' ⟨R'.1, (R'.perm (List.Perm.swap _ _ _)).pop.2⟩⟩
      split at q
      · rename_i ds e2
        have e3 := datas_sh e2
        subst e3
        obtain ⟨r', e4, q⟩ := sat_opt q
        refine ⟨Z, s1.src, _, d0, ds, r', rfl, R1.2, ⟨r, by simp, e0⟩, ⟨by simpa using hl, fun e he => List.mem_append_left _ (List.mem_append_left _ he)⟩, e4, fun w H2 R5 => q w H2 ⟨R1.1, ?_⟩⟩
        have R6 : Rel Z H2 s1.src ((some w, some r') :: ((ents vs (ds.map .sh) ++ [(some v, some r)]) ++ (T ++ List.zip σ s1.sl))) := by simpa using R5
        exact R6.mid
      · exact q.elim
    · exact q.elim
section
variable {o : Expr} {es : List Expr} {i : Nat} {ty id : String} {name : Str} {apos cpos : Pos} {g : D → List D → Option SV} {ga : Ag}
theorem snE_methV0 (pa : PlainAttrs ty) (slot : Slot ty name id) (hty : typeOf (.builtin id) = pure (.type "method_descriptor")) (hm : MtR X id (rMV X.K g)) (ho : PE X o (tVar i)) (hbase : attributeBase o name X.env (eval o X.env) = eval o X.env := by rfl) (hline : (apos.endLine == cpos.line) = true := by rfl) :
    SnE X Z W (.Call (.Attribute o name apos) [] [] cpos) (cMethV i ty g cNil) := fun k => pe_imp (pe_bm0 pa slot hty hm ho hbase hline) fun σ H Q q => by
  have q := rd_methV q
  rw [← k] at q
  obtain ⟨v, hv, h1, T, s, R, q⟩ := q
  exact ⟨v, hv, h1, q [] H rfl R⟩
theorem snE_methV (pa : PlainAttrs ty) (slot : Slot ty name id) (hty : typeOf (.builtin id) = pure (.type "method_descriptor")) (hm : MtR X id (rMV X.K g)) (ho : PE X o (tVar i)) (ha : SnA X Z W (e :: es) ga) (hbase : attributeBase o name X.env (eval o X.env) = eval o X.env := by rfl)
    (hfew : ((backTo cpos (starEach (e :: es) X.env)).all (fun x => !x.1) && (backToKw cpos (keywordEach [] X.env)).all (fun x => x.1.isSome) && decide ((e :: es).length + ([] : List Keyword).length + (if ([] : List Keyword).isEmpty then 0 else 1) < 30)) = true := by rfl)
    (hline : (apos.endLine == cpos.line) = true := by rfl) (hs : starEach (e :: es) X.env = (false, eval e X.env) :: starEach es X.env := by rfl) (hplain : (backTo cpos (starEach es X.env)).any (·.1) = false := by rfl) : SnE X Z W (.Call (.Attribute o name apos) (e :: es) [] cpos) (cMethV i ty g ga) := fun k =>
  pe_imp (pe_bm pa slot hty hm ho (ha k) hbase hfew hline hs hplain) fun σ H Q q => by
    have q := rd_methV q
    rw [← k] at q
    exact q
theorem snE_methE0 (pa : PlainAttrs ty) (slot : Slot ty name id) (hty : typeOf (.builtin id) = pure (.type "method_descriptor")) (hm : MtR X id (rMV X.K g)) (ho : SnE X Z W o f) (hbase : attributeBase o name X.env (eval o X.env) = eval o X.env := by rfl) (hline : (apos.endLine == cpos.line) = true := by rfl) :
    SnE X Z W (.Call (.Attribute o name apos) [] [] cpos) (cMethE ty g f cNil) := fun k => pe_imp (pe_bm0 pa slot hty hm (ho k) hbase hline) fun σ H Q q => by
  have q := rd_methE q
  rw [← k] at q
  obtain ⟨T, s, R, q⟩ := q
  exact ⟨T, s, R, Res.sat_mono q (fun r s1 q v H1 R1 => let ⟨h1, T2, s2, R2, q2⟩ := q v H1 R1; ⟨h1, q2 [] H1 rfl R2⟩) fun e s h => h⟩
theorem snE_methE (pa : PlainAttrs ty) (slot : Slot ty name id) (hty : typeOf (.builtin id) = pure (.type "method_descriptor")) (hm : MtR X id (rMV X.K g)) (ho : SnE X Z W o f) (ha : SnA X Z W (e :: es) ga) (hbase : attributeBase o name X.env (eval o X.env) = eval o X.env := by rfl)
    (hfew : ((backTo cpos (starEach (e :: es) X.env)).all (fun x => !x.1) && (backToKw cpos (keywordEach [] X.env)).all (fun x => x.1.isSome) && decide ((e :: es).length + ([] : List Keyword).length + (if ([] : List Keyword).isEmpty then 0 else 1) < 30)) = true := by rfl)
    (hline : (apos.endLine == cpos.line) = true := by rfl) (hs : starEach (e :: es) X.env = (false, eval e X.env) :: starEach es X.env := by rfl) (hplain : (backTo cpos (starEach es X.env)).any (·.1) = false := by rfl) : SnE X Z W (.Call (.Attribute o name apos) (e :: es) [] cpos) (cMethE ty g f ga) := fun k =>
  pe_imp (pe_bm pa slot hty hm (ho k) (ha k) hbase hfew hline hs hplain) fun σ H Q q => by
    have q := rd_methE q
    rw [← k] at q
    exact q
end
end
section
variable {X : Cx} {Z : Zx} {H : Hp} {σ : L2.St} {L : List Ent} {src : Option Src} {O : Addr → Prop} {v : V} {pins : List (Addr × Obj)}
/-! ### lists' own methods -/
theorem RelO.ownList (r : RelO Z H src L O) {a : Addr} {ds : List D} (h : (some (V.ref a), some (SV.own (.list ds))) ∈ L) : ∃ xs, H a = some (.lst xs) ∧ RpA Z.K H O xs ds ∧ O a := by
  obtain ⟨w, e1, b, e2, oa, _, _, z⟩ := r.ent _ h _ rfl
  cases e1
  cases e2
  obtain ⟨xs, h1, h2⟩ := z
  exact ⟨xs, h1, h2, oa⟩
theorem RelO.ownDict (r : RelO Z H src L O) {a : Addr} {ds : List (D × D)} (h : (some (V.ref a), some (SV.own (.dict ds))) ∈ L) : ∃ xs, H a = some (.dK xs) ∧ RpD Z.K H O xs ds ∧ O a := by
  obtain ⟨w, e1, b, e2, oa, _, _, z⟩ := r.ent _ h _ rfl
  cases e1
  cases e2
  obtain ⟨xs, h1, h2⟩ := z
  exact ⟨xs, h1, h2, oa⟩
theorem rp_upd {K} {a : Addr} {o : HO} (oa : O a) {w : V} {d : D} (h : Rp K H O w d) : Rp K (upd H a o) O w d := h.keep (fun b x e n => by rw [upd_ne (fun z => n (by rw [z]; exact oa))]; exact e) fun _ z => .inl z
theorem rpA_upd {K} {a : Addr} {o : HO} (oa : O a) {w : List V} {d : List D} (h : RpA K H O w d) : RpA K (upd H a o) O w d := h.keep (fun b x e n => by rw [upd_ne (fun z => n (by rw [z]; exact oa))]; exact e) fun _ z => .inl z
theorem rpD_upd {K} {a : Addr} {o : HO} (oa : O a) {w : List (Key × V)} {d : List (D × D)} (h : RpD K H O w d) : RpD K (upd H a o) O w d := h.keep (fun b x e n => by rw [upd_ne (fun z => n (by rw [z]; exact oa))]; exact e) fun _ z => .inl z
/-- the owned list is another one; what comes back is shared -/
theorem Rel.listTo {a : Addr} {ds ds' : List D} {xs' : List V} {w : V} {d : D} (R : Rel Z H src ((some (.ref a), some (.own (.list ds))) :: L)) (h : ∀ O, RelO Z H src ((some (.ref a), some (.own (.list ds))) :: L) O → RpA Z.K H O xs' ds' ∧ Rp Z.K H O w d) : Rel Z (upd H a (.lst xs')) src ((some w, some (.sh d)) :: (some (.ref a), some (.own (.list ds'))) :: L) := by
  have R1 : Rel Z H src ((some w, some (.sh d)) :: (some (.ref a), some (.own (.list ds))) :: L) := let ⟨O, r⟩ := R; r.pushSh (h O r).2
  have R2 := R1.perm (List.Perm.swap _ _ _)
  have R3 := R2.updOwn (o := .lst xs') (d' := .list ds') fun O' R' z oa => ?_
  · exact R3.perm (List.Perm.swap _ _ _)
  · have Rc : RelO Z H src ((some (.ref a), some (.own (.list ds))) :: L) O' := ⟨R'.oc, fun e he => R'.ent e (by
      rcases List.mem_cons.mp he with rfl | he
      · simp
      · simp [he]), (List.pairwise_cons.mp ((List.Perm.swap (some w, some (SV.sh d)) (some (V.ref a), some (SV.own (.list ds))) L).pairwise_iff (R := Apart) (fun h => h.symm) |>.mp R'.ap)).2, R'.src, R'.base, R'.live⟩
    exact ⟨xs', upd_same, rpA_upd oa (h O' Rc).1⟩
def mAppend : D → List D → Option (D × SV)
  | .list xs, [x] => if xs.length < sizeLine then some (.list (xs ++ [x]), .sh .none) else none
  | _, _ => none
theorem mt_appendR : MtR X "list.append" (rM X.K mAppend) := by
  intro pins s σ H x xs v us Q I rx rs h
  obtain ⟨Z, src, L, a, dO, ds, dO', r, hK, rfl, R, h1, e, q⟩ := h
  obtain ⟨O, R0⟩ := id R
  unfold mAppend at e
  split at e
  · rename_i ys y
    split at e
    · rename_i hz
      cases e
      obtain ⟨zs, ha, ra, oa⟩ := R0.ownList List.mem_cons_self
      have h2 := h1.rp R0
      cases h2 with
      | cons h2 h3 =>
        cases h3
        refine mt_append pins s σ H _ _ v us Q I rx rs ⟨a, zs, _, rfl, rfl, ha, by rw [ra.length]; exact hz, q _ _ (R.listTo fun O' R' => ⟨?_, .non⟩)⟩
        obtain ⟨zs', ha', ra', _⟩ := R'.ownList List.mem_cons_self
        rw [ha] at ha'; cases ha'
        exact ra'.append (h1.rp R')
    · cases e
  · cases e
def mPop : D → List D → Option (D × SV)
  | .list xs, [] => (xs[xs.length - 1]?).map fun y => (.list xs.dropLast, .sh y)
  | .list xs, [.int i] => if 0 ≤ i ∧ i < 2 ^ 63 then (xs[i.toNat]?).map fun y => (.list (xs.eraseIdx i.toNat), .sh y) else none
  | _, _ => none
theorem RpA.dropLast {K} {vs : List V} {ds : List D} (h : RpA K H O vs ds) : RpA K H O vs.dropLast ds.dropLast := by
  rw [List.dropLast_eq_take, List.dropLast_eq_take, h.length]; exact h.take _
theorem mt_popR : MtR X "list.pop" (rM X.K mPop) := by
  intro pins s σ H x xs v us Q I rx rs h
  obtain ⟨Z, src, L, a, dO, ds, dO', r, hK, rfl, R, h1, e, q⟩ := h
  obtain ⟨O, R0⟩ := id R
  have h2 := h1.rp R0
  unfold mPop at e
  split at e
  · obtain ⟨y, e1, e2⟩ := Option.map_eq_some_iff.mp e
    cases e2
    cases h2
    obtain ⟨zs, ha, ra, oa⟩ := R0.ownList List.mem_cons_self
    obtain ⟨w, e3, rw'⟩ := ra.get e1
    refine mt_pop pins s σ H _ _ v us Q I rx rs ⟨a, zs, w, rfl, rfl, ha, by rw [ra.length]; exact e3, q _ _ (R.listTo fun O' R' => ?_)⟩
    obtain ⟨zs', ha', ra', _⟩ := R'.ownList List.mem_cons_self
    rw [ha] at ha'; cases ha'
    obtain ⟨w', e3', rw''⟩ := ra'.get e1
    rw [e3] at e3'; cases e3'
    exact ⟨ra'.dropLast, rw''⟩
  · rename_i i
    split at e
    · rename_i hz
      obtain ⟨y, e1, e2⟩ := Option.map_eq_some_iff.mp e
      cases e2
      obtain ⟨zs, ha, ra, oa⟩ := R0.ownList List.mem_cons_self
      obtain ⟨w, e3, rw'⟩ := ra.get e1
      cases h2 with
      | cons h2 h3 =>
        cases h3
        have e5 := h2.int_inv
        subst e5
        have hlt : i.toNat < zs.length := (List.getElem?_eq_some_iff.mp e3).1
        refine mt_popAt pins s σ H _ _ v us Q I rx rs ⟨a, zs, i, i.toNat, w, rfl, rfl, ha, by omega, hz.2, ?_, e3, q _ _ (R.listTo fun O' R' => ?_)⟩
        · have z : ixN zs.length i = some i.toNat := by unfold ixN; rw [if_pos hz.1, if_pos (by omega)]
          exact (ixN_seq z).1
        · obtain ⟨zs', ha', ra', _⟩ := R'.ownList List.mem_cons_self
          rw [ha] at ha'; cases ha'
          obtain ⟨w', e3', rw''⟩ := ra'.get e1
          rw [e3] at e3'; cases e3'
          exact ⟨ra'.eraseIdx _, rw''⟩
    · cases e
  · cases e
end
end Pw
set_option Elab.async false
set_option linter.all false
set_option maxRecDepth 100000
namespace Pw
open PySem PySem.Spec PyProof.Rows L2
section
variable {X : Cx} {Z : Zx} {W : WX} {e a b tg : Expr} {f fa : Ev} {fb : Vw} {H : Hp} {σ σ' : L2.St} {T T' : List Ent} {s s' : S} {L : List Ent} {src : Option Src} {O : Addr → Prop} {v : V} {c : Tt} {m m1 m2 : Sm}
/-! ### blocks -/
def cSkip : Sm := fun s => .ok .nx s
def cSeq (m1 m2 : Sm) : Sm := fun s => (m1 s).bind fun fl s1 => match fl with
  | .nx => m2 s1
  | fl => .ok fl s1
theorem snB_nil : SnB X Z W [] cSkip := fun _ => pss_imp pss_nil fun D σ H ⟨T, s, R, q⟩ => q σ H R
theorem snB_one {st : Stmt} (h : SnS X Z W st m) : SnB X Z W [st] m := fun k => pss_one (h k)
theorem snB_cons {st : Stmt} {sts : List Stmt} (h : SnS X Z W st m1) (h2 : SnB X Z W sts m2) : SnB X Z W (st :: sts) (cSeq m1 m2) := fun k => pss_imp (pss_cons (h k) (h2 k)) fun D σ H ⟨T, s, R, q⟩ => by
  refine ⟨T, s, R, Res.sat_mono (Res.sat_bind.mp q) (fun fl s1 q => ?_) fun e s h => h⟩
  cases fl with
  | nx => exact fun σ1 H1 R1 => ⟨T, s1, R1, q⟩
  | ret r => exact q
  | bk => exact q
  | ct => exact q
theorem snS_pass {pos} : SnS X Z W (.Pass pos) cSkip := fun _ => ps_imp ps_pass fun D σ H ⟨T, s, R, q⟩ => q σ H R
def cBk : Sm := fun s => .ok .bk s
def cCt : Sm := fun s => .ok .ct s
theorem snS_break {pos} : SnS X Z W (.Break pos) cBk := fun _ => ps_imp ps_break fun D σ H ⟨T, s, R, q⟩ => q σ H R
theorem snS_continue {pos} : SnS X Z W (.Continue pos) cCt := fun _ => ps_imp ps_continue fun D σ H ⟨T, s, R, q⟩ => q σ H R
def cExpr (f : Ev) : Sm := fun s => (f s).bind fun _ s1 => .ok .nx s1
theorem snS_expr {pos} (he : SnE X Z W e f) (hs : swapsWith e none pos.line X.env = pure false := by rfl) : SnS X Z W (.Expr e pos) (cExpr f) := fun k => ps_imp (ps_expr (he k) hs) fun D σ H ⟨T, s, R, q⟩ =>
  ⟨T, s, R, Res.sat_mono (Res.sat_bind.mp q) (fun r s1 q v H1 R1 => q σ H1 R1.pop) fun e s h => h σ⟩
def cRet (f : Ev) : Sm := fun s => (f s).bind fun r s1 => .ok (.ret r) s1
theorem snS_ret {pos} (he : SnE X Z W e f) : SnS X Z W (.Return (some e) pos) (cRet f) := fun k => ps_imp (ps_ret (he k)) fun D σ H ⟨T, s, R, q⟩ =>
  ⟨T, s, R, Res.sat_mono (Res.sat_bind.mp q) (fun r s1 q v H1 R1 => q v σ H1 R1) fun e s h => h σ⟩
theorem snS_retN {pos} : SnS X Z W (.Return none pos) (cRet (cD .none)) := fun k => ps_imp ps_retN fun D σ H ⟨T, s, R, q⟩ => q _ σ H ⟨R.1, R.2.non⟩
def cIfS (c : Tt) (m1 m2 : Sm) : Sm := fun s => (c s).bind fun b s1 => if b = true then m1 s1 else m2 s1
theorem snS_if {t : Expr} {sa sb : List Stmt} {pos} (hc : SnT X Z W t c) (ha : SnB X Z W sa m1) (hb : SnB X Z W sb m2) : SnS X Z W (.If t sa sb pos) (cIfS c m1 m2) := fun k => ps_imp (ps_if (hc k) (ha k) (hb k)) fun D σ H ⟨T, s, R, q⟩ => by
  refine ⟨T, s, R, Res.sat_mono (Res.sat_bind.mp q) (fun b s1 q H1 R1 => ?_) fun e s h => h σ⟩
  cases b with
  | true => exact ⟨T, s1, R1, q⟩
  | false => exact ⟨T, s1, R1, q⟩
/-! ### while -/
def whileL (c : Tt) (m : Sm) : Nat → S → Res Fl
  | 0, _ => .err
  | n + 1, s => (c s).bind fun b s1 => if b = true then (m s1).bind fun fl s2 => match fl with
      | .nx => whileL c m n s2
      | .ct => whileL c m n s2
      | .bk => .ok .nx s2
      | .ret r => .ok (.ret r) s2
    else .ok .nx s1
def FUEL : Nat := 1000000000
def cWhile (c : Tt) (m : Sm) : Sm := fun s => whileL c m FUEL s
theorem snS_while {t : Expr} {body : List Stmt} {pos} (hp : PassesOwn (model X.prog X.w) X.A X.env X.xe) (hc : SnT X Z W t c) (hb : SnB X Z W body m) : SnS X Z W (.While t body [] pos) (cWhile c m) := fun k => ps_imp (ps_while hp (hc k) (hb k)) fun D σ H ⟨T, s, R, q⟩ => by
  refine ⟨fun n σ H => ∃ s, RelS Z H σ T s ∧ (whileL c m n s).sat (FlP Z T D) (ExS Z T W), ⟨FUEL, s, R, q⟩, ?_⟩
  rintro n σ H ⟨s, R, q⟩
  cases n with
  | zero => exact q.elim
  | succ n =>
    refine ⟨T, s, R, Res.sat_mono (Res.sat_bind.mp q) (fun b s1 q H1 R1 => ?_) fun e s h => h σ⟩
    cases b with
    | false => exact q σ H1 R1
    | true =>
      refine ⟨fun σ' H' => ∃ s, RelS Z H' σ' T s ∧ (whileL c m n s).sat (FlP Z T D) (ExS Z T W), fun σ' H' h => ⟨n, Nat.lt_succ_self n, h⟩, T, s1, R1, Res.sat_mono (Res.sat_bind.mp q) (fun fl s2 q => ?_) fun e s h => h⟩
      cases fl with
      | nx => exact fun σ2 H2 R2 => ⟨s2, R2, q⟩
      | ct => exact fun σ2 H2 R2 => ⟨s2, R2, q⟩
      | bk => exact fun σ2 H2 R2 => q σ2 H2 R2
      | ret r => exact q
/-! ### what is walked -/
abbrev Itf := S → Res (List SV)
/-- the iterator gives these, one by one, as long as what is walked stands -/
def JSpecD (Z : Zx) (E : List Ent) (J : It) (ds : List D) : Prop := ∀ H src L, Rel Z H src L → (∀ x ∈ E, x ∈ L) → ∀ i,
  (∀ d, ds[i]? = some d → J.go i H ∧ ∀ x H', J.yld i H x H' → Rel Z H' src ((some x, some (.sh d)) :: L)) ∧ (ds.length ≤ i → J.stop i H)
def JSpec (Z : Zx) (E : List Ent) (J : It) (ds : List SV) : Prop := ∀ H src L, Rel Z H src L → (∀ x ∈ E, x ∈ L) → ∀ i,
  (∀ d, ds[i]? = some d → J.go i H ∧ ∀ x H', J.yld i H x H' → Rel Z H' src ((some x, some d) :: L)) ∧ (ds.length ≤ i → J.stop i H)
def shs (ds : List D) : List SV := ds.map .sh
theorem JSpecD.up {E : List Ent} {J : It} {ds : List D} (h : JSpecD Z E J ds) : JSpec Z E J (shs ds) := fun H src L R hE i => ⟨fun d hd => by
  unfold shs at hd
  rw [List.getElem?_map] at hd
  obtain ⟨c, hc, rfl⟩ := Option.map_eq_some_iff.mp hd
  exact (h H src L R hE i).1 c hc, fun hi => (h H src L R hE i).2 (by simpa [shs] using hi)⟩
def LI (Z : Zx) (W : WX) (f : Itf) : TI := fun σ H R => ∃ T s, RelS Z H σ T s ∧ (f s).sat (fun ds s' => ∀ J H' T', RelS Z H' σ (T' ++ T) s' → JSpec Z T' J ds → R J H') (ExP Z σ T W)
def SnI (X : Cx) (Z : Zx) (W : WX) (tg iter : Expr) (f : Itf) : Prop := X.K = Z.K → PI X tg iter (LI Z W f)
def forL (g : Tg) (m : Sm) : List SV → S → Res Fl
  | [], s => .ok .nx s
  | d :: ds, s => match g d s with
    | none => .err
    | some s1 => (m s1).bind fun fl s2 => match fl with
      | .nx => forL g m ds s2
      | .ct => forL g m ds s2
      | .bk => .ok .nx s2
      | .ret r => .ok (.ret r) s2
def cFor (f : Itf) (g : Tg) (m : Sm) : Sm := fun s => (f s).bind fun ds s1 => forL g m ds s1
theorem drop_at {α : Type} {l : List α} {i : Nat} {d : α} (h : l[i]? = some d) : l.drop i = d :: l.drop (i + 1) := by
  obtain ⟨hi, e⟩ := List.getElem?_eq_some_iff.mp h
  rw [List.drop_eq_getElem_cons hi, e]
theorem FlP.less {D : Ends} {fl : Fl} (T' : List Ent) (q : FlP Z T D fl s) : FlP Z (T' ++ T) D fl s := by
  cases fl with
  | nx => exact fun σ H R => q σ H R.popN
  | bk => exact fun σ H R => q σ H R.popN
  | ct => exact fun σ H R => q σ H R.popN
  | ret r => exact fun v σ H R => q v σ H (RelS.popN (T' := T') (R.perm List.perm_middle.symm))
theorem ExP.less {e : Ex} (T' : List Ent) (q : ExP Z σ T W e s) : ExP Z σ (T' ++ T) W e s := fun dd H R => q dd H (RelS.popN (T' := T') (R.perm List.perm_middle.symm))
theorem snS_for {iter : Expr} {body : List Stmt} {fi : Itf} {g : Tg} {is : List Nat} {pos} (hp : PassesOwn (model X.prog X.w) X.A X.env X.xe) (hc : X.calm = true) (hi : SnI X Z W tg iter fi) (hg : SnG X Z tg g is) (hb : SnB X Z W body m)
    (hs : ∀ x, foldedSetIterable iter X.env x = pure x := by intro _; rfl) : SnS X Z W (.For tg iter body [] pos) (cFor fi g m) := fun k => ps_imp (ps_for hp hc (hi k) (hg k) (hb k) hs) fun D σ H ⟨T, s, R, q⟩ => by
  refine ⟨T, s, R, Res.sat_mono (Res.sat_bind.mp q) (fun ds s1 q J H1 T' R1 hJ => ?_) fun e s h => h σ⟩
  refine ⟨fun i n σ H => ∃ s, i + n = ds.length ∧ RelS Z H σ (T' ++ T) s ∧ (forL g m (ds.drop i) s).sat (FlP Z T D) (ExS Z T W), ⟨ds.length, s1, by simp, R1, q⟩, ?_⟩
  rintro i n σ H ⟨s, en, R, q⟩
  have hJ' := hJ H s.src _ R.2 (fun x hx => List.mem_append_left _ (List.mem_append_left _ hx)) i
  cases e : ds[i]? with
  | none =>
    have hi : ds.length ≤ i := List.getElem?_eq_none_iff.mp e
    rw [List.drop_eq_nil_of_le hi] at q
    exact .inl ⟨hJ'.2 hi, q σ H R.popN⟩
  | some d =>
    rw [drop_at e] at q
    obtain ⟨go, yl⟩ := hJ'.1 d e
    have hi : i < ds.length := (List.getElem?_eq_some_iff.mp e).1
    refine .inr ⟨go, fun σ' H' => ∃ s, RelS Z H' σ' (T' ++ T) s ∧ (forL g m (ds.drop (i + 1)) s).sat (FlP Z T D) (ExS Z T W), fun σ' H' ⟨s, R, q⟩ => ⟨n - 1, by omega, s, by omega, R, q⟩, fun x H' hy => ?_⟩
    unfold forL at q
    cases e2 : g d s with
    | none => rw [e2] at q; exact q.elim
    | some s2 =>
      rw [e2] at q
      refine ⟨T' ++ T, s, d, s2, ⟨R.1, yl x H' hy⟩, e2, fun σ2 R2 _ => ⟨T' ++ T, s2, R2, Res.sat_mono (Res.sat_bind.mp q) (fun fl s3 q => ?_) fun e s h σ => (h σ).less T'⟩⟩
      cases fl with
      | nx => exact fun σ3 H3 R3 => ⟨s3, R3, q⟩
      | ct => exact fun σ3 H3 R3 => ⟨s3, R3, q⟩
      | bk => exact fun σ3 H3 R3 => q σ3 H3 R3.popN
      | ret r => exact FlP.less (fl := .ret r) (D := D) T' q
/-! ### comprehensions -/
def W0 : WX := fun _ _ _ _ => False
def Res.quiet {α : Type} : Res α → Res α
  | .exc _ _ => .err
  | r => r
theorem sat_quiet {α : Type} {r : Res α} {Q : α → S → Prop} {E E' : Ex → S → Prop} (h : r.quiet.sat Q E) : r.sat Q E' := by
  cases r <;> first | exact h | exact h.elim
def cYes : Tt := fun s => .ok true s
def SnTs (X : Cx) (Z : Zx) (W : WX) (ifs : List Expr) (f : Tt) : Prop := X.K = Z.K → PTs X ifs (LT Z W f)
theorem pts_imp {ifs : List Expr} {t t' : TT} (h : PTs X ifs t) (i : ∀ σ H Q, t' σ H Q → t σ H Q) : PTs X ifs t' := ⟨fun pins s σ H Q I q => h.run pins s σ H Q I (i σ H Q q)⟩
theorem snTs_nil : SnTs X Z W [] cYes := fun _ => pts_imp pts_nil fun σ H Q ⟨T, s, R, q⟩ => q H R
theorem snTs_one (h : SnT X Z W e c) : SnTs X Z W [e] c := fun k => pts_one (h k)
def wipeS : List Nat → S → S
  | [], s => s
  | v :: vs, s => { wipeS vs s with sl := (wipeS vs s).sl.set v none }
def backS : List Nat → S → S → S
  | [], _, s => s
  | v :: vs, s0, s => backS vs s0 { s with sl := s.sl.set v (((wipeS vs s0).sl[v]?).join) }
theorem wipeS_src : ∀ (vs : List Nat) (s : S), (wipeS vs s).src = s.src
  | [], _ => rfl
  | v :: vs, s => wipeS_src vs s
theorem RelS.wiped : ∀ (vs : List Nat) {s : S}, RelS Z H σ T s → ∃ E, RelS Z H (wipe σ vs) (E ++ T) (wipeS vs s) ∧ ∀ {H' : Hp} {T2 : List Ent} {s' : S}, RelS Z H' (L2.wipe σ vs) (T2 ++ (E ++ T)) s' → RelS Z H' σ (T2 ++ T) (backS vs s s')
  | [], s, R => ⟨[], R, fun R' => R'⟩
  | v :: vs, s, R => by
    obtain ⟨E, R1, back⟩ := RelS.wiped vs R
    by_cases hv : v < (L2.wipe σ vs).length
    · have h1 : (L2.wipe σ vs)[v]? = some (L2.wipe σ vs)[v] := List.getElem?_eq_getElem hv
      have hv2 : v < (wipeS vs s).sl.length := R1.1 ▸ hv
      have h2 : (wipeS vs s).sl[v]? = some (wipeS vs s).sl[v] := List.getElem?_eq_getElem hv2
      have R2 := Rel.takeSlot R1.2 h1 h2
      have R3 : Rel Z H (wipeS vs s).src ((none, none) :: ((((L2.wipe σ vs)[v], (wipeS vs s).sl[v]) :: (E ++ T)) ++ List.zip (L2.wipe σ vs) ((wipeS vs s).sl.set v none))) := Rel.triv R2
      have R4 := Rel.putSlot (i := v) R3 (by simpa using R1.1)
      rw [List.set_set] at R4
      refine ⟨((L2.wipe σ vs)[v], (wipeS vs s).sl[v]) :: E, ⟨by unfold L2.wipe wipeS; simpa using R1.1, R4⟩, fun {H' T2 s'} R' => ?_⟩
      have R' : RelS Z H' ((L2.wipe σ vs).set v none) (T2 ++ ((((L2.wipe σ vs)[v], (wipeS vs s).sl[v]) :: E) ++ T)) s' := R'
      unfold backS
      refine back (T2 := T2) ?_
      rw [h2]
      have R5 : Rel Z H' s'.src (((L2.wipe σ vs)[v], (wipeS vs s).sl[v]) :: ((T2 ++ (E ++ T)) ++ List.zip ((L2.wipe σ vs).set v none) s'.sl)) := by
        refine R'.2.perm ?_
        simp only [List.append_assoc, List.cons_append]
        exact List.perm_middle
      have R6 := Rel.putSlot (i := v) R5 R'.1
      rw [List.set_set, set_id _ v _ h1] at R6
      exact ⟨by have := R'.1; simpa using this, R6⟩
    · have e1 : (L2.wipe σ vs).set v none = L2.wipe σ vs := List.set_eq_of_length_le (by omega)
      have e2 : (wipeS vs s).sl.set v none = (wipeS vs s).sl := List.set_eq_of_length_le (by rw [← R1.1]; omega)
      refine ⟨E, by unfold L2.wipe wipeS; rw [e1, e2]; exact R1, fun {H' T2 s'} R' => ?_⟩
      unfold L2.wipe at R'
      rw [e1] at R'
      unfold backS
      rw [List.set_eq_of_length_le (by rw [← R'.1]; omega)]
      exact back R'
theorem wipe_at (σ : L2.St) (j : Nat) : ∀ vs : List Nat, (wipe σ vs)[j]? = if j ∈ vs then (if j < σ.length then some none else none) else σ[j]?
  | [] => by simp [wipe]
  | v :: vs => by
    unfold wipe
    by_cases e : v = j
    · subst e
      rw [List.getElem?_set]
      simp [wipe_length]
    · rw [List.getElem?_set_ne e, wipe_at σ j vs]
      simp [Ne.symm e]
theorem wipe_eq {vs is : List Nat} {τ : L2.St} (h : SameOff is (wipe σ vs) τ) (hs : ∀ i ∈ is, i ∈ vs) : wipe τ vs = wipe σ vs := by
  apply List.ext_getElem?
  intro j
  have hl : τ.length = σ.length := h.1.trans (wipe_length _ _)
  rw [wipe_at, wipe_at, hl]
  by_cases hj : j ∈ vs
  · rw [if_pos hj, if_pos hj]
  · rw [if_neg hj, if_neg hj, h.2 j fun z => hj (hs j z), wipe_at, if_neg hj]
theorem RelS.wipeAgain {vs is : List Nat} {τ : L2.St} (R : RelS Z H τ T s) (h : SameOff is (wipe σ vs) τ) (hs : ∀ i ∈ is, i ∈ vs) : RelS Z H (wipe σ vs) T (wipeS vs s) := by
  obtain ⟨E, R1, _⟩ := RelS.wiped vs R
  rw [wipe_eq h hs] at R1
  exact R1.popN
def compL (g : Tg) (c : Tt) (f : Ev) (vs : List Nat) : List SV → List D → S → Res (List D)
  | [], acc, s => .ok acc s
  | d :: ds, acc, s => match g d s with
    | none => .err
    | some s1 => (c s1).quiet.bind fun b s2 => if b = true then (f s2).quiet.bind fun r s3 => match r.settle with
        | .sh x => if acc.length < sizeLine then compL g c f vs ds (acc ++ [x]) (wipeS vs s3) else .err
        | _ => .err
      else compL g c f vs ds acc (wipeS vs s2)
def cComp (fi : Itf) (g : Tg) (c : Tt) (f : Ev) (vs : List Nat) : Ev := fun s => (fi s).bind fun ds s1 => (compL g c f vs ds [] (wipeS vs s1)).quiet.bind fun acc s2 => .ok (.own (.list acc)) (backS vs s1 s2)
theorem wipe_wipe (σ : L2.St) (vs : List Nat) : wipe (wipe σ vs) vs = wipe σ vs := wipe_eq (is := []) ⟨rfl, fun _ _ => rfl⟩ (fun _ h => by cases h)
theorem rd_comp {fi : Itf} {g : Tg} {vs is : List Nat} (hs : ∀ i ∈ is, i ∈ vs) {Q : VK} (q : LE Z W (cComp fi g c f vs) σ H Q) : tLc (LI Z W fi) (LG Z g is) (LT Z W0 c) (LE Z W0 f) vs σ H Q := by
  obtain ⟨T, s, R, q⟩ := q
  refine ⟨T, s, R, Res.sat_mono (Res.sat_bind.mp q) (fun ds s1 q J H1 T' R1 hJ D hD => ?_) fun e s h => h⟩
  obtain ⟨E, R2, back⟩ := RelS.wiped vs R1
  have R3 : RelS Z (upd H1 D (.lst [])) (wipe σ vs) ((some (.ref D), some (.own (.list []))) :: (E ++ (T' ++ T))) (wipeS vs s1) := ⟨R2.1, R2.2.newListOf hD fun O R => .nil⟩
  refine ⟨fun i n H => ∃ s acc, i + n = ds.length ∧ RelS Z H (wipe σ vs) ((some (.ref D), some (.own (.list acc))) :: (E ++ (T' ++ T))) s ∧ (compL g c f vs (ds.drop i) acc s).sat (fun acc s2 => ∀ v H', RelS Z H' σ ((some v, some (.own (.list acc))) :: T) (backS vs s1 s2) → Q v H') (fun _ _ => False), ⟨ds.length, wipeS vs s1, [], by simp, R3, ?_⟩, ?_⟩
  · exact Res.sat_mono (sat_quiet (E' := fun _ _ => False) (Res.sat_bind.mp q)) (fun acc s2 q => q) fun _ _ h => h
  rintro i n H ⟨s, acc, en, R, q⟩
  have hJ' := hJ H s.src _ R.2 (fun x hx => List.mem_append_left _ (List.mem_cons_of_mem _ (List.mem_append_right _ (List.mem_append_left _ hx)))) i
  cases e : ds[i]? with
  | none =>
    have hi : ds.length ≤ i := List.getElem?_eq_none_iff.mp e
    rw [List.drop_eq_nil_of_le hi] at q
    refine .inl ⟨hJ'.2 hi, q _ _ ?_⟩
    have R4 := back (T2 := [(some (.ref D), some (.own (.list acc)))]) R
    exact RelS.popN (T' := T') (R4.perm (by simpa using (List.perm_middle (a := (some (V.ref D), some (SV.own (.list acc)))) (l₁ := T') (l₂ := T)).symm))
  | some d =>
    rw [drop_at e] at q
    obtain ⟨go, yl⟩ := hJ'.1 d e
    have hi : i < ds.length := (List.getElem?_eq_some_iff.mp e).1
    refine .inr ⟨go, fun H' => ∃ s acc, RelS Z H' (wipe σ vs) ((some (.ref D), some (.own (.list acc))) :: (E ++ (T' ++ T))) s ∧ (compL g c f vs (ds.drop (i + 1)) acc s).sat (fun acc s2 => ∀ v H', RelS Z H' σ ((some v, some (.own (.list acc))) :: T) (backS vs s1 s2) → Q v H') (fun _ _ => False), fun H' ⟨s, acc, R, q⟩ => ⟨n - 1, by omega, s, acc, by omega, R, q⟩, fun x H' hy => ?_⟩
    unfold compL at q
    cases e2 : g d s with
    | none => rw [e2] at q; exact q.elim
    | some s2 =>
      rw [e2] at q
      refine ⟨(some (.ref D), some (.own (.list acc))) :: (E ++ (T' ++ T)), s, d, s2, ⟨R.1, yl x H' hy⟩, e2, fun σ2 R5 off => ⟨wipe_eq off hs, _, s2, R5, Res.sat_mono (sat_quiet (E' := fun _ _ => False) (Res.sat_bind.mp q)) (fun b s3 q H3 R6 => ?_) fun _ _ h => h.elim⟩⟩
      cases b with
      | false => exact ⟨wipeS vs s3, acc, R6.wipeAgain off hs, q⟩
      | true =>
        refine ⟨_, s3, R6, Res.sat_mono (sat_quiet (E' := fun _ _ => False) (Res.sat_bind.mp q)) (fun r s4 q y H4 R7 => ?_) fun _ _ h => h.elim⟩
        have R8 := R7.settleAny
        split at q
        · rename_i x' ex
          rw [ex] at R8
          split at q
          · rename_i hz
            obtain ⟨O, R9⟩ := id R8.2
            obtain ⟨xs, hx, rx, oD⟩ := R9.ownList (a := D) (ds := acc) (by simp)
            refine ⟨xs, hx, by rw [rx.length]; exact hz, wipeS vs s4, acc ++ [x'], ?_, q⟩
            have R10 : Rel Z H4 s4.src ((some (.ref D), some (.own (.list acc))) :: (some y, some (.sh x')) :: ((E ++ (T' ++ T)) ++ List.zip σ2 s4.sl)) := R8.2.perm (List.Perm.swap _ _ _)
            have R11 := R10.updOwn (o := .lst (xs ++ [y])) (d' := .list (acc ++ [x'])) fun O' R' z oa => by
              obtain ⟨w, e1, hw⟩ := R'.ent (some y, some (.sh x')) (by simp) _ rfl
              cases e1
              obtain ⟨ys, e3, ry⟩ := z
              rw [hx] at e3; cases e3
              exact ⟨_, upd_same, rpA_upd oa (ry.append (.cons hw .nil))⟩
            have R12 := (R11.perm (List.Perm.swap _ _ _)).pop
            have R13 : RelS Z (upd H4 D (.lst (xs ++ [y]))) σ2 ((some (.ref D), some (.own (.list (acc ++ [x'])))) :: (E ++ (T' ++ T))) s4 := ⟨R8.1, R12⟩
            exact R13.wipeAgain off hs
          · exact q.elim
        · exact q.elim
theorem snE_lc {elt iter : Expr} {ifs : List Expr} {scope : Scope} {own : List (Str × Nat)} {pos : Pos} {fi : Itf} {g : Tg} {is : List Nat} (hc : X.calm = true) (hN : X.N.Nodup) (hi : SnI X Z W tg iter fi) (ok : BlkOk X.N X.env.scope scope own) (hsub : ∀ i ∈ is, i ∈ own.map (·.2))
    (hg : ∀ (s : Shared) (H : Hp) (C : Addr) (cl : List (Str × Addr)) (fp : List Addr), SnG (X.blk s H scope (compEnvC scope cl C X.env) fp) Z tg g is)
    (ht : ∀ (s : Shared) (H : Hp) (C : Addr) (cl : List (Str × Addr)) (fp : List Addr), SnTs (X.blk s H scope (compEnvC scope cl C X.env) fp) Z W0 ifs c)
    (he : ∀ (s : Shared) (H : Hp) (C : Addr) (cl : List (Str × Addr)) (fp : List Addr), SnE (X.blk s H scope (compEnvC scope cl C X.env) fp) Z W0 elt f) (hs : ∀ x, foldedSetIterable iter X.env x = pure x := by intro _; rfl) :
    SnE X Z W (.ListComp elt [⟨tg, iter, ifs, 0⟩] scope pos) (cComp fi g c f (own.map (·.2))) := fun k =>
  pe_imp (pe_lc hc hN (hi k) ok (fun s H C cl fp => hg s H C cl fp k) (fun s H C cl fp => ht s H C cl fp k) (fun s H C cl fp => he s H C cl fp k) hs) fun σ H Q q => rd_comp hsub q
theorem snS_setLc {i : Nat} {y : Str} {py : Pos} {elt iter : Expr} {ifs : List Expr} {scope : Scope} {own : List (Str × Nat)} {pos spos : Pos} {fi : Itf} {g : Tg} {is : List Nat} (hc : X.calm = true) (hN : X.N.Nodup) (hy : X.N[i]? = some y) (hyl : X.env.scope.names.lookup y = some .local)
    (hsw : swapsWith (.ListComp elt [⟨tg, iter, ifs, 0⟩] scope pos) (some (.Name y py)) spos.line X.env = pure true) (hi : SnI X Z W tg iter fi) (ok : BlkOk X.N X.env.scope scope own) (hsub : ∀ i ∈ is, i ∈ own.map (·.2))
    (hg : ∀ (s : Shared) (H : Hp) (C : Addr) (cl : List (Str × Addr)) (fp : List Addr), SnG (X.blk s H scope (compEnvC scope cl C X.env) fp) Z tg g is)
    (ht : ∀ (s : Shared) (H : Hp) (C : Addr) (cl : List (Str × Addr)) (fp : List Addr), SnTs (X.blk s H scope (compEnvC scope cl C X.env) fp) Z W0 ifs c)
    (he : ∀ (s : Shared) (H : Hp) (C : Addr) (cl : List (Str × Addr)) (fp : List Addr), SnE (X.blk s H scope (compEnvC scope cl C X.env) fp) Z W0 elt f) (hs : ∀ x, foldedSetIterable iter X.env x = pure x := by intro _; rfl) :
    SnS X Z W (.Assign [.Name y py] (.ListComp elt [⟨tg, iter, ifs, 0⟩] scope pos) spos) (cAsg (cComp fi g c f (own.map (·.2))) (gNm i)) := fun k =>
  ps_imp (ps_setLc hc hN hy hyl hsw (hi k) ok (fun s H C cl fp => hg s H C cl fp k) (fun s H C cl fp => ht s H C cl fp k) (fun s H C cl fp => he s H C cl fp k) hs) fun D σ H ⟨T, s, R, q⟩ => by
    refine rd_comp (Z := Z) (W := W) (σ := σ) (H := H) (Q := fun x H1 => gName i x σ H1 D.nx) hsub ⟨T, s, R, Res.sat_mono (Res.sat_bind.mp q) (fun r s1 q v H1 R1 => q _ _ R1.put) fun e s h => h σ⟩
end
end Pw
set_option Elab.async false
set_option linter.all false
set_option maxRecDepth 100000
namespace Pw
open PySem PySem.Spec PyProof.Rows L2 RZ
section
variable {X : Cx} {Z : Zx} {W : WX} {e a b tg : Expr} {f fa : Ev} {fb : Vw} {H : Hp} {σ σ' : L2.St} {T T' : List Ent} {s s' : S} {L : List Ent} {src : Option Src} {O : Addr → Prop} {v : V}
theorem pi_imp {iter : Expr} {t t' : TI} (h : PI X tg iter t) (i : ∀ σ H R, t' σ H R → t σ H R) : PI X tg iter t' := ⟨fun pins s σ H R I q => h.run pins s σ H R I (i σ H R q)⟩
/-- a list, a tuple or a text is walked -/
def iAny (K : PySem.W.Frag) (tl : TE) : TI := fun σ H R => tl σ H fun x H1 => (∃ a xs, x = .ref a ∧ SqL K H1 a xs ∧ R (Itl K a) H1) ∨ (∃ a xs, x = .ref a ∧ SqT K H1 a xs ∧ R (Itt K a) H1) ∨ ∃ z, x = .str z ∧ R (Its z) H1
theorem pi_any {l : Expr} {tl : TE} (hl : PE X l tl) : PI X tg l (iAny X.K tl) := by
  refine ⟨fun pins s σ H R I h => thn (hl.run pins s σ H _ I h) fun v s1 ⟨x, H1, I1, r1, q1⟩ => ?_⟩
  have k1 : ∀ o, Inv X pins σ H1 { s1 with heap := s1.heap.push o } := fun o => I1.kept (t' := s1.toks) fun b o e => Heap.get?_push_of_some _ e
  have k2 : ∀ b, b ∈ [s1.heap.objs.size] → FpOk X pins H1 b := fun b hb => by
    cases List.mem_singleton.mp hb
    exact I1.fpOk (Nat.le_refl _) (I1.hok.fresh (Nat.le_refl _))
  rcases q1 with ⟨a, xs, rfl, hq, q⟩ | ⟨a, xs, rfl, hq, q⟩ | ⟨z, rfl, q⟩
  · cases r1
    obtain ⟨its, rv, p, hz⟩ := I1.list hq
    exact wpAny_pyIter_list p.isList ⟨_, [_], _, _, H1, rfl, k1 _, turn_list a _, ⟨_, Heap.get?_push_size _ rfl, rfl, rfl⟩, k2, q⟩
  · cases r1
    obtain ⟨its, rv, p, hz⟩ := I1.tuple hq
    exact wpAny_pyIter_tuple (show s1.heap.IsTuple a its.toArray from p) ⟨_, [_], _, _, H1, rfl, k1 _, turn_tuple a _, ⟨_, Heap.get?_push_size _ rfl, rfl, rfl⟩, k2, q⟩
  · obtain ⟨t, rfl⟩ := r1
    cases ha : z.cps.all (· < 128)
    · exact wpAny_pyIter_wide ha (pi_one (tk := s1.toks) I1 _ (turn_str _ z t _ (.inr rfl)) ⟨_, Heap.get?_push_size _ rfl, rfl, rfl⟩ q)
    · exact wpAny_pyIter_ascii ha (pi_one (tk := s1.toks) I1 _ (turn_str _ z t _ (.inl rfl)) ⟨_, Heap.get?_push_size _ rfl, rfl, rfl⟩ q)
def chars (z : Str) : List D := z.cps.toList.map fun c => .str ⟨#[c]⟩
def itemsOf : D → Option (List D)
  | .list xs => some xs
  | .tuple xs => some xs
  | .str z => some (chars z)
  | _ => none
def cIt (f : Ev) : Itf := fun s => (f s).bind fun r s1 => match r.settle with
  | .sh d => Res.opt ((itemsOf d).map shs) s1
  | .scr ns => .ok (shs (ns.map .int)) s1
  | .fns as => .ok (as.map .fn) s1
  | _ => .err
theorem shRp {x : Ent} {d : D} {w : V} (hx : (some w, some (SV.sh d)) ∈ L) (r : RelO Z H src L O) : Rp Z.K H O w d := by
  obtain ⟨w', e, z⟩ := r.ent _ hx _ rfl
  cases e; exact z
theorem RelO.atSh (r : RelO Z H src L O) {w : V} {d : D} (h : Rp Z.K H O w d) : Rel Z H src ((some w, some (.sh d)) :: L) := r.pushSh h
theorem Rp.lstK {K} (h : Rp K H O v (.list ds)) : ∃ a xs, v = .ref a ∧ SqL K H a xs ∧ RpA K H O xs ds := by
  cases h with | lst e _ r => exact ⟨_, _, rfl, SqL.of e, r⟩
theorem Rp.tupK' {K} (h : Rp K H O v (.tuple ds)) : ∃ a xs, v = .ref a ∧ SqT K H a xs ∧ RpA K H O xs ds := by
  cases h with
  | tup e _ r => exact ⟨_, _, rfl, SqT.of e, r⟩
  | tupK e1 e2 e3 e4 e5 r => exact ⟨_, _, rfl, .inr ⟨_, _, _, e1, e2, e3, e4, e5⟩, r⟩
theorem jspec_list {a : Addr} {ds : List D} (E : List Ent) (hE : (some (V.ref a), some (SV.sh (.list ds))) ∈ E) : JSpecD Z E (Itl Z.K a) ds := by
  intro H src L R hL i
  have hm := hL _ hE
  obtain ⟨O, R0⟩ := id R
  obtain ⟨a', xs, e1, hq, ra⟩ := (shRp (x := (none, none)) hm R0).lstK
  cases e1
  refine ⟨fun d hd => ?_, fun hi => ⟨xs, hq, by rw [ra.length]; exact hi⟩⟩
  obtain ⟨x, hx, rx⟩ := ra.get hd
  refine ⟨⟨xs, x, hq, hx⟩, fun y H' ⟨e, hy⟩ => ?_⟩
  subst e
  have := hy xs hq
  rw [hx] at this; cases this
  exact R0.atSh rx
theorem jspec_tup {a : Addr} {ds : List D} (E : List Ent) (hE : (some (V.ref a), some (SV.sh (.tuple ds))) ∈ E) : JSpecD Z E (Itt Z.K a) ds := by
  intro H src L R hL i
  have hm := hL _ hE
  obtain ⟨O, R0⟩ := id R
  obtain ⟨a', xs, e1, hq, ra⟩ := (shRp (x := (none, none)) hm R0).tupK'
  cases e1
  refine ⟨fun d hd => ?_, fun hi => ⟨xs, hq, by rw [ra.length]; exact hi⟩⟩
  obtain ⟨x, hx, rx⟩ := ra.get hd
  refine ⟨⟨xs, x, hq, hx⟩, fun y H' ⟨e, hy⟩ => ?_⟩
  subst e
  have := hy xs hq
  rw [hx] at this; cases this
  exact R0.atSh rx
theorem jspec_str {z : Str} (E : List Ent) : JSpecD Z E (Its z) (chars z) := by
  intro H src L R hL i
  refine ⟨fun d hd => ?_, fun hi => by show z.cps.size ≤ i; simpa [chars] using hi⟩
  unfold chars at hd
  rw [List.getElem?_map] at hd
  obtain ⟨c, hc, rfl⟩ := Option.map_eq_some_iff.mp hd
  have hlt : i < z.cps.size := by simpa using (List.getElem?_eq_some_iff.mp hc).1
  refine ⟨hlt, fun y H' ⟨e, c', hc', hy⟩ => ?_⟩
  subst e hy
  have : z.cps[i]? = some c := by simpa using hc
  rw [this] at hc'; cases hc'
  exact R.str _
theorem jspec_scr {a : Addr} {ns : List Int} (E : List Ent) (hE : (some (V.ref a), some (SV.scr ns)) ∈ E) : JSpecD Z E (Itl Z.K a) (ns.map .int) := by
  intro H src L R hL i
  have hm := hL _ hE
  obtain ⟨O, R0⟩ := id R
  obtain ⟨w, e1, a', e2, hq⟩ := R0.ent _ hm _ rfl
  cases e1; cases e2
  have hq : SqL Z.K H a (ns.map V.int) := hq.elim (fun z => .inl z.1) .inr
  refine ⟨fun d hd => ?_, fun hi => ⟨_, hq, by simpa using hi⟩⟩
  rw [List.getElem?_map] at hd
  obtain ⟨c, hc, rfl⟩ := Option.map_eq_some_iff.mp hd
  have hx : (ns.map V.int)[i]? = some (.int c) := by rw [List.getElem?_map, hc]; rfl
  refine ⟨⟨_, _, hq, hx⟩, fun y H' ⟨e, hy⟩ => ?_⟩
  subst e
  have := hy _ hq
  rw [hx] at this; cases this
  exact R.int c
theorem jspec_fns {a : Addr} {as : List Addr} (E : List Ent) (hE : (some (V.ref a), some (SV.fns as)) ∈ E) : JSpec Z E (Itt Z.K a) (as.map .fn) := by
  intro H src L R hL i
  have hm := hL _ hE
  obtain ⟨O, R0⟩ := id R
  obtain ⟨w, e1, a', e2, n, hq⟩ := R0.ent _ hm _ rfl
  cases e1; cases e2
  have hq : SqT Z.K H a (as.map V.ref) := SqT.of hq
  refine ⟨fun d hd => ?_, fun hi => ⟨_, hq, by simpa using hi⟩⟩
  rw [List.getElem?_map] at hd
  obtain ⟨c, hc, rfl⟩ := Option.map_eq_some_iff.mp hd
  have hx : (as.map V.ref)[i]? = some (.ref c) := by rw [List.getElem?_map, hc]; rfl
  refine ⟨⟨_, _, hq, hx⟩, fun y H' ⟨e, hy⟩ => ?_⟩
  subst e
  have := hy _ hq
  rw [hx] at this; cases this
  exact ⟨O, R0.push mild_fn fun s q => by cases q; exact ⟨_, rfl, rfl⟩⟩
theorem snI_any {iter : Expr} (h : SnE X Z W iter f) : SnI X Z W tg iter (cIt f) := fun k => pi_imp (pi_any (h k)) fun σ H R q => by
  rw [k]
  obtain ⟨T, s, Q, q⟩ := q
  refine ⟨T, s, Q, Res.sat_mono (Res.sat_bind.mp q) (fun r s1 q v H1 R1 => ?_) fun e s h => h⟩
  have R1 := R1.settleAny
  split at q
  · rename_i d ed
    rw [ed] at R1
    obtain ⟨ds', e, q⟩ := sat_opt q
    obtain ⟨ds, e9, e0⟩ := Option.map_eq_some_iff.mp e
    subst e0
    clear e
    have e := e9
    clear e9
    obtain ⟨O, R0⟩ := id R1.2
    have hr := shRp (x := (none, none)) (w := v) (d := d) (by simp) R0
    unfold itemsOf at e
    split at e
    · cases e
      obtain ⟨a, xs, rfl, hq, ra⟩ := hr.lstK
      exact .inl ⟨a, xs, rfl, hq, q _ H1 [_] R1 (JSpecD.up (jspec_list _ (by simp)))⟩
    · cases e
      obtain ⟨a, xs, rfl, hq, ra⟩ := hr.tupK'
      exact .inr (.inl ⟨a, xs, rfl, hq, q _ H1 [_] R1 (JSpecD.up (jspec_tup _ (by simp)))⟩)
    · cases e
      cases hr.str_inv
      exact .inr (.inr ⟨_, rfl, q _ H1 [_] R1 (JSpecD.up (jspec_str _))⟩)
    · cases e
  · rename_i ns ed
    rw [ed] at R1
    obtain ⟨O, R0⟩ := id R1.2
    obtain ⟨w, e1, a, e2, hq⟩ := R0.ent (some v, some (.scr ns)) (by simp) _ rfl
    cases e1
    subst e2
    exact .inl ⟨a, _, rfl, hq.elim (fun z => .inl z.1) .inr, q _ H1 [_] R1 (JSpecD.up (jspec_scr _ (by simp)))⟩
  · rename_i as ed
    rw [ed] at R1
    obtain ⟨O, R0⟩ := id R1.2
    obtain ⟨w, e1, a, e2, n, hq⟩ := R0.ent (some v, some (.fns as)) (by simp) _ rfl
    cases e1
    subst e2
    exact .inr (.inl ⟨a, _, rfl, SqT.of hq, q _ H1 [_] R1 (jspec_fns _ (by simp))⟩)
  · exact q.elim
/-! ### ranges -/
def rgD (lo : Int) (n : Nat) : List D := (List.range n).map fun (i : Nat) => .int (lo + i)
theorem jspec_range {lo : Int} {n : Nat} (E : List Ent) : JSpecD Z E (Itr lo n) (rgD lo n) := by
  intro H src L R hL i
  refine ⟨fun d hd => ?_, fun hi => by show n ≤ i; simpa [rgD] using hi⟩
  unfold rgD at hd
  rw [List.getElem?_map] at hd
  obtain ⟨c, hc, rfl⟩ := Option.map_eq_some_iff.mp hd
  obtain ⟨hlt, e⟩ := List.getElem?_eq_some_iff.mp hc
  have hlt : i < n := by simpa using hlt
  refine ⟨hlt, fun y H' ⟨e1, hy⟩ => ?_⟩
  subst e1 hy
  have : c = i := by simpa using e.symm
  subst this
  exact R.int _
def cRange1 (ga : Ag) : Itf := fun s => (ga s).bind fun rs s1 => match rs with
  | [.sh (.int j)] => if -(2 ^ 62) ≤ j ∧ j < 2 ^ 62 then .ok (shs (rgD 0 j.toNat)) s1 else .err
  | _ => .err
def cRange2 (ga : Ag) : Itf := fun s => (ga s).bind fun rs s1 => match rs with
  | [.sh (.int i), .sh (.int j)] => if -(2 ^ 62) ≤ i ∧ i < 2 ^ 62 ∧ -(2 ^ 62) ≤ j ∧ j < 2 ^ 62 then .ok (shs (rgD i (j - i).toNat)) s1 else .err
  | _ => .err
theorem ents_one {vs : List V} {d : D} (hl : vs.length = 1) (R : RelS Z H σ (ents vs [.sh d] ++ T) s) : ∃ v, vs = [v] ∧ (some v, some (SV.sh d)) ∈ ents vs [.sh d] := by
  match vs, hl with
  | [v], _ => exact ⟨v, rfl, by simp [ents]⟩
theorem ents_two {vs : List V} {d d' : D} (hl : vs.length = 2) (R : RelS Z H σ (ents vs [.sh d, .sh d'] ++ T) s) : ∃ v w, vs = [v, w] ∧ (some v, some (SV.sh d)) ∈ ents vs [.sh d, .sh d'] ∧ (some w, some (SV.sh d')) ∈ ents vs [.sh d, .sh d'] := by
  match vs, hl with
  | [v, w], _ => exact ⟨v, w, rfl, by simp [ents], by simp [ents]⟩
theorem snI_range1 {ga : Ag} {p pos : Pos} (hg : Gl X "range") (hm : X.mg "range" = none) (ha : SnA X Z W [a] ga) (hs : starEach [a] X.env = [(false, eval a X.env)] := by rfl) : SnI X Z W tg (.Call (.Name "range" p) [a] [] pos) (cRange1 ga) := fun k => pi_imp (pi_range1 hg hm (ha k) hs) fun σ H R q => by
  obtain ⟨T, s, Q, q⟩ := q
  refine ⟨T, s, Q, Res.sat_mono (Res.sat_bind.mp q) (fun rs s1 q vs H1 hl R1 => ?_) fun e s h => h⟩
  split at q
  · rename_i j
    split at q
    · rename_i hz
      obtain ⟨v, rfl, hv⟩ := ents_one (by simpa using hl) R1
      obtain ⟨O, R0⟩ := id R1.2
      have hr := shRp (x := (none, none)) (List.mem_append_left _ (List.mem_append_left _ hv)) R0
      cases hr.int_inv
      exact ⟨j, rfl, hz.1, hz.2, q _ H1 (ents _ _) R1 (JSpecD.up (jspec_range _))⟩
    · exact q.elim
  · exact q.elim
theorem snI_range2 {ga : Ag} {p pos : Pos} (hg : Gl X "range") (hm : X.mg "range" = none) (ha : SnA X Z W [a, b] ga) (hs : starEach [a, b] X.env = [(false, eval a X.env), (false, eval b X.env)] := by rfl) (hs2 : starEach [b] X.env = [(false, eval b X.env)] := by rfl) : SnI X Z W tg (.Call (.Name "range" p) [a, b] [] pos) (cRange2 ga) := fun k => pi_imp (pi_range2 hg hm (ha k) hs hs2) fun σ H R q => by
  obtain ⟨T, s, Q, q⟩ := q
  refine ⟨T, s, Q, Res.sat_mono (Res.sat_bind.mp q) (fun rs s1 q vs H1 hl R1 => ?_) fun e s h => h⟩
  split at q
  · rename_i i j
    split at q
    · rename_i hz
      obtain ⟨v, w, rfl, hv, hw⟩ := ents_two (by simpa using hl) R1
      obtain ⟨O, R0⟩ := id R1.2
      have hr := shRp (x := (none, none)) (List.mem_append_left _ (List.mem_append_left _ hv)) R0
      have hr2 := shRp (x := (none, none)) (List.mem_append_left _ (List.mem_append_left _ hw)) R0
      cases hr.int_inv
      cases hr2.int_inv
      exact ⟨i, j, rfl, hz, q _ H1 (ents _ _) R1 (JSpecD.up (jspec_range _))⟩
    · exact q.elim
  · exact q.elim
/-! ### enumerate, zip -/
def enumD (xs : List D) : List D := xs.zipIdx.map fun p => .tuple [.int (p.2 : Nat), p.1]
def cEnum (ga : Ag) : Itf := fun s => (ga s).bind fun rs s1 => match rs with
  | [.sh (.list xs)] => .ok (shs (enumD xs)) s1
  | _ => .err
theorem Rel.newPair {p : Addr} {v w : V} {d d' : D} (R : Rel Z H src L) (hp : H p = none) (h : ∀ O, RelO Z H src L O → Rp Z.K H O v d ∧ Rp Z.K H O w d') : Rel Z (upd H p (.tup [v, w])) src ((some (.ref p), some (.sh (.tuple [d, d']))) :: L) := R.newTup hp fun O r => .cons (h O r).1 (.cons (h O r).2 .nil)
theorem jspec_enum {a : Addr} {ds : List D} (E : List Ent) (hE : (some (V.ref a), some (SV.sh (.list ds))) ∈ E) : JSpecD Z E (Ite Z.K a) (enumD ds) := by
  intro H src L R hL i
  have hm := hL _ hE
  obtain ⟨O, R0⟩ := id R
  obtain ⟨a', xs, e1, hq, ra⟩ := (shRp (x := (none, none)) hm R0).lstK
  cases e1
  refine ⟨fun d hd => ?_, fun hi => ⟨xs, hq, by rw [ra.length]; simpa [enumD] using hi⟩⟩
  unfold enumD at hd
  rw [List.getElem?_map, List.getElem?_zipIdx] at hd
  simp only [Option.map_map, Option.map_eq_some_iff, Function.comp, Nat.zero_add] at hd
  obtain ⟨d0, hd0, rfl⟩ := hd
  obtain ⟨x, hx, rx⟩ := ra.get hd0
  refine ⟨⟨xs, x, hq, hx⟩, fun y H' ⟨p, z, e, hp, e2, hy⟩ => ?_⟩
  subst e e2
  have := hy xs hq
  rw [hx] at this; cases this
  refine R.newPair hp fun O' R' => ⟨.int _, ?_⟩
  obtain ⟨a', xs', e1, hq', ra'⟩ := (shRp (x := (none, none)) hm R').lstK
  cases e1
  obtain ⟨x', hx', rx'⟩ := ra'.get hd0
  have := hy xs' hq'
  rw [hx'] at this; cases this
  exact rx'
theorem snI_enum {ga : Ag} {p pos tpos : Pos} {elts : List Expr} {kk : Nat} (hg : Gl X "enumerate") (hm : X.mg "enumerate" = none) (ha : SnA X Z W [a] ga) (hs : starEach [a] X.env = [(false, eval a X.env)] := by rfl) : SnI X Z W (.Tuple elts kk tpos) (.Call (.Name "enumerate" p) [a] [] pos) (cEnum ga) := fun k => pi_imp (pi_enum hg hm (ha k) hs) fun σ H R q => by
  rw [k]
  obtain ⟨T, s, Q, q⟩ := q
  refine ⟨T, s, Q, Res.sat_mono (Res.sat_bind.mp q) (fun rs s1 q vs H1 hl R1 => ?_) fun e s h => h⟩
  split at q
  · rename_i ds
    obtain ⟨v, rfl, hv⟩ := ents_one (by simpa using hl) R1
    obtain ⟨O, R0⟩ := id R1.2
    obtain ⟨a', xs, rfl, hq, ra⟩ := (shRp (x := (none, none)) (List.mem_append_left _ (List.mem_append_left _ hv)) R0).lstK
    exact ⟨a', xs, rfl, hq, q _ H1 (ents _ _) R1 (JSpecD.up (jspec_enum _ hv))⟩
  · exact q.elim
def zipD (xs ys : List D) : List D := (List.zip xs ys).map fun p => .tuple [p.1, p.2]
def cZip (ga : Ag) : Itf := fun s => (ga s).bind fun rs s1 => match rs with
  | [.sh (.list xs), .sh (.list ys)] => .ok (shs (zipD xs ys)) s1
  | [.sh (.tuple xs), .sh (.tuple ys)] => .ok (shs (zipD xs ys)) s1
  | _ => .err
theorem zip_some {α β : Type} : ∀ {xs : List α} {ys : List β} {i : Nat} {p : α × β}, (List.zip xs ys)[i]? = some p → xs[i]? = some p.1 ∧ ys[i]? = some p.2
  | [], ys, i, p, h => by simp at h
  | _ :: _, [], i, p, h => by simp at h
  | x :: xs, y :: ys, 0, p, h => by simp at h; subst h; exact ⟨rfl, rfl⟩
  | x :: xs, y :: ys, i + 1, p, h => by simpa using zip_some (xs := xs) (ys := ys) (i := i) (by simpa using h)
theorem jspec_zip {a b : Addr} {ds es : List D} (E : List Ent) (hE : (some (V.ref a), some (SV.sh (.list ds))) ∈ E) (hF : (some (V.ref b), some (SV.sh (.list es))) ∈ E) : JSpecD Z E (Itz Z.K a b) (zipD ds es) := by
  intro H src L R hL i
  have hm := hL _ hE
  have hn := hL _ hF
  obtain ⟨O, R0⟩ := id R
  obtain ⟨a', xs, e1, hq, ra⟩ := (shRp (x := (none, none)) hm R0).lstK
  obtain ⟨b', ys, e2, hq2, rb⟩ := (shRp (x := (none, none)) hn R0).lstK
  cases e1; cases e2
  refine ⟨fun d hd => ?_, fun hi => ⟨xs, ys, hq, hq2, by rw [ra.length, rb.length]; simp [zipD] at hi; omega⟩⟩
  unfold zipD at hd
  rw [List.getElem?_map] at hd
  obtain ⟨⟨d1, d2⟩, hd0, rfl⟩ := Option.map_eq_some_iff.mp hd
  obtain ⟨hd1, hd2⟩ := zip_some hd0
  obtain ⟨x, hx, rx⟩ := ra.get hd1
  obtain ⟨y, hy, ry⟩ := rb.get hd2
  refine ⟨⟨xs, ys, x, y, hq, hq2, hx, hy⟩, fun u H' ⟨p, z, z', e, hp, e2, h1, h2⟩ => ?_⟩
  subst e e2
  have t1 := h1 xs hq
  rw [hx] at t1; cases t1
  have t2 := h2 ys hq2
  rw [hy] at t2; cases t2
  refine R.newPair hp fun O' R' => ?_
  obtain ⟨a', xs', e1, hq', ra'⟩ := (shRp (x := (none, none)) hm R').lstK
  obtain ⟨b', ys', e2, hq2', rb'⟩ := (shRp (x := (none, none)) hn R').lstK
  cases e1; cases e2
  obtain ⟨x', hx', rx'⟩ := ra'.get hd1
  obtain ⟨y', hy', ry'⟩ := rb'.get hd2
  have t1 := h1 xs' hq'
  rw [hx'] at t1; cases t1
  have t2 := h2 ys' hq2'
  rw [hy'] at t2; cases t2
  exact ⟨rx', ry'⟩
theorem jspec_zipT {a b : Addr} {ds es : List D} (E : List Ent) (hE : (some (V.ref a), some (SV.sh (.tuple ds))) ∈ E) (hF : (some (V.ref b), some (SV.sh (.tuple es))) ∈ E) : JSpecD Z E (ItzT Z.K a b) (zipD ds es) := by
  intro H src L R hL i
  have hm := hL _ hE
  have hn := hL _ hF
  obtain ⟨O, R0⟩ := id R
  obtain ⟨a', xs, e1, hq, ra⟩ := (shRp (x := (none, none)) hm R0).tupK'
  obtain ⟨b', ys, e2, hq2, rb⟩ := (shRp (x := (none, none)) hn R0).tupK'
  cases e1; cases e2
  refine ⟨fun d hd => ?_, fun hi => ⟨xs, ys, hq, hq2, by rw [ra.length, rb.length]; simp [zipD] at hi; omega⟩⟩
  unfold zipD at hd
  rw [List.getElem?_map] at hd
  obtain ⟨⟨d1, d2⟩, hd0, rfl⟩ := Option.map_eq_some_iff.mp hd
  obtain ⟨hd1, hd2⟩ := zip_some hd0
  obtain ⟨x, hx, rx⟩ := ra.get hd1
  obtain ⟨y, hy, ry⟩ := rb.get hd2
  refine ⟨⟨xs, ys, x, y, hq, hq2, hx, hy⟩, fun u H' ⟨p, z, z', e, hp, e2, h1, h2⟩ => ?_⟩
  subst e e2
  have t1 := h1 xs hq
  rw [hx] at t1; cases t1
  have t2 := h2 ys hq2
  rw [hy] at t2; cases t2
  refine R.newPair hp fun O' R' => ?_
  obtain ⟨a', xs', e1, hq', ra'⟩ := (shRp (x := (none, none)) hm R').tupK'
  obtain ⟨b', ys', e2, hq2', rb'⟩ := (shRp (x := (none, none)) hn R').tupK'
  cases e1; cases e2
  obtain ⟨x', hx', rx'⟩ := ra'.get hd1
  obtain ⟨y', hy', ry'⟩ := rb'.get hd2
  have t1 := h1 xs' hq'
  rw [hx'] at t1; cases t1
  have t2 := h2 ys' hq2'
  rw [hy'] at t2; cases t2
  exact ⟨rx', ry'⟩
theorem snI_zip {ga : Ag} {p pos tpos : Pos} {elts : List Expr} {kk : Nat} (hg : Gl X "zip") (hm : X.mg "zip" = none) (ha : SnA X Z W [a, b] ga) (hs : starEach [a, b] X.env = (false, eval a X.env) :: starEach [b] X.env := by rfl) (hpl : (backTo pos (starEach [b] X.env)).any (·.1) = false := by rfl) : SnI X Z W (.Tuple elts kk tpos) (.Call (.Name "zip" p) [a, b] [] pos) (cZip ga) := fun k => pi_imp (pi_zipA hg hm (ha k) hs hpl) fun σ H R q => by
  rw [k]
  obtain ⟨T, s, Q, q⟩ := q
  refine ⟨T, s, Q, Res.sat_mono (Res.sat_bind.mp q) (fun rs s1 q vs H1 hl R1 => ?_) fun e s h => h⟩
  split at q
  · obtain ⟨v, w, rfl, hv, hw⟩ := ents_two (by simpa using hl) R1
    obtain ⟨O, R0⟩ := id R1.2
    obtain ⟨a', xs, rfl, hq, ra⟩ := (shRp (x := (none, none)) (List.mem_append_left _ (List.mem_append_left _ hv)) R0).lstK
    obtain ⟨b', ys, rfl, hq2, rb⟩ := (shRp (x := (none, none)) (List.mem_append_left _ (List.mem_append_left _ hw)) R0).lstK
    exact ⟨a', b', xs, ys, rfl, .inl ⟨hq, hq2, q _ H1 (ents _ _) R1 (JSpecD.up (jspec_zip _ hv hw))⟩⟩
  · obtain ⟨v, w, rfl, hv, hw⟩ := ents_two (by simpa using hl) R1
    obtain ⟨O, R0⟩ := id R1.2
    obtain ⟨a', xs, rfl, hq, ra⟩ := (shRp (x := (none, none)) (List.mem_append_left _ (List.mem_append_left _ hv)) R0).tupK'
    obtain ⟨b', ys, rfl, hq2, rb⟩ := (shRp (x := (none, none)) (List.mem_append_left _ (List.mem_append_left _ hw)) R0).tupK'
    exact ⟨a', b', xs, ys, rfl, .inr ⟨hq, hq2, q _ H1 (ents _ _) R1 (JSpecD.up (jspec_zipT _ hv hw))⟩⟩
  · exact q.elim
end
end Pw
set_option Elab.async false
set_option linter.all false
set_option maxRecDepth 100000
namespace Pw
open PySem PySem.Spec PyProof.Rows L2
section
variable {Z : Zx} {H H' : Hp} {O : Addr → Prop} {src src' : Option Src} {L M Ar : List Ent} {v : V} {r : SV}
/-- the callee's frame of reference -/
def Zx.deep (Z : Zx) (H : Hp) (O : Addr → Prop) : Zx := ⟨Z.K, H, O, Z.A, none⟩
theorem inA_own (h : SrcOk Z.A H O src) : ∀ b, InA Z.A b → O b := fun b i => by
  cases src <;> cases e : Z.A <;> rw [e] at h i <;> first | exact i.elim | exact h.elim | skip
  obtain ⟨_, o1, o2, _⟩ := h
  rcases i with rfl | rfl
  · exact o1
  · exact o2
/-- arguments that own nothing, as the callee's world -/
theorem RelO.enter (R : RelO Z H src (Ar ++ L) O) (hm : ∀ e ∈ Ar, Mild e) (hx : ∀ e ∈ Ar, ∀ fs, e.2 ≠ some (.exn fs)) : RelO (Z.deep H O) H src Ar O := by
  refine ⟨fun _ z => z, fun e he s q => ?_, (List.pairwise_append.mp R.ap).1, R.src, fun b x e _ => e, R.live⟩
  obtain ⟨v, e1, k⟩ := R.ent e (List.mem_append_left _ he) s q
  refine ⟨v, e1, ?_⟩
  cases s with
  | own d => exact absurd q (hm e he d)
  | sh d => exact k
  | fn a => exact k
  | src => exact k
  | fns as => exact k
  | scr ns => exact k
  | exn fs => exact absurd q (hx e he fs)
  | exd fs => exact k
/-- the way back -/
theorem Rel.back (R : RelO Z H src (Ar ++ L) O) (R1 : Rel (Z.deep H O) H' src' ((some v, some r) :: M)) : Rel Z H' src' ((some v, some r) :: L) := by
  obtain ⟨O1, r1⟩ := R1
  have hsub : ∀ b, (O b ∨ ∃ d, r = .own d ∧ v = .ref b) → O1 b := fun b z => by
    rcases z with z | ⟨d, rfl, rfl⟩
    · exact r1.oc b z
    · obtain ⟨w, e1, a, e2, oa, _⟩ := r1.ent _ List.mem_cons_self _ rfl
      cases e1; cases e2; exact oa
  have hin := inA_own R.src
  have keep : ∀ b x, H b = some x → ¬ InA Z.A b → H' b = some x := r1.base
  have fresh : ∀ b d, r = .own d → v = .ref b → H b = none := fun b d e1 e2 => by
    subst e1 e2
    obtain ⟨w, e1, a, e2, oa, fa, _⟩ := r1.ent _ List.mem_cons_self _ rfl
    cases e1; cases e2; exact fa.1
  have t : Stp H H' O (fun b => O b ∨ ∃ d, r = .own d ∧ v = .ref b) (InA Z.A) :=
    ⟨keep, hin, fun b z => z.elim .inl fun ⟨d, e1, e2⟩ => .inr (fresh b d e1 e2), fun b z _ => .inl z⟩
  refine ⟨_, fun b z => .inl (R.oc b z), fun e he => ?_, List.pairwise_cons.mpr ⟨fun f hf => ?_, (List.pairwise_append.mp R.ap).2.1⟩, ?_, fun b x e n => keep b x (R.base b x e n) n, fun b z => r1.live b (hsub b z)⟩
  · rcases List.mem_cons.mp he with rfl | he
    · intro s q
      cases q
      obtain ⟨w, e1, k⟩ := r1.ent _ List.mem_cons_self _ rfl
      have e1 : some v = some w := e1
      cases e1
      refine ⟨v, rfl, ?_⟩
      cases r with
      | sh d => exact Rp.less k hsub
      | fn a => exact k
      | src => exact k
      | exn fs => obtain ⟨a, dd, xs, z, _⟩ := k; cases z
      | scr ns =>
        obtain ⟨a, e, q⟩ := k
        exact ⟨a, e, q.imp (fun q => ⟨q.1, fun z => q.2 (hsub _ z)⟩) id⟩
      | fns as => obtain ⟨a, e, n, q⟩ := k; exact ⟨a, e, fun z => n (hsub _ z), q⟩
      | exd fs =>
        obtain ⟨a, xs, e, n, q, z⟩ := k
        exact ⟨a, xs, e, fun y => n (hsub _ y), q, paired_imp z fun p q z => ⟨z.1, Rp.less z.2 hsub⟩⟩
      | own d =>
        obtain ⟨a, rfl, oa, fa, na, ra⟩ := k
        have ha : H a = none := fa.1
        refine ⟨a, rfl, .inr ⟨d, rfl, rfl⟩, ⟨R.fresh0 ha na, fun z => fa.2 (R.oc a z)⟩, na, ?_⟩
        cases d <;> first | exact ra.elim | skip
        · obtain ⟨xs, e, z⟩ := ra; exact ⟨xs, e, z.less hsub⟩
        · obtain ⟨xs, e, z⟩ := ra; exact ⟨xs, e, z.less hsub⟩
    · refine t.ent (fun d a h1 h2 z => ?_) (R.ent e (List.mem_append_right _ he))
      obtain ⟨w, e1, a', e2, oa, fa, na, _⟩ := R.ent e (List.mem_append_right _ he) _ h1
      rw [h2] at e1; cases e1; cases e2
      exact na z
  · intro d1 d2 a h1 h2 h3 h4
    have h3 : some v = some (V.ref a) := h3
    have h1 : some r = some (SV.own d1) := h1
    cases h3; cases h1
    obtain ⟨w, e1, a', e2, oa, _⟩ := R.ent f (List.mem_append_right _ hf) _ h2
    rw [h4] at e1; cases e1; cases e2
    obtain ⟨x, e⟩ := R.live _ oa
    rw [fresh _ _ rfl rfl] at e; cases e
  · have q : SrcOk Z.A H' O1 src' := r1.src
    have q0 := R.src
    cases src' <;> cases e : Z.A <;> rw [e] at q <;> first | exact q | exact q.elim | skip
    obtain ⟨n, o1, o2, h1, h2⟩ := q
    exact ⟨n, .inl (hin _ (by rw [e]; exact .inl rfl)), .inl (hin _ (by rw [e]; exact .inr rfl)), h1, h2⟩
theorem Rel.trivN (n : Nat) (h : Rel Z H src L) : Rel Z H src (List.replicate n (none, none) ++ L) := by
  induction n with
  | zero => exact h
  | succ n ih => rw [List.replicate_succ]; exact ih.triv
end
/-! ### functions over plain data -/
theorem zx_deep {Z : Zx} {H : Hp} {O : Addr → Prop} : (Z.deep H O).Xn = none := rfl
abbrev Fd := List SV → Option Src → Res SV
def padS (n : Nat) (as : List SV) : List (Option SV) := as.map some ++ List.replicate (n - as.length) none
def runFn (n : Nat) (m : Sm) : Fd := fun as src => (m ⟨padS n as, src⟩).bind fun fl s => match fl with
  | .ret r => .ok r s
  | .nx => .ok (.sh .none) s
  | _ => .err
def okA : List SV → Bool
  | [] => true
  | .own _ :: _ => false
  | .exn _ :: _ => false
  | _ :: r => okA r
theorem okA_mem : ∀ {vs : List V} {as : List SV}, okA as = true → ∀ e ∈ ents vs as, (∀ d, e.2 ≠ some (.own d)) ∧ ∀ fs, e.2 ≠ some (.exn fs)
  | [], _, _, e, he => by simp [ents] at he
  | _ :: _, [], _, e, he => by simp [ents] at he
  | v :: vs, a :: as, h, e, he => by
    simp only [ents, List.map_cons, List.zip_cons_cons, List.mem_cons] at he
    rcases he with rfl | he
    · constructor
      · intro d q
        cases q
        simp [okA] at h
      · intro d q
        cases q
        simp [okA] at h
    · refine okA_mem (vs := vs) (as := as) ?_ e he
      cases a <;> first | exact h | (simp [okA] at h)
def spF (K : PySem.W.Frag) (np : Nat) (F : Fd) : Sp := fun vs H Q E => vs.length = np ∧ ∃ (Z : Zx) (src : Option Src) (as : List SV) (L : List Ent), Z.K = K ∧ vs.length = as.length ∧ okA as = true ∧ Rel Z H src (ents vs as ++ L) ∧
  (F as src).sat (fun r s' => ∀ v H', Rel Z H' s'.src ((some v, some r) :: L) → Q v H') fun e s' => ∀ dd H', Rel Z H' s'.src ((some (.ref dd), some (.exd e.fs)) :: L) → E (.ref e.cls) (some dd) H'
/-- what a def promises, under no repr -/
structure FnG (P : Program) (w : World) (K : PySem.W.Frag) (mg : Str → Option Value) (base : Heap) (k : Nat) (f : Addr) (fd : FuncData) (ps : List Str) (sp : Sp) : Prop where
  cnt : ∀ vs H Q E, sp vs H Q E → vs.length = ps.length
  go : ∀ (A : Around) (outer : List Env) (s : Shared) (H : Hp) (args : Args) (us : List Value) (vs : List V) (Q : VK) (E : XK), Room k A → A.guards = some [] →
    Env0 P w K mg base A outer s H → BindsTo s fd args (ps.zip us) → Vals vs us → sp vs H Q E → codeAny (model P w) A (.call (.ref f) args) (CR (L2.CX P w) outer P w H s Q E) s
section
variable {P : Program} {w : World} {K : PySem.W.Frag} {mg : Str → Option Value} {base : Heap} {k j : Nat} {f : Addr} {fd : FuncData} {ps N : List Str} {sp sp' : Sp} {x qual : Str} {st : Stmt}
theorem FnG.mono (F : FnG P w K mg base j f fd ps sp) (h : j ≤ k) : FnG P w K mg base k f fd ps sp := ⟨F.cnt, fun A outer s H args us vs Q E hr => F.go A outer s H args us vs Q E (hr.mono h)⟩
theorem FnG.imp (F : FnG P w K mg base k f fd ps sp) (h : ∀ vs H Q E, sp' vs H Q E → sp vs H Q E) : FnG P w K mg base k f fd ps sp' :=
  ⟨fun vs H Q E q => F.cnt vs H Q E (h _ _ _ _ q), fun A outer s H args us vs Q E hr hg he hb hv hs => F.go A outer s H args us vs Q E hr hg he hb hv (h _ _ _ _ hs)⟩
/-- a def by its body, raw -/
theorem fnG_raw (F : Fun K x qual st f fd) (S : FnScope N ps (defScope st)) (cnt : ∀ vs H Q E, sp vs H Q E → vs.length = ps.length)
    (hb : ∀ (cdv : Value) (A : Around) (outer : List Env) (s : Shared) (H : Hp) (vs : List V) (Q : VK) (E : XK), Room k (A.deeper (envOfC qual (defScope st) s.heap.objs.size f cdv)) → A.guards = some [] → sp vs H Q E →
      ∃ t, PSs (cxOf (L2.CX P w) P w K mg base N qual (defScope st) f cdv A outer s H E) (defBody st) t ∧ t { nx := fun _ H' => Q .non H', rt := Q } (start N vs) H) : FnG P w K mg base (k + 1) f fd ps sp := by
  obtain ⟨oc, od, kV, doc, pm, an, cdv, ct, osl, rfl, lk, hcd⟩ := F.ex
  refine ⟨cnt, fun A outer s H args us vs Q E hr hg e0 hbi r hsp => ?_⟩
  have hkind : ∀ y ∈ ps.zip us, (defScope st).names.lookup y.1 = some .local ∨ ((defScope st).names.lookup y.1 = some .cell ∧ ((cellsFrom (s.heap.objs.size + 1) (defScope st).names []).lookup y.1).isSome = true) := by
    rintro ⟨n, v⟩ hy
    refine (S.par n (List.of_mem_zip hy).1).imp id fun q => ⟨q, PySem.W.cellsFrom_some _ _ _ (.inl q)⟩
  have kin : ∀ b o, base.get? b = some o → s.heap.get? b = some o := fun b o e => (e0.bs b o e).1
  have KX : K.In s.heap := e0.mod.kin.keeps kin
  refine codeAny_call_function hr.depth (KX _ _ lk) rfl S.co S.gen rfl (PySem.W.codeRec_of KX hcd) (hbi _ _ _ _ (wpAny_newFunctionEnv_cells S.kind hkind fun env he s1 y => ?_))
  subst he
  refine ⟨(e0.mod.nolimit.keeps kin).keeps y.toInCall.keep, codeAny_func ?_⟩
  obtain ⟨t, ht, hq⟩ := hb cdv A outer s H vs Q E (hr.deeper _) hg hsp
  refine wpAny_mono (ht.run [] s1 (start N vs) H _ (inv_start S hr.hd e0 (cnt _ _ _ _ hsp) r y) hq) (fun fl s' hs => ?_) fun e s' hs => hs
  have done : ∀ {σ' : L2.St} {H' : Hp} {v : V} {u : Value}, Inv (cxOf (L2.CX P w) P w K mg base N qual (defScope st) f cdv A outer s H E) [] σ' H' s' → RelV v u → Q v H' → CE outer P w H s Q u s' := by
    intro σ' H' v u J rv q
    exact ⟨v, H', J.os, J.bare, J.base, J.hok, rv, q⟩
  match fl, hs with
  | .ret u, ⟨v, σ', H', J, rv, q⟩ => exact done J rv q
  | .next, ⟨σ', H', J, q⟩ => exact done (v := V.non) (u := Value.none) J rfl q
  | .brk, ⟨_, _, _, q⟩ => exact q.elim
  | .cont, ⟨_, _, _, q⟩ => exact q.elim
theorem rel_pad {Z : Zx} {H : Hp} {src : Option Src} {n : Nat} : ∀ {vs : List V} {as : List SV}, vs.length = as.length → Rel Z H src (ents vs as) → Rel Z H src (List.zip (vs.map some ++ List.replicate n none) (as.map some ++ List.replicate n none)) := by
  intro vs as hl R
  rw [List.zip_append (by simpa using hl)]
  have e : List.zip (List.replicate n (none : Option V)) (List.replicate n (none : Option SV)) = List.replicate n (none, none) := by
    rw [List.zip_replicate, Nat.min_self]
  rw [e]
  exact (R.trivN n).perm List.perm_append_comm
/-- THE RULE: a def by what its body computes -/
theorem fnG_of {m : Sm} (F : Fun K x qual st f fd) (S : FnScope N ps (defScope st))
    (hb : ∀ (cdv : Value) (A : Around) (outer : List Env) (s : Shared) (H : Hp) (E : XK) (Z : Zx), Z.Xn = none → Room k (A.deeper (envOfC qual (defScope st) s.heap.objs.size f cdv)) → A.guards = some [] →
      SnB (cxOf (L2.CX P w) P w K mg base N qual (defScope st) f cdv A outer s H E) Z (fun cls d _ H => E cls d H) (defBody st) m) : FnG P w K mg base (k + 1) f fd ps (spF K ps.length (runFn N.length m)) := by
  refine fnG_raw F S (fun vs H Q E h => h.1) fun cdv A outer s H vs Q E hr hg h => ?_
  obtain ⟨hn, Z, src, as, L, zk, hl, ok, R, q⟩ := h
  obtain ⟨O, RO⟩ := R
  refine ⟨_, hb cdv A outer s H E (Z.deep H O) rfl hr hg zk.symm, [], ⟨padS N.length as, src⟩, ⟨?_, ?_⟩, ?_⟩
  · show (start N vs).length = (padS N.length as).length
    rw [L2.start, padS]
    simp [hl]
  · have R2 : Rel (Z.deep H O) H src (ents vs as) := ⟨O, RO.enter (fun e he => (okA_mem ok e he).1) fun e he => (okA_mem ok e he).2⟩
    have R3 := rel_pad (n := N.length - vs.length) hl R2
    have e : List.zip (start N vs) (padS N.length as) = List.zip (vs.map some ++ List.replicate (N.length - vs.length) none) (as.map some ++ List.replicate (N.length - vs.length) none) := by
      rw [L2.start, padS, hl]
    show Rel _ _ _ ([] ++ List.zip (start N vs) (padS N.length as))
    rw [List.nil_append, e]
    exact R3
  · refine Res.sat_mono (Res.sat_bind.mp q) (fun fl s1 q => ?_) fun e s1 q σ dd H1 R1 => q dd H1 (Rel.back RO R1.2)
    cases fl with
    | ret r => exact fun v σ H1 R1 => q v H1 (Rel.back RO R1.2)
    | nx => exact fun σ H1 R1 => q _ H1 (Rel.back RO (Rel.non R1.2))
    | bk => exact q.elim
    | ct => exact q.elim
end
/-! ### calls -/
section
variable {X : Cx} {Z : Zx} {W : WX} {e : Expr} {es : List Expr} {F : Fd} {ga : Ag} {k : Nat} {f : Addr} {fd : FuncData} {ps : List Str} {sp : Sp} {x : Str} {p pos : Pos} {t : TA} {H : Hp} {σ : L2.St}
def tG (sp : Sp) (E : L2.St → XK) (t : TA) : TE := fun σ H Q => t σ H fun vs H1 => sp vs H1 Q (E σ)
theorem runG {pins : List (Addr × Obj)} {s : Shared} {Q : VK} {us : List Value} {vs : List V} (G : FnG X.prog X.w X.K X.mg X.base k f fd ps sp) (hr : Room k X.A) (hg : X.A.guards = some []) (hb : Binds X.K fd ps []) (tk : Takes X W)
    (I : Inv X pins σ H s) (r : Vals vs us) (h : sp vs H Q (WE W σ)) : wpAny (model X.prog X.w) X.A (call (.ref f) us) (EP X pins σ Q) X.xe s := by
  have b := hb s us I.kIn (by rw [List.append_nil, ← r.length]; exact G.cnt _ _ _ _ h)
  rw [List.append_nil] at b
  refine wpAny_call (codeAny_mono (G.go X.A X.stack s H ⟨us, []⟩ us vs Q _ hr hg I.env0 b r h) fun res s' hq => ?_)
  match res, hq with
  | .error e, hq => exact passAt tk σ pins H s e s' I hq
  | .ok (.ret u), hq => exact I.after hq
theorem pe_G (G : FnG X.prog X.w X.K X.mg X.base k f fd ps sp) (hr : Room k X.A) (hgd : X.A.guards = some []) (hg : Gl X x) (hm : X.mg x = some (.ref f)) (hk : PySem.W.keepIn X.K (.ref f) = true) (hb : Binds X.K fd ps []) (tk : Takes X W)
    (ha : PA X (e :: es) t) (hdb : (x == ("__debug__" : Str)) = false := by decide) (he : starEach (e :: es) X.env = (false, eval e X.env) :: starEach es X.env := by rfl) (hpl : (backTo pos (starEach es X.env)).any (·.1) = false := by rfl) :
    PE X (.Call (.Name x p) (e :: es) [] pos) (tG sp (WE W) t) :=
  ⟨fun pins s σ H Q I h => wpAny_Call_Name_kw (ld_glob I hg hm (PySem.W.callWith_K (h₀ := X.base) I.ok.mod.kin hk (thn (ha.run pos pins s σ H _ I h) fun us s1 ⟨vs, H1, I1, r, q⟩ => ⟨I1.kIn, runG G hr hgd hb tk I1 r q⟩) he hpl) hdb)⟩
theorem pe_G0 (G : FnG X.prog X.w X.K X.mg X.base k f fd ps sp) (hr : Room k X.A) (hgd : X.A.guards = some []) (hg : Gl X x) (hm : X.mg x = some (.ref f)) (hk : PySem.W.keepIn X.K (.ref f) = true) (hb : Binds X.K fd ps []) (tk : Takes X W)
    (hdb : (x == ("__debug__" : Str)) = false := by decide) : PE X (.Call (.Name x p) [] [] pos) (tG sp (WE W) tNil) :=
  ⟨fun pins s σ H Q I h => wpAny_Call_Name_kw (ld_glob I hg hm (PySem.W.callWith_K0 I.kIn hk (runG (us := []) G hr hgd hb tk I .nil h)) hdb)⟩
def appF (n : Nat) (F : Fd) (rs : List SV) (s : S) : Res SV := if rs.length = n ∧ okA rs = true then match F rs s.src with
  | .ok r s2 => .ok r { s with src := s2.src }
  | .exc e s2 => .exc e { s with src := s2.src }
  | .err => .err
  else .err
def cCall (n : Nat) (F : Fd) (ga : Ag) : Ev := fun s => (ga s).bind fun rs s1 => appF n F rs s1
theorem spF_of {vs : List V} {rs : List SV} {T : List Ent} {s : S} {Q : VK} (zk : Z.K = X.K) (hl : vs.length = rs.length) (R : RelS Z H σ (ents vs rs ++ T) s)
    (q : (appF ps.length F rs s).sat (fun r s' => ∀ v H', RelS Z H' σ ((some v, some r) :: T) s' → Q v H') (ExP Z σ T W)) : spF X.K ps.length F vs H Q (WE W σ) := by
  unfold appF at q
  split at q
  · rename_i ok
    obtain ⟨hn, ok⟩ := ok
    refine ⟨hl.trans hn, Z, s.src, rs, T ++ List.zip σ s.sl, zk, hl, ok, by rw [← List.append_assoc]; exact R.2, ?_⟩
    cases e : F rs s.src with
    | ok r s2 => rw [e] at q; exact fun v H' R' => q v H' ⟨R.1, R'⟩
    | exc ex s2 => rw [e] at q; exact fun dd H' R' => q dd H' ⟨R.1, R'⟩
    | err => rw [e] at q; exact q.elim
  · exact q.elim
theorem snE_call (G : FnG X.prog X.w X.K X.mg X.base k f fd ps (spF X.K ps.length F)) (hr : Room k X.A) (hgd : X.A.guards = some []) (hg : Gl X x) (hm : X.mg x = some (.ref f)) (hk : PySem.W.keepIn X.K (.ref f) = true) (hb : Binds X.K fd ps []) (tk : Takes X W)
    (ha : SnA X Z W (e :: es) ga) (hdb : (x == ("__debug__" : Str)) = false := by decide) (he : starEach (e :: es) X.env = (false, eval e X.env) :: starEach es X.env := by rfl) (hpl : (backTo pos (starEach es X.env)).any (·.1) = false := by rfl) :
    SnE X Z W (.Call (.Name x p) (e :: es) [] pos) (cCall ps.length F ga) := fun zk => pe_imp (pe_G G hr hgd hg hm hk hb tk (ha zk) hdb he hpl) fun σ H Q ⟨T, s, R, q⟩ => by
  refine ⟨T, s, R, Res.sat_mono (Res.sat_bind.mp q) (fun rs s1 q vs H1 hl R1 => ?_) fun e s h => h⟩
  exact spF_of zk.symm hl R1 q
theorem snE_call0 (G : FnG X.prog X.w X.K X.mg X.base k f fd ps (spF X.K ps.length F)) (hr : Room k X.A) (hgd : X.A.guards = some []) (hg : Gl X x) (hm : X.mg x = some (.ref f)) (hk : PySem.W.keepIn X.K (.ref f) = true) (hb : Binds X.K fd ps []) (tk : Takes X W)
    (hdb : (x == ("__debug__" : Str)) = false := by decide) : SnE X Z W (.Call (.Name x p) [] [] pos) (cCall ps.length F cNil) := fun zk => pe_imp (pe_G0 G hr hgd hg hm hk hb tk hdb) fun σ H Q ⟨T, s, R, q⟩ =>
  spF_of (vs := []) (rs := []) zk.symm rfl R q
end
end Pw
set_option Elab.async false
set_option linter.all false
set_option maxRecDepth 100000
set_option maxHeartbeats 2000000
namespace Pw
open PySem PySem.Spec PyProof.Rows L2 PySem.W PySem.Calls PySem.HandSPX
/-! ### an error of the program's own, made -/
inductive Asgs : List Str → List Stmt → Prop
  | nil : Asgs [] []
  | cons {f : Str} {p1 p2 p3 p4 : Pos} {fs : List Str} {r : List Stmt} : Asgs fs r → Asgs (f :: fs) (.Assign [.Attribute (.Name "self" p1) f p2] (.Name f p3) p4 :: r)
inductive Nms : List Str → List Expr → Prop
  | nil : Nms [] []
  | cons {f : Str} {p : Pos} {fs : List Str} {r : List Expr} : Nms fs r → Nms (f :: fs) (.Name f p :: r)
abbrev iEnv (qual : Str) (scope : Scope) (L a : Addr) (cda : Addr) (cc : Addr) : Env := ksEnv qual scope L a (.ref cda) cc
/-- what the written part says of an error class at C whose __init__, at fI, hands its arguments on and keeps them as fs -/
structure ErC (P : Program) (K : Frag) (mg : Str → Option Value) (C fI : Addr) (qual : Str) (fs : List Str) : Prop where
  cls : ∃ nm q N bs bm sn sub ab col dd k0 k1 k2 k3 k5, K.lookup C = some (excClassObj nm q C N bs bm true sn sub ab col dd k0 k1 k2 k3 k5 "ValueError.__new__") ∧ refsVE bm = true
  sa : findIn K (.ref C) "__setattr__" = some (some (.builtin "object.__setattr__"))
  no : ∀ f ∈ fs, findIn K (.ref C) f = some none
  iC : findIn K (.ref C) "__init__" = some (some (.ref fI))
  tC : typeIn K (.ref fI) = some (.type "function")
  kC : keepIn K (.ref C) = true
  exC : subIn K (.ref C) (.type "BaseException") = some true
  veC : subIn K (.ref C) (.type "ValueError") = some true
  tyC : typeIn K (.ref C) = some (.type "type")
  sup : ks_superIn K C C "__init__" = some (some (.builtin "ValueError.__init__"))
  opq : nsIn K cStatics "thirdparty.any" = some none
  mgS : mg "super" = none
  top : (P.main.scope.names.lookup ("super" : Str)).isSome = false
  fn : ∃ (oc : Value) (od : Option Addr) (st : Stmt) (kV doc pm : Value) (an : Option Addr) (cda : Addr) (ct : Value) (cc : Addr) (osl : Array (Option Value)) (ccl cl : Value) (cdd cld : Option Addr) (ccs csl : Array (Option Value)) (cvs : Array Value) (file : Str) (tf : Tok) (p0 p1 p2 p3 p4 : Pos) (es : List Expr) (rest : List Stmt),
    K.lookup fI = some ⟨oc, od, .func (ksFn "__init__" qual (defArgs st) (defBody st) (defScope st) .none kV doc pm an (.ref cda) ct cc), osl⟩ ∧ codeIn K (.ref cda) qual = true ∧
    K.lookup cda = some ⟨ccl, cdd, .fields cvs, ccs⟩ ∧ cvs[2]? = some (.str file tf) ∧ ((P.main.file : Str) == file) = true ∧ K.lookup cc = some ⟨cl, cld, .cell (some (.ref C)), csl⟩ ∧
    defBody st = .Expr (.Call (.Attribute (.Call (.Name "super" p0) [] [] p1) "__init__" p2) es [] p3) p4 :: rest ∧ Nms fs es ∧ Asgs fs rest ∧
    (∀ env : Env, ∃ pl : Sem Bool, eval (.Call (.Attribute (.Call (.Name "super" p0) [] [] p1) "__init__" p2) es [] p3) env = (do
      let ov ← attributeBase (.Call (.Name "super" p0) [] [] p1) "__init__" env (eval (.Call (.Name "super" p0) [] [] p1) env)
      standAt p2.atName
      let (f, first) ← holding [ov] (getMethod ov "__init__" pl)
      callWith p3 f first (backTo p3 (starEach es env)) [])) ∧ (∀ env : Env, (backTo p3 (starEach es env)).any (·.1) = false) ∧
    (∃ ar, ((defArgs st).posonlyargs ++ (defArgs st).args).head? = some ar ∧ ar.arg = "self") ∧ (∃ nl more, defScope st = { kind := .function, names := nl, isGenerator := false, isCoroutine := false, more := more }) ∧
    (defScope st).names.lookup ("self" : Str) = some .local ∧ (∀ f ∈ fs, (defScope st).names.lookup f = some .local ∧ f ≠ "self" ∧ (f == ("__debug__" : Str)) = false) ∧
    (defScope st).names.lookup ("super" : Str) = some .globalImplicit ∧ (defScope st).names.lookup ("__class__" : Str) = some .free ∧ (∀ x ∈ (defScope st).names, x.2 ≠ .cell) ∧
    ∀ (x : Value) (us : List Value), us.length = fs.length → bindArgs (ksFn "__init__" qual (defArgs st) (defBody st) (defScope st) .none kV doc pm an (.ref cda) ct cc) ⟨x :: us, []⟩ = pure ((("self" : Str), x) :: fs.zip us)
  ne : fs ≠ []
  nd : fs.Nodup
  few : fs.length ≤ 20
section
variable {prog : Program} {w : World} {A : Around} {E : Value → Shared → Prop} {K : Frag} {mg : Str → Option Value} {C fI : Addr} {hp : Heap} {g : Array GenState} {d : Drawn} {t : Nat} {os : OsState}
theorem mw_call {C N : Addr} {nm q : Str} {bs bm : List Value} {hd : Bool} {sn : List Str} {sub : List Value} {ab : Bool} {col : Option Bool} {dd : Option Addr} {k0 k1 k2 k3 k5 : Option Value} {u x t0 : Addr} {rest : List Value} {Q : Value → Shared → Prop}
    (hC : hp.get? C = some (excClassObj nm q C N bs bm hd sn sub ab col dd k0 k1 k2 k3 k5 "ValueError.__new__")) (he : hp.get? x = some (excO C t0)) (hu : hp.get? u = some (kxs_mw "ValueError.__init__" x)) (hz : rest.length ≤ sizeLine)
    (hq : ∀ h' t1, (∀ b o, b ≠ x → hp.get? b = some o → h'.get? b = some o) → h'.get? x = some (excO C t1) → Q .none ⟨h', g, d, t, os⟩) :
    wpAny (model prog w) A (call (.ref u) rest) Q E ⟨hp, g, d, t, os⟩ := by
  refine wpAny_call (codeAny_of_tree ?_)
  show wpAny _ A.in1 (callAny (.ref u) ⟨rest, []⟩) _ _ _
  simp only [callAny]
  refine wpAny_bind (wpAny_load hu ?_)
  simp only [kxs_mw, show (Value.type "method-wrapper" == Value.type "method" || Value.type "method-wrapper" == Value.type "builtin_function_or_method" || Value.type "method-wrapper" == Value.type "method-wrapper") = true by decide, if_true]
  refine KFB.if_so (by decide) (wpAny_bind (check_bound_init F.excBase_ValueError.toExcCallFacts hC he rfl (wpAny_bind (wpAny_pure (wpAny_pure ?_)))))
  refine ⟨plainId_quiet F.excBase_ValueError.init.plain _, codeAny_builtin F.excBase_ValueError.initEntry ?_⟩
  exact exc_init_tree (cls := .ref C) (t0 := t0) (dv := none) (c2 := .none) (c3 := .none) (b4 := .bool false) he hz fun h' k e _ => hq h' _ k e
theorem asgs_run {P : Program} {qual : Str} {fs0 : List Str} (T : ErC P K mg C fI qual fs0) {env : Env} {m : Str → Option Value} {x dx : Addr} {fv : Array Value} {Q : Flow → Shared → Prop} (hk : env.scope.kind = .function) (hs : env.kindOf "self" = some .local) (hself : m "self" = some (.ref x)) :
    ∀ {fs : List Str} {rest : List Stmt}, Asgs fs rest → ∀ {vs : List V} {us : List Value} {hp : Heap} {t : Nat} {mA : Str → Option Value} {done : List (Str × V)}, vs.length = fs.length → Vals vs us →
    (∀ p ∈ fs.zip us, m p.1 = some p.2) → (∀ f ∈ fs, env.kindOf f = some .local ∧ (f == ("__debug__" : Str)) = false ∧ f ∈ fs0) → K.In hp → hp.Ns env.locals m → env.locals ≠ dx → K.lookup dx = none → hp.get? x = some { cls := .ref C, dict := some dx, data := .fields fv } → hp.Ns1 dx mA →
    (∀ f, L2.RelO (done.lookup f) (mA f)) → done.length + fs.length ≤ 900 →
    (∀ h' tk mB, (∀ b o, b ≠ dx → hp.get? b = some o → h'.get? b = some o) → h'.Ns1 dx mB → (∀ f, L2.RelO (((fs.zip vs).reverse ++ done).lookup f) (mB f)) → Q .next ⟨h', g, d, tk, os⟩) →
    wpAny (model prog w) A (execs rest env) Q E ⟨hp, g, d, t, os⟩ := by
  intro fs rest a
  induction a with
  | nil =>
    intro vs us hp t mA done hl _ _ _ _ _ _ _ _ hns r _ hq
    cases vs with
    | nil => exact wpAny_execs_nil (hq hp t mA (fun _ _ _ e => e) hns (by simpa using r))
    | cons _ _ => simp at hl
  | @cons f p1 p2 p3 p4 fs rest a ih =>
    intro vs us hp t mA done hl rr hm hf X hn hL hdk hx hns r hz hq
    cases rr with
    | nil => simp at hl
    | @cons v u vs us rv rr =>
    obtain ⟨nm, q, N, bs, bm, sn, sub, ab, col, dd, k0, k1, k2, k3, k5, hC, hbm⟩ := T.cls
    have hcl : clsIn K C = some { name := nm, bases := bs, mro := .ref C :: bm, ns := N, qualname := q, hasDict := true, slotNames := sn, subclasses := sub, abstract := ab, collection := col, hasDel := false } := by unfold clsIn; rw [hC] <;> rfl
    obtain ⟨f1, f2, f3⟩ := hf f List.mem_cons_self
    have hw := within_of r
    obtain ⟨oD, _, _, hoD, _, _⟩ := hns.count hw
    refine wpAny_execs_cons (plainObj_wpAny_Assign_Attribute (ESX.ldL hn (hm (f, u) (by simp)) (ESX.ldL hn hself ?_ hk hs) hk f1 f2))
    refine set_plain X (ox := { cls := .ref C, dict := some dx, data := .fields fv }) (od := some oD) ⟨hx, rfl, rfl, hoD⟩ T.sa ?_
    refine OEX.osa_old X hx hns hw (by rw [List.length_map]; omega) hcl (show refsVE (.ref C :: bm) = true from hbm) rfl (T.no f f3) fun h' tk' k hn' => ?_
    have hxd : x ≠ dx := fun z => by
      obtain ⟨o, es, ep, e1, e2, _⟩ := hns
      rw [← z, hx] at e1
      have z2 := Option.some.inj e1
      subst z2
      cases e2
    show wpAny _ _ (execs _ _) _ _ _
    refine ih (done := (f, v) :: done) (by simpa using hl) rr (fun p hp => hm p (by simp [hp])) (fun f hf' => hf f (List.mem_cons_of_mem _ hf')) ?_ ?_ hL hdk (k _ _ hxd hx) hn' (relO_put rv r) (by simp at hz ⊢; omega) fun h2 tk2 mB k2 n2 r2 => ?_
    · exact fun b o e => k b o (fun z => by rw [z, hdk] at e; cases e) (X b o e)
    · exact hn.at fun o e => k _ _ hL e
    · exact hq h2 tk2 mB (fun b o hb e => k2 b o hb (k b o hb e)) n2 (by simpa using r2)
/-- what __init__ leaves of the fresh error at x -/
structure InitLeft (h h' : Heap) (x C dx : Addr) (ws : List (Str × V)) : Prop where
  keep : ∀ b o, b ≠ x → h.get? b = some o → h'.get? b = some o
  obj : ∃ t1, h'.get? x = some { cls := .ref C, dict := some dx, data := .fields #[.ref t1, .none, .none, .none, .bool false, .none] }
  big : h.objs.size ≤ dx
  ne : dx ≠ x
  ns : ∃ mB, h'.Ns1 dx mB ∧ ∀ f, L2.RelO (ws.lookup f) (mB f)
theorem nms_run {M : Model} {env : Env} {m : Str → Option Value} {pos : Pos} {s : Shared} (hk : env.scope.kind = .function) (hn : s.heap.Ns env.locals m) : ∀ {fs : List Str} {es : List Expr}, Nms fs es → ∀ {us : List Value} {Q : List Value → Shared → Prop}, us.length = fs.length → (∀ p ∈ fs.zip us, m p.1 = some p.2) →
    (∀ f ∈ fs, env.kindOf f = some .local ∧ (f == ("__debug__" : Str)) = false) → Q us s → wpAny M A (spliced (backTo pos (starEach es env))) Q E s := by
  intro fs es a
  induction a with
  | nil =>
    intro us Q hl _ _ q
    cases us with
    | nil => exact Calls.spliced_nil q
    | cons _ _ => simp at hl
  | @cons f p fs es a ih =>
    intro us Q hl hm hf q
    cases us with
    | nil => simp at hl
    | cons u us =>
      obtain ⟨f1, f2⟩ := hf f List.mem_cons_self
      show wpAny M A (spliced ((false, eval (.Name f p) env) :: backTo pos (starEach es env))) Q E s
      exact Calls.spliced_cons (ESX.ldL hn (hm (f, u) (by simp)) (ih (by simpa using hl) (fun p hp => hm p (by simp [hp])) (fun f hf' => hf f (List.mem_cons_of_mem _ hf')) q) hk f1 f2)
theorem zip_fst {α β : Type} : ∀ {l : List α} {m : List β} {p : α × β}, p ∈ l.zip m → p.1 ∈ l
  | [], _, p, h => by simp at h
  | a :: l, [], p, h => by simp at h
  | a :: l, b :: m, p, h => by
    simp only [List.zip_cons_cons, List.mem_cons] at h
    rcases h with rfl | h
    · exact List.mem_cons_self
    · exact List.mem_cons_of_mem _ (zip_fst h)
theorem lookup_mem {α : Type} : ∀ {l : List (Str × α)} {p : Str × α}, (l.map (·.1)).Nodup → p ∈ l → l.lookup p.1 = some p.2
  | [], p, _, h => by simp at h
  | (k, v) :: l, p, nd, h => by
    simp only [List.map_cons, List.nodup_cons] at nd
    rcases List.mem_cons.mp h with rfl | h
    · simp [List.lookup]
    · have ne : (p.1 == k) = false := by
        simp only [beq_eq_false_iff_ne]
        intro e
        exact nd.1 (List.mem_map.mpr ⟨p, h, e⟩)
      rw [List.lookup, ne]
      exact lookup_mem nd.2 h
theorem zip_map_fst {α β : Type} : ∀ {l : List α} {m : List β}, l.length = m.length → (l.zip m).map (·.1) = l
  | [], _, _ => rfl
  | a :: l, [], h => by simp at h
  | a :: l, b :: m, h => by simp [zip_map_fst (l := l) (m := m) (by simpa using h)]
theorem own_mro {K : Frag} {C : Addr} {cd : ClassData} {bm : List Value} (hcl : clsIn K C = some cd) (h : cd.mro = .ref C :: bm := by rfl) : mroIn K C (.ref C) = some true := by
  unfold mroIn
  rw [hcl, Option.bind_some, h]
  rw [if_neg (by simp), List.contains_cons, beq_self_eq_true, Bool.true_or]
theorem er_init {P : Program} {w : World} {qual : Str} {fs : List Str} (T : ErC P K mg C fI qual fs) {x t0 : Addr} {vs : List V} {us : List Value} {R : Result → Shared → Prop} (X : K.In hp) (hlim : hp.NoLimit) (G : hp.Ns mainGlobals mg) {mb : Str → Option Value} (B : hp.Ns builtinsNs mb) (hB : mb "super" = some (.type "super"))
    (hx : hp.get? x = some (excO C t0)) (hnx : K.lookup x = none) (hroom : A.depth < recursionLimit) (hl : vs.length = fs.length) (r : Vals vs us)
    (hq : ∀ h' tk dx, InitLeft hp h' x C dx (fs.zip vs).reverse → R (.ok (.ret .none)) ⟨h', g, d, tk, os⟩) :
    codeAny (model P w) A (.call (.ref fI) ⟨.ref x :: us, []⟩) R ⟨hp, g, d, t, os⟩ := by
  obtain ⟨oc, od, st, kV, doc, pm, an, cda, ct, cc, osl, ccl, cl, cdd, cld, ccs, csl, cvs, file, tf, p0, p1, p2, p3, p4, es, rest, ho, hcd, hca, hcv, hfile, hcc, hbody, hnm, has, hev, hplain, ⟨ar, har, hars⟩, ⟨nl, more, hsc⟩, hself, hfs, hsup, hcls, hnc, hbind⟩ := T.fn
  obtain ⟨nm, q, N, bs, bm, sn, sub, ab, col, dd, k0, k1, k2, k3, k5, hC, hbm⟩ := T.cls
  have hcl : clsIn K C = some { name := nm, bases := bs, mro := .ref C :: bm, ns := N, qualname := q, hasDict := true, slotNames := sn, subclasses := sub, abstract := ab, collection := col, hasDel := false } := by unfold clsIn; rw [hC] <;> rfl
  have lu : us.length = fs.length := by rw [← r.length]; exact hl
  rw [hsc] at ho hself hfs hsup hcls hnc hbind
  refine ks_codeAny_call_defAt (fd := ksFn "__init__" qual (defArgs st) (defBody st) { kind := .function, names := nl, isGenerator := false, isCoroutine := false, more := more } .none kV doc pm an (.ref cda) ct cc) (body := defBody st) (binds := (("self" : Str), Value.ref x) :: fs.zip us) hroom (X _ _ ho) rfl hlim (codeRec_of X hcd) rfl
    (.of_eq (hbind _ us lu)) hnc (fun y hy => ?_) (fun h₁ hn k => ?_) rfl rfl rfl
  · rcases List.mem_cons.mp hy with rfl | hy
    · exact hself
    · exact (hfs _ (zip_fst hy)).1
  have X₁ : K.In h₁ := X.keeps k
  have hx₁ := k _ _ hx
  have hxL : hp.objs.size ≠ x := Nat.ne_of_gt (Heap.lt_size hx)
  have nd : (((("self" : Str), Value.ref x) :: fs.zip us).reverse.map (·.1)).Nodup := by
    rw [List.map_reverse, List.nodup_iff_pairwise_ne, List.pairwise_reverse, List.map_cons, zip_map_fst lu.symm]
    exact (List.nodup_cons.mpr ⟨fun z => (hfs _ z).2.1 rfl, T.nd⟩).imp fun h => Ne.symm h
  have hm : ∀ p ∈ (("self" : Str), Value.ref x) :: fs.zip us, (fun y => ((("self" : Str), Value.ref x) :: fs.zip us).reverse.lookup y) p.1 = some p.2 := fun p hp => lookup_mem nd (List.mem_reverse.mpr hp)
  rw [hbody]
  obtain ⟨pl, hev⟩ := hev (callEnv (ksFn "__init__" qual (defArgs st) (.Expr (.Call (.Attribute (.Call (.Name "super" p0) [] [] p1) "__init__" p2) es [] p3) p4 :: rest) { kind := .function, names := nl, isGenerator := false, isCoroutine := false, more := more } .none kV doc pm an (.ref cda) ct cc) hp.objs.size fI)
  refine ks_wpAt_execs_cons (ks_wpAt_Expr_any (ks_wpAt_MethodCall (pl := pl) ?_ hev) (by rfl) (by rfl))
  have hD1 := X₁ _ _ hC
  refine ks_wpAt_super_base (f := fI) (cc := cda) (ar := ar) hsup hcls (by decide) rfl (X₁ _ _ ho) rfl har rfl (X₁ _ _ hca) rfl hcv hfile T.top ?_
  refine ks_loadName_global rfl hsup (Calls.loadGlobal_builtin (G.keeps k) T.mgS (B.keeps k) hB ⟨rfl, ?_⟩)
  refine wpAny_loadName_free rfl hcls rfl ⟨_, X₁ _ _ hcc, rfl⟩ ?_
  rw [hars]
  refine wpAny_loadName_local rfl hself hn (hm _ List.mem_cons_self) ?_
  have I : InstAt h₁ x (excO C t0) C none := ⟨hx₁, rfl, rfl, trivial⟩
  refine ks_wpAny_isType_cls hD1 rfl ⟨rfl, ks_wpAny_call_super hD1 rfl hx₁ rfl (fun c e => by cases e) (looks_mroIn X₁ (own_mro hcl)) fun h₂ e₂ k₂ => ?_⟩
  have X₂ : K.In h₂ := X₁.keeps k₂
  have hx₂ := k₂ _ _ hx₁
  have I₂ : InstAt h₂ x (excO C t0) C none := ⟨hx₂, rfl, rfl, trivial⟩
  have hsu := T.sup
  unfold ks_superIn at hsu
  rw [hcl] at hsu
  refine kxs_getMethod kxs_ValueError e₂ (looks_opaque X₂ T.opq) (fun A Q E s k q => wpAny_bind ((looks_clsIn X₂ hcl) A _ E s k (wpAny_pure q))) rfl X₂ hsu (I₂.type.andThen (looks_subIn X₂ T.veC)) (ks_ne X₂ I₂ hcl) (by decide) ?_
  have kk : ∀ b o, hp.get? b = some o → (h₂.push (kxs_mw "ValueError.__init__" x)).get? b = some o := fun b o e => Heap.get?_push_of_some _ (k₂ _ _ (k _ _ e))
  have hn₃ : (h₂.push (kxs_mw "ValueError.__init__" x)).Ns hp.objs.size (fun y => ((("self" : Str), Value.ref x) :: fs.zip us).reverse.lookup y) := hn.at fun o e => Heap.get?_push_of_some _ (k₂ _ _ e)
  have hu : (h₂.push (kxs_mw "ValueError.__init__" x)).get? h₂.objs.size = some (kxs_mw "ValueError.__init__" x) := Heap.get?_push_at rfl rfl
  refine kxs_callWith (first := []) (i := "ValueError.__init__") (x := x) (hplain _) ?_
  have lz : us.length ≤ sizeLine := by rw [lu, sizeLine_eq]; have := T.few; omega
  have hkf : ∀ f ∈ fs, (iEnv qual { kind := .function, names := nl, isGenerator := false, isCoroutine := false, more := more } hp.objs.size fI cda cc).kindOf f = some .local ∧ (f == ("__debug__" : Str)) = false := fun f hf => ⟨(hfs f hf).1, (hfs f hf).2.2⟩
  have hne := T.ne
  have hnm0 := hnm
  cases hnm with
  | nil => exact absurd rfl hne
  | @cons f0 pf fs es hnm =>
  refine evalArgs_plain (nms_run (m := fun y => ((("self" : Str), Value.ref x) :: (f0 :: fs).zip us).reverse.lookup y) (env := iEnv qual { kind := .function, names := nl, isGenerator := false, isCoroutine := false, more := more } hp.objs.size fI cda cc) rfl hn₃ hnm0 lu (fun p hp => hm p (List.mem_cons_of_mem _ hp)) hkf ⟨hu, ?_⟩)
  refine mw_call (Heap.get?_push_of_some _ (k₂ _ _ hD1)) (Heap.get?_push_of_some _ hx₂) hu lz fun h₄ t1 k₄ hx₄ => ?_
  have hxK : ∀ b o, hp.get? b = some o → b ≠ x → h₄.get? b = some o := fun b o e n => k₄ b o n (kk b o e)
  have X₄ : K.In h₄ := fun b o e => hxK b o (X b o e) fun z => by rw [z, hnx] at e; cases e
  have hn₄ := hn₃.at fun o e => k₄ _ _ hxL e
  show _root_.PySem.wpAt _ _ _ (execs _ _) _ _ _
  refine wpAt_of_wpAny ?_
  cases has with
  | @cons f p1' p2' p3' p4' fs rest a =>
  cases r with
  | nil => simp at lu
  | @cons v u vs us rv rr =>
  refine wpAny_execs_cons (plainObj_wpAny_Assign_Attribute (ESX.ldL hn₄ (hm (f0, u) (by simp)) (ESX.ldL hn₄ (hm _ List.mem_cons_self) ?_ rfl hself) rfl (hfs f0 List.mem_cons_self).1 (hfs f0 List.mem_cons_self).2.2))
  refine set_plain X₄ (ox := excO C t1) (od := none) ⟨hx₄, rfl, rfl, trivial⟩ T.sa ?_
  refine exc_osa X₄ hx₄ hcl (show refsVE (.ref C :: bm) = true from hbm) rfl (T.no f0 List.mem_cons_self) fun h₅ tk₅ dx k₅ dn dne hx₅ hn₅ => ?_
  have lt0 : hp.objs.size < h₁.objs.size := hn.lt
  have lt4 : hp.objs.size < h₄.objs.size := hn₄.lt
  have hdk : K.lookup dx = none := by
    cases e : K.lookup dx with
    | none => rfl
    | some o => exact absurd (Heap.lt_size (X₄ _ _ e)) (Nat.not_lt.mpr dn)
  show wpAny _ _ (execs _ _) _ _ _
  refine asgs_run T (env := iEnv qual { kind := .function, names := nl, isGenerator := false, isCoroutine := false, more := more } hp.objs.size fI cda cc) (m := fun y => ((("self" : Str), Value.ref x) :: (f0 :: fs).zip (u :: us)).reverse.lookup y) (x := x) (dx := dx) (done := [(f0, v)]) rfl hself (hm _ List.mem_cons_self) a (by simpa using hl) rr (fun p hp => hm p (by simp [hp])) (fun f hf => ⟨(hkf f (List.mem_cons_of_mem _ hf)).1, (hkf f (List.mem_cons_of_mem _ hf)).2, List.mem_cons_of_mem _ hf⟩)
    (fun b o e => ?_) (hn₄.at fun o e => k₅ _ _ hxL e) (fun z => absurd (Nat.lt_of_lt_of_le lt4 dn) (by rw [← (show hp.objs.size = dx from z)]; exact Nat.lt_irrefl _)) hdk hx₅ hn₅ (relO_put (fs := []) rv fun g => trivial) (by have := T.few; simp at this ⊢; omega) fun h₆ tk₆ mB k₆ hn₆ r₆ => ?_
  · exact k₅ b o (fun z => by rw [z, hnx] at e; cases e) (X₄ b o e)
  · have hxd : x ≠ dx := dne.symm
    refine hq h₆ tk₆ dx ⟨fun b o hb e => k₆ b o ?_ (k₅ b o hb (hxK b o e hb)), ⟨t1, k₆ _ _ hxd hx₅⟩, Nat.le_of_lt (Nat.lt_of_lt_of_le lt4 dn), dne, mB, hn₆, by simpa using r₆⟩
    exact Nat.ne_of_lt (Nat.lt_of_lt_of_le (Heap.lt_size (hxK b o e hb)) dn)
/-- an error made -/
theorem er_made {P : Program} {w : World} {qual : Str} {fs : List Str} (T : ErC P K mg C fI qual fs) {vs : List V} {us : List Value} {R : Result → Shared → Prop} (X : K.In hp) (hlim : hp.NoLimit) (G : hp.Ns mainGlobals mg) {mb : Str → Option Value} (B : hp.Ns builtinsNs mb) (hB : mb "super" = some (.type "super"))
    (hroom : A.depth + 1 < recursionLimit) (hl : vs.length = fs.length) (r : Vals vs us)
    (hq : ∀ h' tk e dx, (∀ b o, hp.get? b = some o → h'.get? b = some o) → hp.objs.size ≤ e → (∃ t1, h'.get? e = some { cls := .ref C, dict := some dx, data := .fields #[.ref t1, .none, .none, .none, .bool false, .none] }) → hp.objs.size ≤ dx → dx ≠ e →
      (∃ mB, h'.Ns1 dx mB ∧ ∀ f, L2.RelO ((fs.zip vs).reverse.lookup f) (mB f)) → R (.ok (.ret (.ref e))) ⟨h', g, d, tk, os⟩) :
    codeAny (model P w) A (.call (.ref C) ⟨us, []⟩) R ⟨hp, g, d, t, os⟩ := by
  obtain ⟨nm, q, N, bs, bm, sn, sub, ab, col, dd, k0, k1, k2, k3, k5, hC, hbm⟩ := T.cls
  have k : ∀ b o, hp.get? b = some o → ((hp.push (kdv_tup us)).push (excO C hp.objs.size)).get? b = some o := fun b o e => Heap.get?_push_of_some _ (Heap.get?_push_of_some _ e)
  have hget : ((hp.push (kdv_tup us)).push (excO C hp.objs.size)).get? (hp.objs.size + 1) = some (excO C hp.objs.size) := by heap_get
  have hnx : K.lookup (hp.objs.size + 1) = none := by
    cases e : K.lookup (hp.objs.size + 1) with
    | none => rfl
    | some o => exact absurd (Nat.lt_of_succ_lt (Heap.lt_size (X _ _ e))) (Nat.lt_irrefl _)
  have lz : us.length ≤ sizeLine := by rw [← r.length, hl, sizeLine_eq]; have := T.few; omega
  refine call_own F.excBase_ValueError (fun Y => refsVE_contains Y bm hbm) (X _ _ hC) (looks_findIn X T.iC) (fun self => bind_fn X self T.tC) lz ?_
  refine er_init T (X.keeps k) (hlim.keeps k) (G.keeps k) (B.keeps k) hB hget hnx (by show A.depth + 1 < recursionLimit; exact hroom) hl r fun h' tk' dx M => ?_
  have old : ∀ b o, hp.get? b = some o → h'.get? b = some o := fun b o e => M.keep b o (Nat.ne_of_lt (Nat.lt_succ_of_lt (Heap.lt_size e))) (k b o e)
  have z : hp.objs.size + 1 + 1 ≤ dx := by
    first
      | (simpa only [Heap.size_push] using M.big)
      | exact M.big
      | (have q := M.big; rw [Heap.size_push, Heap.size_push] at q; exact q)
  exact ⟨rfl, hq h' tk' (hp.objs.size + 1) dx old (Nat.le_succ _) M.obj (Nat.le_trans (Nat.le_trans (Nat.le_succ _) (Nat.le_succ _)) z) M.ne M.ns⟩
end
/-- an error of the class at C is one that «except C» names -/
theorem exm_own {K : Frag} {C : Addr} (a : subIn K (.ref C) (.type "BaseException") = some true) (b : isClsIn K C = true) (c : typeIn K (.ref C) = some (.type "type")) (d : subIn K (.ref C) (.ref C) = some true) : exmOne K (.ref C) (.ref C) = some true := by
  have b' : (clsIn K C).isSome = true := b
  have e1 : ((clsIn K C).isSome && typeIn K (.ref C) == some (.type "type")) = true := by rw [b', c] <;> rfl
  have e0 : (subIn K (.ref C) (.type "BaseException") == some true) = true := by rw [a] <;> rfl
  show (if (subIn K (.ref C) (.type "BaseException") == some true) = true then (if ((clsIn K C).isSome && typeIn K (.ref C) == some (.type "type")) = true then subIn K (.ref C) (.ref C) else none) else none) = some true
  rw [if_pos e0, if_pos e1, d]
def clsDef (st : Stmt) : Stmt := match st with
  | .ClassDef (body := b :: _) .. => b
  | s => s
end Pw
set_option Elab.async false
set_option linter.all false
set_option maxRecDepth 100000
set_option maxHeartbeats 2000000
namespace Pw
open PySem PySem.Spec PyProof.Rows L2
section
variable {X : Cx} {Z : Zx} {W : WX} {a e : Expr} {es : List Expr} {ga : Ag} {k : Nat} {C fI : Addr} {qual x : Str} {fs : List Str} {p pos pos2 : Pos} {ta : TA} {H : Hp} {σ : L2.St} {T : List Ent} {s : S}
def tMkE (C : Addr) (fs : List Str) (ta : TA) : L2.St → Hp → XK → Prop := fun σ H Q => ta σ H fun vs H1 => vs.length = fs.length ∧ ∀ dd, H1 dd = none → Q (.ref C) (some dd) (upd H1 dd (.xd (fs.zip vs).reverse))
theorem pmk_er (Y : ErC X.prog X.K X.mg C fI qual fs) (hr : Room k X.A) (ha : PA X (a :: es) ta) (hg : Gl X x) (hm : X.mg x = some (.ref C)) (hdb : (x == ("__debug__" : Str)) = false := by decide)
    (hst : starEach (a :: es) X.env = (false, eval a X.env) :: starEach es X.env := by rfl) (hpl : (backTo pos (starEach es X.env)).any (·.1) = false := by rfl) : PMk X (.Call (.Name x p) (a :: es) [] pos) (tMkE C fs ta) := by
  intro pins s σ H Q I h
  refine wpAny_Call_Name_kw (ld_glob I hg hm (PySem.W.callWith_K (h₀ := X.base) I.ok.mod.kin Y.kC (thn (ha.run pos pins s σ H _ I h) fun us s1 ⟨vs, H1, I1, r1, hl, q1⟩ => ⟨I1.kIn, ?_⟩) hst hpl) hdb)
  have lim := I1.nolimit
  have K1 := I1.kIn
  obtain ⟨mb, B, hB⟩ := I1.mod.blt
  have B1 := B.keeps I1.bk
  have G1 := I1.mod.glob.keeps I1.bk
  obtain ⟨hp, g, dr, tk, os⟩ := s1
  refine wpAny_call (er_made Y K1 lim G1 B1 ((hB _ (by decide)).trans (by exact PyProof.Rows.Boot.«super»)) (by have := hr.dp; omega) hl r1 fun h' tk' e dx old big ho dbig dne hns => ?_)
  obtain ⟨t1, ho⟩ := ho
  obtain ⟨mB, hn, rel⟩ := hns
  obtain ⟨G, ga, gb⟩ := restrict h' fun b => decide (b ≠ e)
  have on : ∀ b, b ≠ e → G.get? b = h'.get? b := fun b hb => ga b (decide_eq_true hb)
  have off : G.get? e = none := gb e (by simp)
  have keepG : ∀ b o, hp.get? b = some o → G.get? b = some o := fun b o q => (on b (Nat.ne_of_lt (Nat.lt_of_lt_of_le (Heap.lt_size q) big))).trans (old b o q)
  have okX : ObjOk X.prog X.w (upd H1 dx (.xd (fs.zip vs).reverse)) G dx (.xd (fs.zip vs).reverse) := ⟨mB, hn.at fun o q => (on dx dne).trans q, rel⟩
  have J := I1.laid (t' := tk') keepG dbig okX
  refine ⟨e, _, _, ⟨G, g, dr, tk', os⟩, _, .ref C, some dx, rfl, J, fun b o q => ?_, off, ho, ⟨rfl, rfl⟩, rfl, rfl, ?_, rfl, I1.bare, raises_own Y.exC Y.tyC, q1 dx (I1.hok.fresh dbig)⟩
  · have hb : b ≠ e := fun z => by
      have q : G.get? b = some o := q
      rw [z, off] at q; cases q
    exact (on b hb).symm.trans q
  · rw [upd_ne (Ne.symm dne)]
    exact I1.hok.fresh big
def exFs (fs : List Str) (ds : List D) : List (Str × D) := (fs.zip ds).reverse
def cRaise (C : Addr) (fs : List Str) (ga : Ag) : Sm := fun s => (ga s).bind fun rs s1 => if rs.length = fs.length then match datas rs with
  | some ds => .exc ⟨C, exFs fs ds⟩ s1
  | none => .err
  else .err
theorem paired_app {α β : Type} {F : α → β → Prop} : ∀ {l₁ : List α} {l₂ : List β} {m₁ : List α} {m₂ : List β}, Paired F l₁ l₂ → Paired F m₁ m₂ → Paired F (l₁ ++ m₁) (l₂ ++ m₂)
  | _, _, _, _, .nil, q => q
  | _, _, _, _, .cons r t, q => .cons r (paired_app t q)
theorem rpF_zip {K} {O : Addr → Prop} : ∀ {fs : List Str} {vs : List V} {ds : List D}, RpA K H O vs ds → RpF K H O (fs.zip vs).reverse (exFs fs ds)
  | [], _, _, _ => by simp [exFs]; exact .nil
  | f :: fs, [], _, .nil => by simp [exFs]; exact .nil
  | f :: fs, v :: vs, d :: ds, .cons r t => by
    have := rpF_zip (fs := fs) t
    simp only [exFs, List.zip_cons_cons, List.reverse_cons] at this ⊢
    exact paired_app this (.cons ⟨rfl, r⟩ .nil)
theorem snS_raise (hc : X.calm = true) (Y : ErC X.prog X.K X.mg C fI qual fs) (hr : Room k X.A) (tk : Takes X W) (ha : SnA X Z W (a :: es) ga) (hg : Gl X x) (hm : X.mg x = some (.ref C)) (hdb : (x == ("__debug__" : Str)) = false := by decide)
    (hst : starEach (a :: es) X.env = (false, eval a X.env) :: starEach es X.env := by rfl) (hpl : (backTo pos (starEach es X.env)).any (·.1) = false := by rfl) :
    SnS X Z W (.Raise (some (.Call (.Name x p) (a :: es) [] pos)) none pos2) (cRaise C fs ga) := fun zk => ps_imp (ps_raise hc tk (pmk_er Y hr (ha zk) hg hm hdb hst hpl)) fun D σ H ⟨T, s, R, q⟩ => by
  refine ⟨T, s, R, Res.sat_mono (Res.sat_bind.mp q) (fun rs s1 q vs H1 hl R1 => ?_) fun e s h => h σ⟩
  split at q
  · rename_i hn
    split at q
    · rename_i ds ed
      refine ⟨hl.trans hn, fun dd hd => q σ dd _ ⟨R1.1, ?_⟩⟩
      obtain ⟨O, r⟩ := R1.2
      have ra : RpA Z.K H1 O vs ds := rpA_ents hl ed fun x hx => r.ent x (by simp [hx])
      have kk : ∀ b x, H1 b = some x → upd H1 dd (.xd (fs.zip vs).reverse) b = some x := fun b x e => by rw [upd_ne (ne_of_none e hd)]; exact e
      have r2 : RelO Z (upd H1 dd (.xd (fs.zip vs).reverse)) s1.src ((some (.ref dd), some (.exd (exFs fs ds))) :: (ents vs rs ++ T ++ List.zip σ s1.sl)) O := (r.new hd).push mild_exd fun s q => by
        cases q
        exact ⟨_, rfl, dd, _, rfl, r.fresh hd, upd_same, rpF_zip ((Stp.of_keep kk).rpA ra)⟩
      have r3 : Rel Z (upd H1 dd (.xd (fs.zip vs).reverse)) s1.src (ents vs rs ++ ((some (.ref dd), some (.exd (exFs fs ds))) :: (T ++ List.zip σ s1.sl))) := Rel.perm ⟨O, r2⟩ (by rw [List.append_assoc]; exact List.perm_middle.symm)
      exact Rel.popN _ r3
    · exact q.elim
  · exact q.elim
/-! ### try -/
def noExn : List (Option SV) → Bool
  | [] => true
  | some (.exn _) :: _ => false
  | _ :: r => noExn r
def Fl.noExn : Fl → Bool
  | .ret (.exn _) => false
  | _ => true
def Zx.at (Z : Zx) (a dd : Addr) : Zx := { Z with Xn := some (a, dd) }
def cTry (m : Sm) (C : Addr) (i : Nat) (ms : Sm) : Sm := fun s => match m s with
  | .ok fl s1 => .ok fl s1
  | .err => .err
  | .exc e s1 => if e.cls = C then (ms { s1 with sl := s1.sl.set i (some (.exn e.fs)) }).quiet.bind fun fl s2 => if fl.noExn = true ∧ noExn (s2.sl.set i none) = true then .ok fl { s2 with sl := s2.sl.set i none } else .err
    else .err
theorem Rel.xn {src : Option Src} {L : List Ent} {c : Option (Addr × Addr)} (h : Rel Z H src L) (hx : ∀ e ∈ L, ∀ fs, e.2 ≠ some (.exn fs)) : Rel { Z with Xn := c } H src L := by
  obtain ⟨O, r⟩ := h
  refine ⟨O, r.oc, fun e he s q => ?_, r.ap, r.src, r.base, r.live⟩
  obtain ⟨v, e1, k⟩ := r.ent e he s q
  refine ⟨v, e1, ?_⟩
  cases s <;> first | exact k | exact absurd q (hx e he _)
theorem Rel.noXn {src : Option Src} {L : List Ent} (h : Rel Z H src L) (hz : Z.Xn = none) : ∀ e ∈ L, ∀ fs, e.2 ≠ some (.exn fs) := fun e he fs q => by
  obtain ⟨O, r⟩ := h
  obtain ⟨v, e1, a, dd, xs, z, _⟩ := r.ent e he _ q
  rw [hz] at z; cases z
theorem noExn_zip : ∀ {sl : List (Option SV)} {σ : L2.St}, noExn sl = true → ∀ e ∈ List.zip σ sl, ∀ fs, e.2 ≠ some (.exn fs)
  | [], σ, _, e, he => by simp at he
  | _ :: _, [], _, e, he => by simp at he
  | o :: sl, v :: σ, h, e, he => by
    simp only [List.zip_cons_cons, List.mem_cons] at he
    rcases he with rfl | he
    · intro fs q
      cases q
      simp [noExn] at h
    · refine noExn_zip (sl := sl) (σ := σ) ?_ e he
      match o, h with
      | none, h => exact h
      | some (.sh _), h => exact h
      | some (.own _), h => exact h
      | some (.fn _), h => exact h
      | some .src, h => exact h
      | some (.exd _), h => exact h
      | some (.fns _), h => exact h
      | some (.scr _), h => exact h
theorem Rel.exn {src : Option Src} {i : Nat} {a dd : Addr} {fs : List (Str × D)} {sl : List (Option SV)} (h : Rel (Z.at a dd) H src ((some (.ref dd), some (.exd fs)) :: (T ++ List.zip σ sl))) (hl : σ.length = sl.length) : Rel (Z.at a dd) H src (T ++ List.zip (σ.set i (some (.ref a))) (sl.set i (some (.exn fs)))) := by
  refine Rel.putSlot (i := i) ?_ hl
  obtain ⟨O, r⟩ := h
  have hd := r.ent _ List.mem_cons_self _ rfl
  have r2 : Rel (Z.at a dd) H src (T ++ List.zip σ sl) := Rel.pop ⟨O, r⟩
  refine ⟨O, RelO.push ⟨r.oc, fun e he => r.ent e (List.mem_cons_of_mem _ he), (List.pairwise_cons.mp r.ap).2, r.src, r.base, r.live⟩ mild_exn fun s q => ?_⟩
  cases q
  obtain ⟨v, e1, b, xs, e2, n, q, z⟩ := hd
  cases e1; cases e2
  exact ⟨_, rfl, a, dd, xs, rfl, rfl, n, q, z⟩
theorem snS_try {n : Str} {i : Nat} {body suite : List Stmt} {b₀ : Stmt} {np pos' : Pos} {m ms : Sm} (hz : Z.Xn = none) (hs : X.stack = X.env :: X.outer) (hf : X.env.frame = some X.env.locals) (hN : X.N.Nodup) (hi : X.N[i]? = some n) (hln : X.env.kindOf n = some .local) (hc : Names X x (.ref C))
    (hx : PySem.W.exmOne X.K (.ref C) (.ref C) = some true)
    (hb : ∀ (W : WX) (pn : List (Addr × Obj)) (xe : Value → Shared → Prop), Takes (X.tr pn xe) W → PassesOwn (model X.prog X.w) X.A X.env xe → SnB (X.tr pn xe) Z W body m)
    (hsu : ∀ (a : Addr) (oe : Obj) (dd : Addr) (pn : List (Addr × Obj)), Zc (.ref C) (some dd) oe → (∃ vs, oe.data = .fields vs) → SnB (X.suite a ((a, oe) :: pn)) (Z.at a dd) W0 (b₀ :: suite) ms) :
    SnS X Z W (.Try body [.ExceptHandler (some (.Name x np)) (some n) (b₀ :: suite) pos'] [] [] pos) (cTry m C i ms) := fun zk => by
  refine ps_imp (ps_try_as (i := i) (c := .ref C) (tb := fun W => LS Z W m) (ts := fun a cls d D σ H => ∃ dd, cls = .ref C ∧ d = some dd ∧ LS (Z.at a dd) W0 ms D σ H) (Wout := fun _ _ _ _ => False) hs hf hN hi hln hc (fun u s' ⟨_, _, _, _, _, _, _, _, _, _, _, _, _, _, _, _, w⟩ => w.elim)
    (fun W pn xe tk po => hb W pn xe tk po zk) fun a oe cls d pn h1 h2 => ?_) fun D σ H ⟨T, s, R, q⟩ => ?_
  · refine ⟨fun pins s σ H D I ⟨dd, e1, e2, q⟩ => ?_⟩
    subst e1 e2
    exact (hsu a oe dd pn h1 h2 zk).run pins s σ H D I q
  · refine ⟨T, s, R, ?_⟩
    unfold cTry at q
    cases e : m s with
    | ok fl s1 => rw [e] at q; exact q
    | err => rw [e] at q; exact q.elim
    | exc ex s1 =>
      rw [e] at q
      dsimp only at q
      split at q
      · rename_i hcl
        intro σ1 dd H1 R1
        refine ⟨true, by rw [hcl]; exact hx, fun _ a ha => ⟨dd, by rw [hcl], rfl, ?_⟩, fun z => by cases z⟩
        have hnx := Rel.noXn R1.2 hz
        have R2 : Rel (Z.at a dd) H1 s1.src ((some (.ref dd), some (.exd ex.fs)) :: (T ++ List.zip σ1 s1.sl)) := Rel.xn R1.2 hnx
        refine ⟨T, { s1 with sl := s1.sl.set i (some (.exn ex.fs)) }, ⟨by simpa using R1.1, Rel.exn R2 R1.1⟩, Res.sat_mono (sat_quiet (E' := fun _ _ => False) (Res.sat_bind.mp q)) (fun fl s2 q => ?_) fun _ _ h => h.elim⟩
        split at q
        · rename_i hh
          have hT : ∀ e ∈ T, ∀ fs, e.2 ≠ some (.exn fs) := fun e he => hnx e (List.mem_cons_of_mem _ (List.mem_append_left _ he))
          have back : ∀ {σ2 : L2.St} {H2 : Hp} {T2 : List Ent}, (∀ e ∈ T2, ∀ fs, e.2 ≠ some (.exn fs)) → RelS (Z.at a dd) H2 σ2 (T2 ++ T) s2 → RelS Z H2 (σ2.set i none) (T2 ++ T) { s2 with sl := s2.sl.set i none } := fun {σ2 H2 T2} h2 R => by
            have R3 := Rel.putSlot (i := i) (ov := none) (os := none) R.2.triv R.1
            have R4 := Rel.xn (c := Z.Xn) R3 fun e he => by
              rcases List.mem_append.mp he with he | he
              · exact (List.mem_append.mp he).elim (h2 e) (hT e)
              · exact noExn_zip hh.2 e he
            exact ⟨by simpa using R.1, R4⟩
          cases fl with
          | nx => exact fun σ2 H2 R => q _ _ (back (T2 := []) (fun _ h => by simp at h) R)
          | bk => exact fun σ2 H2 R => q _ _ (back (T2 := []) (fun _ h => by simp at h) R)
          | ct => exact fun σ2 H2 R => q _ _ (back (T2 := []) (fun _ h => by simp at h) R)
          | ret r => exact fun v σ2 H2 R => q _ _ _ (back (T2 := [(some v, some r)]) (fun e he fs z => by
              cases List.mem_singleton.mp he
              cases z
              simp [Fl.noExn] at hh) R)
        · exact q.elim
      · exact q.elim
/-- the caught error's field -/
def cFld (i : Nat) (f : Str) : Ev := fun s => match s.sl[i]? with
  | some (some (.exn fs)) => Res.opt ((fs.lookup f).map .sh) s
  | _ => .err
theorem rpF_lookup {K} {O : Addr → Prop} {f : Str} {d : D} : ∀ {xs : List (Str × V)} {fs : List (Str × D)}, RpF K H O xs fs → fs.lookup f = some d → ∃ v, xs.lookup f = some v ∧ Rp K H O v d
  | _, _, .nil, h => by cases h
  | (g, v) :: xs, (g', d') :: fs, .cons ⟨e, r⟩ t, h => by
    have e : g = g' := e
    subst e
    by_cases q : (f == g) = true
    · simp only [List.lookup, q, Option.some.injEq] at h ⊢
      subst h
      exact ⟨v, rfl, r⟩
    · have q : (f == g) = false := by simpa using q
      simp only [List.lookup, q] at h ⊢
      exact rpF_lookup t h
theorem snE_fld {a dd : Addr} {oe : Obj} {pn : List (Addr × Obj)} {i : Nat} {n : Str} (Y : XfC X.K C) (hno : PySem.W.findIn X.K (.ref C) n = some none) (hz : Zc (.ref C) (some dd) oe) (hf : ∃ vs, oe.data = .fields vs) (he : PE (X.suite a ((a, oe) :: pn)) e (tVar i))
    (hb : attributeBase e n X.env (eval e X.env) = eval e X.env := by rfl) : SnE (X.suite a ((a, oe) :: pn)) (Z.at a dd) W (.Attribute e n pos) (cFld i n) := fun _ => pe_imp (pe_xf Y hno hz hf he hb) fun σ H Q ⟨T, s, R, q⟩ => by
  unfold cFld at q
  split at q
  · rename_i fs e1
    obtain ⟨r, er, q⟩ := sat_opt q
    obtain ⟨d, ed, e0⟩ := Option.map_eq_some_iff.mp er
    subst e0
    obtain ⟨v, hv, hm⟩ := R.slot e1
    obtain ⟨O, R0⟩ := id R.2
    obtain ⟨w, e2, b, dd', xs, z, e3, no, hx, rf⟩ := R0.ent _ hm _ rfl
    cases e2
    have z : some (a, dd) = some (b, dd') := z
    cases z
    obtain ⟨y, hy, ry⟩ := rpF_lookup rf ed
    exact ⟨v, hv, e3, rfl, dd, xs, y, rfl, hx, hy, q _ _ ⟨R.1, R0.atSh ry⟩⟩
  · exact q.elim
end
end Pw
set_option Elab.async false
set_option linter.all false
set_option maxRecDepth 100000
namespace Pw
open PySem PySem.Spec PyProof.Rows L2
/-! ### the drawn source -/
section
variable {Z : Zx} {H H' : Hp} {L : List Ent} {T : List Ent} {σ : L2.St} {s : S} {x y : Addr} {sr sr' : Src}
theorem Rel.srcTo (R : Rel Z H (some sr) L) (hA : Z.A = some (x, y)) (hk : ∀ b, b ≠ x → b ≠ y → H' b = H b) (hx : H' x = some (.dK (srcKv y sr'))) (hy : H' y = some (.lst (sr'.cells.map V.int))) : Rel Z H' (some sr') L := by
  obtain ⟨O, r⟩ := R
  have q := r.src
  rw [hA] at q
  obtain ⟨n, o1, o2, _, _⟩ := q
  have hin : ∀ b, InA Z.A b ↔ b = x ∨ b = y := fun b => by rw [hA]; exact Iff.rfl
  have t : Stp H H' O O (fun b => b = x ∨ b = y) := ⟨fun b z e n => by rw [hk b (fun q => n (.inl q)) fun q => n (.inr q)]; exact e, fun b z => z.elim (fun z => z ▸ o1) fun z => z ▸ o2, fun _ z => .inl z, fun _ z _ => z⟩
  refine ⟨O, r.oc, fun e he => t.ent (fun d a h1 h2 z => ?_) (r.ent e he), r.ap, ?_, fun b z e nA => ?_, fun b z => ?_⟩
  · obtain ⟨w, e1, a', e2, _, _, na, _⟩ := r.ent e he _ h1
    rw [h2] at e1
    cases e1; cases e2
    exact na ((hin a).mpr z)
  · rw [hA]
    exact ⟨n, o1, o2, hx, hy⟩
  · rw [hk b (fun q => nA ((hin b).mpr (.inl q))) fun q => nA ((hin b).mpr (.inr q))]
    exact r.base b z e nA
  · by_cases e1 : b = x
    · exact ⟨_, e1 ▸ hx⟩
    · by_cases e2 : b = y
      · exact ⟨_, e2 ▸ hy⟩
      · rw [hk b e1 e2]; exact r.live b z
theorem RelS.src {i : Nat} (R : RelS Z H σ T s) (e : s.sl[i]? = some (some .src)) : ∃ x y sr, Z.A = some (x, y) ∧ σ[i]? = some (some (.ref x)) ∧ s.src = some sr ∧ x ≠ y ∧ H x = some (.dK (srcKv y sr)) ∧ H y = some (.lst (sr.cells.map V.int)) := by
  obtain ⟨v, hv, hm⟩ := R.slot e
  obtain ⟨O, r⟩ := R.2
  obtain ⟨w, e1, x, y, hA, e2⟩ := r.ent _ hm _ rfl
  cases e1; cases e2
  have q := r.src
  rw [hA] at q
  cases hs : s.src with
  | none => rw [hs] at q; exact q.elim
  | some sr =>
    rw [hs] at q
    exact ⟨x, y, sr, hA, hv, rfl, q.1, q.2.2.2.1, q.2.2.2.2⟩
end
section
variable {X : Cx} {Z : Zx} {W : WX} {o e : Expr} {f : Ev} {i : Nat} {k : Str} {kj : Nat} {kp pos pos' p apos cpos : Pos} {H : Hp} {σ : L2.St} {T : List Ent} {s : S}
def rKey : R2 := fun x y H Q => ∃ a kvs k v, x = .ref a ∧ H a = some (.dK kvs) ∧ y = kV k ∧ valV kvs k = some v ∧ Q v H
theorem ixKey (hu : X.A.units + 64 < cLine) : IxR X rKey := by
  intro value slice pins s σ H x y v u Q I rx ry h hs
  obtain ⟨a, kvs, k, w, rfl, ha, rfl, hv, q⟩ := h
  cases rx
  have g : DGet H a (kV k) (some w) := hv ▸ DGet.k (k := k) ha
  exact subTail (dict_typeIs I g) PySem.F.slot_dict_getitem.lookup (d_getItem (by omega) I g ry fun w' s3 I3 rw' => ⟨w, H, I3, rw', q⟩) hs
theorem pe_key (hu : X.A.units + 64 < cLine) (ho : PE X o (tVar i)) (hs : PlainIx (.Constant (.str k) kj kp)) : PE X (.Subscript o (.Constant (.str k) kj kp) pos) (tOp rKey (tVar i) (tC (.str k))) := pe_ix (ixKey hu) ho pe_str hs
def SelOk (k : Str) (sel : Src → Int) : Prop := ∀ y s, valV (srcKv y s) (.inr k) = some (.int (sel s))
def cSrcG (i : Nat) (sel : Src → Int) : Ev := fun s => match s.sl[i]?, s.src with
  | some (some .src), some sr => .ok (.sh (.int (sel sr))) s
  | _, _ => .err
theorem snE_srcG {sel : Src → Int} (hk : SelOk k sel) (hu : X.A.units + 64 < cLine) (ho : PE X o (tVar i)) (hs : PlainIx (.Constant (.str k) kj kp)) : SnE X Z W (.Subscript o (.Constant (.str k) kj kp) pos) (cSrcG i sel) := fun _ => pe_imp (pe_key hu ho hs) fun σ H Q ⟨T, s, R, q⟩ => by
  unfold cSrcG at q
  split at q
  · rename_i sr e1 e2
    obtain ⟨x, y, sr', hA, hv, e3, ne, hx, hy⟩ := R.src e1
    rw [e2] at e3; cases e3
    exact ⟨.ref x, hv, x, _, .inr k, _, rfl, hx, rfl, hk y sr, q _ _ ⟨R.1, R.2.int _⟩⟩
  · exact q.elim
theorem valCells (y : Addr) (s : Src) : valV (srcKv y s) (.inr "cells") = some (.ref y) := rfl
theorem pe_cells (hu : X.A.units + 64 < cLine) (ho : PE X o (tVar i)) (hs : PlainIx (.Constant (.str "cells") kj kp)) : PE X (.Subscript o (.Constant (.str "cells") kj kp) pos) (fun σ H Q => ∃ x y s, σ[i]? = some (some (.ref x)) ∧ H x = some (.dK (srcKv y s)) ∧ Q (.ref y) H) :=
  pe_imp (pe_key hu ho hs) fun σ H Q ⟨x, y, s, h1, h2, q⟩ => ⟨.ref x, h1, x, _, .inr "cells", _, rfl, h2, rfl, valCells y s, q⟩
def cSrcLen (i : Nat) : Ev := fun s => match s.sl[i]?, s.src with
  | some (some .src), some sr => .ok (.sh (.int sr.cells.length)) s
  | _, _ => .err
theorem snE_srcLen {c : Expr} (hc : PE X c (fun σ H Q => ∃ x y s, σ[i]? = some (some (.ref x)) ∧ H x = some (.dK (srcKv y s)) ∧ Q (.ref y) H)) (hg : Gl X "len") (hm : X.mg "len" = none) (he : starEach (c :: []) X.env = (false, eval c X.env) :: starEach [] X.env := by rfl) :
    SnE X Z W (.Call (.Name "len" p) [c] [] pos) (cSrcLen i) := fun k => pe_imp (pe_callB call_len hg hm PyProof.Rows.Boot.«len» (pa_cons hc pa_nil he) (he := he)) fun σ H Q ⟨T, s, R, q⟩ => by
  unfold cSrcLen at q
  split at q
  · rename_i sr e1 e2
    obtain ⟨x, y, sr', hA, hv, e3, ne, hx, hy⟩ := R.src e1
    rw [e2] at e3; cases e3
    refine ⟨x, y, sr, hv, hx, .ref y, _, rfl, .inl ⟨_, SqL.of hy, rfl⟩, ?_⟩
    rw [List.length_map]
    exact q _ _ ⟨R.1, R.2.int _⟩
  · exact q.elim
def cSrcPop (i : Nat) : Ev := fun s => match s.sl[i]?, s.src with
  | some (some .src), some sr => match sr.cells[sr.cells.length - 1]? with
    | some n => .ok (.sh (.int n)) { s with src := some { sr with cells := sr.cells.dropLast } }
    | none => .err
  | _, _ => .err
theorem snE_srcPop {c : Expr} (hc : PE X c (fun σ H Q => ∃ x y s, σ[i]? = some (some (.ref x)) ∧ H x = some (.dK (srcKv y s)) ∧ Q (.ref y) H))
    (hbase : attributeBase c "pop" X.env (eval c X.env) = eval c X.env := by rfl) (hline : (apos.endLine == cpos.line) = true := by rfl) : SnE X Z W (.Call (.Attribute c "pop" apos) [] [] cpos) (cSrcPop i) := fun k =>
  pe_imp (pe_bm0 PySem.F.plainAttrs_list PySem.F.slot_list_pop PySem.F.type_list_pop mt_pop hc hbase hline) fun σ H Q ⟨T, s, R, q⟩ => by
  unfold cSrcPop at q
  split at q
  · rename_i sr e1 e2
    obtain ⟨x, y, sr', hA, hv, e3, ne, hx, hy⟩ := R.src e1
    rw [e2] at e3; cases e3
    split at q
    · rename_i n e4
      refine ⟨x, y, sr, hv, hx, .inl ⟨rfl, _, SqL.of hy⟩, y, _, .int n, rfl, rfl, hy, by rw [List.length_map, List.getElem?_map, e4]; rfl, q _ _ ⟨R.1, ?_⟩⟩
      have R2 : Rel Z H (some sr) (T ++ List.zip σ s.sl) := by rw [← e2]; exact R.2
      exact (R2.srcTo (sr' := { sr with cells := sr.cells.dropLast }) hA (fun b _ h => upd_ne h) (by rw [upd_ne ne]; exact hx) (by rw [upd_same, List.map_dropLast])).int n
    · exact q.elim
  · exact q.elim
def PutOk (k : Str) (put : Src → Int → Src) : Prop := ∀ y s n, putK (srcKv y s) (.inr k) (.int n) = srcKv y (put s n) ∧ (put s n).cells = s.cells
def cSrcSet (i : Nat) (put : Src → Int → Src) (f : Ev) : Sm := fun s => (f s).bind fun r s1 => match r, s1.sl[i]?, s1.src with
  | .sh (.int n), some (some .src), some sr => .ok .nx { s1 with src := some (put sr n) }
  | _, _, _ => .err
theorem snS_srcSet {put : Src → Int → Src} (hk : PutOk k put) (hu : X.A.units + 64 < cLine) (ho : PE X o (tVar i)) (he : SnE X Z W e f) (hs : swapsWithSole [.Subscript o (.Constant (.str k) kj kp) pos'] e pos.line X.env = pure false := by rfl)
    (hw : swappedStores [.Subscript o (.Constant (.str k) kj kp) pos'] e X.env = pure none := by rfl) (h1 : (assignEach [.Subscript o (.Constant (.str k) kj kp) pos'] X.env).map (·.2) = [assign (.Subscript o (.Constant (.str k) kj kp) pos') X.env] := by rfl)
    (ha : ∀ v, assign (.Subscript o (.Constant (.str k) kj kp) pos') X.env v = (do
      let ov ← holding [v] (eval o X.env)
      let iv ← holding [v, ov] (eval (.Constant (.str k) kj kp) X.env)
      standAt pos'
      holding [v, ov, iv] (setItem ov iv v)
      release [v, ov, iv] []) := by intro _; rfl) : SnS X Z W (.Assign [.Subscript o (.Constant (.str k) kj kp) pos'] e pos) (cSrcSet i put f) := fun zk => ps_imp (ps_asg (he zk) (pg_sub ho pe_str (set_dict (by omega)) ha) hs hw h1) fun D σ H ⟨T, s, R, q⟩ => by
  refine ⟨T, s, R, Res.sat_mono (Res.sat_bind.mp q) (fun r s1 q v H1 R1 => ?_) fun e s h => h σ⟩
  split at q
  · rename_i n sr e1 e2
    obtain ⟨x, y, sr', hA, hv, e3, ne, hx, hy⟩ := RelS.src R1 e1
    rw [e2] at e3; cases e3
    obtain ⟨O, R0⟩ := id R1.2
    have hr := shRp (x := (none, none)) (w := v) (d := .int n) (by simp) R0
    cases hr.int_inv
    obtain ⟨k1, k2⟩ := hk y sr n
    refine ⟨.ref x, hv, x, _, rfl, DPut.k (k := .inr k) hx (by show 4 < sizeLine; decide), q σ _ ⟨R1.1, ?_⟩⟩
    have R2 : Rel Z H1 (some sr) (T ++ List.zip σ s1.sl) := by rw [← e2]; exact R1.2.pop
    exact R2.srcTo hA (fun b h _ => upd_ne h) (by rw [upd_same, k1]) (by rw [upd_ne (Ne.symm ne), k2]; exact hy)
  · exact q.elim
theorem sel_left : SelOk "left" Src.left := fun _ _ => rfl
theorem sel_mixed : SelOk "mixed" Src.mixed := fun _ _ => rfl
theorem sel_turn : SelOk "turn" Src.turn := fun _ _ => rfl
def putLeft (s : Src) (n : Int) : Src := { s with left := n }
def putMixed (s : Src) (n : Int) : Src := { s with mixed := n }
def putTurn (s : Src) (n : Int) : Src := { s with turn := n }
theorem put_left : PutOk "left" putLeft := fun _ _ _ => ⟨rfl, rfl⟩
theorem put_mixed : PutOk "mixed" putMixed := fun _ _ _ => ⟨rfl, rfl⟩
theorem put_turn : PutOk "turn" putTurn := fun _ _ _ => ⟨rfl, rfl⟩
end
end Pw
set_option Elab.async false
set_option linter.all false
set_option maxRecDepth 100000
namespace Pw
open PySem PySem.Spec PyProof.Rows L2
section
variable {X : Cx} {Z : Zx} {W : WX} {o e a b : Expr} {es : List Expr} {f fa : Ev} {fb : Vw} {ga : Ag} {i : Nat} {x : Str} {p p1 p2 p3 pos pos' apos cpos : Pos} {H : Hp} {σ : L2.St} {T : List Ent} {s : S} {L : List Ent} {src : Option Src} {O : Addr → Prop} {v : V}
/-! ### module constants, functions by name -/
theorem snE_glob {d : D} (hg : Gl X x) (h : ∃ u, X.mg x = some u ∧ RelV (vOf d) u) (hf : flat d) (hd : (x == ("__debug__" : Str)) = false := by decide) : SnE X Z W (.Name x pos) (cD d) := snE_C (C8.pe_gc hg h hd) hf rfl
def cFn (a : Addr) : Ev := fun s => .ok (.fn a) s
theorem snE_fn {c : Addr} (hg : Gl X x) (hm : X.mg x = some (.ref c)) (hd : (x == ("__debug__" : Str)) = false := by decide) : SnE X Z W (.Name x pos) (cFn c) := fun _ => pe_imp (pe_glob (v := .ref c) hg hm rfl hd) fun σ H Q ⟨T, s, R, q⟩ => by
  refine q _ _ ⟨R.1, ?_⟩
  obtain ⟨O, r⟩ := R.2
  exact ⟨O, r.push mild_fn fun s q => by cases q; exact ⟨_, rfl, rfl⟩⟩
/-! ### built-ins of several arguments -/
def rCN (K : PySem.W.Frag) (g : List D → Option SV) : List V → Hp → VK → Prop := fun xs H Q => ∃ Z src L ds r, Z.K = K ∧ Rel Z H src L ∧ AllSh L xs ds ∧ g ds = some r ∧ ∀ v H', Rel Z H' src ((some v, some r) :: L) → Q v H'
def cCallN (g : List D → Option SV) (ga : Ag) : Ev := fun s => (ga s).bind fun rs s1 => match datas rs with
  | some ds => Res.opt (g ds) s1
  | none => .err
theorem rd_callN {g : List D → Option SV} {Q : VK} (q : LE Z W (cCallN g ga) σ H Q) : LA Z W ga σ H fun xs H1 => rCN Z.K g xs H1 Q := by
  obtain ⟨T, s, R, q⟩ := q
  refine ⟨T, s, R, Res.sat_mono (Res.sat_bind.mp q) (fun rs s1 q vs H1 hl R1 => ?_) fun e s h => h⟩
  split at q
  · rename_i ds ed
    obtain ⟨r, er, q⟩ := sat_opt q
    have e3 := datas_sh ed
    subst e3
    refine ⟨Z, s1.src, _, ds, r, rfl, R1.2, ⟨by simpa using hl, fun e he => List.mem_append_left _ (List.mem_append_left _ he)⟩, er, fun v H' R2 => q v H' ⟨R1.1, ?_⟩⟩
    have R3 : Rel Z H' s1.src (ents vs (ds.map .sh) ++ ((some v, some r) :: (T ++ List.zip σ s1.sl))) := R2.perm (by rw [List.append_assoc]; exact List.perm_middle.symm)
    exact Rel.popN _ R3
  · exact q.elim
theorem snE_callN {id : String} {g : List D → Option SV} (hc : CallR X (.builtin id) (rCN X.K g)) (hg : Gl X x) (hm : X.mg x = none) (hv : bootBuiltins x = some (.builtin id)) (ha : SnA X Z W (e :: es) ga) (hn : x ≠ "__name__" := by decide) (hdb : (x == ("__debug__" : Str)) = false := by decide)
    (he : starEach (e :: es) X.env = (false, eval e X.env) :: starEach es X.env := by rfl) (hpl : (backTo pos (starEach es X.env)).any (·.1) = false := by rfl) : SnE X Z W (.Call (.Name x p) (e :: es) [] pos) (cCallN g ga) := fun k =>
  pe_imp (pe_callB hc hg hm hv (ha k) hn hdb he hpl) fun σ H Q q => by
    have q := rd_callN q
    rw [← k] at q
    exact q
theorem AllSh.two {xs : List V} {d d' : D} (h : AllSh L xs [d, d']) : ∃ u v, xs = [u, v] ∧ (some u, some (SV.sh d)) ∈ L ∧ (some v, some (SV.sh d')) ∈ L := by
  obtain ⟨hl, h⟩ := h
  match xs, hl with
  | [u, v], _ => exact ⟨u, v, rfl, h _ (by simp [ents]), h _ (by simp [ents])⟩
def dMax2 : List D → Option SV
  | [.int i, .int j] => some (.sh (.int (if j > i then j else i)))
  | _ => none
def dMin2 : List D → Option SV
  | [.int i, .int j] => some (.sh (.int (if j < i then j else i)))
  | _ => none
theorem call_maxN (hc : X.calm = true) : CallR X (.builtin "max") (rCN X.K dMax2) := by
  intro pins s σ H xs us Q I rx h
  obtain ⟨Z, src, L, ds, r, hK, R, hs, e, q⟩ := h
  unfold dMax2 at e
  split at e
  · cases e
    obtain ⟨u, v, rfl, h1, h2⟩ := hs.two
    obtain ⟨O, R0⟩ := id R
    cases (shRp (x := (none, none)) h1 R0).int_inv
    cases (shRp (x := (none, none)) h2 R0).int_inv
    exact call_max2 hc pins s σ H _ us Q I rx ⟨_, _, rfl, q _ _ (R.int _)⟩
  · cases e
theorem call_minN (hc : X.calm = true) : CallR X (.builtin "min") (rCN X.K dMin2) := by
  intro pins s σ H xs us Q I rx h
  obtain ⟨Z, src, L, ds, r, hK, R, hs, e, q⟩ := h
  unfold dMin2 at e
  split at e
  · cases e
    obtain ⟨u, v, rfl, h1, h2⟩ := hs.two
    obtain ⟨O, R0⟩ := id R
    cases (shRp (x := (none, none)) h1 R0).int_inv
    cases (shRp (x := (none, none)) h2 R0).int_inv
    exact call_min2 hc pins s σ H _ us Q I rx ⟨_, _, rfl, q _ _ (R.int _)⟩
  · cases e
/-! ### bit_length -/
def cBits (f : Vw) : Ev := fun s => (f s).bind fun d s1 => match d with
  | .int n => .ok (.sh (.int (Builtin.Int.intBits n : Nat))) s1
  | _ => .err
theorem snE_bits (ho : SnV X Z W o fb) (hbase : attributeBase o "bit_length" X.env (eval o X.env) = eval o X.env := by rfl) (hline : (apos.endLine == pos.line) = true := by rfl) : SnE X Z W (.Call (.Attribute o "bit_length" apos) [] [] pos) (cBits fb) := fun k => pe_imp (pe_bits (ho k) hbase hline) fun σ H Q ⟨T, s, R, q⟩ => by
  refine ⟨T, s, R, Res.sat_mono (Res.sat_bind.mp q) (fun d s1 q v H1 T' R1 hv => ?_) fun e s h => h⟩
  split at q
  · obtain ⟨O, R0⟩ := id R1.2
    exact ⟨_, R0.int hv, q _ _ ⟨R1.1, Rel.int (RelS.popN R1).2 _⟩⟩
  · exact q.elim
/-! ### the list turned about -/
def cRev (f : Vw) : Ev := fun s => (f s).bind fun d s1 => match d with
  | .list ds => .ok (.own (.list ds.reverse)) s1
  | _ => .err
theorem snE_rev {k : Nat} (ho : SnV X Z W e fb) : SnE X Z W (.Subscript e (.Slice none none (some (.UnaryOp .USub (.Constant (.int 1) k p1) p2)) p3) pos) (cRev fb) := fun kz => pe_imp (pe_revL (ho kz)) fun σ H Q ⟨T, s, R, q⟩ => by
  refine ⟨T, s, R, Res.sat_mono (Res.sat_bind.mp q) (fun d s1 q v H1 T' R1 hv => ?_) fun e s h => h⟩
  split at q
  · obtain ⟨O, R0⟩ := id R1.2
    obtain ⟨c, xs, e1, hc, ra⟩ := R0.list hv
    refine ⟨c, xs, e1, SqL.of hc, fun p hp => q _ _ ⟨R1.1, ?_⟩⟩
    have R2 := R1.2.newListOf hp (xs := xs.reverse) fun O' R' => by
      obtain ⟨c', xs', e1', hc', ra'⟩ := R'.list hv
      rw [e1] at e1'
      cases e1'
      rw [hc] at hc'
      cases hc'
      exact ra'.reverse
    have R3 : Rel Z (upd H1 p (.lst xs.reverse)) s1.src (T' ++ ((some (.ref p), some (.own (.list _))) :: (T ++ List.zip σ s1.sl))) := R2.perm (by rw [List.append_assoc]; exact List.perm_middle.symm)
    exact Rel.popN _ R3
  · exact q.elim
/-! ### slices -/
def bnd (b : Option Vw) : S → Res (Option Int) := fun s => match b with
  | none => .ok none s
  | some f => (f s).bind fun d s1 => match d with
    | .int i => .ok (some i) s1
    | _ => .err
def SnO (X : Cx) (Z : Zx) (W : WX) (e : Option Expr) (b : Option Vw) : Prop := match e, b with
  | none, none => True
  | some e, some f => SnV X Z W e f
  | _, _ => False
def LO (Z : Zx) (W : WX) (b : Option Vw) : TO := fun σ H Q => ∃ T s, RelS Z H σ T s ∧ (bnd b s).sat (fun d s' => ∀ H', RelS Z H' σ T s' → Q d H') (ExP Z σ T W)
theorem po_of {e : Option Expr} {b : Option Vw} (h : SnO X Z W e b) (k : X.K = Z.K) : PO X e (LO Z W b) := by
  match e, b, h with
  | none, none, _ =>
    have := po_none (X := X)
    exact ⟨fun pins s σ H Q I ⟨T, s1, R, q⟩ => this.run pins s σ H Q I (q H R)⟩
  | some e, some f, h =>
    have := po_some (h k)
    refine ⟨fun pins s σ H Q I ⟨T, s1, R, q⟩ => this.run pins s σ H Q I ⟨T, s1, R, Res.sat_mono (Res.sat_bind.mp q) (fun d s2 q v H1 T' R1 hv => ?_) fun e s h => h⟩⟩
    split at q
    · obtain ⟨O, R0⟩ := id R1.2
      exact ⟨_, R0.int hv, q _ R1.popN⟩
    · exact q.elim
def cutD (ds : List D) (lo hi : Option Int) : List D := (ds.drop (HT.sIx ds.length 0 lo)).take (HT.sIx ds.length ds.length hi - HT.sIx ds.length 0 lo)
def dSl (d : D) (lo hi : Option Int) : Option SV := match d with
  | .list ds => some (.own (.list (cutD ds lo hi)))
  | .tuple ds => if HT.sIx ds.length 0 lo = 0 ∧ HT.sIx ds.length ds.length hi = ds.length then none else some (.sh (.tuple (cutD ds lo hi)))
  | .str z => if z.length ≤ sizeLine then some (.sh (.str (Txt.slice z lo hi))) else none
  | _ => none
def rSlD (K : PySem.W.Frag) : V → Option Int → Option Int → Hp → VK → Prop := fun x lo hi H Q => ∃ Z src L d r, Z.K = K ∧ Rel Z H src L ∧ Has L x d ∧ dSl d lo hi = some r ∧ ∀ v H', Rel Z H' src ((some v, some r) :: L) → Q v H'
theorem cut_rp {K} {O : Addr → Prop} {xs : List V} {ds : List D} {lo hi : Option Int} (r : RpA K H O xs ds) : RpA K H O (cutV xs lo hi) (cutD ds lo hi) := by
  unfold cutV cutD
  rw [r.length]
  exact (r.drop _).take _
theorem slR : SlR X (rSlD X.K) := by
  intro pins s σ H x v vl vu lo hi sl Q I rx hs pl pu h
  obtain ⟨Z, src, L, d, r, hK, R, hx, e, q⟩ := h
  obtain ⟨O, R0⟩ := id R
  unfold dSl at e
  split at e
  · cases e
    obtain ⟨c, xs, e1, hc, ra⟩ := R0.list hx
    refine sl_list pins s σ H x v vl vu lo hi sl Q I rx hs pl pu ⟨c, xs, e1, SqL.of hc, fun p hp => q _ _ (R.newListOf hp fun O' R' => ?_)⟩
    obtain ⟨c', xs', e1', hc', ra'⟩ := R'.list hx
    rw [e1] at e1'
    cases e1'
    rw [hc] at hc'
    cases hc'
    exact cut_rp ra'
  · split at e
    · cases e
    · rename_i hw
      cases e
      obtain ⟨c, xs, e1, hc, ra⟩ := R0.tuple hx
      rw [hK] at hc
      refine sl_tup pins s σ H x v vl vu lo hi sl Q I rx hs pl pu ⟨c, xs, e1, hc, by rw [ra.length]; exact hw, fun p hp => q _ _ (R.newTup hp fun O' R' => ?_)⟩
      obtain ⟨c', xs', e1', hc', ra'⟩ := R'.tuple hx
      rw [hK] at hc'
      rw [e1] at e1'
      cases e1'
      have := I.tuple_inj hc hc'
      subst this
      exact cut_rp ra'
  · split at e
    · rename_i hz
      cases e
      exact C8.sl_txt pins s σ H x v vl vu lo hi sl Q I rx hs pl pu ⟨_, R0.str hx, hz, q _ _ (R.str _)⟩
    · cases e
  · cases e
/-- the receiver's value is kept -/
def cSlE (f : Ev) (lo hi : Option Vw) : Ev := fun s => (f s).bind fun r s1 => (bnd lo s1).bind fun l s2 => (bnd hi s2).bind fun h s3 => match r.dat with
  | some d => Res.opt (dSl d l h) s3
  | none => .err
/-- the receiver's name is read late -/
def cSlV (i : Nat) (lo hi : Option Vw) : Ev := fun s => match datAt s i with
  | some _ => (bnd lo s).bind fun l s2 => (bnd hi s2).bind fun h s3 => match datAt s3 i with
    | some d => Res.opt (dSl d l h) s3
    | none => .err
  | none => .err
theorem exP_pop {e : Ex} {x : Ent} (h : ExP Z σ (x :: T) W e s) (hx : ∀ dd H', RelS Z H' σ ((some (.ref dd), some (.exd e.fs)) :: T) s → RelS Z H' σ ((some (.ref dd), some (.exd e.fs)) :: x :: T) s) : ExP Z σ T W e s := fun dd H' R => h dd H' (hx dd H' R)
theorem exP_popT {e : Ex} {x : Ent} (h : ExP Z σ T W e s) : ExP Z σ (x :: T) W e s := fun dd H' R => h dd H' ⟨R.1, (R.perm (List.Perm.swap _ _ _)).pop.2⟩
theorem snE_slE {lo hi : Option Expr} {l h : Option Vw} (ha : SnE X Z W e fa) (hl : SnO X Z W lo l) (hh : SnO X Z W hi h) : SnE X Z W (.Subscript e (.Slice lo hi none p2) pos) (cSlE fa l h) := fun k => pe_imp (pe_slice slR (ha k) (po_of hl k) (po_of hh k)) fun σ H Q ⟨T, s, R, q⟩ => by
  refine ⟨T, s, R, Res.sat_mono (Res.sat_bind.mp q) (fun r s1 q v H1 R1 => ?_) fun e s h => h⟩
  refine ⟨_, s1, R1, Res.sat_mono (Res.sat_bind.mp q) (fun l s2 q H2 R2 => ?_) fun e s h => exP_popT h⟩
  refine ⟨_, s2, R2, Res.sat_mono (Res.sat_bind.mp q) (fun h s3 q H3 R3 => ?_) fun e s h => exP_popT h⟩
  split at q
  · rename_i d ed
    obtain ⟨r', er, q⟩ := sat_opt q
    exact ⟨Z, s3.src, _, d, r', k.symm, R3.2, ⟨r, by simp, ed⟩, er, fun w H' R' => q w H' ⟨R3.1, (Rel.perm R' (List.Perm.swap _ _ _)).pop⟩⟩
  · exact q.elim
theorem snE_slV {lo hi : Option Expr} {l h : Option Vw} (ho : PE X e (tVar i)) (hl : SnO X Z W lo l) (hh : SnO X Z W hi h) : SnE X Z W (.Subscript e (.Slice lo hi none p2) pos) (cSlV i l h) := fun k => pe_imp (pe_slice slR ho (po_of hl k) (po_of hh k)) fun σ H Q ⟨T, s, R, q⟩ => by
  unfold cSlV at q
  split at q
  · rename_i d0 e0
    obtain ⟨v, hv, _⟩ := R.datAt e0
    refine ⟨v, hv, T, s, R, Res.sat_mono (Res.sat_bind.mp q) (fun l s2 q H2 R2 => ?_) fun e s h => h⟩
    refine ⟨T, s2, R2, Res.sat_mono (Res.sat_bind.mp q) (fun h s3 q H3 R3 => ?_) fun e s h => h⟩
    split at q
    · rename_i d ed
      obtain ⟨r', er, q⟩ := sat_opt q
      obtain ⟨v', hv', hm⟩ := R3.datAt ed
      rw [hv] at hv'
      cases hv'
      exact ⟨Z, s3.src, _, d, r', k.symm, R3.2, hm, er, fun w H' R' => q w H' ⟨R3.1, R'⟩⟩
    · exact q.elim
  · exact q.elim
/-! ### lists of a range, of a dict's items -/
def cListRg (f : Vw) : Ev := fun s => (f s).bind fun d s1 => match d with
  | .int j => if -(2 ^ 62) ≤ j ∧ j < 2 ^ 62 ∧ j.toNat ≤ 2 ^ 24 then .ok (.own (.list (rgD 0 j.toNat))) s1 else .err
  | _ => .err
def cListRg2 (f g : Vw) : Ev := fun s => (f s).bind fun d s1 => match d with
  | .int i => (g s1).bind fun d' s2 => match d' with
    | .int j => if -(2 ^ 62) ≤ i ∧ i < 2 ^ 62 ∧ -(2 ^ 62) ≤ j ∧ j < 2 ^ 62 ∧ (j - i).toNat ≤ 2 ^ 24 then .ok (.own (.list (rgD i (j - i).toNat))) s2 else .err
    | _ => .err
  | _ => .err
theorem rp_rg {K} {O : Addr → Prop} {i j : Int} : RpA K H O (rgV i j) (rgD i (j - i).toNat) := by
  unfold rgV rgD
  generalize (j - i).toNat = n
  induction n with
  | zero => exact .nil
  | succ n ih =>
    rw [List.range_succ, List.map_append, List.map_append]
    exact ih.append (.cons (.int _) .nil)
theorem rel_rg {i j : Int} {q : Addr} (R : RelS Z H σ T s) (hq : H q = none) : RelS Z (upd H q (.lst (rgV i j))) σ ((some (.ref q), some (.own (.list (rgD i (j - i).toNat)))) :: T) s := ⟨R.1, R.2.newListOf hq fun O _ => rp_rg⟩
theorem snE_listRg1 (hc : X.calm = true) (hgl : Gl X "list") (hml : X.mg "list" = none) (hg : Gl X "range") (hm : X.mg "range" = none) (ha : SnV X Z W a fb) (na : starEach [a] X.env = (false, eval a X.env) :: starEach [] X.env := by rfl)
    (nb : starEach [.Call (.Name "range" p1) [a] [] p2] X.env = (false, eval (.Call (.Name "range" p1) [a] [] p2) X.env) :: starEach [] X.env := by rfl) : SnE X Z W (.Call (.Name "list" p) [.Call (.Name "range" p1) [a] [] p2] [] pos) (cListRg fb) := fun k =>
  pe_imp (pe_listRg hc hgl hml (prg_1 hg hm (ha k) na) nb) fun σ H Q ⟨T, s, R, q⟩ => by
  refine ⟨T, s, R, Res.sat_mono (Res.sat_bind.mp q) (fun d s1 q v H1 T' R1 hv => ?_) fun e s h => h⟩
  split at q
  · rename_i j
    split at q
    · rename_i hz
      obtain ⟨O, R0⟩ := id R1.2
      refine ⟨j, R0.int hv, ⟨by decide, by decide, hz.1, hz.2.1, by rw [Int.sub_zero]; exact hz.2.2⟩, fun p hp => q _ _ ?_⟩
      have := rel_rg (i := 0) (j := j) R1.popN hp
      rwa [Int.sub_zero] at this
    · exact q.elim
  · exact q.elim
theorem snE_listRg2 {fc : Vw} (hc : X.calm = true) (hgl : Gl X "list") (hml : X.mg "list" = none) (hg : Gl X "range") (hm : X.mg "range" = none) (ha : SnV X Z W a fb) (hb : SnV X Z W b fc) (na : starEach [a, b] X.env = (false, eval a X.env) :: starEach [b] X.env := by rfl) (nb : starEach [b] X.env = (false, eval b X.env) :: starEach [] X.env := by rfl)
    (nc : starEach [.Call (.Name "range" p1) [a, b] [] p2] X.env = (false, eval (.Call (.Name "range" p1) [a, b] [] p2) X.env) :: starEach [] X.env := by rfl) (hp : (backTo p2 (starEach [b] X.env)).any (·.1) = false := by rfl) : SnE X Z W (.Call (.Name "list" p) [.Call (.Name "range" p1) [a, b] [] p2] [] pos) (cListRg2 fb fc) := fun k =>
  pe_imp (pe_listRg hc hgl hml (prg_2 hg hm (ha k) (hb k) na nb hp) nc) fun σ H Q ⟨T, s, R, q⟩ => by
  refine ⟨T, s, R, Res.sat_mono (Res.sat_bind.mp q) (fun d s1 q v H1 T' R1 hv => ?_) fun e s h => h⟩
  split at q
  · rename_i i
    refine ⟨T' ++ T, s1, R1, Res.sat_mono (Res.sat_bind.mp q) (fun d s2 q v2 H2 T2 R2 hv2 => ?_) fun e s h => h.less T'⟩
    obtain ⟨O, R0⟩ := id R1.2
    have ev := R0.int hv
    split at q
    · rename_i j
      split at q
      · rename_i hz
        obtain ⟨O2, R02⟩ := id R2.2
        exact ⟨i, j, ev, R02.int hv2, hz, fun p hp => q _ _ (rel_rg R2.popN.popN hp)⟩
      · exact q.elim
    · exact q.elim
  · exact q.elim
def itemsD (ds : List (D × D)) : List D := ds.map fun p => .tuple [p.1, p.2]
def cItems (f : Vw) : Ev := fun s => (f s).bind fun d s1 => match d with
  | .dict ds => .ok (.own (.list (itemsD ds))) s1
  | _ => .err
theorem rp_key {K} {O : Addr → Prop} (k : Key) : Rp K H O (kV k) (keyD k) := by
  cases k
  · exact .int _
  · exact .str _
theorem rp_items {K} {O O2 : Addr → Prop} {H' : Hp} (hk : ∀ b o, H b = some o → H' b = some o) (ho : ∀ b, O2 b → O b ∨ H b = none) : ∀ {kvs : List (Key × V)} {ds : List (D × D)} {ts : List Addr}, RpD K H O kvs ds → (∀ t ∈ ts, ¬ O2 t) → Paired (fun (t : Addr) (q : Key × V) => H' t = some (.tup [kV q.1, q.2])) ts kvs → RpA K H' O2 (ts.map V.ref) (itemsD ds)
  | _, _, [], .nil, _, _ => .nil
  | _, _, _ :: _, .nil, _, p => by cases p
  | _, _, [], .cons _ _, _, p => by cases p
  | _, _, t :: ts, .cons (k := k) r rs, hn, .cons h p => .cons (.tup h (hn t List.mem_cons_self) (.cons (rp_key _) (.cons (r.keep (fun b x e _ => hk b x e) ho) .nil))) (rp_items hk ho rs (fun t ht => hn t (List.mem_cons_of_mem _ ht)) p)
theorem Rel.grown (R : Rel Z H src L) {H' : Hp} (hk : ∀ b o, H b = some o → H' b = some o) : Rel Z H' src L := by
  obtain ⟨O, r⟩ := R
  exact ⟨O, r.oc, fun e he => (Stp.of_keep hk).ent .none (r.ent e he), r.ap, srcOk_step _ (fun b x _ e => hk b x e) (fun _ _ o => o) r.src, fun b x e n => hk b x (r.base b x e n), fun b z => let ⟨x, e⟩ := r.live b z; ⟨x, hk b x e⟩⟩
/-- an object that came beside, told as a list -/
theorem Rel.ownAt {H' : Hp} {p : Addr} {vs : List V} {ds : List D} (R : Rel Z H src L) (hk : ∀ b o, H b = some o → H' b = some o) (hp : H p = none) (hv : H' p = some (.lst vs)) (hr : ∀ O, RelO Z H src L O → RpA Z.K H' (fun b => O b ∨ b = p) vs ds) : Rel Z H' src ((some (.ref p), some (.own (.list ds))) :: L) := by
  obtain ⟨O, r⟩ := R
  have t : Stp H H' O (fun b => O b ∨ b = p) (fun _ => False) := ⟨fun b x e _ => hk b x e, fun _ z => z.elim, fun b z => z.elim .inl fun z => .inr (z ▸ hp), fun _ z _ => .inl z⟩
  have nA := r.freshA hp (srcOk_some r.src)
  refine ⟨fun b => O b ∨ b = p, fun b z => .inl (r.oc b z), fun f hf => ?_, List.pairwise_cons.mpr ⟨fun f hf => ?_, r.ap⟩, srcOk_step _ (fun b x _ e => hk b x e) (fun _ _ o => .inl o) r.src, fun b x e n => hk b x (r.base b x e n), fun b z => ?_⟩
  · rcases List.mem_cons.mp hf with rfl | hf
    · intro s q
      cases q
      exact ⟨_, rfl, p, rfl, .inr rfl, ⟨r.fresh0 hp nA, fun z => r.fresh hp (r.oc p z)⟩, nA, vs, hv, hr O r⟩
    · exact t.ent .none (r.ent f hf)
  · intro d1 d2 a h1 h2 h3 h4
    obtain ⟨w, e1, a', e2, oa, _⟩ := r.ent f hf _ h2
    rw [e1] at h4
    have h3 : some (V.ref p) = some (V.ref a) := h3
    injection h3 with h3
    injection h3 with h3
    injection h4 with h4
    rw [e2] at h4
    injection h4 with h4
    rw [h4, ← h3] at oa
    exact r.fresh hp oa
  · rcases z with z | rfl
    · obtain ⟨x, e⟩ := r.live b z
      exact ⟨x, hk b x e⟩
    · exact ⟨_, hv⟩
theorem snE_items (hc : X.calm = true) (he : SnV X Z W e fb) (hg : Gl X "list") (hm : X.mg "list" = none) (hbase : attributeBase e "items" X.env (eval e X.env) = eval e X.env := by rfl) (hline : (apos.endLine == cpos.line) = true := by rfl)
    (hs : starEach [.Call (.Attribute e "items" apos) [] [] cpos] X.env = (false, eval (.Call (.Attribute e "items" apos) [] [] cpos) X.env) :: starEach [] X.env := by rfl) : SnE X Z W (.Call (.Name "list" p) [.Call (.Attribute e "items" apos) [] [] cpos] [] pos) (cItems fb) := fun k =>
  pe_imp (LiI.pe_listItems hc (he k) hg hm PyProof.Rows.Boot.«list» hbase hline hs) fun σ H Q ⟨T, s, R, q⟩ => by
  refine ⟨T, s, R, Res.sat_mono (Res.sat_bind.mp q) (fun d s1 q v H1 T' R1 hv => ?_) fun e s h => h⟩
  split at q
  · obtain ⟨O, R0⟩ := id R1.2
    obtain ⟨c, xs, e1, hc, ra⟩ := R0.dict hv
    refine ⟨c, xs, e1, hc, fun H2 p ts hk hp hts hpts hl hpair => q _ _ ⟨R1.1, ?_⟩⟩
    have R2 := R1.2.ownAt hk hp hl fun O' R' => by
      obtain ⟨c', xs', e1', hc', ra'⟩ := R'.dict hv
      rw [e1] at e1'
      cases e1'
      rw [hc] at hc'
      cases hc'
      refine rp_items hk (fun b z => z.elim .inl fun z => .inr (z ▸ hp)) ra' (fun t ht z => ?_) hpair
      rcases z with z | rfl
      · exact R'.fresh (hts t ht) z
      · exact hpts ht
    have R3 : Rel Z H2 s1.src (T' ++ ((some (.ref p), some (.own (.list (itemsD _)))) :: (T ++ List.zip σ s1.sl))) := R2.perm (by rw [List.append_assoc]; exact List.perm_middle.symm)
    exact Rel.popN _ R3
  · exact q.elim
end
end Pw
set_option Elab.async false
set_option linter.all false
set_option maxRecDepth 100000
namespace Pw
open PySem PySem.Spec PyProof.Rows L2
section
variable {X : Cx} {Z : Zx} {W : WX} {o e a b : Expr} {es : List Expr} {f fa : Ev} {fb : Vw} {ga : Ag} {i k : Nat} {x : Str} {p p1 p2 pos : Pos} {H : Hp} {σ : L2.St} {T : List Ent} {s : S} {L : List Ent} {src : Option Src} {O : Addr → Prop} {v : V}
/-! ### displays of dicts -/
def cNewD : Ev := fun s => .ok (.own (.dict [])) s
theorem snE_newD : SnE X Z W (.Dict [] [] pos) cNewD := fun _ => pe_imp pe_dnewK fun σ H Q ⟨T, s, R, q⟩ p hp => q _ _ ⟨R.1, R.2.newDictOf hp fun O _ => .nil⟩
def cPairs : List (Ev × Ev) → S → Res (List (D × D))
  | [], s => .ok [] s
  | (fk, fv) :: r, s => (fk s).bind fun k s1 => (fv s1).bind fun v s2 => match k.settle, v.settle with
    | .sh dk, .sh dv => (cPairs r s2).bind fun ps s3 => .ok ((dk, dv) :: ps) s3
    | _, _ => .err
def keysD : List (D × D) → Option (List (Key × D))
  | [] => some []
  | (.int i, d) :: r => (keysD r).map ((.inl i, d) :: ·)
  | (.str i, d) :: r => (keysD r).map ((.inr i, d) :: ·)
  | _ => none
def putAll (ds : List (D × D)) (ps : List (Key × D)) : List (D × D) := ps.foldl (fun a p => dPut a p.1 p.2) ds
def cDisp (fs : List (Ev × Ev)) : Ev := fun s => (cPairs fs s).bind fun ps s1 => match keysD ps with
  | some ks => if ks.length ≤ 15 then .ok (.own (.dict (putAll [] ks))) s1 else .err
  | none => .err
def trsOf (Z : Zx) (W : WX) (fs : List (Ev × Ev)) : List (TE × TE) := fs.map fun f => (LE Z W f.1, LE Z W f.2)
inductive SnPs (X : Cx) (Z : Zx) (W : WX) : List (Option Expr) → List Expr → List (Ev × Ev) → Prop
  | nil : SnPs X Z W [] [] []
  | cons {k v : Expr} {ks : List (Option Expr)} {vs : List Expr} {fk fv : Ev} {fs : List (Ev × Ev)} : SnE X Z W k fk → SnE X Z W v fv → SnPs X Z W ks vs fs → SnPs X Z W (some k :: ks) (v :: vs) ((fk, fv) :: fs)
theorem SnPs.pps {ks : List (Option Expr)} {vs : List Expr} {fs : List (Ev × Ev)} (h : SnPs X Z W ks vs fs) (zk : X.K = Z.K) : PPs X pos ks vs (trsOf Z W fs) := by
  induction h with
  | nil => exact pps_nil
  | cons h1 h2 _ ih => exact pps_cons (h1 zk) (h2 zk) ih
def pEnts (ps : List (V × V)) (ds : List (D × D)) : List Ent := (List.zip ps ds).flatMap fun p => [(some p.1.1, some (.sh p.2.1)), (some p.1.2, some (.sh p.2.2))]
theorem rd_pairs : ∀ (fs : List (Ev × Ev)) {T : List Ent} {s : S} {H : Hp} {Q : List (V × V) → Hp → Prop}, RelS Z H σ T s → (cPairs fs s).sat (fun ds s' => ∀ ps H', ps.length = ds.length → RelS Z H' σ (pEnts ps ds ++ T) s' → Q ps H') (ExP Z σ T W) → tPairs (trsOf Z W fs) σ H Q
  | [], T, s, H, Q, R, q => q [] H rfl R
  | (fk, fv) :: fs, T, s, H, Q, R, q => by
    refine ⟨T, s, R, Res.sat_mono (Res.sat_bind.mp q) (fun k s1 q v H1 R1 => ?_) fun e s h => h⟩
    refine ⟨_, s1, R1, Res.sat_mono (Res.sat_bind.mp q) (fun k2 s2 q v2 H2 R2 => ?_) fun e s h => exP_popT h⟩
    have R3 := RelS.settleAny (RelS.perm R2.settleAny (List.Perm.swap _ _ _))
    split at q
    · rename_i dk dv e1 e2
      rw [e1, e2] at R3
      refine rd_pairs fs R3 (Res.sat_mono (Res.sat_bind.mp q) (fun ds s3 q ps H3 hl R4 => ?_) fun e s h => exP_popT (exP_popT h))
      refine q ((v, v2) :: ps) H3 (by simpa using hl) (R4.perm ?_)
      have e : pEnts ((v, v2) :: ps) ((dk, dv) :: ds) = (some v, some (.sh dk)) :: (some v2, some (.sh dv)) :: pEnts ps ds := rfl
      rw [e]
      exact List.perm_middle.trans ((List.perm_middle).cons _)
    · exact q.elim
theorem rp_keyInv {K} {O : Addr → Prop} {w : V} {d : D} {c : Key} (h : Rp K H O w d) (e : d = keyD c) : w = kV c := by
  subst e
  cases c
  · exact h.int_inv
  · exact h.str_inv
theorem pairs_keys (hR : RelO Z H src L O) : ∀ {ps : List (V × V)} {ds : List (D × D)} {ks : List (Key × D)}, ps.length = ds.length → (∀ e ∈ pEnts ps ds, e ∈ L) → keysD ds = some ks → ∃ kvs : List (Key × V), ps = kvs.map (fun kv => (kV kv.1, kv.2)) ∧ Paired (fun (p : Key × V) (q : Key × D) => p.1 = q.1 ∧ Rp Z.K H O p.2 q.2) kvs ks
  | [], [], ks, _, _, e => by cases e; exact ⟨[], rfl, .nil⟩
  | [], _ :: _, _, h, _, _ => by simp at h
  | _ :: _, [], _, h, _, _ => by simp at h
  | (v, w) :: ps, (dk, dv) :: ds, ks, hl, hm, e => by
    have m1 := hm (some v, some (.sh dk)) (by simp [pEnts])
    have m2 := hm (some w, some (.sh dv)) (by simp [pEnts])
    have hm' : ∀ e ∈ pEnts ps ds, e ∈ L := fun e he => hm e (by simp only [pEnts, List.zip_cons_cons, List.flatMap_cons]; exact List.mem_append_right _ he)
    have r1 := shRp (x := (none, none)) m1 hR
    have r2 := shRp (x := (none, none)) m2 hR
    cases dk <;> simp only [keysD, reduceCtorEq] at e
    · obtain ⟨ks', e1, rfl⟩ := Option.map_eq_some_iff.mp e
      obtain ⟨kvs, rfl, pr⟩ := pairs_keys hR (by simpa using hl) hm' e1
      cases r1.int_inv
      exact ⟨(.inl _, w) :: kvs, rfl, .cons ⟨rfl, r2⟩ pr⟩
    · obtain ⟨ks', e1, rfl⟩ := Option.map_eq_some_iff.mp e
      obtain ⟨kvs, rfl, pr⟩ := pairs_keys hR (by simpa using hl) hm' e1
      cases r1.str_inv
      exact ⟨(.inr _, w) :: kvs, rfl, .cons ⟨rfl, r2⟩ pr⟩
theorem kV_inj {a b : Key} (h : kV a = kV b) : a = b := by
  cases a <;> cases b <;> first | (cases h; rfl) | (cases h)
theorem map_inj_kv : ∀ {l m : List (Key × V)}, l.map (fun kv => (kV kv.1, kv.2)) = m.map (fun kv => (kV kv.1, kv.2)) → l = m
  | [], [], _ => rfl
  | [], _ :: _, h => by simp at h
  | _ :: _, [], h => by simp at h
  | (a, b) :: l, (c, d) :: m, h => by
    simp only [List.map_cons, List.cons.injEq, Prod.mk.injEq] at h
    obtain ⟨⟨h1, h2⟩, h3⟩ := h
    rw [kV_inj h1, h2, map_inj_kv h3]
theorem merge_rp {K} {O : Addr → Prop} : ∀ {kvs : List (Key × V)} {ks : List (Key × D)} {acc : List (Key × V)} {ds : List (D × D)}, Paired (fun (p : Key × V) (q : Key × D) => p.1 = q.1 ∧ Rp K H O p.2 q.2) kvs ks → RpD K H O acc ds → RpD K H O (mergeK acc kvs) (putAll ds ks)
  | _, _, _, _, .nil, r => r
  | _, _, _, _, .cons (a := p) (b := q) h t, r => by
    obtain ⟨h1, h2⟩ := h
    have := merge_rp t (r.put p.1 h2)
    unfold mergeK putAll at this ⊢
    rw [List.foldl_cons, List.foldl_cons, ← h1]
    exact this
theorem snE_disp {ks : List (Option Expr)} {vs : List Expr} {fs : List (Ev × Ev)} (h : SnPs X Z W ks vs fs) (hall : ks.all (·.isSome) = true := by rfl) (hl : ks.length = vs.length := by rfl) (h0 : ks ≠ [] := by decide) (h15 : ks.length ≤ 15 := by decide) : SnE X Z W (.Dict ks vs pos) (cDisp fs) := fun zk =>
  pe_imp (pe_disp (h.pps zk) hall hl h0 h15) fun σ H Q ⟨T, s, R, q⟩ p hp => by
  have R1 : RelS Z (upd H p (.dK [])) σ ((some (.ref p), some (.own (.dict []))) :: T) s := ⟨R.1, R.2.newDictOf hp fun O _ => .nil⟩
  refine rd_pairs fs R1 (Res.sat_mono (Res.sat_bind.mp q) (fun ds s1 q ps H1 hlen R2 => ?_) fun e s h => exP_popT h)
  split at q
  · rename_i kk ek
    split at q
    · rename_i hz
      have R3 : Rel Z H1 s1.src ((some (.ref p), some (.own (.dict []))) :: (pEnts ps ds ++ (T ++ List.zip σ s1.sl))) := R2.2.perm (by rw [List.append_assoc, List.cons_append]; exact List.perm_middle)
      obtain ⟨O, R0⟩ := id R3
      obtain ⟨w, e1, c, e2, oc, _, _, ys, hy, ry⟩ := R0.ent _ List.mem_cons_self _ rfl
      cases e1; cases e2
      cases ry
      have hm : ∀ e ∈ pEnts ps ds, e ∈ (some (V.ref p), some (SV.own (.dict []))) :: (pEnts ps ds ++ (T ++ List.zip σ s1.sl)) := fun e he => List.mem_cons_of_mem _ (List.mem_append_left _ he)
      obtain ⟨kvs, ep, pr⟩ := pairs_keys R0 hlen hm ek
      have lk : kvs.length ≤ 15 := by rw [Paired.length pr]; exact hz
      refine ⟨hy, kvs, ep, lk, q _ _ ⟨R2.1, ?_⟩⟩
      have R4 := R3.updOwn (o := .dK (mergeK [] kvs)) (d' := .dict (putAll [] kk)) fun O' R' rO oa => by
        obtain ⟨kvs', ep', pr'⟩ := pairs_keys R' hlen hm ek
        have ee : kvs' = kvs := by
          have : kvs'.map (fun kv => (kV kv.1, kv.2)) = kvs.map (fun kv => (kV kv.1, kv.2)) := ep'.symm.trans ep
          exact map_inj_kv this
        subst ee
        refine ⟨_, upd_same, (merge_rp pr' .nil).keep (fun b x e n => ?_) fun b z => .inl z⟩
        rw [upd_ne (fun z => n (by rw [z]; exact oa))]
        exact e
      have R5 : Rel Z (upd H1 p (.dK (mergeK [] kvs))) s1.src (pEnts ps ds ++ ((some (.ref p), some (.own (.dict (putAll [] kk)))) :: (T ++ List.zip σ s1.sl))) := R4.perm List.perm_middle.symm
      exact Rel.popN _ R5
    · exact q.elim
  · exact q.elim
/-! ### a tuple of functions -/
def fnsOf : List SV → Option (List Addr)
  | [] => some []
  | .fn a :: r => (fnsOf r).map (a :: ·)
  | _ => none
def cTupF (g : Ag) : Ev := fun s => (g s).bind fun rs s1 => match fnsOf rs with
  | some as => if as.length ≤ sizeLine then .ok (.fns as) s1 else .err
  | none => .err
theorem fns_vals : ∀ {vs : List V} {rs : List SV} {as : List Addr}, vs.length = rs.length → fnsOf rs = some as → (∀ e ∈ ents vs rs, EntOk Z H O e) → vs = as.map V.ref
  | [], [], as, _, e, _ => by cases e; rfl
  | v :: vs, r :: rs, as, hl, e, h => by
    cases r <;> first | (simp [fnsOf] at e; done) | skip
    rename_i c
    simp only [fnsOf, Option.map_eq_some_iff] at e
    obtain ⟨as', e1, rfl⟩ := e
    obtain ⟨w, e2, q⟩ := h (some v, some (.fn c)) (by simp [ents]) _ rfl
    cases e2
    have q : v = .ref c := q
    rw [q, fns_vals (vs := vs) (rs := rs) (by simpa using hl) e1 fun e he => h e (by simp only [ents, List.map_cons, List.zip_cons_cons]; exact List.mem_cons_of_mem _ he)]
    rfl
  | [], _ :: _, _, h, _, _ => by simp at h
  | _ :: _, [], _, h, _, _ => by simp at h
theorem snE_tupF {g : Ag} {x1} (h : SnA X Z W es g) : SnE X Z W (.Tuple es x1 pos) (cTupF g) := fun k => pe_imp (pe_tup (h k)) fun σ H Q ⟨T, s, R, q⟩ => by
  refine ⟨T, s, R, Res.sat_mono (Res.sat_bind.mp q) (fun rs s1 q vs H1 hl R1 => ?_) fun e s h => h⟩
  split at q
  · rename_i as e
    split at q
    · rename_i hz
      obtain ⟨O, r⟩ := R1.2
      have ev := fns_vals hl e fun x hx => r.ent x (by simp [hx])
      subst ev
      refine ⟨by simpa using hz, fun p hp => q _ _ ⟨R1.1, ?_⟩⟩
      have r2 : RelO Z (upd H1 p (.tup (as.map V.ref))) s1.src ((some (.ref p), some (.fns as)) :: (ents (as.map V.ref) rs ++ T ++ List.zip σ s1.sl)) O := (r.new hp).push mild_fns fun s q => by
        cases q
        exact ⟨_, rfl, p, rfl, r.fresh hp, upd_same⟩
      have r3 : Rel Z (upd H1 p (.tup (as.map V.ref))) s1.src (ents (as.map V.ref) rs ++ ((some (.ref p), some (.fns as)) :: (T ++ List.zip σ s1.sl))) := Rel.perm ⟨O, r2⟩ (by rw [List.append_assoc]; exact List.perm_middle.symm)
      exact Rel.popN _ r3
    · exact q.elim
  · exact q.elim
/-! ### a function that a name holds -/
abbrev Tab := Addr → Option (Nat × Fd)
structure HeldG (P : Program) (w : World) (K : PySem.W.Frag) (mg : Str → Option Value) (base : Heap) (k : Nat) (c : Addr) (np : Nat) (F : Fd) : Prop where
  ex : ∃ (fd : FuncData) (ps : List Str), ps.length = np ∧ FnG P w K mg base k c fd ps (spF K np F) ∧ PySem.W.keepIn K (.ref c) = true ∧ Binds K fd ps []
def cCallL (i : Nat) (tab : Tab) (ga : Ag) : Ev := fun s => match s.sl[i]? with
  | some (some (.fn c)) => match tab c with
    | some (np, F) => (ga s).bind fun rs s1 => appF np F rs s1
    | none => .err
  | _ => .err
theorem pe_GL {t : TA} {c : Addr} {fd : FuncData} {ps : List Str} {sp : Sp} (G : FnG X.prog X.w X.K X.mg X.base k c fd ps sp) (hr : Room k X.A) (hgd : X.A.guards = some []) (hx : PE X (.Name x p) (tVar i)) (hk : PySem.W.keepIn X.K (.ref c) = true) (hb : Binds X.K fd ps []) (tk : Takes X W) (ha : PA X (e :: es) t)
    (he : starEach (e :: es) X.env = (false, eval e X.env) :: starEach es X.env := by rfl) (hpl : (backTo pos (starEach es X.env)).any (·.1) = false := by rfl) : PE X (.Call (.Name x p) (e :: es) [] pos) (fun σ H Q => σ[i]? = some (some (.ref c)) ∧ tG sp (WE W) t σ H Q) := by
  refine ⟨fun pins s σ H Q I ⟨hs, h⟩ => wpAny_Call_Name_kw (thn (hx.run pins s σ H (fun v H1 => v = .ref c ∧ H1 = H) I ⟨.ref c, hs, rfl, rfl⟩) fun u s1 ⟨v, H1, I1, r1, q1, q2⟩ => ?_)⟩
  subst q1 q2
  cases r1
  exact PySem.W.callWith_K (h₀ := X.base) I.ok.mod.kin hk (thn (ha.run pos pins s1 σ _ _ I1 h) fun us s2 ⟨vs, H2, I2, r, q⟩ => ⟨I2.kIn, runG G hr hgd hb tk I2 r q⟩) he hpl
theorem snE_callL {tab : Tab} (A : ∀ c np F, tab c = some (np, F) → HeldG X.prog X.w X.K X.mg X.base k c np F) (hr : Room k X.A) (hgd : X.A.guards = some []) (hx : PE X (.Name x p) (tVar i)) (tk : Takes X W) (ha : SnA X Z W (e :: es) ga)
    (he : starEach (e :: es) X.env = (false, eval e X.env) :: starEach es X.env := by rfl) (hpl : (backTo pos (starEach es X.env)).any (·.1) = false := by rfl) : SnE X Z W (.Call (.Name x p) (e :: es) [] pos) (cCallL i tab ga) := fun zk => by
  refine ⟨fun pins s σ H Q I ⟨T, s0, R, q⟩ => ?_⟩
  unfold cCallL at q
  split at q
  · rename_i c e0
    split at q
    · rename_i np F et
      obtain ⟨fd, ps, hn, G, hk, hb⟩ := (A c np F et).ex
      subst hn
      obtain ⟨v, hv, hm⟩ := R.slot e0
      obtain ⟨O, R0⟩ := id R.2
      obtain ⟨w, e1, e2⟩ := R0.ent _ hm _ rfl
      cases e1
      have e2 : v = .ref c := e2
      subst e2
      refine (pe_GL G hr hgd hx hk hb tk (ha zk) he hpl).run pins s σ H Q I ⟨hv, T, s0, R, Res.sat_mono (Res.sat_bind.mp q) (fun rs s1 q vs H1 hl R1 => ?_) fun e s h => h⟩
      exact spF_of zk.symm hl R1 q
    · exact q.elim
  · exact q.elim
end
end Pw
set_option Elab.async false
set_option linter.all false
set_option maxRecDepth 100000
namespace Pw
open PySem PySem.Spec PyProof.Rows L2
section
variable {X : Cx} {Z : Zx} {W : WX} {o e a b c : Expr} {es : List Expr} {f fa fb' : Ev} {fb fc : Vw} {ga : Ag} {i k : Nat} {x : Str} {p p1 p2 pos : Pos} {H : Hp} {σ : L2.St} {T : List Ent} {s : S} {L : List Ent} {src : Option Src} {O : Addr → Prop} {v : V}
/-! ### a < b < c -/
def cChain (g g' : D → D → Option SV) (fa fb : Ev) (fc : Vw) : Ev := fun s => (fa s).bind fun r s1 => (fb s1).bind fun r' s2 => match r.dat, r'.dat with
  | some d, some d' => match g d d' with
    | some (.sh (.bool true)) => (fc s2).bind fun d3 s3 => Res.opt (g' d' d3) s3
    | some (.sh (.bool false)) => .ok (.sh (.bool false)) s2
    | _ => .err
  | _, _ => .err
theorem rd_chain {g g' : D → D → Option SV} {Q : VK} (q : LE Z W (cChain g g' fa fb' fc) σ H Q) : tChain (rD Z.K g) (rD Z.K g') (LE Z W fa) (LE Z W fb') (LV Z W fc) σ H Q := by
  obtain ⟨T, s, R, q⟩ := q
  refine ⟨T, s, R, Res.sat_mono (Res.sat_bind.mp q) (fun r s1 q v H1 R1 => ?_) fun e s h => h⟩
  refine ⟨_, s1, R1, Res.sat_mono (Res.sat_bind.mp q) (fun r' s2 q v' H2 R2 => ?_) fun e s h => exP_popT h⟩
  split at q
  · rename_i d d' e1 e2
    have h1 : Has ((some v', some r') :: (some v, some r) :: T ++ List.zip σ s2.sl) v d := ⟨r, by simp, e1⟩
    have h2 : Has ((some v', some r') :: (some v, some r) :: T ++ List.zip σ s2.sl) v' d' := ⟨r', by simp, e2⟩
    split at q
    · rename_i eg
      refine ⟨Z, s2.src, _, d, d', _, rfl, R2.2, h1, h2, eg, fun w H3 R3 => ⟨true, ?_, ?_⟩⟩
      · obtain ⟨O, R0⟩ := id R3
        exact R0.bl (i := true) ⟨.sh (.bool true), by simp, rfl⟩
      · rw [if_pos rfl]
        have R4 : RelS Z H3 σ ((some v', some r') :: (some v, some r) :: T) s2 := ⟨R2.1, Rel.pop R3⟩
        refine ⟨_, s2, R4, Res.sat_mono (Res.sat_bind.mp q) (fun d3 s3 q y H4 T' R5 hy => ?_) fun e s h => exP_popT (exP_popT h)⟩
        obtain ⟨r3, er, q⟩ := sat_opt q
        refine ⟨Z, s3.src, _, d', d3, r3, rfl, R5.2, ⟨r', by simp, e2⟩, hy, er, fun u H5 R6 => q u H5 ⟨R5.1, ?_⟩⟩
        have R7 : Rel Z H5 s3.src ((some u, some r3) :: ((T' ++ [(some v', some r'), (some v, some r)]) ++ (T ++ List.zip σ s3.sl))) := by simpa using R6
        exact R7.mid
    · rename_i eg
      refine ⟨Z, s2.src, _, d, d', _, rfl, R2.2, h1, h2, eg, fun w H3 R3 => ⟨false, ?_, ?_⟩⟩
      · obtain ⟨O, R0⟩ := id R3
        exact R0.bl (i := false) ⟨.sh (.bool false), by simp, rfl⟩
      · rw [if_neg Bool.false_ne_true]
        have R4 : Rel Z H3 s2.src ([(some v', some r'), (some v, some r)] ++ (T ++ List.zip σ s2.sl)) := by simpa using Rel.pop R3
        exact q _ _ ⟨R2.1, (Rel.popN _ R4).bl false⟩
    · exact q.elim
  · exact q.elim
theorem snE_chain {op op' : CmpOp} {g g' : D → D → Option SV} (ho : OpR X (compareOp op) (rD X.K g)) (ho' : OpR X (compareOp op') (rD X.K g')) (ha : SnE X Z W a fa) (hb : SnE X Z W b fb') (hc : SnV X Z W c fc) (hm : lastMarks [op, op'] [b, c] = false := by with_unfolding_all rfl) : SnE X Z W (.Compare a [op, op'] [b, c] pos) (cChain g g' fa fb' fc) := fun k =>
  pe_imp (pe_chain ho ho' (ha k) (hb k) (hc k) hm) fun σ H Q q => by rw [k]; exact rd_chain q
theorem snT_chain {op op' : CmpOp} {g g' : D → D → Option SV} (ho : OpR X (compareOp op) (rD X.K g)) (ho' : OpR X (compareOp op') (rD X.K g')) (ha : SnE X Z W a fa) (hb : SnE X Z W b fb') (hc : SnV X Z W c fc) (hm : lastMarks [op, op'] [b, c] = false := by with_unfolding_all rfl) : SnT X Z W (.Compare a [op, op'] [b, c] pos) (cT (cChain g g' fa fb' fc)) := fun k =>
  pt_imp (pt_chain ho ho' (ha k) (hb k) (hc k) hm) fun σ H Q q => rd_T (fun _ _ _ q => by rw [k]; exact rd_chain q) q
/-! ### - n -/
def cNeg (f : Vw) : Ev := fun s => (f s).bind fun d s1 => match d with
  | .int n => .ok (.sh (.int (-n))) s1
  | _ => .err
theorem snE_neg (ho : SnV X Z W o fb) : SnE X Z W (.UnaryOp .USub o pos) (cNeg fb) := fun k => pe_imp (pe_un un_neg (ho k)) fun σ H Q ⟨T, s, R, q⟩ => by
  refine ⟨T, s, R, Res.sat_mono (Res.sat_bind.mp q) (fun d s1 q v H1 T' R1 hv => ?_) fun e s h => h⟩
  split at q
  · obtain ⟨O, R0⟩ := id R1.2
    exact ⟨_, R0.int hv, q _ _ ⟨R1.1, Rel.int (RelS.popN R1).2 _⟩⟩
  · exact q.elim
/-! ### calls of the module's own functions -/
structure CalG (P : Program) (w : World) (K : PySem.W.Frag) (mg : Str → Option Value) (base : Heap) (k : Nat) (x : Str) (np : Nat) (F : Fd) : Prop where
  ex : ∃ (c : Addr) (fd : FuncData) (ps : List Str), ps.length = np ∧ FnG P w K mg base k c fd ps (spF K np F) ∧ mg x = some (.ref c) ∧ PySem.W.keepIn K (.ref c) = true ∧ Binds K fd ps []
theorem snE_cal {np : Nat} {F : Fd} (G : CalG X.prog X.w X.K X.mg X.base k x np F) (hr : Room k X.A) (hgd : X.A.guards = some []) (hg : Gl X x) (tk : Takes X W) (ha : SnA X Z W (e :: es) ga) (hdb : (x == ("__debug__" : Str)) = false := by decide)
    (he : starEach (e :: es) X.env = (false, eval e X.env) :: starEach es X.env := by rfl) (hpl : (backTo pos (starEach es X.env)).any (·.1) = false := by rfl) : SnE X Z W (.Call (.Name x p) (e :: es) [] pos) (cCall np F ga) := by
  obtain ⟨c, fd, ps, hn, G, hm, hk, hb⟩ := G.ex
  subst hn
  exact snE_call G hr hgd hg hm hk hb tk ha hdb he hpl
theorem snE_cal0 {np : Nat} {F : Fd} (G : CalG X.prog X.w X.K X.mg X.base k x np F) (hr : Room k X.A) (hgd : X.A.guards = some []) (hg : Gl X x) (tk : Takes X W) (hdb : (x == ("__debug__" : Str)) = false := by decide) : SnE X Z W (.Call (.Name x p) [] [] pos) (cCall np F cNil) := by
  obtain ⟨c, fd, ps, hn, G, hm, hk, hb⟩ := G.ex
  subst hn
  exact snE_call0 G hr hgd hg hm hk hb tk hdb
theorem heldG_of {P : Program} {w : World} {K : PySem.W.Frag} {mg : Str → Option Value} {base : Heap} {k k' np : Nat} {x : Str} {F : Fd} {c : Addr} (G : CalG P w K mg base k x np F) (hm : mg x = some (.ref c)) (hk : k ≤ k') : HeldG P w K mg base k' c np F := by
  obtain ⟨c', fd, ps, hn, G, hm', hkp, hb⟩ := G.ex
  rw [hm] at hm'
  cases hm'
  exact ⟨fd, ps, hn, G.mono hk, hkp, hb⟩
theorem takesW0 : Takes X W0 := fun _ _ ⟨_, _, _, _, _, _, _, _, _, _, _, _, _, _, _, _, w⟩ => w.elim
/-- none of the built-ins' names is the module's -/
structure Blt (mg : Str → Option Value) : Prop where
  abs : mg "abs" = none
  all : mg "all" = none
  any : mg "any" = none
  dict : mg "dict" = none
  enumerate : mg "enumerate" = none
  int : mg "int" = none
  isinstance : mg "isinstance" = none
  len : mg "len" = none
  list : mg "list" = none
  max : mg "max" = none
  min : mg "min" = none
  range : mg "range" = none
  repr : mg "repr" = none
  sorted : mg "sorted" = none
  str : mg "str" = none
  sum : mg "sum" = none
  super : mg "super" = none
  tuple : mg "tuple" = none
  zip : mg "zip" = none
end
end Pw
set_option Elab.async false
set_option linter.all false
set_option maxRecDepth 100000
namespace Pw
open PySem PySem.Spec PyProof.Rows L2
section
variable {X : Cx} {K : PySem.W.Frag} {H : Hp} {O : Addr → Prop}
def sortI (ns : List Int) : List Int := ns.mergeSort fun a b => decide (a ≤ b)
theorem sortI_perm (ns : List Int) : (sortI ns).Perm ns := List.mergeSort_perm ns _
theorem sortI_sorted (ns : List Int) : (sortI ns).Pairwise (· ≤ ·) := (List.pairwise_mergeSort (le := fun a b => decide (a ≤ b)) (fun a b c h1 h2 => by simp at *; omega) (fun a b => by simp; omega) ns).imp fun h => by simpa using h
theorem sortI_eq {ms ns : List Int} (p : ms.Perm ns) (h : ms.Pairwise (· ≤ ·)) : ms = sortI ns := (p.trans (sortI_perm ns).symm).eq_of_pairwise (fun a b _ _ h1 h2 => by omega) h (sortI_sorted ns)
def dSorted : D → Option SV
  | .list xs => (dInts xs).map fun ns => .own (.list ((sortI ns).map .int))
  | _ => none
theorem rp_ints (ns : List Int) : RpA K H O (ns.map V.int) (ns.map .int) := by
  induction ns with
  | nil => exact .nil
  | cons n r ih => exact .cons (.int n) ih
theorem call_sortedR : CallR X (.builtin "sorted") (rC X.K dSorted) := by
  intro pins s σ H xs us Q I rx h
  obtain ⟨Z, src, L, d, r, x, rfl, hK, R, h1, e, q⟩ := h
  obtain ⟨O, R0⟩ := id R
  unfold dSorted at e
  split at e
  · obtain ⟨ns, e1, rfl⟩ := Option.map_eq_some_iff.mp e
    obtain ⟨a, ys, rfl, ha, ra⟩ := R0.list h1
    have e2 := ra.asInts e1
    subst e2
    refine cr_sortedI pins s σ H _ us Q I rx ⟨a, ns, rfl, SqL.of ha, fun ms p h1 h2 h3 => ?_⟩
    have := sortI_eq h1 h2
    subst this
    exact q _ _ (R.newListOf h3 fun O' _ => rp_ints _)
  · cases e
end
end Pw
set_option Elab.async false
set_option linter.all false
set_option maxRecDepth 100000
namespace Pw
open PySem PySem.Spec PyProof.Rows L2
/-! ### the law's own call -/
section
variable {P : Program} {w : World} {K : PySem.W.Frag} {mg mb : Str → Option Value} {k : Nat} {fa a : Addr} {fd : FuncData} {x : Str} {sp : Sp} {s₁ : Shared} {vs : List Value} {ns : List Int}
def scrH (K : PySem.W.Frag) (a : Addr) (vs : List Value) (ns : List Int) : Hp := fun b => if b = a ∧ K.lookup a = none then some (.frz { cls := .type "list", data := .seq vs.toArray } (.lst (ns.map V.int))) else none
theorem scrH_some {b : Addr} {u : HO} (h : scrH K a vs ns b = some u) : b = a ∧ K.lookup a = none ∧ u = .frz { cls := .type "list", data := .seq vs.toArray } (.lst (ns.map V.int)) := by
  unfold scrH at h
  split at h
  · rename_i q
    cases h
    exact ⟨q.1, q.2, rfl⟩
  · cases h
theorem scrH_only : Only (scrH K a vs ns) := fun b => by
  cases e : scrH K a vs ns b with
  | none => exact .inl rfl
  | some u => exact .inr ⟨_, _, by rw [(scrH_some e).2.2]⟩
theorem law_goes (KX : K.In s₁.heap) (hg : s₁.heap.Ns mainGlobals mg) (hb : s₁.heap.Ns builtinsNs mb) (hbb : ∀ x : Str, x ≠ "__name__" → mb x = bootBuiltins x) (lim : s₁.heap.NoLimit) (hgen : s₁.gens = #[])
    (ha : s₁.heap.get? a = some { cls := .type "list", data := .seq vs.toArray }) (hi : IntsAre vs ns) (hl : ns.length ≤ sizeLine) (hr : Room k callerA)
    (G : ∀ base : Heap, K.In base → base.Ns mainGlobals mg → FnG P w K mg base k fa fd [x] sp) (bind : ∀ (s : Shared) (u : Value), BindsTo s fd ⟨[u], []⟩ [(x, u)])
    (hsp : ∀ H : Hp, Only H → SqL K H a (ns.map V.int) → sp [.ref a] H (fun v _ => v = .bl true) fun _ _ _ => False) :
    codeAny (model P w) callerA (.call (.ref fa) ⟨[.ref a], []⟩) (fun r s' => r = .ok (.ret (.bool true)) ∧ OldK s₁.heap s'.heap ∧ s'.os = s₁.os ∧ AllBare s'.gens) s₁ := by
  have rv := vals_ints hi
  have sz : (ns.map V.int).length ≤ sizeLine := by rw [List.length_map]; exact hl
  have hsq : SqL K (scrH K a vs ns) a (ns.map V.int) := by
    cases e : K.lookup a with
    | none => exact .inl (.inr ⟨_, if_pos ⟨rfl, e⟩⟩)
    | some o =>
      have eo := KX a o e
      rw [ha] at eo
      cases eo
      refine .inr ⟨_, vs.toArray, _, e, rfl, rfl, rfl, ?_, by simpa using rv⟩
      rw [List.size_toArray, hi.length]
      exact hl
  have ok : HOk P w (scrH K a vs ns) s₁.heap := fun b u e => by
    obtain ⟨e1, e2, e3⟩ := scrH_some e
    subst e1 e3
    exact ⟨ha, sz, vs, _, rv, ha⟩
  have seen : ∀ {b : Addr} {o : Obj}, s₁.heap.get? b = some o → scrH K a vs ns b = none → (hidT s₁.heap (scrH K a vs ns)).get? b = some o := fun e n => hidT_get e n
  have dicts : ∀ {b : Addr} {m : Str → Option Value}, s₁.heap.Ns b m → (hidT s₁.heap (scrH K a vs ns)).Ns b m := by
    rintro b m ⟨o, es, ep, e, d, r⟩
    refine ⟨o, es, ep, seen e ?_, d, r⟩
    cases q : scrH K a vs ns b with
    | none => rfl
    | some u =>
      have z := (scrH_some q).1
      rw [z, ha] at e
      cases e
      cases (show Data.seq vs.toArray _ = Data.dict es ep from d)
  have kin : K.In (hidT s₁.heap (scrH K a vs ns)) := fun b o e => seen (KX b o e) (by
    cases q : scrH K a vs ns b with
    | none => rfl
    | some u =>
      obtain ⟨z1, z2, _⟩ := scrH_some q
      rw [z1, z2] at e
      cases e)
  have M : Mod K mg (hidT s₁.heap (scrH K a vs ns)) := ⟨kin, dicts hg, ⟨mb, dicts hb, hbb⟩, let ⟨mc, h1, h2⟩ := lim; ⟨mc, dicts h1, h2⟩⟩
  have E0 : Env0 P w K mg (hidT s₁.heap (scrH K a vs ns)) callerA [] s₁ (scrH K a vs ns) := ⟨rfl, M, fun b o e => of_hidT e, Nat.le_of_eq (hidT_size _ _), trivial, fun b hb => (by cases (show b ∈ ([] : List Addr) from hb)), ok, .of_eq hgen⟩
  refine codeAny_mono ((G _ kin (dicts hg)).go callerA [] s₁ _ ⟨[.ref a], []⟩ [.ref a] [.ref a] _ _ hr rfl E0 (bind s₁ (.ref a)) (.cons rfl .nil) (hsp _ scrH_only hsq)) fun r s' h => ?_
  match r, h with
  | .error e, ⟨_, _, _, _, _, _, _, _, _, _, _, _, z⟩ => exact z.elim
  | .ok (.ret u), ⟨v, H', os, bare, un, ok', r', q⟩ =>
    have q : v = .bl true := q
    subst q
    obtain rfl : u = Value.bool true := r'
    refine ⟨rfl, OldK.of_keep fun b o e => ?_, os, bare⟩
    cases q : scrH K a vs ns b with
    | none => exact un.keep b o e q (fun z => by cases (show b ∈ ([] : List Addr) from z)) (by simp)
    | some u =>
      obtain ⟨z1, z2, z3⟩ := scrH_some q
      subst z3
      have z4 := un.frzs b _ _ q
      rw [z1, ha] at e
      cases e
      exact (ok' b _ z4).1
end
theorem walkG {l : PySem.W.OpenLaw} {n k : Nat} {q : Program} {loose : List Str} {XP : (Str → Option Value) → Heap → Prop} {YP : World → Heap → Prop} {d : DefRec} {K : Params → PySem.W.Frag} {sp : PySem.W.Frag → Sp} {x : Str}
    (hn : l.most = some n) (hn2 : n ≤ sizeLine) (hdf : d.params.defaults = []) (hr : Room k callerA) (hY : ∀ (w : World) (h : Heap), YP w h → (K w.params).In h)
    (G : ∀ (w : World) (mg : Str → Option Value) (fa : Addr) (h : Heap), (K w.params).In h → h.Ns mainGlobals mg → mg d.name = some (.ref fa) →
      ∃ fd : FuncData, (∀ (s : Shared) (u : Value), BindsTo s fd ⟨[u], []⟩ [(x, u)]) ∧ ∀ base : Heap, (K w.params).In base → base.Ns mainGlobals mg → FnG l.prog w (K w.params) mg base k fa fd [x] (sp (K w.params)))
    (hsp : ∀ (K : PySem.W.Frag) (H : Hp) (a : Addr) (ns : List Int), ns.length ≤ n → Only H → SqL K H a (ns.map V.int) → sp K [.ref a] H (fun v _ => v = .bl true) fun _ _ _ => False) : PySem.W.WalkO q loose XP YP l.row.toRowW d [] (fun f vs => PySem.call f vs) := by
  refine Att.attach_call hn hdf fun w s₀ s₁ mg mb fa o pm cd doc a vs ns Gd Y _ _ _ hmg hobj hints hlen hgen => ?_
  obtain ⟨fd, hb, hG⟩ := G w mg fa _ (hY w _ Y) Gd.T.g hmg
  exact law_goes (hY w _ Y) Gd.T.g Gd.T.b Gd.T.builtins Gd.T.nolimit hgen hobj hints (Nat.le_trans hlen hn2) hr hG hb fun H hO hS => hsp _ H a ns hlen hO hS
/-! ### the law's body: the source drawn, then the rest -/
def spLaw (K : PySem.W.Frag) : Sp := fun vs H Q _ => ∃ (a : Addr) (ns : List Int), vs = [.ref a] ∧ ns.length ≤ 63 ∧ SqL K H a (ns.map V.int) ∧ Only H ∧ ∀ H', Q (.bl true) H'
def srcD (s : Src) : D := .dict [(.str "cells", .list (s.cells.map .int)), (.str "left", .int s.left), (.str "mixed", .int s.mixed), (.str "turn", .int s.turn)]
def lawS (n : Nat) (sr : Src) : S := ⟨none :: some .src :: List.replicate (n - 2) none, some sr⟩
theorem Rel.trivZip {Z : Zx} {H : Hp} {src : Option Src} {L : List Ent} (R : Rel Z H src L) : ∀ {σ : L2.St} {n : Nat}, Rel Z H src (List.zip σ (List.replicate n (none : Option SV)) ++ L)
  | [], n => R
  | _ :: _, 0 => R
  | v :: σ, n + 1 => by
    rw [List.replicate_succ, List.zip_cons_cons]
    exact Rel.triv (Rel.trivZip R)
theorem rpD_inv {K : PySem.W.Frag} {H : Hp} {O : Addr → Prop} {kvs : List (Key × V)} {a d : D} {ds : List (D × D)} (h : RpD K H O kvs ((a, d) :: ds)) : ∃ k v rest, kvs = (k, v) :: rest ∧ keyD k = a ∧ Rp K H O v d ∧ RpD K H O rest ds := by
  generalize e : (a, d) :: ds = l at h
  cases h with
  | nil => cases e
  | cons r t =>
    cases e
    exact ⟨_, _, _, rfl, rfl, r, t⟩
theorem keyD_str {c : Key} {t : Str} (e : keyD c = .str t) : c = .inr t := by
  cases c <;> cases e
  rfl
theorem rpD_src {K : PySem.W.Frag} {H : Hp} {O : Addr → Prop} {kvs : List (Key × V)} {s : Src} (h : RpD K H O kvs [(.str "cells", .list (s.cells.map .int)), (.str "left", .int s.left), (.str "mixed", .int s.mixed), (.str "turn", .int s.turn)]) :
    ∃ y, kvs = srcKv y s ∧ H y = some (.lst (s.cells.map V.int)) ∧ ¬ O y := by
  obtain ⟨k1, v1, r1, rfl, e1, h1, h⟩ := rpD_inv h
  obtain ⟨k2, v2, r2, rfl, e2, h2, h⟩ := rpD_inv h
  obtain ⟨k3, v3, r3, rfl, e3, h3, h⟩ := rpD_inv h
  obtain ⟨k4, v4, r4, rfl, e4, h4, h⟩ := rpD_inv h
  cases h
  cases h2.int_inv
  cases h3.int_inv
  cases h4.int_inv
  have e1 := keyD_str e1
  have e2 := keyD_str e2
  have e3 := keyD_str e3
  have e4 := keyD_str e4
  subst e1 e2 e3 e4
  cases h1 with
  | lst e n r =>
    rename_i y xs
    have z := r.asInts (ints_map s.cells)
    subst z
    exact ⟨y, rfl, e, n⟩
def tLaw (K : PySem.W.Frag) (W : WX) (m : Sm) : TS := fun D σ H => ∃ Z : Zx, Z.K = K ∧ Z.Xn = none ∧ LS Z W m D σ H
section
variable {P : Program} {w : World} {K : PySem.W.Frag} {mg : Str → Option Value} {base : Heap} {k ks : Nat} {f : Addr} {fd : FuncData} {st : Stmt} {N : List Str}
theorem law_of {FS : Fd} {m : Sm} {p1 p2 p3 p4 p5 : Pos} {rest : List Stmt} (F : Fun K "law" "law" st f fd) (S : FnScope ("script" :: "source" :: N) ["script"] (defScope st)) (hb : defBody st = .Assign [.Name "source" p1] (.Call (.Name "_law_source" p2) [.Name "script" p3] [] p4) p5 :: rest)
    (GS : CalG P w K mg base ks "_law_source" 1 FS) (hks : ks ≤ k) (hsrc : ∀ ns : List Int, ns.length ≤ 63 → ∃ sr s', FS [.scr ns] none = .ok (.own (srcD sr)) s' ∧ s'.src = none ∧ sr.cells.length ≤ 63)
    (gl : (defScope st).names.lookup ("_law_source" : Str) = some .globalImplicit) (ls : Loc (defScope st) "source") (lv : Vis (defScope st) "script")
    (hd : ∀ (cdv : Value) (A : Around) (outer : List Env) (s : Shared) (H : Hp) (E : XK) (Z : Zx), Z.Xn = none → Room k (A.deeper (envOfC "law" (defScope st) s.heap.objs.size f cdv)) → A.guards = some [] → SnB (cxOf (L2.CX P w) P w K mg base ("script" :: "source" :: N) "law" (defScope st) f cdv A outer s H E) Z (fun cls d _ H => E cls d H) rest m)
    (hm : ∀ sr : Src, sr.cells.length ≤ 63 → (m (lawS (N.length + 2) sr)).sat (fun fl _ => fl = .ret (.sh (.bool true))) fun _ _ => False)
    (hsw : ∀ env : Env, swapsWith (.Call (.Name "_law_source" p2) [.Name "script" p3] [] p4) (some (.Name "source" p1)) p5.line env = pure false) :
    FnG P w K mg base (k + 1) f fd ["script"] (spLaw K) := by
  refine fnG_raw F S (fun vs H Q E ⟨a, ns, e, _⟩ => by rw [e]; rfl) fun cdv A outer s H vs Q E hr hg ⟨a, ns, ev, hlen, hS, hO, q⟩ => ?_
  subst ev
  rw [hb]
  obtain ⟨sr, s', eF, es, hsr⟩ := hsrc ns hlen
  have tk : Takes (cxOf (L2.CX P w) P w K mg base ("script" :: "source" :: N) "law" (defScope st) f cdv A outer s H E) (fun cls d _ H => E cls d H) := takes_of rfl rfl rfl rfl
  have h1 : SnS (cxOf (L2.CX P w) P w K mg base ("script" :: "source" :: N) "law" (defScope st) f cdv A outer s H E) ⟨K, H, fun _ => False, none, none⟩ (fun cls d _ H => E cls d H) (.Assign [.Name "source" p1] (.Call (.Name "_law_source" p2) [.Name "script" p3] [] p4) p5) (cAsg (cCall 1 FS (cCons (cVar 0) cNil)) (gNm 1)) :=
    snS_set (i := 1) S.nd rfl ls (snE_cal GS (hr.mono hks) hg gl tk (snA_cons (snE_var (pe_var rfl lv)) snA_nil)) (hsw _) (.inl rfl)
  have h2 : PSs (cxOf (L2.CX P w) P w K mg base ("script" :: "source" :: N) "law" (defScope st) f cdv A outer s H E) rest (tLaw K (fun cls d _ H => E cls d H) m) := ⟨fun pins s1 σ H1 D I ⟨Z, e1, e2, z⟩ => (hd cdv A outer s H E Z e2 hr hg e1.symm).run pins s1 σ H1 D I z⟩
  have R0 : Rel ⟨K, H, fun _ => False, none, none⟩ H none (List.zip (L2.start ("script" :: "source" :: N) [.ref a]) (padS (N.length + 2) [.scr ns])) := by
    have e : List.zip (L2.start ("script" :: "source" :: N) [.ref a]) (padS (N.length + 2) [.scr ns]) = (some (.ref a), some (.scr ns)) :: List.zip (List.replicate (N.length + 1) none) (List.replicate (N.length + 1) none) := rfl
    rw [e]
    have r1 : Rel ⟨K, H, fun _ => False, none, none⟩ H none [(some (V.ref a), some (SV.scr ns))] := by
      refine ⟨fun _ => False, fun _ z => z, fun e he s z => ?_, List.pairwise_singleton _ _, trivial, fun b x e _ => e, fun _ z => z.elim⟩
      cases List.mem_singleton.mp he
      cases z
      exact ⟨_, rfl, a, rfl, hS.imp (fun z => ⟨z, id⟩) id⟩
    exact (Rel.trivZip r1 (σ := List.replicate (N.length + 1) none) (n := N.length + 1)).perm (List.perm_append_singleton _ _)
  refine ⟨_, pss_cons (h1 rfl) h2, [], ⟨padS (N.length + 2) [.scr ns], none⟩, ⟨by simp [L2.start, padS], R0⟩, ?_⟩
  have ev : cAsg (cCall 1 FS (cCons (cVar 0) cNil)) (gNm 1) ⟨padS (N.length + 2) [.scr ns], none⟩ = .ok .nx ⟨(padS (N.length + 2) [.scr ns]).set 1 (some (.own (srcD sr))), none⟩ := by
    have e0 : (padS (N.length + 2) [.scr ns])[0]? = some (some (.scr ns)) := rfl
    have e1 : cVar 0 ⟨padS (N.length + 2) [.scr ns], none⟩ = .ok (.scr ns) ⟨padS (N.length + 2) [.scr ns], none⟩ := by
      unfold cVar
      dsimp only
      rw [e0]
    unfold cAsg cCall cCons cNil
    rw [e1]
    simp only [Res.bind, SV.settle, appF, okA, List.length_cons, List.length_nil, and_self, if_true, eF, gNm, es]
  rw [ev]
  intro σ H1 R
  obtain ⟨hl, O, RO⟩ := id R
  have hl : σ.length = N.length + 2 := by simpa [padS] using hl
  match σ, hl with
  | σ0 :: o1 :: σr, hl =>
    have hlr : σr.length = N.length := by simpa using hl
    have m1 : (o1, some (SV.own (srcD sr))) ∈ [] ++ List.zip (σ0 :: o1 :: σr) ((padS (N.length + 2) [SV.scr ns]).set 1 (some (SV.own (srcD sr)))) := by
      have e : (padS (N.length + 2) [SV.scr ns]).set 1 (some (SV.own (srcD sr))) = some (.scr ns) :: some (.own (srcD sr)) :: List.replicate N.length none := rfl
      rw [e]
      simp
    obtain ⟨v, e1, c, e2, oc, _, _, kvs, hc, rc⟩ := RO.ent _ m1 _ rfl
    have e1 : o1 = some v := e1
    subst e1 e2
    obtain ⟨y, ek, hy, ny⟩ := rpD_src rc
    subst ek
    have ncy : c ≠ y := fun z => by
      rw [z, hy] at hc
      cases hc
    have r1 : Rel ⟨K, fun _ => none, fun _ => False, some (c, y), none⟩ H1 (some sr) [(some (V.ref c), some SV.src)] := by
      refine ⟨fun b => b = c ∨ b = y, fun _ z => z.elim, fun e he s z => ?_, List.pairwise_singleton _ _, ⟨ncy, .inl rfl, .inr rfl, hc, hy⟩, fun b x e _ => (nomatch e), fun b z => ?_⟩
      · cases List.mem_singleton.mp he
        cases z
        exact ⟨_, rfl, c, y, rfl, rfl⟩
      · rcases z with rfl | rfl
        · exact ⟨_, hc⟩
        · exact ⟨_, hy⟩
    refine ⟨⟨K, fun _ => none, fun _ => False, some (c, y), none⟩, rfl, rfl, [], lawS (N.length + 2) sr, ⟨by simp [lawS, hlr], ?_⟩, Res.sat_mono (hm sr hsr) (fun fl s2 e => ?_) fun _ _ z => z.elim⟩
    · have e : List.zip (σ0 :: some (V.ref c) :: σr) (lawS (N.length + 2) sr).sl = (σ0, none) :: (some (V.ref c), some SV.src) :: List.zip σr (List.replicate N.length none) := rfl
      show Rel _ H1 (some sr) ([] ++ List.zip (σ0 :: some (V.ref c) :: σr) (lawS (N.length + 2) sr).sl)
      rw [List.nil_append, e]
      exact Rel.triv ((Rel.trivZip r1 (σ := σr) (n := N.length)).perm (List.perm_append_singleton _ _))
    · subst e
      intro u σ2 H2 R2
      obtain ⟨O2, R3⟩ := R2.2
      have : u = .bl true := R3.bl ⟨.sh (.bool true), by simp, rfl⟩
      subst this
      exact q H2
end
end Pw
set_option Elab.async false
set_option linter.all false
set_option maxRecDepth 100000
namespace Pw
open PySem PySem.Spec PyProof.Rows L2
/-! ### reading the plain readings -/
section
variable {α β : Type} {Q : α → S → Prop} {E : Ex → S → Prop} {s : S}
theorem sat_ok {a : α} : (Res.ok a s).sat Q E = Q a s := rfl
theorem sat_bnd {r : Res β} {k : β → S → Res α} : (r.bind k).sat Q E = r.sat (fun a s => (k a s).sat Q E) E := propext Res.sat_bind
theorem bnd_ok {b : β} {k : β → S → Res α} : (Res.ok b s).bind k = k b s := rfl
theorem bnd_err {k : β → S → Res α} : (Res.err : Res β).bind k = .err := rfl
theorem opt_some {a : α} : Res.opt (some a) s = .ok a s := rfl
theorem quiet_ok {a : α} : (Res.ok a s).quiet = .ok a s := rfl
end
theorem forL_sat {g : Tg} {m : Sm} {Q : Fl → S → Prop} {E : Ex → S → Prop} (I : List SV → S → Prop)
    (step : ∀ d ds s, I (d :: ds) s → ∃ s1, g d s = some s1 ∧ (m s1).sat (fun fl s2 => match fl with | .nx => I ds s2 | .ct => I ds s2 | .bk => Q .nx s2 | .ret r => Q (.ret r) s2) E) (fin : ∀ s, I [] s → Q .nx s) :
    ∀ ds s, I ds s → (forL g m ds s).sat Q E
  | [], s, h => fin s h
  | d :: ds, s, h => by
    obtain ⟨s1, e, q⟩ := step d ds s h
    unfold forL
    rw [e]
    refine Res.sat_bind.mpr (Res.sat_mono q (fun fl s2 q => ?_) fun _ _ q => q)
    cases fl with
    | nx => exact forL_sat I step fin ds s2 q
    | ct => exact forL_sat I step fin ds s2 q
    | bk => exact q
    | ret r => exact q
theorem whileL_sat {c : Tt} {m : Sm} {Q : Fl → S → Prop} {E : Ex → S → Prop} (I : Nat → S → Prop)
    (step : ∀ k s, I k s → (c s).sat (fun b s1 => if b = true then (m s1).sat (fun fl s2 => match fl with | .nx => ∃ j, j < k ∧ I j s2 | .ct => ∃ j, j < k ∧ I j s2 | .bk => Q .nx s2 | .ret r => Q (.ret r) s2) E else Q .nx s1) E) :
    ∀ n k s, k < n → I k s → (whileL c m n s).sat Q E
  | 0, k, s, h, _ => absurd h (Nat.not_lt_zero _)
  | n + 1, k, s, h, i => by
    unfold whileL
    refine Res.sat_bind.mpr (Res.sat_mono (step k s i) (fun b s1 q => ?_) fun _ _ q => q)
    cases b with
    | false =>
      rw [if_neg Bool.false_ne_true] at q ⊢
      exact q
    | true =>
      rw [if_pos rfl] at q ⊢
      refine Res.sat_bind.mpr (Res.sat_mono q (fun fl s2 q => ?_) fun _ _ q => q)
      cases fl with
      | nx => obtain ⟨j, hj, q⟩ := q; exact whileL_sat I step n j s2 (by omega) q
      | ct => obtain ⟨j, hj, q⟩ := q; exact whileL_sat I step n j s2 (by omega) q
      | bk => exact q
      | ret r => exact q
theorem compL_sat {g : Tg} {c : Tt} {f : Ev} {vs : List Nat} {Q : List D → S → Prop} {E : Ex → S → Prop} (I : List SV → List D → S → Prop)
    (step : ∀ d ds acc s, I (d :: ds) acc s → ∃ s1, g d s = some s1 ∧ (c s1).sat (fun b s2 => if b = true then (f s2).sat (fun r s3 => ∃ x, r.settle = .sh x ∧ acc.length < sizeLine ∧ I ds (acc ++ [x]) (wipeS vs s3)) (fun _ _ => False) else I ds acc (wipeS vs s2)) (fun _ _ => False))
    (fin : ∀ acc s, I [] acc s → Q acc s) : ∀ ds acc s, I ds acc s → (compL g c f vs ds acc s).sat Q E
  | [], acc, s, h => fin acc s h
  | d :: ds, acc, s, h => by
    obtain ⟨s1, e, q⟩ := step d ds acc s h
    unfold compL
    rw [e]
    have q2 : ∀ {γ : Type} {r : Res γ} {P : γ → S → Prop}, r.sat P (fun _ _ => False) → r.quiet.sat P E := fun {γ r P} h => by
      cases r with
      | ok a s => exact h
      | exc e s => exact h.elim
      | err => exact h
    refine Res.sat_bind.mpr (Res.sat_mono (q2 q) (fun b s2 q => ?_) fun _ _ q => q)
    cases b with
    | false =>
      rw [if_neg Bool.false_ne_true] at q ⊢
      exact compL_sat I step fin ds acc _ q
    | true =>
      rw [if_pos rfl] at q ⊢
      refine Res.sat_bind.mpr (Res.sat_mono (q2 q) (fun r s3 q => ?_) fun _ _ q => q)
      obtain ⟨x, e1, e2, q⟩ := q
      rw [e1]
      dsimp only
      rw [if_pos e2]
      exact compL_sat I step fin ds _ _ q
end Pw
namespace Pw
open PySem PySem.Spec PyProof.Rows L2
section
variable {Q : Fl → S → Prop} {E : Ex → S → Prop} {m1 m2 : Sm} {s : S}
theorem sat_seq : (cSeq m1 m2 s).sat Q E ↔ (m1 s).sat (fun fl s1 => match fl with | .nx => (m2 s1).sat Q E | fl => Q fl s1) E := by
  unfold cSeq
  rw [Res.sat_bind]
  cases m1 s with
  | ok fl s1 => cases fl <;> exact Iff.rfl
  | exc => exact Iff.rfl
  | err => exact Iff.rfl
theorem seq_ok {s1 : S} (h : m1 s = .ok .nx s1) : cSeq m1 m2 s = m2 s1 := by unfold cSeq; rw [h]; rfl
theorem forL_step {g : Tg} {m : Sm} {d : SV} {ds : List SV} {s s1 s2 : S} (h1 : g d s = some s1) (h2 : m s1 = .ok .nx s2) : forL g m (d :: ds) s = forL g m ds s2 := by
  conv => lhs; unfold forL
  rw [h1]
  dsimp only
  rw [h2]
  rfl
theorem forL_ret {g : Tg} {m : Sm} {d : SV} {ds : List SV} {s s1 s2 : S} {r : SV} (h1 : g d s = some s1) (h2 : m s1 = .ok (.ret r) s2) : forL g m (d :: ds) s = .ok (.ret r) s2 := by
  conv => lhs; unfold forL
  rw [h1]
  dsimp only
  rw [h2]
  rfl
theorem call_ok {n : Nat} {F : Fd} {ga : Ag} {rs : List SV} {s s1 s2 : S} {r : SV} (ha : ga s = .ok rs s1) (hF : F rs s1.src = .ok r s2) (hn : rs.length = n := by rfl) (ho : okA rs = true := by rfl) : cCall n F ga s = .ok r ⟨s1.sl, s2.src⟩ := by
  unfold cCall appF
  rw [ha, bnd_ok, if_pos ⟨hn, ho⟩, hF]
theorem call_exc {n : Nat} {F : Fd} {ga : Ag} {rs : List SV} {s s1 s2 : S} {e : Ex} (ha : ga s = .ok rs s1) (hF : F rs s1.src = .exc e s2) (hn : rs.length = n := by rfl) (ho : okA rs = true := by rfl) : cCall n F ga s = .exc e ⟨s1.sl, s2.src⟩ := by
  unfold cCall appF
  rw [ha, bnd_ok, if_pos ⟨hn, ho⟩, hF]
theorem callL_ok {i n : Nat} {tab : Tab} {F : Fd} {ga : Ag} {c : Addr} {rs : List SV} {s s1 s2 : S} {r : SV} (hi : s.sl[i]? = some (some (.fn c))) (ht : tab c = some (n, F)) (ha : ga s = .ok rs s1) (hF : F rs s1.src = .ok r s2) (hn : rs.length = n := by rfl) (ho : okA rs = true := by rfl) : cCallL i tab ga s = .ok r ⟨s1.sl, s2.src⟩ := by
  unfold cCallL appF
  rw [hi]
  dsimp only
  rw [ht]
  dsimp only
  rw [ha, bnd_ok, if_pos ⟨hn, ho⟩, hF]
theorem callL_exc {i n : Nat} {tab : Tab} {F : Fd} {ga : Ag} {c : Addr} {rs : List SV} {s s1 s2 : S} {e : Ex} (hi : s.sl[i]? = some (some (.fn c))) (ht : tab c = some (n, F)) (ha : ga s = .ok rs s1) (hF : F rs s1.src = .exc e s2) (hn : rs.length = n := by rfl) (ho : okA rs = true := by rfl) : cCallL i tab ga s = .exc e ⟨s1.sl, s2.src⟩ := by
  unfold cCallL appF
  rw [hi]
  dsimp only
  rw [ht]
  dsimp only
  rw [ha, bnd_ok, if_pos ⟨hn, ho⟩, hF]
theorem atI_nat {α : Type} {xs : List α} {i : Nat} (h : i < xs.length) : atI xs (i : Int) = some xs[i] := by
  unfold atI ixN
  rw [if_pos (Int.natCast_nonneg i), if_pos (by exact_mod_cast h)]
  simp [h]
theorem atI_int {α : Type} {xs : List α} {i : Int} (h0 : 0 ≤ i) (h : i.toNat < xs.length) : atI xs i = some xs[i.toNat] := by
  have := atI_nat h
  rwa [Int.toNat_of_nonneg h0] at this
/-- a function that the source is nothing to -/
def Rets (F : Fd) (as : List SV) (r : SV) : Prop := ∀ src, ∃ sl, F as src = .ok r ⟨sl, src⟩
def Excs (F : Fd) (as : List SV) (e : Ex) : Prop := ∀ src, ∃ sl, F as src = .exc e ⟨sl, src⟩
theorem Rets.call {n : Nat} {F : Fd} {ga : Ag} {rs : List SV} {s s1 : S} {r : SV} (h : Rets F rs r) (ha : ga s = .ok rs s1) (hn : rs.length = n := by rfl) (ho : okA rs = true := by rfl) : cCall n F ga s = .ok r s1 := by
  obtain ⟨sl, e⟩ := h s1.src
  exact call_ok (s2 := ⟨sl, s1.src⟩) ha e hn ho
theorem Excs.call {n : Nat} {F : Fd} {ga : Ag} {rs : List SV} {s s1 : S} {x : Ex} (h : Excs F rs x) (ha : ga s = .ok rs s1) (hn : rs.length = n := by rfl) (ho : okA rs = true := by rfl) : cCall n F ga s = .exc x s1 := by
  obtain ⟨sl, e⟩ := h s1.src
  exact call_exc (s2 := ⟨sl, s1.src⟩) ha e hn ho
theorem Rets.callL {i n : Nat} {tab : Tab} {F : Fd} {ga : Ag} {c : Addr} {rs : List SV} {s s1 : S} {r : SV} (h : Rets F rs r) (hi : s.sl[i]? = some (some (.fn c))) (ht : tab c = some (n, F)) (ha : ga s = .ok rs s1) (hn : rs.length = n := by rfl) (ho : okA rs = true := by rfl) : cCallL i tab ga s = .ok r s1 := by
  obtain ⟨sl, e⟩ := h s1.src
  exact callL_ok (s2 := ⟨sl, s1.src⟩) hi ht ha e hn ho
theorem Excs.callL {i n : Nat} {tab : Tab} {F : Fd} {ga : Ag} {c : Addr} {rs : List SV} {s s1 : S} {x : Ex} (h : Excs F rs x) (hi : s.sl[i]? = some (some (.fn c))) (ht : tab c = some (n, F)) (ha : ga s = .ok rs s1) (hn : rs.length = n := by rfl) (ho : okA rs = true := by rfl) : cCallL i tab ga s = .exc x s1 := by
  obtain ⟨sl, e⟩ := h s1.src
  exact callL_exc (s2 := ⟨sl, s1.src⟩) hi ht ha e hn ho
theorem for_ok {f : Itf} {g : Tg} {m : Sm} {ds : List SV} {s s1 : S} {r : Res Fl} (hi : f s = .ok ds s1) (h : forL g m ds s1 = r) : cFor f g m s = r := by unfold cFor; rw [hi]; exact h
theorem comp_ok {f : Itf} {g : Tg} {c : Tt} {e : Ev} {vs : List Nat} {ds : List SV} {acc : List D} {s s1 s2 : S} (hi : f s = .ok ds s1) (h : compL g c e vs ds [] (wipeS vs s1) = .ok acc s2) : cComp f g c e vs s = .ok (.own (.list acc)) (backS vs s1 s2) := by
  unfold cComp
  rw [hi, bnd_ok, h]
  rfl
theorem compL_step {g : Tg} {f : Ev} {vs : List Nat} {d : SV} {ds : List SV} {acc : List D} {s s1 s3 : S} {r : SV} {x : D} (h1 : g d s = some s1) (h2 : f s1 = .ok r s3) (h3 : r.settle = .sh x) (h4 : acc.length < sizeLine) : compL g cYes f vs (d :: ds) acc s = compL g cYes f vs ds (acc ++ [x]) (wipeS vs s3) := by
  conv => lhs; unfold compL
  rw [h1]
  simp only [cYes, Res.quiet, bnd_ok, if_true]
  rw [h2]
  simp only [Res.quiet, bnd_ok, h3, h4, if_true]
theorem compL_keep {g : Tg} {c : Tt} {f : Ev} {vs : List Nat} {d : SV} {ds : List SV} {acc : List D} {s s1 s2 s3 : S} {r : SV} {x : D} (h1 : g d s = some s1) (hc : c s1 = .ok true s2) (h2 : f s2 = .ok r s3) (h3 : r.settle = .sh x) (h4 : acc.length < sizeLine) : compL g c f vs (d :: ds) acc s = compL g c f vs ds (acc ++ [x]) (wipeS vs s3) := by
  conv => lhs; unfold compL
  rw [h1]
  dsimp only
  rw [hc]
  simp only [Res.quiet, bnd_ok, if_true]
  rw [h2]
  simp only [Res.quiet, bnd_ok, h3, h4, if_true]
theorem compL_drop {g : Tg} {c : Tt} {f : Ev} {vs : List Nat} {d : SV} {ds : List SV} {acc : List D} {s s1 s2 : S} (h1 : g d s = some s1) (hc : c s1 = .ok false s2) : compL g c f vs (d :: ds) acc s = compL g c f vs ds acc (wipeS vs s2) := by
  conv => lhs; unfold compL
  rw [h1]
  dsimp only
  rw [hc]
  simp only [Res.quiet, bnd_ok, Bool.false_eq_true, if_false]
theorem seq_ret {r : SV} {s1 : S} (h : m1 s = .ok (.ret r) s1) : cSeq m1 m2 s = .ok (.ret r) s1 := by unfold cSeq; rw [h]; rfl
theorem ifs_ok {c : Tt} {b : Bool} {s1 : S} (h : c s = .ok b s1) : cIfS c m1 m2 s = if b = true then m1 s1 else m2 s1 := by unfold cIfS; rw [h]; rfl
end
theorem mulFits_r {i j : Int} (h : smallI j = true) : mulFits i j = true := by unfold mulFits; rw [h]; rfl
theorem mulFits_l {i j : Int} (h : smallI i = true) : mulFits i j = true := by unfold mulFits; rw [h, Bool.or_true]; rfl
/-! ### how each reading comes to its end -/
section
variable {f fa fb' : Ev} {fb fc : Vw} {ga : Ag} {m m1 m2 : Sm} {c c1 c2 : Tt} {s s1 s2 s3 : S} {r r1 r2 x : SV} {d d1 d2 d3 : D} {ds : List D} {rs : List SV} {i n : Nat} {b : Bool} {e : Ex}
theorem vE_ok (h : f s = .ok r s1) (hd : r.dat = some d) : vE f s = .ok d s1 := by unfold vE; rw [h, bnd_ok, hd]
theorem vE_exc (h : f s = .exc e s1) : vE f s = .exc e s1 := by unfold vE; rw [h]; rfl
theorem call1_ok {g : D → Option SV} (h : fb s = .ok d s1) (hg : g d = some r) : cCall1 g fb s = .ok r s1 := by unfold cCall1; rw [h, bnd_ok, hg]; rfl
theorem callN_ok {g : List D → Option SV} (h : ga s = .ok rs s1) (hd : datas rs = some ds) (hg : g ds = some r) : cCallN g ga s = .ok r s1 := by unfold cCallN; rw [h, bnd_ok, hd]; dsimp only; rw [hg]; rfl
theorem ret_ok (h : f s = .ok r s1) : cRet f s = .ok (.ret r) s1 := by unfold cRet; rw [h]; rfl
theorem ret_exc (h : f s = .exc e s1) : cRet f s = .exc e s1 := by unfold cRet; rw [h]; rfl
theorem expr_ok (h : f s = .ok r s1) : cExpr f s = .ok .nx s1 := by unfold cExpr; rw [h]; rfl
theorem expr_exc (h : f s = .exc e s1) : cExpr f s = .exc e s1 := by unfold cExpr; rw [h]; rfl
theorem asg_ok {g : Tg} (h : f s = .ok r s1) (hg : g r s1 = some s2) : cAsg f g s = .ok .nx s2 := by unfold cAsg; rw [h, bnd_ok, hg]
theorem asg_exc {g : Tg} (h : f s = .exc e s1) : cAsg f g s = .exc e s1 := by unfold cAsg; rw [h]; rfl
theorem nm_ok (h : f s = .ok r s1) : cAsg f (gNm i) s = .ok .nx ⟨s1.sl.set i (some r), s1.src⟩ := asg_ok h rfl
theorem binE_ok {g : D → D → Option SV} (ha : fa s = .ok r s1) (hb : fb s1 = .ok d2 s2) (hd : r.dat = some d1) (hg : g d1 d2 = some x) : cBinE g fa fb s = .ok x s2 := by
  unfold cBinE
  rw [ha, bnd_ok, hd]
  dsimp only
  rw [hb, bnd_ok, hg]
  rfl
theorem binV_ok {g : D → D → Option SV} (hi : s.sl[i]? = some (some r)) (hb : fb s = .ok d2 s1) (hd : datAt s1 i = some d1) (hg : g d1 d2 = some x) : cBinV g i fb s = .ok x s1 := by
  unfold cBinV
  rw [hi]
  dsimp only
  rw [hb, bnd_ok, hd]
  dsimp only
  rw [hg]
  rfl
theorem cons_ok (h : f s = .ok r s1) (hr : ga s1 = .ok rs s2) : cCons f ga s = .ok (r.settle :: rs) s2 := by unfold cCons; rw [h, bnd_ok, hr]; rfl
theorem cons_exc (h : f s = .exc e s1) : cCons f ga s = .exc e s1 := by unfold cCons; rw [h]; rfl
theorem consR_ok (h : f s = .ok r s1) (hr : ga s1 = .ok rs s2) : cConsR f ga s = .ok (r :: rs) s2 := by unfold cConsR; rw [h, bnd_ok, hr]; rfl
theorem tup_ok (h : ga s = .ok rs s1) (hd : datas rs = some ds) (hz : ds.length ≤ 1000) : cTup ga s = .ok (.sh (.tuple ds)) s1 := by
  unfold cTup
  rw [h, bnd_ok, hd]
  dsimp only
  rw [if_pos (by rw [sizeLine_eq]; omega)]
theorem tup_exc (h : ga s = .exc e s1) : cTup ga s = .exc e s1 := by unfold cTup; rw [h]; rfl
theorem lst_ok (h : ga s = .ok rs s1) (hd : datas rs = some ds) (hz : ds.length ≤ 1000) : cLst ga s = .ok (.own (.list ds)) s1 := by
  unfold cLst
  rw [h, bnd_ok, hd]
  dsimp only
  rw [if_pos (by rw [sizeLine_eq]; omega)]
theorem orV_tt {k1 k2 : Ev} (h : k1 s = .ok (.sh (.bool true)) s1) : cOrV k1 k2 s = .ok (.sh (.bool true)) s1 := by unfold cOrV; rw [h, bnd_ok]; rfl
theorem orV_ff {k1 k2 : Ev} (h : k1 s = .ok (.sh (.bool false)) s1) (h2 : k2 s1 = .ok r s2) : cOrV k1 k2 s = .ok r s2 := by unfold cOrV; rw [h, bnd_ok]; exact h2
theorem andV_ff {k1 k2 : Ev} (h : k1 s = .ok (.sh (.bool false)) s1) : cAndV k1 k2 s = .ok (.sh (.bool false)) s1 := by unfold cAndV; rw [h, bnd_ok]; rfl
theorem andV_tt {k1 k2 : Ev} (h : k1 s = .ok (.sh (.bool true)) s1) (h2 : k2 s1 = .ok r s2) : cAndV k1 k2 s = .ok r s2 := by unfold cAndV; rw [h, bnd_ok]; exact h2
theorem t_ok (h : f s = .ok (.sh (.bool b)) s1) : cT f s = .ok b s1 := by unfold cT; rw [h]; rfl
theorem not_ok (h : c s = .ok b s1) : cNot c s = .ok (!b) s1 := by unfold cNot; rw [h]; rfl
theorem and_ok (h : c1 s = .ok b s1) (h2 : b = true → c2 s1 = .ok b' s2) (h3 : b = false → b' = false ∧ s2 = s1) : cAnd c1 c2 s = .ok b' s2 := by
  unfold cAnd
  rw [h, bnd_ok]
  cases b with
  | true => rw [if_pos rfl]; exact h2 rfl
  | false => obtain ⟨rfl, rfl⟩ := h3 rfl; rw [if_neg Bool.false_ne_true]
theorem or_ff (h : c1 s = .ok false s1) (h2 : c2 s1 = .ok b s2) : cOr c1 c2 s = .ok b s2 := by
  unfold cOr
  rw [h, bnd_ok, if_neg Bool.false_ne_true, h2]
theorem or_tt (h : c1 s = .ok true s1) : cOr c1 c2 s = .ok true s1 := by
  unfold cOr
  rw [h, bnd_ok, if_pos rfl]
theorem if_tt {k1 k2 : Ev} (h : c s = .ok true s1) (h2 : k1 s1 = .ok r s2) : cIf c k1 k2 s = .ok r s2 := by unfold cIf; rw [h, bnd_ok, if_pos rfl, h2]
theorem if_ff {k1 k2 : Ev} (h : c s = .ok false s1) (h2 : k2 s1 = .ok r s2) : cIf c k1 k2 s = .ok r s2 := by unfold cIf; rw [h, bnd_ok, if_neg Bool.false_ne_true, h2]
theorem ifs_tt {q : Res Fl} (h : c s = .ok true s1) (h2 : m1 s1 = q) : cIfS c m1 m2 s = q := by unfold cIfS; rw [h, bnd_ok, if_pos rfl, h2]
theorem ifs_ff {q : Res Fl} (h : c s = .ok false s1) (h2 : m2 s1 = q) : cIfS c m1 m2 s = q := by unfold cIfS; rw [h, bnd_ok, if_neg Bool.false_ne_true, h2]
theorem seq_nx {q : Res Fl} (h : m1 s = .ok .nx s1) (h2 : m2 s1 = q) : cSeq m1 m2 s = q := (seq_ok h).trans h2
theorem seq_exc (h : m1 s = .exc e s1) : cSeq m1 m2 s = .exc e s1 := by unfold cSeq; rw [h]; rfl
theorem run_ret {as : List SV} {src : Option Src} (h : m ⟨padS n as, src⟩ = .ok (.ret r) s) : runFn n m as src = .ok r s := by unfold runFn; rw [h]; rfl
theorem run_nx {as : List SV} {src : Option Src} (h : m ⟨padS n as, src⟩ = .ok .nx s) : runFn n m as src = .ok (.sh .none) s := by unfold runFn; rw [h]; rfl
theorem run_exc {as : List SV} {src : Option Src} (h : m ⟨padS n as, src⟩ = .exc e s) : runFn n m as src = .exc e s := by unfold runFn; rw [h]; rfl
theorem par_ok {is : List Nat} (h : ga s = .ok rs s1) (hl : is.length = rs.length := by rfl) : cPar is ga s = .ok .nx { s1 with sl := setMany s1.sl is rs } := by unfold cPar; rw [h, bnd_ok, if_pos hl]
theorem aug_ok {g : D → D → Option SV} (hi : s.sl[i]? = some (some r)) (hb : fb s = .ok d2 s1) (hd : datAt s1 i = some d1) (hg : g d1 d2 = some x) : cAug g i fb s = .ok .nx { s1 with sl := s1.sl.set i (some x) } := by
  unfold cAug
  rw [hi]
  dsimp only
  rw [hb, bnd_ok, hd]
  dsimp only
  rw [hg]
theorem setIx_ok {fk : Vw} {d0 : D} (hv : f s = .ok r s1) (hr : r.settle = .sh d3) (h0 : s1.sl[i]? = some (some (.own d0))) (hk : fk s1 = .ok d2 s2) (hi : s2.sl[i]? = some (some (.own d1))) (hg : dSet d1 d2 d3 = some d) : cSetIx i fk f s = .ok .nx { s2 with sl := s2.sl.set i (some (.own d)) } := by
  unfold cSetIx
  rw [hv, bnd_ok, hr]
  dsimp only
  rw [h0]
  dsimp only
  rw [hk, bnd_ok, hi]
  dsimp only
  rw [hg]
theorem chain_ok {g g' : D → D → Option SV} (ha : fa s = .ok r s1) (hb : fb' s1 = .ok r1 s2) (h1 : r.dat = some d) (h2 : r1.dat = some d1) (hg : g d d1 = some (.sh (.bool true))) (hc : fc s2 = .ok d2 s3) (hg' : g' d1 d2 = some x) : cChain g g' fa fb' fc s = .ok x s3 := by
  unfold cChain
  rw [ha, bnd_ok, hb, bnd_ok, h1, h2]
  dsimp only
  rw [hg]
  dsimp only
  rw [hc, bnd_ok, hg']
  rfl
theorem chain_no {g g' : D → D → Option SV} (ha : fa s = .ok r s1) (hb : fb' s1 = .ok r1 s2) (h1 : r.dat = some d) (h2 : r1.dat = some d1) (hg : g d d1 = some (.sh (.bool false))) : cChain g g' fa fb' fc s = .ok (.sh (.bool false)) s2 := by
  unfold cChain
  rw [ha, bnd_ok, hb, bnd_ok, h1, h2]
  dsimp only
  rw [hg]
end
end Pw
set_option Elab.async false
set_option linter.all false
set_option maxRecDepth 100000
namespace Pw
namespace Law
open PySem PySem.Spec PyProof.Rows L2
def m_law_source : Sm := (cSeq (cAsg (cD (.int 11)) (gNm 1)) (cSeq (cFor (cIt (cVar 0)) (gNm 2) (cAsg (cBinE dMod (cCall1 dInt (vE (cBinE dAdd (cBinE dAdd (cBinV dMul 1 (vE (cD (.int 69069)))) (vE (cBinV dMul 2 (vE (cD (.int 31)))))) (vE (cD (.int 5)))))) (vE (cD (.int 2147483629)))) (gNm 1))) (cRet (cDisp [((cD (.str "cells")), (cRev (vE (cComp (cIt (cVar 0)) (gNm 2) cYes (cCall1 dAbs (cVarV 2)) [2])))), ((cD (.str "left")), (cD (.int 1))), ((cD (.str "mixed")), (cVar 1)), ((cD (.str "turn")), (cD (.int 0)))]))))
def F_law_source : Fd := runFn 3 (m_law_source)
def m_law_pick : Sm := (cSeq (cWhile (cAnd (cT (cBinV dGt 1 (vE (cD (.int 1))))) (cAnd (cT (cBinE dLt (cSrcG 0 Src.left) (vE (cD (.int 2))))) (cT (cBinE dGt (cSrcLen 0) (vE (cD (.int 0))))))) (cSrcSet 0 putLeft (cSrcPop 0))) (cSeq (cAsg (cSrcG 0 Src.left) (gNm 2)) (cSeq (cIfS (cOr (cT (cBinV dLt 1 (vE (cD (.int 2))))) (cT (cBinV dGt 2 (vE (cD (.int 1)))))) (cSeq (cSrcSet 0 putLeft (cBinV dFdiv 2 (vE (cCallN dMax2 (cCons (cD (.int 1)) (cCons (cVar 1) cNil)))))) (cRet (cBinE dMod (cCall1 dInt (cVarV 2)) (vE (cCallN dMax2 (cCons (cD (.int 1)) (cCons (cVar 1) cNil))))))) cSkip) (cSeq (cSrcSet 0 putTurn (cBinE dAdd (cSrcG 0 Src.turn) (vE (cD (.int 1))))) (cSeq (cAsg (cBinE dMod (cCall1 dInt (vE (cBinE dAdd (cSrcG 0 Src.mixed) (vE (cBinE dMul (cSrcG 0 Src.turn) (vE (cD (.int 104729)))))))) (vE (cD (.int 998244353)))) (gNm 3)) (cSeq (cAsg (cBinE dMod (cCall1 dInt (vE (cBinE dAdd (cBinV dMul 3 (cVarV 3)) (vE (cBinE dMul (cSrcG 0 Src.turn) (vE (cD (.int 17)))))))) (vE (cD (.int 2147483647)))) (gNm 3)) (cSeq (cSrcSet 0 putMixed (cVar 3)) (cRet (cBinE dMod (cCall1 dInt (vE (cBinV dFdiv 3 (vE (cD (.int 16)))))) (cVarV 1))))))))))
def F_law_pick : Fd := runFn 4 (m_law_pick)
def m_law_of : Sm := (cRet (cBinV dIx 1 (vE (cCall 2 F_law_pick (cCons (cVar 0) (cCons (cCall1 dLen (cVarV 1)) cNil))))))
def F_law_of : Fd := runFn 2 (m_law_of)
/-! ### the source -/
theorem law_source_loop (ns : List Int) : ∀ (ms : List Int) (mx : Int) (o : Option SV), ∃ mx' o', forL (gNm 2) (cAsg (cBinE dMod (cCall1 dInt (vE (cBinE dAdd (cBinE dAdd (cBinV dMul 1 (vE (cD (.int 69069)))) (vE (cBinV dMul 2 (vE (cD (.int 31)))))) (vE (cD (.int 5)))))) (vE (cD (.int 2147483629)))) (gNm 1)) (shs (ms.map .int)) ⟨[some (.scr ns), some (.sh (.int mx)), o], none⟩ = .ok .nx ⟨[some (.scr ns), some (.sh (.int mx')), o'], none⟩
  | [], mx, o => ⟨mx, o, rfl⟩
  | z :: ms, mx, o => by
    obtain ⟨mx', o', h⟩ := law_source_loop ns ms ((mx * 69069 + z * 31 + 5) % 2147483629) (some (.sh (.int z)))
    refine ⟨mx', o', ?_⟩
    rw [← h]
    have e1 : mulFits mx 69069 = true := mulFits_r (by decide)
    have e2 : mulFits z 31 = true := mulFits_r (by decide)
    refine forL_step rfl ?_
    simp only [cAsg, cBinE, cBinV, vE, cD, cCall1, datAt, SV.dat, dMul, dAdd, dInt, dMod, e1, e2, if_true, bnd_ok, opt_some, gNm, List.getElem?_cons_zero, List.getElem?_cons_succ, List.set_cons_zero, List.set_cons_succ]
    rfl
def absI (i : Int) : Int := if i < 0 then -i else i
theorem law_source_comp (a b : Option SV) : ∀ (ms : List Int) (acc : List D), acc.length + ms.length ≤ 1000 → compL (gNm 2) cYes (cCall1 dAbs (cVarV 2)) [2] (shs (ms.map .int)) acc ⟨[a, b, none], none⟩ = .ok (acc ++ (ms.map absI).map .int) ⟨[a, b, none], none⟩
  | [], acc, _ => by simp [compL, shs]
  | z :: ms, acc, h => by
    have ih := law_source_comp a b ms (acc ++ [.int (absI z)]) (by simp at h ⊢; omega)
    have h4 : acc.length < sizeLine := by rw [sizeLine_eq]; simp at h; omega
    simp only [shs, List.map_cons, compL, gNm, cYes, Res.quiet, bnd_ok, if_true, cCall1, cVarV, dAbs, opt_some, SV.settle, wipeS, List.getElem?_cons_zero, List.getElem?_cons_succ, List.set_cons_zero, List.set_cons_succ, h4]
    simp only [shs, List.append_assoc, List.singleton_append] at ih
    exact ih
theorem law_source_ok (ns : List Int) (hl : ns.length ≤ 63) : ∃ sr s', F_law_source [.scr ns] none = .ok (.own (srcD sr)) s' ∧ s'.src = none ∧ sr.cells.length ≤ 63 := by
  obtain ⟨mx, o, h⟩ := law_source_loop ns ns 11 none
  refine ⟨⟨(ns.map absI).reverse, 1, mx, 0⟩, ⟨[some (.scr ns), some (.sh (.int mx)), o], none⟩, ?_, rfl, by simpa using hl⟩
  unfold F_law_source runFn m_law_source
  have h0 : cAsg (cD (.int 11)) (gNm 1) ⟨padS 3 [.scr ns], none⟩ = .ok .nx ⟨[some (.scr ns), some (.sh (.int 11)), none], none⟩ := rfl
  have h1 := for_ok (f := cIt (cVar 0)) (s := ⟨[some (.scr ns), some (.sh (.int 11)), none], none⟩) rfl h
  have hc : cComp (cIt (cVar 0)) (gNm 2) cYes (cCall1 dAbs (cVarV 2)) [2] ⟨[some (.scr ns), some (.sh (.int mx)), o], none⟩ = .ok (.own (.list ((ns.map absI).map .int))) ⟨[some (.scr ns), some (.sh (.int mx)), o], none⟩ :=
    comp_ok (f := cIt (cVar 0)) (s := ⟨[some (.scr ns), some (.sh (.int mx)), o], none⟩) (s1 := ⟨[some (.scr ns), some (.sh (.int mx)), o], none⟩) (vs := [2]) rfl (law_source_comp _ _ ns [] (by simp; omega))
  rw [seq_ok h0, seq_ok h1]
  simp only [cRet, cDisp, cPairs, cD, bnd_ok, cRev, vE, hc, SV.dat, SV.settle, cVar, List.getElem?_cons_zero, List.getElem?_cons_succ, keysD, Option.map_some, putAll, List.foldl_cons, List.foldl_nil]
  unfold srcD
  rw [List.map_reverse]
  rfl
def pkS (many : Int) (sr : Src) : S := ⟨[some .src, some (.sh (.int many)), none, none], some sr⟩
theorem law_pick_while (many : Int) : ∀ (n : Nat) (sr : Src), sr.cells.length < n → ∃ sr', whileL (cAnd (cT (cBinV dGt 1 (vE (cD (.int 1))))) (cAnd (cT (cBinE dLt (cSrcG 0 Src.left) (vE (cD (.int 2))))) (cT (cBinE dGt (cSrcLen 0) (vE (cD (.int 0))))))) (cSrcSet 0 putLeft (cSrcPop 0)) n (pkS many sr) = .ok .nx (pkS many sr') ∧ sr'.cells.length ≤ sr.cells.length
  | 0, sr, h => absurd h (Nat.not_lt_zero _)
  | n + 1, sr, h => by
    have hc : cAnd (cT (cBinV dGt 1 (vE (cD (.int 1))))) (cAnd (cT (cBinE dLt (cSrcG 0 Src.left) (vE (cD (.int 2))))) (cT (cBinE dGt (cSrcLen 0) (vE (cD (.int 0)))))) (pkS many sr) = .ok (decide (1 < many) && (decide (sr.left < 2) && decide (0 < (sr.cells.length : Int)))) (pkS many sr) := by
      simp only [pkS, cAnd, cT, cBinV, cBinE, vE, cD, cSrcG, cSrcLen, datAt, SV.dat, bnd_ok, opt_some, dGt, dLt, dOrd, dOrdI, List.getElem?_cons_zero, List.getElem?_cons_succ]
      by_cases c1 : 1 < many <;> by_cases c2 : sr.left < 2 <;> simp [c1, c2]
    unfold whileL
    rw [hc, bnd_ok]
    split
    · rename_i hb
      simp only [Bool.and_eq_true, decide_eq_true_eq] at hb
      have hl : sr.cells.length - 1 < sr.cells.length := by omega
      have hm : cSrcSet 0 putLeft (cSrcPop 0) (pkS many sr) = .ok .nx (pkS many ⟨sr.cells.dropLast, sr.cells[sr.cells.length - 1], sr.mixed, sr.turn⟩) := by
        simp only [pkS, cSrcSet, cSrcPop, List.getElem?_cons_zero, List.getElem?_eq_getElem hl, bnd_ok, putLeft]
      rw [hm, bnd_ok]
      obtain ⟨sr', e1, e2⟩ := law_pick_while many n ⟨sr.cells.dropLast, sr.cells[sr.cells.length - 1], sr.mixed, sr.turn⟩ (by simp; omega)
      exact ⟨sr', e1, by simp at e2; omega⟩
    · exact ⟨sr, rfl, Nat.le_refl _⟩
/-- what a pick gives -/
def PickIn (many v : Int) : Prop := 0 ≤ v ∧ (v < many ∨ (many < 2 ∧ v = 0))
theorem pick_ok (many : Int) (hm : many < 2 ^ 62) (sr : Src) (hs : sr.cells.length ≤ 63) : ∃ v sr' s', F_law_pick [.src, .sh (.int many)] (some sr) = .ok (.sh (.int v)) s' ∧ s'.src = some sr' ∧ PickIn many v ∧ sr'.cells.length ≤ 63 := by
  obtain ⟨sr1, hw, hl⟩ := law_pick_while many FUEL sr (Nat.lt_of_le_of_lt hs (by decide))
  have hl1 : sr1.cells.length ≤ 63 := Nat.le_trans hl hs
  have g0 : (⟨padS 4 [.src, .sh (.int many)], some sr⟩ : S) = pkS many sr := rfl
  have hx : dMax2 [.int 1, .int many] = some (.sh (.int (if many > 1 then many else 1))) := rfl
  have hx0 : 0 < (if many > 1 then many else 1) := by split <;> omega
  have hx1 : (if many > 1 then many else 1).natAbs.log2 < 9000 := by
    refine Nat.lt_of_le_of_lt (?_ : _ ≤ 62) (by decide)
    by_cases h : (if many > 1 then many else 1).natAbs = 0
    · rw [h]; decide
    · exact Nat.le_of_lt ((Nat.log2_lt h).mpr (by split <;> omega))
  unfold F_law_pick runFn m_law_pick
  rw [g0, seq_ok (show cWhile _ _ (pkS many sr) = .ok .nx (pkS many sr1) from hw)]
  have h2 : cAsg (cSrcG 0 Src.left) (gNm 2) (pkS many sr1) = .ok .nx ⟨[some .src, some (.sh (.int many)), some (.sh (.int sr1.left)), none], some sr1⟩ := rfl
  rw [seq_ok h2]
  have hc : cOr (cT (cBinV dLt 1 (vE (cD (.int 2))))) (cT (cBinV dGt 2 (vE (cD (.int 1))))) ⟨[some .src, some (.sh (.int many)), some (.sh (.int sr1.left)), none], some sr1⟩ = .ok (decide (many < 2) || decide (1 < sr1.left)) ⟨[some .src, some (.sh (.int many)), some (.sh (.int sr1.left)), none], some sr1⟩ := by
    simp only [cOr, cT, cBinV, vE, cD, datAt, SV.dat, bnd_ok, opt_some, dGt, dLt, dOrd, dOrdI, List.getElem?_cons_zero, List.getElem?_cons_succ]
    by_cases c1 : many < 2 <;> simp [c1]
  by_cases hb : (decide (many < 2) || decide (1 < sr1.left)) = true
  · have h3 : cSrcSet 0 putLeft (cBinV dFdiv 2 (vE (cCallN dMax2 (cCons (cD (.int 1)) (cCons (cVar 1) cNil))))) ⟨[some .src, some (.sh (.int many)), some (.sh (.int sr1.left)), none], some sr1⟩ = .ok .nx ⟨[some .src, some (.sh (.int many)), some (.sh (.int sr1.left)), none], some (putLeft sr1 (sr1.left / (if many > 1 then many else 1)))⟩ := by
      simp only [cSrcSet, cBinV, vE, cCallN, cCons, cNil, cD, cVar, SV.settle, datas, Option.map_some, hx, datAt, SV.dat, bnd_ok, opt_some, dFdiv, hx0, hx1, and_self, if_true, List.getElem?_cons_zero, List.getElem?_cons_succ]
    have h4 : cRet (cBinE dMod (cCall1 dInt (cVarV 2)) (vE (cCallN dMax2 (cCons (cD (.int 1)) (cCons (cVar 1) cNil))))) ⟨[some .src, some (.sh (.int many)), some (.sh (.int sr1.left)), none], some (putLeft sr1 (sr1.left / (if many > 1 then many else 1)))⟩ = .ok (.ret (.sh (.int (sr1.left % (if many > 1 then many else 1))))) ⟨[some .src, some (.sh (.int many)), some (.sh (.int sr1.left)), none], some (putLeft sr1 (sr1.left / (if many > 1 then many else 1)))⟩ := by
      simp only [cRet, cBinE, cCall1, cVarV, dInt, vE, cCallN, cCons, cNil, cD, cVar, SV.settle, datas, Option.map_some, hx, SV.dat, bnd_ok, opt_some, dMod, hx0, if_true, List.getElem?_cons_zero, List.getElem?_cons_succ]
    have h5 : cIfS (cOr (cT (cBinV dLt 1 (vE (cD (.int 2))))) (cT (cBinV dGt 2 (vE (cD (.int 1)))))) (cSeq (cSrcSet 0 putLeft (cBinV dFdiv 2 (vE (cCallN dMax2 (cCons (cD (.int 1)) (cCons (cVar 1) cNil)))))) (cRet (cBinE dMod (cCall1 dInt (cVarV 2)) (vE (cCallN dMax2 (cCons (cD (.int 1)) (cCons (cVar 1) cNil))))))) cSkip ⟨[some .src, some (.sh (.int many)), some (.sh (.int sr1.left)), none], some sr1⟩ = .ok (.ret (.sh (.int (sr1.left % (if many > 1 then many else 1))))) ⟨[some .src, some (.sh (.int many)), some (.sh (.int sr1.left)), none], some (putLeft sr1 (sr1.left / (if many > 1 then many else 1)))⟩ := by
      rw [ifs_ok hc, if_pos hb, seq_ok h3, h4]
    have h6 := Int.emod_nonneg sr1.left (Int.ne_of_gt hx0)
    have h7 := Int.emod_lt_of_pos sr1.left hx0
    rw [seq_ret h5]
    refine ⟨_, _, _, rfl, rfl, ⟨h6, ?_⟩, hl1⟩
    split at h7 <;> split <;> omega
  · have hb' : (decide (many < 2) || decide (1 < sr1.left)) = false := by simpa using hb
    have h2m : 2 ≤ many := by
      simp only [Bool.or_eq_false_iff, decide_eq_false_iff_not] at hb'
      omega
    have h5 : cIfS (cOr (cT (cBinV dLt 1 (vE (cD (.int 2))))) (cT (cBinV dGt 2 (vE (cD (.int 1)))))) (cSeq (cSrcSet 0 putLeft (cBinV dFdiv 2 (vE (cCallN dMax2 (cCons (cD (.int 1)) (cCons (cVar 1) cNil)))))) (cRet (cBinE dMod (cCall1 dInt (cVarV 2)) (vE (cCallN dMax2 (cCons (cD (.int 1)) (cCons (cVar 1) cNil))))))) cSkip ⟨[some .src, some (.sh (.int many)), some (.sh (.int sr1.left)), none], some sr1⟩ = .ok .nx ⟨[some .src, some (.sh (.int many)), some (.sh (.int sr1.left)), none], some sr1⟩ := by
      rw [ifs_ok hc, hb', if_neg Bool.false_ne_true]
      rfl
    have m1 : mulFits (sr1.turn + 1) 104729 = true := mulFits_r (by decide)
    have m2 : mulFits (sr1.turn + 1) 17 = true := mulFits_r (by decide)
    have r1 : 0 ≤ (sr1.mixed + (sr1.turn + 1) * 104729) % 998244353 ∧ (sr1.mixed + (sr1.turn + 1) * 104729) % 998244353 < 998244353 := ⟨Int.emod_nonneg _ (by decide), Int.emod_lt_of_pos _ (by decide)⟩
    generalize hmx : (sr1.mixed + (sr1.turn + 1) * 104729) % 998244353 = mx at r1
    have m3 : mulFits mx mx = true := mulFits_r (by unfold smallI; simp only [Bool.and_eq_true, decide_eq_true_eq]; omega)
    have h6 : cSrcSet 0 putTurn (cBinE dAdd (cSrcG 0 Src.turn) (vE (cD (.int 1)))) ⟨[some .src, some (.sh (.int many)), some (.sh (.int sr1.left)), none], some sr1⟩ = .ok .nx ⟨[some .src, some (.sh (.int many)), some (.sh (.int sr1.left)), none], some (putTurn sr1 (sr1.turn + 1))⟩ := rfl
    have h7 : cAsg (cBinE dMod (cCall1 dInt (vE (cBinE dAdd (cSrcG 0 Src.mixed) (vE (cBinE dMul (cSrcG 0 Src.turn) (vE (cD (.int 104729)))))))) (vE (cD (.int 998244353)))) (gNm 3) ⟨[some .src, some (.sh (.int many)), some (.sh (.int sr1.left)), none], some (putTurn sr1 (sr1.turn + 1))⟩ = .ok .nx ⟨[some .src, some (.sh (.int many)), some (.sh (.int sr1.left)), some (.sh (.int mx))], some (putTurn sr1 (sr1.turn + 1))⟩ := by
      subst hmx
      simp only [cAsg, cBinE, cSrcG, vE, cD, cCall1, SV.dat, dMul, dAdd, dInt, dMod, putTurn, m1, if_true, bnd_ok, opt_some, gNm, List.getElem?_cons_zero, List.getElem?_cons_succ, List.set_cons_zero, List.set_cons_succ]
      rfl
    have h8 : cAsg (cBinE dMod (cCall1 dInt (vE (cBinE dAdd (cBinV dMul 3 (cVarV 3)) (vE (cBinE dMul (cSrcG 0 Src.turn) (vE (cD (.int 17)))))))) (vE (cD (.int 2147483647)))) (gNm 3) ⟨[some .src, some (.sh (.int many)), some (.sh (.int sr1.left)), some (.sh (.int mx))], some (putTurn sr1 (sr1.turn + 1))⟩ = .ok .nx ⟨[some .src, some (.sh (.int many)), some (.sh (.int sr1.left)), some (.sh (.int ((mx * mx + (sr1.turn + 1) * 17) % 2147483647)))], some (putTurn sr1 (sr1.turn + 1))⟩ := by
      simp only [cAsg, cBinE, cBinV, cVarV, cSrcG, vE, cD, cCall1, datAt, SV.dat, dMul, dAdd, dInt, dMod, putTurn, m2, m3, if_true, bnd_ok, opt_some, gNm, List.getElem?_cons_zero, List.getElem?_cons_succ, List.set_cons_zero, List.set_cons_succ]
      rfl
    generalize (mx * mx + (sr1.turn + 1) * 17) % 2147483647 = my at h8
    have h9 : cSrcSet 0 putMixed (cVar 3) ⟨[some .src, some (.sh (.int many)), some (.sh (.int sr1.left)), some (.sh (.int my))], some (putTurn sr1 (sr1.turn + 1))⟩ = .ok .nx ⟨[some .src, some (.sh (.int many)), some (.sh (.int sr1.left)), some (.sh (.int my))], some (putMixed (putTurn sr1 (sr1.turn + 1)) my)⟩ := rfl
    have hmp : 0 < many := by omega
    have ha : cRet (cBinE dMod (cCall1 dInt (vE (cBinV dFdiv 3 (vE (cD (.int 16)))))) (cVarV 1)) ⟨[some .src, some (.sh (.int many)), some (.sh (.int sr1.left)), some (.sh (.int my))], some (putMixed (putTurn sr1 (sr1.turn + 1)) my)⟩ = .ok (.ret (.sh (.int (my / 16 % many)))) ⟨[some .src, some (.sh (.int many)), some (.sh (.int sr1.left)), some (.sh (.int my))], some (putMixed (putTurn sr1 (sr1.turn + 1)) my)⟩ := by
      have k1 : (0 : Int) < 16 ∧ (16 : Int).natAbs.log2 < 9000 := by decide
      simp only [cRet, cBinE, cBinV, cVarV, vE, cD, cCall1, datAt, SV.dat, dFdiv, dInt, dMod, k1, hmp, and_self, if_true, bnd_ok, opt_some, List.getElem?_cons_zero, List.getElem?_cons_succ]
    rw [seq_ok h5, seq_ok h6, seq_ok h7, seq_ok h8, seq_ok h9, ha]
    exact ⟨_, _, _, rfl, rfl, ⟨Int.emod_nonneg _ (by omega), .inl (Int.emod_lt_of_pos _ hmp)⟩, hl1⟩
/-- a source as the laws have it -/
def SrcIn (sr : Src) : Prop := sr.cells.length ≤ 63
/-- a call that draws: what it gives -/
def Draws (F : Fd) (as : List SV) (P : SV → Prop) : Prop := ∀ sr, SrcIn sr → ∃ r sr' sl, F as (some sr) = .ok r ⟨sl, some sr'⟩ ∧ P r ∧ SrcIn sr'
theorem Draws.call {n : Nat} {F : Fd} {ga : Ag} {rs : List SV} {s s1 : S} {P : SV → Prop} {sr : Src} (h : Draws F rs P) (ha : ga s = .ok rs s1) (hs : s1.src = some sr) (hi : SrcIn sr) (hn : rs.length = n := by rfl) (ho : okA rs = true := by rfl) : ∃ r sr', cCall n F ga s = .ok r ⟨s1.sl, some sr'⟩ ∧ P r ∧ SrcIn sr' := by
  obtain ⟨r, sr', sl, e, p, i⟩ := h sr hi
  rw [← hs] at e
  exact ⟨r, sr', call_ok ha e hn ho, p, i⟩
theorem pick_draws {many : Int} (hm : many < 2 ^ 62) : Draws F_law_pick [.src, .sh (.int many)] fun r => ∃ v, r = .sh (.int v) ∧ PickIn many v := fun sr hs => by
  obtain ⟨v, sr', ⟨sl, so⟩, e, e2, p, i⟩ := pick_ok many hm sr hs
  have e2 : so = some sr' := e2
  subst e2
  exact ⟨_, sr', sl, e, ⟨v, rfl, p⟩, i⟩
theorem of_draws {xs : List D} (h0 : xs ≠ []) (h1 : xs.length ≤ 1000) : Draws F_law_of [.src, .sh (.list xs)] fun r => ∃ x ∈ xs, r = .sh x := fun sr hs => by
  have hp : 0 < xs.length := List.length_pos_iff.mpr h0
  obtain ⟨r, sr', e, ⟨v, ev, pv⟩, i⟩ := (pick_draws (many := (xs.length : Int)) (by omega)).call (n := 2) (ga := cCons (cVar 0) (cCons (cCall1 dLen (cVarV 1)) cNil)) (s := ⟨[some .src, some (.sh (.list xs))], some sr⟩) (s1 := ⟨[some .src, some (.sh (.list xs))], some sr⟩) rfl rfl hs
  subst ev
  obtain ⟨p0, p1⟩ := pv
  have hv : v.toNat < xs.length := by omega
  refine ⟨.sh xs[v.toNat], sr', [some .src, some (.sh (.list xs))], ?_, ⟨_, List.getElem_mem hv, rfl⟩, i⟩
  have g0 : (⟨padS 2 [.src, .sh (.list xs)], some sr⟩ : S) = ⟨[some .src, some (.sh (.list xs))], some sr⟩ := rfl
  unfold F_law_of runFn m_law_of cRet cBinV vE
  rw [g0]
  simp only [e, List.getElem?_cons_zero, List.getElem?_cons_succ, bnd_ok, datAt, SV.dat, dIx, atI_int p0 hv, Option.map_some, opt_some]
end Law
end Pw
set_option Elab.async false
set_option linter.all false
set_option maxRecDepth 100000
namespace Pw
open PySem PySem.Spec PyProof.Rows L2
/-! ### what can be shown and compared -/
structure Nice (d : D) (k n : Nat) : Prop where
  sh : d.showable = true
  nd : d.hasDict = false
  pl : d.plain = true
  dp : d.depth ≤ k
  ln : d.shown.length ≤ n
theorem Nice.mono {d : D} {k k' n n' : Nat} (h : Nice d k n) (hk : k ≤ k') (hn : n ≤ n') : Nice d k' n' := ⟨h.sh, h.nd, h.pl, Nat.le_trans h.dp hk, Nat.le_trans h.ln hn⟩
theorem piled_le {n : Nat} : ∀ {ts : List Str}, (∀ t ∈ ts, t.length ≤ n) → piled ts ≤ ts.length * (n + 2)
  | [], _ => by simp [piled]
  | t :: ts, h => by
    have ih := piled_le (n := n) (ts := ts) fun t ht => h t (List.mem_cons_of_mem _ ht)
    have h0 := h t List.mem_cons_self
    rw [piled_cons, List.length_cons, Nat.succ_mul]
    omega
theorem tupleText_le (ts : List Str) : (tupleText ts).length ≤ piled ts + 4 := by
  unfold tupleText
  rw [Str.length_append, Str.length_append]
  have h1 : (("(" : Str)).length = 1 := by decide
  have h2 : ((if ts.length == 1 then ",)" else ")" : String) : Str).length ≤ 2 := by split <;> decide
  by_cases h : ts = []
  · subst h
    have : (Str.join ", " []).length = 0 := by decide
    omega
  · have := join_length_add ts h
    omega
theorem listText_le : ∀ (ts : List Str), (listText ts).length ≤ piled ts + 4
  | [] => by decide
  | t :: r => by
    have h := textFrom_length_pos r 1 (("[" : Str) ++ (if (0 : Nat) > 0 then ", " else "" : String) ++ t) (Nat.succ_pos 0)
    have hY : listText (t :: r) = textFrom 1 (("[" : Str) ++ (if (0 : Nat) > 0 then ", " else "" : String) ++ t) r ++ "]" := rfl
    have h3 : (("[" : Str) ++ (if (0 : Nat) > 0 then ", " else "" : String)).length = 1 := by decide
    have h4 : (("]" : Str)).length = 1 := by decide
    rw [hY, Str.length_append, h, Str.length_append, h3, h4]
    rw [piled_cons]
    omega
theorem all_show : ∀ {ds : List D} {k n : Nat}, (∀ d ∈ ds, Nice d k n) → PyData.showableAll ds = true ∧ PyData.hasDictAll ds = false ∧ PyData.plainAll ds = true ∧ PyData.depthAll ds ≤ k ∧ (∀ t ∈ PyData.shownAll ds, t.length ≤ n) ∧ (PyData.shownAll ds).length = ds.length
  | [], k, n, _ => ⟨rfl, rfl, rfl, Nat.zero_le _, by simp [PyData.shownAll], rfl⟩
  | d :: ds, k, n, h => by
    obtain ⟨h1, h2, h3, h4, h5, h6⟩ := all_show (ds := ds) fun x hx => h x (List.mem_cons_of_mem _ hx)
    have h0 := h d List.mem_cons_self
    refine ⟨by simp [PyData.showableAll, h0.sh, h1], by simp [PyData.hasDictAll, h0.nd, h2], by simp [PyData.plainAll, h0.pl, h3], ?_, ?_, by simp [PyData.shownAll, h6]⟩
    · simp only [PyData.depthAll]
      exact Nat.max_le.mpr ⟨h0.dp, h4⟩
    · intro t ht
      simp only [PyData.shownAll, List.mem_cons] at ht
      rcases ht with rfl | ht
      · exact h0.ln
      · exact h5 t ht
theorem Nice.tuple {ds : List D} {k n : Nat} (h : ∀ d ∈ ds, Nice d k n) : Nice (.tuple ds) (k + 1) (ds.length * (n + 2) + 4) := by
  obtain ⟨h1, h2, h3, h4, h5, h6⟩ := all_show h
  refine ⟨by simpa [PyData.showable] using h1, by simpa [PyData.hasDict] using h2, by simpa [PyData.plain] using h3, by simpa [PyData.depth] using h4, ?_⟩
  have a := tupleText_le (PyData.shownAll ds)
  have b := piled_le h5
  rw [h6] at b
  simp only [PyData.shown]
  omega
theorem Nice.list {ds : List D} {k n : Nat} (h : ∀ d ∈ ds, Nice d k n) : Nice (.list ds) (k + 1) (ds.length * (n + 2) + 4) := by
  obtain ⟨h1, h2, h3, h4, h5, h6⟩ := all_show h
  refine ⟨by simpa [PyData.showable] using h1, by simpa [PyData.hasDict] using h2, by simpa [PyData.plain] using h3, by simpa [PyData.depth] using h4, ?_⟩
  have a := listText_le (PyData.shownAll ds)
  have b := piled_le h5
  rw [h6] at b
  simp only [PyData.shown]
  omega
theorem Nice.int {i : Int} {m : Nat} (h0 : 0 ≤ i) (h : i < 10 ^ m) (hm : 0 < m) (h5 : m ≤ 500) : Nice (.int i) 0 m := by
  have hl : i.natAbs.log2 < 1920 := by
    have h1 : i.natAbs < 10 ^ m := by
      have : ((10 ^ m : Nat) : Int) = 10 ^ m := by simp
      omega
    have h2 : (10 : Nat) ^ m ≤ 2 ^ 1920 := Nat.le_trans (Nat.pow_le_pow_right (by decide) h5) (by decide +kernel)
    by_cases hz : i.natAbs = 0
    · rw [hz]; decide
    · exact (Nat.log2_lt hz).mpr (Nat.lt_of_lt_of_le h1 h2)
  exact ⟨by simpa [PyData.showable] using hl, rfl, rfl, Nat.le_refl _, by simp only [PyData.shown]; exact PyProof.Rows.toString_length_le h0 hm h⟩
theorem Nice.str {x : Str} {n : Nat} (h : (PyData.shown (.str x)).length ≤ n) : Nice (.str x) 0 n := ⟨rfl, rfl, rfl, Nat.le_refl _, h⟩
theorem Nice.repr {d : D} {k n : Nat} (h : Nice d k n) (hk : k ≤ 40) (hn : n ≤ 16000000) : dRepr d = some (.sh (.str d.shown)) := by
  unfold dRepr
  rw [if_pos ⟨h.sh, h.nd, Nat.le_trans h.dp hk, by have := h.ln; rw [sizeLine_eq]; omega⟩]
theorem Nice.eq {a b : D} {k n k' n' : Nat} (h : Nice a k n) (h' : Nice b k' n') (hk : k ≤ 40) : dEq a b = some (.sh (.bool (PyData.eqv a b))) := by
  unfold dEq eqOk
  rw [h.pl, h'.pl, decide_eq_true (Nat.le_trans h.dp hk)]
  rfl
theorem Nice.ne {a b : D} {k n k' n' : Nat} (h : Nice a k n) (h' : Nice b k' n') (hk : k ≤ 40) : dNe a b = some (.sh (.bool (!PyData.eqv a b))) := by
  unfold dNe eqOk
  rw [h.pl, h'.pl, decide_eq_true (Nat.le_trans h.dp hk)]
  rfl
theorem Nice.refl {a : D} {k n : Nat} (h : Nice a k n) : PyData.eqv a a = true := PySem.SeqAt.eqv_refl_plain a h.pl
end Pw
set_option Elab.async false
set_option linter.all false
set_option maxRecDepth 100000
namespace Pw
namespace Law
open PySem PySem.Spec PyProof.Rows L2
-- printed by gen.py
def m_is_long : Sm := (cRet (cOrV (cBinE dGt (cBits (cVarV 0)) (vE (cD (.int 997)))) (cBinE dGt (cCall1 dLen (vE (cCall1 dStr (vE (cCall1 dAbs (cVarV 0)))))) (vE (cD (.int 300))))))
def F_is_long : Fd := runFn 1 (m_is_long)
def m_number_made (c_TooGreat : Addr) : Sm := (cSeq (cIfS (cT (cCall 1 F_is_long (cCons (cVar 0) cNil))) (cRaise c_TooGreat ["number"] (cCons (cD (.int 0)) cNil)) cSkip) (cRet (cVar 0)))
def F_number_made (c_TooGreat : Addr) : Fd := runFn 1 (m_number_made c_TooGreat)
def m_deal_size : Sm := (cRet (cCall1 dSum (vE (cComp (cIt (cBinV dIx 0 (vE (cD (.int 0))))) (gTp (gsCons (gNm 1) (gsCons (gNm 2) gsNil))) cYes (cVar 2) [1, 2]))))
def F_deal_size : Fd := runFn 3 (m_deal_size)
def m_full_pieces : Sm := (cRet (cCall1 dTuple (vE (cComp (cIt (cBinV dIx 0 (vE (cD (.int 0))))) (gTp (gsCons (gNm 1) (gsCons (gNm 2) gsNil))) (cT (cBinV dGt 2 (vE (cD (.int 0))))) (cTup (cCons (cVar 1) (cCons (cVar 2) cNil))) [1, 2]))))
def F_full_pieces : Fd := runFn 3 (m_full_pieces)
def m_deal_full : Sm := (cSeq (cAsg (cCall1 dDict (vE (cCall1 dList (vE (cBinV dIx 0 (vE (cD (.int 0)))))))) (gNm 1)) (cRet (cTup (cCons (cCall 1 F_full_pieces (cCons (cVar 0) cNil)) (cCons (cCall1 dTuple (vE (cComp (cIt (cBinV dIx 0 (vE (cD (.int 1))))) (gNm 2) (cT (cBinE dGt (cBinV dIx 1 (cVarV 2)) (vE (cD (.int 0))))) (cVar 2) [2]))) cNil)))))
def F_deal_full : Fd := runFn 3 (m_deal_full)
def m_deal_made (c_TooGreat : Addr) : Sm := (cSeq (cExpr (cCall 1 (F_number_made c_TooGreat) (cCons (cCall 1 F_deal_size (cCons (cVar 0) cNil)) cNil))) (cRet (cVar 0)))
def F_deal_made (c_TooGreat : Addr) : Fd := runFn 1 (m_deal_made c_TooGreat)
def m_first_cells : Sm := (cSeq (cPar [1, 2] (cConsR cNewD (cConsR (cD (.int 0)) cNil))) (cSeq (cFor (cIt (cBinV dIx 0 (vE (cD (.int 0))))) (gTp (gsCons (gNm 3) (gsCons (gNm 4) gsNil))) (cSeq (cSetIx 1 (cVarV 3) (cVar 2)) (cAug dAddI 2 (cVarV 4)))) (cRet (cVar 1))))
def F_first_cells : Fd := runFn 5 (m_first_cells)
def m_laid_cells : Sm := (cSeq (cPar [2, 3, 4] (cConsR (cCall1 dDict (vE (cCall1 dList (vE (cBinV dIx 0 (vE (cD (.int 0)))))))) (cConsR cNewD (cConsR (cD (.int 0)) cNil)))) (cSeq (cFor (cIt (cBinV dIx 0 (vE (cD (.int 1))))) (gNm 1) (cSeq (cSetIx 3 (cVarV 1) (cVar 4)) (cAug dAddI 4 (vE (cBinV dIx 2 (cVarV 1)))))) (cRet (cVar 3))))
def F_laid_cells : Fd := runFn 5 (m_laid_cells)
def m_cell_let (c_Refused : Addr) : Sm := (cIfS (cNot (cT (cChain dLe dLt (cD (.int 0)) (cVar 1) (vE (cCall 1 F_deal_size (cCons (cVar 0) cNil)))))) (cRaise c_Refused ["word", "place"] (cCons (cD (.str "cell")) (cCons (cVar 2) cNil))) cSkip)
def F_cell_let (c_Refused : Addr) : Fd := runFn 3 (m_cell_let c_Refused)
def m_piece_of (c_Refused : Addr) : Sm := (cSeq (cExpr (cCall 3 (F_cell_let c_Refused) (cCons (cVar 0) (cCons (cVar 1) (cCons (cD (.int 0)) cNil))))) (cSeq (cAsg (cD (.int 0)) (gNm 2)) (cSeq (cFor (cIt (cBinV dIx 0 (vE (cD (.int 0))))) (gTp (gsCons (gNm 3) (gsCons (gNm 4) gsNil))) (cSeq (cIfS (cT (cBinV dLt 1 (vE (cBinV dAdd 2 (cVarV 4))))) (cRet (cVar 3)) cSkip) (cAug dAddI 2 (cVarV 4)))) (cRet (cD .none)))))
def F_piece_of (c_Refused : Addr) : Fd := runFn 5 (m_piece_of c_Refused)
def m_cell_behind (c_Refused : Addr) : Sm := (cSeq (cAsg (cCall 2 (F_piece_of c_Refused) (cCons (cVar 0) (cCons (cVar 1) cNil))) (gNm 2)) (cRet (cBinE dSub (cBinE dAdd (cBinE dIx (cCall 1 F_laid_cells (cCons (cVar 0) cNil)) (cVarV 2)) (cVarV 1)) (vE (cBinE dIx (cCall 1 F_first_cells (cCons (cVar 0) cNil)) (cVarV 2))))))
def F_cell_behind (c_Refused : Addr) : Fd := runFn 3 (m_cell_behind c_Refused)
def m_deal_undone : Sm := (cSeq (cAsg (cCall1 dDict (vE (cCall1 dList (vE (cBinV dIx 0 (vE (cD (.int 0)))))))) (gNm 1)) (cRet (cTup (cCons (cCall1 dTuple (vE (cComp (cIt (cBinV dIx 0 (vE (cD (.int 1))))) (gNm 2) cYes (cTup (cCons (cVar 2) (cCons (cBinV dIx 1 (cVarV 2)) cNil))) [2]))) (cCons (cCall1 dTuple (vE (cComp (cIt (cBinV dIx 0 (vE (cD (.int 0))))) (gTp (gsCons (gNm 2) (gsCons (gNm 3) gsNil))) cYes (cVar 2) [2, 3]))) cNil)))))
def F_deal_undone : Fd := runFn 4 (m_deal_undone)
def m_cell_ahead (c_Refused : Addr) : Sm := (cRet (cCall 2 (F_cell_behind c_Refused) (cCons (cCall 1 F_deal_undone (cCons (cVar 0) cNil)) (cCons (cVar 1) cNil))))
def F_cell_ahead (c_Refused : Addr) : Fd := runFn 2 (m_cell_ahead c_Refused)
def m_law_deal : Sm := (cSeq (cPar [5, 6] (cConsR (cLst (cCons (cD (.str "p")) (cCons (cD (.str "q")) (cCons (cD (.str "a")) (cCons (cD (.str "b")) (cCons (cD (.str "r")) (cCons (cD (.str "c")) (cCons (cD (.str "x")) (cCons (cD (.str "z")) cNil))))))))) (cConsR (cLst cNil) cNil))) (cSeq (cAsg (cCall 2 F_law_of (cCons (cVar 0) (cCons (cLst (cCons (cD (.int 1)) (cCons (cD (.int 1)) (cCons (cD (.int 1)) (cCons (cD (.int 2)) (cCons (cD (.int 3)) cNil)))))) cNil))) (gNm 3)) (cSeq (cFor (cRange1 (cCons (cBinE dAdd (cD (.int 1)) (vE (cCall 2 F_law_pick (cCons (cVar 0) (cCons (cVar 1) cNil))))) cNil)) (gNm 4) (cSeq (cAsg (cMeth 5 "list" mPop (cCons (cCall 2 F_law_pick (cCons (cVar 0) (cCons (cCall1 dLen (cVarV 5)) cNil))) cNil)) (gNm 7)) (cExpr (cMeth 6 "list" mAppend (cCons (cTup (cCons (cVar 7) (cCons (cBinV dMul 3 (vE (cCall 2 F_law_pick (cCons (cVar 0) (cCons (cBinE dAdd (cBinV dFdiv 2 (cVarV 3)) (vE (cD (.int 1)))) cNil))))) cNil))) cNil))))) (cSeq (cPar [8, 9] (cConsR (cComp (cIt (cVar 6)) (gTp (gsCons (gNm 7) (gsCons (gNm 12) gsNil))) cYes (cVar 7) [7, 12]) (cConsR (cCall 2 F_law_pick (cCons (cVar 0) (cCons (cD (.int 4)) cNil))) cNil))) (cSeq (cIfS (cT (cBinV dEq 9 (vE (cD (.int 0))))) (cAsg (cRev (cVarV 8)) (gNm 8)) (cIfS (cT (cBinV dEq 9 (vE (cD (.int 1))))) (cSeq (cAsg (cCall 2 F_law_pick (cCons (cVar 0) (cCons (cCall1 dLen (cVarV 8)) cNil))) (gNm 10)) (cAsg (cBinE dAdd (cSlV 8 (some (cVarV 10)) none) (vE (cSlV 8 none (some (cVarV 10))))) (gNm 8))) (cSeq (cAsg (cMv 8) (gNm 11)) (cAsg (cComp (cRange1 (cCons (cCall1 dLen (cVarV 11)) cNil)) (gNm 4) cYes (cMeth 11 "list" mPop (cCons (cCall 2 F_law_pick (cCons (cVar 0) (cCons (cCall1 dLen (cVarV 11)) cNil))) cNil)) [4]) (gNm 8))))) (cRet (cTup (cCons (cCall1 dTuple (cVarV 6)) (cCons (cCall1 dTuple (cVarV 8)) cNil)))))))))
def F_law_deal : Fd := runFn 13 (m_law_deal)
def m_law_goes : Sm := (cSeq (cPar [2, 3, 4, 5, 6] (cConsR (cCall1 dDict (vE (cCall1 dList (vE (cBinV dIx 0 (vE (cD (.int 0)))))))) (cConsR (cLst cNil) (cConsR (cLst cNil) (cConsR cNewD (cConsR (cD (.int 0)) cNil)))))) (cSeq (cFor (cIt (cBinV dIx 0 (vE (cD (.int 1))))) (gNm 1) (cSeq (cSetIx 5 (cVarV 1) (cVar 6)) (cAsg (cBinV dAdd 6 (vE (cBinV dIx 2 (cVarV 1)))) (gNm 6)))) (cSeq (cFor (cIt (cBinV dIx 0 (vE (cD (.int 0))))) (gTp (gsCons (gNm 1) (gsCons (gNm 7) gsNil))) (cSeq (cAsg (cBinV dAdd 3 (vE (cComp (cRange1 (cCons (cVar 7) cNil)) (gNm 8) cYes (cBinE dAdd (cBinV dIx 5 (cVarV 1)) (cVarV 8)) [8]))) (gNm 3)) (cAsg (cBinV dAdd 4 (vE (cBinE dMul (cLst (cCons (cVar 1) cNil)) (cVarV 7)))) (gNm 4)))) (cRet (cTup (cCons (cVar 3) (cCons (cVar 4) cNil)))))))
def F_law_goes : Fd := runFn 9 (m_law_goes)
def m_law_told (c_Refused : Addr) (tab : Tab) : Sm := (cTry (cRet (cTup (cCons (cD (.str "told")) (cCons (cCallL 0 tab (cCons (cVar 1) (cCons (cVar 2) cNil))) cNil)))) c_Refused 3 (cRet (cTup (cCons (cD (.str "refused")) (cCons (cFld 3 "word") (cCons (cFld 3 "place") cNil))))))
def F_law_told (c_Refused : Addr) (tab : Tab) : Fd := runFn 4 (m_law_told c_Refused tab)
def m_law_begins : Sm := (cSeq (cPar [1, 2] (cConsR cNewD (cConsR (cD (.int 0)) cNil))) (cSeq (cFor (cIt (cVar 0)) (gTp (gsCons (gNm 3) (gsCons (gNm 4) gsNil))) (cSeq (cSetIx 1 (cVarV 3) (cVar 2)) (cAsg (cBinV dAdd 2 (cVarV 4)) (gNm 2)))) (cRet (cVar 1))))
def F_law_begins : Fd := runFn 5 (m_law_begins)
def m_law_deal_right (c_TooGreat : Addr) (c_Refused : Addr) (a_piece_of : Addr) (a_cell_behind : Addr) (a_cell_ahead : Addr) (tab : Tab) : Sm := (cSeq (cAsg (cTup (cCons (cCall 1 F_law_goes (cCons (cVar 0) cNil)) (cCons (cCall1 dDict (vE (cCall1 dList (vE (cBinV dIx 0 (vE (cD (.int 0)))))))) cNil))) (gTp (gsCons (gTp (gsCons (gNm 11) (gsCons (gNm 12) gsNil))) (gsCons (gNm 8) gsNil)))) (cSeq (cAsg (cCall1 dLen (cVarV 11)) (gNm 1)) (cSeq (cIfS (cOr (cT (cBinE dNe (cCall 1 F_deal_size (cCons (cVar 0) cNil)) (cVarV 1))) (cOr (cT (cBinE dNe (cCall1 dSorted (cVarV 11)) (vE (cListRg (cVarV 1))))) (cT (cBinE dNe (cCall1 dRepr (vE (cCall 1 (F_deal_made c_TooGreat) (cCons (cVar 0) cNil)))) (vE (cCall1 dRepr (cVarV 0))))))) (cRet (cD (.bool false))) cSkip) (cSeq (cAsg (cBinE dMul (cLst (cCons (cD (.int 0)) cNil)) (cVarV 1)) (gNm 2)) (cSeq (cFor (cEnum (cCons (cVar 11) cNil)) (gTp (gsCons (gNm 3) (gsCons (gNm 9) gsNil))) (cSetIx 2 (cVarV 9) (cVar 3))) (cSeq (cFor (cRange1 (cCons (cVar 1) cNil)) (gNm 3) (cSeq (cAsg (cLst (cCons (cBinV dIx 12 (cVarV 3)) (cCons (cBinV dIx 11 (cVarV 3)) (cCons (cBinV dIx 2 (cVarV 3)) cNil)))) (gNm 10)) (cIfS (cT (cBinE dNe (cLst (cCons (cCall 2 (F_piece_of c_Refused) (cCons (cVar 0) (cCons (cVar 3) cNil))) (cCons (cCall 2 (F_cell_behind c_Refused) (cCons (cVar 0) (cCons (cVar 3) cNil))) (cCons (cCall 2 (F_cell_ahead c_Refused) (cCons (cVar 0) (cCons (cVar 3) cNil))) cNil)))) (cVarV 10))) (cRet (cD (.bool false))) cSkip))) (cSeq (cFor (cIt (cTupF (cCons (cFn a_piece_of) (cCons (cFn a_cell_behind) (cCons (cFn a_cell_ahead) cNil))))) (gNm 4) (cFor (cIt (cTup (cCons (cVar 1) (cCons (cBinV dAdd 1 (vE (cD (.int 1)))) (cCons (cBinE dPow (cD (.int 10)) (vE (cD (.int 30)))) cNil))))) (gNm 3) (cIfS (cT (cBinE dNe (cCall 3 (F_law_told c_Refused tab) (cCons (cVar 4) (cCons (cVar 0) (cCons (cVar 3) cNil)))) (vE (cTup (cCons (cD (.str "refused")) (cCons (cD (.str "cell")) (cCons (cD (.int 0)) cNil))))))) (cRet (cD (.bool false))) cSkip))) (cSeq (cAsg (cComp (cIt (cBinV dIx 0 (vE (cD (.int 1))))) (gNm 13) cYes (cTup (cCons (cVar 13) (cCons (cBinV dIx 8 (cVarV 13)) cNil))) [13]) (gNm 5)) (cSeq (cIfS (cT (cBinE dNe (cItems (vE (cCall 1 F_first_cells (cCons (cVar 0) cNil)))) (vE (cItems (vE (cCall 1 F_law_begins (cCons (cBinV dIx 0 (vE (cD (.int 0)))) cNil))))))) (cRet (cD (.bool false))) cSkip) (cSeq (cIfS (cT (cBinE dNe (cItems (vE (cCall 1 F_laid_cells (cCons (cVar 0) cNil)))) (vE (cItems (vE (cCall 1 F_law_begins (cCons (cVar 5) cNil))))))) (cRet (cD (.bool false))) cSkip) (cSeq (cAsg (cCall 1 F_deal_undone (cCons (cVar 0) cNil)) (gNm 6)) (cSeq (cIfS (cT (cBinE dNe (cCall1 dRepr (cVarV 6)) (vE (cCall1 dRepr (vE (cTup (cCons (cCall1 dTuple (cVarV 5)) (cCons (cCall1 dTuple (vE (cComp (cIt (cBinV dIx 0 (vE (cD (.int 0))))) (gTp (gsCons (gNm 13) (gsCons (gNm 15) gsNil))) cYes (cVar 13) [13, 15]))) cNil)))))))) (cRet (cD (.bool false))) cSkip) (cSeq (cIfS (cOr (cT (cBinE dNe (cCall1 dRepr (vE (cBinE dIx (cCall 1 F_law_goes (cCons (cVar 6) cNil)) (vE (cD (.int 0)))))) (vE (cCall1 dRepr (cVarV 2))))) (cT (cBinE dNe (cCall1 dRepr (vE (cCall 1 F_deal_undone (cCons (cVar 6) cNil)))) (vE (cCall1 dRepr (cVarV 0)))))) (cRet (cD (.bool false))) cSkip) (cSeq (cAsg (cTup (cCons (cCall1 dTuple (vE (cComp (cIt (cBinV dIx 0 (vE (cD (.int 0))))) (gNm 14) (cT (cBinE dGt (cBinV dIx 14 (vE (cD (.int 1)))) (vE (cD (.int 0))))) (cVar 14) [14]))) (cCons (cCall1 dTuple (vE (cComp (cIt (cBinV dIx 0 (vE (cD (.int 1))))) (gNm 13) (cT (cBinE dGt (cBinV dIx 8 (cVarV 13)) (vE (cD (.int 0))))) (cVar 13) [13]))) cNil))) (gNm 7)) (cRet (cAndV (cBinE dEq (cCall1 dRepr (vE (cCall 1 F_deal_full (cCons (cVar 0) cNil)))) (vE (cCall1 dRepr (cVarV 7)))) (cBinE dEq (cCall1 dRepr (vE (cCall 1 F_law_goes (cCons (cVar 7) cNil)))) (vE (cCall1 dRepr (vE (cCall 1 F_law_goes (cCons (cVar 0) cNil))))))))))))))))))))))
def F_law_deal_right (c_TooGreat : Addr) (c_Refused : Addr) (a_piece_of : Addr) (a_cell_behind : Addr) (a_cell_ahead : Addr) (tab : Tab) : Fd := runFn 16 (m_law_deal_right c_TooGreat c_Refused a_piece_of a_cell_behind a_cell_ahead tab)
def m_law_far_right (c_Refused : Addr) (a_cell_behind : Addr) (tab : Tab) : Sm := (cSeq (cAsg (cBinE dAdd (cCall 2 F_law_of (cCons (cVar 0) (cCons (cLst (cCons (cBinE dPow (cD (.int 10)) (vE (cD (.int 9)))) (cCons (cBinE dPow (cD (.int 10)) (vE (cD (.int 30)))) (cCons (cCall1 dInt (vE (cBinE dAdd (cD (.str "1")) (vE (cBinE dMul (cD (.str "0")) (vE (cD (.int 290)))))))) cNil)))) cNil))) (vE (cCall 2 F_law_pick (cCons (cVar 0) (cCons (cD (.int 9)) cNil))))) (gNm 2)) (cSeq (cAsg (cCall1 dTuple (vE (cComp (cIt (cBinV dIx 1 (vE (cD (.int 0))))) (gTp (gsCons (gNm 9) (gsCons (gNm 10) gsNil))) cYes (cTup (cCons (cVar 9) (cCons (cBinE dAdd (cBinV dMul 10 (cVarV 2)) (vE (cCall 2 F_law_pick (cCons (cVar 0) (cCons (cD (.int 3)) cNil))))) cNil))) [9, 10]))) (gNm 3)) (cSeq (cPar [4, 5, 6] (cConsR (cTup (cCons (cVar 3) (cCons (cBinV dIx 1 (vE (cD (.int 1)))) cNil))) (cConsR (cCall1 dDict (vE (cCall1 dList (cVarV 3)))) (cConsR (cD (.int 0)) cNil)))) (cSeq (cPar [7, 8] (cConsR (cCall 1 F_law_begins (cCons (cVar 3) cNil)) (cConsR (cCall 1 F_law_begins (cCons (cComp (cIt (cBinV dIx 1 (vE (cD (.int 1))))) (gNm 9) cYes (cTup (cCons (cVar 9) (cCons (cBinV dIx 5 (cVarV 9)) cNil))) [9]) cNil)) cNil))) (cSeq (cFor (cIt (cVar 3)) (gTp (gsCons (gNm 9) (gsCons (gNm 10) gsNil))) (cSeq (cFor (cIt (cComp (cIt (cTup (cCons (cD (.int 0)) (cCons (cBinV dFdiv 10 (vE (cD (.int 2)))) (cCons (cBinV dSub 10 (vE (cD (.int 1)))) cNil))))) (gNm 11) (cT (cChain dLe dLt (cD (.int 0)) (cVar 11) (cVarV 10))) (cVar 11) [11])) (gNm 11) (cSeq (cAsg (cBinE dAdd (cBinV dIx 7 (cVarV 9)) (cVarV 11)) (gNm 12)) (cSeq (cIfS (cOr (cT (cBinE dNe (cCall 2 (F_piece_of c_Refused) (cCons (cVar 4) (cCons (cVar 12) cNil))) (cVarV 9))) (cT (cBinE dNe (cCall 2 (F_cell_behind c_Refused) (cCons (cVar 4) (cCons (cVar 12) cNil))) (vE (cBinE dAdd (cBinV dIx 8 (cVarV 9)) (cVarV 11)))))) (cRet (cD (.bool false))) cSkip) (cIfS (cT (cBinE dNe (cCall 2 (F_cell_ahead c_Refused) (cCons (cVar 4) (cCons (cBinE dAdd (cBinV dIx 8 (cVarV 9)) (cVarV 11)) cNil))) (cVarV 12))) (cRet (cD (.bool false))) cSkip)))) (cAsg (cBinV dAdd 6 (cVarV 10)) (gNm 6)))) (cRet (cAndV (cBinE dEq (cCall 1 F_deal_size (cCons (cVar 4) cNil)) (cVarV 6)) (cBinE dEq (cCall 3 (F_law_told c_Refused tab) (cCons (cFn a_cell_behind) (cCons (cVar 4) (cCons (cVar 6) cNil)))) (vE (cTup (cCons (cD (.str "refused")) (cCons (cD (.str "cell")) (cCons (cD (.int 0)) cNil)))))))))))))
def F_law_far_right (c_Refused : Addr) (a_cell_behind : Addr) (tab : Tab) : Fd := runFn 13 (m_law_far_right c_Refused a_cell_behind tab)
def m_law_made (c_TooGreat : Addr) : Sm := (cSeq (cTry (cAsg (cCall 1 (F_deal_made c_TooGreat) (cCons (cVar 0) cNil)) (gNm 2)) c_TooGreat 1 (cRet (cTup (cCons (cD (.str "great")) (cCons (cFld 1 "number") cNil))))) (cRet (cTup (cCons (cD (.str "told")) (cCons (cVar 2) cNil)))))
def F_law_made (c_TooGreat : Addr) : Fd := runFn 3 (m_law_made c_TooGreat)
def m_law (c_TooGreat : Addr) (c_Refused : Addr) (a_piece_of : Addr) (a_cell_behind : Addr) (a_cell_ahead : Addr) (tab : Tab) : Sm := (cSeq (cFor (cIt (cTup (cCons (cCall 3 F_law_deal (cCons (cVar 1) (cCons (cD (.int 8)) (cCons (cD (.int 7)) cNil)))) (cCons (cCall 3 F_law_deal (cCons (cVar 1) (cCons (cD (.int 4)) (cCons (cD (.int 5)) cNil)))) cNil)))) (gNm 2) (cIfS (cOr (cNot (cT (cCall 1 (F_law_deal_right c_TooGreat c_Refused a_piece_of a_cell_behind a_cell_ahead tab) (cCons (cVar 2) cNil)))) (cNot (cT (cCall 2 (F_law_far_right c_Refused a_cell_behind tab) (cCons (cVar 1) (cCons (cVar 2) cNil)))))) (cRet (cD (.bool false))) cSkip)) (cSeq (cPar [4, 5] (cConsR (cCall1 dInt (vE (cBinE dMul (cD (.str "9")) (vE (cD (.int 300)))))) (cConsR (cCall 2 F_law_pick (cCons (cVar 1) (cCons (cD (.int 2)) cNil))) cNil))) (cSeq (cAsg (cBinV dFdiv 4 (vE (cD (.int 2)))) (gNm 3)) (cSeq (cAsg (cTup (cCons (cTup (cCons (cTup (cCons (cD (.str "p")) (cCons (cVar 3) cNil))) (cCons (cTup (cCons (cD (.str "o")) (cCons (cD (.int 0)) cNil))) (cCons (cTup (cCons (cD (.str "q")) (cCons (cBinE dAdd (cBinV dSub 4 (cVarV 3)) (cVarV 5)) cNil))) cNil)))) (cCons (cTup (cCons (cD (.str "q")) (cCons (cD (.str "p")) (cCons (cD (.str "o")) cNil)))) cNil))) (gNm 2)) (cSeq (cIfS (cT (cBinE dNe (cCall1 dRepr (vE (cCall 1 (F_law_made c_TooGreat) (cCons (cVar 2) cNil)))) (vE (cCall1 dRepr (vE (cIf (cT (cBinV dEq 5 (vE (cD (.int 0))))) (cTup (cCons (cD (.str "told")) (cCons (cVar 2) cNil))) (cTup (cCons (cD (.str "great")) (cCons (cD (.int 0)) cNil))))))))) (cRet (cD (.bool false))) cSkip) (cRet (cBinE dEq (cCall 1 F_deal_size (cCons (cVar 2) cNil)) (vE (cBinV dAdd 4 (cVarV 5))))))))))
-- slots of law: ['script', 'source', 'deal', 'half', 'most', 'more']
end Law
end Pw
set_option Elab.async false
set_option linter.all false
set_option maxRecDepth 100000
set_option maxHeartbeats 4000000
namespace Pw
namespace Law
open PySem PySem.Spec PyProof.Rows L2
def topS (i : Nat) : Stmt := PySem.Challenge.pw_codeddeals_k11_cells_one_by_one.main.body.getD i (.Pass ⟨0, 0, 0, 0⟩)
section
variable {P : Program} {w : World} {K : PySem.W.Frag} {mg : Str → Option Value} {base : Heap}
-- printed by gen.py
abbrev s_is_long : Stmt := topS 9
theorem sc_is_long : FnScope ["number"] ["number"] (defScope s_is_long) := ⟨rfl, rfl, rfl, by decide +kernel, rfl, by decide +kernel, by decide +kernel⟩
theorem g_is_long {f : Addr} {fd : FuncData} (F : Fun K "is_long" "is_long" s_is_long f fd) (hm : mg "is_long" = some (.ref f)) (B : Blt mg) (cn_MOST_FIGURES : ∃ u, mg "MOST_FIGURES" = some u ∧ RelV (vOf (.int 300)) u) (cn_SURE_BITS : ∃ u, mg "SURE_BITS" = some u ∧ RelV (vOf (.int 997)) u) : CalG P w K mg base 1 "is_long" 1 (F_is_long) :=
  ⟨f, fd, ["number"], rfl, fnG_of (k := 0) F sc_is_long fun cdv A outer s H E Z hz hr hgd => (snB_one (snS_ret (snE_or (snE_cmpE opR_gt (snE_bits (snV_var (pv 0))) (snV_E (snE_glob (by rfl) cn_SURE_BITS trivial)) (nomark _)) (snE_one (snE_cmpE opR_gt (snE_callB call_lenR (by rfl) B.len PyProof.Rows.Boot.«len» (snV_E (snE_callTy call_strR (by rfl) B.str PyProof.Rows.Boot.«str» (snV_E (snE_callB call_absR (by rfl) B.abs PyProof.Rows.Boot.«abs» (snV_var (pv 0))))))) (snV_E (snE_glob (by rfl) cn_MOST_FIGURES trivial)) (nomark _)))))), hm, F.kp, (F.binds (ps := ["number"]) fun _ _ _ _ _ _ us hl => match us, hl with | [_], _ => rfl)⟩
abbrev s_number_made : Stmt := topS 10
theorem sc_number_made : FnScope ["number"] ["number"] (defScope s_number_made) := ⟨rfl, rfl, rfl, by decide +kernel, rfl, by decide +kernel, by decide +kernel⟩
theorem g_number_made {c_TooGreat : Addr} {f : Addr} {fd : FuncData} (F : Fun K "number_made" "number_made" s_number_made f fd) (hm : mg "number_made" = some (.ref f)) (B : Blt mg) (cn_LONG_NUMBER : ∃ u, mg "LONG_NUMBER" = some u ∧ RelV (vOf (.int 0)) u) {i_TooGreat : Addr} {q_TooGreat : Str} (er_TooGreat : ErC P K mg c_TooGreat i_TooGreat q_TooGreat ["number"]) (mg_TooGreat : mg "TooGreat" = some (.ref c_TooGreat)) (G_is_long : CalG P w K mg base 1 "is_long" 1 F_is_long) : CalG P w K mg base 2 "number_made" 1 (F_number_made c_TooGreat) :=
  ⟨f, fd, ["number"], rfl, fnG_of (k := 1) F sc_number_made fun cdv A outer s H E Z hz hr hgd => (snB_cons (snS_if (snT_val (snE_cal G_is_long (hr.mono (by decide)) hgd (by rfl) (takes_of rfl rfl rfl rfl) (snA_cons (snE_var (pv 0)) snA_nil))) (snB_one (snS_raise rfl er_TooGreat (hr.mono (Nat.zero_le _)) (takes_of rfl rfl rfl rfl) (snA_cons (snE_glob (by rfl) cn_LONG_NUMBER trivial) snA_nil) (by rfl) mg_TooGreat)) snB_nil) (snB_one (snS_ret (snE_var (pv 0))))), hm, F.kp, (F.binds (ps := ["number"]) fun _ _ _ _ _ _ us hl => match us, hl with | [_], _ => rfl)⟩
abbrev s_deal_size : Stmt := topS 11
theorem sc_deal_size : FnScope ["deal", "name", "many"] ["deal"] (defScope s_deal_size) := ⟨rfl, rfl, rfl, by decide +kernel, rfl, by decide +kernel, by decide +kernel⟩
theorem g_deal_size {f : Addr} {fd : FuncData} (F : Fun K "deal_size" "deal_size" s_deal_size f fd) (hm : mg "deal_size" = some (.ref f)) (B : Blt mg) : CalG P w K mg base 1 "deal_size" 1 (F_deal_size) :=
  ⟨f, fd, ["deal"], rfl, fnG_of (k := 0) F sc_deal_size fun cdv A outer s H E Z hz hr hgd => (snB_one (snS_ret (snE_callB (call_sumR rfl) (by rfl) B.sum PyProof.Rows.Boot.«sum» (snV_E (snE_lc rfl sc_deal_size.nd (snI_any (snE_ixV (ixR hr.units) (pv 0) (snV_E snE_int) (fun _ _ => rfl))) (own := [("name", 1), ("many", 2)]) (blkOk_by (N := ["deal", "name", "many"]) (sc := defScope s_deal_size) (by decide +kernel)) (by decide) (fun _ _ _ _ _ => (snG_tp rfl (snGs_cons (snG_nm (pg_name (i := 1) sc_deal_size.nd rfl (by first | exact Or.inl rfl | exact Or.inr rfl))) (snGs_cons (snG_nm (pg_name (i := 2) sc_deal_size.nd rfl (by first | exact Or.inl rfl | exact Or.inr rfl))) snGs_nil)))) (fun _ _ _ _ _ => snTs_nil) (fun _ _ _ _ _ => (snE_var (pv 2)))))))), hm, F.kp, (F.binds (ps := ["deal"]) fun _ _ _ _ _ _ us hl => match us, hl with | [_], _ => rfl)⟩
abbrev s_full_pieces : Stmt := topS 12
theorem sc_full_pieces : FnScope ["deal", "name", "many"] ["deal"] (defScope s_full_pieces) := ⟨rfl, rfl, rfl, by decide +kernel, rfl, by decide +kernel, by decide +kernel⟩
theorem g_full_pieces {f : Addr} {fd : FuncData} (F : Fun K "full_pieces" "full_pieces" s_full_pieces f fd) (hm : mg "full_pieces" = some (.ref f)) (B : Blt mg) : CalG P w K mg base 1 "full_pieces" 1 (F_full_pieces) :=
  ⟨f, fd, ["deal"], rfl, fnG_of (k := 0) F sc_full_pieces fun cdv A outer s H E Z hz hr hgd => (snB_one (snS_ret (snE_callTy call_tupleR (by rfl) B.tuple PyProof.Rows.Boot.«tuple» (snV_E (snE_lc rfl sc_full_pieces.nd (snI_any (snE_ixV (ixR hr.units) (pv 0) (snV_E snE_int) (fun _ _ => rfl))) (own := [("name", 1), ("many", 2)]) (blkOk_by (N := ["deal", "name", "many"]) (sc := defScope s_full_pieces) (by decide +kernel)) (by decide) (fun _ _ _ _ _ => (snG_tp rfl (snGs_cons (snG_nm (pg_name (i := 1) sc_full_pieces.nd rfl (by first | exact Or.inl rfl | exact Or.inr rfl))) (snGs_cons (snG_nm (pg_name (i := 2) sc_full_pieces.nd rfl (by first | exact Or.inl rfl | exact Or.inr rfl))) snGs_nil)))) (fun _ _ _ _ _ => (snTs_one (snT_cmpV opR_gt (pv 2) (snV_E snE_int) (nomark _)))) (fun _ _ _ _ _ => (snE_tup (snA_cons (snE_var (pv 1)) (snA_cons (snE_var (pv 2)) snA_nil))))))))), hm, F.kp, (F.binds (ps := ["deal"]) fun _ _ _ _ _ _ us hl => match us, hl with | [_], _ => rfl)⟩
abbrev s_deal_full : Stmt := topS 13
theorem sc_deal_full : FnScope ["deal", "known", "name"] ["deal"] (defScope s_deal_full) := ⟨rfl, rfl, rfl, by decide +kernel, rfl, by decide +kernel, by decide +kernel⟩
theorem g_deal_full {f : Addr} {fd : FuncData} (F : Fun K "deal_full" "deal_full" s_deal_full f fd) (hm : mg "deal_full" = some (.ref f)) (B : Blt mg) (G_full_pieces : CalG P w K mg base 1 "full_pieces" 1 F_full_pieces) : CalG P w K mg base 2 "deal_full" 1 (F_deal_full) :=
  ⟨f, fd, ["deal"], rfl, fnG_of (k := 1) F sc_deal_full fun cdv A outer s H E Z hz hr hgd => (snB_cons (snS_set (i := 1) sc_deal_full.nd rfl (Or.inr rfl) (snE_callTy (call_dictR rfl) (by rfl) B.dict PyProof.Rows.Boot.«dict» (snV_E (snE_callTy (call_listR rfl) (by rfl) B.list PyProof.Rows.Boot.«list» (snV_E (snE_ixV (ixR hr.units) (pv 0) (snV_E snE_int) (fun _ _ => rfl))))))) (snB_one (snS_ret (snE_tup (snA_cons (snE_cal G_full_pieces (hr.mono (by decide)) hgd (by rfl) (takes_of rfl rfl rfl rfl) (snA_cons (snE_var (pv 0)) snA_nil)) (snA_cons (snE_callTy call_tupleR (by rfl) B.tuple PyProof.Rows.Boot.«tuple» (snV_E (snE_lc rfl sc_deal_full.nd (snI_any (snE_ixV (ixR hr.units) (pv 0) (snV_E snE_int) (fun _ _ => rfl))) (own := [("name", 2)]) (blkOk_by (N := ["deal", "known", "name"]) (sc := defScope s_deal_full) (by decide +kernel)) (by decide) (fun _ _ _ _ _ => (snG_nm (pg_name (i := 2) sc_deal_full.nd rfl (by first | exact Or.inl rfl | exact Or.inr rfl)))) (fun _ _ _ _ _ => (snTs_one (snT_cmpE opR_gt (snE_ixV (ixR hr.units) (pv 1) (snV_var (pv 2)) (fun _ _ => rfl)) (snV_E snE_int) (nomark _)))) (fun _ _ _ _ _ => (snE_var (pv 2)))))) snA_nil)))))), hm, F.kp, (F.binds (ps := ["deal"]) fun _ _ _ _ _ _ us hl => match us, hl with | [_], _ => rfl)⟩
abbrev s_deal_made : Stmt := topS 14
theorem sc_deal_made : FnScope ["deal"] ["deal"] (defScope s_deal_made) := ⟨rfl, rfl, rfl, by decide +kernel, rfl, by decide +kernel, by decide +kernel⟩
theorem g_deal_made {c_TooGreat : Addr} {f : Addr} {fd : FuncData} (F : Fun K "deal_made" "deal_made" s_deal_made f fd) (hm : mg "deal_made" = some (.ref f)) (B : Blt mg) (G_number_made : CalG P w K mg base 2 "number_made" 1 (F_number_made c_TooGreat)) (G_deal_size : CalG P w K mg base 1 "deal_size" 1 F_deal_size) : CalG P w K mg base 3 "deal_made" 1 (F_deal_made c_TooGreat) :=
  ⟨f, fd, ["deal"], rfl, fnG_of (k := 2) F sc_deal_made fun cdv A outer s H E Z hz hr hgd => (snB_cons (snS_expr (snE_cal G_number_made (hr.mono (by decide)) hgd (by rfl) (takes_of rfl rfl rfl rfl) (snA_cons (snE_cal G_deal_size (hr.mono (by decide)) hgd (by rfl) (takes_of rfl rfl rfl rfl) (snA_cons (snE_var (pv 0)) snA_nil)) snA_nil))) (snB_one (snS_ret (snE_var (pv 0))))), hm, F.kp, (F.binds (ps := ["deal"]) fun _ _ _ _ _ _ us hl => match us, hl with | [_], _ => rfl)⟩
abbrev s_first_cells : Stmt := topS 15
theorem sc_first_cells : FnScope ["deal", "found", "ahead", "name", "many"] ["deal"] (defScope s_first_cells) := ⟨rfl, rfl, rfl, by decide +kernel, rfl, by decide +kernel, by decide +kernel⟩
theorem g_first_cells {f : Addr} {fd : FuncData} (F : Fun K "first_cells" "first_cells" s_first_cells f fd) (hm : mg "first_cells" = some (.ref f)) (B : Blt mg) : CalG P w K mg base 1 "first_cells" 1 (F_first_cells) :=
  ⟨f, fd, ["deal"], rfl, fnG_of (k := 0) F sc_first_cells fun cdv A outer s H E Z hz hr hgd => (snB_cons (snS_par2 (i := 1) (j := 2) rfl sc_first_cells.nd rfl rfl (by decide) rfl rfl (snA_consR snE_newD (snA_consR snE_int snA_nil)) rfl) (snB_cons (snS_for (passes_of rfl) rfl (snI_any (snE_ixV (ixR hr.units) (pv 0) (snV_E snE_int) (fun _ _ => rfl))) (snG_tp rfl (snGs_cons (snG_nm (pg_name (i := 3) sc_first_cells.nd rfl (Or.inl rfl))) (snGs_cons (snG_nm (pg_name (i := 4) sc_first_cells.nd rfl (Or.inl rfl))) snGs_nil))) (snB_cons (snS_setIx (i := 1) hr.units (pv 1) (snV_var (pv 3)) (snE_var (pv 2))) (snB_one (snS_aug (i := 2) opR_iaddI sc_first_cells.nd rfl (Or.inl rfl) (snV_var (pv 4)))))) (snB_one (snS_ret (snE_var (pv 1)))))), hm, F.kp, (F.binds (ps := ["deal"]) fun _ _ _ _ _ _ us hl => match us, hl with | [_], _ => rfl)⟩
abbrev s_laid_cells : Stmt := topS 16
theorem sc_laid_cells : FnScope ["deal", "name", "known", "found", "ahead"] ["deal"] (defScope s_laid_cells) := ⟨rfl, rfl, rfl, by decide +kernel, rfl, by decide +kernel, by decide +kernel⟩
theorem g_laid_cells {f : Addr} {fd : FuncData} (F : Fun K "laid_cells" "laid_cells" s_laid_cells f fd) (hm : mg "laid_cells" = some (.ref f)) (B : Blt mg) : CalG P w K mg base 1 "laid_cells" 1 (F_laid_cells) :=
  ⟨f, fd, ["deal"], rfl, fnG_of (k := 0) F sc_laid_cells fun cdv A outer s H E Z hz hr hgd => (snB_cons (snS_par3 (i := 2) (j := 3) (l := 4) rfl sc_laid_cells.nd rfl rfl rfl (by decide) (by decide) (by decide) rfl rfl rfl (snA_consR (snE_callTy (call_dictR rfl) (by rfl) B.dict PyProof.Rows.Boot.«dict» (snV_E (snE_callTy (call_listR rfl) (by rfl) B.list PyProof.Rows.Boot.«list» (snV_E (snE_ixV (ixR hr.units) (pv 0) (snV_E snE_int) (fun _ _ => rfl)))))) (snA_consR snE_newD (snA_consR snE_int snA_nil))) rfl) (snB_cons (snS_for (passes_of rfl) rfl (snI_any (snE_ixV (ixR hr.units) (pv 0) (snV_E snE_int) (fun _ _ => rfl))) (snG_nm (pg_name (i := 1) sc_laid_cells.nd rfl (Or.inl rfl))) (snB_cons (snS_setIx (i := 3) hr.units (pv 3) (snV_var (pv 1)) (snE_var (pv 4))) (snB_one (snS_aug (i := 4) opR_iaddI sc_laid_cells.nd rfl (Or.inl rfl) (snV_E (snE_ixV (ixR hr.units) (pv 2) (snV_var (pv 1)) (fun _ _ => rfl))))))) (snB_one (snS_ret (snE_var (pv 3)))))), hm, F.kp, (F.binds (ps := ["deal"]) fun _ _ _ _ _ _ us hl => match us, hl with | [_], _ => rfl)⟩
abbrev s_cell_let : Stmt := topS 17
theorem sc_cell_let : FnScope ["deal", "cell", "place"] ["deal", "cell", "place"] (defScope s_cell_let) := ⟨rfl, rfl, rfl, by decide +kernel, rfl, by decide +kernel, by decide +kernel⟩
theorem g_cell_let {c_Refused : Addr} {f : Addr} {fd : FuncData} (F : Fun K "cell_let" "cell_let" s_cell_let f fd) (hm : mg "cell_let" = some (.ref f)) (B : Blt mg) (cn_CELL : ∃ u, mg "CELL" = some u ∧ RelV (vOf (.str "cell")) u) {i_Refused : Addr} {q_Refused : Str} (er_Refused : ErC P K mg c_Refused i_Refused q_Refused ["word", "place"]) (mg_Refused : mg "Refused" = some (.ref c_Refused)) (G_deal_size : CalG P w K mg base 1 "deal_size" 1 F_deal_size) : CalG P w K mg base 2 "cell_let" 3 (F_cell_let c_Refused) :=
  ⟨f, fd, ["deal", "cell", "place"], rfl, fnG_of (k := 1) F sc_cell_let fun cdv A outer s H E Z hz hr hgd => (snB_one (snS_if (snT_not (snT_chain opR_le opR_lt snE_int (snE_var (pv 1)) (snV_E (snE_cal G_deal_size (hr.mono (by decide)) hgd (by rfl) (takes_of rfl rfl rfl rfl) (snA_cons (snE_var (pv 0)) snA_nil))))) (snB_one (snS_raise rfl er_Refused (hr.mono (Nat.zero_le _)) (takes_of rfl rfl rfl rfl) (snA_cons (snE_glob (by rfl) cn_CELL trivial) (snA_cons (snE_var (pv 2)) snA_nil)) (by rfl) mg_Refused)) snB_nil)), hm, F.kp, (F.binds (ps := ["deal", "cell", "place"]) fun _ _ _ _ _ _ us hl => match us, hl with | [_, _, _], _ => rfl)⟩
abbrev s_piece_of : Stmt := topS 18
theorem sc_piece_of : FnScope ["deal", "cell", "ahead", "name", "many"] ["deal", "cell"] (defScope s_piece_of) := ⟨rfl, rfl, rfl, by decide +kernel, rfl, by decide +kernel, by decide +kernel⟩
theorem g_piece_of {c_Refused : Addr} {f : Addr} {fd : FuncData} (F : Fun K "piece_of" "piece_of" s_piece_of f fd) (hm : mg "piece_of" = some (.ref f)) (B : Blt mg) (G_cell_let : CalG P w K mg base 2 "cell_let" 3 (F_cell_let c_Refused)) : CalG P w K mg base 3 "piece_of" 2 (F_piece_of c_Refused) :=
  ⟨f, fd, ["deal", "cell"], rfl, fnG_of (k := 2) F sc_piece_of fun cdv A outer s H E Z hz hr hgd => (snB_cons (snS_expr (snE_cal G_cell_let (hr.mono (by decide)) hgd (by rfl) (takes_of rfl rfl rfl rfl) (snA_cons (snE_var (pv 0)) (snA_cons (snE_var (pv 1)) (snA_cons snE_int snA_nil))))) (snB_cons (snS_set (i := 2) sc_piece_of.nd rfl (Or.inl rfl) snE_int) (snB_cons (snS_for (passes_of rfl) rfl (snI_any (snE_ixV (ixR hr.units) (pv 0) (snV_E snE_int) (fun _ _ => rfl))) (snG_tp rfl (snGs_cons (snG_nm (pg_name (i := 3) sc_piece_of.nd rfl (Or.inl rfl))) (snGs_cons (snG_nm (pg_name (i := 4) sc_piece_of.nd rfl (Or.inl rfl))) snGs_nil))) (snB_cons (snS_if (snT_cmpV opR_lt (pv 1) (snV_E (snE_binV opR_add (pv 2) (snV_var (pv 4)))) (nomark _)) (snB_one (snS_ret (snE_var (pv 3)))) snB_nil) (snB_one (snS_aug (i := 2) opR_iaddI sc_piece_of.nd rfl (Or.inl rfl) (snV_var (pv 4)))))) (snB_one (snS_ret snE_non))))), hm, F.kp, (F.binds (ps := ["deal", "cell"]) fun _ _ _ _ _ _ us hl => match us, hl with | [_, _], _ => rfl)⟩
abbrev s_cell_behind : Stmt := topS 19
theorem sc_cell_behind : FnScope ["deal", "cell", "name"] ["deal", "cell"] (defScope s_cell_behind) := ⟨rfl, rfl, rfl, by decide +kernel, rfl, by decide +kernel, by decide +kernel⟩
theorem g_cell_behind {c_Refused : Addr} {f : Addr} {fd : FuncData} (F : Fun K "cell_behind" "cell_behind" s_cell_behind f fd) (hm : mg "cell_behind" = some (.ref f)) (B : Blt mg) (G_piece_of : CalG P w K mg base 3 "piece_of" 2 (F_piece_of c_Refused)) (G_first_cells : CalG P w K mg base 1 "first_cells" 1 F_first_cells) (G_laid_cells : CalG P w K mg base 1 "laid_cells" 1 F_laid_cells) : CalG P w K mg base 4 "cell_behind" 2 (F_cell_behind c_Refused) :=
  ⟨f, fd, ["deal", "cell"], rfl, fnG_of (k := 3) F sc_cell_behind fun cdv A outer s H E Z hz hr hgd => (snB_cons (snS_set (i := 2) sc_cell_behind.nd rfl (Or.inl rfl) (snE_cal G_piece_of (hr.mono (by decide)) hgd (by rfl) (takes_of rfl rfl rfl rfl) (snA_cons (snE_var (pv 0)) (snA_cons (snE_var (pv 1)) snA_nil)))) (snB_one (snS_ret (snE_binE opR_sub (snE_binE opR_add (snE_ixE (ixR hr.units) (snE_cal G_laid_cells (hr.mono (by decide)) hgd (by rfl) (takes_of rfl rfl rfl rfl) (snA_cons (snE_var (pv 0)) snA_nil)) (snV_var (pv 2)) (fun _ _ => rfl)) (snV_var (pv 1))) (snV_E (snE_ixE (ixR hr.units) (snE_cal G_first_cells (hr.mono (by decide)) hgd (by rfl) (takes_of rfl rfl rfl rfl) (snA_cons (snE_var (pv 0)) snA_nil)) (snV_var (pv 2)) (fun _ _ => rfl))))))), hm, F.kp, (F.binds (ps := ["deal", "cell"]) fun _ _ _ _ _ _ us hl => match us, hl with | [_, _], _ => rfl)⟩
abbrev s_deal_undone : Stmt := topS 20
theorem sc_deal_undone : FnScope ["deal", "known", "name", "many"] ["deal"] (defScope s_deal_undone) := ⟨rfl, rfl, rfl, by decide +kernel, rfl, by decide +kernel, by decide +kernel⟩
theorem g_deal_undone {f : Addr} {fd : FuncData} (F : Fun K "deal_undone" "deal_undone" s_deal_undone f fd) (hm : mg "deal_undone" = some (.ref f)) (B : Blt mg) : CalG P w K mg base 1 "deal_undone" 1 (F_deal_undone) :=
  ⟨f, fd, ["deal"], rfl, fnG_of (k := 0) F sc_deal_undone fun cdv A outer s H E Z hz hr hgd => (snB_cons (snS_set (i := 1) sc_deal_undone.nd rfl (Or.inr rfl) (snE_callTy (call_dictR rfl) (by rfl) B.dict PyProof.Rows.Boot.«dict» (snV_E (snE_callTy (call_listR rfl) (by rfl) B.list PyProof.Rows.Boot.«list» (snV_E (snE_ixV (ixR hr.units) (pv 0) (snV_E snE_int) (fun _ _ => rfl))))))) (snB_one (snS_ret (snE_tup (snA_cons (snE_callTy call_tupleR (by rfl) B.tuple PyProof.Rows.Boot.«tuple» (snV_E (snE_lc rfl sc_deal_undone.nd (snI_any (snE_ixV (ixR hr.units) (pv 0) (snV_E snE_int) (fun _ _ => rfl))) (own := [("name", 2)]) (blkOk_by (N := ["deal", "known", "name", "many"]) (sc := defScope s_deal_undone) (by decide +kernel)) (by decide) (fun _ _ _ _ _ => (snG_nm (pg_name (i := 2) sc_deal_undone.nd rfl (by first | exact Or.inl rfl | exact Or.inr rfl)))) (fun _ _ _ _ _ => snTs_nil) (fun _ _ _ _ _ => (snE_tup (snA_cons (snE_var (pv 2)) (snA_cons (snE_ixV (ixR hr.units) (pv 1) (snV_var (pv 2)) (fun _ _ => rfl)) snA_nil))))))) (snA_cons (snE_callTy call_tupleR (by rfl) B.tuple PyProof.Rows.Boot.«tuple» (snV_E (snE_lc rfl sc_deal_undone.nd (snI_any (snE_ixV (ixR hr.units) (pv 0) (snV_E snE_int) (fun _ _ => rfl))) (own := [("name", 2), ("many", 3)]) (blkOk_by (N := ["deal", "known", "name", "many"]) (sc := defScope s_deal_undone) (by decide +kernel)) (by decide) (fun _ _ _ _ _ => (snG_tp rfl (snGs_cons (snG_nm (pg_name (i := 2) sc_deal_undone.nd rfl (by first | exact Or.inl rfl | exact Or.inr rfl))) (snGs_cons (snG_nm (pg_name (i := 3) sc_deal_undone.nd rfl (by first | exact Or.inl rfl | exact Or.inr rfl))) snGs_nil)))) (fun _ _ _ _ _ => snTs_nil) (fun _ _ _ _ _ => (snE_var (pv 2)))))) snA_nil)))))), hm, F.kp, (F.binds (ps := ["deal"]) fun _ _ _ _ _ _ us hl => match us, hl with | [_], _ => rfl)⟩
abbrev s_cell_ahead : Stmt := topS 21
theorem sc_cell_ahead : FnScope ["deal", "cell"] ["deal", "cell"] (defScope s_cell_ahead) := ⟨rfl, rfl, rfl, by decide +kernel, rfl, by decide +kernel, by decide +kernel⟩
theorem g_cell_ahead {c_Refused : Addr} {f : Addr} {fd : FuncData} (F : Fun K "cell_ahead" "cell_ahead" s_cell_ahead f fd) (hm : mg "cell_ahead" = some (.ref f)) (B : Blt mg) (G_cell_behind : CalG P w K mg base 4 "cell_behind" 2 (F_cell_behind c_Refused)) (G_deal_undone : CalG P w K mg base 1 "deal_undone" 1 F_deal_undone) : CalG P w K mg base 5 "cell_ahead" 2 (F_cell_ahead c_Refused) :=
  ⟨f, fd, ["deal", "cell"], rfl, fnG_of (k := 4) F sc_cell_ahead fun cdv A outer s H E Z hz hr hgd => (snB_one (snS_ret (snE_cal G_cell_behind (hr.mono (by decide)) hgd (by rfl) (takes_of rfl rfl rfl rfl) (snA_cons (snE_cal G_deal_undone (hr.mono (by decide)) hgd (by rfl) (takes_of rfl rfl rfl rfl) (snA_cons (snE_var (pv 0)) snA_nil)) (snA_cons (snE_var (pv 1)) snA_nil))))), hm, F.kp, (F.binds (ps := ["deal", "cell"]) fun _ _ _ _ _ _ us hl => match us, hl with | [_, _], _ => rfl)⟩
abbrev s_law_source : Stmt := topS 23
theorem sc_law_source : FnScope ["script", "mixed", "cell"] ["script"] (defScope s_law_source) := ⟨rfl, rfl, rfl, by decide +kernel, rfl, by decide +kernel, by decide +kernel⟩
theorem g_law_source {f : Addr} {fd : FuncData} (F : Fun K "_law_source" "_law_source" s_law_source f fd) (hm : mg "_law_source" = some (.ref f)) (B : Blt mg) : CalG P w K mg base 1 "_law_source" 1 (F_law_source) :=
  ⟨f, fd, ["script"], rfl, fnG_of (k := 0) F sc_law_source fun cdv A outer s H E Z hz hr hgd => (snB_cons (snS_set (i := 1) sc_law_source.nd rfl (Or.inl rfl) snE_int) (snB_cons (snS_for (passes_of rfl) rfl (snI_any (snE_var (pv 0))) (snG_nm (pg_name (i := 2) sc_law_source.nd rfl (Or.inl rfl))) (snB_one (snS_set (i := 1) sc_law_source.nd rfl (Or.inl rfl) (snE_binE opR_mod (snE_callTy call_intR (by rfl) B.int PyProof.Rows.Boot.«int» (snV_E (snE_binE opR_add (snE_binE opR_add (snE_binV opR_mul (pv 1) (snV_E snE_int)) (snV_E (snE_binV opR_mul (pv 2) (snV_E snE_int)))) (snV_E snE_int)))) (snV_E snE_int))))) (snB_one (snS_ret (snE_disp (.cons snE_str (snE_rev (snV_E (snE_lc rfl sc_law_source.nd (snI_any (snE_var (pv 0))) (own := [("cell", 2)]) (blkOk_by (N := ["script", "mixed", "cell"]) (sc := defScope s_law_source) (by decide +kernel)) (by decide) (fun _ _ _ _ _ => (snG_nm (pg_name (i := 2) sc_law_source.nd rfl (by first | exact Or.inl rfl | exact Or.inr rfl)))) (fun _ _ _ _ _ => snTs_nil) (fun _ _ _ _ _ => (snE_callB call_absR (by rfl) B.abs PyProof.Rows.Boot.«abs» (snV_var (pv 2))))))) (.cons snE_str snE_int (.cons snE_str (snE_var (pv 1)) (.cons snE_str snE_int .nil))))))))), hm, F.kp, (F.binds (ps := ["script"]) fun _ _ _ _ _ _ us hl => match us, hl with | [_], _ => rfl)⟩
abbrev s_law_pick : Stmt := topS 24
theorem sc_law_pick : FnScope ["source", "many", "left", "mixed"] ["source", "many"] (defScope s_law_pick) := ⟨rfl, rfl, rfl, by decide +kernel, rfl, by decide +kernel, by decide +kernel⟩
theorem g_law_pick {f : Addr} {fd : FuncData} (F : Fun K "_law_pick" "_law_pick" s_law_pick f fd) (hm : mg "_law_pick" = some (.ref f)) (B : Blt mg) : CalG P w K mg base 1 "_law_pick" 2 (F_law_pick) :=
  ⟨f, fd, ["source", "many"], rfl, fnG_of (k := 0) F sc_law_pick fun cdv A outer s H E Z hz hr hgd => (snB_cons (snS_while (passes_of rfl) (snT_W (snW_and (snT_cmpV opR_gt (pv 1) (snV_E snE_int) (nomark _)) (snW_and (snT_cmpE opR_lt (snE_srcG sel_left hr.units (pv 0) (fun _ _ => rfl)) (snV_E snE_int) (nomark _)) (snW_and1 (snT_cmpE opR_gt (snE_srcLen (pe_cells hr.units (pv 0) (fun _ _ => rfl)) (by rfl) B.len) (snV_E snE_int) (nomark _)))))) (snB_one (snS_srcSet put_left hr.units (pv 0) (snE_srcPop (pe_cells hr.units (pv 0) (fun _ _ => rfl)))))) (snB_cons (snS_set (i := 2) sc_law_pick.nd rfl (Or.inl rfl) (snE_srcG sel_left hr.units (pv 0) (fun _ _ => rfl))) (snB_cons (snS_if (snT_W (snW_or (snT_cmpV opR_lt (pv 1) (snV_E snE_int) (nomark _)) (snW_or1 (snT_cmpV opR_gt (pv 2) (snV_E snE_int) (nomark _))))) (snB_cons (snS_srcSet put_left hr.units (pv 0) (snE_binV opR_fdiv (pv 2) (snV_E (snE_callN (call_maxN rfl) (by rfl) B.max PyProof.Rows.Boot.«max» (snA_cons snE_int (snA_cons (snE_var (pv 1)) snA_nil)))))) (snB_one (snS_ret (snE_binE opR_mod (snE_callTy call_intR (by rfl) B.int PyProof.Rows.Boot.«int» (snV_var (pv 2))) (snV_E (snE_callN (call_maxN rfl) (by rfl) B.max PyProof.Rows.Boot.«max» (snA_cons snE_int (snA_cons (snE_var (pv 1)) snA_nil)))))))) snB_nil) (snB_cons (snS_srcSet put_turn hr.units (pv 0) (snE_binE opR_add (snE_srcG sel_turn hr.units (pv 0) (fun _ _ => rfl)) (snV_E snE_int))) (snB_cons (snS_set (i := 3) sc_law_pick.nd rfl (Or.inl rfl) (snE_binE opR_mod (snE_callTy call_intR (by rfl) B.int PyProof.Rows.Boot.«int» (snV_E (snE_binE opR_add (snE_srcG sel_mixed hr.units (pv 0) (fun _ _ => rfl)) (snV_E (snE_binE opR_mul (snE_srcG sel_turn hr.units (pv 0) (fun _ _ => rfl)) (snV_E snE_int)))))) (snV_E snE_int))) (snB_cons (snS_set (i := 3) sc_law_pick.nd rfl (Or.inl rfl) (snE_binE opR_mod (snE_callTy call_intR (by rfl) B.int PyProof.Rows.Boot.«int» (snV_E (snE_binE opR_add (snE_binV opR_mul (pv 3) (snV_var (pv 3))) (snV_E (snE_binE opR_mul (snE_srcG sel_turn hr.units (pv 0) (fun _ _ => rfl)) (snV_E snE_int)))))) (snV_E snE_int))) (snB_cons (snS_srcSet put_mixed hr.units (pv 0) (snE_var (pv 3))) (snB_one (snS_ret (snE_binE opR_mod (snE_callTy call_intR (by rfl) B.int PyProof.Rows.Boot.«int» (snV_E (snE_binV opR_fdiv (pv 3) (snV_E snE_int)))) (snV_var (pv 1)))))))))))), hm, F.kp, (F.binds (ps := ["source", "many"]) fun _ _ _ _ _ _ us hl => match us, hl with | [_, _], _ => rfl)⟩
abbrev s_law_of : Stmt := topS 25
theorem sc_law_of : FnScope ["source", "some"] ["source", "some"] (defScope s_law_of) := ⟨rfl, rfl, rfl, by decide +kernel, rfl, by decide +kernel, by decide +kernel⟩
theorem g_law_of {f : Addr} {fd : FuncData} (F : Fun K "_law_of" "_law_of" s_law_of f fd) (hm : mg "_law_of" = some (.ref f)) (B : Blt mg) (G_law_pick : CalG P w K mg base 1 "_law_pick" 2 F_law_pick) : CalG P w K mg base 2 "_law_of" 2 (F_law_of) :=
  ⟨f, fd, ["source", "some"], rfl, fnG_of (k := 1) F sc_law_of fun cdv A outer s H E Z hz hr hgd => (snB_one (snS_ret (snE_ixV (ixR hr.units) (pv 1) (snV_E (snE_cal G_law_pick (hr.mono (by decide)) hgd (by rfl) (takes_of rfl rfl rfl rfl) (snA_cons (snE_var (pv 0)) (snA_cons (snE_callB call_lenR (by rfl) B.len PyProof.Rows.Boot.«len» (snV_var (pv 1))) snA_nil)))) (fun _ _ => rfl)))), hm, F.kp, (F.binds (ps := ["source", "some"]) fun _ _ _ _ _ _ us hl => match us, hl with | [_, _], _ => rfl)⟩
abbrev s_law_deal : Stmt := topS 26
theorem sc_law_deal : FnScope ["source", "most", "cells", "step", "lap", "names", "cut_row", "name", "laid", "way", "k", "rest", "many"] ["source", "most", "cells"] (defScope s_law_deal) := ⟨rfl, rfl, rfl, by decide +kernel, rfl, by decide +kernel, by decide +kernel⟩
theorem g_law_deal {f : Addr} {fd : FuncData} (F : Fun K "_law_deal" "_law_deal" s_law_deal f fd) (hm : mg "_law_deal" = some (.ref f)) (B : Blt mg) (G_law_of : CalG P w K mg base 2 "_law_of" 2 F_law_of) (G_law_pick : CalG P w K mg base 1 "_law_pick" 2 F_law_pick) : CalG P w K mg base 3 "_law_deal" 3 (F_law_deal) :=
  ⟨f, fd, ["source", "most", "cells"], rfl, fnG_of (k := 2) F sc_law_deal fun cdv A outer s H E Z hz hr hgd => (snB_cons (snS_par2 (i := 5) (j := 6) rfl sc_law_deal.nd rfl rfl (by decide) rfl rfl (snA_consR (snE_lst (snA_cons snE_str (snA_cons snE_str (snA_cons snE_str (snA_cons snE_str (snA_cons snE_str (snA_cons snE_str (snA_cons snE_str (snA_cons snE_str snA_nil))))))))) (snA_consR (snE_lst snA_nil) snA_nil)) rfl) (snB_cons (snS_set (i := 3) sc_law_deal.nd rfl (Or.inl rfl) (snE_cal G_law_of (hr.mono (by decide)) hgd (by rfl) (takes_of rfl rfl rfl rfl) (snA_cons (snE_var (pv 0)) (snA_cons (snE_lst (snA_cons snE_int (snA_cons snE_int (snA_cons snE_int (snA_cons snE_int (snA_cons snE_int snA_nil)))))) snA_nil)))) (snB_cons (snS_for (passes_of rfl) rfl (snI_range1 (by rfl) B.range (snA_cons (snE_binE opR_add snE_int (snV_E (snE_cal G_law_pick (hr.mono (by decide)) hgd (by rfl) (takes_of rfl rfl rfl rfl) (snA_cons (snE_var (pv 0)) (snA_cons (snE_var (pv 1)) snA_nil))))) snA_nil)) (snG_nm (pg_name (i := 4) sc_law_deal.nd rfl (Or.inl rfl))) (snB_cons (snS_set (i := 7) sc_law_deal.nd rfl (Or.inl rfl) (snE_meth PySem.F.plainAttrs_list PySem.F.slot_list_pop PySem.F.type_list_pop mt_popR (pv 5) (snA_cons (snE_cal G_law_pick (hr.mono (by decide)) hgd (by rfl) (takes_of rfl rfl rfl rfl) (snA_cons (snE_var (pv 0)) (snA_cons (snE_callB call_lenR (by rfl) B.len PyProof.Rows.Boot.«len» (snV_var (pv 5))) snA_nil))) snA_nil))) (snB_one (snS_expr (snE_meth PySem.F.plainAttrs_list PySem.F.slot_list_append PySem.F.type_list_append mt_appendR (pv 6) (snA_cons (snE_tup (snA_cons (snE_var (pv 7)) (snA_cons (snE_binV opR_mul (pv 3) (snV_E (snE_cal G_law_pick (hr.mono (by decide)) hgd (by rfl) (takes_of rfl rfl rfl rfl) (snA_cons (snE_var (pv 0)) (snA_cons (snE_binE opR_add (snE_binV opR_fdiv (pv 2) (snV_var (pv 3))) (snV_E snE_int)) snA_nil))))) snA_nil))) snA_nil)))))) (snB_cons (snS_par2 (i := 8) (j := 9) rfl sc_law_deal.nd rfl rfl (by decide) rfl rfl (snA_consR (snE_lc rfl sc_law_deal.nd (snI_any (snE_var (pv 6))) (own := [("name", 7), ("many", 12)]) (blkOk_by (N := ["source", "most", "cells", "step", "lap", "names", "cut_row", "name", "laid", "way", "k", "rest", "many"]) (sc := defScope s_law_deal) (by decide +kernel)) (by decide) (fun _ _ _ _ _ => (snG_tp rfl (snGs_cons (snG_nm (pg_name (i := 7) sc_law_deal.nd rfl (by first | exact Or.inl rfl | exact Or.inr rfl))) (snGs_cons (snG_nm (pg_name (i := 12) sc_law_deal.nd rfl (by first | exact Or.inl rfl | exact Or.inr rfl))) snGs_nil)))) (fun _ _ _ _ _ => snTs_nil) (fun _ _ _ _ _ => (snE_var (pv 7)))) (snA_consR (snE_cal G_law_pick (hr.mono (by decide)) hgd (by rfl) (takes_of rfl rfl rfl rfl) (snA_cons (snE_var (pv 0)) (snA_cons snE_int snA_nil))) snA_nil)) rfl) (snB_cons (snS_if (snT_cmpV (opR_eq hr.units) (pv 9) (snV_E snE_int) (nomark _)) (snB_one (snS_set (i := 8) sc_law_deal.nd rfl (Or.inl rfl) (snE_rev (snV_var (pv 8))))) (snB_one (snS_if (snT_cmpV (opR_eq hr.units) (pv 9) (snV_E snE_int) (nomark _)) (snB_cons (snS_set (i := 10) sc_law_deal.nd rfl (Or.inl rfl) (snE_cal G_law_pick (hr.mono (by decide)) hgd (by rfl) (takes_of rfl rfl rfl rfl) (snA_cons (snE_var (pv 0)) (snA_cons (snE_callB call_lenR (by rfl) B.len PyProof.Rows.Boot.«len» (snV_var (pv 8))) snA_nil)))) (snB_one (snS_set (i := 8) sc_law_deal.nd rfl (Or.inl rfl) (snE_binE opR_add (snE_slV (pv 8) (snV_var (pv 10)) trivial) (snV_E (snE_slV (pv 8) trivial (snV_var (pv 10)))))))) (snB_cons (snS_set (i := 11) sc_law_deal.nd rfl (Or.inr rfl) (snE_mv (pv 8))) (snB_one (snS_setLc (i := 8) rfl sc_law_deal.nd rfl rfl (by rfl) (snI_range1 (by rfl) B.range (snA_cons (snE_callB call_lenR (by rfl) B.len PyProof.Rows.Boot.«len» (snV_var (pv 11))) snA_nil)) (own := [("lap", 4)]) (blkOk_by (N := ["source", "most", "cells", "step", "lap", "names", "cut_row", "name", "laid", "way", "k", "rest", "many"]) (sc := defScope s_law_deal) (by decide +kernel)) (by decide) (fun _ _ _ _ _ => (snG_nm (pg_name (i := 4) sc_law_deal.nd rfl (by first | exact Or.inl rfl | exact Or.inr rfl)))) (fun _ _ _ _ _ => snTs_nil) (fun _ _ _ _ _ => (snE_meth PySem.F.plainAttrs_list PySem.F.slot_list_pop PySem.F.type_list_pop mt_popR (pv 11) (snA_cons (snE_cal G_law_pick (hr.mono (by decide)) hgd (by rfl) takesW0 (snA_cons (snE_var (pv 0)) (snA_cons (snE_callB call_lenR (by rfl) B.len PyProof.Rows.Boot.«len» (snV_var (pv 11))) snA_nil))) snA_nil))))))))) (snB_one (snS_ret (snE_tup (snA_cons (snE_callTy call_tupleR (by rfl) B.tuple PyProof.Rows.Boot.«tuple» (snV_var (pv 6))) (snA_cons (snE_callTy call_tupleR (by rfl) B.tuple PyProof.Rows.Boot.«tuple» (snV_var (pv 8))) snA_nil)))))))))), hm, F.kp, (F.binds (ps := ["source", "most", "cells"]) fun _ _ _ _ _ _ us hl => match us, hl with | [_, _, _], _ => rfl)⟩
abbrev s_law_goes : Stmt := topS 27
theorem sc_law_goes : FnScope ["deal", "name", "sizes", "goes", "letters", "laid", "here", "many", "k"] ["deal"] (defScope s_law_goes) := ⟨rfl, rfl, rfl, by decide +kernel, rfl, by decide +kernel, by decide +kernel⟩
theorem g_law_goes {f : Addr} {fd : FuncData} (F : Fun K "_law_goes" "_law_goes" s_law_goes f fd) (hm : mg "_law_goes" = some (.ref f)) (B : Blt mg) : CalG P w K mg base 1 "_law_goes" 1 (F_law_goes) :=
  ⟨f, fd, ["deal"], rfl, fnG_of (k := 0) F sc_law_goes fun cdv A outer s H E Z hz hr hgd => (snB_cons (snS_parT rfl (pgn_cons (pg_name (i := 2) sc_law_goes.nd rfl (Or.inl rfl)) (pgn_cons (pg_name (i := 3) sc_law_goes.nd rfl (Or.inl rfl)) (pgn_cons (pg_name (i := 4) sc_law_goes.nd rfl (Or.inl rfl)) (pgn_cons (pg_name (i := 5) sc_law_goes.nd rfl (Or.inr rfl)) (pgn_cons (pg_name (i := 6) sc_law_goes.nd rfl (Or.inl rfl)) pgn_nil))))) (snA_consR (snE_callTy (call_dictR rfl) (by rfl) B.dict PyProof.Rows.Boot.«dict» (snV_E (snE_callTy (call_listR rfl) (by rfl) B.list PyProof.Rows.Boot.«list» (snV_E (snE_ixV (ixR hr.units) (pv 0) (snV_E snE_int) (fun _ _ => rfl)))))) (snA_consR (snE_lst snA_nil) (snA_consR (snE_lst snA_nil) (snA_consR snE_newD (snA_consR snE_int snA_nil)))))) (snB_cons (snS_for (passes_of rfl) rfl (snI_any (snE_ixV (ixR hr.units) (pv 0) (snV_E snE_int) (fun _ _ => rfl))) (snG_nm (pg_name (i := 1) sc_law_goes.nd rfl (Or.inr rfl))) (snB_cons (snS_setIx (i := 5) hr.units (pv 5) (snV_var (pv 1)) (snE_var (pv 6))) (snB_one (snS_set (i := 6) sc_law_goes.nd rfl (Or.inl rfl) (snE_binV opR_add (pv 6) (snV_E (snE_ixV (ixR hr.units) (pv 2) (snV_var (pv 1)) (fun _ _ => rfl)))))))) (snB_cons (snS_for (passes_of rfl) rfl (snI_any (snE_ixV (ixR hr.units) (pv 0) (snV_E snE_int) (fun _ _ => rfl))) (snG_tp rfl (snGs_cons (snG_nm (pg_name (i := 1) sc_law_goes.nd rfl (Or.inr rfl))) (snGs_cons (snG_nm (pg_name (i := 7) sc_law_goes.nd rfl (Or.inl rfl))) snGs_nil))) (snB_cons (snS_set (i := 3) sc_law_goes.nd rfl (Or.inl rfl) (snE_binV opR_add (pv 3) (snV_E (snE_lc rfl sc_law_goes.nd (snI_range1 (by rfl) B.range (snA_cons (snE_var (pv 7)) snA_nil)) (own := [("k", 8)]) (blkOk_by (N := ["deal", "name", "sizes", "goes", "letters", "laid", "here", "many", "k"]) (sc := defScope s_law_goes) (by decide +kernel)) (by decide) (fun _ _ _ _ _ => (snG_nm (pg_name (i := 8) sc_law_goes.nd rfl (by first | exact Or.inl rfl | exact Or.inr rfl)))) (fun _ _ _ _ _ => snTs_nil) (fun _ _ _ _ _ => (snE_binE opR_add (snE_ixV (ixR hr.units) (pv 5) (snV_var (pv 1)) (fun _ _ => rfl)) (snV_var (pv 8)))))))) (snB_one (snS_set (i := 4) sc_law_goes.nd rfl (Or.inl rfl) (snE_binV opR_add (pv 4) (snV_E (snE_binE opR_mul (snE_lst (snA_cons (snE_var (pv 1)) snA_nil)) (snV_var (pv 7))))))))) (snB_one (snS_ret (snE_tup (snA_cons (snE_var (pv 3)) (snA_cons (snE_var (pv 4)) snA_nil)))))))), hm, F.kp, (F.binds (ps := ["deal"]) fun _ _ _ _ _ _ us hl => match us, hl with | [_], _ => rfl)⟩
abbrev s_law_told : Stmt := topS 28
theorem sc_law_told : FnScope ["call", "deal", "cell", "error"] ["call", "deal", "cell"] (defScope s_law_told) := ⟨rfl, rfl, rfl, by decide +kernel, rfl, by decide +kernel, by decide +kernel⟩
theorem g_law_told {c_Refused : Addr} {tab : Tab} {f : Addr} {fd : FuncData} (F : Fun K "_law_told" "_law_told" s_law_told f fd) (hm : mg "_law_told" = some (.ref f)) (B : Blt mg) {i_Refused : Addr} {q_Refused : Str} (er_Refused : ErC P K mg c_Refused i_Refused q_Refused ["word", "place"]) (mg_Refused : mg "Refused" = some (.ref c_Refused)) (hTab : ∀ (c : Addr) (np : Nat) (F : Fd), tab c = some (np, F) → HeldG P w K mg base 5 c np F) (xf_Refused : XfC K c_Refused) (xn_Refused : ∀ f : Str, f ∈ [("word" : Str), ("place" : Str)] → PySem.W.findIn K (.ref c_Refused) f = some none) (ex_Refused : PySem.W.exmOne K (.ref c_Refused) (.ref c_Refused) = some true) : CalG P w K mg base 6 "_law_told" 3 (F_law_told c_Refused tab) :=
  ⟨f, fd, ["call", "deal", "cell"], rfl, fnG_of (k := 5) F sc_law_told fun cdv A outer s H E Z hz hr hgd => (snB_one (snS_try (i := 3) hz rfl rfl sc_law_told.nd rfl rfl ⟨rfl, by decide, Or.inl mg_Refused⟩ ex_Refused (fun W pn xe tk po => (snB_one (snS_ret (snE_tup (snA_cons snE_str (snA_cons (snE_callL (k := 5) hTab (hr.mono (by decide)) hgd (pv 0) tk (snA_cons (snE_var (pv 1)) (snA_cons (snE_var (pv 2)) snA_nil))) snA_nil)))))) (fun a oe dd pn h1 h2 => (snB_one (snS_ret (snE_tup (snA_cons snE_str (snA_cons (snE_fld xf_Refused (xn_Refused "word" (by decide)) h1 h2 (pv 3)) (snA_cons (snE_fld xf_Refused (xn_Refused "place" (by decide)) h1 h2 (pv 3)) snA_nil))))))))), hm, F.kp, (F.binds (ps := ["call", "deal", "cell"]) fun _ _ _ _ _ _ us hl => match us, hl with | [_, _, _], _ => rfl)⟩
abbrev s_law_begins : Stmt := topS 29
theorem sc_law_begins : FnScope ["cut_row", "found", "here", "name", "many"] ["cut_row"] (defScope s_law_begins) := ⟨rfl, rfl, rfl, by decide +kernel, rfl, by decide +kernel, by decide +kernel⟩
theorem g_law_begins {f : Addr} {fd : FuncData} (F : Fun K "_law_begins" "_law_begins" s_law_begins f fd) (hm : mg "_law_begins" = some (.ref f)) (B : Blt mg) : CalG P w K mg base 1 "_law_begins" 1 (F_law_begins) :=
  ⟨f, fd, ["cut_row"], rfl, fnG_of (k := 0) F sc_law_begins fun cdv A outer s H E Z hz hr hgd => (snB_cons (snS_par2 (i := 1) (j := 2) rfl sc_law_begins.nd rfl rfl (by decide) rfl rfl (snA_consR snE_newD (snA_consR snE_int snA_nil)) rfl) (snB_cons (snS_for (passes_of rfl) rfl (snI_any (snE_var (pv 0))) (snG_tp rfl (snGs_cons (snG_nm (pg_name (i := 3) sc_law_begins.nd rfl (Or.inl rfl))) (snGs_cons (snG_nm (pg_name (i := 4) sc_law_begins.nd rfl (Or.inl rfl))) snGs_nil))) (snB_cons (snS_setIx (i := 1) hr.units (pv 1) (snV_var (pv 3)) (snE_var (pv 2))) (snB_one (snS_set (i := 2) sc_law_begins.nd rfl (Or.inl rfl) (snE_binV opR_add (pv 2) (snV_var (pv 4))))))) (snB_one (snS_ret (snE_var (pv 1)))))), hm, F.kp, (F.binds (ps := ["cut_row"]) fun _ _ _ _ _ _ us hl => match us, hl with | [_], _ => rfl)⟩
abbrev s_law_deal_right : Stmt := topS 30
theorem sc_law_deal_right : FnScope ["deal", "many", "ahead", "cell", "call", "laid", "undone", "full", "sizes", "here", "due", "goes", "letters", "name", "pair", "often"] ["deal"] (defScope s_law_deal_right) := ⟨rfl, rfl, rfl, by decide +kernel, rfl, by decide +kernel, by decide +kernel⟩
theorem g_law_deal_right {c_TooGreat : Addr} {c_Refused : Addr} {a_piece_of : Addr} {a_cell_behind : Addr} {a_cell_ahead : Addr} {tab : Tab} {f : Addr} {fd : FuncData} (F : Fun K "_law_deal_right" "_law_deal_right" s_law_deal_right f fd) (hm : mg "_law_deal_right" = some (.ref f)) (B : Blt mg) (mg_cell_ahead : mg "cell_ahead" = some (.ref a_cell_ahead)) (mg_cell_behind : mg "cell_behind" = some (.ref a_cell_behind)) (mg_piece_of : mg "piece_of" = some (.ref a_piece_of)) (G_law_goes : CalG P w K mg base 1 "_law_goes" 1 F_law_goes) (G_deal_size : CalG P w K mg base 1 "deal_size" 1 F_deal_size) (G_deal_made : CalG P w K mg base 3 "deal_made" 1 (F_deal_made c_TooGreat)) (G_piece_of : CalG P w K mg base 3 "piece_of" 2 (F_piece_of c_Refused)) (G_cell_behind : CalG P w K mg base 4 "cell_behind" 2 (F_cell_behind c_Refused)) (G_cell_ahead : CalG P w K mg base 5 "cell_ahead" 2 (F_cell_ahead c_Refused)) (G_law_told : CalG P w K mg base 6 "_law_told" 3 (F_law_told c_Refused tab)) (G_law_begins : CalG P w K mg base 1 "_law_begins" 1 F_law_begins) (G_first_cells : CalG P w K mg base 1 "first_cells" 1 F_first_cells) (G_laid_cells : CalG P w K mg base 1 "laid_cells" 1 F_laid_cells) (G_deal_undone : CalG P w K mg base 1 "deal_undone" 1 F_deal_undone) (G_deal_full : CalG P w K mg base 2 "deal_full" 1 F_deal_full) : CalG P w K mg base 7 "_law_deal_right" 1 (F_law_deal_right c_TooGreat c_Refused a_piece_of a_cell_behind a_cell_ahead tab) :=
  ⟨f, fd, ["deal"], rfl, fnG_of (k := 6) F sc_law_deal_right fun cdv A outer s H E Z hz hr hgd => (snB_cons (snS_asg (snE_tup (snA_cons (snE_cal G_law_goes (hr.mono (by decide)) hgd (by rfl) (takes_of rfl rfl rfl rfl) (snA_cons (snE_var (pv 0)) snA_nil)) (snA_cons (snE_callTy (call_dictR rfl) (by rfl) B.dict PyProof.Rows.Boot.«dict» (snV_E (snE_callTy (call_listR rfl) (by rfl) B.list PyProof.Rows.Boot.«list» (snV_E (snE_ixV (ixR hr.units) (pv 0) (snV_E snE_int) (fun _ _ => rfl)))))) snA_nil))) (snG_tp rfl (snGs_cons (snG_tp rfl (snGs_cons (snG_nm (pg_name (i := 11) sc_law_deal_right.nd rfl (Or.inl rfl))) (snGs_cons (snG_nm (pg_name (i := 12) sc_law_deal_right.nd rfl (Or.inl rfl))) snGs_nil))) (snGs_cons (snG_nm (pg_name (i := 8) sc_law_deal_right.nd rfl (Or.inr rfl))) snGs_nil)))) (snB_cons (snS_set (i := 1) sc_law_deal_right.nd rfl (Or.inl rfl) (snE_callB call_lenR (by rfl) B.len PyProof.Rows.Boot.«len» (snV_var (pv 11)))) (snB_cons (snS_if (snT_W (snW_or (snT_cmpE (opR_ne hr.units) (snE_cal G_deal_size (hr.mono (by decide)) hgd (by rfl) (takes_of rfl rfl rfl rfl) (snA_cons (snE_var (pv 0)) snA_nil)) (snV_var (pv 1)) (nomark _)) (snW_or (snT_cmpE (opR_ne hr.units) (snE_callB call_sortedR (by rfl) B.sorted PyProof.Rows.Boot.«sorted» (snV_var (pv 11))) (snV_E (snE_listRg1 rfl (by rfl) B.list (by rfl) B.range (snV_var (pv 1)))) (nomark _)) (snW_or1 (snT_cmpE (opR_ne hr.units) (snE_callB (call_reprR hr.units hgd) (by rfl) B.repr PyProof.Rows.Boot.«repr» (snV_E (snE_cal G_deal_made (hr.mono (by decide)) hgd (by rfl) (takes_of rfl rfl rfl rfl) (snA_cons (snE_var (pv 0)) snA_nil)))) (snV_E (snE_callB (call_reprR hr.units hgd) (by rfl) B.repr PyProof.Rows.Boot.«repr» (snV_var (pv 0)))) (nomark _)))))) (snB_one (snS_ret snE_bl)) snB_nil) (snB_cons (snS_set (i := 2) sc_law_deal_right.nd rfl (Or.inl rfl) (snE_binE opR_mul (snE_lst (snA_cons snE_int snA_nil)) (snV_var (pv 1)))) (snB_cons (snS_for (passes_of rfl) rfl (snI_enum (by rfl) B.enumerate (snA_cons (snE_var (pv 11)) snA_nil)) (snG_tp rfl (snGs_cons (snG_nm (pg_name (i := 3) sc_law_deal_right.nd rfl (Or.inl rfl))) (snGs_cons (snG_nm (pg_name (i := 9) sc_law_deal_right.nd rfl (Or.inl rfl))) snGs_nil))) (snB_one (snS_setIx (i := 2) hr.units (pv 2) (snV_var (pv 9)) (snE_var (pv 3))))) (snB_cons (snS_for (passes_of rfl) rfl (snI_range1 (by rfl) B.range (snA_cons (snE_var (pv 1)) snA_nil)) (snG_nm (pg_name (i := 3) sc_law_deal_right.nd rfl (Or.inl rfl))) (snB_cons (snS_set (i := 10) sc_law_deal_right.nd rfl (Or.inl rfl) (snE_lst (snA_cons (snE_ixV (ixR hr.units) (pv 12) (snV_var (pv 3)) (fun _ _ => rfl)) (snA_cons (snE_ixV (ixR hr.units) (pv 11) (snV_var (pv 3)) (fun _ _ => rfl)) (snA_cons (snE_ixV (ixR hr.units) (pv 2) (snV_var (pv 3)) (fun _ _ => rfl)) snA_nil))))) (snB_one (snS_if (snT_cmpE (opR_ne hr.units) (snE_lst (snA_cons (snE_cal G_piece_of (hr.mono (by decide)) hgd (by rfl) (takes_of rfl rfl rfl rfl) (snA_cons (snE_var (pv 0)) (snA_cons (snE_var (pv 3)) snA_nil))) (snA_cons (snE_cal G_cell_behind (hr.mono (by decide)) hgd (by rfl) (takes_of rfl rfl rfl rfl) (snA_cons (snE_var (pv 0)) (snA_cons (snE_var (pv 3)) snA_nil))) (snA_cons (snE_cal G_cell_ahead (hr.mono (by decide)) hgd (by rfl) (takes_of rfl rfl rfl rfl) (snA_cons (snE_var (pv 0)) (snA_cons (snE_var (pv 3)) snA_nil))) snA_nil)))) (snV_var (pv 10)) (nomark _)) (snB_one (snS_ret snE_bl)) snB_nil)))) (snB_cons (snS_for (passes_of rfl) rfl (snI_any (snE_tupF (snA_cons (snE_fn (by rfl) mg_piece_of) (snA_cons (snE_fn (by rfl) mg_cell_behind) (snA_cons (snE_fn (by rfl) mg_cell_ahead) snA_nil))))) (snG_nm (pg_name (i := 4) sc_law_deal_right.nd rfl (Or.inl rfl))) (snB_one (snS_for (passes_of rfl) rfl (snI_any (snE_tup (snA_cons (snE_var (pv 1)) (snA_cons (snE_binV opR_add (pv 1) (snV_E snE_int)) (snA_cons (snE_binE opR_pow snE_int (snV_E snE_int)) snA_nil))))) (snG_nm (pg_name (i := 3) sc_law_deal_right.nd rfl (Or.inl rfl))) (snB_one (snS_if (snT_cmpE (opR_ne hr.units) (snE_cal G_law_told (hr.mono (by decide)) hgd (by rfl) (takes_of rfl rfl rfl rfl) (snA_cons (snE_var (pv 4)) (snA_cons (snE_var (pv 0)) (snA_cons (snE_var (pv 3)) snA_nil)))) (snV_E (snE_tup (snA_cons snE_str (snA_cons snE_str (snA_cons snE_int snA_nil))))) (nomark _)) (snB_one (snS_ret snE_bl)) snB_nil))))) (snB_cons (snS_setLc (i := 5) rfl sc_law_deal_right.nd rfl rfl (by rfl) (snI_any (snE_ixV (ixR hr.units) (pv 0) (snV_E snE_int) (fun _ _ => rfl))) (own := [("name", 13)]) (blkOk_by (N := ["deal", "many", "ahead", "cell", "call", "laid", "undone", "full", "sizes", "here", "due", "goes", "letters", "name", "pair", "often"]) (sc := defScope s_law_deal_right) (by decide +kernel)) (by decide) (fun _ _ _ _ _ => (snG_nm (pg_name (i := 13) sc_law_deal_right.nd rfl (by first | exact Or.inl rfl | exact Or.inr rfl)))) (fun _ _ _ _ _ => snTs_nil) (fun _ _ _ _ _ => (snE_tup (snA_cons (snE_var (pv 13)) (snA_cons (snE_ixV (ixR hr.units) (pv 8) (snV_var (pv 13)) (fun _ _ => rfl)) snA_nil))))) (snB_cons (snS_if (snT_cmpE (opR_ne hr.units) (snE_items rfl (snV_E (snE_cal G_first_cells (hr.mono (by decide)) hgd (by rfl) (takes_of rfl rfl rfl rfl) (snA_cons (snE_var (pv 0)) snA_nil))) (by rfl) B.list) (snV_E (snE_items rfl (snV_E (snE_cal G_law_begins (hr.mono (by decide)) hgd (by rfl) (takes_of rfl rfl rfl rfl) (snA_cons (snE_ixV (ixR hr.units) (pv 0) (snV_E snE_int) (fun _ _ => rfl)) snA_nil))) (by rfl) B.list)) (nomark _)) (snB_one (snS_ret snE_bl)) snB_nil) (snB_cons (snS_if (snT_cmpE (opR_ne hr.units) (snE_items rfl (snV_E (snE_cal G_laid_cells (hr.mono (by decide)) hgd (by rfl) (takes_of rfl rfl rfl rfl) (snA_cons (snE_var (pv 0)) snA_nil))) (by rfl) B.list) (snV_E (snE_items rfl (snV_E (snE_cal G_law_begins (hr.mono (by decide)) hgd (by rfl) (takes_of rfl rfl rfl rfl) (snA_cons (snE_var (pv 5)) snA_nil))) (by rfl) B.list)) (nomark _)) (snB_one (snS_ret snE_bl)) snB_nil) (snB_cons (snS_set (i := 6) sc_law_deal_right.nd rfl (Or.inl rfl) (snE_cal G_deal_undone (hr.mono (by decide)) hgd (by rfl) (takes_of rfl rfl rfl rfl) (snA_cons (snE_var (pv 0)) snA_nil))) (snB_cons (snS_if (snT_cmpE (opR_ne hr.units) (snE_callB (call_reprR hr.units hgd) (by rfl) B.repr PyProof.Rows.Boot.«repr» (snV_var (pv 6))) (snV_E (snE_callB (call_reprR hr.units hgd) (by rfl) B.repr PyProof.Rows.Boot.«repr» (snV_E (snE_tup (snA_cons (snE_callTy call_tupleR (by rfl) B.tuple PyProof.Rows.Boot.«tuple» (snV_var (pv 5))) (snA_cons (snE_callTy call_tupleR (by rfl) B.tuple PyProof.Rows.Boot.«tuple» (snV_E (snE_lc rfl sc_law_deal_right.nd (snI_any (snE_ixV (ixR hr.units) (pv 0) (snV_E snE_int) (fun _ _ => rfl))) (own := [("name", 13), ("often", 15)]) (blkOk_by (N := ["deal", "many", "ahead", "cell", "call", "laid", "undone", "full", "sizes", "here", "due", "goes", "letters", "name", "pair", "often"]) (sc := defScope s_law_deal_right) (by decide +kernel)) (by decide) (fun _ _ _ _ _ => (snG_tp rfl (snGs_cons (snG_nm (pg_name (i := 13) sc_law_deal_right.nd rfl (by first | exact Or.inl rfl | exact Or.inr rfl))) (snGs_cons (snG_nm (pg_name (i := 15) sc_law_deal_right.nd rfl (by first | exact Or.inl rfl | exact Or.inr rfl))) snGs_nil)))) (fun _ _ _ _ _ => snTs_nil) (fun _ _ _ _ _ => (snE_var (pv 13)))))) snA_nil)))))) (nomark _)) (snB_one (snS_ret snE_bl)) snB_nil) (snB_cons (snS_if (snT_W (snW_or (snT_cmpE (opR_ne hr.units) (snE_callB (call_reprR hr.units hgd) (by rfl) B.repr PyProof.Rows.Boot.«repr» (snV_E (snE_ixE (ixR hr.units) (snE_cal G_law_goes (hr.mono (by decide)) hgd (by rfl) (takes_of rfl rfl rfl rfl) (snA_cons (snE_var (pv 6)) snA_nil)) (snV_E snE_int) (fun _ _ => rfl)))) (snV_E (snE_callB (call_reprR hr.units hgd) (by rfl) B.repr PyProof.Rows.Boot.«repr» (snV_var (pv 2)))) (nomark _)) (snW_or1 (snT_cmpE (opR_ne hr.units) (snE_callB (call_reprR hr.units hgd) (by rfl) B.repr PyProof.Rows.Boot.«repr» (snV_E (snE_cal G_deal_undone (hr.mono (by decide)) hgd (by rfl) (takes_of rfl rfl rfl rfl) (snA_cons (snE_var (pv 6)) snA_nil)))) (snV_E (snE_callB (call_reprR hr.units hgd) (by rfl) B.repr PyProof.Rows.Boot.«repr» (snV_var (pv 0)))) (nomark _))))) (snB_one (snS_ret snE_bl)) snB_nil) (snB_cons (snS_set (i := 7) sc_law_deal_right.nd rfl (Or.inl rfl) (snE_tup (snA_cons (snE_callTy call_tupleR (by rfl) B.tuple PyProof.Rows.Boot.«tuple» (snV_E (snE_lc rfl sc_law_deal_right.nd (snI_any (snE_ixV (ixR hr.units) (pv 0) (snV_E snE_int) (fun _ _ => rfl))) (own := [("pair", 14)]) (blkOk_by (N := ["deal", "many", "ahead", "cell", "call", "laid", "undone", "full", "sizes", "here", "due", "goes", "letters", "name", "pair", "often"]) (sc := defScope s_law_deal_right) (by decide +kernel)) (by decide) (fun _ _ _ _ _ => (snG_nm (pg_name (i := 14) sc_law_deal_right.nd rfl (by first | exact Or.inl rfl | exact Or.inr rfl)))) (fun _ _ _ _ _ => (snTs_one (snT_cmpE opR_gt (snE_ixV (ixR hr.units) (pv 14) (snV_E snE_int) (fun _ _ => rfl)) (snV_E snE_int) (nomark _)))) (fun _ _ _ _ _ => (snE_var (pv 14)))))) (snA_cons (snE_callTy call_tupleR (by rfl) B.tuple PyProof.Rows.Boot.«tuple» (snV_E (snE_lc rfl sc_law_deal_right.nd (snI_any (snE_ixV (ixR hr.units) (pv 0) (snV_E snE_int) (fun _ _ => rfl))) (own := [("name", 13)]) (blkOk_by (N := ["deal", "many", "ahead", "cell", "call", "laid", "undone", "full", "sizes", "here", "due", "goes", "letters", "name", "pair", "often"]) (sc := defScope s_law_deal_right) (by decide +kernel)) (by decide) (fun _ _ _ _ _ => (snG_nm (pg_name (i := 13) sc_law_deal_right.nd rfl (by first | exact Or.inl rfl | exact Or.inr rfl)))) (fun _ _ _ _ _ => (snTs_one (snT_cmpE opR_gt (snE_ixV (ixR hr.units) (pv 8) (snV_var (pv 13)) (fun _ _ => rfl)) (snV_E snE_int) (nomark _)))) (fun _ _ _ _ _ => (snE_var (pv 13)))))) snA_nil)))) (snB_one (snS_ret (snE_and (snE_cmpE (opR_eq hr.units) (snE_callB (call_reprR hr.units hgd) (by rfl) B.repr PyProof.Rows.Boot.«repr» (snV_E (snE_cal G_deal_full (hr.mono (by decide)) hgd (by rfl) (takes_of rfl rfl rfl rfl) (snA_cons (snE_var (pv 0)) snA_nil)))) (snV_E (snE_callB (call_reprR hr.units hgd) (by rfl) B.repr PyProof.Rows.Boot.«repr» (snV_var (pv 7)))) (nomark _)) (snE_one (snE_cmpE (opR_eq hr.units) (snE_callB (call_reprR hr.units hgd) (by rfl) B.repr PyProof.Rows.Boot.«repr» (snV_E (snE_cal G_law_goes (hr.mono (by decide)) hgd (by rfl) (takes_of rfl rfl rfl rfl) (snA_cons (snE_var (pv 7)) snA_nil)))) (snV_E (snE_callB (call_reprR hr.units hgd) (by rfl) B.repr PyProof.Rows.Boot.«repr» (snV_E (snE_cal G_law_goes (hr.mono (by decide)) hgd (by rfl) (takes_of rfl rfl rfl rfl) (snA_cons (snE_var (pv 0)) snA_nil))))) (nomark _)))))))))))))))))))), hm, F.kp, (F.binds (ps := ["deal"]) fun _ _ _ _ _ _ us hl => match us, hl with | [_], _ => rfl)⟩
abbrev s_law_far_right : Stmt := topS 31
theorem sc_law_far_right : FnScope ["source", "deal", "far", "cut_row", "late", "sizes", "here", "begins", "laid", "name", "many", "more", "cell"] ["source", "deal"] (defScope s_law_far_right) := ⟨rfl, rfl, rfl, by decide +kernel, rfl, by decide +kernel, by decide +kernel⟩
theorem g_law_far_right {c_Refused : Addr} {a_cell_behind : Addr} {tab : Tab} {f : Addr} {fd : FuncData} (F : Fun K "_law_far_right" "_law_far_right" s_law_far_right f fd) (hm : mg "_law_far_right" = some (.ref f)) (B : Blt mg) (mg_cell_behind : mg "cell_behind" = some (.ref a_cell_behind)) (G_law_pick : CalG P w K mg base 1 "_law_pick" 2 F_law_pick) (G_law_of : CalG P w K mg base 2 "_law_of" 2 F_law_of) (G_law_begins : CalG P w K mg base 1 "_law_begins" 1 F_law_begins) (G_piece_of : CalG P w K mg base 3 "piece_of" 2 (F_piece_of c_Refused)) (G_cell_behind : CalG P w K mg base 4 "cell_behind" 2 (F_cell_behind c_Refused)) (G_cell_ahead : CalG P w K mg base 5 "cell_ahead" 2 (F_cell_ahead c_Refused)) (G_deal_size : CalG P w K mg base 1 "deal_size" 1 F_deal_size) (G_law_told : CalG P w K mg base 6 "_law_told" 3 (F_law_told c_Refused tab)) : CalG P w K mg base 7 "_law_far_right" 2 (F_law_far_right c_Refused a_cell_behind tab) :=
  ⟨f, fd, ["source", "deal"], rfl, fnG_of (k := 6) F sc_law_far_right fun cdv A outer s H E Z hz hr hgd => (snB_cons (snS_set (i := 2) sc_law_far_right.nd rfl (Or.inr rfl) (snE_binE opR_add (snE_cal G_law_of (hr.mono (by decide)) hgd (by rfl) (takes_of rfl rfl rfl rfl) (snA_cons (snE_var (pv 0)) (snA_cons (snE_lst (snA_cons (snE_binE opR_pow snE_int (snV_E snE_int)) (snA_cons (snE_binE opR_pow snE_int (snV_E snE_int)) (snA_cons (snE_callTy call_intR (by rfl) B.int PyProof.Rows.Boot.«int» (snV_E (snE_binE opR_add snE_str (snV_E (snE_binE opR_mul snE_str (snV_E snE_int)))))) snA_nil)))) snA_nil))) (snV_E (snE_cal G_law_pick (hr.mono (by decide)) hgd (by rfl) (takes_of rfl rfl rfl rfl) (snA_cons (snE_var (pv 0)) (snA_cons snE_int snA_nil)))))) (snB_cons (snS_set (i := 3) sc_law_far_right.nd rfl (Or.inl rfl) (snE_callTy call_tupleR (by rfl) B.tuple PyProof.Rows.Boot.«tuple» (snV_E (snE_lc rfl sc_law_far_right.nd (snI_any (snE_ixV (ixR hr.units) (pv 1) (snV_E snE_int) (fun _ _ => rfl))) (own := [("name", 9), ("many", 10)]) (blkOk_by (N := ["source", "deal", "far", "cut_row", "late", "sizes", "here", "begins", "laid", "name", "many", "more", "cell"]) (sc := defScope s_law_far_right) (by decide +kernel)) (by decide) (fun _ _ _ _ _ => (snG_tp rfl (snGs_cons (snG_nm (pg_name (i := 9) sc_law_far_right.nd rfl (by first | exact Or.inl rfl | exact Or.inr rfl))) (snGs_cons (snG_nm (pg_name (i := 10) sc_law_far_right.nd rfl (by first | exact Or.inl rfl | exact Or.inr rfl))) snGs_nil)))) (fun _ _ _ _ _ => snTs_nil) (fun _ _ _ _ _ => (snE_tup (snA_cons (snE_var (pv 9)) (snA_cons (snE_binE opR_add (snE_binV opR_mul (pv 10) (snV_var (pv 2))) (snV_E (snE_cal G_law_pick (hr.mono (by decide)) hgd (by rfl) takesW0 (snA_cons (snE_var (pv 0)) (snA_cons snE_int snA_nil))))) snA_nil)))))))) (snB_cons (snS_parT rfl (pgn_cons (pg_name (i := 4) sc_law_far_right.nd rfl (Or.inl rfl)) (pgn_cons (pg_name (i := 5) sc_law_far_right.nd rfl (Or.inr rfl)) (pgn_cons (pg_name (i := 6) sc_law_far_right.nd rfl (Or.inl rfl)) pgn_nil))) (snA_consR (snE_tup (snA_cons (snE_var (pv 3)) (snA_cons (snE_ixV (ixR hr.units) (pv 1) (snV_E snE_int) (fun _ _ => rfl)) snA_nil))) (snA_consR (snE_callTy (call_dictR rfl) (by rfl) B.dict PyProof.Rows.Boot.«dict» (snV_E (snE_callTy (call_listR rfl) (by rfl) B.list PyProof.Rows.Boot.«list» (snV_var (pv 3))))) (snA_consR snE_int snA_nil)))) (snB_cons (snS_par2 (i := 7) (j := 8) rfl sc_law_far_right.nd rfl rfl (by decide) rfl rfl (snA_consR (snE_cal G_law_begins (hr.mono (by decide)) hgd (by rfl) (takes_of rfl rfl rfl rfl) (snA_cons (snE_var (pv 3)) snA_nil)) (snA_consR (snE_cal G_law_begins (hr.mono (by decide)) hgd (by rfl) (takes_of rfl rfl rfl rfl) (snA_cons (snE_lc rfl sc_law_far_right.nd (snI_any (snE_ixV (ixR hr.units) (pv 1) (snV_E snE_int) (fun _ _ => rfl))) (own := [("name", 9)]) (blkOk_by (N := ["source", "deal", "far", "cut_row", "late", "sizes", "here", "begins", "laid", "name", "many", "more", "cell"]) (sc := defScope s_law_far_right) (by decide +kernel)) (by decide) (fun _ _ _ _ _ => (snG_nm (pg_name (i := 9) sc_law_far_right.nd rfl (by first | exact Or.inl rfl | exact Or.inr rfl)))) (fun _ _ _ _ _ => snTs_nil) (fun _ _ _ _ _ => (snE_tup (snA_cons (snE_var (pv 9)) (snA_cons (snE_ixV (ixR hr.units) (pv 5) (snV_var (pv 9)) (fun _ _ => rfl)) snA_nil))))) snA_nil)) snA_nil)) rfl) (snB_cons (snS_for (passes_of rfl) rfl (snI_any (snE_var (pv 3))) (snG_tp rfl (snGs_cons (snG_nm (pg_name (i := 9) sc_law_far_right.nd rfl (Or.inl rfl))) (snGs_cons (snG_nm (pg_name (i := 10) sc_law_far_right.nd rfl (Or.inr rfl))) snGs_nil))) (snB_cons (snS_for (passes_of rfl) rfl (snI_any (snE_lc rfl sc_law_far_right.nd (snI_any (snE_tup (snA_cons snE_int (snA_cons (snE_binV opR_fdiv (pv 10) (snV_E snE_int)) (snA_cons (snE_binV opR_sub (pv 10) (snV_E snE_int)) snA_nil))))) (own := [("more", 11)]) (blkOk_by (N := ["source", "deal", "far", "cut_row", "late", "sizes", "here", "begins", "laid", "name", "many", "more", "cell"]) (sc := defScope s_law_far_right) (by decide +kernel)) (by decide) (fun _ _ _ _ _ => (snG_nm (pg_name (i := 11) sc_law_far_right.nd rfl (by first | exact Or.inl rfl | exact Or.inr rfl)))) (fun _ _ _ _ _ => (snTs_one (snT_chain opR_le opR_lt snE_int (snE_var (pv 11)) (snV_var (pv 10))))) (fun _ _ _ _ _ => (snE_var (pv 11))))) (snG_nm (pg_name (i := 11) sc_law_far_right.nd rfl (Or.inl rfl))) (snB_cons (snS_set (i := 12) sc_law_far_right.nd rfl (Or.inl rfl) (snE_binE opR_add (snE_ixV (ixR hr.units) (pv 7) (snV_var (pv 9)) (fun _ _ => rfl)) (snV_var (pv 11)))) (snB_cons (snS_if (snT_W (snW_or (snT_cmpE (opR_ne hr.units) (snE_cal G_piece_of (hr.mono (by decide)) hgd (by rfl) (takes_of rfl rfl rfl rfl) (snA_cons (snE_var (pv 4)) (snA_cons (snE_var (pv 12)) snA_nil))) (snV_var (pv 9)) (nomark _)) (snW_or1 (snT_cmpE (opR_ne hr.units) (snE_cal G_cell_behind (hr.mono (by decide)) hgd (by rfl) (takes_of rfl rfl rfl rfl) (snA_cons (snE_var (pv 4)) (snA_cons (snE_var (pv 12)) snA_nil))) (snV_E (snE_binE opR_add (snE_ixV (ixR hr.units) (pv 8) (snV_var (pv 9)) (fun _ _ => rfl)) (snV_var (pv 11)))) (nomark _))))) (snB_one (snS_ret snE_bl)) snB_nil) (snB_one (snS_if (snT_cmpE (opR_ne hr.units) (snE_cal G_cell_ahead (hr.mono (by decide)) hgd (by rfl) (takes_of rfl rfl rfl rfl) (snA_cons (snE_var (pv 4)) (snA_cons (snE_binE opR_add (snE_ixV (ixR hr.units) (pv 8) (snV_var (pv 9)) (fun _ _ => rfl)) (snV_var (pv 11))) snA_nil))) (snV_var (pv 12)) (nomark _)) (snB_one (snS_ret snE_bl)) snB_nil))))) (snB_one (snS_set (i := 6) sc_law_far_right.nd rfl (Or.inl rfl) (snE_binV opR_add (pv 6) (snV_var (pv 10))))))) (snB_one (snS_ret (snE_and (snE_cmpE (opR_eq hr.units) (snE_cal G_deal_size (hr.mono (by decide)) hgd (by rfl) (takes_of rfl rfl rfl rfl) (snA_cons (snE_var (pv 4)) snA_nil)) (snV_var (pv 6)) (nomark _)) (snE_one (snE_cmpE (opR_eq hr.units) (snE_cal G_law_told (hr.mono (by decide)) hgd (by rfl) (takes_of rfl rfl rfl rfl) (snA_cons (snE_fn (by rfl) mg_cell_behind) (snA_cons (snE_var (pv 4)) (snA_cons (snE_var (pv 6)) snA_nil)))) (snV_E (snE_tup (snA_cons snE_str (snA_cons snE_str (snA_cons snE_int snA_nil))))) (nomark _))))))))))), hm, F.kp, (F.binds (ps := ["source", "deal"]) fun _ _ _ _ _ _ us hl => match us, hl with | [_, _], _ => rfl)⟩
abbrev s_law_made : Stmt := topS 32
theorem sc_law_made : FnScope ["deal", "error", "made"] ["deal"] (defScope s_law_made) := ⟨rfl, rfl, rfl, by decide +kernel, rfl, by decide +kernel, by decide +kernel⟩
theorem g_law_made {c_TooGreat : Addr} {f : Addr} {fd : FuncData} (F : Fun K "_law_made" "_law_made" s_law_made f fd) (hm : mg "_law_made" = some (.ref f)) (B : Blt mg) {i_TooGreat : Addr} {q_TooGreat : Str} (er_TooGreat : ErC P K mg c_TooGreat i_TooGreat q_TooGreat ["number"]) (mg_TooGreat : mg "TooGreat" = some (.ref c_TooGreat)) (xf_TooGreat : XfC K c_TooGreat) (xn_TooGreat : ∀ f : Str, f ∈ [("number" : Str)] → PySem.W.findIn K (.ref c_TooGreat) f = some none) (ex_TooGreat : PySem.W.exmOne K (.ref c_TooGreat) (.ref c_TooGreat) = some true) (G_deal_made : CalG P w K mg base 3 "deal_made" 1 (F_deal_made c_TooGreat)) : CalG P w K mg base 4 "_law_made" 1 (F_law_made c_TooGreat) :=
  ⟨f, fd, ["deal"], rfl, fnG_of (k := 3) F sc_law_made fun cdv A outer s H E Z hz hr hgd => (snB_cons (snS_try (i := 1) hz rfl rfl sc_law_made.nd rfl rfl ⟨rfl, by decide, Or.inl mg_TooGreat⟩ ex_TooGreat (fun W pn xe tk po => (snB_one (snS_set (i := 2) sc_law_made.nd rfl (Or.inl rfl) (snE_cal G_deal_made (hr.mono (by decide)) hgd (by rfl) tk (snA_cons (snE_var (pv 0)) snA_nil))))) (fun a oe dd pn h1 h2 => (snB_one (snS_ret (snE_tup (snA_cons snE_str (snA_cons (snE_fld xf_TooGreat (xn_TooGreat "number" (by decide)) h1 h2 (pv 1)) snA_nil))))))) (snB_one (snS_ret (snE_tup (snA_cons snE_str (snA_cons (snE_var (pv 2)) snA_nil)))))), hm, F.kp, (F.binds (ps := ["deal"]) fun _ _ _ _ _ _ us hl => match us, hl with | [_], _ => rfl)⟩
abbrev s_law : Stmt := topS 33
theorem sc_law : FnScope ["script", "source", "deal", "half", "most", "more"] ["script"] (defScope s_law) := ⟨rfl, rfl, rfl, by decide +kernel, rfl, by decide +kernel, by decide +kernel⟩
theorem d_law {c_TooGreat : Addr} {c_Refused : Addr} {a_piece_of : Addr} {a_cell_behind : Addr} {a_cell_ahead : Addr} {tab : Tab} (B : Blt mg) (G_law_deal : CalG P w K mg base 3 "_law_deal" 3 F_law_deal) (G_law_deal_right : CalG P w K mg base 7 "_law_deal_right" 1 (F_law_deal_right c_TooGreat c_Refused a_piece_of a_cell_behind a_cell_ahead tab)) (G_law_far_right : CalG P w K mg base 7 "_law_far_right" 2 (F_law_far_right c_Refused a_cell_behind tab)) (G_law_pick : CalG P w K mg base 1 "_law_pick" 2 F_law_pick) (G_law_made : CalG P w K mg base 4 "_law_made" 1 (F_law_made c_TooGreat)) (G_deal_size : CalG P w K mg base 1 "deal_size" 1 F_deal_size) (cdv : Value) (A : Around) (outer : List Env) (s : Shared) (H : Hp) (E : XK) {f : Addr} (Z : Zx) (hz : Z.Xn = none) (hr : Room 7 (A.deeper (envOfC "law" (defScope s_law) s.heap.objs.size f cdv))) (hgd : A.guards = some []) : SnB (cxOf (L2.CX P w) P w K mg base ["script", "source", "deal", "half", "most", "more"] "law" (defScope s_law) f cdv A outer s H E) Z (fun cls d _ H => E cls d H) ((defBody s_law).drop 1) (m_law c_TooGreat c_Refused a_piece_of a_cell_behind a_cell_ahead tab) :=
  (snB_cons (snS_for (passes_of rfl) rfl (snI_any (snE_tup (snA_cons (snE_cal G_law_deal (hr.mono (by decide)) hgd (by rfl) (takes_of rfl rfl rfl rfl) (snA_cons (snE_var (pv 1)) (snA_cons snE_int (snA_cons snE_int snA_nil)))) (snA_cons (snE_cal G_law_deal (hr.mono (by decide)) hgd (by rfl) (takes_of rfl rfl rfl rfl) (snA_cons (snE_var (pv 1)) (snA_cons snE_int (snA_cons snE_int snA_nil)))) snA_nil)))) (snG_nm (pg_name (i := 2) sc_law.nd rfl (Or.inl rfl))) (snB_one (snS_if (snT_W (snW_or (snT_not (snT_val (snE_cal G_law_deal_right (hr.mono (by decide)) hgd (by rfl) (takes_of rfl rfl rfl rfl) (snA_cons (snE_var (pv 2)) snA_nil)))) (snW_or1 (snT_not (snT_val (snE_cal G_law_far_right (hr.mono (by decide)) hgd (by rfl) (takes_of rfl rfl rfl rfl) (snA_cons (snE_var (pv 1)) (snA_cons (snE_var (pv 2)) snA_nil)))))))) (snB_one (snS_ret snE_bl)) snB_nil))) (snB_cons (snS_par2 (i := 4) (j := 5) rfl sc_law.nd rfl rfl (by decide) rfl rfl (snA_consR (snE_callTy call_intR (by rfl) B.int PyProof.Rows.Boot.«int» (snV_E (snE_binE opR_mul snE_str (snV_E snE_int)))) (snA_consR (snE_cal G_law_pick (hr.mono (by decide)) hgd (by rfl) (takes_of rfl rfl rfl rfl) (snA_cons (snE_var (pv 1)) (snA_cons snE_int snA_nil))) snA_nil)) rfl) (snB_cons (snS_set (i := 3) sc_law.nd rfl (Or.inl rfl) (snE_binV opR_fdiv (pv 4) (snV_E snE_int))) (snB_cons (snS_set (i := 2) sc_law.nd rfl (Or.inl rfl) (snE_tup (snA_cons (snE_tup (snA_cons (snE_tup (snA_cons snE_str (snA_cons (snE_var (pv 3)) snA_nil))) (snA_cons (snE_tup (snA_cons snE_str (snA_cons snE_int snA_nil))) (snA_cons (snE_tup (snA_cons snE_str (snA_cons (snE_binE opR_add (snE_binV opR_sub (pv 4) (snV_var (pv 3))) (snV_var (pv 5))) snA_nil))) snA_nil)))) (snA_cons (snE_tup (snA_cons snE_str (snA_cons snE_str (snA_cons snE_str snA_nil)))) snA_nil)))) (snB_cons (snS_if (snT_cmpE (opR_ne hr.units) (snE_callB (call_reprR hr.units hgd) (by rfl) B.repr PyProof.Rows.Boot.«repr» (snV_E (snE_cal G_law_made (hr.mono (by decide)) hgd (by rfl) (takes_of rfl rfl rfl rfl) (snA_cons (snE_var (pv 2)) snA_nil)))) (snV_E (snE_callB (call_reprR hr.units hgd) (by rfl) B.repr PyProof.Rows.Boot.«repr» (snV_E (snE_if (snT_cmpV (opR_eq hr.units) (pv 5) (snV_E snE_int) (nomark _)) (snE_tup (snA_cons snE_str (snA_cons (snE_var (pv 2)) snA_nil))) (snE_tup (snA_cons snE_str (snA_cons snE_int snA_nil))))))) (nomark _)) (snB_one (snS_ret snE_bl)) snB_nil) (snB_one (snS_ret (snE_cmpE (opR_eq hr.units) (snE_cal G_deal_size (hr.mono (by decide)) hgd (by rfl) (takes_of rfl rfl rfl rfl) (snA_cons (snE_var (pv 2)) snA_nil)) (snV_E (snE_binV opR_add (pv 4) (snV_var (pv 5)))) (nomark _)))))))))
end
end Law
end Pw
set_option Elab.async false
set_option linter.all false
set_option maxRecDepth 100000
namespace Pw
namespace Law
open PySem PySem.Spec PyProof.Rows L2
/-! ### deals as data -/
abbrev Pr := List (Str × Int)
def pD (p : Str × Int) : D := .tuple [.str p.1, .int p.2]
def psD (ps : Pr) : D := .tuple (ps.map pD)
def dealD (ps : Pr) (l : List Str) : D := .tuple [psD ps, .tuple (l.map .str)]
def tot (ps : Pr) : Int := (ps.map (·.2)).sum
theorem size_comp (a : Option SV) (o : Option Src) : ∀ (ps : Pr) (acc : List D), acc.length + ps.length ≤ 1000 → compL (gTp (gsCons (gNm 1) (gsCons (gNm 2) gsNil))) cYes (cVar 2) [1, 2] (shs (ps.map pD)) acc ⟨[a, none, none], o⟩ = .ok (acc ++ ps.map fun p => .int p.2) ⟨[a, none, none], o⟩
  | [], acc, _ => by simp [compL, shs]
  | p :: ps, acc, h => by
    have ih := size_comp a o ps (acc ++ [.int p.2]) (by simp at h ⊢; omega)
    have h4 : acc.length < sizeLine := by rw [sizeLine_eq]; simp at h; omega
    simp only [shs, List.map_cons, compL, gTp, gsCons, gsNil, gNm, pD, Option.bind_some, cYes, Res.quiet, bnd_ok, if_true, cVar, SV.settle, wipeS, List.getElem?_cons_zero, List.getElem?_cons_succ, List.set_cons_zero, List.set_cons_succ, h4]
    simp only [shs, List.append_assoc, List.singleton_append] at ih
    exact ih
theorem deal_size_ok (ps : Pr) (l : List Str) (h : ps.length ≤ 1000) : Rets F_deal_size [.sh (dealD ps l)] (.sh (.int (tot ps))) := fun src => by
  have hc : cComp (cIt (cBinV dIx 0 (vE (cD (.int 0))))) (gTp (gsCons (gNm 1) (gsCons (gNm 2) gsNil))) cYes (cVar 2) [1, 2] ⟨[some (.sh (dealD ps l)), none, none], src⟩ = .ok (.own (.list (ps.map fun p => .int p.2))) ⟨[some (.sh (dealD ps l)), none, none], src⟩ :=
    comp_ok (f := cIt (cBinV dIx 0 (vE (cD (.int 0))))) (s := ⟨[some (.sh (dealD ps l)), none, none], src⟩) (s1 := ⟨[some (.sh (dealD ps l)), none, none], src⟩) (vs := [1, 2]) rfl (size_comp _ _ ps [] (by simpa using h))
  have e : dInts (ps.map fun p => .int p.2) = some (ps.map (·.2)) := by
    have := ints_map (ps.map (·.2))
    rwa [List.map_map] at this
  exact ⟨_, run_ret (ret_ok (call1_ok (vE_ok hc rfl) (by simp only [dSum, e, Option.map_some]; rfl)))⟩
/-! ### where names begin -/
/-- each name with where it begins -/
def begs : Int → Pr → Pr
  | _, [] => []
  | b, (n, m) :: r => (n, b) :: begs (b + m) r
def kvD (ps : Pr) : List (D × D) := ps.map fun p => (.str p.1, .int p.2)
theorem look_cons (a n : Str) (x : D) (r : List (D × D)) : dLook ((.str a, x) :: r) (.inr n) = if a = n then some x else dLook r (.inr n) := by
  show (if keyOf (.str a) = some (.inr n) then some x else dLook r (.inr n)) = _
  by_cases e : a = n
  · rw [if_pos e, if_pos (by rw [e]; rfl)]
  · rw [if_neg e, if_neg (fun z => e (by have z : some (Sum.inr a : Key) = some (.inr n) := z; cases z; rfl))]
theorem kv_look (n : Str) : ∀ (ps : Pr), dLook (kvD ps) (.inr n) = (ps.lookup n).map .int
  | [] => rfl
  | (a, k) :: ps => by
    show dLook ((.str a, .int k) :: kvD ps) (.inr n) = _
    rw [look_cons, kv_look n ps]
    simp only [List.lookup]
    by_cases e : a = n
    · simp [e]
    · have e2 : (n == a) = false := by simpa using Ne.symm e
      rw [if_neg e, e2]
theorem lookup_has (n : Str) : ∀ ps : Pr, (ps.lookup n).isSome = decide (n ∈ ps.map (·.1))
  | [] => rfl
  | (a, k) :: ps => by
    simp only [List.lookup, List.map_cons, List.mem_cons]
    by_cases e : n = a
    · simp [e]
    · have e2 : (n == a) = false := by simpa using e
      rw [e2]
      dsimp only
      rw [lookup_has n ps]
      simp [e]
theorem kv_has (n : Str) (ps : Pr) : dHas (kvD ps) (.inr n) = decide (n ∈ ps.map (·.1)) := by
  unfold dHas
  rw [kv_look, Option.isSome_map, lookup_has]
theorem kv_put (n : Str) (k : Int) (ps : Pr) (h : n ∉ ps.map (·.1)) : dPut (kvD ps) (.inr n) (.int k) = kvD (ps ++ [(n, k)]) := by
  unfold dPut
  rw [kv_has, decide_eq_false h, if_neg Bool.false_ne_true]
  simp [kvD, keyD]
theorem kv_dict : ∀ (ps acc : Pr), (acc.map (·.1) ++ ps.map (·.1)).Nodup → dMerge (kvD acc) (ps.map fun p => (.inr p.1, .int p.2)) = kvD (acc ++ ps)
  | [], acc, _ => by simp [dMerge]
  | p :: ps, acc, h => by
    have h1 : p.1 ∉ acc.map (·.1) := by
      simp only [List.map_cons, List.nodup_append] at h
      exact fun z => h.2.2 _ z _ List.mem_cons_self rfl
    have ih := kv_dict ps (acc ++ [p]) (by simpa using h)
    unfold dMerge at ih ⊢
    rw [List.map_cons, List.foldl_cons, kv_put _ _ _ h1, ih]
    simp
theorem pairs_ps : ∀ ps : Pr, pairsD (ps.map pD) = some (ps.map fun p => (.inr p.1, .int p.2))
  | [] => rfl
  | p :: ps => by
    simp only [List.map_cons, pairsD, pD, keyOf, Option.bind_some, pairs_ps ps, Option.map_some]
theorem dDict_ps (ps : Pr) (h : (ps.map (·.1)).Nodup) : dDict (.list (ps.map pD)) = some (.own (.dict (kvD ps))) := by
  have := kv_dict ps [] (by simpa using h)
  simp only [dDict, pairs_ps, Option.map_some]
  rw [show ([] : List (D × D)) = kvD [] from rfl, this]
  rfl
/-- known = dict(list(deal[0])) -/
theorem known_ok {ps : Pr} {l : List Str} {r : List (Option SV)} {src : Option Src} (h : (ps.map (·.1)).Nodup) : cCall1 dDict (vE (cCall1 dList (vE (cBinV dIx 0 (vE (cD (.int 0))))))) ⟨some (.sh (dealD ps l)) :: r, src⟩ = .ok (.own (.dict (kvD ps))) ⟨some (.sh (dealD ps l)) :: r, src⟩ := by
  exact call1_ok (vE_ok (show cCall1 dList (vE (cBinV dIx 0 (vE (cD (.int 0))))) _ = .ok (.own (.list (ps.map pD))) ⟨some (.sh (dealD ps l)) :: r, src⟩ from rfl) rfl) (dDict_ps ps h)
theorem kv_set (n : Str) (k : Int) (ps : Pr) (h : n ∉ ps.map (·.1)) (hl : ps.length ≤ 1000) : dSet (.dict (kvD ps)) (.str n) (.int k) = some (.dict (kvD (ps ++ [(n, k)]))) := by
  have hz : (kvD ps).length < sizeLine := by unfold kvD; rw [List.length_map, sizeLine_eq]; omega
  simp only [dSet, keyOf, Option.bind_some, if_pos hz, kv_put n k ps h]
theorem begs_fst : ∀ (b : Int) (ps : Pr), (begs b ps).map (·.1) = ps.map (·.1)
  | _, [] => rfl
  | b, (n, m) :: r => by simp [begs, begs_fst (b + m) r]
theorem begs_len : ∀ (b : Int) (ps : Pr), (begs b ps).length = ps.length
  | _, [] => rfl
  | b, (n, m) :: r => by simp [begs, begs_len (b + m) r]
theorem first_loop (dl : Option SV) (src : Option Src) : ∀ (ps acc : Pr) (b : Int) (o3 o4 : Option SV), (acc.map (·.1) ++ ps.map (·.1)).Nodup → acc.length + ps.length ≤ 1000 → ∃ o3' o4', forL (gTp (gsCons (gNm 3) (gsCons (gNm 4) gsNil))) (cSeq (cSetIx 1 (cVarV 3) (cVar 2)) (cAug dAddI 2 (cVarV 4))) (shs (ps.map pD)) ⟨[dl, some (.own (.dict (kvD acc))), some (.sh (.int b)), o3, o4], src⟩ = .ok .nx ⟨[dl, some (.own (.dict (kvD (acc ++ begs b ps)))), some (.sh (.int (b + tot ps))), o3', o4'], src⟩
  | [], acc, b, o3, o4, _, _ => ⟨o3, o4, by simp [forL, shs, begs, tot]⟩
  | (n, m) :: ps, acc, b, o3, o4, h, hl => by
    have h1 : n ∉ acc.map (·.1) := by
      simp only [List.map_cons, List.nodup_append] at h
      exact fun z => h.2.2 _ z _ List.mem_cons_self rfl
    obtain ⟨o3', o4', ih⟩ := first_loop dl src ps (acc ++ [(n, b)]) (b + m) (some (.sh (.str n))) (some (.sh (.int m))) (by simpa using h) (by simp at hl ⊢; omega)
    refine ⟨o3', o4', ?_⟩
    have e2 : b + m + tot ps = b + tot ((n, m) :: ps) := by simp [tot, Int.add_assoc]
    rw [e2, List.append_assoc] at ih
    refine (forL_step (s1 := ⟨[dl, some (.own (.dict (kvD acc))), some (.sh (.int b)), some (.sh (.str n)), some (.sh (.int m))], src⟩) (s2 := ⟨[dl, some (.own (.dict (kvD (acc ++ [(n, b)])))), some (.sh (.int (b + m))), some (.sh (.str n)), some (.sh (.int m))], src⟩) rfl ?_).trans ih
    refine seq_nx (setIx_ok (f := cVar 2) (fk := cVarV 3) (i := 1) (s1 := ⟨[dl, some (.own (.dict (kvD acc))), some (.sh (.int b)), some (.sh (.str n)), some (.sh (.int m))], src⟩) rfl rfl rfl rfl rfl (kv_set n b acc h1 (by simp at hl; omega))) ?_
    rfl
theorem first_cells_ok {ps : Pr} (l : List Str) (h : (ps.map (·.1)).Nodup) (hl : ps.length ≤ 1000) : Rets F_first_cells [.sh (dealD ps l)] (.sh (.dict (kvD (begs 0 ps)))) := fun src => by
  obtain ⟨o3, o4, e⟩ := first_loop (some (.sh (dealD ps l))) src ps [] 0 none none (by simpa using h) (by simpa using hl)
  exact ⟨_, run_ret (seq_nx (s1 := ⟨[some (.sh (dealD ps l)), some (.own (.dict (kvD []))), some (.sh (.int 0)), none, none], src⟩) rfl (seq_nx (for_ok (ds := shs (ps.map pD)) (s1 := ⟨[some (.sh (dealD ps l)), some (.own (.dict (kvD []))), some (.sh (.int 0)), none, none], src⟩) rfl e) (ret_ok rfl)))⟩
/-- a name's number -/
def sz (ps : Pr) (n : Str) : Int := (ps.lookup n).getD 0
/-- the pieces in the order of names -/
def lp (ps : Pr) (l : List Str) : Pr := l.map fun n => (n, sz ps n)
theorem lookup_in {ps : Pr} {n : Str} (h : n ∈ ps.map (·.1)) : ps.lookup n = some (sz ps n) := by
  have := lookup_has n ps
  rw [decide_eq_true h] at this
  obtain ⟨x, e⟩ := Option.isSome_iff_exists.mp this
  unfold sz
  rw [e]
  rfl
theorem kv_ix {ps : Pr} {n : Str} (h : n ∈ ps.map (·.1)) : dIx (.dict (kvD ps)) (.str n) = some (.sh (.int (sz ps n))) := by
  simp only [dIx, keyOf, Option.bind_some, kv_look, lookup_in h, Option.map_some]
theorem laid_loop (dl : Option SV) (src : Option Src) (ps : Pr) : ∀ (ns : List Str) (acc : Pr) (b : Int) (o1 : Option SV), (∀ n ∈ ns, n ∈ ps.map (·.1)) → (acc.map (·.1) ++ ns).Nodup → acc.length + ns.length ≤ 1000 → ∃ o1', forL (gNm 1) (cSeq (cSetIx 3 (cVarV 1) (cVar 4)) (cAug dAddI 4 (vE (cBinV dIx 2 (cVarV 1))))) (shs (ns.map .str)) ⟨[dl, o1, some (.own (.dict (kvD ps))), some (.own (.dict (kvD acc))), some (.sh (.int b))], src⟩ = .ok .nx ⟨[dl, o1', some (.own (.dict (kvD ps))), some (.own (.dict (kvD (acc ++ begs b (lp ps ns))))), some (.sh (.int (b + tot (lp ps ns))))], src⟩
  | [], acc, b, o1, _, _, _ => ⟨o1, by simp [forL, shs, begs, tot, lp]⟩
  | n :: ns, acc, b, o1, hn, h, hl => by
    have h1 : n ∉ acc.map (·.1) := by
      simp only [List.nodup_append] at h
      exact fun z => h.2.2 _ z _ List.mem_cons_self rfl
    obtain ⟨o1', ih⟩ := laid_loop dl src ps ns (acc ++ [(n, b)]) (b + sz ps n) (some (.sh (.str n))) (fun x hx => hn x (List.mem_cons_of_mem _ hx)) (by simpa using h) (by simp at hl ⊢; omega)
    refine ⟨o1', ?_⟩
    have e2 : b + sz ps n + tot (lp ps ns) = b + tot (lp ps (n :: ns)) := by simp [tot, lp, Int.add_assoc]
    rw [e2, List.append_assoc] at ih
    refine (forL_step (s1 := ⟨[dl, some (.sh (.str n)), some (.own (.dict (kvD ps))), some (.own (.dict (kvD acc))), some (.sh (.int b))], src⟩) (s2 := ⟨[dl, some (.sh (.str n)), some (.own (.dict (kvD ps))), some (.own (.dict (kvD (acc ++ [(n, b)])))), some (.sh (.int (b + sz ps n)))], src⟩) rfl ?_).trans ih
    refine seq_nx (setIx_ok (f := cVar 4) (fk := cVarV 1) (i := 3) (s1 := ⟨[dl, some (.sh (.str n)), some (.own (.dict (kvD ps))), some (.own (.dict (kvD acc))), some (.sh (.int b))], src⟩) rfl rfl rfl rfl rfl (kv_set n b acc h1 (by simp at hl; omega))) ?_
    exact aug_ok (i := 4) (s := ⟨[dl, some (.sh (.str n)), some (.own (.dict (kvD ps))), some (.own (.dict (kvD (acc ++ [(n, b)])))), some (.sh (.int b))], src⟩) rfl (vE_ok (binV_ok (i := 2) (s := ⟨[dl, some (.sh (.str n)), some (.own (.dict (kvD ps))), some (.own (.dict (kvD (acc ++ [(n, b)])))), some (.sh (.int b))], src⟩) rfl rfl rfl (kv_ix (hn n List.mem_cons_self))) rfl) rfl rfl
theorem laid_cells_ok {ps : Pr} {l : List Str} (h : (ps.map (·.1)).Nodup) (hp : l.Perm (ps.map (·.1))) (hl : ps.length ≤ 1000) : Rets F_laid_cells [.sh (dealD ps l)] (.sh (.dict (kvD (begs 0 (lp ps l))))) := fun src => by
  have ll : l.length ≤ 1000 := by rw [hp.length_eq, List.length_map]; exact hl
  obtain ⟨o1, e⟩ := laid_loop (some (.sh (dealD ps l))) src ps l [] 0 none (fun n hn => hp.mem_iff.mp hn) (by simpa using hp.nodup_iff.mpr h) (by simpa using ll)
  have e1 : cPar [2, 3, 4] (cConsR (cCall1 dDict (vE (cCall1 dList (vE (cBinV dIx 0 (vE (cD (.int 0)))))))) (cConsR cNewD (cConsR (cD (.int 0)) cNil))) ⟨[some (.sh (dealD ps l)), none, none, none, none], src⟩ = .ok .nx ⟨[some (.sh (dealD ps l)), none, some (.own (.dict (kvD ps))), some (.own (.dict (kvD []))), some (.sh (.int 0))], src⟩ :=
    par_ok (consR_ok (known_ok h) rfl)
  exact ⟨_, run_ret (seq_nx e1 (seq_nx (for_ok (ds := shs (l.map .str)) (s1 := ⟨[some (.sh (dealD ps l)), none, some (.own (.dict (kvD ps))), some (.own (.dict (kvD []))), some (.sh (.int 0))], src⟩) rfl e) (ret_ok rfl)))⟩
/-! ### cells -/
theorem dLe_int (i j : Int) : dLe (.int i) (.int j) = some (.sh (.bool (decide (i ≤ j)))) := rfl
theorem dLt_int (i j : Int) : dLt (.int i) (.int j) = some (.sh (.bool (decide (i < j)))) := rfl
theorem dGt_int (i j : Int) : dGt (.int i) (.int j) = some (.sh (.bool (decide (i > j)))) := rfl
def refused (c : Addr) : Ex := ⟨c, exFs ["word", "place"] [.str "cell", .int 0]⟩
theorem cell_let_test {ps : Pr} {l : List Str} {c : Int} {p : SV} {src : Option Src} (hl : ps.length ≤ 1000) : cNot (cT (cChain dLe dLt (cD (.int 0)) (cVar 1) (vE (cCall 1 F_deal_size (cCons (cVar 0) cNil))))) ⟨[some (.sh (dealD ps l)), some (.sh (.int c)), some p], src⟩ = .ok (!decide (0 ≤ c ∧ c < tot ps)) ⟨[some (.sh (dealD ps l)), some (.sh (.int c)), some p], src⟩ := by
  have hd := (deal_size_ok ps l hl).call (n := 1) (ga := cCons (cVar 0) cNil) (s := ⟨[some (.sh (dealD ps l)), some (.sh (.int c)), some p], src⟩) (s1 := ⟨[some (.sh (dealD ps l)), some (.sh (.int c)), some p], src⟩) rfl
  refine not_ok (t_ok ?_)
  by_cases h0 : 0 ≤ c
  · rw [chain_ok (fa := cD (.int 0)) (fb' := cVar 1) (s1 := ⟨[some (.sh (dealD ps l)), some (.sh (.int c)), some p], src⟩) (s2 := ⟨[some (.sh (dealD ps l)), some (.sh (.int c)), some p], src⟩) rfl rfl rfl rfl (by rw [dLe_int, decide_eq_true h0]) (vE_ok hd rfl) (dLt_int _ _)]
    simp [h0]
  · rw [chain_no (fa := cD (.int 0)) (fb' := cVar 1) (s1 := ⟨[some (.sh (dealD ps l)), some (.sh (.int c)), some p], src⟩) (s2 := ⟨[some (.sh (dealD ps l)), some (.sh (.int c)), some p], src⟩) rfl rfl rfl rfl (by rw [dLe_int, decide_eq_false h0])]
    simp [h0]
theorem cell_let_ok (a : Addr) {ps : Pr} {l : List Str} {c : Int} (hl : ps.length ≤ 1000) (h : 0 ≤ c ∧ c < tot ps) : Rets (F_cell_let a) [.sh (dealD ps l), .sh (.int c), .sh (.int 0)] (.sh .none) := fun src =>
  ⟨_, run_nx (ifs_ff ((cell_let_test hl).trans (by rw [decide_eq_true h]; rfl)) rfl)⟩
theorem cell_let_no (a : Addr) {ps : Pr} {l : List Str} {c : Int} (hl : ps.length ≤ 1000) (h : ¬ (0 ≤ c ∧ c < tot ps)) : Excs (F_cell_let a) [.sh (dealD ps l), .sh (.int c), .sh (.int 0)] (refused a) := fun src =>
  ⟨_, run_exc (ifs_tt ((cell_let_test hl).trans (by rw [decide_eq_false h]; rfl)) rfl)⟩
/-- the piece in which a cell lies -/
def pieceAt : Int → Pr → Int → Str
  | _, [], _ => ""
  | b, (n, m) :: r, c => if c < b + m then n else pieceAt (b + m) r c
theorem piece_loop (dl : Option SV) (src : Option Src) (c : Int) : ∀ (ps : Pr) (b : Int) (o3 o4 : Option SV), b ≤ c → c < b + tot ps → ∃ sl, forL (gTp (gsCons (gNm 3) (gsCons (gNm 4) gsNil))) (cSeq (cIfS (cT (cBinV dLt 1 (vE (cBinV dAdd 2 (cVarV 4))))) (cRet (cVar 3)) cSkip) (cAug dAddI 2 (cVarV 4))) (shs (ps.map pD)) ⟨[dl, some (.sh (.int c)), some (.sh (.int b)), o3, o4], src⟩ = .ok (.ret (.sh (.str (pieceAt b ps c)))) ⟨sl, src⟩
  | [], b, o3, o4, h0, h => by simp [tot] at h; omega
  | (n, m) :: ps, b, o3, o4, h0, h => by
    have hc : cT (cBinV dLt 1 (vE (cBinV dAdd 2 (cVarV 4)))) ⟨[dl, some (.sh (.int c)), some (.sh (.int b)), some (.sh (.str n)), some (.sh (.int m))], src⟩ = .ok (decide (c < b + m)) ⟨[dl, some (.sh (.int c)), some (.sh (.int b)), some (.sh (.str n)), some (.sh (.int m))], src⟩ := rfl
    by_cases hb : c < b + m
    · rw [decide_eq_true hb] at hc
      refine ⟨[dl, some (.sh (.int c)), some (.sh (.int b)), some (.sh (.str n)), some (.sh (.int m))], ?_⟩
      have e : pieceAt b ((n, m) :: ps) c = n := by unfold pieceAt; rw [if_pos hb]
      rw [e]
      exact forL_ret (s1 := ⟨[dl, some (.sh (.int c)), some (.sh (.int b)), some (.sh (.str n)), some (.sh (.int m))], src⟩) rfl (seq_ret (ifs_tt hc rfl))
    · rw [decide_eq_false hb] at hc
      obtain ⟨sl, ih⟩ := piece_loop dl src c ps (b + m) (some (.sh (.str n))) (some (.sh (.int m))) (by omega) (by simp [tot] at h ⊢; omega)
      refine ⟨sl, ?_⟩
      have e : pieceAt b ((n, m) :: ps) c = pieceAt (b + m) ps c := by conv => lhs; unfold pieceAt; rw [if_neg hb]
      rw [e]
      exact (forL_step (s1 := ⟨[dl, some (.sh (.int c)), some (.sh (.int b)), some (.sh (.str n)), some (.sh (.int m))], src⟩) (s2 := ⟨[dl, some (.sh (.int c)), some (.sh (.int (b + m))), some (.sh (.str n)), some (.sh (.int m))], src⟩) rfl (seq_nx (ifs_ff hc rfl) rfl)).trans ih
theorem piece_of_ok (a : Addr) {ps : Pr} {l : List Str} {c : Int} (hl : ps.length ≤ 1000) (h : 0 ≤ c ∧ c < tot ps) : Rets (F_piece_of a) [.sh (dealD ps l), .sh (.int c)] (.sh (.str (pieceAt 0 ps c))) := fun src => by
  have h1 := (cell_let_ok a (l := l) hl h).call (n := 3) (ga := cCons (cVar 0) (cCons (cVar 1) (cCons (cD (.int 0)) cNil))) (s := ⟨[some (.sh (dealD ps l)), some (.sh (.int c)), none, none, none], src⟩) (s1 := ⟨[some (.sh (dealD ps l)), some (.sh (.int c)), none, none, none], src⟩) rfl
  obtain ⟨sl, e⟩ := piece_loop (some (.sh (dealD ps l))) src c ps 0 none none h.1 (by simpa using h.2)
  exact ⟨sl, run_ret (seq_nx (expr_ok h1) (seq_nx (s1 := ⟨[some (.sh (dealD ps l)), some (.sh (.int c)), some (.sh (.int 0)), none, none], src⟩) rfl (seq_ret (for_ok (ds := shs (ps.map pD)) (s1 := ⟨[some (.sh (dealD ps l)), some (.sh (.int c)), some (.sh (.int 0)), none, none], src⟩) rfl e))))⟩
theorem piece_of_no (a : Addr) {ps : Pr} {l : List Str} {c : Int} (hl : ps.length ≤ 1000) (h : ¬ (0 ≤ c ∧ c < tot ps)) : Excs (F_piece_of a) [.sh (dealD ps l), .sh (.int c)] (refused a) := fun src => by
  have h1 := (cell_let_no a (l := l) hl h).call (n := 3) (ga := cCons (cVar 0) (cCons (cVar 1) (cCons (cD (.int 0)) cNil))) (s := ⟨[some (.sh (dealD ps l)), some (.sh (.int c)), none, none, none], src⟩) (s1 := ⟨[some (.sh (dealD ps l)), some (.sh (.int c)), none, none, none], src⟩) rfl
  exact ⟨_, run_exc (seq_exc (expr_exc h1))⟩
/-- where a name begins -/
def beg (ps : Pr) (n : Str) : Int := ((begs 0 ps).lookup n).getD 0
theorem beg_ix {ps : Pr} {n : Str} (h : n ∈ ps.map (·.1)) : dIx (.dict (kvD (begs 0 ps))) (.str n) = some (.sh (.int (beg ps n))) := kv_ix (by rw [begs_fst]; exact h)
theorem pieceAt_in : ∀ (ps : Pr) (b c : Int), b ≤ c → c < b + tot ps → pieceAt b ps c ∈ ps.map (·.1)
  | [], b, c, h0, h => by simp [tot] at h; omega
  | (n, m) :: ps, b, c, h0, h => by
    unfold pieceAt
    split
    · simp
    · exact List.mem_cons_of_mem _ (pieceAt_in ps (b + m) c (by omega) (by simp [tot] at h ⊢; omega))
def behind (ps : Pr) (l : List Str) (c : Int) : Int := beg (lp ps l) (pieceAt 0 ps c) + c - beg ps (pieceAt 0 ps c)
theorem lp_fst (ps : Pr) (l : List Str) : (lp ps l).map (·.1) = l := by unfold lp; rw [List.map_map]; exact List.map_id _
theorem cell_behind_ok (a : Addr) {ps : Pr} {l : List Str} {c : Int} (hn : (ps.map (·.1)).Nodup) (hp : l.Perm (ps.map (·.1))) (hl : ps.length ≤ 1000) (h : 0 ≤ c ∧ c < tot ps) : Rets (F_cell_behind a) [.sh (dealD ps l), .sh (.int c)] (.sh (.int (behind ps l c))) := fun src => by
  have h1 := (piece_of_ok a (l := l) hl h).call (n := 2) (ga := cCons (cVar 0) (cCons (cVar 1) cNil)) (s := ⟨[some (.sh (dealD ps l)), some (.sh (.int c)), none], src⟩) (s1 := ⟨[some (.sh (dealD ps l)), some (.sh (.int c)), none], src⟩) rfl
  have hin := pieceAt_in ps 0 c h.1 (by simpa using h.2)
  generalize hs : (⟨[some (.sh (dealD ps l)), some (.sh (.int c)), some (.sh (.str (pieceAt 0 ps c)))], src⟩ : S) = s2
  have h2 := (laid_cells_ok hn hp hl).call (n := 1) (ga := cCons (cVar 0) cNil) (s := s2) (s1 := s2) (by subst hs; rfl)
  have h3 := (first_cells_ok l hn hl).call (n := 1) (ga := cCons (cVar 0) cNil) (s := s2) (s1 := s2) (by subst hs; rfl)
  have i1 : dIx (.dict (kvD (begs 0 (lp ps l)))) (.str (pieceAt 0 ps c)) = some (.sh (.int (beg (lp ps l) (pieceAt 0 ps c)))) := beg_ix (by rw [lp_fst]; exact hp.mem_iff.mpr hin)
  have v2 : cVarV 2 s2 = .ok (.str (pieceAt 0 ps c)) s2 := by subst hs; rfl
  have v1 : cVarV 1 s2 = .ok (.int c) s2 := by subst hs; rfl
  have e4 := binE_ok (g := dIx) h2 v2 rfl i1
  have e5 := binE_ok (g := dIx) h3 v2 rfl (beg_ix hin)
  have e6 := binE_ok (g := dSub) (binE_ok (g := dAdd) e4 v1 rfl rfl) (vE_ok e5 rfl) rfl rfl
  subst hs
  exact ⟨_, run_ret (seq_nx (nm_ok h1) (ret_ok e6))⟩
theorem cell_behind_no (a : Addr) {ps : Pr} {l : List Str} {c : Int} (hl : ps.length ≤ 1000) (h : ¬ (0 ≤ c ∧ c < tot ps)) : Excs (F_cell_behind a) [.sh (dealD ps l), .sh (.int c)] (refused a) := fun src => by
  have h1 := (piece_of_no a (l := l) hl h).call (n := 2) (ga := cCons (cVar 0) (cCons (cVar 1) cNil)) (s := ⟨[some (.sh (dealD ps l)), some (.sh (.int c)), none], src⟩) (s1 := ⟨[some (.sh (dealD ps l)), some (.sh (.int c)), none], src⟩) rfl
  exact ⟨_, run_exc (seq_exc (asg_exc h1))⟩
/-! ### the deal undone -/
theorem und_comp1 (a b : Option SV) (src : Option Src) (ps : Pr) : ∀ (ns : List Str) (acc : List D), (∀ n ∈ ns, n ∈ ps.map (·.1)) → acc.length + ns.length ≤ 1000 → compL (gNm 2) cYes (cTup (cCons (cVar 2) (cCons (cBinV dIx 1 (cVarV 2)) cNil))) [2] (shs (ns.map .str)) acc ⟨[a, some (.own (.dict (kvD ps))), none, b], src⟩ = .ok (acc ++ (lp ps ns).map pD) ⟨[a, some (.own (.dict (kvD ps))), none, b], src⟩
  | [], acc, _, _ => by simp [compL, shs, lp]
  | n :: ns, acc, hn, h => by
    have ih := und_comp1 a b src ps ns (acc ++ [pD (n, sz ps n)]) (fun x hx => hn x (List.mem_cons_of_mem _ hx)) (by simp at h ⊢; omega)
    have h4 : acc.length < sizeLine := by rw [sizeLine_eq]; simp at h; omega
    have he : cTup (cCons (cVar 2) (cCons (cBinV dIx 1 (cVarV 2)) cNil)) ⟨[a, some (.own (.dict (kvD ps))), some (.sh (.str n)), b], src⟩ = .ok (.sh (pD (n, sz ps n))) ⟨[a, some (.own (.dict (kvD ps))), some (.sh (.str n)), b], src⟩ :=
      tup_ok (cons_ok (s1 := ⟨[a, some (.own (.dict (kvD ps))), some (.sh (.str n)), b], src⟩) rfl (cons_ok (binV_ok (i := 1) (s := ⟨[a, some (.own (.dict (kvD ps))), some (.sh (.str n)), b], src⟩) rfl rfl rfl (kv_ix (hn n List.mem_cons_self))) rfl)) rfl (Nat.le_of_ble_eq_true rfl)
    refine (compL_step (g := gNm 2) (d := .sh (.str n)) (s := ⟨[a, some (.own (.dict (kvD ps))), none, b], src⟩) (vs := [2]) rfl he rfl h4).trans ?_
    simp only [List.append_assoc, List.singleton_append] at ih
    exact ih
theorem und_comp2 (a c : Option SV) (src : Option Src) : ∀ (ps : Pr) (acc : List D), acc.length + ps.length ≤ 1000 → compL (gTp (gsCons (gNm 2) (gsCons (gNm 3) gsNil))) cYes (cVar 2) [2, 3] (shs (ps.map pD)) acc ⟨[a, c, none, none], src⟩ = .ok (acc ++ ps.map fun p => .str p.1) ⟨[a, c, none, none], src⟩
  | [], acc, _ => by simp [compL, shs]
  | p :: ps, acc, h => by
    have ih := und_comp2 a c src ps (acc ++ [.str p.1]) (by simp at h ⊢; omega)
    have h4 : acc.length < sizeLine := by rw [sizeLine_eq]; simp at h; omega
    refine (compL_step (g := gTp (gsCons (gNm 2) (gsCons (gNm 3) gsNil))) (d := .sh (pD p)) (f := cVar 2) (s := ⟨[a, c, none, none], src⟩) (s1 := ⟨[a, c, some (.sh (.str p.1)), some (.sh (.int p.2))], src⟩) (vs := [2, 3]) rfl rfl rfl h4).trans ?_
    simp only [List.append_assoc, List.singleton_append] at ih
    exact ih
theorem undone_ok {ps : Pr} {l : List Str} (hn : (ps.map (·.1)).Nodup) (hp : l.Perm (ps.map (·.1))) (hl : ps.length ≤ 1000) : Rets F_deal_undone [.sh (dealD ps l)] (.sh (dealD (lp ps l) (ps.map (·.1)))) := fun src => by
  have ll : l.length ≤ 1000 := by rw [hp.length_eq, List.length_map]; exact hl
  generalize hs : (⟨[some (.sh (dealD ps l)), some (.own (.dict (kvD ps))), none, none], src⟩ : S) = s2
  have c1 : cComp (cIt (cBinV dIx 0 (vE (cD (.int 1))))) (gNm 2) cYes (cTup (cCons (cVar 2) (cCons (cBinV dIx 1 (cVarV 2)) cNil))) [2] s2 = .ok (.own (.list ((lp ps l).map pD))) s2 := by
    subst hs
    exact comp_ok (f := cIt (cBinV dIx 0 (vE (cD (.int 1))))) (s := ⟨[some (.sh (dealD ps l)), some (.own (.dict (kvD ps))), none, none], src⟩) (s1 := ⟨[some (.sh (dealD ps l)), some (.own (.dict (kvD ps))), none, none], src⟩) (vs := [2]) rfl (und_comp1 _ _ src ps l [] (fun n h => hp.mem_iff.mp h) (by simpa using ll))
  have c2 : cComp (cIt (cBinV dIx 0 (vE (cD (.int 0))))) (gTp (gsCons (gNm 2) (gsCons (gNm 3) gsNil))) cYes (cVar 2) [2, 3] s2 = .ok (.own (.list (ps.map fun p => .str p.1))) s2 := by
    subst hs
    exact comp_ok (f := cIt (cBinV dIx 0 (vE (cD (.int 0))))) (s := ⟨[some (.sh (dealD ps l)), some (.own (.dict (kvD ps))), none, none], src⟩) (s1 := ⟨[some (.sh (dealD ps l)), some (.own (.dict (kvD ps))), none, none], src⟩) (vs := [2, 3]) rfl (und_comp2 _ _ src ps [] (by simpa using hl))
  have h9 : PyData.tuple [.tuple ((lp ps l).map pD), .tuple (ps.map fun p => .str p.1)] = dealD (lp ps l) (ps.map (·.1)) := by simp [dealD, psD, Function.comp_def]
  have e := tup_ok (cons_ok (call1_ok (g := dTuple) (vE_ok c1 rfl) rfl) (cons_ok (call1_ok (g := dTuple) (vE_ok c2 rfl) rfl) (show cNil s2 = .ok [] s2 from rfl))) rfl (Nat.le_of_ble_eq_true rfl)
  rw [← h9]
  subst hs
  exact ⟨_, run_ret (seq_nx (nm_ok (known_ok hn)) (ret_ok e))⟩
/-! ### what is asked of a deal -/
structure Deal (ps : Pr) (l : List Str) : Prop where
  nd : (ps.map (·.1)).Nodup
  perm : l.Perm (ps.map (·.1))
  few : ps.length ≤ 1000
  nn : ∀ p ∈ ps, 0 ≤ p.2
theorem lookup_mem' : ∀ {ps : Pr} {p : Str × Int}, (ps.map (·.1)).Nodup → p ∈ ps → ps.lookup p.1 = some p.2 := fun h hp => lookup_mem h hp
theorem sz_mem {ps : Pr} {p : Str × Int} (h : (ps.map (·.1)).Nodup) (hp : p ∈ ps) : sz ps p.1 = p.2 := by unfold sz; rw [lookup_mem h hp]; rfl
theorem lp_self {ps : Pr} (h : (ps.map (·.1)).Nodup) : lp ps (ps.map (·.1)) = ps := by
  unfold lp
  rw [List.map_map]
  conv => rhs; rw [← List.map_id ps]
  exact List.map_congr_left fun p hp => by simp [Function.comp, sz_mem h hp]
theorem lp_perm {ps : Pr} {l : List Str} (d : Deal ps l) : (lp ps l).Perm ps := by
  have := d.perm.map fun n => (n, sz ps n)
  have e : (ps.map (·.1)).map (fun n => (n, sz ps n)) = ps := lp_self d.nd
  rw [e] at this
  exact this
theorem sz_lp {ps : Pr} {l : List Str} (d : Deal ps l) {n : Str} (hn : n ∈ l) : sz (lp ps l) n = sz ps n := by
  have nd2 : ((lp ps l).map (·.1)).Nodup := by rw [lp_fst]; exact d.perm.nodup_iff.mpr d.nd
  exact sz_mem (p := (n, sz ps n)) nd2 (List.mem_map.mpr ⟨n, hn, rfl⟩)
theorem Deal.und {ps : Pr} {l : List Str} (d : Deal ps l) : Deal (lp ps l) (ps.map (·.1)) where
  nd := by rw [lp_fst]; exact d.perm.nodup_iff.mpr d.nd
  perm := by rw [lp_fst]; exact d.perm.symm
  few := by rw [(lp_perm d).length_eq]; exact d.few
  nn := fun p hp => d.nn p ((lp_perm d).mem_iff.mp hp)
theorem Deal.und_und {ps : Pr} {l : List Str} (d : Deal ps l) : lp (lp ps l) (ps.map (·.1)) = ps := by
  have e : lp (lp ps l) (ps.map (·.1)) = lp ps (ps.map (·.1)) := List.map_congr_left fun n hn => by rw [sz_lp d (d.perm.mem_iff.mpr hn)]
  rw [e, lp_self d.nd]
theorem tot_perm {ps qs : Pr} (h : ps.Perm qs) : tot ps = tot qs := by
  unfold tot
  induction h with
  | nil => rfl
  | cons x _ ih => simp [ih]
  | swap x y l => simp; omega
  | trans _ _ h1 h2 => exact h1.trans h2
theorem cell_ahead_ok (a : Addr) {ps : Pr} {l : List Str} {c : Int} (d : Deal ps l) (h : 0 ≤ c ∧ c < tot ps) : Rets (F_cell_ahead a) [.sh (dealD ps l), .sh (.int c)] (.sh (.int (behind (lp ps l) (ps.map (·.1)) c))) := fun src => by
  generalize hs : (⟨[some (.sh (dealD ps l)), some (.sh (.int c))], src⟩ : S) = s2
  have h1 := (undone_ok d.nd d.perm d.few).call (n := 1) (ga := cCons (cVar 0) cNil) (s := s2) (s1 := s2) (by subst hs; rfl)
  have h2 := (cell_behind_ok a d.und.nd d.und.perm d.und.few (c := c) (by rw [tot_perm (lp_perm d)]; exact h)).call (n := 2) (ga := cCons (cCall 1 F_deal_undone (cCons (cVar 0) cNil)) (cCons (cVar 1) cNil)) (s := s2) (s1 := s2) (cons_ok h1 (by subst hs; rfl))
  subst hs
  exact ⟨_, run_ret (ret_ok h2)⟩
theorem cell_ahead_no (a : Addr) {ps : Pr} {l : List Str} {c : Int} (d : Deal ps l) (h : ¬ (0 ≤ c ∧ c < tot ps)) : Excs (F_cell_ahead a) [.sh (dealD ps l), .sh (.int c)] (refused a) := fun src => by
  generalize hs : (⟨[some (.sh (dealD ps l)), some (.sh (.int c))], src⟩ : S) = s2
  have h1 := (undone_ok d.nd d.perm d.few).call (n := 1) (ga := cCons (cVar 0) cNil) (s := s2) (s1 := s2) (by subst hs; rfl)
  have h2 := (cell_behind_no a (l := ps.map (·.1)) d.und.few (c := c) (by rw [tot_perm (lp_perm d)]; exact h)).call (n := 2) (ga := cCons (cCall 1 F_deal_undone (cCons (cVar 0) cNil)) (cCons (cVar 1) cNil)) (s := s2) (s1 := s2) (cons_ok h1 (by subst hs; rfl))
  subst hs
  exact ⟨_, run_exc (ret_exc h2)⟩
/-! ### long numbers -/
theorem is_long_of {n : Int} (h0 : 0 ≤ n) (hb : Builtin.Int.intBits n ≤ 997) (hl : n.natAbs.log2 < 1920) : Rets F_is_long [.sh (.int n)] (.sh (.bool (decide (((Str.ofString (toString n)).length : Int) > 300)))) := fun src => by
  generalize hs : (⟨[some (.sh (.int n))], src⟩ : S) = s2
  have e1 : cBinE dGt (cBits (cVarV 0)) (vE (cD (.int 997))) s2 = .ok (.sh (.bool false)) s2 := by
    subst hs
    refine (show cBinE dGt (cBits (cVarV 0)) (vE (cD (.int 997))) _ = .ok (.sh (.bool (decide (((Builtin.Int.intBits n : Nat) : Int) > 997)))) _ from rfl).trans ?_
    rw [decide_eq_false (by omega)]
  have z1 : (Str.ofString (toString n)).length ≤ sizeLine := int_text_fits hl
  have e2 : cCall1 dAbs (cVarV 0) s2 = .ok (.sh (.int n)) s2 := by
    subst hs
    refine call1_ok (show cVarV 0 _ = .ok (.int n) _ from rfl) ?_
    simp only [dAbs, if_neg (show ¬ n < 0 by omega)]
  have e3 := call1_ok (g := dStr) (vE_ok e2 rfl) (show dStr (.int n) = some (.sh (.str (Str.ofString (toString n)))) by simp only [dStr, if_pos hl])
  have e4 := call1_ok (g := dLen) (vE_ok e3 rfl) (show dLen (.str (Str.ofString (toString n))) = some (.sh (.int (Str.ofString (toString n)).length)) by simp only [dLen, if_pos z1])
  have e5 := binE_ok (g := dGt) e4 (show vE (cD (.int 300)) s2 = .ok (.int 300) s2 from rfl) rfl (dGt_int _ _)
  have e6 := ret_ok (orV_ff e1 e5)
  subst hs
  exact ⟨_, run_ret e6⟩
theorem ten300 : (10 : Int) ^ 300 < 2 ^ 997 := by decide +kernel
theorem bits300 {n : Int} (h0 : 0 ≤ n) (h : n ≤ 10 ^ 300) : Builtin.Int.intBits n ≤ 997 ∧ n.natAbs.log2 < 1920 := by
  have h2 : n.natAbs < 2 ^ 997 := by
    have : n < 2 ^ 997 := Int.lt_of_le_of_lt h ten300
    have e2 : ((2 ^ 997 : Nat) : Int) = 2 ^ 997 := by decide +kernel
    omega
  refine ⟨PyProof.Rows.intBits_le h2, ?_⟩
  by_cases hz : n.natAbs = 0
  · rw [hz]; decide
  · exact Nat.lt_trans ((Nat.log2_lt hz).mpr h2) (by decide)
theorem is_long_no {n : Int} (h0 : 0 ≤ n) (h : n < 10 ^ 300) : Rets F_is_long [.sh (.int n)] (.sh (.bool false)) := by
  obtain ⟨hb, hl⟩ := bits300 h0 (Int.le_of_lt h)
  have hs : (Str.ofString (toString n)).length ≤ 300 := PyProof.Rows.toString_length_le h0 (by decide) h
  have := is_long_of h0 hb hl
  rwa [decide_eq_false (show ¬ (((Str.ofString (toString n)).length : Int) > 300) by omega)] at this
theorem is_long_yes : Rets F_is_long [.sh (.int (10 ^ 300))] (.sh (.bool true)) := by
  obtain ⟨hb, hl⟩ := bits300 (n := 10 ^ 300) (by decide +kernel) (Int.le_refl _)
  have := is_long_of (n := 10 ^ 300) (by decide +kernel) hb hl
  have hs : (Str.ofString (toString ((10 : Int) ^ 300))).length = 301 := by decide +kernel
  rwa [hs] at this
theorem number_made_ok (a : Addr) {n : Int} (h0 : 0 ≤ n) (h : n < 10 ^ 300) : Rets (F_number_made a) [.sh (.int n)] (.sh (.int n)) := fun src => by
  have h1 := (is_long_no h0 h).call (n := 1) (ga := cCons (cVar 0) cNil) (s := ⟨[some (.sh (.int n))], src⟩) (s1 := ⟨[some (.sh (.int n))], src⟩) rfl
  exact ⟨_, run_ret (seq_nx (ifs_ff (t_ok h1) rfl) (ret_ok rfl))⟩
def tooGreat (c : Addr) : Ex := ⟨c, exFs ["number"] [.int 0]⟩
theorem number_made_no (a : Addr) : Excs (F_number_made a) [.sh (.int (10 ^ 300))] (tooGreat a) := fun src => by
  have h1 := is_long_yes.call (n := 1) (ga := cCons (cVar 0) cNil) (s := ⟨[some (.sh (.int (10 ^ 300)))], src⟩) (s1 := ⟨[some (.sh (.int (10 ^ 300)))], src⟩) rfl
  exact ⟨_, run_exc (seq_exc (ifs_tt (t_ok h1) rfl))⟩
theorem deal_made_ok (a : Addr) {ps : Pr} {l : List Str} (hl : ps.length ≤ 1000) (h0 : 0 ≤ tot ps) (h : tot ps < 10 ^ 300) : Rets (F_deal_made a) [.sh (dealD ps l)] (.sh (dealD ps l)) := fun src => by
  have h1 := (deal_size_ok ps l hl).call (n := 1) (ga := cCons (cVar 0) cNil) (s := ⟨[some (.sh (dealD ps l))], src⟩) (s1 := ⟨[some (.sh (dealD ps l))], src⟩) rfl
  have h2 := (number_made_ok a h0 h).call (n := 1) (cons_ok h1 (show cNil _ = .ok [] _ from rfl))
  exact ⟨_, run_ret (seq_nx (expr_ok h2) (ret_ok rfl))⟩
theorem deal_made_no (a : Addr) {ps : Pr} {l : List Str} (hl : ps.length ≤ 1000) (h : tot ps = 10 ^ 300) : Excs (F_deal_made a) [.sh (dealD ps l)] (tooGreat a) := fun src => by
  have h1 := (deal_size_ok ps l hl).call (n := 1) (ga := cCons (cVar 0) cNil) (s := ⟨[some (.sh (dealD ps l))], src⟩) (s1 := ⟨[some (.sh (dealD ps l))], src⟩) rfl
  rw [h] at h1
  have h2 := (number_made_no a).call (n := 1) (cons_ok h1 (show cNil _ = .ok [] _ from rfl))
  exact ⟨_, run_exc (seq_exc (expr_exc h2))⟩
/-! ### the law's own reading of a deal -/
theorem begins_loop (dl : Option SV) (src : Option Src) : ∀ (ps acc : Pr) (b : Int) (o3 o4 : Option SV), (acc.map (·.1) ++ ps.map (·.1)).Nodup → acc.length + ps.length ≤ 1000 → ∃ o3' o4', forL (gTp (gsCons (gNm 3) (gsCons (gNm 4) gsNil))) (cSeq (cSetIx 1 (cVarV 3) (cVar 2)) (cAsg (cBinV dAdd 2 (cVarV 4)) (gNm 2))) (shs (ps.map pD)) ⟨[dl, some (.own (.dict (kvD acc))), some (.sh (.int b)), o3, o4], src⟩ = .ok .nx ⟨[dl, some (.own (.dict (kvD (acc ++ begs b ps)))), some (.sh (.int (b + tot ps))), o3', o4'], src⟩
  | [], acc, b, o3, o4, _, _ => ⟨o3, o4, by simp [forL, shs, begs, tot]⟩
  | (n, m) :: ps, acc, b, o3, o4, h, hl => by
    have h1 : n ∉ acc.map (·.1) := by
      simp only [List.map_cons, List.nodup_append] at h
      exact fun z => h.2.2 _ z _ List.mem_cons_self rfl
    obtain ⟨o3', o4', ih⟩ := begins_loop dl src ps (acc ++ [(n, b)]) (b + m) (some (.sh (.str n))) (some (.sh (.int m))) (by simpa using h) (by simp at hl ⊢; omega)
    refine ⟨o3', o4', ?_⟩
    have e2 : b + m + tot ps = b + tot ((n, m) :: ps) := by simp [tot, Int.add_assoc]
    rw [e2, List.append_assoc] at ih
    refine (forL_step (s1 := ⟨[dl, some (.own (.dict (kvD acc))), some (.sh (.int b)), some (.sh (.str n)), some (.sh (.int m))], src⟩) (s2 := ⟨[dl, some (.own (.dict (kvD (acc ++ [(n, b)])))), some (.sh (.int (b + m))), some (.sh (.str n)), some (.sh (.int m))], src⟩) rfl ?_).trans ih
    refine seq_nx (setIx_ok (f := cVar 2) (fk := cVarV 3) (i := 1) (s1 := ⟨[dl, some (.own (.dict (kvD acc))), some (.sh (.int b)), some (.sh (.str n)), some (.sh (.int m))], src⟩) rfl rfl rfl rfl rfl (kv_set n b acc h1 (by simp at hl; omega))) ?_
    rfl
theorem begins_ok {ps : Pr} {d : D} (hd : itemsOf d = some (ps.map pD)) (h : (ps.map (·.1)).Nodup) (hl : ps.length ≤ 1000) : Rets F_law_begins [.sh d] (.sh (.dict (kvD (begs 0 ps)))) := fun src => by
  obtain ⟨o3, o4, e⟩ := begins_loop (some (.sh d)) src ps [] 0 none none (by simpa using h) (by simpa using hl)
  have ei : cIt (cVar 0) ⟨[some (.sh d), some (.own (.dict (kvD []))), some (.sh (.int 0)), none, none], src⟩ = .ok (shs (ps.map pD)) ⟨[some (.sh d), some (.own (.dict (kvD []))), some (.sh (.int 0)), none, none], src⟩ := by
    refine (show cIt (cVar 0) _ = Res.opt ((itemsOf d).map shs) _ from rfl).trans ?_
    rw [hd]
    rfl
  exact ⟨_, run_ret (seq_nx (s1 := ⟨[some (.sh d), some (.own (.dict (kvD []))), some (.sh (.int 0)), none, none], src⟩) rfl (seq_nx (for_ok ei e) (ret_ok rfl)))⟩
/-- the cells' places, the cells' letters -/
def spread (f : Str → Int) (ps : Pr) : List Int := ps.flatMap fun p => (List.range p.2.toNat).map fun (k : Nat) => f p.1 + k
def lettersOf (ps : Pr) : List Str := ps.flatMap fun p => List.replicate p.2.toNat p.1
def goesD (ps : Pr) (l : List Str) : List D := (spread (beg (lp ps l)) ps).map .int
theorem goes_loop1 (dl o3 o4 o7 o8 : Option SV) (src : Option Src) (ps : Pr) : ∀ (ns : List Str) (acc : Pr) (b : Int) (o1 : Option SV), (∀ n ∈ ns, n ∈ ps.map (·.1)) → (acc.map (·.1) ++ ns).Nodup → acc.length + ns.length ≤ 1000 → ∃ o1', forL (gNm 1) (cSeq (cSetIx 5 (cVarV 1) (cVar 6)) (cAsg (cBinV dAdd 6 (vE (cBinV dIx 2 (cVarV 1)))) (gNm 6))) (shs (ns.map .str)) ⟨[dl, o1, some (.own (.dict (kvD ps))), o3, o4, some (.own (.dict (kvD acc))), some (.sh (.int b)), o7, o8], src⟩ = .ok .nx ⟨[dl, o1', some (.own (.dict (kvD ps))), o3, o4, some (.own (.dict (kvD (acc ++ begs b (lp ps ns))))), some (.sh (.int (b + tot (lp ps ns)))), o7, o8], src⟩
  | [], acc, b, o1, _, _, _ => ⟨o1, by simp [forL, shs, begs, tot, lp]⟩
  | n :: ns, acc, b, o1, hn, h, hl => by
    have h1 : n ∉ acc.map (·.1) := by
      simp only [List.nodup_append] at h
      exact fun z => h.2.2 _ z _ List.mem_cons_self rfl
    obtain ⟨o1', ih⟩ := goes_loop1 dl o3 o4 o7 o8 src ps ns (acc ++ [(n, b)]) (b + sz ps n) (some (.sh (.str n))) (fun x hx => hn x (List.mem_cons_of_mem _ hx)) (by simpa using h) (by simp at hl ⊢; omega)
    refine ⟨o1', ?_⟩
    have e2 : b + sz ps n + tot (lp ps ns) = b + tot (lp ps (n :: ns)) := by simp [tot, lp, Int.add_assoc]
    rw [e2, List.append_assoc] at ih
    refine (forL_step (s1 := ⟨[dl, some (.sh (.str n)), some (.own (.dict (kvD ps))), o3, o4, some (.own (.dict (kvD acc))), some (.sh (.int b)), o7, o8], src⟩) (s2 := ⟨[dl, some (.sh (.str n)), some (.own (.dict (kvD ps))), o3, o4, some (.own (.dict (kvD (acc ++ [(n, b)])))), some (.sh (.int (b + sz ps n))), o7, o8], src⟩) rfl ?_).trans ih
    refine seq_nx (setIx_ok (f := cVar 6) (fk := cVarV 1) (i := 5) (s1 := ⟨[dl, some (.sh (.str n)), some (.own (.dict (kvD ps))), o3, o4, some (.own (.dict (kvD acc))), some (.sh (.int b)), o7, o8], src⟩) rfl rfl rfl rfl rfl (kv_set n b acc h1 (by simp at hl; omega))) ?_
    exact nm_ok (binV_ok (i := 6) (s := ⟨[dl, some (.sh (.str n)), some (.own (.dict (kvD ps))), o3, o4, some (.own (.dict (kvD (acc ++ [(n, b)])))), some (.sh (.int b)), o7, o8], src⟩) rfl (vE_ok (binV_ok (i := 2) (s := ⟨[dl, some (.sh (.str n)), some (.own (.dict (kvD ps))), o3, o4, some (.own (.dict (kvD (acc ++ [(n, b)])))), some (.sh (.int b)), o7, o8], src⟩) rfl rfl rfl (kv_ix (hn n List.mem_cons_self))) rfl) rfl rfl)
theorem goes_comp (dl o2 o3 o4 o6 o7 : Option SV) (src : Option Src) (qs : Pr) (n : Str) (hn : n ∈ qs.map (·.1)) : ∀ (ks : List Int) (acc : List D), acc.length + ks.length ≤ 1000000 → compL (gNm 8) cYes (cBinE dAdd (cBinV dIx 5 (cVarV 1)) (cVarV 8)) [8] (shs (ks.map .int)) acc ⟨[dl, some (.sh (.str n)), o2, o3, o4, some (.own (.dict (kvD (begs 0 qs)))), o6, o7, none], src⟩ = .ok (acc ++ ks.map fun k => .int (beg qs n + k)) ⟨[dl, some (.sh (.str n)), o2, o3, o4, some (.own (.dict (kvD (begs 0 qs)))), o6, o7, none], src⟩
  | [], acc, _ => by simp [compL, shs]
  | k :: ks, acc, h => by
    have ih := goes_comp dl o2 o3 o4 o6 o7 src qs n hn ks (acc ++ [.int (beg qs n + k)]) (by simp at h ⊢; omega)
    have h4 : acc.length < sizeLine := by rw [sizeLine_eq]; simp at h; omega
    have he : cBinE dAdd (cBinV dIx 5 (cVarV 1)) (cVarV 8) ⟨[dl, some (.sh (.str n)), o2, o3, o4, some (.own (.dict (kvD (begs 0 qs)))), o6, o7, some (.sh (.int k))], src⟩ = .ok (.sh (.int (beg qs n + k))) ⟨[dl, some (.sh (.str n)), o2, o3, o4, some (.own (.dict (kvD (begs 0 qs)))), o6, o7, some (.sh (.int k))], src⟩ :=
      binE_ok (binV_ok (i := 5) (s := ⟨[dl, some (.sh (.str n)), o2, o3, o4, some (.own (.dict (kvD (begs 0 qs)))), o6, o7, some (.sh (.int k))], src⟩) rfl rfl rfl (beg_ix hn)) rfl rfl rfl
    refine (compL_step (g := gNm 8) (d := .sh (.int k)) (s := ⟨[dl, some (.sh (.str n)), o2, o3, o4, some (.own (.dict (kvD (begs 0 qs)))), o6, o7, none], src⟩) (vs := [8]) rfl he rfl h4).trans ?_
    simp only [List.append_assoc, List.singleton_append] at ih
    exact ih
theorem rep_one {α : Type} (x : α) : ∀ n : Nat, (List.replicate n [x]).flatten = List.replicate n x
  | 0 => rfl
  | n + 1 => by rw [List.replicate_succ, List.replicate_succ, List.flatten_cons, rep_one x n]; rfl
theorem tot_nn {ps : Pr} (h : ∀ p ∈ ps, 0 ≤ p.2) : 0 ≤ tot ps := by
  induction ps with
  | nil => exact Int.le_refl _
  | cons p ps ih =>
    have h1 := h p List.mem_cons_self
    have h2 := ih fun q hq => h q (List.mem_cons_of_mem _ hq)
    simp only [tot, List.map_cons, List.sum_cons] at h2 ⊢
    omega
theorem goes_loop2 (dl o2 o6 : Option SV) (src : Option Src) (L : Pr) : ∀ (qs : Pr) (gs : List Int) (ls : List Str) (o1 o7 o8 : Option SV), (∀ p ∈ qs, p.1 ∈ L.map (·.1)) → (∀ p ∈ qs, 0 ≤ p.2) → (gs.length : Int) + tot qs ≤ 1000000 → ls.length = gs.length →
    ∃ o1' o7' o8', forL (gTp (gsCons (gNm 1) (gsCons (gNm 7) gsNil))) (cSeq (cAsg (cBinV dAdd 3 (vE (cComp (cRange1 (cCons (cVar 7) cNil)) (gNm 8) cYes (cBinE dAdd (cBinV dIx 5 (cVarV 1)) (cVarV 8)) [8]))) (gNm 3)) (cAsg (cBinV dAdd 4 (vE (cBinE dMul (cLst (cCons (cVar 1) cNil)) (cVarV 7)))) (gNm 4))) (shs (qs.map pD)) ⟨[dl, o1, o2, some (.own (.list (gs.map .int))), some (.own (.list (ls.map .str))), some (.own (.dict (kvD (begs 0 L)))), o6, o7, o8], src⟩ =
      .ok .nx ⟨[dl, o1', o2, some (.own (.list ((gs ++ spread (beg L) qs).map .int))), some (.own (.list ((ls ++ lettersOf qs).map .str))), some (.own (.dict (kvD (begs 0 L)))), o6, o7', o8'], src⟩
  | [], gs, ls, o1, o7, o8, _, _, _, _ => ⟨o1, o7, o8, by simp [forL, shs, spread, lettersOf]⟩
  | (n, m) :: qs, gs, ls, o1, o7, o8, hL, h0, hT, hlen => by
    have hm0 : 0 ≤ m := h0 (n, m) List.mem_cons_self
    have ht0 := tot_nn fun p hp => h0 p (List.mem_cons_of_mem _ hp)
    have hTT : tot ((n, m) :: qs) = m + tot qs := by simp [tot]
    have hn := hL (n, m) List.mem_cons_self
    let ks : List Int := (List.range m.toNat).map fun (i : Nat) => 0 + (i : Int)
    have hk : ks.length = m.toNat := by simp [ks]
    have hspr : spread (beg L) ((n, m) :: qs) = (ks.map fun k => beg L n + k) ++ spread (beg L) qs := by
      simp only [spread, List.flatMap_cons, ks, List.map_map]
      congr 1
      exact List.map_congr_left fun i _ => by simp
    have hlet : lettersOf ((n, m) :: qs) = List.replicate m.toNat n ++ lettersOf qs := by simp [lettersOf]
    obtain ⟨o1', o7', o8', ih⟩ := goes_loop2 dl o2 o6 src L qs (gs ++ ks.map fun k => beg L n + k) (ls ++ List.replicate m.toNat n) (some (.sh (.str n))) (some (.sh (.int m))) o8 (fun p hp => hL p (List.mem_cons_of_mem _ hp)) (fun p hp => h0 p (List.mem_cons_of_mem _ hp)) (by simp [hk]; omega) (by simp [hk, hlen])
    refine ⟨o1', o7', o8', ?_⟩
    rw [List.append_assoc, ← hspr, List.append_assoc, ← hlet] at ih
    generalize hs : (⟨[dl, some (.sh (.str n)), o2, some (.own (.list (gs.map .int))), some (.own (.list (ls.map .str))), some (.own (.dict (kvD (begs 0 L)))), o6, some (.sh (.int m)), o8], src⟩ : S) = sA
    generalize hs2 : (⟨[dl, some (.sh (.str n)), o2, some (.own (.list ((gs ++ ks.map fun k => beg L n + k).map .int))), some (.own (.list (ls.map .str))), some (.own (.dict (kvD (begs 0 L)))), o6, some (.sh (.int m)), o8], src⟩ : S) = sB
    have er : cRange1 (cCons (cVar 7) cNil) sA = .ok (shs (ks.map .int)) sA := by
      subst hs
      refine (show cRange1 (cCons (cVar 7) cNil) _ = (if -(2 ^ 62) ≤ m ∧ m < 2 ^ 62 then Res.ok (shs (rgD 0 m.toNat)) _ else .err) from rfl).trans ?_
      rw [if_pos (by omega)]
      simp only [rgD, ks, List.map_map]
      rfl
    have ec : cComp (cRange1 (cCons (cVar 7) cNil)) (gNm 8) cYes (cBinE dAdd (cBinV dIx 5 (cVarV 1)) (cVarV 8)) [8] sA = .ok (.own (.list (ks.map fun k => .int (beg L n + k)))) sA := by
      subst hs
      exact comp_ok (vs := [8]) er (goes_comp dl o2 _ _ o6 _ src L n hn ks [] (by simp [hk]; omega))
    have e3 : cAsg (cBinV dAdd 3 (vE (cComp (cRange1 (cCons (cVar 7) cNil)) (gNm 8) cYes (cBinE dAdd (cBinV dIx 5 (cVarV 1)) (cVarV 8)) [8]))) (gNm 3) sA = .ok .nx sB := by
      have z : dAdd (.list (gs.map .int)) (.list (ks.map fun k => .int (beg L n + k))) = some (.own (.list ((gs ++ ks.map fun k => beg L n + k).map .int))) := by
        simp only [dAdd, List.length_map]
        rw [if_pos (by rw [sizeLine_eq, hk]; omega)]
        simp
      have ec' := vE_ok ec rfl
      subst hs hs2
      exact nm_ok (binV_ok (i := 3) rfl ec' rfl z)
    have e4 : cAsg (cBinV dAdd 4 (vE (cBinE dMul (cLst (cCons (cVar 1) cNil)) (cVarV 7)))) (gNm 4) sB = .ok .nx ⟨[dl, some (.sh (.str n)), o2, some (.own (.list ((gs ++ ks.map fun k => beg L n + k).map .int))), some (.own (.list ((ls ++ List.replicate m.toNat n).map .str))), some (.own (.dict (kvD (begs 0 L)))), o6, some (.sh (.int m)), o8], src⟩ := by
      have z1 : dMul (.list [.str n]) (.int m) = some (.own (.list (List.replicate m.toNat (.str n)))) := by
        simp only [dMul, List.length_cons, List.length_nil]
        rw [if_pos (by rw [sizeLine_eq]; omega), rep_one]
      have z2 : dAdd (.list (ls.map .str)) (.list (List.replicate m.toNat (.str n))) = some (.own (.list ((ls ++ List.replicate m.toNat n).map .str))) := by
        simp only [dAdd, List.length_map, List.length_replicate]
        rw [if_pos (by rw [sizeLine_eq, hlen]; omega)]
        simp
      subst hs2
      exact nm_ok (binV_ok (i := 4) (s := ⟨[dl, some (.sh (.str n)), o2, some (.own (.list ((gs ++ ks.map fun k => beg L n + k).map .int))), some (.own (.list (ls.map .str))), some (.own (.dict (kvD (begs 0 L)))), o6, some (.sh (.int m)), o8], src⟩) rfl (vE_ok (binE_ok (fa := cLst (cCons (cVar 1) cNil)) (s := ⟨[dl, some (.sh (.str n)), o2, some (.own (.list ((gs ++ ks.map fun k => beg L n + k).map .int))), some (.own (.list (ls.map .str))), some (.own (.dict (kvD (begs 0 L)))), o6, some (.sh (.int m)), o8], src⟩) rfl rfl rfl z1) rfl) rfl z2)
    refine (forL_step (s1 := sA) (by subst hs; rfl) (seq_nx e3 e4)).trans ih
theorem law_goes_ok {ps : Pr} {l : List Str} (d : Deal ps l) (hT : tot ps ≤ 1000000) : Rets F_law_goes [.sh (dealD ps l)] (.sh (.tuple [.list (goesD ps l), .list ((lettersOf ps).map .str)])) := fun src => by
  have ll : l.length ≤ 1000 := by rw [d.perm.length_eq, List.length_map]; exact d.few
  obtain ⟨o1, h1⟩ := goes_loop1 (some (.sh (dealD ps l))) (some (.own (.list []))) (some (.own (.list []))) none none src ps l [] 0 none (fun n hn => d.perm.mem_iff.mp hn) (by simpa using d.perm.nodup_iff.mpr d.nd) (by simpa using ll)
  obtain ⟨p1, p7, p8, h2⟩ := goes_loop2 (some (.sh (dealD ps l))) (some (.own (.dict (kvD ps)))) (some (.sh (.int (0 + tot (lp ps l))))) src (lp ps l) ps [] [] o1 none none (fun p hp => by rw [lp_fst]; exact d.perm.mem_iff.mpr (List.mem_map_of_mem hp)) d.nn (by simpa using hT) rfl
  have e1 : cPar [2, 3, 4, 5, 6] (cConsR (cCall1 dDict (vE (cCall1 dList (vE (cBinV dIx 0 (vE (cD (.int 0)))))))) (cConsR (cLst cNil) (cConsR (cLst cNil) (cConsR cNewD (cConsR (cD (.int 0)) cNil))))) ⟨[some (.sh (dealD ps l)), none, none, none, none, none, none, none, none], src⟩ = .ok .nx ⟨[some (.sh (dealD ps l)), none, some (.own (.dict (kvD ps))), some (.own (.list [])), some (.own (.list [])), some (.own (.dict (kvD []))), some (.sh (.int 0)), none, none], src⟩ :=
    par_ok (consR_ok (known_ok d.nd) rfl)
  exact ⟨_, run_ret (seq_nx e1 (seq_nx (for_ok (ds := shs (l.map .str)) (s1 := ⟨[some (.sh (dealD ps l)), none, some (.own (.dict (kvD ps))), some (.own (.list [])), some (.own (.list [])), some (.own (.dict (kvD []))), some (.sh (.int 0)), none, none], src⟩) rfl h1) (seq_nx (for_ok (ds := shs (ps.map pD)) (s1 := ⟨[some (.sh (dealD ps l)), o1, some (.own (.dict (kvD ps))), some (.own (.list [])), some (.own (.list [])), some (.own (.dict (kvD ([] ++ begs 0 (lp ps l))))), some (.sh (.int (0 + tot (lp ps l)))), none, none], src⟩) rfl h2) (ret_ok rfl))))⟩
/-! ### the full pieces -/
def fullP (ps : Pr) : Pr := ps.filter fun p => decide (p.2 > 0)
def fullL (ps : Pr) (l : List Str) : List Str := l.filter fun n => decide (sz ps n > 0)
theorem full_comp (a : Option SV) (src : Option Src) : ∀ (ps : Pr) (acc : List D), acc.length + ps.length ≤ 1000 → compL (gTp (gsCons (gNm 1) (gsCons (gNm 2) gsNil))) (cT (cBinV dGt 2 (vE (cD (.int 0))))) (cTup (cCons (cVar 1) (cCons (cVar 2) cNil))) [1, 2] (shs (ps.map pD)) acc ⟨[a, none, none], src⟩ = .ok (acc ++ (fullP ps).map pD) ⟨[a, none, none], src⟩
  | [], acc, _ => by simp [compL, shs, fullP]
  | p :: ps, acc, h => by
    have h4 : acc.length < sizeLine := by rw [sizeLine_eq]; simp at h; omega
    have hc : cT (cBinV dGt 2 (vE (cD (.int 0)))) ⟨[a, some (.sh (.str p.1)), some (.sh (.int p.2))], src⟩ = .ok (decide (p.2 > 0)) ⟨[a, some (.sh (.str p.1)), some (.sh (.int p.2))], src⟩ := rfl
    by_cases hp : p.2 > 0
    · have ih := full_comp a src ps (acc ++ [pD p]) (by simp at h ⊢; omega)
      rw [decide_eq_true hp] at hc
      have e : fullP (p :: ps) = p :: fullP ps := by simp [fullP, hp]
      rw [e]
      refine (compL_keep (g := gTp (gsCons (gNm 1) (gsCons (gNm 2) gsNil))) (d := .sh (pD p)) (s := ⟨[a, none, none], src⟩) (vs := [1, 2]) rfl hc (tup_ok (ga := cCons (cVar 1) (cCons (cVar 2) cNil)) rfl rfl (Nat.le_of_ble_eq_true rfl)) rfl h4).trans ?_
      simp only [List.append_assoc, List.singleton_append] at ih
      exact ih
    · have ih := full_comp a src ps acc (by simp at h ⊢; omega)
      rw [decide_eq_false hp] at hc
      have e : fullP (p :: ps) = fullP ps := by simp [fullP, hp]
      rw [e]
      exact (compL_drop (g := gTp (gsCons (gNm 1) (gsCons (gNm 2) gsNil))) (d := .sh (pD p)) (s := ⟨[a, none, none], src⟩) (vs := [1, 2]) rfl hc).trans ih
theorem full_pieces_ok {ps : Pr} (l : List Str) (hl : ps.length ≤ 1000) : Rets F_full_pieces [.sh (dealD ps l)] (.sh (psD (fullP ps))) := fun src => by
  have c := comp_ok (f := cIt (cBinV dIx 0 (vE (cD (.int 0))))) (s := ⟨[some (.sh (dealD ps l)), none, none], src⟩) (s1 := ⟨[some (.sh (dealD ps l)), none, none], src⟩) (vs := [1, 2]) rfl (full_comp (some (.sh (dealD ps l))) src ps [] (by simpa using hl))
  exact ⟨_, run_ret (ret_ok (call1_ok (g := dTuple) (vE_ok c rfl) rfl))⟩
theorem fulll_comp (a : Option SV) (src : Option Src) (ps : Pr) : ∀ (ns : List Str) (acc : List D), (∀ n ∈ ns, n ∈ ps.map (·.1)) → acc.length + ns.length ≤ 1000 → compL (gNm 2) (cT (cBinE dGt (cBinV dIx 1 (cVarV 2)) (vE (cD (.int 0))))) (cVar 2) [2] (shs (ns.map .str)) acc ⟨[a, some (.own (.dict (kvD ps))), none], src⟩ = .ok (acc ++ (fullL ps ns).map .str) ⟨[a, some (.own (.dict (kvD ps))), none], src⟩
  | [], acc, _, _ => by simp [compL, shs, fullL]
  | n :: ns, acc, hn, h => by
    have h4 : acc.length < sizeLine := by rw [sizeLine_eq]; simp at h; omega
    have hc : cT (cBinE dGt (cBinV dIx 1 (cVarV 2)) (vE (cD (.int 0)))) ⟨[a, some (.own (.dict (kvD ps))), some (.sh (.str n))], src⟩ = .ok (decide (sz ps n > 0)) ⟨[a, some (.own (.dict (kvD ps))), some (.sh (.str n))], src⟩ :=
      t_ok (binE_ok (binV_ok (i := 1) (s := ⟨[a, some (.own (.dict (kvD ps))), some (.sh (.str n))], src⟩) rfl rfl rfl (kv_ix (hn n List.mem_cons_self))) rfl rfl (dGt_int _ _))
    by_cases hp : sz ps n > 0
    · have ih := fulll_comp a src ps ns (acc ++ [.str n]) (fun x hx => hn x (List.mem_cons_of_mem _ hx)) (by simp at h ⊢; omega)
      rw [decide_eq_true hp] at hc
      have e : fullL ps (n :: ns) = n :: fullL ps ns := by simp [fullL, hp]
      rw [e]
      refine (compL_keep (g := gNm 2) (d := .sh (.str n)) (s := ⟨[a, some (.own (.dict (kvD ps))), none], src⟩) (vs := [2]) rfl hc (show cVar 2 _ = _ from rfl) rfl h4).trans ?_
      simp only [List.append_assoc, List.singleton_append] at ih
      exact ih
    · have ih := fulll_comp a src ps ns acc (fun x hx => hn x (List.mem_cons_of_mem _ hx)) (by simp at h ⊢; omega)
      rw [decide_eq_false hp] at hc
      have e : fullL ps (n :: ns) = fullL ps ns := by simp [fullL, hp]
      rw [e]
      exact (compL_drop (g := gNm 2) (d := .sh (.str n)) (s := ⟨[a, some (.own (.dict (kvD ps))), none], src⟩) (vs := [2]) rfl hc).trans ih
theorem deal_full_ok {ps : Pr} {l : List Str} (d : Deal ps l) : Rets F_deal_full [.sh (dealD ps l)] (.sh (dealD (fullP ps) (fullL ps l))) := fun src => by
  have ll : l.length ≤ 1000 := by rw [d.perm.length_eq, List.length_map]; exact d.few
  generalize hs : (⟨[some (.sh (dealD ps l)), some (.own (.dict (kvD ps))), none], src⟩ : S) = s2
  have h1 := (full_pieces_ok (ps := ps) l d.few).call (n := 1) (ga := cCons (cVar 0) cNil) (s := s2) (s1 := s2) (by subst hs; rfl)
  have c2 : cComp (cIt (cBinV dIx 0 (vE (cD (.int 1))))) (gNm 2) (cT (cBinE dGt (cBinV dIx 1 (cVarV 2)) (vE (cD (.int 0))))) (cVar 2) [2] s2 = .ok (.own (.list ((fullL ps l).map .str))) s2 := by
    subst hs
    exact comp_ok (f := cIt (cBinV dIx 0 (vE (cD (.int 1))))) (s := ⟨[some (.sh (dealD ps l)), some (.own (.dict (kvD ps))), none], src⟩) (s1 := ⟨[some (.sh (dealD ps l)), some (.own (.dict (kvD ps))), none], src⟩) (vs := [2]) rfl (fulll_comp _ src ps l [] (fun n h => d.perm.mem_iff.mp h) (by simpa using ll))
  have e := tup_ok (cons_ok h1 (cons_ok (call1_ok (g := dTuple) (vE_ok c2 rfl) rfl) (show cNil s2 = .ok [] s2 from rfl))) rfl (Nat.le_of_ble_eq_true rfl)
  subst hs
  exact ⟨_, run_ret (seq_nx (nm_ok (known_ok d.nd)) (ret_ok e))⟩
end Law
end Pw
set_option Elab.async false
set_option linter.all false
set_option maxRecDepth 100000
namespace Pw
namespace Law
open PySem PySem.Spec PyProof.Rows L2
/-! ### the mathematics -/
theorem tot_app (a b : Pr) : tot (a ++ b) = tot a + tot b := by simp [tot]
theorem tot_cons (p : Str × Int) (b : Pr) : tot (p :: b) = p.2 + tot b := by simp [tot]
theorem locate : ∀ (ps : Pr) (b c : Int), b ≤ c → c < b + tot ps → ∃ pre n m post, ps = pre ++ (n, m) :: post ∧ pieceAt b ps c = n ∧ b + tot pre ≤ c ∧ c < b + tot pre + m
  | [], b, c, h0, h => by simp [tot] at h; omega
  | (n, m) :: ps, b, c, h0, h => by
    rw [tot_cons] at h
    unfold pieceAt
    by_cases hb : c < b + m
    · exact ⟨[], n, m, ps, rfl, if_pos hb, by simp [tot]; omega, by simp [tot]; omega⟩
    · obtain ⟨pre, n', m', post, e, h1, h2, h3⟩ := locate ps (b + m) c (by omega) (by omega)
      refine ⟨(n, m) :: pre, n', m', post, by rw [e]; rfl, by rw [if_neg hb]; exact h1, ?_, ?_⟩ <;> rw [tot_cons] <;> omega
theorem begs_at : ∀ (pre : Pr) (b : Int) (n : Str) (m : Int) (post : Pr), n ∉ pre.map (·.1) → (begs b (pre ++ (n, m) :: post)).lookup n = some (b + tot pre)
  | [], b, n, m, post, _ => by simp [begs, List.lookup, tot]
  | (a, k) :: pre, b, n, m, post, h => by
    have h1 : n ≠ a := fun z => h (by simp [z])
    have e2 : (n == a) = false := by simpa using h1
    simp only [List.cons_append, begs, List.lookup, e2]
    rw [begs_at pre (b + k) n m post (fun z => h (List.mem_cons_of_mem _ z)), tot_cons]
    congr 1
    omega
theorem beg_at {pre post : Pr} {n : Str} {m : Int} (h : ((pre ++ (n, m) :: post).map (·.1)).Nodup) : beg (pre ++ (n, m) :: post) n = tot pre := by
  have hn : n ∉ pre.map (·.1) := by
    rw [List.map_append, List.map_cons, List.nodup_append] at h
    exact fun z => h.2.2 _ z _ List.mem_cons_self rfl
  unfold beg
  rw [begs_at pre 0 n m post hn]
  simp
theorem spread_len (f : Str → Int) : ∀ (ps : Pr), (∀ p ∈ ps, 0 ≤ p.2) → ((spread f ps).length : Int) = tot ps
  | [], _ => rfl
  | p :: ps, h => by
    have ih := spread_len f ps fun q hq => h q (List.mem_cons_of_mem _ hq)
    have h0 := h p List.mem_cons_self
    simp only [spread, List.flatMap_cons, List.length_append, List.length_map, List.length_range] at ih ⊢
    rw [tot_cons]
    omega
theorem letters_len : ∀ (ps : Pr), (∀ p ∈ ps, 0 ≤ p.2) → ((lettersOf ps).length : Int) = tot ps
  | [], _ => rfl
  | p :: ps, h => by
    have ih := letters_len ps fun q hq => h q (List.mem_cons_of_mem _ hq)
    have h0 := h p List.mem_cons_self
    simp only [lettersOf, List.flatMap_cons, List.length_append, List.length_replicate] at ih ⊢
    rw [tot_cons]
    omega
theorem spread_app (f : Str → Int) (a b : Pr) : spread f (a ++ b) = spread f a ++ spread f b := by simp [spread]
theorem letters_app (a b : Pr) : lettersOf (a ++ b) = lettersOf a ++ lettersOf b := by simp [lettersOf]
theorem spread_at (f : Str → Int) {pre post : Pr} {n : Str} {m : Int} (h : ∀ p ∈ pre ++ (n, m) :: post, 0 ≤ p.2) {c : Nat} (h1 : tot pre ≤ c) (h2 : (c : Int) < tot pre + m) : (spread f (pre ++ (n, m) :: post))[c]? = some (f n + (c - tot pre)) := by
  have hl := spread_len f pre fun p hp => h p (List.mem_append_left _ hp)
  rw [spread_app, List.getElem?_append_right (by omega)]
  simp only [spread, List.flatMap_cons]
  rw [List.getElem?_append_left (by simp only [List.length_map, List.length_range]; have := hl; simp only [spread] at this; omega), List.getElem?_map, List.getElem?_range (by have := hl; simp only [spread] at this; omega)]
  simp only [Option.map_some]
  congr 2
  have := hl
  simp only [spread] at this
  omega
theorem letters_at {pre post : Pr} {n : Str} {m : Int} (h : ∀ p ∈ pre ++ (n, m) :: post, 0 ≤ p.2) {c : Nat} (h1 : tot pre ≤ c) (h2 : (c : Int) < tot pre + m) : (lettersOf (pre ++ (n, m) :: post))[c]? = some n := by
  have hl := letters_len pre fun p hp => h p (List.mem_append_left _ hp)
  rw [letters_app, List.getElem?_append_right (by omega)]
  simp only [lettersOf, List.flatMap_cons]
  have hl' := hl
  simp only [lettersOf] at hl'
  rw [List.getElem?_append_left (by simp only [List.length_replicate]; omega), List.getElem?_replicate, if_pos (by omega)]
/-- a cell's place and letter as the law lists them -/
theorem cell_at {ps : Pr} {l : List Str} (d : Deal ps l) {c : Nat} (h : (c : Int) < tot ps) : (spread (beg (lp ps l)) ps)[c]? = some (behind ps l c) ∧ (lettersOf ps)[c]? = some (pieceAt 0 ps c) := by
  obtain ⟨pre, n, m, post, e, h1, h2, h3⟩ := locate ps 0 c (by omega) (by simpa using h)
  have hb : beg ps n = tot pre := by
    have nd := d.nd
    rw [e] at nd ⊢
    exact beg_at nd
  have nn := d.nn
  constructor
  · unfold behind
    rw [h1, hb]
    conv => lhs; rw [e]
    rw [e] at nn
    rw [spread_at _ nn (by omega) (by omega)]
    rw [← e]
    congr 1
    omega
  · rw [h1]
    conv => lhs; rw [e]
    rw [e] at nn
    exact letters_at nn (by omega) (by omega)
/-- back again -/
theorem mem_split {ps : Pr} {p : Str × Int} (h : p ∈ ps) : ∃ pre post, ps = pre ++ p :: post := List.append_of_mem h
theorem back_at {ps : Pr} {l : List Str} (d : Deal ps l) {c : Nat} (h : (c : Int) < tot ps) : ∃ g : Nat, behind ps l c = g ∧ (g : Int) < tot ps ∧ (spread (beg ps) (lp ps l))[g]? = some (c : Int) := by
  obtain ⟨pre, n, m, post, e, h1, h2, h3⟩ := locate ps 0 c (by omega) (by simpa using h)
  have hb : beg ps n = tot pre := by
    have nd := d.nd
    rw [e] at nd ⊢
    exact beg_at nd
  have hm : (n, m) ∈ lp ps l := (lp_perm d).mem_iff.mpr (by rw [e]; simp)
  obtain ⟨pre', post', e'⟩ := mem_split hm
  have nd' := d.und.nd
  have nn' := d.und.nn
  have ht := tot_perm (lp_perm d)
  have hb' : beg (lp ps l) n = tot pre' := by
    rw [e'] at nd' ⊢
    exact beg_at nd'
  have n1 := tot_nn (ps := pre') fun p hp => nn' p (by rw [e']; exact List.mem_append_left _ hp)
  have n2 := tot_nn (ps := post') fun p hp => nn' p (by rw [e']; exact List.mem_append_right _ (List.mem_cons_of_mem _ hp))
  have ht2 : tot (lp ps l) = tot pre' + (m + tot post') := by rw [e', tot_app, tot_cons]
  have hg : behind ps l c = tot pre' + (c - tot pre) := by
    unfold behind
    rw [h1, hb, hb']
    omega
  refine ⟨(tot pre' + (c - tot pre)).toNat, by omega, by omega, ?_⟩
  have hx : (((tot pre' + ((c : Int) - tot pre)).toNat : Nat) : Int) = tot pre' + (c - tot pre) := by omega
  conv => lhs; rw [e']
  rw [e'] at nn'
  rw [spread_at _ nn' (by omega) (by omega), hb, hx]
  congr 1
  omega
theorem spread_self : ∀ (ps : Pr) (f : Str → Int) (b : Int), (∀ p ∈ ps, 0 ≤ p.2) → (∀ pre p post, ps = pre ++ p :: post → f p.1 = b + tot pre) → spread f ps = (List.range (tot ps).toNat).map fun (i : Nat) => b + i
  | [], f, b, _, _ => rfl
  | p :: ps, f, b, h, hf => by
    have h0 := h p List.mem_cons_self
    have hn := tot_nn fun q hq => h q (List.mem_cons_of_mem _ hq)
    have ih := spread_self ps f (b + p.2) (fun q hq => h q (List.mem_cons_of_mem _ hq)) fun pre q post e => by
      rw [hf (p :: pre) q post (by rw [e]; rfl), tot_cons]
      omega
    have e1 := hf [] p ps rfl
    rw [show spread f (p :: ps) = ((List.range p.2.toNat).map fun (k : Nat) => f p.1 + k) ++ spread f ps by simp [spread], ih, tot_cons]
    rw [show (p.2 + tot ps).toNat = p.2.toNat + (tot ps).toNat by omega, List.range_add, List.map_append, List.map_map]
    congr 1
    · exact List.map_congr_left fun k _ => by rw [e1]; simp [tot]
    · exact List.map_congr_left fun k _ => by simp; omega
theorem goes_perm {ps : Pr} {l : List Str} (d : Deal ps l) : (spread (beg (lp ps l)) ps).Perm ((List.range (tot ps).toNat).map fun (i : Nat) => (i : Int)) := by
  have h1 : (spread (beg (lp ps l)) ps).Perm (spread (beg (lp ps l)) (lp ps l)) := (lp_perm d).symm.flatMap_right _
  have h2 := spread_self (lp ps l) (beg (lp ps l)) 0 d.und.nn fun pre p post e => by
    have nd := d.und.nd
    obtain ⟨n, m⟩ := p
    rw [e] at nd ⊢
    rw [beg_at nd]
    simp
  rw [h2, tot_perm (lp_perm d)] at h1
  simpa using h1
/-! ### the full pieces lie as before -/
theorem full_tot : ∀ {ps : Pr}, (∀ p ∈ ps, 0 ≤ p.2) → tot (fullP ps) = tot ps
  | [], _ => rfl
  | p :: ps, h => by
    have ih := full_tot (ps := ps) fun q hq => h q (List.mem_cons_of_mem _ hq)
    have h0 := h p List.mem_cons_self
    by_cases hp : p.2 > 0
    · have e : fullP (p :: ps) = p :: fullP ps := by simp [fullP, hp]
      rw [e, tot_cons, tot_cons, ih]
    · have e : fullP (p :: ps) = fullP ps := by simp [fullP, hp]
      rw [e, tot_cons, ih]
      omega
theorem full_spread (f : Str → Int) : ∀ {ps : Pr}, (∀ p ∈ ps, 0 ≤ p.2) → spread f (fullP ps) = spread f ps
  | [], _ => rfl
  | p :: ps, h => by
    have ih := full_spread f (ps := ps) fun q hq => h q (List.mem_cons_of_mem _ hq)
    have h0 := h p List.mem_cons_self
    have c : spread f (p :: ps) = ((List.range p.2.toNat).map fun (k : Nat) => f p.1 + k) ++ spread f ps := by simp [spread]
    by_cases hp : p.2 > 0
    · have e : fullP (p :: ps) = p :: fullP ps := by simp [fullP, hp]
      rw [e, c, ← ih]
      simp [spread]
    · have e : fullP (p :: ps) = fullP ps := by simp [fullP, hp]
      rw [e, c, ih, show p.2.toNat = 0 by omega]
      simp
theorem full_letters : ∀ {ps : Pr}, (∀ p ∈ ps, 0 ≤ p.2) → lettersOf (fullP ps) = lettersOf ps
  | [], _ => rfl
  | p :: ps, h => by
    have ih := full_letters (ps := ps) fun q hq => h q (List.mem_cons_of_mem _ hq)
    have h0 := h p List.mem_cons_self
    have c : lettersOf (p :: ps) = List.replicate p.2.toNat p.1 ++ lettersOf ps := by simp [lettersOf]
    by_cases hp : p.2 > 0
    · have e : fullP (p :: ps) = p :: fullP ps := by simp [fullP, hp]
      rw [e, c, ← ih]
      simp [lettersOf]
    · have e : fullP (p :: ps) = fullP ps := by simp [fullP, hp]
      rw [e, c, ih, show p.2.toNat = 0 by omega]
      simp
theorem fullP_nd {ps : Pr} (h : (ps.map (·.1)).Nodup) : ((fullP ps).map (·.1)).Nodup := h.sublist ((List.filter_sublist (l := ps)).map _)
theorem fullP_names {ps : Pr} (h : (ps.map (·.1)).Nodup) : (fullP ps).map (·.1) = fullL ps (ps.map (·.1)) := by
  have e : ∀ (qs : Pr), (∀ p ∈ qs, sz ps p.1 = p.2) → (fullP qs).map (·.1) = fullL ps (qs.map (·.1)) := by
    intro qs
    induction qs with
    | nil => intro _; rfl
    | cons p qs ih =>
      intro hq
      have h1 := hq p List.mem_cons_self
      have h2 := ih fun q hq' => hq q (List.mem_cons_of_mem _ hq')
      by_cases hp : p.2 > 0
      · have a : fullP (p :: qs) = p :: fullP qs := by simp [fullP, hp]
        have b : fullL ps (p.1 :: qs.map (·.1)) = p.1 :: fullL ps (qs.map (·.1)) := by simp [fullL, h1, hp]
        rw [a, List.map_cons, List.map_cons, b, h2]
      · have a : fullP (p :: qs) = fullP qs := by simp [fullP, hp]
        have b : fullL ps (p.1 :: qs.map (·.1)) = fullL ps (qs.map (·.1)) := by simp [fullL, h1, hp]
        rw [a, List.map_cons, b, h2]
  exact e ps fun p hp => sz_mem h hp
theorem Deal.full {ps : Pr} {l : List Str} (d : Deal ps l) : Deal (fullP ps) (fullL ps l) where
  nd := fullP_nd d.nd
  perm := by rw [fullP_names d.nd]; exact d.perm.filter _
  few := Nat.le_trans (List.length_filter_le _ _) d.few
  nn := fun p hp => d.nn p ((List.mem_filter.mp hp).1)
theorem sz_full {ps : Pr} (h : (ps.map (·.1)).Nodup) {n : Str} (hn : n ∈ ps.map (·.1)) (hp : sz ps n > 0) : sz (fullP ps) n = sz ps n := by
  obtain ⟨p, hp1, rfl⟩ := List.mem_map.mp hn
  rw [sz_mem h hp1] at hp ⊢
  exact sz_mem (fullP_nd h) (List.mem_filter.mpr ⟨hp1, by simpa using hp⟩)
theorem lp_full {ps : Pr} {l : List Str} (d : Deal ps l) : lp (fullP ps) (fullL ps l) = fullP (lp ps l) := by
  have e : ∀ ns : List Str, (∀ n ∈ ns, n ∈ ps.map (·.1)) → lp (fullP ps) (fullL ps ns) = fullP (lp ps ns) := by
    intro ns
    induction ns with
    | nil => intro _; rfl
    | cons n ns ih =>
      intro h
      have h1 := h n List.mem_cons_self
      have h2 := ih fun q hq' => h q (List.mem_cons_of_mem _ hq')
      by_cases hp : sz ps n > 0
      · have a : fullL ps (n :: ns) = n :: fullL ps ns := by simp [fullL, hp]
        have b : fullP (lp ps (n :: ns)) = (n, sz ps n) :: fullP (lp ps ns) := by simp [fullP, lp, hp]
        rw [a, b, ← h2]
        simp [lp, sz_full d.nd h1 hp]
      · have a : fullL ps (n :: ns) = fullL ps ns := by simp [fullL, hp]
        have b : fullP (lp ps (n :: ns)) = fullP (lp ps ns) := by simp [fullP, lp, hp]
        rw [a, b, h2]
  exact e l fun n hn => d.perm.mem_iff.mp hn
theorem beg_full {L : Pr} (h : (L.map (·.1)).Nodup) (nn : ∀ p ∈ L, 0 ≤ p.2) {p : Str × Int} (hp : p ∈ L) (hpos : p.2 > 0) : beg (fullP L) p.1 = beg L p.1 := by
  obtain ⟨pre, post, e⟩ := mem_split hp
  obtain ⟨n, m⟩ := p
  have e2 : fullP L = fullP pre ++ (n, m) :: fullP post := by rw [e]; simp [fullP, show m > 0 from hpos]
  have h2 := fullP_nd h
  rw [e2] at h2 ⊢
  rw [beg_at h2]
  rw [e] at h nn ⊢
  rw [beg_at h, full_tot fun p hp => nn p (List.mem_append_left _ hp)]
theorem spread_congr {f g : Str → Int} {ps : Pr} (h : ∀ p ∈ ps, f p.1 = g p.1) : spread f ps = spread g ps := by
  unfold spread
  induction ps with
  | nil => rfl
  | cons p ps ih =>
    rw [List.flatMap_cons, List.flatMap_cons, ih fun q hq => h q (List.mem_cons_of_mem _ hq), h p List.mem_cons_self]
theorem full_goes {ps : Pr} {l : List Str} (d : Deal ps l) : goesD (fullP ps) (fullL ps l) = goesD ps l := by
  unfold goesD
  rw [lp_full d, spread_congr (g := beg (lp ps l)), full_spread _ d.nn]
  intro p hp
  have hp1 := (List.mem_filter.mp hp).1
  have hpos : p.2 > 0 := by simpa using (List.mem_filter.mp hp).2
  exact beg_full d.und.nd d.und.nn ((lp_perm d).mem_iff.mpr hp1) hpos
/-! ### small deals -/
structure SDeal (ps : Pr) (l : List Str) : Prop where
  d : Deal ps l
  len : ps.length ≤ 100
  nm : ∀ p ∈ ps, (PyData.shown (.str p.1)).length ≤ 10
  sm : ∀ p ∈ ps, p.2 ≤ 1000
theorem tot_le : ∀ {ps : Pr}, (∀ p ∈ ps, p.2 ≤ 1000) → tot ps ≤ 1000 * ps.length
  | [], _ => by simp [tot]
  | p :: ps, h => by
    have ih := tot_le (ps := ps) fun q hq => h q (List.mem_cons_of_mem _ hq)
    have h0 := h p List.mem_cons_self
    rw [tot_cons, List.length_cons]
    omega
theorem SDeal.tot {ps : Pr} {l : List Str} (d : SDeal ps l) : 0 ≤ tot ps ∧ tot ps ≤ 100000 := by
  have h1 := tot_le d.sm
  have h2 := d.len
  exact ⟨tot_nn d.d.nn, by omega⟩
theorem SDeal.und {ps : Pr} {l : List Str} (d : SDeal ps l) : SDeal (lp ps l) (ps.map (·.1)) where
  d := d.d.und
  len := by rw [(lp_perm d.d).length_eq]; exact d.len
  nm := fun p hp => d.nm p ((lp_perm d.d).mem_iff.mp hp)
  sm := fun p hp => d.sm p ((lp_perm d.d).mem_iff.mp hp)
theorem SDeal.full {ps : Pr} {l : List Str} (d : SDeal ps l) : SDeal (fullP ps) (fullL ps l) where
  d := d.d.full
  len := Nat.le_trans (List.length_filter_le _ _) d.len
  nm := fun p hp => d.nm p (List.mem_filter.mp hp).1
  sm := fun p hp => d.sm p (List.mem_filter.mp hp).1
theorem nice_pD {p : Str × Int} (h1 : (PyData.shown (.str p.1)).length ≤ 10) (h2 : 0 ≤ p.2) (h3 : p.2 ≤ 1000) : Nice (pD p) 1 28 := by
  refine (Nice.tuple (ds := [.str p.1, .int p.2]) (k := 0) (n := 10) fun d hd => ?_).mono (Nat.le_refl _) (by simp)
  simp only [List.mem_cons, List.not_mem_nil, or_false] at hd
  rcases hd with rfl | rfl
  · exact .str h1
  · exact Nice.int h2 (Int.lt_of_le_of_lt h3 (by decide)) (by decide) (by decide)
theorem nice_names {ns : List Str} (h : ∀ n ∈ ns, (PyData.shown (.str n)).length ≤ 10) (hl : ns.length ≤ 100) : Nice (.tuple (ns.map .str)) 1 1204 := by
  refine (Nice.tuple (k := 0) (n := 10) fun d hd => ?_).mono (Nat.le_refl _) (by rw [List.length_map]; omega)
  obtain ⟨n, hn, rfl⟩ := List.mem_map.mp hd
  exact .str (h n hn)
theorem SDeal.nice {ps : Pr} {l : List Str} (d : SDeal ps l) : Nice (dealD ps l) 3 6100 := by
  have hl : l.length ≤ 100 := by rw [d.d.perm.length_eq, List.length_map]; exact d.len
  have h1 : Nice (psD ps) 2 3004 := by
    refine (Nice.tuple (k := 1) (n := 28) fun x hx => ?_).mono (Nat.le_refl _) (by rw [List.length_map]; have := d.len; omega)
    obtain ⟨p, hp, rfl⟩ := List.mem_map.mp hx
    exact nice_pD (d.nm p hp) (d.d.nn p hp) (d.sm p hp)
  have h2 : Nice (.tuple (l.map .str)) 1 1204 := nice_names (fun n hn => by
    obtain ⟨p, hp, rfl⟩ := List.mem_map.mp (d.d.perm.mem_iff.mp hn)
    exact d.nm p hp) hl
  refine (Nice.tuple (ds := [psD ps, .tuple (l.map .str)]) (k := 2) (n := 3004) fun x hx => ?_).mono (Nat.le_refl _) (by simp)
  simp only [List.mem_cons, List.not_mem_nil, or_false] at hx
  rcases hx with rfl | rfl
  · exact h1
  · exact h2.mono (by decide) (by decide)
theorem goes_range {ps : Pr} {l : List Str} (d : SDeal ps l) : ∀ x ∈ spread (beg (lp ps l)) ps, 0 ≤ x ∧ x < tot ps := fun x hx => by
  obtain ⟨i, hi, rfl⟩ := List.mem_map.mp ((goes_perm d.d).mem_iff.mp hx)
  have := d.tot
  have := List.mem_range.mp hi
  omega
theorem nice_goes {ps : Pr} {l : List Str} (d : SDeal ps l) : Nice (.list (goesD ps l)) 1 800100 := by
  have hl := spread_len (beg (lp ps l)) ps d.d.nn
  have ht := d.tot
  refine (Nice.list (k := 0) (n := 6) fun x hx => ?_).mono (Nat.le_refl _) (by unfold goesD; rw [List.length_map]; omega)
  obtain ⟨i, hi, rfl⟩ := List.mem_map.mp hx
  obtain ⟨h1, h2⟩ := goes_range d i hi
  exact Nice.int h1 (by have : (10 : Int) ^ 6 = 1000000 := by decide
                        omega) (by decide) (by decide)
theorem nice_letters {ps : Pr} {l : List Str} (d : SDeal ps l) : Nice (.list ((lettersOf ps).map .str)) 1 1200100 := by
  have hl := letters_len ps d.d.nn
  have ht := d.tot
  refine (Nice.list (k := 0) (n := 10) fun x hx => ?_).mono (Nat.le_refl _) (by rw [List.length_map]; omega)
  obtain ⟨n, hn, rfl⟩ := List.mem_map.mp hx
  obtain ⟨p, hp, hq⟩ := List.mem_flatMap.mp hn
  have : n = p.1 := (List.mem_replicate.mp hq).2
  subst this
  exact .str (d.nm p hp)
theorem nice_both {ps : Pr} {l : List Str} (d : SDeal ps l) : Nice (.tuple [.list (goesD ps l), .list ((lettersOf ps).map .str)]) 2 2500000 := by
  refine (Nice.tuple (ds := [.list (goesD ps l), .list ((lettersOf ps).map .str)]) (k := 1) (n := 1200100) fun x hx => ?_).mono (Nat.le_refl _) (by simp)
  simp only [List.mem_cons, List.not_mem_nil, or_false] at hx
  rcases hx with rfl | rfl
  · exact (nice_goes d).mono (Nat.le_refl _) (by decide)
  · exact (nice_letters d).mono (Nat.le_refl _) (by decide)
end Law
end Pw
set_option Elab.async false
set_option linter.all false
set_option maxRecDepth 100000
namespace Pw
namespace Law
open PySem PySem.Spec PyProof.Rows L2
/-! ### _law_deal_right -/
theorem ne_self {a b : D} {k n : Nat} (h : Nice a k n) (hk : k ≤ 40) (e : a = b) : dNe a b = some (.sh (.bool false)) := by
  subst e
  rw [h.ne h hk, h.refl]
  rfl
theorem repr_self {a b : D} {k n : Nat} (h : Nice a k n) (hk : k ≤ 40) (hn : n ≤ 16000000) (e : a = b) {f g : Ev} {s s1 s2 : S} {ra rb : SV} (h1 : f s = .ok ra s1) (ha : ra.dat = some a) (h2 : g s1 = .ok rb s2) (hb : rb.dat = some b) : cT (cBinE dNe (cCall1 dRepr (vE f)) (vE (cCall1 dRepr (vE g)))) s = .ok false s2 := by
  subst e
  have e1 := call1_ok (g := dRepr) (vE_ok h1 ha) (h.repr hk hn)
  have e2 := vE_ok (call1_ok (g := dRepr) (vE_ok h2 hb) (h.repr hk hn)) rfl
  refine t_ok (binE_ok e1 e2 rfl ?_)
  exact ne_self (k := 0) (n := (PyData.shown (.str a.shown)).length) ⟨rfl, rfl, rfl, Nat.le_refl _, Nat.le_refl _⟩ (by decide) rfl
def manyN (ps : Pr) : Nat := (tot ps).toNat
section
variable {aT aR : Addr} {ps : Pr} {l : List Str} {src : Option Src} {o1 o2 o3 o4 o5 o6 o7 o9 o10 o13 o14 o15 : Option SV}
/-- the state with the first things told -/
abbrev dS (ps : Pr) (l : List Str) (o1 o2 o3 o4 o5 o6 o7 o9 o10 o13 o14 o15 : Option SV) (src : Option Src) : S :=
  ⟨[some (.sh (dealD ps l)), o1, o2, o3, o4, o5, o6, o7, some (.sh (.dict (kvD ps))), o9, o10, some (.sh (.list (goesD ps l))), some (.sh (.list ((lettersOf ps).map .str))), o13, o14, o15], src⟩
theorem dr1 (d : SDeal ps l) : cAsg (cTup (cCons (cCall 1 F_law_goes (cCons (cVar 0) cNil)) (cCons (cCall1 dDict (vE (cCall1 dList (vE (cBinV dIx 0 (vE (cD (.int 0)))))))) cNil))) (gTp (gsCons (gTp (gsCons (gNm 11) (gsCons (gNm 12) gsNil))) (gsCons (gNm 8) gsNil))) ⟨padS 16 [.sh (dealD ps l)], src⟩ = .ok .nx (dS ps l none none none none none none none none none none none none src) := by
  have ht := d.tot
  have h1 := (law_goes_ok d.d (by omega)).call (n := 1) (ga := cCons (cVar 0) cNil) (s := ⟨padS 16 [.sh (dealD ps l)], src⟩) (s1 := ⟨padS 16 [.sh (dealD ps l)], src⟩) rfl
  have h2 := known_ok (l := l) (r := List.replicate 15 none) (src := src) d.d.nd
  exact asg_ok (tup_ok (cons_ok h1 (cons_ok h2 (show cNil _ = .ok [] ⟨padS 16 [.sh (dealD ps l)], src⟩ from rfl))) rfl (Nat.le_of_ble_eq_true rfl)) rfl
theorem goes_count (d : SDeal ps l) : ((goesD ps l).length : Int) = tot ps := by
  unfold goesD
  rw [List.length_map]
  exact spread_len _ _ d.d.nn
theorem dr2 (d : SDeal ps l) : cAsg (cCall1 dLen (cVarV 11)) (gNm 1) (dS ps l none none none none none none none none none none none none src) = .ok .nx (dS ps l (some (.sh (.int (tot ps)))) none none none none none none none none none none none src) := by
  rw [← goes_count d]
  rfl
theorem sorted_goes (d : SDeal ps l) : dSorted (.list (goesD ps l)) = some (.own (.list (rgD 0 (tot ps).toNat))) := by
  have e1 : dInts (goesD ps l) = some (spread (beg (lp ps l)) ps) := ints_map _
  have e2 : ((List.range (tot ps).toNat).map fun (i : Nat) => (i : Int)) = sortI (spread (beg (lp ps l)) ps) := sortI_eq (goes_perm d.d).symm (by
    rw [List.pairwise_map]
    exact List.pairwise_lt_range.imp fun h => by omega)
  simp only [dSorted, e1, Option.map_some, ← e2, List.map_map, rgD]
  congr 4
  funext i
  simp
theorem nice_rg (d : SDeal ps l) : Nice (.list (rgD 0 (tot ps).toNat)) 1 800100 := by
  have ht := d.tot
  refine (Nice.list (k := 0) (n := 6) fun x hx => ?_).mono (Nat.le_refl _) (by unfold rgD; rw [List.length_map, List.length_range]; omega)
  obtain ⟨i, hi, rfl⟩ := List.mem_map.mp hx
  have := List.mem_range.mp hi
  exact Nice.int (by omega) (by have : (10 : Int) ^ 6 = 1000000 := by decide
                                omega) (by decide) (by decide)
theorem dr3 (d : SDeal ps l) : cIfS (cOr (cT (cBinE dNe (cCall 1 F_deal_size (cCons (cVar 0) cNil)) (cVarV 1))) (cOr (cT (cBinE dNe (cCall1 dSorted (cVarV 11)) (vE (cListRg (cVarV 1))))) (cT (cBinE dNe (cCall1 dRepr (vE (cCall 1 (F_deal_made aT) (cCons (cVar 0) cNil)))) (vE (cCall1 dRepr (cVarV 0))))))) (cRet (cD (.bool false))) cSkip (dS ps l (some (.sh (.int (tot ps)))) none none none none none none none none none none none src) = .ok .nx (dS ps l (some (.sh (.int (tot ps)))) none none none none none none none none none none none src) := by
  have ht := d.tot
  generalize hs : dS ps l (some (.sh (.int (tot ps)))) none none none none none none none none none none none src = s
  have hv0 : cCons (cVar 0) cNil s = .ok [.sh (dealD ps l)] s := by subst hs; rfl
  have hv1 : cVarV 1 s = .ok (.int (tot ps)) s := by subst hs; rfl
  have hv11 : cVarV 11 s = .ok (.list (goesD ps l)) s := by subst hs; rfl
  have a1 : cT (cBinE dNe (cCall 1 F_deal_size (cCons (cVar 0) cNil)) (cVarV 1)) s = .ok false s :=
    t_ok (binE_ok ((deal_size_ok ps l d.d.few).call hv0) hv1 rfl (ne_self (k := 0) (n := 6) (Nice.int ht.1 (by have : (10 : Int) ^ 6 = 1000000 := by decide
                                                                                                               omega) (by decide) (by decide)) (by decide) rfl))
  have hr : cListRg (cVarV 1) s = .ok (.own (.list (rgD 0 (tot ps).toNat))) s := by
    unfold cListRg
    rw [hv1, bnd_ok]
    dsimp only
    rw [if_pos (by omega)]
  have a2 : cT (cBinE dNe (cCall1 dSorted (cVarV 11)) (vE (cListRg (cVarV 1)))) s = .ok false s :=
    t_ok (binE_ok (call1_ok hv11 (sorted_goes d)) (vE_ok hr rfl) rfl (ne_self (nice_rg d) (by decide) rfl))
  have a3 : cT (cBinE dNe (cCall1 dRepr (vE (cCall 1 (F_deal_made aT) (cCons (cVar 0) cNil)))) (vE (cCall1 dRepr (cVarV 0)))) s = .ok false s := by
    have h1 := (deal_made_ok aT d.d.few ht.1 (Int.lt_of_le_of_lt ht.2 (by decide +kernel))).call (n := 1) hv0
    have e1 := call1_ok (g := dRepr) (vE_ok h1 rfl) (d.nice.repr (by decide) (by decide))
    have e2 := vE_ok (call1_ok (g := dRepr) (show cVarV 0 s = .ok (dealD ps l) s by subst hs; rfl) (d.nice.repr (by decide) (by decide))) rfl
    exact t_ok (binE_ok e1 e2 rfl (ne_self (k := 0) (n := (PyData.shown (.str (dealD ps l).shown)).length) ⟨rfl, rfl, rfl, Nat.le_refl _, Nat.le_refl _⟩ (by decide) rfl))
  exact ifs_ff (or_ff a1 (or_ff a2 a3)) rfl
theorem dr4 (d : SDeal ps l) : cAsg (cBinE dMul (cLst (cCons (cD (.int 0)) cNil)) (cVarV 1)) (gNm 2) (dS ps l (some (.sh (.int (tot ps)))) none none none none none none none none none none none src) = .ok .nx (dS ps l (some (.sh (.int (tot ps)))) (some (.own (.list (List.replicate (tot ps).toNat (.int 0))))) none none none none none none none none none none src) := by
  have ht := d.tot
  have z1 : dMul (.list [.int 0]) (.int (tot ps)) = some (.own (.list (List.replicate (tot ps).toNat (.int 0)))) := by
    simp only [dMul, List.length_cons, List.length_nil]
    rw [if_pos (by rw [sizeLine_eq]; omega), rep_one]
  exact nm_ok (binE_ok (fa := cLst (cCons (cD (.int 0)) cNil)) rfl rfl rfl z1)
def setAll : List D → List Int → Nat → List D
  | a, [], _ => a
  | a, g :: gs, k => setAll (a.set g.toNat (.int k)) gs (k + 1)
theorem dr5_loop (m : Option SV) : ∀ (gs : List Int) (k : Nat) (a : List D) (o3 o9 : Option SV), (∀ g ∈ gs, 0 ≤ g ∧ g < a.length) → ∃ o3' o9', forL (gTp (gsCons (gNm 3) (gsCons (gNm 9) gsNil))) (cSetIx 2 (cVarV 9) (cVar 3)) (shs (((gs.map .int).zipIdx k).map fun p => .tuple [.int (p.2 : Nat), p.1])) (dS ps l m (some (.own (.list a))) o3 none none none none o9 none none none none src) = .ok .nx (dS ps l m (some (.own (.list (setAll a gs k)))) o3' none none none none o9' none none none none src)
  | [], k, a, o3, o9, _ => ⟨o3, o9, rfl⟩
  | g :: gs, k, a, o3, o9, h => by
    obtain ⟨h0, h1⟩ := h g List.mem_cons_self
    obtain ⟨o3', o9', ih⟩ := dr5_loop m gs (k + 1) (a.set g.toNat (.int k)) (some (.sh (.int (k : Nat)))) (some (.sh (.int g))) fun x hx => by
      rw [List.length_set]
      exact h x (List.mem_cons_of_mem _ hx)
    refine ⟨o3', o9', ?_⟩
    have z : dSet (.list a) (.int g) (.int (k : Nat)) = some (.list (a.set g.toNat (.int (k : Nat)))) := by
      simp only [dSet, ixN, if_pos h0, if_pos h1, Option.map_some]
    refine (forL_step (s1 := dS ps l m (some (.own (.list a))) (some (.sh (.int (k : Nat)))) none none none none (some (.sh (.int g))) none none none none src) rfl (setIx_ok (f := cVar 3) (fk := cVarV 9) (i := 2) (s := dS ps l m (some (.own (.list a))) (some (.sh (.int (k : Nat)))) none none none none (some (.sh (.int g))) none none none none src) rfl rfl rfl rfl rfl z)).trans ih
theorem setAll_len : ∀ (gs : List Int) (k : Nat) (a : List D), (setAll a gs k).length = a.length
  | [], _, _ => rfl
  | g :: gs, k, a => by
    unfold setAll
    rw [setAll_len gs (k + 1), List.length_set]
theorem setAll_off : ∀ (gs : List Int) (k : Nat) (a : List D) (j : Nat), (∀ g ∈ gs, g.toNat ≠ j) → (setAll a gs k)[j]? = a[j]?
  | [], _, _, _, _ => rfl
  | g :: gs, k, a, j, h => by
    unfold setAll
    rw [setAll_off gs (k + 1) _ j fun x hx => h x (List.mem_cons_of_mem _ hx), List.getElem?_set_ne (h g List.mem_cons_self)]
theorem setAll_at (B : Nat → Int) : ∀ (gs : List Int) (k : Nat) (a : List D) (j : Nat), (∀ i g, gs[i]? = some g → B g.toNat = (k + i : Nat)) → j < a.length → (∃ g ∈ gs, g.toNat = j) → (setAll a gs k)[j]? = some (.int (B j))
  | [], _, _, _, _, _, h => by obtain ⟨g, hg, _⟩ := h; simp at hg
  | g :: gs, k, a, j, hB, hj, h => by
    unfold setAll
    by_cases hin : ∃ x ∈ gs, x.toNat = j
    · exact setAll_at B gs (k + 1) _ j (fun i x hx => by
        have := hB (i + 1) x (by simpa using hx)
        rw [this]
        congr 1
        omega) (by rw [List.length_set]; exact hj) hin
    · have hne : ∀ x ∈ gs, x.toNat ≠ j := fun x hx z => hin ⟨x, hx, z⟩
      rw [setAll_off gs (k + 1) _ j hne]
      obtain ⟨x, hx, hxj⟩ := h
      rcases List.mem_cons.mp hx with rfl | hx
      · rw [hxj, List.getElem?_set_self hj]
        have := hB 0 x rfl
        rw [hxj] at this
        rw [this]
        rfl
      · exact absurd hxj (hne x hx)
/-- the places turned about -/
def backD (ps : Pr) (l : List Str) : List D := (spread (beg ps) (lp ps l)).map .int
theorem ahead_is (d : SDeal ps l) : setAll (List.replicate (tot ps).toNat (.int 0)) (spread (beg (lp ps l)) ps) 0 = backD ps l := by
  have ht := d.tot
  have hlen : (spread (beg ps) (lp ps l)).length = (tot ps).toNat := by
    have := spread_len (beg ps) (lp ps l) d.d.und.nn
    rw [tot_perm (lp_perm d.d)] at this
    omega
  have hl2 := spread_len (beg (lp ps l)) ps d.d.nn
  apply List.ext_getElem?
  intro j
  by_cases hj : j < (tot ps).toNat
  · have hB : ∀ i g, (spread (beg (lp ps l)) ps)[i]? = some g → ((spread (beg ps) (lp ps l)).getD g.toNat 0) = ((0 + i : Nat) : Int) := fun i g hg => by
      have hi : i < (spread (beg (lp ps l)) ps).length := (List.getElem?_eq_some_iff.mp hg).1
      have hi' : (i : Int) < tot ps := by omega
      have hc := (cell_at d.d hi').1
      rw [hg] at hc
      obtain ⟨g', e1, e2, e3⟩ := back_at d.d hi'
      cases hc
      rw [e1, Int.toNat_natCast, List.getD_eq_getElem?_getD, e3]
      simp
    have hin : ∃ g ∈ spread (beg (lp ps l)) ps, g.toNat = j := by
      have : (j : Int) ∈ spread (beg (lp ps l)) ps := (goes_perm d.d).mem_iff.mpr (List.mem_map.mpr ⟨j, List.mem_range.mpr hj, rfl⟩)
      exact ⟨_, this, Int.toNat_natCast j⟩
    rw [setAll_at (fun g => (spread (beg ps) (lp ps l)).getD g 0) _ 0 _ j hB (by simpa using hj) hin]
    unfold backD
    rw [List.getElem?_map, List.getElem?_eq_getElem (by omega : j < (spread (beg ps) (lp ps l)).length), List.getD_eq_getElem?_getD, List.getElem?_eq_getElem (by omega : j < (spread (beg ps) (lp ps l)).length)]
    rfl
  · rw [List.getElem?_eq_none (by rw [setAll_len]; simpa using hj), List.getElem?_eq_none (by unfold backD; rw [List.length_map]; omega)]
theorem dr5 (d : SDeal ps l) (m : Option SV) : ∃ o3 o9, cFor (cEnum (cCons (cVar 11) cNil)) (gTp (gsCons (gNm 3) (gsCons (gNm 9) gsNil))) (cSetIx 2 (cVarV 9) (cVar 3)) (dS ps l m (some (.own (.list (List.replicate (tot ps).toNat (.int 0))))) none none none none none none none none none none src) = .ok .nx (dS ps l m (some (.own (.list (backD ps l)))) o3 none none none none o9 none none none none src) := by
  have ht := d.tot
  obtain ⟨o3, o9, h⟩ := dr5_loop (ps := ps) (l := l) (src := src) m (spread (beg (lp ps l)) ps) 0 (List.replicate (tot ps).toNat (.int 0)) none none fun g hg => by
    have := goes_range d g hg
    rw [List.length_replicate]
    omega
  rw [ahead_is d] at h
  exact ⟨o3, o9, for_ok (f := cEnum (cCons (cVar 11) cNil)) rfl h⟩
theorem nice3 {n : Str} {x y : Int} (h : (PyData.shown (.str n)).length ≤ 10) (hx : 0 ≤ x ∧ x < 1000000) (hy : 0 ≤ y ∧ y < 1000000) : Nice (.list [.str n, .int x, .int y]) 1 40 := by
  refine (Nice.list (ds := [.str n, .int x, .int y]) (k := 0) (n := 10) fun d hd => ?_).mono (Nat.le_refl _) (by simp)
  have e : (10 : Int) ^ 10 = 10000000000 := by decide
  simp only [List.mem_cons, List.not_mem_nil, or_false] at hd
  rcases hd with rfl | rfl | rfl
  · exact .str h
  · exact Nice.int hx.1 (by omega) (by decide) (by decide)
  · exact Nice.int hy.1 (by omega) (by decide) (by decide)
theorem ix_list {xs : List D} {x : D} {c : Nat} (h : xs[c]? = some x) : dIx (.list xs) (.int (c : Nat)) = some (.sh x) := by
  obtain ⟨hc, e⟩ := List.getElem?_eq_some_iff.mp h
  simp only [dIx, atI_nat hc, Option.map_some, e]
theorem dr6_body (d : SDeal ps l) {c : Nat} (hc : (c : Int) < tot ps) (m : Option SV) (o10 : Option SV) : ∃ o10', cSeq (cAsg (cLst (cCons (cBinV dIx 12 (cVarV 3)) (cCons (cBinV dIx 11 (cVarV 3)) (cCons (cBinV dIx 2 (cVarV 3)) cNil)))) (gNm 10)) (cIfS (cT (cBinE dNe (cLst (cCons (cCall 2 (F_piece_of aR) (cCons (cVar 0) (cCons (cVar 3) cNil))) (cCons (cCall 2 (F_cell_behind aR) (cCons (cVar 0) (cCons (cVar 3) cNil))) (cCons (cCall 2 (F_cell_ahead aR) (cCons (cVar 0) (cCons (cVar 3) cNil))) cNil)))) (cVarV 10))) (cRet (cD (.bool false))) cSkip) (dS ps l m (some (.own (.list (backD ps l)))) (some (.sh (.int (c : Nat)))) none none none none o9 o10 none none none src) =
    .ok .nx (dS ps l m (some (.own (.list (backD ps l)))) (some (.sh (.int (c : Nat)))) none none none none o9 o10' none none none src) := by
  have ht := d.tot
  obtain ⟨k1, k2⟩ := cell_at d.d hc
  have hcu : (c : Int) < tot (lp ps l) := by rw [tot_perm (lp_perm d.d)]; exact hc
  have k3 := (cell_at d.d.und hcu).1
  rw [d.d.und_und] at k3
  have i1 : dIx (.list ((lettersOf ps).map .str)) (.int (c : Nat)) = some (.sh (.str (pieceAt 0 ps c))) := ix_list (by rw [List.getElem?_map, k2]; rfl)
  have i2 : dIx (.list (goesD ps l)) (.int (c : Nat)) = some (.sh (.int (behind ps l c))) := ix_list (by unfold goesD; rw [List.getElem?_map, k1]; rfl)
  have i3 : dIx (.list (backD ps l)) (.int (c : Nat)) = some (.sh (.int (behind (lp ps l) (ps.map (·.1)) c))) := ix_list (by unfold backD; rw [List.getElem?_map, k3]; rfl)
  refine ⟨some (.own (.list [.str (pieceAt 0 ps c), .int (behind ps l c), .int (behind (lp ps l) (ps.map (·.1)) c)])), ?_⟩
  generalize hs : dS ps l m (some (.own (.list (backD ps l)))) (some (.sh (.int (c : Nat)))) none none none none o9 o10 none none none src = s
  have v3 : cVarV 3 s = .ok (.int (c : Nat)) s := by subst hs; rfl
  have e1 : cBinV dIx 12 (cVarV 3) s = .ok (.sh (.str (pieceAt 0 ps c))) s := binV_ok (r := .sh (.list ((lettersOf ps).map .str))) (by subst hs; rfl) v3 (by subst hs; rfl) i1
  have e2 : cBinV dIx 11 (cVarV 3) s = .ok (.sh (.int (behind ps l c))) s := binV_ok (r := .sh (.list (goesD ps l))) (by subst hs; rfl) v3 (by subst hs; rfl) i2
  have e3 : cBinV dIx 2 (cVarV 3) s = .ok (.sh (.int (behind (lp ps l) (ps.map (·.1)) c))) s := binV_ok (r := .own (.list (backD ps l))) (by subst hs; rfl) v3 (by subst hs; rfl) i3
  have e4 := lst_ok (cons_ok e1 (cons_ok e2 (cons_ok e3 (show cNil s = .ok [] s from rfl)))) rfl (Nat.le_of_ble_eq_true rfl)
  generalize hs2 : dS ps l m (some (.own (.list (backD ps l)))) (some (.sh (.int (c : Nat)))) none none none none o9 (some (.own (.list [.str (pieceAt 0 ps c), .int (behind ps l c), .int (behind (lp ps l) (ps.map (·.1)) c)]))) none none none src = s2
  have ga : cCons (cVar 0) (cCons (cVar 3) cNil) s2 = .ok [.sh (dealD ps l), .sh (.int (c : Nat))] s2 := by subst hs2; rfl
  have hin : 0 ≤ (c : Int) ∧ (c : Int) < tot ps := ⟨by omega, hc⟩
  have f1 := (piece_of_ok aR (l := l) d.d.few hin).call (n := 2) ga
  have f2 := (cell_behind_ok aR d.d.nd d.d.perm d.d.few hin).call (n := 2) ga
  have f3 := (cell_ahead_ok aR d.d hin).call (n := 2) ga
  have f4 := lst_ok (cons_ok f1 (cons_ok f2 (cons_ok f3 (show cNil s2 = .ok [] s2 from rfl)))) rfl (Nat.le_of_ble_eq_true rfl)
  have hn : (PyData.shown (.str (pieceAt 0 ps c))).length ≤ 10 := by
    obtain ⟨p, hp, e⟩ := List.mem_map.mp (pieceAt_in ps 0 c hin.1 (by simpa using hin.2))
    rw [← e]
    exact d.nm p hp
  obtain ⟨g1, b1, b2, _⟩ := back_at d.d hc
  obtain ⟨g2, b3, b4, _⟩ := back_at d.d.und hcu
  have ht2 : tot (lp ps l) = tot ps := tot_perm (lp_perm d.d)
  have nn := nice3 (x := behind ps l c) (y := behind (lp ps l) (ps.map (·.1)) c) hn (by omega) (by omega)
  have f5 : cT (cBinE dNe (cLst (cCons (cCall 2 (F_piece_of aR) (cCons (cVar 0) (cCons (cVar 3) cNil))) (cCons (cCall 2 (F_cell_behind aR) (cCons (cVar 0) (cCons (cVar 3) cNil))) (cCons (cCall 2 (F_cell_ahead aR) (cCons (cVar 0) (cCons (cVar 3) cNil))) cNil)))) (cVarV 10)) s2 = .ok false s2 :=
    t_ok (binE_ok f4 (show cVarV 10 s2 = .ok (.list [.str (pieceAt 0 ps c), .int (behind ps l c), .int (behind (lp ps l) (ps.map (·.1)) c)]) s2 by subst hs2; rfl) rfl (ne_self nn (by decide) rfl))
  refine seq_nx (s1 := s2) ?_ (ifs_ff f5 rfl)
  subst hs hs2
  exact nm_ok e4
theorem dr6_loop (d : SDeal ps l) (m : Option SV) : ∀ (ks : List Nat) (o3 o10 : Option SV), (∀ c ∈ ks, (c : Int) < tot ps) → ∃ o3' o10', forL (gNm 3) (cSeq (cAsg (cLst (cCons (cBinV dIx 12 (cVarV 3)) (cCons (cBinV dIx 11 (cVarV 3)) (cCons (cBinV dIx 2 (cVarV 3)) cNil)))) (gNm 10)) (cIfS (cT (cBinE dNe (cLst (cCons (cCall 2 (F_piece_of aR) (cCons (cVar 0) (cCons (cVar 3) cNil))) (cCons (cCall 2 (F_cell_behind aR) (cCons (cVar 0) (cCons (cVar 3) cNil))) (cCons (cCall 2 (F_cell_ahead aR) (cCons (cVar 0) (cCons (cVar 3) cNil))) cNil)))) (cVarV 10))) (cRet (cD (.bool false))) cSkip)) (shs (ks.map fun (c : Nat) => .int (c : Int))) (dS ps l m (some (.own (.list (backD ps l)))) o3 none none none none o9 o10 none none none src) =
    .ok .nx (dS ps l m (some (.own (.list (backD ps l)))) o3' none none none none o9 o10' none none none src)
  | [], o3, o10, _ => ⟨o3, o10, rfl⟩
  | c :: ks, o3, o10, h => by
    obtain ⟨o10a, e⟩ := dr6_body (aR := aR) (src := src) (o9 := o9) d (h c List.mem_cons_self) m o10
    obtain ⟨o3', o10', ih⟩ := dr6_loop d m ks (some (.sh (.int (c : Nat)))) o10a fun x hx => h x (List.mem_cons_of_mem _ hx)
    exact ⟨o3', o10', (forL_step (s1 := dS ps l m (some (.own (.list (backD ps l)))) (some (.sh (.int (c : Nat)))) none none none none o9 o10 none none none src) rfl e).trans ih⟩
def refT : D := .tuple [.str "refused", .str "cell", .int 0]
theorem try_exc {m ms : Sm} {C : Addr} {i : Nat} {s s1 s2 : S} {e : Ex} {r : SV} (h : m s = .exc e s1) (hc : e.cls = C) (hs : ms { s1 with sl := s1.sl.set i (some (.exn e.fs)) } = .ok (.ret r) s2) (h1 : (Fl.ret r).noExn = true := by rfl) (h2 : noExn (s2.sl.set i none) = true := by rfl) : cTry m C i ms s = .ok (.ret r) { s2 with sl := s2.sl.set i none } := by
  unfold cTry
  rw [h]
  dsimp only
  rw [if_pos hc, hs]
  simp only [Res.quiet, bnd_ok]
  rw [if_pos ⟨h1, h2⟩]
theorem told_refused {tab : Tab} {a : Addr} {F : Fd} {dl c : D} (hF : Excs F [.sh dl, .sh c] (refused aR)) (ht : tab a = some (2, F)) : Rets (F_law_told aR tab) [.fn a, .sh dl, .sh c] (.sh refT) := fun src => by
  have h1 := hF.callL (i := 0) (tab := tab) (c := a) (ga := cCons (cVar 1) (cCons (cVar 2) cNil)) (s := ⟨[some (.fn a), some (.sh dl), some (.sh c), none], src⟩) (s1 := ⟨[some (.fn a), some (.sh dl), some (.sh c), none], src⟩) rfl ht rfl
  have h2 : cRet (cTup (cCons (cD (.str "told")) (cCons (cCallL 0 tab (cCons (cVar 1) (cCons (cVar 2) cNil))) cNil))) ⟨[some (.fn a), some (.sh dl), some (.sh c), none], src⟩ = .exc (refused aR) ⟨[some (.fn a), some (.sh dl), some (.sh c), none], src⟩ := by
    refine ret_exc (tup_exc ?_)
    unfold cCons
    rw [show cD (.str "told") ⟨[some (.fn a), some (.sh dl), some (.sh c), none], src⟩ = .ok (.sh (.str "told")) ⟨[some (.fn a), some (.sh dl), some (.sh c), none], src⟩ from rfl, bnd_ok]
    have h3 := cons_exc (ga := cNil) h1
    unfold cCons at h3
    rw [h3]
    rfl
  have h4 : cRet (cTup (cCons (cD (.str "refused")) (cCons (cFld 3 "word") (cCons (cFld 3 "place") cNil)))) ⟨[some (.fn a), some (.sh dl), some (.sh c), some (.exn (refused aR).fs)], src⟩ = .ok (.ret (.sh refT)) ⟨[some (.fn a), some (.sh dl), some (.sh c), some (.exn (refused aR).fs)], src⟩ := by
    have w1 : cFld 3 "word" ⟨[some (.fn a), some (.sh dl), some (.sh c), some (.exn (refused aR).fs)], src⟩ = .ok (.sh (.str "cell")) ⟨[some (.fn a), some (.sh dl), some (.sh c), some (.exn (refused aR).fs)], src⟩ := by rfl
    have w2 : cFld 3 "place" ⟨[some (.fn a), some (.sh dl), some (.sh c), some (.exn (refused aR).fs)], src⟩ = .ok (.sh (.int 0)) ⟨[some (.fn a), some (.sh dl), some (.sh c), some (.exn (refused aR).fs)], src⟩ := by rfl
    exact ret_ok (tup_ok (cons_ok (f := cD (.str "refused")) rfl (cons_ok w1 (cons_ok w2 (show cNil _ = .ok [] _ from rfl)))) rfl (Nat.le_of_ble_eq_true rfl))
  exact ⟨_, run_ret (try_exc (i := 3) h2 rfl h4)⟩
theorem nice_ref : Nice refT 1 40 := ⟨by decide, by decide, by decide, by decide, by decide +kernel⟩
theorem dr7_one {tab : Tab} {a : Addr} {c : Int} {m : Option SV} (h : Rets (F_law_told aR tab) [.fn a, .sh (dealD ps l), .sh (.int c)] (.sh refT)) : cIfS (cT (cBinE dNe (cCall 3 (F_law_told aR tab) (cCons (cVar 4) (cCons (cVar 0) (cCons (cVar 3) cNil)))) (vE (cTup (cCons (cD (.str "refused")) (cCons (cD (.str "cell")) (cCons (cD (.int 0)) cNil))))))) (cRet (cD (.bool false))) cSkip (dS ps l m o2 (some (.sh (.int c))) (some (.fn a)) none none none o9 o10 none none none src) = .ok .nx (dS ps l m o2 (some (.sh (.int c))) (some (.fn a)) none none none o9 o10 none none none src) := by
  have h1 := h.call (n := 3) (ga := cCons (cVar 4) (cCons (cVar 0) (cCons (cVar 3) cNil))) (s := dS ps l m o2 (some (.sh (.int c))) (some (.fn a)) none none none o9 o10 none none none src) (s1 := dS ps l m o2 (some (.sh (.int c))) (some (.fn a)) none none none o9 o10 none none none src) rfl
  exact ifs_ff (t_ok (binE_ok h1 (show vE _ _ = .ok refT _ from rfl) rfl (ne_self nice_ref (by decide) rfl))) rfl
theorem dr7_in {tab : Tab} {a : Addr} {m : Option SV} : ∀ (cs : List Int) (o3 : Option SV), (∀ c ∈ cs, Rets (F_law_told aR tab) [.fn a, .sh (dealD ps l), .sh (.int c)] (.sh refT)) → ∃ o3', forL (gNm 3) (cIfS (cT (cBinE dNe (cCall 3 (F_law_told aR tab) (cCons (cVar 4) (cCons (cVar 0) (cCons (cVar 3) cNil)))) (vE (cTup (cCons (cD (.str "refused")) (cCons (cD (.str "cell")) (cCons (cD (.int 0)) cNil))))))) (cRet (cD (.bool false))) cSkip) (shs (cs.map .int)) (dS ps l m o2 o3 (some (.fn a)) none none none o9 o10 none none none src) = .ok .nx (dS ps l m o2 o3' (some (.fn a)) none none none o9 o10 none none none src)
  | [], o3, _ => ⟨o3, rfl⟩
  | c :: cs, o3, h => by
    obtain ⟨o3', ih⟩ := dr7_in cs (some (.sh (.int c))) fun x hx => h x (List.mem_cons_of_mem _ hx)
    exact ⟨o3', (forL_step (s1 := dS ps l m o2 (some (.sh (.int c))) (some (.fn a)) none none none o9 o10 none none none src) rfl (dr7_one (h c List.mem_cons_self))).trans ih⟩
theorem dr7_body {tab : Tab} {a : Addr} (o3 : Option SV) (h : ∀ c : Int, ¬ (0 ≤ c ∧ c < tot ps) → Rets (F_law_told aR tab) [.fn a, .sh (dealD ps l), .sh (.int c)] (.sh refT)) (ht : 0 ≤ tot ps ∧ tot ps ≤ 100000) : ∃ o3', cFor (cIt (cTup (cCons (cVar 1) (cCons (cBinV dAdd 1 (vE (cD (.int 1)))) (cCons (cBinE dPow (cD (.int 10)) (vE (cD (.int 30)))) cNil))))) (gNm 3) (cIfS (cT (cBinE dNe (cCall 3 (F_law_told aR tab) (cCons (cVar 4) (cCons (cVar 0) (cCons (cVar 3) cNil)))) (vE (cTup (cCons (cD (.str "refused")) (cCons (cD (.str "cell")) (cCons (cD (.int 0)) cNil))))))) (cRet (cD (.bool false))) cSkip) (dS ps l (some (.sh (.int (tot ps)))) o2 o3 (some (.fn a)) none none none o9 o10 none none none src) = .ok .nx (dS ps l (some (.sh (.int (tot ps)))) o2 o3' (some (.fn a)) none none none o9 o10 none none none src) := by
  obtain ⟨o3', e⟩ := dr7_in (aR := aR) (o2 := o2) (o9 := o9) (o10 := o10) (src := src) (tab := tab) (a := a) (m := some (.sh (.int (tot ps)))) [tot ps, tot ps + 1, 10 ^ 30] o3 fun c hc => h c (by
    simp only [List.mem_cons, List.not_mem_nil, or_false] at hc
    have : (10 : Int) ^ 30 = 1000000000000000000000000000000 := by decide
    rcases hc with rfl | rfl | rfl <;> omega)
  exact ⟨o3', for_ok (by rfl) e⟩
theorem dr7 {tab : Tab} {a1 a2 a3 : Addr} (d : SDeal ps l) (h1 : tab a1 = some (2, F_piece_of aR)) (h2 : tab a2 = some (2, F_cell_behind aR)) (h3 : tab a3 = some (2, F_cell_ahead aR)) (o3 o4 : Option SV) : ∃ o3' o4', cFor (cIt (cTupF (cCons (cFn a1) (cCons (cFn a2) (cCons (cFn a3) cNil))))) (gNm 4) (cFor (cIt (cTup (cCons (cVar 1) (cCons (cBinV dAdd 1 (vE (cD (.int 1)))) (cCons (cBinE dPow (cD (.int 10)) (vE (cD (.int 30)))) cNil))))) (gNm 3) (cIfS (cT (cBinE dNe (cCall 3 (F_law_told aR tab) (cCons (cVar 4) (cCons (cVar 0) (cCons (cVar 3) cNil)))) (vE (cTup (cCons (cD (.str "refused")) (cCons (cD (.str "cell")) (cCons (cD (.int 0)) cNil))))))) (cRet (cD (.bool false))) cSkip)) (dS ps l (some (.sh (.int (tot ps)))) o2 o3 o4 none none none o9 o10 none none none src) = .ok .nx (dS ps l (some (.sh (.int (tot ps)))) o2 o3' o4' none none none o9 o10 none none none src) := by
  have ht := d.tot
  obtain ⟨x1, e1⟩ := dr7_body (aR := aR) (l := l) (o2 := o2) (o9 := o9) (o10 := o10) (src := src) (tab := tab) (a := a1) o3 (fun c hc => told_refused (piece_of_no aR d.d.few hc) h1) ht
  obtain ⟨x2, e2⟩ := dr7_body (aR := aR) (l := l) (o2 := o2) (o9 := o9) (o10 := o10) (src := src) (tab := tab) (a := a2) x1 (fun c hc => told_refused (cell_behind_no aR d.d.few hc) h2) ht
  obtain ⟨x3, e3⟩ := dr7_body (aR := aR) (l := l) (o2 := o2) (o9 := o9) (o10 := o10) (src := src) (tab := tab) (a := a3) x2 (fun c hc => told_refused (cell_ahead_no aR d.d hc) h3) ht
  refine ⟨x3, some (.fn a3), for_ok (ds := [.fn a1, .fn a2, .fn a3]) rfl ?_⟩
  rw [forL_step (s1 := dS ps l (some (.sh (.int (tot ps)))) o2 o3 (some (.fn a1)) none none none o9 o10 none none none src) rfl e1]
  rw [forL_step (s1 := dS ps l (some (.sh (.int (tot ps)))) o2 x1 (some (.fn a2)) none none none o9 o10 none none none src) rfl e2]
  rw [forL_step (s1 := dS ps l (some (.sh (.int (tot ps)))) o2 x2 (some (.fn a3)) none none none o9 o10 none none none src) rfl e3]
  rfl
end
end Law
end Pw
set_option Elab.async false
set_option linter.all false
set_option maxRecDepth 100000
namespace Pw
namespace Law
open PySem PySem.Spec PyProof.Rows L2
theorem reprs_ne {a b : D} {k n : Nat} (h : Nice a k n) (hk : k ≤ 40) (hn : n ≤ 16000000) (e : a = b) {f g : Vw} {s s1 s2 : S} (h1 : f s = .ok a s1) (h2 : g s1 = .ok b s2) : cT (cBinE dNe (cCall1 dRepr f) (vE (cCall1 dRepr g))) s = .ok false s2 := by
  subst e
  have e1 := call1_ok (g := dRepr) h1 (h.repr hk hn)
  have e2 := vE_ok (call1_ok (g := dRepr) h2 (h.repr hk hn)) rfl
  refine t_ok (binE_ok e1 e2 rfl ?_)
  exact ne_self (k := 0) (n := (PyData.shown (.str a.shown)).length) ⟨rfl, rfl, rfl, Nat.le_refl _, Nat.le_refl _⟩ (by decide) rfl
theorem eq_self {a b : D} {k n : Nat} (h : Nice a k n) (hk : k ≤ 40) (e : a = b) : dEq a b = some (.sh (.bool true)) := by
  subst e
  rw [h.eq h hk, h.refl]
theorem reprs_eq {a b : D} {k n : Nat} (h : Nice a k n) (hk : k ≤ 40) (hn : n ≤ 16000000) (e : a = b) {f g : Vw} {s s1 s2 : S} (h1 : f s = .ok a s1) (h2 : g s1 = .ok b s2) : cBinE dEq (cCall1 dRepr f) (vE (cCall1 dRepr g)) s = .ok (.sh (.bool true)) s2 := by
  subst e
  have e1 := call1_ok (g := dRepr) h1 (h.repr hk hn)
  have e2 := vE_ok (call1_ok (g := dRepr) h2 (h.repr hk hn)) rfl
  refine binE_ok e1 e2 rfl ?_
  exact eq_self (k := 0) (n := (PyData.shown (.str a.shown)).length) ⟨rfl, rfl, rfl, Nat.le_refl _, Nat.le_refl _⟩ (by decide) rfl
section
variable {aT aR : Addr} {ps : Pr} {l : List Str} {src : Option Src} {o1 o2 o3 o4 o5 o6 o7 o9 o10 o13 o14 o15 : Option SV}
theorem laid_comp (o1 o2 o3 o4 o5 o6 o7 o9 o10 : Option SV) (hk : ∀ n ∈ l, n ∈ ps.map (·.1)) : ∀ (ns : List Str) (acc : List D), (∀ n ∈ ns, n ∈ ps.map (·.1)) → acc.length + ns.length ≤ 1000 → compL (gNm 13) cYes (cTup (cCons (cVar 13) (cCons (cBinV dIx 8 (cVarV 13)) cNil))) [13] (shs (ns.map .str)) acc (dS ps l o1 o2 o3 o4 o5 o6 o7 o9 o10 none none none src) = .ok (acc ++ (lp ps ns).map pD) (dS ps l o1 o2 o3 o4 o5 o6 o7 o9 o10 none none none src)
  | [], acc, _, _ => by simp [compL, shs, lp]
  | n :: ns, acc, hn, h => by
    have ih := laid_comp o1 o2 o3 o4 o5 o6 o7 o9 o10 hk ns (acc ++ [pD (n, sz ps n)]) (fun x hx => hn x (List.mem_cons_of_mem _ hx)) (by simp at h ⊢; omega)
    have h4 : acc.length < sizeLine := by rw [sizeLine_eq]; simp at h; omega
    have he : cTup (cCons (cVar 13) (cCons (cBinV dIx 8 (cVarV 13)) cNil)) (dS ps l o1 o2 o3 o4 o5 o6 o7 o9 o10 (some (.sh (.str n))) none none src) = .ok (.sh (pD (n, sz ps n))) (dS ps l o1 o2 o3 o4 o5 o6 o7 o9 o10 (some (.sh (.str n))) none none src) :=
      tup_ok (cons_ok (s1 := dS ps l o1 o2 o3 o4 o5 o6 o7 o9 o10 (some (.sh (.str n))) none none src) rfl (cons_ok (binV_ok (i := 8) (s := dS ps l o1 o2 o3 o4 o5 o6 o7 o9 o10 (some (.sh (.str n))) none none src) rfl rfl rfl (kv_ix (hn n List.mem_cons_self))) rfl)) rfl (Nat.le_of_ble_eq_true rfl)
    refine (compL_step (g := gNm 13) (d := .sh (.str n)) (s := dS ps l o1 o2 o3 o4 o5 o6 o7 o9 o10 none none none src) (vs := [13]) rfl he rfl h4).trans ?_
    simp only [List.append_assoc, List.singleton_append] at ih
    exact ih
theorem dr8 (d : SDeal ps l) : cAsg (cComp (cIt (cBinV dIx 0 (vE (cD (.int 1))))) (gNm 13) cYes (cTup (cCons (cVar 13) (cCons (cBinV dIx 8 (cVarV 13)) cNil))) [13]) (gNm 5) (dS ps l o1 o2 o3 o4 o5 o6 o7 o9 o10 none none none src) = .ok .nx (dS ps l o1 o2 o3 o4 (some (.own (.list ((lp ps l).map pD)))) o6 o7 o9 o10 none none none src) := by
  have ll : l.length ≤ 1000 := by rw [d.d.perm.length_eq, List.length_map]; exact d.d.few
  have hk : ∀ n ∈ l, n ∈ ps.map (·.1) := fun n h => d.d.perm.mem_iff.mp h
  have c := comp_ok (f := cIt (cBinV dIx 0 (vE (cD (.int 1))))) (s := dS ps l o1 o2 o3 o4 o5 o6 o7 o9 o10 none none none src) (s1 := dS ps l o1 o2 o3 o4 o5 o6 o7 o9 o10 none none none src) (vs := [13]) rfl (laid_comp (src := src) o1 o2 o3 o4 o5 o6 o7 o9 o10 hk l [] hk (by simpa using ll))
  exact nm_ok c
theorem begs_in : ∀ (b : Int) (ps : Pr), (∀ p ∈ ps, 0 ≤ p.2) → ∀ p ∈ begs b ps, b ≤ p.2 ∧ p.2 ≤ b + tot ps
  | _, [], _, _, h => by simp [begs] at h
  | b, (n, m) :: ps, nn, p, h => by
    have h0 := nn (n, m) List.mem_cons_self
    have ht := tot_nn fun q hq => nn q (List.mem_cons_of_mem _ hq)
    have e : tot ((n, m) :: ps) = m + tot ps := tot_cons _ _
    rw [e]
    dsimp only at h0
    rcases List.mem_cons.mp h with rfl | h
    · dsimp only
      omega
    · have := begs_in (b + m) ps (fun q hq => nn q (List.mem_cons_of_mem _ hq)) p h
      omega
theorem nice_items (d : SDeal ps l) : Nice (.list (itemsD (kvD (begs 0 ps)))) 2 3004 := by
  have hl := begs_len 0 ps
  have ht := d.tot
  have h2 := d.len
  have e : itemsD (kvD (begs 0 ps)) = (begs 0 ps).map pD := by
    unfold kvD itemsD
    rw [List.map_map]
    rfl
  rw [e]
  refine (Nice.list (k := 1) (n := 28) fun x hx => ?_).mono (Nat.le_refl _) (by rw [List.length_map]; omega)
  obtain ⟨p, hp, rfl⟩ := List.mem_map.mp hx
  have hb := begs_in 0 ps d.d.nn p hp
  have hn : (PyData.shown (.str p.1)).length ≤ 10 := by
    have : p.1 ∈ ps.map (·.1) := by
      rw [← begs_fst 0 ps]
      exact List.mem_map_of_mem hp
    obtain ⟨q, hq, e⟩ := List.mem_map.mp this
    rw [← e]
    exact d.nm q hq
  refine (Nice.tuple (ds := [.str p.1, .int p.2]) (k := 0) (n := 10) fun x hx => ?_).mono (Nat.le_refl _) (by simp)
  simp only [List.mem_cons, List.not_mem_nil, or_false] at hx
  have e : (10 : Int) ^ 10 = 10000000000 := by decide
  rcases hx with rfl | rfl
  · exact .str hn
  · exact Nice.int hb.1 (by omega) (by decide) (by decide)
theorem items_ok {f : Vw} {kv : List (D × D)} {s s1 : S} (h : f s = .ok (.dict kv) s1) : cItems f s = .ok (.own (.list (itemsD kv))) s1 := by unfold cItems; rw [h]; rfl
theorem dr9 (d : SDeal ps l) : cIfS (cT (cBinE dNe (cItems (vE (cCall 1 F_first_cells (cCons (cVar 0) cNil)))) (vE (cItems (vE (cCall 1 F_law_begins (cCons (cBinV dIx 0 (vE (cD (.int 0)))) cNil))))))) (cRet (cD (.bool false))) cSkip (dS ps l o1 o2 o3 o4 o5 o6 o7 o9 o10 o13 o14 o15 src) = .ok .nx (dS ps l o1 o2 o3 o4 o5 o6 o7 o9 o10 o13 o14 o15 src) := by
  generalize hs : dS ps l o1 o2 o3 o4 o5 o6 o7 o9 o10 o13 o14 o15 src = s
  have a1 := items_ok (vE_ok ((first_cells_ok l d.d.nd d.d.few).call (n := 1) (ga := cCons (cVar 0) cNil) (s := s) (s1 := s) (by subst hs; rfl)) rfl)
  have a2 := items_ok (vE_ok ((begins_ok (d := psD ps) rfl d.d.nd d.d.few).call (n := 1) (ga := cCons (cBinV dIx 0 (vE (cD (.int 0)))) cNil) (s := s) (s1 := s) (by subst hs; rfl)) rfl)
  exact ifs_ff (t_ok (binE_ok a1 (vE_ok a2 rfl) rfl (ne_self (nice_items d) (by decide) rfl))) rfl
theorem dr10 (d : SDeal ps l) : cIfS (cT (cBinE dNe (cItems (vE (cCall 1 F_laid_cells (cCons (cVar 0) cNil)))) (vE (cItems (vE (cCall 1 F_law_begins (cCons (cVar 5) cNil))))))) (cRet (cD (.bool false))) cSkip (dS ps l o1 o2 o3 o4 (some (.own (.list ((lp ps l).map pD)))) o6 o7 o9 o10 o13 o14 o15 src) = .ok .nx (dS ps l o1 o2 o3 o4 (some (.sh (.list ((lp ps l).map pD)))) o6 o7 o9 o10 o13 o14 o15 src) := by
  generalize hs : dS ps l o1 o2 o3 o4 (some (.own (.list ((lp ps l).map pD)))) o6 o7 o9 o10 o13 o14 o15 src = s
  generalize hs2 : dS ps l o1 o2 o3 o4 (some (.sh (.list ((lp ps l).map pD)))) o6 o7 o9 o10 o13 o14 o15 src = s2
  have a1 := items_ok (vE_ok ((laid_cells_ok d.d.nd d.d.perm d.d.few).call (n := 1) (ga := cCons (cVar 0) cNil) (s := s) (s1 := s) (by subst hs; rfl)) rfl)
  have a2 := items_ok (vE_ok ((begins_ok (ps := lp ps l) (d := .list ((lp ps l).map pD)) rfl d.d.und.nd d.d.und.few).call (n := 1) (ga := cCons (cVar 5) cNil) (s := s) (s1 := s2) (by subst hs; subst hs2; rfl)) rfl)
  exact ifs_ff (t_ok (binE_ok a1 (vE_ok a2 rfl) rfl (ne_self (nice_items d.und) (by decide) rfl))) rfl
theorem dr11 (d : SDeal ps l) : cAsg (cCall 1 F_deal_undone (cCons (cVar 0) cNil)) (gNm 6) (dS ps l o1 o2 o3 o4 o5 o6 o7 o9 o10 o13 o14 o15 src) = .ok .nx (dS ps l o1 o2 o3 o4 o5 (some (.sh (dealD (lp ps l) (ps.map (·.1))))) o7 o9 o10 o13 o14 o15 src) :=
  nm_ok ((undone_ok d.d.nd d.d.perm d.d.few).call (n := 1) (ga := cCons (cVar 0) cNil) (s := dS ps l o1 o2 o3 o4 o5 o6 o7 o9 o10 o13 o14 o15 src) (s1 := dS ps l o1 o2 o3 o4 o5 o6 o7 o9 o10 o13 o14 o15 src) rfl)
theorem names_comp (o1 o2 o3 o4 o5 o6 o7 o9 o10 o14 : Option SV) : ∀ (qs : Pr) (acc : List D), acc.length + qs.length ≤ 1000 → compL (gTp (gsCons (gNm 13) (gsCons (gNm 15) gsNil))) cYes (cVar 13) [13, 15] (shs (qs.map pD)) acc (dS ps l o1 o2 o3 o4 o5 o6 o7 o9 o10 none o14 none src) = .ok (acc ++ qs.map fun p => .str p.1) (dS ps l o1 o2 o3 o4 o5 o6 o7 o9 o10 none o14 none src)
  | [], acc, _ => by simp [compL, shs]
  | p :: qs, acc, h => by
    have ih := names_comp o1 o2 o3 o4 o5 o6 o7 o9 o10 o14 qs (acc ++ [.str p.1]) (by simp at h ⊢; omega)
    have h4 : acc.length < sizeLine := by rw [sizeLine_eq]; simp at h; omega
    refine (compL_step (g := gTp (gsCons (gNm 13) (gsCons (gNm 15) gsNil))) (d := .sh (pD p)) (f := cVar 13) (s := dS ps l o1 o2 o3 o4 o5 o6 o7 o9 o10 none o14 none src) (s1 := dS ps l o1 o2 o3 o4 o5 o6 o7 o9 o10 (some (.sh (.str p.1))) o14 (some (.sh (.int p.2))) src) (vs := [13, 15]) rfl rfl rfl h4).trans ?_
    simp only [List.append_assoc, List.singleton_append] at ih
    exact ih
theorem dr12 (d : SDeal ps l) : cIfS (cT (cBinE dNe (cCall1 dRepr (cVarV 6)) (vE (cCall1 dRepr (vE (cTup (cCons (cCall1 dTuple (cVarV 5)) (cCons (cCall1 dTuple (vE (cComp (cIt (cBinV dIx 0 (vE (cD (.int 0))))) (gTp (gsCons (gNm 13) (gsCons (gNm 15) gsNil))) cYes (cVar 13) [13, 15]))) cNil)))))))) (cRet (cD (.bool false))) cSkip (dS ps l o1 o2 o3 o4 (some (.sh (.list ((lp ps l).map pD)))) (some (.sh (dealD (lp ps l) (ps.map (·.1))))) o7 o9 o10 none o14 none src) = .ok .nx (dS ps l o1 o2 o3 o4 (some (.sh (.list ((lp ps l).map pD)))) (some (.sh (dealD (lp ps l) (ps.map (·.1))))) o7 o9 o10 none o14 none src) := by
  generalize hs : dS ps l o1 o2 o3 o4 (some (.sh (.list ((lp ps l).map pD)))) (some (.sh (dealD (lp ps l) (ps.map (·.1))))) o7 o9 o10 none o14 none src = s
  have c := comp_ok (f := cIt (cBinV dIx 0 (vE (cD (.int 0))))) (s := s) (s1 := s) (vs := [13, 15]) (by subst hs; rfl) ((by subst hs; exact names_comp (ps := ps) (l := l) (src := src) o1 o2 o3 o4 _ _ o7 o9 o10 o14 ps [] (by simpa using d.d.few)) : compL (gTp (gsCons (gNm 13) (gsCons (gNm 15) gsNil))) cYes (cVar 13) [13, 15] (shs (ps.map pD)) [] (wipeS [13, 15] s) = .ok ([] ++ ps.map fun p => .str p.1) s)
  have c' : cComp (cIt (cBinV dIx 0 (vE (cD (.int 0))))) (gTp (gsCons (gNm 13) (gsCons (gNm 15) gsNil))) cYes (cVar 13) [13, 15] s = .ok (.own (.list (ps.map fun p => .str p.1))) s := c.trans (by subst hs; rfl)
  have t5 : cCall1 dTuple (cVarV 5) s = .ok (.sh (psD (lp ps l))) s := by subst hs; rfl
  have e := tup_ok (cons_ok t5 (cons_ok (call1_ok (g := dTuple) (vE_ok c' rfl) rfl) (show cNil s = .ok [] s from rfl))) rfl (Nat.le_of_ble_eq_true rfl)
  have h9 : PyData.tuple [.tuple ((lp ps l).map pD), .tuple (ps.map fun p => .str p.1)] = dealD (lp ps l) (ps.map (·.1)) := by simp [dealD, psD, Function.comp_def]
  have v6 : cVarV 6 s = .ok (dealD (lp ps l) (ps.map (·.1))) s := by subst hs; rfl
  exact ifs_ff (reprs_ne d.und.nice (by decide) (by decide) h9.symm v6 (vE_ok e rfl)) rfl
theorem goes_und (d : SDeal ps l) : goesD (lp ps l) (ps.map (·.1)) = backD ps l := by
  unfold goesD backD
  rw [d.d.und_und]
theorem dr13 (d : SDeal ps l) : cIfS (cOr (cT (cBinE dNe (cCall1 dRepr (vE (cBinE dIx (cCall 1 F_law_goes (cCons (cVar 6) cNil)) (vE (cD (.int 0)))))) (vE (cCall1 dRepr (cVarV 2))))) (cT (cBinE dNe (cCall1 dRepr (vE (cCall 1 F_deal_undone (cCons (cVar 6) cNil)))) (vE (cCall1 dRepr (cVarV 0)))))) (cRet (cD (.bool false))) cSkip (dS ps l o1 (some (.own (.list (backD ps l)))) o3 o4 o5 (some (.sh (dealD (lp ps l) (ps.map (·.1))))) o7 o9 o10 o13 o14 o15 src) = .ok .nx (dS ps l o1 (some (.own (.list (backD ps l)))) o3 o4 o5 (some (.sh (dealD (lp ps l) (ps.map (·.1))))) o7 o9 o10 o13 o14 o15 src) := by
  have ht := d.und.tot
  generalize hs : dS ps l o1 (some (.own (.list (backD ps l)))) o3 o4 o5 (some (.sh (dealD (lp ps l) (ps.map (·.1))))) o7 o9 o10 o13 o14 o15 src = s
  have h6 : cCons (cVar 6) cNil s = .ok [.sh (dealD (lp ps l) (ps.map (·.1)))] s := by subst hs; rfl
  have h1 := (law_goes_ok d.d.und (by omega)).call (n := 1) h6
  have h2 : cBinE dIx (cCall 1 F_law_goes (cCons (cVar 6) cNil)) (vE (cD (.int 0))) s = .ok (.sh (.list (goesD (lp ps l) (ps.map (·.1))))) s := binE_ok h1 (show vE (cD (.int 0)) s = .ok (.int 0) s from rfl) rfl rfl
  have e2 : cVarV 2 s = .ok (.list (backD ps l)) s := by subst hs; rfl
  have h5 := (undone_ok d.d.und.nd d.d.und.perm d.d.und.few).call (n := 1) h6
  rw [d.d.und_und, lp_fst] at h5
  have v0 : cVarV 0 s = .ok (dealD ps l) s := by subst hs; rfl
  exact ifs_ff (or_ff (reprs_ne (nice_goes d.und) (by decide) (by decide) (by rw [goes_und d]) (vE_ok h2 rfl) e2) (reprs_ne d.nice (by decide) (by decide) rfl (vE_ok h5 rfl) v0)) rfl
theorem fullp_comp (o1 o2 o3 o4 o5 o6 o7 o9 o10 : Option SV) : ∀ (qs : Pr) (acc : List D), acc.length + qs.length ≤ 1000 → compL (gNm 14) (cT (cBinE dGt (cBinV dIx 14 (vE (cD (.int 1)))) (vE (cD (.int 0))))) (cVar 14) [14] (shs (qs.map pD)) acc (dS ps l o1 o2 o3 o4 o5 o6 o7 o9 o10 none none none src) = .ok (acc ++ (fullP qs).map pD) (dS ps l o1 o2 o3 o4 o5 o6 o7 o9 o10 none none none src)
  | [], acc, _ => by simp [compL, shs, fullP]
  | p :: qs, acc, h => by
    have h4 : acc.length < sizeLine := by rw [sizeLine_eq]; simp at h; omega
    have hc : cT (cBinE dGt (cBinV dIx 14 (vE (cD (.int 1)))) (vE (cD (.int 0)))) (dS ps l o1 o2 o3 o4 o5 o6 o7 o9 o10 none (some (.sh (pD p))) none src) = .ok (decide (p.2 > 0)) (dS ps l o1 o2 o3 o4 o5 o6 o7 o9 o10 none (some (.sh (pD p))) none src) := rfl
    by_cases hp : p.2 > 0
    · have ih := fullp_comp o1 o2 o3 o4 o5 o6 o7 o9 o10 qs (acc ++ [pD p]) (by simp at h ⊢; omega)
      rw [decide_eq_true hp] at hc
      have e : fullP (p :: qs) = p :: fullP qs := by simp [fullP, hp]
      rw [e]
      refine (compL_keep (g := gNm 14) (d := .sh (pD p)) (s := dS ps l o1 o2 o3 o4 o5 o6 o7 o9 o10 none none none src) (vs := [14]) rfl hc (show cVar 14 _ = _ from rfl) rfl h4).trans ?_
      simp only [List.append_assoc, List.singleton_append] at ih
      exact ih
    · have ih := fullp_comp o1 o2 o3 o4 o5 o6 o7 o9 o10 qs acc (by simp at h ⊢; omega)
      rw [decide_eq_false hp] at hc
      have e : fullP (p :: qs) = fullP qs := by simp [fullP, hp]
      rw [e]
      exact (compL_drop (g := gNm 14) (d := .sh (pD p)) (s := dS ps l o1 o2 o3 o4 o5 o6 o7 o9 o10 none none none src) (vs := [14]) rfl hc).trans ih
theorem fulln_comp (o1 o2 o3 o4 o5 o6 o7 o9 o10 : Option SV) : ∀ (ns : List Str) (acc : List D), (∀ n ∈ ns, n ∈ ps.map (·.1)) → acc.length + ns.length ≤ 1000 → compL (gNm 13) (cT (cBinE dGt (cBinV dIx 8 (cVarV 13)) (vE (cD (.int 0))))) (cVar 13) [13] (shs (ns.map .str)) acc (dS ps l o1 o2 o3 o4 o5 o6 o7 o9 o10 none none none src) = .ok (acc ++ (fullL ps ns).map .str) (dS ps l o1 o2 o3 o4 o5 o6 o7 o9 o10 none none none src)
  | [], acc, _, _ => by simp [compL, shs, fullL]
  | n :: ns, acc, hn, h => by
    have h4 : acc.length < sizeLine := by rw [sizeLine_eq]; simp at h; omega
    have hc : cT (cBinE dGt (cBinV dIx 8 (cVarV 13)) (vE (cD (.int 0)))) (dS ps l o1 o2 o3 o4 o5 o6 o7 o9 o10 (some (.sh (.str n))) none none src) = .ok (decide (sz ps n > 0)) (dS ps l o1 o2 o3 o4 o5 o6 o7 o9 o10 (some (.sh (.str n))) none none src) :=
      t_ok (binE_ok (binV_ok (i := 8) (s := dS ps l o1 o2 o3 o4 o5 o6 o7 o9 o10 (some (.sh (.str n))) none none src) rfl rfl rfl (kv_ix (hn n List.mem_cons_self))) rfl rfl (dGt_int _ _))
    by_cases hp : sz ps n > 0
    · have ih := fulln_comp o1 o2 o3 o4 o5 o6 o7 o9 o10 ns (acc ++ [.str n]) (fun x hx => hn x (List.mem_cons_of_mem _ hx)) (by simp at h ⊢; omega)
      rw [decide_eq_true hp] at hc
      have e : fullL ps (n :: ns) = n :: fullL ps ns := by simp [fullL, hp]
      rw [e]
      refine (compL_keep (g := gNm 13) (d := .sh (.str n)) (s := dS ps l o1 o2 o3 o4 o5 o6 o7 o9 o10 none none none src) (vs := [13]) rfl hc (show cVar 13 _ = _ from rfl) rfl h4).trans ?_
      simp only [List.append_assoc, List.singleton_append] at ih
      exact ih
    · have ih := fulln_comp o1 o2 o3 o4 o5 o6 o7 o9 o10 ns acc (fun x hx => hn x (List.mem_cons_of_mem _ hx)) (by simp at h ⊢; omega)
      rw [decide_eq_false hp] at hc
      have e : fullL ps (n :: ns) = fullL ps ns := by simp [fullL, hp]
      rw [e]
      exact (compL_drop (g := gNm 13) (d := .sh (.str n)) (s := dS ps l o1 o2 o3 o4 o5 o6 o7 o9 o10 none none none src) (vs := [13]) rfl hc).trans ih
theorem dr14 (d : SDeal ps l) : cAsg (cTup (cCons (cCall1 dTuple (vE (cComp (cIt (cBinV dIx 0 (vE (cD (.int 0))))) (gNm 14) (cT (cBinE dGt (cBinV dIx 14 (vE (cD (.int 1)))) (vE (cD (.int 0))))) (cVar 14) [14]))) (cCons (cCall1 dTuple (vE (cComp (cIt (cBinV dIx 0 (vE (cD (.int 1))))) (gNm 13) (cT (cBinE dGt (cBinV dIx 8 (cVarV 13)) (vE (cD (.int 0))))) (cVar 13) [13]))) cNil))) (gNm 7) (dS ps l o1 o2 o3 o4 o5 o6 o7 o9 o10 none none none src) = .ok .nx (dS ps l o1 o2 o3 o4 o5 o6 (some (.sh (dealD (fullP ps) (fullL ps l)))) o9 o10 none none none src) := by
  have ll : l.length ≤ 1000 := by rw [d.d.perm.length_eq, List.length_map]; exact d.d.few
  have hk : ∀ n ∈ l, n ∈ ps.map (·.1) := fun n h => d.d.perm.mem_iff.mp h
  have c1 := comp_ok (f := cIt (cBinV dIx 0 (vE (cD (.int 0))))) (s := dS ps l o1 o2 o3 o4 o5 o6 o7 o9 o10 none none none src) (s1 := dS ps l o1 o2 o3 o4 o5 o6 o7 o9 o10 none none none src) (vs := [14]) rfl (fullp_comp (ps := ps) (l := l) (src := src) o1 o2 o3 o4 o5 o6 o7 o9 o10 ps [] (by simpa using d.d.few))
  have c2 := comp_ok (f := cIt (cBinV dIx 0 (vE (cD (.int 1))))) (s := dS ps l o1 o2 o3 o4 o5 o6 o7 o9 o10 none none none src) (s1 := dS ps l o1 o2 o3 o4 o5 o6 o7 o9 o10 none none none src) (vs := [13]) rfl (fulln_comp (ps := ps) (l := l) (src := src) o1 o2 o3 o4 o5 o6 o7 o9 o10 l [] hk (by simpa using ll))
  exact nm_ok (tup_ok (cons_ok (call1_ok (g := dTuple) (vE_ok c1 rfl) rfl) (cons_ok (call1_ok (g := dTuple) (vE_ok c2 rfl) rfl) (show cNil (dS ps l o1 o2 o3 o4 o5 o6 o7 o9 o10 none none none src) = .ok [] _ from rfl))) rfl (Nat.le_of_ble_eq_true rfl))
theorem dr15 (d : SDeal ps l) : cRet (cAndV (cBinE dEq (cCall1 dRepr (vE (cCall 1 F_deal_full (cCons (cVar 0) cNil)))) (vE (cCall1 dRepr (cVarV 7)))) (cBinE dEq (cCall1 dRepr (vE (cCall 1 F_law_goes (cCons (cVar 7) cNil)))) (vE (cCall1 dRepr (vE (cCall 1 F_law_goes (cCons (cVar 0) cNil))))))) (dS ps l o1 o2 o3 o4 o5 o6 (some (.sh (dealD (fullP ps) (fullL ps l)))) o9 o10 o13 o14 o15 src) = .ok (.ret (.sh (.bool true))) (dS ps l o1 o2 o3 o4 o5 o6 (some (.sh (dealD (fullP ps) (fullL ps l)))) o9 o10 o13 o14 o15 src) := by
  have ht := d.tot
  have ht2 := d.full.tot
  generalize hs : dS ps l o1 o2 o3 o4 o5 o6 (some (.sh (dealD (fullP ps) (fullL ps l)))) o9 o10 o13 o14 o15 src = s
  have h0 : cCons (cVar 0) cNil s = .ok [.sh (dealD ps l)] s := by subst hs; rfl
  have h7 : cCons (cVar 7) cNil s = .ok [.sh (dealD (fullP ps) (fullL ps l))] s := by subst hs; rfl
  have v7 : cVarV 7 s = .ok (dealD (fullP ps) (fullL ps l)) s := by subst hs; rfl
  have a1 := reprs_eq d.full.nice (by decide) (by decide) rfl (vE_ok ((deal_full_ok d.d).call (n := 1) h0) rfl) v7
  have e : PyData.tuple [.list (goesD (fullP ps) (fullL ps l)), .list ((lettersOf (fullP ps)).map .str)] = .tuple [.list (goesD ps l), .list ((lettersOf ps).map .str)] := by rw [full_goes d.d, full_letters d.d.nn]
  have a2 := reprs_eq (nice_both d.full) (by decide) (by decide) e (vE_ok ((law_goes_ok d.full.d (by omega)).call (n := 1) h7) rfl) (vE_ok ((law_goes_ok d.d (by omega)).call (n := 1) h0) rfl)
  exact ret_ok (andV_tt a1 a2)
theorem dr6 (d : SDeal ps l) : ∃ o3' o10', cFor (cRange1 (cCons (cVar 1) cNil)) (gNm 3) (cSeq (cAsg (cLst (cCons (cBinV dIx 12 (cVarV 3)) (cCons (cBinV dIx 11 (cVarV 3)) (cCons (cBinV dIx 2 (cVarV 3)) cNil)))) (gNm 10)) (cIfS (cT (cBinE dNe (cLst (cCons (cCall 2 (F_piece_of aR) (cCons (cVar 0) (cCons (cVar 3) cNil))) (cCons (cCall 2 (F_cell_behind aR) (cCons (cVar 0) (cCons (cVar 3) cNil))) (cCons (cCall 2 (F_cell_ahead aR) (cCons (cVar 0) (cCons (cVar 3) cNil))) cNil)))) (cVarV 10))) (cRet (cD (.bool false))) cSkip)) (dS ps l (some (.sh (.int (tot ps)))) (some (.own (.list (backD ps l)))) o3 none none none none o9 o10 none none none src) =
    .ok .nx (dS ps l (some (.sh (.int (tot ps)))) (some (.own (.list (backD ps l)))) o3' none none none none o9 o10' none none none src) := by
  have ht := d.tot
  obtain ⟨o3', o10', e⟩ := dr6_loop (aR := aR) (src := src) (o9 := o9) d (some (.sh (.int (tot ps)))) (List.range (tot ps).toNat) o3 o10 fun c hc => by
    have := List.mem_range.mp hc
    omega
  refine ⟨o3', o10', for_ok (f := cRange1 (cCons (cVar 1) cNil)) (ds := shs ((List.range (tot ps).toNat).map fun (c : Nat) => .int (c : Int))) (s1 := dS ps l (some (.sh (.int (tot ps)))) (some (.own (.list (backD ps l)))) o3 none none none none o9 o10 none none none src) ?_ e⟩
  refine (show cRange1 (cCons (cVar 1) cNil) _ = (if -(2 ^ 62) ≤ tot ps ∧ tot ps < 2 ^ 62 then Res.ok (shs (rgD 0 (tot ps).toNat)) _ else .err) from rfl).trans ?_
  rw [if_pos (by omega)]
  congr 2
  unfold rgD
  congr 1
  funext i
  simp
end
theorem law_deal_right_ok {aT aR a1 a2 a3 : Addr} {tab : Tab} {ps : Pr} {l : List Str} (d : SDeal ps l) (h1 : tab a1 = some (2, F_piece_of aR)) (h2 : tab a2 = some (2, F_cell_behind aR)) (h3 : tab a3 = some (2, F_cell_ahead aR)) : Rets (F_law_deal_right aT aR a1 a2 a3 tab) [.sh (dealD ps l)] (.sh (.bool true)) := fun src => by
  obtain ⟨o3, o9, e5⟩ := dr5 (src := src) d (some (.sh (.int (tot ps))))
  obtain ⟨o3', o10, e6⟩ := dr6 (aR := aR) (src := src) (o3 := o3) (o9 := o9) (o10 := none) d
  obtain ⟨o3'', o4, e7⟩ := dr7 (aR := aR) (src := src) (o2 := some (.own (.list (backD ps l)))) (o9 := o9) (o10 := o10) d h1 h2 h3 o3' none
  exact ⟨_, run_ret (seq_nx (dr1 d) (seq_nx (dr2 d) (seq_nx (dr3 d) (seq_nx (dr4 d) (seq_nx e5 (seq_nx e6 (seq_nx e7 (seq_nx (dr8 d) (seq_nx (dr9 d) (seq_nx (dr10 d) (seq_nx (dr11 d) (seq_nx (dr12 d) (seq_nx (dr13 d) (seq_nx (dr14 d) (dr15 d)))))))))))))))⟩
end Law
end Pw
set_option Elab.async false
set_option linter.all false
set_option maxRecDepth 100000
namespace Pw
namespace Law
open PySem PySem.Spec PyProof.Rows L2
/-! ### _law_deal -/
theorem perm_erase {α : Type} : ∀ {l : List α} {i : Nat} (h : i < l.length), (l[i] :: l.eraseIdx i).Perm l
  | x :: l, 0, _ => .refl _
  | x :: l, i + 1, h => by
    have ih := perm_erase (l := l) (i := i) (by simpa using h)
    simp only [List.getElem_cons_succ, List.eraseIdx_cons_succ]
    exact (List.Perm.swap _ _ _).trans (ih.cons x)
theorem erase_map {α β : Type} (f : α → β) : ∀ (l : List α) (i : Nat), (l.map f).eraseIdx i = (l.eraseIdx i).map f
  | [], _ => rfl
  | x :: l, 0 => rfl
  | x :: l, i + 1 => by
    simp only [List.map_cons, List.eraseIdx_cons_succ, erase_map f l i]
theorem meth_ok {i : Nat} {ty : String} {g : D → List D → Option (D × SV)} {ga : Ag} {s s1 : S} {rs : List SV} {ds : List D} {d0 dO dO' : D} {r : SV} (h0 : s.sl[i]? = some (some (.own d0))) (ht : tyD ty d0 = true) (ha : ga s = .ok rs s1) (h1 : s1.sl[i]? = some (some (.own dO))) (hd : datas rs = some ds) (hg : g dO ds = some (dO', r)) : cMeth i ty g ga s = .ok r { s1 with sl := s1.sl.set i (some (.own dO')) } := by
  unfold cMeth
  rw [h0]
  dsimp only
  rw [if_pos ht, ha, bnd_ok, h1, hd]
  dsimp only
  rw [hg]
theorem pick_at {j : Nat} {f : Ev} {s : S} {sr : Src} {many : Int} {r : SV} (h0 : s.sl[j]? = some (some .src)) (hs : s.src = some sr) (hi : SrcIn sr) (hf : f s = .ok r s) (hr : r.settle = .sh (.int many)) (hm : many < 2 ^ 62) : ∃ v sr', cCall 2 F_law_pick (cCons (cVar j) (cCons f cNil)) s = .ok (.sh (.int v)) ⟨s.sl, some sr'⟩ ∧ PickIn many v ∧ SrcIn sr' := by
  have hv : cVar j s = .ok .src s := by unfold cVar; rw [h0]
  have ha : cCons (cVar j) (cCons f cNil) s = .ok [.src, .sh (.int many)] s := by
    have := cons_ok hv (cons_ok hf (show cNil s = .ok [] s from rfl))
    rw [hr] at this
    exact this
  obtain ⟨r', sr', e, ⟨v, rfl, p⟩, i⟩ := (pick_draws hm).call (n := 2) ha hs hi
  exact ⟨v, sr', e, p, i⟩
theorem of_at {j : Nat} {f : Ev} {s : S} {sr : Src} {xs : List D} {r : SV} (h0 : s.sl[j]? = some (some .src)) (hs : s.src = some sr) (hi : SrcIn sr) (hf : f s = .ok r s) (hr : r.settle = .sh (.list xs)) (hm : xs ≠ []) (hl : xs.length ≤ 1000) : ∃ x sr', cCall 2 F_law_of (cCons (cVar j) (cCons f cNil)) s = .ok (.sh x) ⟨s.sl, some sr'⟩ ∧ x ∈ xs ∧ SrcIn sr' := by
  have hv : cVar j s = .ok .src s := by unfold cVar; rw [h0]
  have ha : cCons (cVar j) (cCons f cNil) s = .ok [.src, .sh (.list xs)] s := by
    have := cons_ok hv (cons_ok hf (show cNil s = .ok [] s from rfl))
    rw [hr] at this
    exact this
  obtain ⟨r', sr', e, ⟨x, hx, rfl⟩, i⟩ := (of_draws hm hl).call (n := 2) ha hs hi
  exact ⟨x, sr', e, hx, i⟩
abbrev lS (m c st : Int) (o4 o5 o6 o7 o8 o9 o10 o11 o12 : Option SV) (sr : Src) : S :=
  ⟨[some .src, some (.sh (.int m)), some (.sh (.int c)), some (.sh (.int st)), o4, o5, o6, o7, o8, o9, o10, o11, o12], some sr⟩
theorem pop_at (j : Nat) {s : S} {sr : Src} {ns : List Str} (hj : s.sl[j]? = some (some (.own (.list (ns.map .str))))) (h0 : s.sl[0]? = some (some .src)) (hs : s.src = some sr) (hi : SrcIn sr) (hn : ns ≠ []) (hl : ns.length ≤ 1000) : ∃ n ns' sr', cMeth j "list" mPop (cCons (cCall 2 F_law_pick (cCons (cVar 0) (cCons (cCall1 dLen (cVarV j)) cNil))) cNil) s = .ok (.sh (.str n)) ⟨s.sl.set j (some (.own (.list (ns'.map .str)))), some sr'⟩ ∧ (n :: ns').Perm ns ∧ SrcIn sr' := by
  have hv : cVarV j s = .ok (.list (ns.map .str)) s := by unfold cVarV; rw [hj]
  have hlen : cCall1 dLen (cVarV j) s = .ok (.sh (.int (ns.length : Nat))) s := call1_ok hv (by simp [dLen])
  obtain ⟨v, sr', e, p, i⟩ := pick_at (j := 0) h0 hs hi hlen rfl (by omega)
  have hp : 0 < ns.length := List.length_pos_iff.mpr hn
  have hv0 := p.1
  have hvl : v.toNat < ns.length := by
    rcases p.2 with h | ⟨h, h'⟩ <;> omega
  have hg : mPop (.list (ns.map .str)) [.int v] = some (.list ((ns.eraseIdx v.toNat).map .str), .sh (.str ns[v.toNat])) := by
    unfold mPop
    dsimp only
    rw [if_pos ⟨hv0, by omega⟩, List.getElem?_map, List.getElem?_eq_getElem hvl, erase_map]
    rfl
  have ha := cons_ok (ga := cNil) e (show cNil _ = .ok [] ⟨s.sl, some sr'⟩ from rfl)
  exact ⟨ns[v.toNat], ns.eraseIdx v.toNat, sr', meth_ok (i := j) (ty := "list") hj rfl ha hj rfl hg, perm_erase hvl, i⟩
def base : List Str := ["p", "q", "a", "b", "r", "c", "x", "z"]
theorem base_nd : base.Nodup := by decide +kernel
theorem base_nm : ∀ n ∈ base, (PyData.shown (.str n)).length ≤ 10 := by decide +kernel
theorem ld_body {m c st : Int} {o4 o7 : Option SV} {sr : Src} {ns : List Str} {ps : Pr} (hi : SrcIn sr) (hn : ns ≠ []) (hl : ns.length ≤ 8) (hp : ps.length ≤ 8) (hc : 0 ≤ c ∧ c ≤ 7) (hst : 1 ≤ st ∧ st ≤ 3) : ∃ n k ns' sr', cSeq (cAsg (cMeth 5 "list" mPop (cCons (cCall 2 F_law_pick (cCons (cVar 0) (cCons (cCall1 dLen (cVarV 5)) cNil))) cNil)) (gNm 7)) (cExpr (cMeth 6 "list" mAppend (cCons (cTup (cCons (cVar 7) (cCons (cBinV dMul 3 (vE (cCall 2 F_law_pick (cCons (cVar 0) (cCons (cBinE dAdd (cBinV dFdiv 2 (cVarV 3)) (vE (cD (.int 1)))) cNil))))) cNil))) cNil))) (lS m c st o4 (some (.own (.list (ns.map .str)))) (some (.own (.list (ps.map pD)))) o7 none none none none none sr) =
    .ok .nx (lS m c st o4 (some (.own (.list (ns'.map .str)))) (some (.own (.list ((ps ++ [(n, k)]).map pD)))) (some (.sh (.str n))) none none none none none sr') ∧ (n :: ns').Perm ns ∧ SrcIn sr' ∧ 0 ≤ k ∧ k ≤ 1000 := by
  obtain ⟨n, ns', sr1, e1, hperm, i1⟩ := pop_at 5 (s := lS m c st o4 (some (.own (.list (ns.map .str)))) (some (.own (.list (ps.map pD)))) o7 none none none none none sr) (ns := ns) rfl rfl rfl hi hn (by omega)
  generalize hs : lS m c st o4 (some (.own (.list (ns'.map .str)))) (some (.own (.list (ps.map pD)))) (some (.sh (.str n))) none none none none none sr1 = s1
  have h1 : cAsg (cMeth 5 "list" mPop (cCons (cCall 2 F_law_pick (cCons (cVar 0) (cCons (cCall1 dLen (cVarV 5)) cNil))) cNil)) (gNm 7) (lS m c st o4 (some (.own (.list (ns.map .str)))) (some (.own (.list (ps.map pD)))) o7 none none none none none sr) = .ok .nx s1 := by
    subst hs
    exact nm_ok e1
  have hd : dFdiv (.int c) (.int st) = some (.sh (.int (c / st))) := by
    unfold dFdiv
    dsimp only
    rw [if_pos ⟨by omega, by
      refine Nat.lt_of_le_of_lt (?_ : _ ≤ 3) (by decide)
      by_cases h : st.natAbs = 0
      · rw [h]; decide
      · exact Nat.le_of_lt ((Nat.log2_lt h).mpr (by omega))⟩]
  have hq0 : 0 ≤ c / st := Int.ediv_nonneg hc.1 (by omega)
  have hq1 : c / st ≤ 7 := Int.le_trans (Int.ediv_le_self _ hc.1) hc.2
  have v3 : cVarV 3 s1 = .ok (.int st) s1 := by subst hs; rfl
  have hf : cBinE dAdd (cBinV dFdiv 2 (cVarV 3)) (vE (cD (.int 1))) s1 = .ok (.sh (.int (c / st + 1))) s1 :=
    binE_ok (binV_ok (i := 2) (r := .sh (.int c)) (by subst hs; rfl) v3 (by subst hs; rfl) hd) (show vE (cD (.int 1)) s1 = .ok (.int 1) s1 from rfl) rfl rfl
  obtain ⟨v, sr2, e2, p, i2⟩ := pick_at (j := 0) (s := s1) (sr := sr1) (by subst hs; rfl) (by subst hs; rfl) i1 hf rfl (by omega)
  have hv : 0 ≤ v ∧ v ≤ 7 := by
    obtain ⟨p0, p1⟩ := p
    omega
  have hmul : dMul (.int st) (.int v) = some (.sh (.int (st * v))) := by
    unfold dMul
    dsimp only
    rw [if_pos (mulFits_r (by unfold smallI; simp only [Bool.and_eq_true, decide_eq_true_eq]; omega))]
  have h0 : 0 ≤ st * v := Int.mul_nonneg (by omega) hv.1
  have h9 : st * v ≤ 3 * 7 := Int.mul_le_mul hst.2 hv.2 hv.1 (by decide)
  have e3 : cTup (cCons (cVar 7) (cCons (cBinV dMul 3 (vE (cCall 2 F_law_pick (cCons (cVar 0) (cCons (cBinE dAdd (cBinV dFdiv 2 (cVarV 3)) (vE (cD (.int 1)))) cNil))))) cNil)) s1 = .ok (.sh (pD (n, st * v))) ⟨s1.sl, some sr2⟩ :=
    tup_ok (cons_ok (s1 := s1) (r := .sh (.str n)) (by subst hs; rfl) (cons_ok (binV_ok (i := 3) (r := .sh (.int st)) (by subst hs; rfl) (vE_ok e2 rfl) (by subst hs; rfl) hmul) (show cNil _ = .ok [] ⟨s1.sl, some sr2⟩ from rfl))) rfl (Nat.le_of_ble_eq_true rfl)
  have ha := cons_ok (ga := cNil) e3 (show cNil _ = .ok [] ⟨s1.sl, some sr2⟩ from rfl)
  have hg : mAppend (.list (ps.map pD)) [pD (n, st * v)] = some (.list ((ps ++ [(n, st * v)]).map pD), .sh .none) := by
    unfold mAppend
    dsimp only
    rw [if_pos (by rw [List.length_map, sizeLine_eq]; omega), List.map_append]
    rfl
  have e4 := meth_ok (i := 6) (ty := "list") (d0 := .list (ps.map pD)) (by subst hs; rfl) rfl ha (by subst hs; rfl) rfl hg
  refine ⟨n, st * v, ns', sr2, seq_nx h1 ?_, hperm, i2, h0, by omega⟩
  subst hs
  exact expr_ok e4
theorem ld_loop {m c st : Int} (hc : 0 ≤ c ∧ c ≤ 7) (hst : 1 ≤ st ∧ st ≤ 3) : ∀ (laps : List SV) (ns : List Str) (ps : Pr) (o4 o7 : Option SV) (sr : Src), SrcIn sr → (ps.map (·.1) ++ ns).Perm base → ps.length + laps.length ≤ 8 → (∀ p ∈ ps, 0 ≤ p.2 ∧ p.2 ≤ 1000) → ∃ (ns' : List Str) (ps' : Pr) (o4' o7' : Option SV) (sr' : Src), forL (gNm 4) (cSeq (cAsg (cMeth 5 "list" mPop (cCons (cCall 2 F_law_pick (cCons (cVar 0) (cCons (cCall1 dLen (cVarV 5)) cNil))) cNil)) (gNm 7)) (cExpr (cMeth 6 "list" mAppend (cCons (cTup (cCons (cVar 7) (cCons (cBinV dMul 3 (vE (cCall 2 F_law_pick (cCons (cVar 0) (cCons (cBinE dAdd (cBinV dFdiv 2 (cVarV 3)) (vE (cD (.int 1)))) cNil))))) cNil))) cNil)))) laps (lS m c st o4 (some (.own (.list (ns.map .str)))) (some (.own (.list (ps.map pD)))) o7 none none none none none sr) =
    .ok .nx (lS m c st o4' (some (.own (.list (ns'.map .str)))) (some (.own (.list (ps'.map pD)))) o7' none none none none none sr') ∧ SrcIn sr' ∧ (ps'.map (·.1) ++ ns').Perm base ∧ ps'.length ≤ 8 ∧ (∀ p ∈ ps', 0 ≤ p.2 ∧ p.2 ≤ 1000) ∧ ps'.length = ps.length + laps.length
  | [], ns, ps, o4, o7, sr, hi, hp, hl, hb => ⟨ns, ps, o4, o7, sr, rfl, hi, hp, by simpa using hl, hb, rfl⟩
  | d :: laps, ns, ps, o4, o7, sr, hi, hp, hl, hb => by
    have h8 : ps.length + ns.length = 8 := by
      have := hp.length_eq
      rw [List.length_append, List.length_map] at this
      exact this
    rw [List.length_cons] at hl
    have hn : ns ≠ [] := by
      intro z
      rw [z] at h8
      simp at h8
      omega
    obtain ⟨n, k, ns1, sr1, e, hperm, i1, k0, k1⟩ := ld_body (m := m) (c := c) (st := st) (o4 := some d) (o7 := o7) (ps := ps) hi hn (by omega) (by omega) hc hst
    have hp1 : ((ps ++ [(n, k)]).map (·.1) ++ ns1).Perm base := by
      refine List.Perm.trans ?_ hp
      rw [List.map_append, List.append_assoc]
      exact List.Perm.append_left _ hperm
    obtain ⟨ns', ps', o4', o7', sr', e', r1, r2, r3, r4, r5⟩ := ld_loop hc hst laps ns1 (ps ++ [(n, k)]) (some d) (some (.sh (.str n))) sr1 i1 hp1 (by rw [List.length_append]; simp; omega) (fun p h => by
      rcases List.mem_append.mp h with h | h
      · exact hb p h
      · rcases List.mem_singleton.mp h with rfl
        exact ⟨k0, k1⟩)
    refine ⟨ns', ps', o4', o7', sr', (forL_step (s1 := lS m c st (some d) (some (.own (.list (ns.map .str)))) (some (.own (.list (ps.map pD)))) o7 none none none none none sr) rfl e).trans e', r1, r2, r3, r4, ?_⟩
    rw [r5, List.length_append, List.length_cons]
    simp
    omega
theorem ld_names (m c st : Int) (o4 o5 o6 o8 o9 o10 o11 : Option SV) (sr : Src) : ∀ (qs : Pr) (acc : List D), acc.length + qs.length ≤ 1000 → compL (gTp (gsCons (gNm 7) (gsCons (gNm 12) gsNil))) cYes (cVar 7) [7, 12] (shs (qs.map pD)) acc (lS m c st o4 o5 o6 none o8 o9 o10 o11 none sr) = .ok (acc ++ qs.map fun p => .str p.1) (lS m c st o4 o5 o6 none o8 o9 o10 o11 none sr)
  | [], acc, _ => by simp [compL, shs]
  | p :: qs, acc, h => by
    have ih := ld_names m c st o4 o5 o6 o8 o9 o10 o11 sr qs (acc ++ [.str p.1]) (by simp at h ⊢; omega)
    have h4 : acc.length < sizeLine := by rw [sizeLine_eq]; simp at h; omega
    refine (compL_step (g := gTp (gsCons (gNm 7) (gsCons (gNm 12) gsNil))) (d := .sh (pD p)) (f := cVar 7) (s := lS m c st o4 o5 o6 none o8 o9 o10 o11 none sr) (s1 := lS m c st o4 o5 o6 (some (.sh (.str p.1))) o8 o9 o10 o11 (some (.sh (.int p.2))) sr) (vs := [7, 12]) rfl rfl rfl h4).trans ?_
    simp only [List.append_assoc, List.singleton_append] at ih
    exact ih
theorem ld_rest {m c st : Int} {o5 o6 o7 o8 o9 o10 o12 : Option SV} : ∀ (ds : List SV) (rest : List Str) (acc : List D) (sr : Src), SrcIn sr → ds.length ≤ rest.length → acc.length + rest.length ≤ 8 → ∃ (out rest' : List Str) (sr' : Src), compL (gNm 4) cYes (cMeth 11 "list" mPop (cCons (cCall 2 F_law_pick (cCons (cVar 0) (cCons (cCall1 dLen (cVarV 11)) cNil))) cNil)) [4] ds acc (lS m c st none o5 o6 o7 o8 o9 o10 (some (.own (.list (rest.map .str)))) o12 sr) =
    .ok (acc ++ out.map .str) (lS m c st none o5 o6 o7 o8 o9 o10 (some (.own (.list (rest'.map .str)))) o12 sr') ∧ (out ++ rest').Perm rest ∧ rest'.length + ds.length = rest.length ∧ SrcIn sr'
  | [], rest, acc, sr, hi, _, _ => ⟨[], rest, sr, by simp [compL], by simp, by simp, hi⟩
  | d :: ds, rest, acc, sr, hi, hd, hl => by
    rw [List.length_cons] at hd
    have hn : rest ≠ [] := by
      intro z
      rw [z] at hd
      simp at hd
    obtain ⟨n, rest1, sr1, e, hperm, i1⟩ := pop_at 11 (s := lS m c st (some d) o5 o6 o7 o8 o9 o10 (some (.own (.list (rest.map .str)))) o12 sr) (ns := rest) rfl rfl rfl hi hn (by omega)
    have hl1 := hperm.length_eq
    rw [List.length_cons] at hl1
    have h4 : acc.length < sizeLine := by rw [sizeLine_eq]; omega
    obtain ⟨out, rest', sr', e', hp, hn', i'⟩ := ld_rest (m := m) (c := c) (st := st) (o5 := o5) (o6 := o6) (o7 := o7) (o8 := o8) (o9 := o9) (o10 := o10) (o12 := o12) ds rest1 (acc ++ [.str n]) sr1 i1 (by omega) (by rw [List.length_append]; simp; omega)
    refine ⟨n :: out, rest', sr', ?_, (hp.cons n).trans hperm, by rw [List.length_cons]; omega, i'⟩
    rw [List.append_assoc] at e'
    exact (compL_step (g := gNm 4) (d := d) (s := lS m c st none o5 o6 o7 o8 o9 o10 (some (.own (.list (rest.map .str)))) o12 sr) (s1 := lS m c st (some d) o5 o6 o7 o8 o9 o10 (some (.own (.list (rest.map .str)))) o12 sr) (vs := [4]) rfl e rfl h4).trans e'
theorem dEq_int (i j : Int) : dEq (.int i) (.int j) = some (.sh (.bool (decide (i = j)))) := by
  simp only [dEq, eqOk, PyData.eqv]
  rfl
theorem ld_way {m c st w : Int} {o4 o5 o6 o7 : Option SV} {L : List Str} {sr : Src} (hi : SrcIn sr) (hw : 0 ≤ w ∧ w < 4) (hn : L ≠ []) (hl : L.length ≤ 8) : ∃ (l' : List Str) (o10 o11 : Option SV) (sr' : Src), cIfS (cT (cBinV dEq 9 (vE (cD (.int 0))))) (cAsg (cRev (cVarV 8)) (gNm 8)) (cIfS (cT (cBinV dEq 9 (vE (cD (.int 1))))) (cSeq (cAsg (cCall 2 F_law_pick (cCons (cVar 0) (cCons (cCall1 dLen (cVarV 8)) cNil))) (gNm 10)) (cAsg (cBinE dAdd (cSlV 8 (some (cVarV 10)) none) (vE (cSlV 8 none (some (cVarV 10))))) (gNm 8))) (cSeq (cAsg (cMv 8) (gNm 11)) (cAsg (cComp (cRange1 (cCons (cCall1 dLen (cVarV 11)) cNil)) (gNm 4) cYes (cMeth 11 "list" mPop (cCons (cCall 2 F_law_pick (cCons (cVar 0) (cCons (cCall1 dLen (cVarV 11)) cNil))) cNil)) [4]) (gNm 8)))) (lS m c st o4 o5 o6 o7 (some (.own (.list (L.map .str)))) (some (.sh (.int w))) none none none sr) =
    .ok .nx (lS m c st o4 o5 o6 o7 (some (.own (.list (l'.map .str)))) (some (.sh (.int w))) o10 o11 none sr') ∧ l'.Perm L ∧ SrcIn sr' := by
  have hpos : 0 < L.length := List.length_pos_iff.mpr hn
  have w0 : cT (cBinV dEq 9 (vE (cD (.int 0)))) (lS m c st o4 o5 o6 o7 (some (.own (.list (L.map .str)))) (some (.sh (.int w))) none none none sr) = .ok (decide (w = 0)) (lS m c st o4 o5 o6 o7 (some (.own (.list (L.map .str)))) (some (.sh (.int w))) none none none sr) := t_ok (binV_ok (i := 9) (r := .sh (.int w)) rfl rfl rfl (dEq_int _ _))
  have w1 : cT (cBinV dEq 9 (vE (cD (.int 1)))) (lS m c st o4 o5 o6 o7 (some (.own (.list (L.map .str)))) (some (.sh (.int w))) none none none sr) = .ok (decide (w = 1)) (lS m c st o4 o5 o6 o7 (some (.own (.list (L.map .str)))) (some (.sh (.int w))) none none none sr) := t_ok (binV_ok (i := 9) (r := .sh (.int w)) rfl rfl rfl (dEq_int _ _))
  by_cases h0 : w = 0
  · rw [decide_eq_true h0] at w0
    refine ⟨L.reverse, none, none, sr, ifs_tt w0 ?_, L.reverse_perm, hi⟩
    rw [List.map_reverse]
    rfl
  rw [decide_eq_false h0] at w0
  by_cases h1 : w = 1
  · rw [decide_eq_true h1] at w1
    obtain ⟨k, sr', e, p, i'⟩ := pick_at (j := 0) (f := cCall1 dLen (cVarV 8)) (s := lS m c st o4 o5 o6 o7 (some (.own (.list (L.map .str)))) (some (.sh (.int w))) none none none sr) (many := (L.length : Nat)) rfl rfl hi (call1_ok (g := dLen) (d := .list (L.map .str)) (r := .sh (.int (L.length : Nat))) rfl (by simp [dLen])) rfl (by omega)
    have hk : 0 ≤ k ∧ k.toNat < L.length := by
      obtain ⟨p0, p1⟩ := p
      omega
    have hS1 : dSl (.list (L.map .str)) (some k) none = some (.own (.list ((L.drop k.toNat).map .str))) := by
      have e1 : HT.sIx (L.map PyData.str).length 0 (some k) = k.toNat := by
        simp only [HT.sIx, List.length_map]
        rw [if_neg (by omega)]
        omega
      have e2 : HT.sIx (L.map PyData.str).length (L.map PyData.str).length none = L.length := by simp [HT.sIx]
      show some (SV.own (.list (cutD _ _ _))) = _
      unfold cutD
      rw [e1, e2, ← List.map_drop, ← List.map_take, List.take_of_length_le (by rw [List.length_drop]; omega)]
    have hS2 : dSl (.list (L.map .str)) none (some k) = some (.own (.list ((L.take k.toNat).map .str))) := by
      have e1 : HT.sIx (L.map PyData.str).length (L.map PyData.str).length (some k) = k.toNat := by
        simp only [HT.sIx, List.length_map]
        rw [if_neg (by omega)]
        omega
      have e2 : HT.sIx (L.map PyData.str).length 0 none = 0 := by simp [HT.sIx]
      show some (SV.own (.list (cutD _ _ _))) = _
      unfold cutD
      rw [e1, e2, List.drop_zero, Nat.sub_zero, ← List.map_take]
    have hA : dAdd (.list ((L.drop k.toNat).map .str)) (.list ((L.take k.toNat).map .str)) = some (.own (.list ((L.drop k.toNat ++ L.take k.toNat).map .str))) := by
      unfold dAdd
      dsimp only
      rw [if_pos (by simp only [List.length_map, List.length_drop, List.length_take, sizeLine_eq]; omega), List.map_append]
    refine ⟨L.drop k.toNat ++ L.take k.toNat, some (.sh (.int k)), none, sr', ifs_ff w0 (ifs_tt w1 (seq_nx (nm_ok e) (nm_ok (binE_ok (r := .own (.list ((L.drop k.toNat).map .str))) (s := lS m c st o4 o5 o6 o7 (some (.own (.list (L.map .str)))) (some (.sh (.int w))) (some (.sh (.int k))) none none sr') (s1 := lS m c st o4 o5 o6 o7 (some (.own (.list (L.map .str)))) (some (.sh (.int w))) (some (.sh (.int k))) none none sr') (s2 := lS m c st o4 o5 o6 o7 (some (.own (.list (L.map .str)))) (some (.sh (.int w))) (some (.sh (.int k))) none none sr') ?_ (vE_ok (r := .own (.list ((L.take k.toNat).map .str))) ?_ rfl) rfl hA)))), ?_, i'⟩
    · show Res.opt (dSl (.list (L.map .str)) (some k) none) _ = _
      rw [hS1]
      rfl
    · show Res.opt (dSl (.list (L.map .str)) none (some k)) _ = _
      rw [hS2]
      rfl
    · exact List.perm_append_comm.trans (by rw [List.take_append_drop])
  rw [decide_eq_false h1] at w1
  have hr : cRange1 (cCons (cCall1 dLen (cVarV 11)) cNil) (lS m c st o4 o5 o6 o7 none (some (.sh (.int w))) none (some (.own (.list (L.map .str)))) none sr) = .ok (shs (rgD 0 L.length)) (lS m c st o4 o5 o6 o7 none (some (.sh (.int w))) none (some (.own (.list (L.map .str)))) none sr) := by
    have e : cCons (cCall1 dLen (cVarV 11)) cNil (lS m c st o4 o5 o6 o7 none (some (.sh (.int w))) none (some (.own (.list (L.map .str)))) none sr) = .ok [.sh (.int (L.length : Nat))] (lS m c st o4 o5 o6 o7 none (some (.sh (.int w))) none (some (.own (.list (L.map .str)))) none sr) := cons_ok (call1_ok (g := dLen) (d := .list (L.map .str)) (r := .sh (.int (L.length : Nat))) rfl (by simp [dLen])) rfl
    unfold cRange1
    rw [e, bnd_ok]
    dsimp only
    rw [if_pos (by omega), Int.toNat_natCast]
  obtain ⟨out, rest', sr', e, hp, hn', i'⟩ := ld_rest (m := m) (c := c) (st := st) (o5 := o5) (o6 := o6) (o7 := o7) (o8 := none) (o9 := some (.sh (.int w))) (o10 := none) (o12 := none) (shs (rgD 0 L.length)) L [] sr hi (by simp [shs, rgD]) (by simpa using hl)
  have hz : rest' = [] := by
    have : (shs (rgD 0 L.length)).length = L.length := by simp [shs, rgD]
    exact List.length_eq_zero_iff.mp (by omega)
  subst hz
  have e2 := comp_ok (f := cRange1 (cCons (cCall1 dLen (cVarV 11)) cNil)) (s := lS m c st o4 o5 o6 o7 none (some (.sh (.int w))) none (some (.own (.list (L.map .str)))) none sr) hr e
  exact ⟨out, none, _, sr', ifs_ff w0 (ifs_ff w1 (seq_nx (s1 := lS m c st o4 o5 o6 o7 none (some (.sh (.int w))) none (some (.own (.list (L.map .str)))) none sr) rfl (nm_ok e2))), by simpa using hp, i'⟩
def DealIn (r : SV) : Prop := ∃ ps l, r = .sh (dealD ps l) ∧ SDeal ps l
theorem law_deal_draws {m c : Int} (hm : 1 ≤ m ∧ m ≤ 8) (hc : 0 ≤ c ∧ c ≤ 7) : Draws F_law_deal [.src, .sh (.int m), .sh (.int c)] DealIn := fun sr hi => by
  generalize hs0 : (⟨[some .src, some (.sh (.int m)), some (.sh (.int c)), none, none, some (.own (.list (base.map .str))), some (.own (.list [])), none, none, none, none, none, none], some sr⟩ : S) = s0
  have e0 : cPar [5, 6] (cConsR (cLst (cCons (cD (.str "p")) (cCons (cD (.str "q")) (cCons (cD (.str "a")) (cCons (cD (.str "b")) (cCons (cD (.str "r")) (cCons (cD (.str "c")) (cCons (cD (.str "x")) (cCons (cD (.str "z")) cNil))))))))) (cConsR (cLst cNil) cNil)) ⟨padS 13 [.src, .sh (.int m), .sh (.int c)], some sr⟩ = .ok .nx s0 := by
    subst hs0
    rfl
  obtain ⟨x, sr1, e1, hx, i1⟩ := of_at (j := 0) (f := cLst (cCons (cD (.int 1)) (cCons (cD (.int 1)) (cCons (cD (.int 1)) (cCons (cD (.int 2)) (cCons (cD (.int 3)) cNil)))))) (s := s0) (sr := sr) (xs := [.int 1, .int 1, .int 1, .int 2, .int 3]) (r := .own (.list [.int 1, .int 1, .int 1, .int 2, .int 3])) (by subst hs0; rfl) (by subst hs0; rfl) hi rfl rfl (by simp) (by simp)
  obtain ⟨st, rfl, hst⟩ : ∃ st : Int, x = .int st ∧ 1 ≤ st ∧ st ≤ 3 := by
    simp only [List.mem_cons, List.not_mem_nil, or_false] at hx
    rcases hx with rfl | rfl | rfl | rfl | rfl
    · exact ⟨1, rfl, by decide⟩
    · exact ⟨1, rfl, by decide⟩
    · exact ⟨1, rfl, by decide⟩
    · exact ⟨2, rfl, by decide⟩
    · exact ⟨3, rfl, by decide⟩
  generalize hs1 : lS m c st none (some (.own (.list (base.map .str)))) (some (.own (.list []))) none none none none none none sr1 = s1
  have e1' : cAsg (cCall 2 F_law_of (cCons (cVar 0) (cCons (cLst (cCons (cD (.int 1)) (cCons (cD (.int 1)) (cCons (cD (.int 1)) (cCons (cD (.int 2)) (cCons (cD (.int 3)) cNil)))))) cNil))) (gNm 3) s0 = .ok .nx s1 := by
    subst hs1
    subst hs0
    exact nm_ok e1
  obtain ⟨v, sr2, e2, pv, i2⟩ := pick_at (j := 0) (f := cVar 1) (s := s1) (sr := sr1) (many := m) (r := .sh (.int m)) (by subst hs1; rfl) (by subst hs1; rfl) i1 (by subst hs1; rfl) rfl (by omega)
  have hv : 0 ≤ v ∧ v ≤ 7 := by
    obtain ⟨p0, p1⟩ := pv
    omega
  have e3 : cRange1 (cCons (cBinE dAdd (cD (.int 1)) (vE (cCall 2 F_law_pick (cCons (cVar 0) (cCons (cVar 1) cNil))))) cNil) s1 = .ok (shs (rgD 0 (1 + v).toNat)) ⟨s1.sl, some sr2⟩ := by
    have := cons_ok (ga := cNil) (binE_ok (fa := cD (.int 1)) (s := s1) rfl (vE_ok e2 rfl) rfl (show dAdd (.int 1) (.int v) = some (.sh (.int (1 + v))) from rfl)) (show cNil _ = .ok [] ⟨s1.sl, some sr2⟩ from rfl)
    unfold cRange1
    rw [this, bnd_ok]
    dsimp only [SV.settle]
    rw [if_pos (by omega)]
  have hlap : (shs (rgD 0 (1 + v).toNat)).length = (1 + v).toNat := by simp [shs, rgD]
  obtain ⟨ns', ps, o4, o7, sr3, e4, i3, hp, hl, hb, hlen⟩ := ld_loop (m := m) hc hst (shs (rgD 0 (1 + v).toNat)) base [] none none sr2 i2 (by simp) (by rw [hlap]; simp; omega) (by simp)
  have hsl : s1.sl = (lS m c st none (some (.own (.list (base.map .str)))) (some (.own (.list []))) none none none none none none sr2).sl := by subst hs1; rfl
  rw [hsl] at e3
  rw [List.length_nil, hlap] at hlen
  have hL : (ps.map (·.1)) ≠ [] := by
    intro z
    have := congrArg List.length z
    simp at this
    rw [this] at hlen
    simp at hlen
    omega
  have hLl : (ps.map (·.1)).length ≤ 8 := by rw [List.length_map]; exact hl
  generalize hs4 : lS m c st o4 (some (.own (.list (ns'.map .str)))) (some (.sh (.list (ps.map pD)))) o7 none none none none none sr3 = s4
  have e5 : cComp (cIt (cVar 6)) (gTp (gsCons (gNm 7) (gsCons (gNm 12) gsNil))) cYes (cVar 7) [7, 12] (lS m c st o4 (some (.own (.list (ns'.map .str)))) (some (.own (.list (ps.map pD)))) o7 none none none none none sr3) = .ok (.own (.list ((ps.map (·.1)).map .str))) s4 := by
    have e := comp_ok (f := cIt (cVar 6)) (s := lS m c st o4 (some (.own (.list (ns'.map .str)))) (some (.own (.list (ps.map pD)))) o7 none none none none none sr3) (s1 := lS m c st o4 (some (.own (.list (ns'.map .str)))) (some (.sh (.list (ps.map pD)))) o7 none none none none none sr3) (vs := [7, 12]) rfl (ld_names m c st o4 (some (.own (.list (ns'.map .str)))) (some (.sh (.list (ps.map pD)))) none none none none sr3 ps [] (by simp; omega))
    rw [List.map_map]
    subst hs4
    exact e
  obtain ⟨w, sr4, e6, pw, i4⟩ := pick_at (j := 0) (f := cD (.int 4)) (s := s4) (sr := sr3) (many := 4) (r := .sh (.int 4)) (by subst hs4; rfl) (by subst hs4; rfl) i3 rfl rfl (by decide)
  have hw : 0 ≤ w ∧ w < 4 := by
    obtain ⟨p0, p1⟩ := pw
    omega
  have e7 : cPar [8, 9] (cConsR (cComp (cIt (cVar 6)) (gTp (gsCons (gNm 7) (gsCons (gNm 12) gsNil))) cYes (cVar 7) [7, 12]) (cConsR (cCall 2 F_law_pick (cCons (cVar 0) (cCons (cD (.int 4)) cNil))) cNil)) (lS m c st o4 (some (.own (.list (ns'.map .str)))) (some (.own (.list (ps.map pD)))) o7 none none none none none sr3) = .ok .nx (lS m c st o4 (some (.own (.list (ns'.map .str)))) (some (.sh (.list (ps.map pD)))) o7 (some (.own (.list ((ps.map (·.1)).map .str)))) (some (.sh (.int w))) none none none sr4) := by
    have := par_ok (is := [8, 9]) (consR_ok e5 (consR_ok e6 (show cNil _ = .ok [] ⟨s4.sl, some sr4⟩ from rfl)))
    subst hs4
    exact this
  obtain ⟨l, o10, o11, sr5, e8, hperm, i5⟩ := ld_way (m := m) (c := c) (st := st) (o4 := o4) (o5 := some (.own (.list (ns'.map .str)))) (o6 := some (.sh (.list (ps.map pD)))) (o7 := o7) i4 hw hL hLl
  have e9 : cRet (cTup (cCons (cCall1 dTuple (cVarV 6)) (cCons (cCall1 dTuple (cVarV 8)) cNil))) (lS m c st o4 (some (.own (.list (ns'.map .str)))) (some (.sh (.list (ps.map pD)))) o7 (some (.own (.list (l.map .str)))) (some (.sh (.int w))) o10 o11 none sr5) = .ok (.ret (.sh (dealD ps l))) (lS m c st o4 (some (.own (.list (ns'.map .str)))) (some (.sh (.list (ps.map pD)))) o7 (some (.own (.list (l.map .str)))) (some (.sh (.int w))) o10 o11 none sr5) := rfl
  have hf := for_ok (f := cRange1 (cCons (cBinE dAdd (cD (.int 1)) (vE (cCall 2 F_law_pick (cCons (cVar 0) (cCons (cVar 1) cNil))))) cNil)) (s := s1) e3 e4
  refine ⟨_, sr5, _, run_ret (seq_nx e0 (seq_nx e1' (seq_nx hf (seq_nx e7 (seq_nx e8 e9))))), ⟨ps, l, rfl, ⟨⟨?_, hperm, by omega, fun p hp => (hb p hp).1⟩, by omega, fun p hq => ?_, fun p hp => (hb p hp).2⟩⟩, i5⟩
  · have h1 := hp.nodup_iff.mpr base_nd
    exact h1.sublist (List.sublist_append_left _ _)
  · exact base_nm _ (hp.mem_iff.mp (List.mem_append_left _ (List.mem_map_of_mem hq)))
end Law
end Pw
set_option Elab.async false
set_option linter.all false
set_option maxRecDepth 100000
namespace Pw
namespace Law
open PySem PySem.Spec PyProof.Rows L2
/-! ### _law_far_right -/
theorem piece_in {ps : Pr} {l : List Str} (d : Deal ps l) {n : Str} {m k : Int} (hp : (n, m) ∈ ps) (h0 : 0 ≤ k) (h1 : k < m) : 0 ≤ beg ps n + k ∧ beg ps n + k < tot ps ∧ pieceAt 0 ps (beg ps n + k) = n := by
  obtain ⟨pre, post, rfl⟩ := mem_split hp
  have hb := beg_at d.nd
  have t0 : 0 ≤ tot pre := tot_nn fun p h => d.nn p (List.mem_append_left _ h)
  have t1 : 0 ≤ tot post := tot_nn fun p h => d.nn p (List.mem_append_right _ (List.mem_cons_of_mem _ h))
  have tt : tot (pre ++ (n, m) :: post) = tot pre + (m + tot post) := by rw [tot_app, tot_cons]
  rw [hb]
  have hlt : tot pre + k < tot (pre ++ (n, m) :: post) := by omega
  refine ⟨by omega, hlt, ?_⟩
  have hc : (((tot pre + k).toNat : Nat) : Int) = tot pre + k := by omega
  have e1 := (cell_at d (c := (tot pre + k).toNat) (by omega)).2
  have e2 := letters_at d.nn (c := (tot pre + k).toNat) (by omega) (by omega)
  rw [e1, hc] at e2
  exact Option.some.inj e2
theorem tot_leB {B : Int} : ∀ {ps : Pr}, (∀ p ∈ ps, p.2 ≤ B) → tot ps ≤ B * ps.length
  | [], _ => by simp [tot]
  | p :: ps, h => by
    have ih := tot_leB (ps := ps) fun q hq => h q (List.mem_cons_of_mem _ hq)
    have h0 := h p List.mem_cons_self
    rw [tot_cons, List.length_cons, Int.natCast_add, Int.mul_add]
    omega
structure FDeal (ps : Pr) (l : List Str) : Prop where
  d : Deal ps l
  nm : ∀ p ∈ ps, (PyData.shown (.str p.1)).length ≤ 10
  tt : tot ps < 10 ^ 299
theorem nice_far {c : Int} (h0 : 0 ≤ c) (h : c < 10 ^ 299) : Nice (.int c) 0 299 := Nice.int h0 h (by decide) (by decide)
theorem str_mul {x : Str} {k : Int} (h0 : 0 ≤ k) (h1 : k ≤ 100000) (h2 : x.length ≤ 100) : dMul (.str x) (.int k) = some (.sh (.str (Txt.mul x k))) := by
  unfold dMul
  dsimp only
  rw [if_pos ⟨h0, h1, h2⟩]
theorem big_read : dInt (.str (("1" : Str) ++ Txt.mul "0" 290)) = some (.sh (.int (10 ^ 290))) := by
  have h1 : (("1" : Str) ++ Txt.mul "0" 290).length ≤ 640 := by decide +kernel
  have h2 : PySem.intText? (("1" : Str) ++ Txt.mul "0" 290) = some (10 ^ 290) := by decide +kernel
  unfold dInt
  dsimp only
  rw [if_pos h1, h2]
  rfl
theorem nine_read : dInt (.str (Txt.mul "9" 300)) = some (.sh (.int (10 ^ 300 - 1))) := by
  have h1 : (Txt.mul "9" 300).length ≤ 640 := by decide +kernel
  have h2 : PySem.intText? (Txt.mul "9" 300) = some (10 ^ 300 - 1) := by decide +kernel
  unfold dInt
  dsimp only
  rw [if_pos h1, h2]
  rfl
theorem big_ok (s : S) : cCall1 dInt (vE (cBinE dAdd (cD (.str "1")) (vE (cBinE dMul (cD (.str "0")) (vE (cD (.int 290))))))) s = .ok (.sh (.int (10 ^ 290))) s := by
  have e1 : cBinE dMul (cD (.str "0")) (vE (cD (.int 290))) s = .ok (.sh (.str (Txt.mul "0" 290))) s := binE_ok (fa := cD (.str "0")) (r := .sh (.str "0")) rfl (show vE (cD (.int 290)) s = .ok (.int 290) s from rfl) rfl (str_mul (by decide) (by decide) (by decide +kernel))
  have h3 : ("1" : Str).length + (Txt.mul "0" 290).length ≤ sizeLine := by rw [sizeLine_eq]; decide +kernel
  have e2 : cBinE dAdd (cD (.str "1")) (vE (cBinE dMul (cD (.str "0")) (vE (cD (.int 290))))) s = .ok (.sh (.str (("1" : Str) ++ Txt.mul "0" 290))) s := binE_ok (fa := cD (.str "1")) (r := .sh (.str "1")) rfl (vE_ok e1 rfl) rfl (by
    unfold dAdd
    dsimp only
    rw [if_pos h3])
  exact call1_ok (vE_ok e2 rfl) big_read
end Law
end Pw
set_option Elab.async false
set_option linter.all false
set_option maxRecDepth 100000
namespace Pw
namespace Law
open PySem PySem.Spec PyProof.Rows L2
abbrev fS (dl : D) (o2 o3 o4 o5 o6 o7 o8 o9 o10 o11 o12 : Option SV) (src : Option Src) : S :=
  ⟨[some .src, some (.sh dl), o2, o3, o4, o5, o6, o7, o8, o9, o10, o11, o12], src⟩
def bigB : Int := 10 ^ 294
theorem far_comp {dl : D} {fr : Int} (hf : 0 ≤ fr ∧ fr ≤ 10 ^ 290 + 8) {o3 o4 o5 o6 o7 o8 o11 o12 : Option SV} : ∀ (ps : Pr) (acc : Pr) (sr : Src), SrcIn sr → (∀ p ∈ ps, 0 ≤ p.2 ∧ p.2 ≤ 1000) → acc.length + ps.length ≤ 1000 → ∃ (qs : Pr) (sr' : Src), compL (gTp (gsCons (gNm 9) (gsCons (gNm 10) gsNil))) cYes (cTup (cCons (cVar 9) (cCons (cBinE dAdd (cBinV dMul 10 (cVarV 2)) (vE (cCall 2 F_law_pick (cCons (cVar 0) (cCons (cD (.int 3)) cNil))))) cNil))) [9, 10] (shs (ps.map pD)) (acc.map pD) (fS dl (some (.sh (.int fr))) o3 o4 o5 o6 o7 o8 none none o11 o12 (some sr)) =
    .ok ((acc ++ qs).map pD) (fS dl (some (.sh (.int fr))) o3 o4 o5 o6 o7 o8 none none o11 o12 (some sr')) ∧ qs.map (·.1) = ps.map (·.1) ∧ (∀ p ∈ qs, 0 ≤ p.2 ∧ p.2 ≤ bigB) ∧ SrcIn sr'
  | [], acc, sr, hi, _, _ => ⟨[], sr, by simp [compL, shs], rfl, by simp, hi⟩
  | (n, m) :: ps, acc, sr, hi, hb, hl => by
    rw [List.length_cons] at hl
    obtain ⟨v, sr1, e, pv, i1⟩ := pick_at (j := 0) (f := cD (.int 3)) (s := fS dl (some (.sh (.int fr))) o3 o4 o5 o6 o7 o8 (some (.sh (.str n))) (some (.sh (.int m))) o11 o12 (some sr)) (many := 3) (r := .sh (.int 3)) rfl rfl hi rfl rfl (by decide)
    have hv : 0 ≤ v ∧ v ≤ 2 := by
      obtain ⟨p0, p1⟩ := pv
      omega
    obtain ⟨m0, m1⟩ : 0 ≤ m ∧ m ≤ 1000 := hb (n, m) List.mem_cons_self
    have hmul : dMul (.int m) (.int fr) = some (.sh (.int (m * fr))) := by
      unfold dMul
      dsimp only
      rw [if_pos (mulFits_l (by unfold smallI; simp only [Bool.and_eq_true, decide_eq_true_eq]; omega))]
    have k0 : 0 ≤ m * fr := Int.mul_nonneg m0 hf.1
    have k1 : m * fr ≤ 1000 * (10 ^ 290 + 8) := Int.mul_le_mul m1 hf.2 hf.1 (by decide)
    have k2 : m * fr + v ≤ bigB := Int.le_trans (Int.add_le_add k1 hv.2) (by unfold bigB; decide +kernel)
    have k3 : 0 ≤ m * fr + v := Int.add_nonneg k0 hv.1
    obtain ⟨qs, sr', e', hq, hqb, i'⟩ := far_comp hf (o3 := o3) (o4 := o4) (o5 := o5) (o6 := o6) (o7 := o7) (o8 := o8) (o11 := o11) (o12 := o12) ps (acc ++ [(n, m * fr + v)]) sr1 i1 (fun p h => hb p (List.mem_cons_of_mem _ h)) (by rw [List.length_append]; simp; omega)
    have h4 : (acc.map pD).length < sizeLine := by rw [List.length_map, sizeLine_eq]; omega
    have he : cTup (cCons (cVar 9) (cCons (cBinE dAdd (cBinV dMul 10 (cVarV 2)) (vE (cCall 2 F_law_pick (cCons (cVar 0) (cCons (cD (.int 3)) cNil))))) cNil)) (fS dl (some (.sh (.int fr))) o3 o4 o5 o6 o7 o8 (some (.sh (.str n))) (some (.sh (.int m))) o11 o12 (some sr)) = .ok (.sh (pD (n, m * fr + v))) (fS dl (some (.sh (.int fr))) o3 o4 o5 o6 o7 o8 (some (.sh (.str n))) (some (.sh (.int m))) o11 o12 (some sr1)) :=
      tup_ok (cons_ok (s1 := fS dl (some (.sh (.int fr))) o3 o4 o5 o6 o7 o8 (some (.sh (.str n))) (some (.sh (.int m))) o11 o12 (some sr)) (r := .sh (.str n)) rfl (cons_ok (binE_ok (binV_ok (i := 10) (r := .sh (.int m)) (s := fS dl (some (.sh (.int fr))) o3 o4 o5 o6 o7 o8 (some (.sh (.str n))) (some (.sh (.int m))) o11 o12 (some sr)) rfl rfl rfl hmul) (vE_ok e rfl) rfl (show dAdd (.int (m * fr)) (.int v) = some (.sh (.int (m * fr + v))) from rfl)) (show cNil _ = .ok [] (fS dl (some (.sh (.int fr))) o3 o4 o5 o6 o7 o8 (some (.sh (.str n))) (some (.sh (.int m))) o11 o12 (some sr1)) from rfl))) rfl (Nat.le_of_ble_eq_true rfl)
    refine ⟨(n, m * fr + v) :: qs, sr', ?_, by rw [List.map_cons, List.map_cons, hq], ?_, i'⟩
    · rw [List.append_assoc, List.map_append] at e'
      exact (compL_step (g := gTp (gsCons (gNm 9) (gsCons (gNm 10) gsNil))) (d := .sh (pD (n, m))) (s := fS dl (some (.sh (.int fr))) o3 o4 o5 o6 o7 o8 none none o11 o12 (some sr)) (s1 := fS dl (some (.sh (.int fr))) o3 o4 o5 o6 o7 o8 (some (.sh (.str n))) (some (.sh (.int m))) o11 o12 (some sr)) (vs := [9, 10]) rfl he rfl h4).trans e'
    · intro p hp
      rcases List.mem_cons.mp hp with rfl | hp
      · exact ⟨k3, k2⟩
      · exact hqb p hp
section
variable {dl : D} {ps : Pr} {l : List Str} {o2 o3 o5 o6 o9 o10 o11 o12 : Option SV} {src : Option Src} {aR : Addr}
abbrev gS (dl : D) (ps : Pr) (l : List Str) (o2 o3 o5 o6 o9 o10 o11 o12 : Option SV) (src : Option Src) : S :=
  fS dl o2 o3 (some (.sh (dealD ps l))) o5 o6 (some (.sh (.dict (kvD (begs 0 ps))))) (some (.sh (.dict (kvD (begs 0 (lp ps l)))))) o9 o10 o11 o12 src
theorem lp_mem (d : Deal ps l) {n : Str} {m : Int} (hp : (n, m) ∈ ps) : (n, m) ∈ lp ps l := (lp_perm d).mem_iff.mpr hp
theorem fr_body (d : FDeal ps l) {n : Str} {m k : Int} (hp : (n, m) ∈ ps) (h0 : 0 ≤ k) (h1 : k < m) : ∃ o12', cSeq (cAsg (cBinE dAdd (cBinV dIx 7 (cVarV 9)) (cVarV 11)) (gNm 12)) (cSeq (cIfS (cOr (cT (cBinE dNe (cCall 2 (F_piece_of aR) (cCons (cVar 4) (cCons (cVar 12) cNil))) (cVarV 9))) (cT (cBinE dNe (cCall 2 (F_cell_behind aR) (cCons (cVar 4) (cCons (cVar 12) cNil))) (vE (cBinE dAdd (cBinV dIx 8 (cVarV 9)) (cVarV 11)))))) (cRet (cD (.bool false))) cSkip) (cIfS (cT (cBinE dNe (cCall 2 (F_cell_ahead aR) (cCons (cVar 4) (cCons (cBinE dAdd (cBinV dIx 8 (cVarV 9)) (cVarV 11)) cNil))) (cVarV 12))) (cRet (cD (.bool false))) cSkip)) (gS dl ps l o2 o3 o5 o6 (some (.sh (.str n))) (some (.sh (.int m))) (some (.sh (.int k))) o12 src) =
    .ok .nx (gS dl ps l o2 o3 o5 o6 (some (.sh (.str n))) (some (.sh (.int m))) (some (.sh (.int k))) o12' src) := by
  have hn : n ∈ ps.map (·.1) := List.mem_map.mpr ⟨(n, m), hp, rfl⟩
  have hn2 : n ∈ (lp ps l).map (·.1) := by rw [lp_fst]; exact d.d.perm.mem_iff.mpr hn
  obtain ⟨c0, c1, c2⟩ := piece_in d.d hp h0 h1
  obtain ⟨q0, q1, q2⟩ := piece_in d.d.und (lp_mem d.d hp) h0 h1
  have ht : tot (lp ps l) = tot ps := tot_perm (lp_perm d.d)
  have hbe : behind ps l (beg ps n + k) = beg (lp ps l) n + k := by unfold behind; rw [c2]; omega
  have hah : behind (lp ps l) (ps.map (·.1)) (beg (lp ps l) n + k) = beg ps n + k := by
    unfold behind
    rw [q2, d.d.und_und]
    omega
  have hlt := d.tt
  refine ⟨some (.sh (.int (beg ps n + k))), ?_⟩
  have v9 : cVarV 9 (gS dl ps l o2 o3 o5 o6 (some (.sh (.str n))) (some (.sh (.int m))) (some (.sh (.int k))) o12 src) = .ok (.str n) (gS dl ps l o2 o3 o5 o6 (some (.sh (.str n))) (some (.sh (.int m))) (some (.sh (.int k))) o12 src) := rfl
  have e1 : cBinE dAdd (cBinV dIx 7 (cVarV 9)) (cVarV 11) (gS dl ps l o2 o3 o5 o6 (some (.sh (.str n))) (some (.sh (.int m))) (some (.sh (.int k))) o12 src) = .ok (.sh (.int (beg ps n + k))) (gS dl ps l o2 o3 o5 o6 (some (.sh (.str n))) (some (.sh (.int m))) (some (.sh (.int k))) o12 src) :=
    binE_ok (binV_ok (i := 7) (r := .sh (.dict (kvD (begs 0 ps)))) rfl v9 rfl (beg_ix hn)) rfl rfl rfl
  refine seq_nx (s1 := gS dl ps l o2 o3 o5 o6 (some (.sh (.str n))) (some (.sh (.int m))) (some (.sh (.int k))) (some (.sh (.int (beg ps n + k)))) src) (nm_ok e1) ?_
  generalize hs : gS dl ps l o2 o3 o5 o6 (some (.sh (.str n))) (some (.sh (.int m))) (some (.sh (.int k))) (some (.sh (.int (beg ps n + k)))) src = s
  have v9 : cVarV 9 s = .ok (.str n) s := by subst hs; rfl
  have v12 : cVarV 12 s = .ok (.int (beg ps n + k)) s := by subst hs; rfl
  have ga : cCons (cVar 4) (cCons (cVar 12) cNil) s = .ok [.sh (dealD ps l), .sh (.int (beg ps n + k))] s := by subst hs; rfl
  have e8 : cBinE dAdd (cBinV dIx 8 (cVarV 9)) (cVarV 11) s = .ok (.sh (.int (beg (lp ps l) n + k))) s := by
    refine binE_ok (binV_ok (i := 8) (r := .sh (.dict (kvD (begs 0 (lp ps l))))) (by subst hs; rfl) v9 (by subst hs; rfl) (beg_ix hn2)) (show cVarV 11 s = .ok (.int k) s by subst hs; rfl) rfl rfl
  have a1 := (piece_of_ok aR (l := l) d.d.few ⟨c0, c1⟩).call (n := 2) ga
  rw [c2] at a1
  have a2 := (cell_behind_ok aR d.d.nd d.d.perm d.d.few ⟨c0, c1⟩).call (n := 2) ga
  rw [hbe] at a2
  have gb : cCons (cVar 4) (cCons (cBinE dAdd (cBinV dIx 8 (cVarV 9)) (cVarV 11)) cNil) s = .ok [.sh (dealD ps l), .sh (.int (beg (lp ps l) n + k))] s :=
    cons_ok (s1 := s) (r := .sh (dealD ps l)) (by subst hs; rfl) (cons_ok e8 (show cNil s = .ok [] s from rfl))
  have a3 := (cell_ahead_ok aR d.d (c := beg (lp ps l) n + k) ⟨q0, by omega⟩).call (n := 2) gb
  rw [hah] at a3
  have n1 : Nice (.str n) 0 10 := .str (d.nm (n, m) hp)
  have b1 := t_ok (binE_ok (g := dNe) a1 v9 rfl (ne_self n1 (by decide) rfl))
  have b2 := t_ok (binE_ok (g := dNe) a2 (vE_ok e8 rfl) rfl (ne_self (nice_far q0 (by omega)) (by decide) rfl))
  have b3 := t_ok (binE_ok (g := dNe) a3 v12 rfl (ne_self (nice_far c0 (by omega)) (by decide) rfl))
  exact seq_nx (ifs_ff (or_ff b1 b2) rfl) (ifs_ff b3 rfl)
theorem it_ok {f : Ev} {s s1 : S} {r : SV} {d : D} {ds : List D} (h : f s = .ok r s1) (hr : r.settle = .sh d) (hi : itemsOf d = some ds) : cIt f s = .ok (shs ds) s1 := by
  unfold cIt
  rw [h, bnd_ok, hr]
  dsimp only
  rw [hi]
  rfl
theorem fr_in (d : FDeal ps l) {n : Str} {m : Int} (hp : (n, m) ∈ ps) : ∀ (ks : List Int) (o11 o12 : Option SV), (∀ k ∈ ks, 0 ≤ k ∧ k < m) → ∃ o11' o12', forL (gNm 11) (cSeq (cAsg (cBinE dAdd (cBinV dIx 7 (cVarV 9)) (cVarV 11)) (gNm 12)) (cSeq (cIfS (cOr (cT (cBinE dNe (cCall 2 (F_piece_of aR) (cCons (cVar 4) (cCons (cVar 12) cNil))) (cVarV 9))) (cT (cBinE dNe (cCall 2 (F_cell_behind aR) (cCons (cVar 4) (cCons (cVar 12) cNil))) (vE (cBinE dAdd (cBinV dIx 8 (cVarV 9)) (cVarV 11)))))) (cRet (cD (.bool false))) cSkip) (cIfS (cT (cBinE dNe (cCall 2 (F_cell_ahead aR) (cCons (cVar 4) (cCons (cBinE dAdd (cBinV dIx 8 (cVarV 9)) (cVarV 11)) cNil))) (cVarV 12))) (cRet (cD (.bool false))) cSkip))) (shs (ks.map .int)) (gS dl ps l o2 o3 o5 o6 (some (.sh (.str n))) (some (.sh (.int m))) o11 o12 src) = .ok .nx (gS dl ps l o2 o3 o5 o6 (some (.sh (.str n))) (some (.sh (.int m))) o11' o12' src)
  | [], o11, o12, _ => ⟨o11, o12, rfl⟩
  | k :: ks, o11, o12, h => by
    obtain ⟨h0, h1⟩ := h k List.mem_cons_self
    obtain ⟨p12, e⟩ := fr_body (dl := dl) (o2 := o2) (o3 := o3) (o5 := o5) (o6 := o6) (o12 := o12) (src := src) (aR := aR) d hp h0 h1
    obtain ⟨o11', o12', ih⟩ := fr_in d hp ks (some (.sh (.int k))) p12 fun x hx => h x (List.mem_cons_of_mem _ hx)
    exact ⟨o11', o12', (forL_step (s1 := gS dl ps l o2 o3 o5 o6 (some (.sh (.str n))) (some (.sh (.int m))) (some (.sh (.int k))) o12 src) rfl e).trans ih⟩
theorem fr_cond {n : Str} {m k : Int} : (cT (cChain dLe dLt (cD (.int 0)) (cVar 11) (cVarV 10))) (gS dl ps l o2 o3 o5 o6 (some (.sh (.str n))) (some (.sh (.int m))) (some (.sh (.int k))) o12 src) = .ok (decide (0 ≤ k ∧ k < m)) (gS dl ps l o2 o3 o5 o6 (some (.sh (.str n))) (some (.sh (.int m))) (some (.sh (.int k))) o12 src) := by
  by_cases h0 : 0 ≤ k
  · have := t_ok (chain_ok (fa := cD (.int 0)) (fb' := cVar 11) (fc := cVarV 10) (g := dLe) (g' := dLt) (s := (gS dl ps l o2 o3 o5 o6 (some (.sh (.str n))) (some (.sh (.int m))) (some (.sh (.int k))) o12 src)) (s1 := (gS dl ps l o2 o3 o5 o6 (some (.sh (.str n))) (some (.sh (.int m))) (some (.sh (.int k))) o12 src)) (s2 := (gS dl ps l o2 o3 o5 o6 (some (.sh (.str n))) (some (.sh (.int m))) (some (.sh (.int k))) o12 src)) (s3 := (gS dl ps l o2 o3 o5 o6 (some (.sh (.str n))) (some (.sh (.int m))) (some (.sh (.int k))) o12 src)) (r := .sh (.int 0)) (r1 := .sh (.int k)) (d := .int 0) (d1 := .int k) (d2 := .int m) rfl rfl rfl rfl (by rw [dLe_int, decide_eq_true h0]) rfl (dLt_int k m))
    rw [this]
    simp [h0]
  · have := t_ok (chain_no (fa := cD (.int 0)) (fb' := cVar 11) (fc := cVarV 10) (g := dLe) (g' := dLt) (s := (gS dl ps l o2 o3 o5 o6 (some (.sh (.str n))) (some (.sh (.int m))) (some (.sh (.int k))) o12 src)) (s1 := (gS dl ps l o2 o3 o5 o6 (some (.sh (.str n))) (some (.sh (.int m))) (some (.sh (.int k))) o12 src)) (s2 := (gS dl ps l o2 o3 o5 o6 (some (.sh (.str n))) (some (.sh (.int m))) (some (.sh (.int k))) o12 src)) (r := .sh (.int 0)) (r1 := .sh (.int k)) (d := .int 0) (d1 := .int k) rfl rfl rfl rfl (by rw [dLe_int, decide_eq_false h0]))
    rw [this]
    simp [h0]
theorem fr_comp {n : Str} {m : Int} : ∀ (ks : List Int) (acc : List D), acc.length + ks.length ≤ 1000 → compL (gNm 11) (cT (cChain dLe dLt (cD (.int 0)) (cVar 11) (cVarV 10))) (cVar 11) [11] (shs (ks.map .int)) acc (gS dl ps l o2 o3 o5 o6 (some (.sh (.str n))) (some (.sh (.int m))) none o12 src) = .ok (acc ++ (ks.filter fun k => decide (0 ≤ k ∧ k < m)).map .int) (gS dl ps l o2 o3 o5 o6 (some (.sh (.str n))) (some (.sh (.int m))) none o12 src)
  | [], acc, _ => by simp [compL, shs]
  | k :: ks, acc, h => by
    rw [List.length_cons] at h
    have h4 : acc.length < sizeLine := by rw [sizeLine_eq]; omega
    have hc := fr_cond (dl := dl) (ps := ps) (l := l) (o2 := o2) (o3 := o3) (o5 := o5) (o6 := o6) (o12 := o12) (src := src) (n := n) (m := m) (k := k)
    by_cases hk : 0 ≤ k ∧ k < m
    · have ih := fr_comp (n := n) (m := m) ks (acc ++ [.int k]) (by rw [List.length_append]; simp; omega)
      rw [decide_eq_true hk] at hc
      rw [List.filter_cons_of_pos (by simpa using hk)]
      rw [List.append_assoc] at ih
      exact (compL_keep (g := gNm 11) (d := .sh (.int k)) (s := (gS dl ps l o2 o3 o5 o6 (some (.sh (.str n))) (some (.sh (.int m))) none o12 src)) (vs := [11]) rfl hc (show cVar 11 _ = .ok (.sh (.int k)) _ from rfl) rfl h4).trans ih
    · have ih := fr_comp (n := n) (m := m) ks acc (by omega)
      rw [decide_eq_false hk] at hc
      rw [List.filter_cons_of_neg (by simpa using hk)]
      exact (compL_drop (g := gNm 11) (d := .sh (.int k)) (s := (gS dl ps l o2 o3 o5 o6 (some (.sh (.str n))) (some (.sh (.int m))) none o12 src)) (vs := [11]) rfl hc).trans ih
theorem fr_pair (d : FDeal ps l) {n : Str} {m here : Int} (hp : (n, m) ∈ ps) (o11 o12 : Option SV) : ∃ o11' o12', cSeq (cFor (cIt (cComp (cIt (cTup (cCons (cD (.int 0)) (cCons (cBinV dFdiv 10 (vE (cD (.int 2)))) (cCons (cBinV dSub 10 (vE (cD (.int 1)))) cNil))))) (gNm 11) (cT (cChain dLe dLt (cD (.int 0)) (cVar 11) (cVarV 10))) (cVar 11) [11])) (gNm 11) (cSeq (cAsg (cBinE dAdd (cBinV dIx 7 (cVarV 9)) (cVarV 11)) (gNm 12)) (cSeq (cIfS (cOr (cT (cBinE dNe (cCall 2 (F_piece_of aR) (cCons (cVar 4) (cCons (cVar 12) cNil))) (cVarV 9))) (cT (cBinE dNe (cCall 2 (F_cell_behind aR) (cCons (cVar 4) (cCons (cVar 12) cNil))) (vE (cBinE dAdd (cBinV dIx 8 (cVarV 9)) (cVarV 11)))))) (cRet (cD (.bool false))) cSkip) (cIfS (cT (cBinE dNe (cCall 2 (F_cell_ahead aR) (cCons (cVar 4) (cCons (cBinE dAdd (cBinV dIx 8 (cVarV 9)) (cVarV 11)) cNil))) (cVarV 12))) (cRet (cD (.bool false))) cSkip)))) (cAsg (cBinV dAdd 6 (cVarV 10)) (gNm 6)) (gS dl ps l o2 o3 o5 (some (.sh (.int here))) (some (.sh (.str n))) (some (.sh (.int m))) o11 o12 src) = .ok .nx (gS dl ps l o2 o3 o5 (some (.sh (.int (here + m)))) (some (.sh (.str n))) (some (.sh (.int m))) o11' o12' src) := by
  have e1 := comp_ok (f := cIt (cTup (cCons (cD (.int 0)) (cCons (cBinV dFdiv 10 (vE (cD (.int 2)))) (cCons (cBinV dSub 10 (vE (cD (.int 1)))) cNil))))) (s := gS dl ps l o2 o3 o5 (some (.sh (.int here))) (some (.sh (.str n))) (some (.sh (.int m))) o11 o12 src) (s1 := gS dl ps l o2 o3 o5 (some (.sh (.int here))) (some (.sh (.str n))) (some (.sh (.int m))) o11 o12 src) (vs := [11]) (ds := shs ([0, m / 2, m - 1].map .int)) ?_ (fr_comp (dl := dl) (ps := ps) (l := l) (o2 := o2) (o3 := o3) (o5 := o5) (o6 := some (.sh (.int here))) (o12 := o12) (src := src) (n := n) (m := m) [0, m / 2, m - 1] [] (by simp))
  · obtain ⟨o11', o12', e2⟩ := fr_in (dl := dl) (o2 := o2) (o3 := o3) (o5 := o5) (o6 := some (.sh (.int here))) (src := src) (aR := aR) d hp ([0, m / 2, m - 1].filter fun k => decide (0 ≤ k ∧ k < m)) o11 o12 fun k hk => by simpa using (List.mem_filter.mp hk).2
    have hi : cIt (cComp (cIt (cTup (cCons (cD (.int 0)) (cCons (cBinV dFdiv 10 (vE (cD (.int 2)))) (cCons (cBinV dSub 10 (vE (cD (.int 1)))) cNil))))) (gNm 11) (cT (cChain dLe dLt (cD (.int 0)) (cVar 11) (cVarV 10))) (cVar 11) [11]) (gS dl ps l o2 o3 o5 (some (.sh (.int here))) (some (.sh (.str n))) (some (.sh (.int m))) o11 o12 src) = .ok (shs (([0, m / 2, m - 1].filter fun k => decide (0 ≤ k ∧ k < m)).map .int)) (gS dl ps l o2 o3 o5 (some (.sh (.int here))) (some (.sh (.str n))) (some (.sh (.int m))) o11 o12 src) := by
      exact it_ok e1 rfl rfl
    exact ⟨o11', o12', seq_nx (for_ok hi e2) rfl⟩
  · have hdv : dFdiv (.int m) (.int 2) = some (.sh (.int (m / 2))) := rfl
    have e2 : cBinV dFdiv 10 (vE (cD (.int 2))) (gS dl ps l o2 o3 o5 (some (.sh (.int here))) (some (.sh (.str n))) (some (.sh (.int m))) o11 o12 src) = .ok (.sh (.int (m / 2))) (gS dl ps l o2 o3 o5 (some (.sh (.int here))) (some (.sh (.str n))) (some (.sh (.int m))) o11 o12 src) := binV_ok (i := 10) (r := .sh (.int m)) rfl (show vE (cD (.int 2)) _ = .ok (.int 2) _ from rfl) rfl hdv
    exact it_ok (tup_ok (cons_ok (f := cD (.int 0)) (r := .sh (.int 0)) rfl (cons_ok e2 (cons_ok (f := cBinV dSub 10 (vE (cD (.int 1)))) (r := .sh (.int (m - 1))) rfl (show cNil _ = .ok [] _ from rfl)))) rfl (Nat.le_of_ble_eq_true rfl)) rfl rfl
theorem fr_loop (d : FDeal ps l) : ∀ (qs : Pr) (here : Int) (o9 o10 o11 o12 : Option SV), (∀ p ∈ qs, p ∈ ps) → ∃ o9' o10' o11' o12', forL (gTp (gsCons (gNm 9) (gsCons (gNm 10) gsNil))) (cSeq (cFor (cIt (cComp (cIt (cTup (cCons (cD (.int 0)) (cCons (cBinV dFdiv 10 (vE (cD (.int 2)))) (cCons (cBinV dSub 10 (vE (cD (.int 1)))) cNil))))) (gNm 11) (cT (cChain dLe dLt (cD (.int 0)) (cVar 11) (cVarV 10))) (cVar 11) [11])) (gNm 11) (cSeq (cAsg (cBinE dAdd (cBinV dIx 7 (cVarV 9)) (cVarV 11)) (gNm 12)) (cSeq (cIfS (cOr (cT (cBinE dNe (cCall 2 (F_piece_of aR) (cCons (cVar 4) (cCons (cVar 12) cNil))) (cVarV 9))) (cT (cBinE dNe (cCall 2 (F_cell_behind aR) (cCons (cVar 4) (cCons (cVar 12) cNil))) (vE (cBinE dAdd (cBinV dIx 8 (cVarV 9)) (cVarV 11)))))) (cRet (cD (.bool false))) cSkip) (cIfS (cT (cBinE dNe (cCall 2 (F_cell_ahead aR) (cCons (cVar 4) (cCons (cBinE dAdd (cBinV dIx 8 (cVarV 9)) (cVarV 11)) cNil))) (cVarV 12))) (cRet (cD (.bool false))) cSkip)))) (cAsg (cBinV dAdd 6 (cVarV 10)) (gNm 6))) (shs (qs.map pD)) (gS dl ps l o2 o3 o5 (some (.sh (.int here))) o9 o10 o11 o12 src) = .ok .nx (gS dl ps l o2 o3 o5 (some (.sh (.int (here + tot qs)))) o9' o10' o11' o12' src)
  | [], here, o9, o10, o11, o12, _ => ⟨o9, o10, o11, o12, by simp [forL, shs, tot]⟩
  | (n, m) :: qs, here, o9, o10, o11, o12, h => by
    obtain ⟨q11, q12, e⟩ := fr_pair (dl := dl) (o2 := o2) (o3 := o3) (o5 := o5) (src := src) (aR := aR) (here := here) d (h (n, m) List.mem_cons_self) o11 o12
    obtain ⟨o9', o10', o11', o12', ih⟩ := fr_loop d qs (here + m) (some (.sh (.str n))) (some (.sh (.int m))) q11 q12 fun x hx => h x (List.mem_cons_of_mem _ hx)
    refine ⟨o9', o10', o11', o12', ?_⟩
    rw [tot_cons, ← Int.add_assoc]
    exact (forL_step (s1 := gS dl ps l o2 o3 o5 (some (.sh (.int here))) (some (.sh (.str n))) (some (.sh (.int m))) o11 o12 src) rfl e).trans ih
end
end Law
end Pw
set_option Elab.async false
set_option linter.all false
set_option maxRecDepth 100000
namespace Pw
namespace Law
open PySem PySem.Spec PyProof.Rows L2
theorem far_list (s : S) : (cLst (cCons (cBinE dPow (cD (.int 10)) (vE (cD (.int 9)))) (cCons (cBinE dPow (cD (.int 10)) (vE (cD (.int 30)))) (cCons (cCall1 dInt (vE (cBinE dAdd (cD (.str "1")) (vE (cBinE dMul (cD (.str "0")) (vE (cD (.int 290)))))))) cNil)))) s = .ok (.own (.list [.int (10 ^ 9), .int (10 ^ 30), .int (10 ^ 290)])) s := by
  have e1 : cBinE dPow (cD (.int 10)) (vE (cD (.int 9))) s = .ok (.sh (.int (10 ^ 9))) s := rfl
  have e2 : cBinE dPow (cD (.int 10)) (vE (cD (.int 30))) s = .ok (.sh (.int (10 ^ 30))) s := rfl
  exact lst_ok (cons_ok e1 (cons_ok e2 (cons_ok (big_ok s) (show cNil s = .ok [] s from rfl)))) rfl (Nat.le_of_ble_eq_true rfl)
theorem far_in {x : D} (h : x ∈ [(.int (10 ^ 9) : D), .int (10 ^ 30), .int (10 ^ 290)]) : ∃ f : Int, x = .int f ∧ 0 ≤ f ∧ f ≤ 10 ^ 290 := by
  simp only [List.mem_cons, List.not_mem_nil, or_false] at h
  rcases h with rfl | rfl | rfl
  · exact ⟨_, rfl, by decide +kernel, by decide +kernel⟩
  · exact ⟨_, rfl, by decide +kernel, by decide +kernel⟩
  · exact ⟨_, rfl, by decide +kernel, by decide +kernel⟩
theorem far_deal {ps qs : Pr} {l : List Str} (d : SDeal ps l) (h : qs.map (·.1) = ps.map (·.1)) (hb : ∀ p ∈ qs, 0 ≤ p.2 ∧ p.2 ≤ bigB) : FDeal qs l := by
  have hl : qs.length = ps.length := by
    have := congrArg List.length h
    simpa using this
  refine ⟨⟨by rw [h]; exact d.d.nd, by rw [h]; exact d.d.perm, by rw [hl]; exact d.d.few, fun p hp => (hb p hp).1⟩, fun p hp => ?_, ?_⟩
  · have : p.1 ∈ ps.map (·.1) := by rw [← h]; exact List.mem_map_of_mem hp
    obtain ⟨q, hq, e⟩ := List.mem_map.mp this
    rw [← e]
    exact d.nm q hq
  · have h1 := tot_leB fun p hp => (hb p hp).2
    have h2 : bigB * (qs.length : Int) ≤ bigB * 100 := Int.mul_le_mul_of_nonneg_left (by have := d.len; omega) (by unfold bigB; decide +kernel)
    exact Int.lt_of_le_of_lt (Int.le_trans h1 h2) (by unfold bigB; decide +kernel)
theorem far_laid {dl : D} {o2 o3 o4 o6 o7 o8 o10 o11 o12 : Option SV} {src : Option Src} {qs : Pr} : ∀ (ns : List Str) (acc : List D), (∀ n ∈ ns, n ∈ qs.map (·.1)) → acc.length + ns.length ≤ 1000 → compL (gNm 9) cYes (cTup (cCons (cVar 9) (cCons (cBinV dIx 5 (cVarV 9)) cNil))) [9] (shs (ns.map .str)) acc (fS dl o2 o3 o4 (some (.own (.dict (kvD qs)))) o6 o7 o8 none o10 o11 o12 src) = .ok (acc ++ (lp qs ns).map pD) (fS dl o2 o3 o4 (some (.own (.dict (kvD qs)))) o6 o7 o8 none o10 o11 o12 src)
  | [], acc, _, _ => by simp [compL, shs, lp]
  | n :: ns, acc, hn, h => by
    have ih := far_laid (dl := dl) (o2 := o2) (o3 := o3) (o4 := o4) (o6 := o6) (o7 := o7) (o8 := o8) (o10 := o10) (o11 := o11) (o12 := o12) (src := src) ns (acc ++ [pD (n, sz qs n)]) (fun x hx => hn x (List.mem_cons_of_mem _ hx)) (by simp at h ⊢; omega)
    have h4 : acc.length < sizeLine := by rw [sizeLine_eq]; simp at h; omega
    have he : cTup (cCons (cVar 9) (cCons (cBinV dIx 5 (cVarV 9)) cNil)) (fS dl o2 o3 o4 (some (.own (.dict (kvD qs)))) o6 o7 o8 (some (.sh (.str n))) o10 o11 o12 src) = .ok (.sh (pD (n, sz qs n))) (fS dl o2 o3 o4 (some (.own (.dict (kvD qs)))) o6 o7 o8 (some (.sh (.str n))) o10 o11 o12 src) :=
      tup_ok (cons_ok (s1 := fS dl o2 o3 o4 (some (.own (.dict (kvD qs)))) o6 o7 o8 (some (.sh (.str n))) o10 o11 o12 src) rfl (cons_ok (binV_ok (i := 5) (s := fS dl o2 o3 o4 (some (.own (.dict (kvD qs)))) o6 o7 o8 (some (.sh (.str n))) o10 o11 o12 src) rfl rfl rfl (kv_ix (hn n List.mem_cons_self))) rfl)) rfl (Nat.le_of_ble_eq_true rfl)
    refine (compL_step (g := gNm 9) (d := .sh (.str n)) (s := fS dl o2 o3 o4 (some (.own (.dict (kvD qs)))) o6 o7 o8 none o10 o11 o12 src) (vs := [9]) rfl he rfl h4).trans ?_
    simp only [List.append_assoc, List.singleton_append] at ih
    exact ih
theorem law_far_right_draws {aR aB : Addr} {tab : Tab} {ps : Pr} {l : List Str} (d : SDeal ps l) (hB : tab aB = some (2, F_cell_behind aR)) : Draws (F_law_far_right aR aB tab) [.src, .sh (dealD ps l)] fun r => r = .sh (.bool true) := fun sr hi => by
  generalize hdl : dealD ps l = dl
  generalize hs0 : fS dl none none none none none none none none none none none (some sr) = s0
  obtain ⟨x, sr1, e1, hx, i1⟩ := of_at (j := 0) (s := s0) (sr := sr) (by subst hs0; rfl) (by subst hs0; rfl) hi (far_list s0) rfl (by simp) (by simp)
  obtain ⟨f, rfl, f0, f1⟩ := far_in hx
  have hsl : s0.sl = (fS dl none none none none none none none none none none none (some sr1)).sl := by subst hs0; rfl
  rw [hsl] at e1
  generalize hs1 : fS dl none none none none none none none none none none none (some sr1) = s1 at e1
  have e1 : cCall 2 F_law_of (cCons (cVar 0) (cCons (cLst (cCons (cBinE dPow (cD (.int 10)) (vE (cD (.int 9)))) (cCons (cBinE dPow (cD (.int 10)) (vE (cD (.int 30)))) (cCons (cCall1 dInt (vE (cBinE dAdd (cD (.str "1")) (vE (cBinE dMul (cD (.str "0")) (vE (cD (.int 290)))))))) cNil)))) cNil)) s0 = .ok (.sh (.int f)) s1 := by
    refine e1.trans ?_
    subst hs1
    rfl
  obtain ⟨v, sr2, e2, pv, i2⟩ := pick_at (j := 0) (f := cD (.int 9)) (s := s1) (sr := sr1) (many := 9) (r := .sh (.int 9)) (by subst hs1; rfl) (by subst hs1; rfl) i1 rfl rfl (by decide)
  have hv : 0 ≤ v ∧ v ≤ 8 := by
    obtain ⟨p0, p1⟩ := pv
    omega
  have hf : 0 ≤ f + v ∧ f + v ≤ 10 ^ 290 + 8 := ⟨Int.add_nonneg f0 hv.1, Int.add_le_add f1 hv.2⟩
  have e3 : cAsg (cBinE dAdd (cCall 2 F_law_of (cCons (cVar 0) (cCons (cLst (cCons (cBinE dPow (cD (.int 10)) (vE (cD (.int 9)))) (cCons (cBinE dPow (cD (.int 10)) (vE (cD (.int 30)))) (cCons (cCall1 dInt (vE (cBinE dAdd (cD (.str "1")) (vE (cBinE dMul (cD (.str "0")) (vE (cD (.int 290)))))))) cNil)))) cNil))) (vE (cCall 2 F_law_pick (cCons (cVar 0) (cCons (cD (.int 9)) cNil))))) (gNm 2) s0 = .ok .nx (fS dl (some (.sh (.int (f + v)))) none none none none none none none none none none (some sr2)) := by
    have := nm_ok (i := 2) (binE_ok (g := dAdd) e1 (vE_ok e2 rfl) rfl (show dAdd (.int f) (.int v) = some (.sh (.int (f + v))) from rfl))
    subst hs1
    exact this
  generalize f + v = fr at hf e3
  obtain ⟨qs, sr3, e4, hq, hqb, i3⟩ := far_comp (dl := dl) hf (o3 := none) (o4 := none) (o5 := none) (o6 := none) (o7 := none) (o8 := none) (o11 := none) (o12 := none) ps [] sr2 i2 (fun p hp => ⟨d.d.nn p hp, d.sm p hp⟩) (by have := d.len; simp; omega)
  have fd := far_deal d hq hqb
  have ll : l.length ≤ 1000 := by rw [d.d.perm.length_eq, List.length_map]; exact d.d.few
  have hk : ∀ n ∈ l, n ∈ qs.map (·.1) := fun n h => fd.d.perm.mem_iff.mp h
  have e5 : cAsg (cCall1 dTuple (vE (cComp (cIt (cBinV dIx 1 (vE (cD (.int 0))))) (gTp (gsCons (gNm 9) (gsCons (gNm 10) gsNil))) cYes (cTup (cCons (cVar 9) (cCons (cBinE dAdd (cBinV dMul 10 (cVarV 2)) (vE (cCall 2 F_law_pick (cCons (cVar 0) (cCons (cD (.int 3)) cNil))))) cNil))) [9, 10]))) (gNm 3) (fS dl (some (.sh (.int fr))) none none none none none none none none none none (some sr2)) = .ok .nx (fS dl (some (.sh (.int fr))) (some (.sh (psD qs))) none none none none none none none none none (some sr3)) := by
    have hit : cIt (cBinV dIx 1 (vE (cD (.int 0)))) (fS dl (some (.sh (.int fr))) none none none none none none none none none none (some sr2)) = .ok (shs (ps.map pD)) (fS dl (some (.sh (.int fr))) none none none none none none none none none none (some sr2)) := by
      subst hdl
      rfl
    have e := comp_ok (vs := [9, 10]) hit e4
    exact nm_ok (call1_ok (g := dTuple) (vE_ok e rfl) rfl)
  have e6 : (cPar [4, 5, 6] (cConsR (cTup (cCons (cVar 3) (cCons (cBinV dIx 1 (vE (cD (.int 1)))) cNil))) (cConsR (cCall1 dDict (vE (cCall1 dList (cVarV 3)))) (cConsR (cD (.int 0)) cNil)))) (fS dl (some (.sh (.int fr))) (some (.sh (psD qs))) none none none none none none none none none (some sr3)) = .ok .nx (fS dl (some (.sh (.int fr))) (some (.sh (psD qs))) (some (.sh (dealD qs l))) (some (.own (.dict (kvD qs)))) (some (.sh (.int 0))) none none none none none none (some sr3)) := by
    subst hdl
    exact par_ok (is := [4, 5, 6]) (consR_ok (r := .sh (dealD qs l)) (s1 := fS (dealD ps l) (some (.sh (.int fr))) (some (.sh (psD qs))) none none none none none none none none none (some sr3)) rfl (consR_ok (call1_ok (g := dDict) (d := .list (qs.map pD)) (s1 := fS (dealD ps l) (some (.sh (.int fr))) (some (.sh (psD qs))) none none none none none none none none none (some sr3)) rfl (dDict_ps qs fd.d.nd)) rfl))
  generalize hs5 : fS dl (some (.sh (.int fr))) (some (.sh (psD qs))) (some (.sh (dealD qs l))) (some (.own (.dict (kvD qs)))) (some (.sh (.int 0))) none none none none none none (some sr3) = s5 at e6
  have e7 : (cComp (cIt (cBinV dIx 1 (vE (cD (.int 1))))) (gNm 9) cYes (cTup (cCons (cVar 9) (cCons (cBinV dIx 5 (cVarV 9)) cNil))) [9]) s5 = .ok (.own (.list ((lp qs l).map pD))) s5 := by
    have hit : cIt (cBinV dIx 1 (vE (cD (.int 1)))) s5 = .ok (shs (l.map .str)) s5 := by
      subst hs5
      subst hdl
      rfl
    have e := comp_ok (vs := [9]) hit ((by subst hs5; exact far_laid l [] hk (by simpa using ll)) : compL (gNm 9) cYes (cTup (cCons (cVar 9) (cCons (cBinV dIx 5 (cVarV 9)) cNil))) [9] (shs (l.map .str)) [] (wipeS [9] s5) = .ok ([] ++ (lp qs l).map pD) s5)
    refine e.trans ?_
    subst hs5
    rfl
  have e8 : (cPar [7, 8] (cConsR (cCall 1 F_law_begins (cCons (cVar 3) cNil)) (cConsR (cCall 1 F_law_begins (cCons (cComp (cIt (cBinV dIx 1 (vE (cD (.int 1))))) (gNm 9) cYes (cTup (cCons (cVar 9) (cCons (cBinV dIx 5 (cVarV 9)) cNil))) [9]) cNil)) cNil))) s5 = .ok .nx (gS dl qs l (some (.sh (.int fr))) (some (.sh (psD qs))) (some (.own (.dict (kvD qs)))) (some (.sh (.int 0))) none none none none (some sr3)) := by
    have b1 := (begins_ok (d := psD qs) rfl fd.d.nd fd.d.few).call (n := 1) (ga := cCons (cVar 3) cNil) (s := s5) (s1 := s5) (by subst hs5; rfl)
    have b2 := (begins_ok (ps := lp qs l) (d := .list ((lp qs l).map pD)) rfl fd.d.und.nd fd.d.und.few).call (n := 1) (ga := cCons (cComp (cIt (cBinV dIx 1 (vE (cD (.int 1))))) (gNm 9) cYes (cTup (cCons (cVar 9) (cCons (cBinV dIx 5 (cVarV 9)) cNil))) [9]) cNil) (s := s5) (s1 := s5) (cons_ok e7 rfl)
    have := par_ok (is := [7, 8]) (consR_ok b1 (consR_ok b2 (show cNil s5 = .ok [] s5 from rfl)))
    refine this.trans ?_
    subst hs5
    rfl
  obtain ⟨o9, o10, o11, o12, e9⟩ := fr_loop (dl := dl) (o2 := some (.sh (.int fr))) (o3 := some (.sh (psD qs))) (o5 := some (.own (.dict (kvD qs)))) (src := some sr3) (aR := aR) fd qs 0 none none none none fun p h => h
  rw [Int.zero_add] at e9
  have e10 := for_ok (f := cIt (cVar 3)) (s := gS dl qs l (some (.sh (.int fr))) (some (.sh (psD qs))) (some (.own (.dict (kvD qs)))) (some (.sh (.int 0))) none none none none (some sr3)) rfl e9
  generalize hs9 : gS dl qs l (some (.sh (.int fr))) (some (.sh (psD qs))) (some (.own (.dict (kvD qs)))) (some (.sh (.int (tot qs)))) o9 o10 o11 o12 (some sr3) = s9 at e10
  have t0 : 0 ≤ tot qs := tot_nn fd.d.nn
  have e11 : (cRet (cAndV (cBinE dEq (cCall 1 F_deal_size (cCons (cVar 4) cNil)) (cVarV 6)) (cBinE dEq (cCall 3 (F_law_told aR tab) (cCons (cFn aB) (cCons (cVar 4) (cCons (cVar 6) cNil)))) (vE (cTup (cCons (cD (.str "refused")) (cCons (cD (.str "cell")) (cCons (cD (.int 0)) cNil)))))))) s9 = .ok (.ret (.sh (.bool true))) s9 := by
    have a1 := (deal_size_ok qs l fd.d.few).call (n := 1) (ga := cCons (cVar 4) cNil) (s := s9) (s1 := s9) (by subst hs9; rfl)
    have a2 := binE_ok (g := dEq) a1 (show cVarV 6 s9 = .ok (.int (tot qs)) s9 by subst hs9; rfl) rfl (eq_self (nice_far t0 fd.tt) (by decide) rfl)
    have a3 := (told_refused (cell_behind_no aR (l := l) fd.d.few (c := tot qs) (by omega)) hB).call (n := 3) (ga := cCons (cFn aB) (cCons (cVar 4) (cCons (cVar 6) cNil))) (s := s9) (s1 := s9) (by subst hs9; rfl)
    have a4 := binE_ok (g := dEq) a3 (show vE (cTup (cCons (cD (.str "refused")) (cCons (cD (.str "cell")) (cCons (cD (.int 0)) cNil)))) s9 = .ok refT s9 from rfl) rfl (eq_self nice_ref (by decide) rfl)
    exact ret_ok (andV_tt a2 a4)
  have ef := run_ret (n := 13) (as := [.src, .sh dl]) (src := some sr) (seq_nx ((by subst hs0; exact e3) : cAsg (cBinE dAdd (cCall 2 F_law_of (cCons (cVar 0) (cCons (cLst (cCons (cBinE dPow (cD (.int 10)) (vE (cD (.int 9)))) (cCons (cBinE dPow (cD (.int 10)) (vE (cD (.int 30)))) (cCons (cCall1 dInt (vE (cBinE dAdd (cD (.str "1")) (vE (cBinE dMul (cD (.str "0")) (vE (cD (.int 290)))))))) cNil)))) cNil))) (vE (cCall 2 F_law_pick (cCons (cVar 0) (cCons (cD (.int 9)) cNil))))) (gNm 2) ⟨padS 13 [.src, .sh dl], some sr⟩ = _) (seq_nx e5 (seq_nx e6 (seq_nx e8 (seq_nx e10 e11)))))
  refine ⟨_, sr3, s9.sl, ?_, rfl, i3⟩
  refine (show F_law_far_right aR aB tab [.src, .sh dl] (some sr) = _ from ef).trans ?_
  subst hs9
  rfl
end Law
end Pw
set_option Elab.async false
set_option linter.all false
set_option maxRecDepth 100000
set_option exponentiation.threshold 400
namespace Pw
namespace Law
open PySem PySem.Spec PyProof.Rows L2
/-! ### _law_made -/
theorem law_made_told (aT : Addr) {dl : D} (h : Rets (F_deal_made aT) [.sh dl] (.sh dl)) : Rets (F_law_made aT) [.sh dl] (.sh (.tuple [.str "told", dl])) := fun src => by
  have h1 := h.call (n := 1) (ga := cCons (cVar 0) cNil) (s := ⟨padS 3 [.sh dl], src⟩) (s1 := ⟨padS 3 [.sh dl], src⟩) rfl
  have h2 : cTry (cAsg (cCall 1 (F_deal_made aT) (cCons (cVar 0) cNil)) (gNm 2)) aT 1 (cRet (cTup (cCons (cD (.str "great")) (cCons (cFld 1 "number") cNil)))) ⟨padS 3 [.sh dl], src⟩ = .ok .nx ⟨[some (.sh dl), none, some (.sh dl)], src⟩ := by
    unfold cTry
    rw [nm_ok h1]
    rfl
  exact ⟨_, run_ret (seq_nx h2 (ret_ok (tup_ok (ga := cCons (cD (.str "told")) (cCons (cVar 2) cNil)) (ds := [.str "told", dl]) rfl rfl (Nat.le_of_ble_eq_true rfl))))⟩
theorem law_made_great (aT : Addr) {dl : D} (h : Excs (F_deal_made aT) [.sh dl] (tooGreat aT)) : Rets (F_law_made aT) [.sh dl] (.sh (.tuple [.str "great", .int 0])) := fun src => by
  have h1 := h.call (n := 1) (ga := cCons (cVar 0) cNil) (s := ⟨padS 3 [.sh dl], src⟩) (s1 := ⟨padS 3 [.sh dl], src⟩) rfl
  have h4 : cRet (cTup (cCons (cD (.str "great")) (cCons (cFld 1 "number") cNil))) ⟨[some (.sh dl), some (.exn (tooGreat aT).fs), none], src⟩ = .ok (.ret (.sh (.tuple [.str "great", .int 0]))) ⟨[some (.sh dl), some (.exn (tooGreat aT).fs), none], src⟩ := by
    have w1 : cFld 1 "number" ⟨[some (.sh dl), some (.exn (tooGreat aT).fs), none], src⟩ = .ok (.sh (.int 0)) ⟨[some (.sh dl), some (.exn (tooGreat aT).fs), none], src⟩ := by rfl
    exact ret_ok (tup_ok (cons_ok (f := cD (.str "great")) rfl (cons_ok w1 (show cNil _ = .ok [] _ from rfl))) rfl (Nat.le_of_ble_eq_true rfl))
  exact ⟨_, run_ret (seq_ret (try_exc (i := 1) (asg_exc h1) rfl h4))⟩
/-! ### law -/
def tn : Int := 10 ^ 300
def topP (h v : Int) : Pr := [("p", h), ("o", 0), ("q", tn - 1 - h + v)]
def topL : List Str := ["q", "p", "o"]
theorem top_tot (h v : Int) : tot (topP h v) = tn - 1 + v := by
  simp [topP, tot]
  omega
theorem nice_top {h v : Int} (h0 : 0 ≤ h) (h1 : h < tn) (v0 : 0 ≤ v) (v1 : v ≤ 1) : Nice (dealD (topP h v) topL) 4 5000 := by
  have e : tn < 10 ^ 301 := by unfold tn; decide +kernel
  have e0 : (0 : Int) < 10 ^ 301 := Int.lt_trans (by unfold tn; decide +kernel) e
  have nI : ∀ i : Int, 0 ≤ i → i ≤ tn → Nice (.int i) 0 301 := fun i h0 h1 => Nice.int h0 (Int.lt_of_le_of_lt h1 e) (by decide) (by decide)
  have nS : ∀ n ∈ topL, Nice (.str n) 0 301 := fun n hn => .str (by
    have : ∀ n ∈ topL, (PyData.shown (.str n)).length ≤ 301 := by decide +kernel
    exact this n hn)
  have nP : ∀ p ∈ topP h v, Nice (pD p) 1 700 := fun p hp => by
    refine (Nice.tuple (ds := [.str p.1, .int p.2]) (k := 0) (n := 301) fun d hd => ?_).mono (Nat.le_refl _) (by simp)
    simp only [List.mem_cons, List.not_mem_nil, or_false] at hd
    simp only [topP, List.mem_cons, List.not_mem_nil, or_false] at hp
    rcases hp with rfl | rfl | rfl <;> rcases hd with rfl | rfl
    · exact nS _ (show ("p" : Str) ∈ topL by decide +kernel)
    · exact nI _ h0 (Int.le_of_lt h1)
    · exact nS _ (by decide +kernel)
    · exact nI 0 (Int.le_refl _) (by omega)
    · exact nS _ (show ("q" : Str) ∈ topL by decide +kernel)
    · exact nI _ (by dsimp only; omega) (by dsimp only; omega)
  have a1 : Nice (psD (topP h v)) 2 2200 := by
    refine (Nice.tuple (k := 1) (n := 700) fun x hx => ?_).mono (Nat.le_refl _) (by simp [topP])
    obtain ⟨p, hp, rfl⟩ := List.mem_map.mp hx
    exact nP p hp
  have a2 : Nice (.tuple (topL.map .str)) 1 1000 := by
    refine (Nice.tuple (k := 0) (n := 301) fun x hx => ?_).mono (Nat.le_refl _) (by simp [topL])
    obtain ⟨n, hn, rfl⟩ := List.mem_map.mp hx
    exact nS n hn
  refine (Nice.tuple (ds := [psD (topP h v), .tuple (topL.map .str)]) (k := 2) (n := 2200) fun x hx => ?_).mono (by decide) (by simp)
  simp only [List.mem_cons, List.not_mem_nil, or_false] at hx
  rcases hx with rfl | rfl
  · exact a1
  · exact a2.mono (by decide) (by decide)
theorem nice_told {h v : Int} (h0 : 0 ≤ h) (h1 : h < tn) (v0 : 0 ≤ v) (v1 : v ≤ 1) : Nice (.tuple [.str "told", dealD (topP h v) topL]) 5 11000 := by
  refine (Nice.tuple (ds := [.str "told", dealD (topP h v) topL]) (k := 4) (n := 5000) fun x hx => ?_).mono (by decide) (by simp)
  simp only [List.mem_cons, List.not_mem_nil, or_false] at hx
  rcases hx with rfl | rfl
  · exact ⟨by decide, by decide, by decide, by decide, by decide +kernel⟩
  · exact nice_top h0 h1 v0 v1
theorem nice_great : Nice (.tuple [.str "great", .int 0]) 1 40 := ⟨by decide, by decide, by decide, by decide, by decide +kernel⟩
theorem top_deal {h v : Int} (h0 : 0 ≤ h) (h1 : h < tn) (v0 : 0 ≤ v) : Deal (topP h v) topL where
  nd := by show [("p" : Str), "o", "q"].Nodup; decide +kernel
  perm := by
    show topL.Perm [("p" : Str), "o", "q"]
    decide +kernel
  few := by simp [topP]
  nn := fun p hp => by
    simp only [topP, List.mem_cons, List.not_mem_nil, or_false] at hp
    rcases hp with rfl | rfl | rfl <;> dsimp only <;> omega
abbrev jS (o0 o2 o3 o4 o5 : Option SV) (sr : Src) : S := ⟨[o0, some .src, o2, o3, o4, o5], some sr⟩
section
variable {aT aR a1 a2 a3 : Addr} {tab : Tab} {o0 o2 o3 o4 o5 : Option SV}
theorem one_deal {ps : Pr} {l : List Str} {sr : Src} (hi : SrcIn sr) (d : SDeal ps l) (h1 : tab a1 = some (2, F_piece_of aR)) (h2 : tab a2 = some (2, F_cell_behind aR)) (h3 : tab a3 = some (2, F_cell_ahead aR)) : ∃ sr', (cIfS (cOr (cNot (cT (cCall 1 (F_law_deal_right aT aR a1 a2 a3 tab) (cCons (cVar 2) cNil)))) (cNot (cT (cCall 2 (F_law_far_right aR a2 tab) (cCons (cVar 1) (cCons (cVar 2) cNil)))))) (cRet (cD (.bool false))) cSkip) (jS o0 (some (.sh (dealD ps l))) o3 o4 o5 sr) = .ok .nx (jS o0 (some (.sh (dealD ps l))) o3 o4 o5 sr') ∧ SrcIn sr' := by
  have e1 := not_ok (t_ok ((law_deal_right_ok (aT := aT) d h1 h2 h3).call (n := 1) (ga := cCons (cVar 2) cNil) (s := jS o0 (some (.sh (dealD ps l))) o3 o4 o5 sr) (s1 := jS o0 (some (.sh (dealD ps l))) o3 o4 o5 sr) rfl))
  obtain ⟨r, sr', e2, rfl, i'⟩ := (law_far_right_draws d h2).call (n := 2) (ga := cCons (cVar 1) (cCons (cVar 2) cNil)) (s := jS o0 (some (.sh (dealD ps l))) o3 o4 o5 sr) (s1 := jS o0 (some (.sh (dealD ps l))) o3 o4 o5 sr) rfl rfl hi
  exact ⟨sr', ifs_ff (or_ff e1 (not_ok (t_ok e2))) rfl, i'⟩
theorem nine_ok (s : S) : (cCall1 dInt (vE (cBinE dMul (cD (.str "9")) (vE (cD (.int 300)))))) s = .ok (.sh (.int (tn - 1))) s := by
  have e1 : cBinE dMul (cD (.str "9")) (vE (cD (.int 300))) s = .ok (.sh (.str (Txt.mul "9" 300))) s := binE_ok (fa := cD (.str "9")) (r := .sh (.str "9")) rfl (show vE (cD (.int 300)) s = .ok (.int 300) s from rfl) rfl (str_mul (by decide) (by decide) (by decide +kernel))
  exact call1_ok (vE_ok e1 rfl) nine_read
theorem top_end {sr : Src} {v : Int} (v0 : 0 ≤ v) (v1 : v ≤ 1) : cSeq (cAsg (cBinV dFdiv 4 (vE (cD (.int 2)))) (gNm 3)) (cSeq (cAsg (cTup (cCons (cTup (cCons (cTup (cCons (cD (.str "p")) (cCons (cVar 3) cNil))) (cCons (cTup (cCons (cD (.str "o")) (cCons (cD (.int 0)) cNil))) (cCons (cTup (cCons (cD (.str "q")) (cCons (cBinE dAdd (cBinV dSub 4 (cVarV 3)) (cVarV 5)) cNil))) cNil)))) (cCons (cTup (cCons (cD (.str "q")) (cCons (cD (.str "p")) (cCons (cD (.str "o")) cNil)))) cNil))) (gNm 2)) (cSeq (cIfS (cT (cBinE dNe (cCall1 dRepr (vE (cCall 1 (F_law_made aT) (cCons (cVar 2) cNil)))) (vE (cCall1 dRepr (vE (cIf (cT (cBinV dEq 5 (vE (cD (.int 0))))) (cTup (cCons (cD (.str "told")) (cCons (cVar 2) cNil))) (cTup (cCons (cD (.str "great")) (cCons (cD (.int 0)) cNil))))))))) (cRet (cD (.bool false))) cSkip) (cRet (cBinE dEq (cCall 1 F_deal_size (cCons (cVar 2) cNil)) (vE (cBinV dAdd 4 (cVarV 5))))))) (jS o0 o2 o3 (some (.sh (.int (tn - 1)))) (some (.sh (.int v))) sr) = .ok (.ret (.sh (.bool true))) (jS o0 (some (.sh (dealD (topP ((tn - 1) / 2) v) topL))) (some (.sh (.int ((tn - 1) / 2)))) (some (.sh (.int (tn - 1)))) (some (.sh (.int v))) sr) := by
  have t1 : 1 ≤ tn := by unfold tn; decide +kernel
  have e0 : dFdiv (.int (tn - 1)) (.int 2) = some (.sh (.int ((tn - 1) / 2))) := rfl
  have e1 : cAsg (cBinV dFdiv 4 (vE (cD (.int 2)))) (gNm 3) (jS o0 o2 o3 (some (.sh (.int (tn - 1)))) (some (.sh (.int v))) sr) = .ok .nx (jS o0 o2 (some (.sh (.int ((tn - 1) / 2)))) (some (.sh (.int (tn - 1)))) (some (.sh (.int v))) sr) := nm_ok (binV_ok (i := 4) (r := .sh (.int (tn - 1))) rfl (show vE (cD (.int 2)) _ = .ok (.int 2) _ from rfl) rfl e0)
  have h0 : 0 ≤ (tn - 1) / 2 := by omega
  have h1 : (tn - 1) / 2 < tn := by omega
  refine seq_nx e1 ?_
  generalize (tn - 1) / 2 = h at h0 h1
  have e2 : (cAsg (cTup (cCons (cTup (cCons (cTup (cCons (cD (.str "p")) (cCons (cVar 3) cNil))) (cCons (cTup (cCons (cD (.str "o")) (cCons (cD (.int 0)) cNil))) (cCons (cTup (cCons (cD (.str "q")) (cCons (cBinE dAdd (cBinV dSub 4 (cVarV 3)) (cVarV 5)) cNil))) cNil)))) (cCons (cTup (cCons (cD (.str "q")) (cCons (cD (.str "p")) (cCons (cD (.str "o")) cNil)))) cNil))) (gNm 2)) (jS o0 o2 (some (.sh (.int h))) (some (.sh (.int (tn - 1)))) (some (.sh (.int v))) sr) = .ok .nx (jS o0 (some (.sh (dealD (topP h v) topL))) (some (.sh (.int h))) (some (.sh (.int (tn - 1)))) (some (.sh (.int v))) sr) := rfl
  refine seq_nx e2 ?_
  generalize hs : jS o0 (some (.sh (dealD (topP h v) topL))) (some (.sh (.int h))) (some (.sh (.int (tn - 1)))) (some (.sh (.int v))) sr = s
  have hd := top_deal h0 h1 v0
  have ht := top_tot h v
  have ga : cCons (cVar 2) cNil s = .ok [.sh (dealD (topP h v) topL)] s := by subst hs; rfl
  have hc : (cIfS (cT (cBinE dNe (cCall1 dRepr (vE (cCall 1 (F_law_made aT) (cCons (cVar 2) cNil)))) (vE (cCall1 dRepr (vE (cIf (cT (cBinV dEq 5 (vE (cD (.int 0))))) (cTup (cCons (cD (.str "told")) (cCons (cVar 2) cNil))) (cTup (cCons (cD (.str "great")) (cCons (cD (.int 0)) cNil))))))))) (cRet (cD (.bool false))) cSkip) s = .ok .nx s := by
    have q5 : cT (cBinV dEq 5 (vE (cD (.int 0)))) s = .ok (decide (v = 0)) s := t_ok (binV_ok (i := 5) (r := .sh (.int v)) (by subst hs; rfl) (show vE (cD (.int 0)) s = .ok (.int 0) s from rfl) (by subst hs; rfl) (dEq_int _ _))
    by_cases hv : v = 0
    · rw [decide_eq_true hv] at q5
      have m1 := (law_made_told aT (deal_made_ok aT (ps := topP h v) (l := topL) hd.few (by omega) (by rw [ht]; show _ < tn; omega))).call (n := 1) ga
      have m2 : cTup (cCons (cD (.str "told")) (cCons (cVar 2) cNil)) s = .ok (.sh (.tuple [.str "told", dealD (topP h v) topL])) s := by subst hs; rfl
      exact ifs_ff (reprs_ne (nice_told h0 h1 v0 v1) (by decide) (by decide) rfl (vE_ok m1 rfl) (vE_ok (if_tt q5 m2) rfl)) rfl
    · rw [decide_eq_false hv] at q5
      have m1 := (law_made_great aT (deal_made_no aT (ps := topP h v) (l := topL) hd.few (by rw [ht]; show _ = tn; omega))).call (n := 1) ga
      have m2 : cTup (cCons (cD (.str "great")) (cCons (cD (.int 0)) cNil)) s = .ok (.sh (.tuple [.str "great", .int 0])) s := rfl
      exact ifs_ff (reprs_ne nice_great (by decide) (by decide) rfl (vE_ok m1 rfl) (vE_ok (if_ff q5 m2) rfl)) rfl
  refine seq_nx hc (ret_ok ?_)
  have f1 := (deal_size_ok (topP h v) topL hd.few).call (n := 1) ga
  have f2 : cBinV dAdd 4 (cVarV 5) s = .ok (.sh (.int (tn - 1 + v))) s := by subst hs; rfl
  refine binE_ok f1 (vE_ok f2 rfl) rfl (eq_self (k := 0) (n := 301) ?_ (by decide) (congrArg PyData.int ht))
  rw [ht]
  exact Nice.int (by omega) (Int.lt_of_le_of_lt (show _ ≤ tn by omega) (by unfold tn; decide +kernel)) (by decide) (by decide)
theorem law_ok (aT aR a1 a2 a3 : Addr) (tab : Tab) (h1 : tab a1 = some (2, F_piece_of aR)) (h2 : tab a2 = some (2, F_cell_behind aR)) (h3 : tab a3 = some (2, F_cell_ahead aR)) (sr : Src) (hi : SrcIn sr) : (m_law aT aR a1 a2 a3 tab (lawS 6 sr)).sat (fun fl _ => fl = .ret (.sh (.bool true))) fun _ _ => False := by
  obtain ⟨r1, sr1, e1, ⟨ps1, l1, rfl, d1⟩, i1⟩ := (law_deal_draws (m := 8) (c := 7) (by decide) (by decide)).call (n := 3) (ga := cCons (cVar 1) (cCons (cD (.int 8)) (cCons (cD (.int 7)) cNil))) (s := jS none none none none none sr) (s1 := jS none none none none none sr) rfl rfl hi
  obtain ⟨r2, sr2, e2, ⟨ps2, l2, rfl, d2⟩, i2⟩ := (law_deal_draws (m := 4) (c := 5) (by decide) (by decide)).call (n := 3) (ga := cCons (cVar 1) (cCons (cD (.int 4)) (cCons (cD (.int 5)) cNil))) (s := jS none none none none none sr1) (s1 := jS none none none none none sr1) rfl rfl i1
  obtain ⟨sr3, e3, i3⟩ := one_deal (aT := aT) (o0 := none) (o3 := none) (o4 := none) (o5 := none) i2 d1 h1 h2 h3
  obtain ⟨sr4, e4, i4⟩ := one_deal (aT := aT) (o0 := none) (o3 := none) (o4 := none) (o5 := none) i3 d2 h1 h2 h3
  obtain ⟨v, sr5, e5, pv, i5⟩ := pick_at (j := 1) (f := cD (.int 2)) (s := jS none (some (.sh (dealD ps2 l2))) none none none sr4) (sr := sr4) (many := 2) (r := .sh (.int 2)) rfl rfl i4 rfl rfl (by decide)
  have hv : 0 ≤ v ∧ v ≤ 1 := by
    obtain ⟨p0, p1⟩ := pv
    omega
  have hit : cIt (cTup (cCons (cCall 3 F_law_deal (cCons (cVar 1) (cCons (cD (.int 8)) (cCons (cD (.int 7)) cNil)))) (cCons (cCall 3 F_law_deal (cCons (cVar 1) (cCons (cD (.int 4)) (cCons (cD (.int 5)) cNil)))) cNil))) (lawS 6 sr) = .ok (shs [dealD ps1 l1, dealD ps2 l2]) (jS none none none none none sr2) :=
    it_ok (tup_ok (cons_ok e1 (cons_ok e2 (show cNil _ = .ok [] (jS none none none none none sr2) from rfl))) rfl (Nat.le_of_ble_eq_true rfl)) rfl rfl
  have hl : forL (gNm 2) (cIfS (cOr (cNot (cT (cCall 1 (F_law_deal_right aT aR a1 a2 a3 tab) (cCons (cVar 2) cNil)))) (cNot (cT (cCall 2 (F_law_far_right aR a2 tab) (cCons (cVar 1) (cCons (cVar 2) cNil)))))) (cRet (cD (.bool false))) cSkip) (shs [dealD ps1 l1, dealD ps2 l2]) (jS none none none none none sr2) = .ok .nx (jS none (some (.sh (dealD ps2 l2))) none none none sr4) := by
    refine (forL_step (s1 := jS none (some (.sh (dealD ps1 l1))) none none none sr2) rfl e3).trans ?_
    refine (forL_step (s1 := jS none (some (.sh (dealD ps2 l2))) none none none sr3) rfl e4).trans ?_
    rfl
  have hp : (cPar [4, 5] (cConsR (cCall1 dInt (vE (cBinE dMul (cD (.str "9")) (vE (cD (.int 300)))))) (cConsR (cCall 2 F_law_pick (cCons (cVar 1) (cCons (cD (.int 2)) cNil))) cNil))) (jS none (some (.sh (dealD ps2 l2))) none none none sr4) = .ok .nx (jS none (some (.sh (dealD ps2 l2))) none (some (.sh (.int (tn - 1)))) (some (.sh (.int v))) sr5) :=
    par_ok (is := [4, 5]) (consR_ok (nine_ok _) (consR_ok e5 (show cNil _ = .ok [] _ from rfl)))
  have e : m_law aT aR a1 a2 a3 tab (lawS 6 sr) = _ := seq_nx (for_ok hit hl) (seq_nx hp (top_end (aT := aT) hv.1 hv.2))
  rw [e]
  exact rfl
end
end Law
end Pw
set_option Elab.async false
set_option linter.all false
set_option maxRecDepth 100000
set_option maxHeartbeats 4000000
namespace Pw
namespace Law
open PySem PySem.Spec PyProof.Rows L2
abbrev sI_Refused : Stmt := clsDef (topS 3)
abbrev sI_TooGreat : Stmt := clsDef (topS 2)
theorem all_mk {P : Program} {w : World} {K : PySem.W.Frag} {h : Heap} {mg : Str → Option Value} {fa : Addr} (X : K.In h) (G : h.Ns mainGlobals mg) (hfa : mg "law" = some (.ref fa))
    {f_is_long f_number_made f_deal_size f_full_pieces f_deal_full f_deal_made f_first_cells f_laid_cells f_cell_let f_piece_of f_cell_behind f_deal_undone f_cell_ahead f_law_source f_law_pick f_law_of f_law_deal f_law_goes f_law_told f_law_begins f_law_deal_right f_law_far_right f_law_made f_law c_Refused i_Refused cd_Refused cl_Refused c_TooGreat i_TooGreat cd_TooGreat cl_TooGreat ce_Refused ce_TooGreat : Addr}
    {od_is_long an_is_long : Option Addr} {sl_is_long : Array (Option Value)} {oc_is_long kv_is_long dc_is_long pm_is_long cv_is_long ct_is_long : Value}
    {od_number_made an_number_made : Option Addr} {sl_number_made : Array (Option Value)} {oc_number_made kv_number_made dc_number_made pm_number_made cv_number_made ct_number_made : Value}
    {od_deal_size an_deal_size : Option Addr} {sl_deal_size : Array (Option Value)} {oc_deal_size kv_deal_size dc_deal_size pm_deal_size cv_deal_size ct_deal_size : Value}
    {od_full_pieces an_full_pieces : Option Addr} {sl_full_pieces : Array (Option Value)} {oc_full_pieces kv_full_pieces dc_full_pieces pm_full_pieces cv_full_pieces ct_full_pieces : Value}
    {od_deal_full an_deal_full : Option Addr} {sl_deal_full : Array (Option Value)} {oc_deal_full kv_deal_full dc_deal_full pm_deal_full cv_deal_full ct_deal_full : Value}
    {od_deal_made an_deal_made : Option Addr} {sl_deal_made : Array (Option Value)} {oc_deal_made kv_deal_made dc_deal_made pm_deal_made cv_deal_made ct_deal_made : Value}
    {od_first_cells an_first_cells : Option Addr} {sl_first_cells : Array (Option Value)} {oc_first_cells kv_first_cells dc_first_cells pm_first_cells cv_first_cells ct_first_cells : Value}
    {od_laid_cells an_laid_cells : Option Addr} {sl_laid_cells : Array (Option Value)} {oc_laid_cells kv_laid_cells dc_laid_cells pm_laid_cells cv_laid_cells ct_laid_cells : Value}
    {od_cell_let an_cell_let : Option Addr} {sl_cell_let : Array (Option Value)} {oc_cell_let kv_cell_let dc_cell_let pm_cell_let cv_cell_let ct_cell_let : Value}
    {od_piece_of an_piece_of : Option Addr} {sl_piece_of : Array (Option Value)} {oc_piece_of kv_piece_of dc_piece_of pm_piece_of cv_piece_of ct_piece_of : Value}
    {od_cell_behind an_cell_behind : Option Addr} {sl_cell_behind : Array (Option Value)} {oc_cell_behind kv_cell_behind dc_cell_behind pm_cell_behind cv_cell_behind ct_cell_behind : Value}
    {od_deal_undone an_deal_undone : Option Addr} {sl_deal_undone : Array (Option Value)} {oc_deal_undone kv_deal_undone dc_deal_undone pm_deal_undone cv_deal_undone ct_deal_undone : Value}
    {od_cell_ahead an_cell_ahead : Option Addr} {sl_cell_ahead : Array (Option Value)} {oc_cell_ahead kv_cell_ahead dc_cell_ahead pm_cell_ahead cv_cell_ahead ct_cell_ahead : Value}
    {od_law_source an_law_source : Option Addr} {sl_law_source : Array (Option Value)} {oc_law_source kv_law_source dc_law_source pm_law_source cv_law_source ct_law_source : Value}
    {od_law_pick an_law_pick : Option Addr} {sl_law_pick : Array (Option Value)} {oc_law_pick kv_law_pick dc_law_pick pm_law_pick cv_law_pick ct_law_pick : Value}
    {od_law_of an_law_of : Option Addr} {sl_law_of : Array (Option Value)} {oc_law_of kv_law_of dc_law_of pm_law_of cv_law_of ct_law_of : Value}
    {od_law_deal an_law_deal : Option Addr} {sl_law_deal : Array (Option Value)} {oc_law_deal kv_law_deal dc_law_deal pm_law_deal cv_law_deal ct_law_deal : Value}
    {od_law_goes an_law_goes : Option Addr} {sl_law_goes : Array (Option Value)} {oc_law_goes kv_law_goes dc_law_goes pm_law_goes cv_law_goes ct_law_goes : Value}
    {od_law_told an_law_told : Option Addr} {sl_law_told : Array (Option Value)} {oc_law_told kv_law_told dc_law_told pm_law_told cv_law_told ct_law_told : Value}
    {od_law_begins an_law_begins : Option Addr} {sl_law_begins : Array (Option Value)} {oc_law_begins kv_law_begins dc_law_begins pm_law_begins cv_law_begins ct_law_begins : Value}
    {od_law_deal_right an_law_deal_right : Option Addr} {sl_law_deal_right : Array (Option Value)} {oc_law_deal_right kv_law_deal_right dc_law_deal_right pm_law_deal_right cv_law_deal_right ct_law_deal_right : Value}
    {od_law_far_right an_law_far_right : Option Addr} {sl_law_far_right : Array (Option Value)} {oc_law_far_right kv_law_far_right dc_law_far_right pm_law_far_right cv_law_far_right ct_law_far_right : Value}
    {od_law_made an_law_made : Option Addr} {sl_law_made : Array (Option Value)} {oc_law_made kv_law_made dc_law_made pm_law_made cv_law_made ct_law_made : Value}
    {od_law an_law : Option Addr} {sl_law : Array (Option Value)} {oc_law kv_law dc_law pm_law cv_law ct_law : Value}
    {t_CELL : Tok}
    {t_LONG_NUMBER : Tok}
    {t_MOST_FIGURES : Tok}
    {t_SURE_BITS : Tok}
    {nm_Refused qn_Refused : Str} {ns_Refused : Addr} {bs_Refused : List Value} {sn_Refused : List Str} {sub_Refused : List Value} {ab_Refused : Bool} {co_Refused : Option Bool} {dd_Refused : Option Addr} {m0_Refused m1_Refused m2_Refused m3_Refused m5_Refused : Option Value} {io_Refused ik_Refused id_Refused ip_Refused it_Refused ccl_Refused ccv_Refused : Value} {iod_Refused ian_Refused cdd_Refused ccd_Refused : Option Addr} {isl_Refused ccs_Refused csl_Refused : Array (Option Value)} {cvs_Refused : Array Value} {fi_Refused : Str} {tf_Refused : Tok}
    {nm_TooGreat qn_TooGreat : Str} {ns_TooGreat : Addr} {bs_TooGreat : List Value} {sn_TooGreat : List Str} {sub_TooGreat : List Value} {ab_TooGreat : Bool} {co_TooGreat : Option Bool} {dd_TooGreat : Option Addr} {m0_TooGreat m1_TooGreat m2_TooGreat m3_TooGreat m5_TooGreat : Option Value} {io_TooGreat ik_TooGreat id_TooGreat ip_TooGreat it_TooGreat ccl_TooGreat ccv_TooGreat : Value} {iod_TooGreat ian_TooGreat cdd_TooGreat ccd_TooGreat : Option Addr} {isl_TooGreat ccs_TooGreat csl_TooGreat : Array (Option Value)} {cvs_TooGreat : Array Value} {fi_TooGreat : Str} {tf_TooGreat : Tok}
    (a_is_long : PySem.W.nsIn K mainGlobals "is_long" = some (some (.ref f_is_long)))
    (l_is_long : K.lookup f_is_long = some ⟨oc_is_long, od_is_long, .func (PySem.W.fnOf "is_long" "is_long" (defArgs s_is_long) (defBody s_is_long) (defScope s_is_long) .none kv_is_long dc_is_long pm_is_long an_is_long cv_is_long ct_is_long), sl_is_long⟩)
    (cc_is_long : PySem.W.codeIn K cv_is_long "is_long" = true)
    (kp_is_long : PySem.W.keepIn K (.ref f_is_long) = true)
    (a_number_made : PySem.W.nsIn K mainGlobals "number_made" = some (some (.ref f_number_made)))
    (l_number_made : K.lookup f_number_made = some ⟨oc_number_made, od_number_made, .func (PySem.W.fnOf "number_made" "number_made" (defArgs s_number_made) (defBody s_number_made) (defScope s_number_made) .none kv_number_made dc_number_made pm_number_made an_number_made cv_number_made ct_number_made), sl_number_made⟩)
    (cc_number_made : PySem.W.codeIn K cv_number_made "number_made" = true)
    (kp_number_made : PySem.W.keepIn K (.ref f_number_made) = true)
    (a_deal_size : PySem.W.nsIn K mainGlobals "deal_size" = some (some (.ref f_deal_size)))
    (l_deal_size : K.lookup f_deal_size = some ⟨oc_deal_size, od_deal_size, .func (PySem.W.fnOf "deal_size" "deal_size" (defArgs s_deal_size) (defBody s_deal_size) (defScope s_deal_size) .none kv_deal_size dc_deal_size pm_deal_size an_deal_size cv_deal_size ct_deal_size), sl_deal_size⟩)
    (cc_deal_size : PySem.W.codeIn K cv_deal_size "deal_size" = true)
    (kp_deal_size : PySem.W.keepIn K (.ref f_deal_size) = true)
    (a_full_pieces : PySem.W.nsIn K mainGlobals "full_pieces" = some (some (.ref f_full_pieces)))
    (l_full_pieces : K.lookup f_full_pieces = some ⟨oc_full_pieces, od_full_pieces, .func (PySem.W.fnOf "full_pieces" "full_pieces" (defArgs s_full_pieces) (defBody s_full_pieces) (defScope s_full_pieces) .none kv_full_pieces dc_full_pieces pm_full_pieces an_full_pieces cv_full_pieces ct_full_pieces), sl_full_pieces⟩)
    (cc_full_pieces : PySem.W.codeIn K cv_full_pieces "full_pieces" = true)
    (kp_full_pieces : PySem.W.keepIn K (.ref f_full_pieces) = true)
    (a_deal_full : PySem.W.nsIn K mainGlobals "deal_full" = some (some (.ref f_deal_full)))
    (l_deal_full : K.lookup f_deal_full = some ⟨oc_deal_full, od_deal_full, .func (PySem.W.fnOf "deal_full" "deal_full" (defArgs s_deal_full) (defBody s_deal_full) (defScope s_deal_full) .none kv_deal_full dc_deal_full pm_deal_full an_deal_full cv_deal_full ct_deal_full), sl_deal_full⟩)
    (cc_deal_full : PySem.W.codeIn K cv_deal_full "deal_full" = true)
    (kp_deal_full : PySem.W.keepIn K (.ref f_deal_full) = true)
    (a_deal_made : PySem.W.nsIn K mainGlobals "deal_made" = some (some (.ref f_deal_made)))
    (l_deal_made : K.lookup f_deal_made = some ⟨oc_deal_made, od_deal_made, .func (PySem.W.fnOf "deal_made" "deal_made" (defArgs s_deal_made) (defBody s_deal_made) (defScope s_deal_made) .none kv_deal_made dc_deal_made pm_deal_made an_deal_made cv_deal_made ct_deal_made), sl_deal_made⟩)
    (cc_deal_made : PySem.W.codeIn K cv_deal_made "deal_made" = true)
    (kp_deal_made : PySem.W.keepIn K (.ref f_deal_made) = true)
    (a_first_cells : PySem.W.nsIn K mainGlobals "first_cells" = some (some (.ref f_first_cells)))
    (l_first_cells : K.lookup f_first_cells = some ⟨oc_first_cells, od_first_cells, .func (PySem.W.fnOf "first_cells" "first_cells" (defArgs s_first_cells) (defBody s_first_cells) (defScope s_first_cells) .none kv_first_cells dc_first_cells pm_first_cells an_first_cells cv_first_cells ct_first_cells), sl_first_cells⟩)
    (cc_first_cells : PySem.W.codeIn K cv_first_cells "first_cells" = true)
    (kp_first_cells : PySem.W.keepIn K (.ref f_first_cells) = true)
    (a_laid_cells : PySem.W.nsIn K mainGlobals "laid_cells" = some (some (.ref f_laid_cells)))
    (l_laid_cells : K.lookup f_laid_cells = some ⟨oc_laid_cells, od_laid_cells, .func (PySem.W.fnOf "laid_cells" "laid_cells" (defArgs s_laid_cells) (defBody s_laid_cells) (defScope s_laid_cells) .none kv_laid_cells dc_laid_cells pm_laid_cells an_laid_cells cv_laid_cells ct_laid_cells), sl_laid_cells⟩)
    (cc_laid_cells : PySem.W.codeIn K cv_laid_cells "laid_cells" = true)
    (kp_laid_cells : PySem.W.keepIn K (.ref f_laid_cells) = true)
    (a_cell_let : PySem.W.nsIn K mainGlobals "cell_let" = some (some (.ref f_cell_let)))
    (l_cell_let : K.lookup f_cell_let = some ⟨oc_cell_let, od_cell_let, .func (PySem.W.fnOf "cell_let" "cell_let" (defArgs s_cell_let) (defBody s_cell_let) (defScope s_cell_let) .none kv_cell_let dc_cell_let pm_cell_let an_cell_let cv_cell_let ct_cell_let), sl_cell_let⟩)
    (cc_cell_let : PySem.W.codeIn K cv_cell_let "cell_let" = true)
    (kp_cell_let : PySem.W.keepIn K (.ref f_cell_let) = true)
    (a_piece_of : PySem.W.nsIn K mainGlobals "piece_of" = some (some (.ref f_piece_of)))
    (l_piece_of : K.lookup f_piece_of = some ⟨oc_piece_of, od_piece_of, .func (PySem.W.fnOf "piece_of" "piece_of" (defArgs s_piece_of) (defBody s_piece_of) (defScope s_piece_of) .none kv_piece_of dc_piece_of pm_piece_of an_piece_of cv_piece_of ct_piece_of), sl_piece_of⟩)
    (cc_piece_of : PySem.W.codeIn K cv_piece_of "piece_of" = true)
    (kp_piece_of : PySem.W.keepIn K (.ref f_piece_of) = true)
    (a_cell_behind : PySem.W.nsIn K mainGlobals "cell_behind" = some (some (.ref f_cell_behind)))
    (l_cell_behind : K.lookup f_cell_behind = some ⟨oc_cell_behind, od_cell_behind, .func (PySem.W.fnOf "cell_behind" "cell_behind" (defArgs s_cell_behind) (defBody s_cell_behind) (defScope s_cell_behind) .none kv_cell_behind dc_cell_behind pm_cell_behind an_cell_behind cv_cell_behind ct_cell_behind), sl_cell_behind⟩)
    (cc_cell_behind : PySem.W.codeIn K cv_cell_behind "cell_behind" = true)
    (kp_cell_behind : PySem.W.keepIn K (.ref f_cell_behind) = true)
    (a_deal_undone : PySem.W.nsIn K mainGlobals "deal_undone" = some (some (.ref f_deal_undone)))
    (l_deal_undone : K.lookup f_deal_undone = some ⟨oc_deal_undone, od_deal_undone, .func (PySem.W.fnOf "deal_undone" "deal_undone" (defArgs s_deal_undone) (defBody s_deal_undone) (defScope s_deal_undone) .none kv_deal_undone dc_deal_undone pm_deal_undone an_deal_undone cv_deal_undone ct_deal_undone), sl_deal_undone⟩)
    (cc_deal_undone : PySem.W.codeIn K cv_deal_undone "deal_undone" = true)
    (kp_deal_undone : PySem.W.keepIn K (.ref f_deal_undone) = true)
    (a_cell_ahead : PySem.W.nsIn K mainGlobals "cell_ahead" = some (some (.ref f_cell_ahead)))
    (l_cell_ahead : K.lookup f_cell_ahead = some ⟨oc_cell_ahead, od_cell_ahead, .func (PySem.W.fnOf "cell_ahead" "cell_ahead" (defArgs s_cell_ahead) (defBody s_cell_ahead) (defScope s_cell_ahead) .none kv_cell_ahead dc_cell_ahead pm_cell_ahead an_cell_ahead cv_cell_ahead ct_cell_ahead), sl_cell_ahead⟩)
    (cc_cell_ahead : PySem.W.codeIn K cv_cell_ahead "cell_ahead" = true)
    (kp_cell_ahead : PySem.W.keepIn K (.ref f_cell_ahead) = true)
    (a_law_source : PySem.W.nsIn K mainGlobals "_law_source" = some (some (.ref f_law_source)))
    (l_law_source : K.lookup f_law_source = some ⟨oc_law_source, od_law_source, .func (PySem.W.fnOf "_law_source" "_law_source" (defArgs s_law_source) (defBody s_law_source) (defScope s_law_source) .none kv_law_source dc_law_source pm_law_source an_law_source cv_law_source ct_law_source), sl_law_source⟩)
    (cc_law_source : PySem.W.codeIn K cv_law_source "_law_source" = true)
    (kp_law_source : PySem.W.keepIn K (.ref f_law_source) = true)
    (a_law_pick : PySem.W.nsIn K mainGlobals "_law_pick" = some (some (.ref f_law_pick)))
    (l_law_pick : K.lookup f_law_pick = some ⟨oc_law_pick, od_law_pick, .func (PySem.W.fnOf "_law_pick" "_law_pick" (defArgs s_law_pick) (defBody s_law_pick) (defScope s_law_pick) .none kv_law_pick dc_law_pick pm_law_pick an_law_pick cv_law_pick ct_law_pick), sl_law_pick⟩)
    (cc_law_pick : PySem.W.codeIn K cv_law_pick "_law_pick" = true)
    (kp_law_pick : PySem.W.keepIn K (.ref f_law_pick) = true)
    (a_law_of : PySem.W.nsIn K mainGlobals "_law_of" = some (some (.ref f_law_of)))
    (l_law_of : K.lookup f_law_of = some ⟨oc_law_of, od_law_of, .func (PySem.W.fnOf "_law_of" "_law_of" (defArgs s_law_of) (defBody s_law_of) (defScope s_law_of) .none kv_law_of dc_law_of pm_law_of an_law_of cv_law_of ct_law_of), sl_law_of⟩)
    (cc_law_of : PySem.W.codeIn K cv_law_of "_law_of" = true)
    (kp_law_of : PySem.W.keepIn K (.ref f_law_of) = true)
    (a_law_deal : PySem.W.nsIn K mainGlobals "_law_deal" = some (some (.ref f_law_deal)))
    (l_law_deal : K.lookup f_law_deal = some ⟨oc_law_deal, od_law_deal, .func (PySem.W.fnOf "_law_deal" "_law_deal" (defArgs s_law_deal) (defBody s_law_deal) (defScope s_law_deal) .none kv_law_deal dc_law_deal pm_law_deal an_law_deal cv_law_deal ct_law_deal), sl_law_deal⟩)
    (cc_law_deal : PySem.W.codeIn K cv_law_deal "_law_deal" = true)
    (kp_law_deal : PySem.W.keepIn K (.ref f_law_deal) = true)
    (a_law_goes : PySem.W.nsIn K mainGlobals "_law_goes" = some (some (.ref f_law_goes)))
    (l_law_goes : K.lookup f_law_goes = some ⟨oc_law_goes, od_law_goes, .func (PySem.W.fnOf "_law_goes" "_law_goes" (defArgs s_law_goes) (defBody s_law_goes) (defScope s_law_goes) .none kv_law_goes dc_law_goes pm_law_goes an_law_goes cv_law_goes ct_law_goes), sl_law_goes⟩)
    (cc_law_goes : PySem.W.codeIn K cv_law_goes "_law_goes" = true)
    (kp_law_goes : PySem.W.keepIn K (.ref f_law_goes) = true)
    (a_law_told : PySem.W.nsIn K mainGlobals "_law_told" = some (some (.ref f_law_told)))
    (l_law_told : K.lookup f_law_told = some ⟨oc_law_told, od_law_told, .func (PySem.W.fnOf "_law_told" "_law_told" (defArgs s_law_told) (defBody s_law_told) (defScope s_law_told) .none kv_law_told dc_law_told pm_law_told an_law_told cv_law_told ct_law_told), sl_law_told⟩)
    (cc_law_told : PySem.W.codeIn K cv_law_told "_law_told" = true)
    (kp_law_told : PySem.W.keepIn K (.ref f_law_told) = true)
    (a_law_begins : PySem.W.nsIn K mainGlobals "_law_begins" = some (some (.ref f_law_begins)))
    (l_law_begins : K.lookup f_law_begins = some ⟨oc_law_begins, od_law_begins, .func (PySem.W.fnOf "_law_begins" "_law_begins" (defArgs s_law_begins) (defBody s_law_begins) (defScope s_law_begins) .none kv_law_begins dc_law_begins pm_law_begins an_law_begins cv_law_begins ct_law_begins), sl_law_begins⟩)
    (cc_law_begins : PySem.W.codeIn K cv_law_begins "_law_begins" = true)
    (kp_law_begins : PySem.W.keepIn K (.ref f_law_begins) = true)
    (a_law_deal_right : PySem.W.nsIn K mainGlobals "_law_deal_right" = some (some (.ref f_law_deal_right)))
    (l_law_deal_right : K.lookup f_law_deal_right = some ⟨oc_law_deal_right, od_law_deal_right, .func (PySem.W.fnOf "_law_deal_right" "_law_deal_right" (defArgs s_law_deal_right) (defBody s_law_deal_right) (defScope s_law_deal_right) .none kv_law_deal_right dc_law_deal_right pm_law_deal_right an_law_deal_right cv_law_deal_right ct_law_deal_right), sl_law_deal_right⟩)
    (cc_law_deal_right : PySem.W.codeIn K cv_law_deal_right "_law_deal_right" = true)
    (kp_law_deal_right : PySem.W.keepIn K (.ref f_law_deal_right) = true)
    (a_law_far_right : PySem.W.nsIn K mainGlobals "_law_far_right" = some (some (.ref f_law_far_right)))
    (l_law_far_right : K.lookup f_law_far_right = some ⟨oc_law_far_right, od_law_far_right, .func (PySem.W.fnOf "_law_far_right" "_law_far_right" (defArgs s_law_far_right) (defBody s_law_far_right) (defScope s_law_far_right) .none kv_law_far_right dc_law_far_right pm_law_far_right an_law_far_right cv_law_far_right ct_law_far_right), sl_law_far_right⟩)
    (cc_law_far_right : PySem.W.codeIn K cv_law_far_right "_law_far_right" = true)
    (kp_law_far_right : PySem.W.keepIn K (.ref f_law_far_right) = true)
    (a_law_made : PySem.W.nsIn K mainGlobals "_law_made" = some (some (.ref f_law_made)))
    (l_law_made : K.lookup f_law_made = some ⟨oc_law_made, od_law_made, .func (PySem.W.fnOf "_law_made" "_law_made" (defArgs s_law_made) (defBody s_law_made) (defScope s_law_made) .none kv_law_made dc_law_made pm_law_made an_law_made cv_law_made ct_law_made), sl_law_made⟩)
    (cc_law_made : PySem.W.codeIn K cv_law_made "_law_made" = true)
    (kp_law_made : PySem.W.keepIn K (.ref f_law_made) = true)
    (a_law : PySem.W.nsIn K mainGlobals "law" = some (some (.ref f_law)))
    (l_law : K.lookup f_law = some ⟨oc_law, od_law, .func (PySem.W.fnOf "law" "law" (defArgs s_law) (defBody s_law) (defScope s_law) .none kv_law dc_law pm_law an_law cv_law ct_law), sl_law⟩)
    (cc_law : PySem.W.codeIn K cv_law "law" = true)
    (kp_law : PySem.W.keepIn K (.ref f_law) = true)
    (z_abs : PySem.W.nsIn K mainGlobals "abs" = some none)
    (z_all : PySem.W.nsIn K mainGlobals "all" = some none)
    (z_any : PySem.W.nsIn K mainGlobals "any" = some none)
    (z_dict : PySem.W.nsIn K mainGlobals "dict" = some none)
    (z_enumerate : PySem.W.nsIn K mainGlobals "enumerate" = some none)
    (z_int : PySem.W.nsIn K mainGlobals "int" = some none)
    (z_isinstance : PySem.W.nsIn K mainGlobals "isinstance" = some none)
    (z_len : PySem.W.nsIn K mainGlobals "len" = some none)
    (z_list : PySem.W.nsIn K mainGlobals "list" = some none)
    (z_max : PySem.W.nsIn K mainGlobals "max" = some none)
    (z_min : PySem.W.nsIn K mainGlobals "min" = some none)
    (z_range : PySem.W.nsIn K mainGlobals "range" = some none)
    (z_repr : PySem.W.nsIn K mainGlobals "repr" = some none)
    (z_sorted : PySem.W.nsIn K mainGlobals "sorted" = some none)
    (z_str : PySem.W.nsIn K mainGlobals "str" = some none)
    (z_sum : PySem.W.nsIn K mainGlobals "sum" = some none)
    (z_super : PySem.W.nsIn K mainGlobals "super" = some none)
    (z_tuple : PySem.W.nsIn K mainGlobals "tuple" = some none)
    (z_zip : PySem.W.nsIn K mainGlobals "zip" = some none)
    (v_CELL : PySem.W.nsIn K mainGlobals "CELL" = some (some (.str "cell" t_CELL)))
    (v_LONG_NUMBER : PySem.W.nsIn K mainGlobals "LONG_NUMBER" = some (some (.int 0 t_LONG_NUMBER)))
    (v_MOST_FIGURES : PySem.W.nsIn K mainGlobals "MOST_FIGURES" = some (some (.int 300 t_MOST_FIGURES)))
    (v_SURE_BITS : PySem.W.nsIn K mainGlobals "SURE_BITS" = some (some (.int 997 t_SURE_BITS)))
    (aX_Refused : PySem.W.nsIn K mainGlobals "Refused" = some (some (.ref c_Refused)))
    (x1_Refused : K.lookup c_Refused = some (PySem.excClassObj nm_Refused qn_Refused c_Refused ns_Refused bs_Refused [.ref ce_Refused, .type "ValueError", .type "Exception", .type "BaseException", .type "object"] true sn_Refused sub_Refused ab_Refused co_Refused dd_Refused m0_Refused m1_Refused m2_Refused m3_Refused m5_Refused "ValueError.__new__"))
    (x2_Refused : PySem.W.findIn K (.ref c_Refused) "__setattr__" = some (some (.builtin "object.__setattr__")))
    (n_Refused_word : PySem.W.findIn K (.ref c_Refused) "word" = some none)
    (n_Refused_place : PySem.W.findIn K (.ref c_Refused) "place" = some none)
    (x3_Refused : PySem.W.findIn K (.ref c_Refused) "__init__" = some (some (.ref i_Refused)))
    (x4_Refused : PySem.W.typeIn K (.ref i_Refused) = some (.type "function"))
    (x5_Refused : PySem.W.keepIn K (.ref c_Refused) = true)
    (x6_Refused : PySem.W.subIn K (.ref c_Refused) (.type "BaseException") = some true)
    (x7_Refused : PySem.W.subIn K (.ref c_Refused) (.type "ValueError") = some true)
    (x8_Refused : PySem.W.typeIn K (.ref c_Refused) = some (.type "type"))
    (x9_Refused : PySem.W.ks_superIn K c_Refused c_Refused "__init__" = some (some (.builtin "ValueError.__init__")))
    (xa_Refused : PySem.W.nsIn K PySem.cStatics "thirdparty.any" = some none)
    (xb_Refused : (P.main.scope.names.lookup ("super" : Str)).isSome = false)
    (xc_Refused : K.lookup i_Refused = some ⟨io_Refused, iod_Refused, .func (PySem.W.ksFn "__init__" "Refused.__init__" (defArgs sI_Refused) (defBody sI_Refused) (defScope sI_Refused) .none ik_Refused id_Refused ip_Refused ian_Refused (.ref cd_Refused) it_Refused cl_Refused), isl_Refused⟩)
    (xd_Refused : PySem.W.codeIn K (.ref cd_Refused) "Refused.__init__" = true)
    (xe_Refused : K.lookup cd_Refused = some ⟨ccl_Refused, cdd_Refused, .fields cvs_Refused, ccs_Refused⟩)
    (xf_Refused : cvs_Refused[2]? = some (.str fi_Refused tf_Refused))
    (xg_Refused : ((P.main.file : Str) == fi_Refused) = true)
    (xh_Refused : K.lookup cl_Refused = some ⟨ccv_Refused, ccd_Refused, .cell (some (.ref c_Refused)), csl_Refused⟩)
    (xi_Refused : PySem.W.findIn K (.ref c_Refused) "__getattribute__" = some (some (.builtin "BaseException.__getattribute__")))
    (xj_Refused : PySem.W.findIn K (.ref c_Refused) "__getattr__" = some none)
    (xk_Refused : PySem.W.hasDictIn K c_Refused = true)
    (xl_Refused : PySem.W.isClsIn K c_Refused = true)
    (xm_Refused : PySem.W.subIn K (.ref c_Refused) (.ref c_Refused) = some true)
    (aX_TooGreat : PySem.W.nsIn K mainGlobals "TooGreat" = some (some (.ref c_TooGreat)))
    (x1_TooGreat : K.lookup c_TooGreat = some (PySem.excClassObj nm_TooGreat qn_TooGreat c_TooGreat ns_TooGreat bs_TooGreat [.ref ce_TooGreat, .type "ValueError", .type "Exception", .type "BaseException", .type "object"] true sn_TooGreat sub_TooGreat ab_TooGreat co_TooGreat dd_TooGreat m0_TooGreat m1_TooGreat m2_TooGreat m3_TooGreat m5_TooGreat "ValueError.__new__"))
    (x2_TooGreat : PySem.W.findIn K (.ref c_TooGreat) "__setattr__" = some (some (.builtin "object.__setattr__")))
    (n_TooGreat_number : PySem.W.findIn K (.ref c_TooGreat) "number" = some none)
    (x3_TooGreat : PySem.W.findIn K (.ref c_TooGreat) "__init__" = some (some (.ref i_TooGreat)))
    (x4_TooGreat : PySem.W.typeIn K (.ref i_TooGreat) = some (.type "function"))
    (x5_TooGreat : PySem.W.keepIn K (.ref c_TooGreat) = true)
    (x6_TooGreat : PySem.W.subIn K (.ref c_TooGreat) (.type "BaseException") = some true)
    (x7_TooGreat : PySem.W.subIn K (.ref c_TooGreat) (.type "ValueError") = some true)
    (x8_TooGreat : PySem.W.typeIn K (.ref c_TooGreat) = some (.type "type"))
    (x9_TooGreat : PySem.W.ks_superIn K c_TooGreat c_TooGreat "__init__" = some (some (.builtin "ValueError.__init__")))
    (xa_TooGreat : PySem.W.nsIn K PySem.cStatics "thirdparty.any" = some none)
    (xb_TooGreat : (P.main.scope.names.lookup ("super" : Str)).isSome = false)
    (xc_TooGreat : K.lookup i_TooGreat = some ⟨io_TooGreat, iod_TooGreat, .func (PySem.W.ksFn "__init__" "TooGreat.__init__" (defArgs sI_TooGreat) (defBody sI_TooGreat) (defScope sI_TooGreat) .none ik_TooGreat id_TooGreat ip_TooGreat ian_TooGreat (.ref cd_TooGreat) it_TooGreat cl_TooGreat), isl_TooGreat⟩)
    (xd_TooGreat : PySem.W.codeIn K (.ref cd_TooGreat) "TooGreat.__init__" = true)
    (xe_TooGreat : K.lookup cd_TooGreat = some ⟨ccl_TooGreat, cdd_TooGreat, .fields cvs_TooGreat, ccs_TooGreat⟩)
    (xf_TooGreat : cvs_TooGreat[2]? = some (.str fi_TooGreat tf_TooGreat))
    (xg_TooGreat : ((P.main.file : Str) == fi_TooGreat) = true)
    (xh_TooGreat : K.lookup cl_TooGreat = some ⟨ccv_TooGreat, ccd_TooGreat, .cell (some (.ref c_TooGreat)), csl_TooGreat⟩)
    (xi_TooGreat : PySem.W.findIn K (.ref c_TooGreat) "__getattribute__" = some (some (.builtin "BaseException.__getattribute__")))
    (xj_TooGreat : PySem.W.findIn K (.ref c_TooGreat) "__getattr__" = some none)
    (xk_TooGreat : PySem.W.hasDictIn K c_TooGreat = true)
    (xl_TooGreat : PySem.W.isClsIn K c_TooGreat = true)
    (xm_TooGreat : PySem.W.subIn K (.ref c_TooGreat) (.ref c_TooGreat) = some true)
    (d_piece_of_cell_behind : f_cell_behind ≠ f_piece_of)
    (d_piece_of_cell_ahead : f_cell_ahead ≠ f_piece_of)
    (d_cell_behind_cell_ahead : f_cell_ahead ≠ f_cell_behind)
    : ∃ fd : FuncData, (∀ (s : Shared) (u : Value), BindsTo s fd ⟨[u], []⟩ [("script", u)]) ∧ ∀ base : Heap, K.In base → base.Ns mainGlobals mg → FnG P w K mg base 8 fa fd ["script"] (spLaw K) := by
  have efa := hfa.symm.trans (PySem.W.mg_of X G a_law)
  cases efa
  have B : Blt mg := ⟨PySem.W.mg_none_of X G z_abs, PySem.W.mg_none_of X G z_all, PySem.W.mg_none_of X G z_any, PySem.W.mg_none_of X G z_dict, PySem.W.mg_none_of X G z_enumerate, PySem.W.mg_none_of X G z_int, PySem.W.mg_none_of X G z_isinstance, PySem.W.mg_none_of X G z_len, PySem.W.mg_none_of X G z_list, PySem.W.mg_none_of X G z_max, PySem.W.mg_none_of X G z_min, PySem.W.mg_none_of X G z_range, PySem.W.mg_none_of X G z_repr, PySem.W.mg_none_of X G z_sorted, PySem.W.mg_none_of X G z_str, PySem.W.mg_none_of X G z_sum, PySem.W.mg_none_of X G z_super, PySem.W.mg_none_of X G z_tuple, PySem.W.mg_none_of X G z_zip⟩
  have cn_CELL : ∃ u, mg "CELL" = some u ∧ RelV (vOf (.str "cell")) u := ⟨_, PySem.W.mg_of X G v_CELL, _, rfl⟩
  have cn_LONG_NUMBER : ∃ u, mg "LONG_NUMBER" = some u ∧ RelV (vOf (.int 0)) u := ⟨_, PySem.W.mg_of X G v_LONG_NUMBER, _, rfl⟩
  have cn_MOST_FIGURES : ∃ u, mg "MOST_FIGURES" = some u ∧ RelV (vOf (.int 300)) u := ⟨_, PySem.W.mg_of X G v_MOST_FIGURES, _, rfl⟩
  have cn_SURE_BITS : ∃ u, mg "SURE_BITS" = some u ∧ RelV (vOf (.int 997)) u := ⟨_, PySem.W.mg_of X G v_SURE_BITS, _, rfl⟩
  have mg_Refused := PySem.W.mg_of X G aX_Refused
  have xn_Refused : ∀ f : Str, f ∈ ([("word" : Str), ("place" : Str)] : List Str) → PySem.W.findIn K (.ref c_Refused) f = some none := fun f hf => by
    simp only [List.mem_cons, List.not_mem_nil, or_false] at hf
    rcases hf with rfl | rfl
    all_goals first | exact n_Refused_word | exact n_Refused_place
  have er_Refused : ErC P K mg c_Refused i_Refused "Refused.__init__" [("word" : Str), ("place" : Str)] := {
    cls := ⟨_, _, _, _, _, _, _, _, _, _, _, _, _, _, _, x1_Refused, rfl⟩, sa := x2_Refused, no := xn_Refused, iC := x3_Refused, tC := x4_Refused, kC := x5_Refused, exC := x6_Refused, veC := x7_Refused, tyC := x8_Refused, sup := x9_Refused, opq := xa_Refused, mgS := B.super, top := xb_Refused,
    fn := ⟨_, _, sI_Refused, _, _, _, _, _, _, _, _, _, _, _, _, _, _, _, _, _, _, _, _, _, _, _, _, xc_Refused, xd_Refused, xe_Refused, xf_Refused, xg_Refused, xh_Refused, rfl, (.cons (.cons .nil)), (.cons (.cons .nil)), fun env => ⟨_, rfl⟩, fun env => rfl, ⟨_, rfl, rfl⟩, ⟨_, _, rfl⟩, rfl, fun f hf => by
      simp only [List.mem_cons, List.not_mem_nil, or_false] at hf
      rcases hf with rfl | rfl <;> exact ⟨rfl, by decide, by decide⟩, rfl, rfl, by decide +kernel, fun x us hl => match us, hl with | [_, _], _ => rfl⟩,
    ne := by decide, nd := by decide, few := by decide }
  have xfc_Refused : XfC K c_Refused := ⟨xi_Refused, xj_Refused, x6_Refused, xk_Refused⟩
  have ex_Refused := exm_own x6_Refused xl_Refused x8_Refused xm_Refused
  have mg_TooGreat := PySem.W.mg_of X G aX_TooGreat
  have xn_TooGreat : ∀ f : Str, f ∈ ([("number" : Str)] : List Str) → PySem.W.findIn K (.ref c_TooGreat) f = some none := fun f hf => by
    simp only [List.mem_cons, List.not_mem_nil, or_false] at hf
    subst hf
    exact n_TooGreat_number
  have er_TooGreat : ErC P K mg c_TooGreat i_TooGreat "TooGreat.__init__" [("number" : Str)] := {
    cls := ⟨_, _, _, _, _, _, _, _, _, _, _, _, _, _, _, x1_TooGreat, rfl⟩, sa := x2_TooGreat, no := xn_TooGreat, iC := x3_TooGreat, tC := x4_TooGreat, kC := x5_TooGreat, exC := x6_TooGreat, veC := x7_TooGreat, tyC := x8_TooGreat, sup := x9_TooGreat, opq := xa_TooGreat, mgS := B.super, top := xb_TooGreat,
    fn := ⟨_, _, sI_TooGreat, _, _, _, _, _, _, _, _, _, _, _, _, _, _, _, _, _, _, _, _, _, _, _, _, xc_TooGreat, xd_TooGreat, xe_TooGreat, xf_TooGreat, xg_TooGreat, xh_TooGreat, rfl, (.cons .nil), (.cons .nil), fun env => ⟨_, rfl⟩, fun env => rfl, ⟨_, rfl, rfl⟩, ⟨_, _, rfl⟩, rfl, fun f hf => by
      simp only [List.mem_cons, List.not_mem_nil, or_false] at hf
      subst hf
      exact ⟨rfl, by decide, by decide⟩, rfl, rfl, by decide +kernel, fun x us hl => match us, hl with | [_], _ => rfl⟩,
    ne := by decide, nd := by decide, few := by decide }
  have xfc_TooGreat : XfC K c_TooGreat := ⟨xi_TooGreat, xj_TooGreat, x6_TooGreat, xk_TooGreat⟩
  have ex_TooGreat := exm_own x6_TooGreat xl_TooGreat x8_TooGreat xm_TooGreat
  have F_is_long := fun_mk (st := s_is_long) l_is_long cc_is_long kp_is_long
  have m_is_long := PySem.W.mg_of X G a_is_long
  have F_number_made := fun_mk (st := s_number_made) l_number_made cc_number_made kp_number_made
  have m_number_made := PySem.W.mg_of X G a_number_made
  have F_deal_size := fun_mk (st := s_deal_size) l_deal_size cc_deal_size kp_deal_size
  have m_deal_size := PySem.W.mg_of X G a_deal_size
  have F_full_pieces := fun_mk (st := s_full_pieces) l_full_pieces cc_full_pieces kp_full_pieces
  have m_full_pieces := PySem.W.mg_of X G a_full_pieces
  have F_deal_full := fun_mk (st := s_deal_full) l_deal_full cc_deal_full kp_deal_full
  have m_deal_full := PySem.W.mg_of X G a_deal_full
  have F_deal_made := fun_mk (st := s_deal_made) l_deal_made cc_deal_made kp_deal_made
  have m_deal_made := PySem.W.mg_of X G a_deal_made
  have F_first_cells := fun_mk (st := s_first_cells) l_first_cells cc_first_cells kp_first_cells
  have m_first_cells := PySem.W.mg_of X G a_first_cells
  have F_laid_cells := fun_mk (st := s_laid_cells) l_laid_cells cc_laid_cells kp_laid_cells
  have m_laid_cells := PySem.W.mg_of X G a_laid_cells
  have F_cell_let := fun_mk (st := s_cell_let) l_cell_let cc_cell_let kp_cell_let
  have m_cell_let := PySem.W.mg_of X G a_cell_let
  have F_piece_of := fun_mk (st := s_piece_of) l_piece_of cc_piece_of kp_piece_of
  have m_piece_of := PySem.W.mg_of X G a_piece_of
  have F_cell_behind := fun_mk (st := s_cell_behind) l_cell_behind cc_cell_behind kp_cell_behind
  have m_cell_behind := PySem.W.mg_of X G a_cell_behind
  have F_deal_undone := fun_mk (st := s_deal_undone) l_deal_undone cc_deal_undone kp_deal_undone
  have m_deal_undone := PySem.W.mg_of X G a_deal_undone
  have F_cell_ahead := fun_mk (st := s_cell_ahead) l_cell_ahead cc_cell_ahead kp_cell_ahead
  have m_cell_ahead := PySem.W.mg_of X G a_cell_ahead
  have F_law_source := fun_mk (st := s_law_source) l_law_source cc_law_source kp_law_source
  have m_law_source := PySem.W.mg_of X G a_law_source
  have F_law_pick := fun_mk (st := s_law_pick) l_law_pick cc_law_pick kp_law_pick
  have m_law_pick := PySem.W.mg_of X G a_law_pick
  have F_law_of := fun_mk (st := s_law_of) l_law_of cc_law_of kp_law_of
  have m_law_of := PySem.W.mg_of X G a_law_of
  have F_law_deal := fun_mk (st := s_law_deal) l_law_deal cc_law_deal kp_law_deal
  have m_law_deal := PySem.W.mg_of X G a_law_deal
  have F_law_goes := fun_mk (st := s_law_goes) l_law_goes cc_law_goes kp_law_goes
  have m_law_goes := PySem.W.mg_of X G a_law_goes
  have F_law_told := fun_mk (st := s_law_told) l_law_told cc_law_told kp_law_told
  have m_law_told := PySem.W.mg_of X G a_law_told
  have F_law_begins := fun_mk (st := s_law_begins) l_law_begins cc_law_begins kp_law_begins
  have m_law_begins := PySem.W.mg_of X G a_law_begins
  have F_law_deal_right := fun_mk (st := s_law_deal_right) l_law_deal_right cc_law_deal_right kp_law_deal_right
  have m_law_deal_right := PySem.W.mg_of X G a_law_deal_right
  have F_law_far_right := fun_mk (st := s_law_far_right) l_law_far_right cc_law_far_right kp_law_far_right
  have m_law_far_right := PySem.W.mg_of X G a_law_far_right
  have F_law_made := fun_mk (st := s_law_made) l_law_made cc_law_made kp_law_made
  have m_law_made := PySem.W.mg_of X G a_law_made
  have F_law := fun_mk (st := s_law) l_law cc_law kp_law
  refine ⟨PySem.W.fnOf "law" "law" (defArgs s_law) (defBody s_law) (defScope s_law) .none kv_law dc_law pm_law an_law cv_law ct_law, fun s u => .of_eq rfl, fun base _ _ => ?_⟩
  have G_is_long := g_is_long (P := P) (w := w) (base := base) F_is_long m_is_long B cn_MOST_FIGURES cn_SURE_BITS
  have G_number_made := g_number_made (P := P) (w := w) (base := base) F_number_made m_number_made B cn_LONG_NUMBER er_TooGreat mg_TooGreat G_is_long
  have G_deal_size := g_deal_size (P := P) (w := w) (base := base) F_deal_size m_deal_size B 
  have G_full_pieces := g_full_pieces (P := P) (w := w) (base := base) F_full_pieces m_full_pieces B 
  have G_deal_full := g_deal_full (P := P) (w := w) (base := base) F_deal_full m_deal_full B G_full_pieces
  have G_deal_made := g_deal_made (P := P) (w := w) (base := base) F_deal_made m_deal_made B G_number_made G_deal_size
  have G_first_cells := g_first_cells (P := P) (w := w) (base := base) F_first_cells m_first_cells B 
  have G_laid_cells := g_laid_cells (P := P) (w := w) (base := base) F_laid_cells m_laid_cells B 
  have G_cell_let := g_cell_let (P := P) (w := w) (base := base) F_cell_let m_cell_let B cn_CELL er_Refused mg_Refused G_deal_size
  have G_piece_of := g_piece_of (P := P) (w := w) (base := base) F_piece_of m_piece_of B G_cell_let
  have G_cell_behind := g_cell_behind (P := P) (w := w) (base := base) F_cell_behind m_cell_behind B G_piece_of G_first_cells G_laid_cells
  have G_deal_undone := g_deal_undone (P := P) (w := w) (base := base) F_deal_undone m_deal_undone B 
  have G_cell_ahead := g_cell_ahead (P := P) (w := w) (base := base) F_cell_ahead m_cell_ahead B G_cell_behind G_deal_undone
  have G_law_source := g_law_source (P := P) (w := w) (base := base) F_law_source m_law_source B 
  have G_law_pick := g_law_pick (P := P) (w := w) (base := base) F_law_pick m_law_pick B 
  have G_law_of := g_law_of (P := P) (w := w) (base := base) F_law_of m_law_of B G_law_pick
  have G_law_deal := g_law_deal (P := P) (w := w) (base := base) F_law_deal m_law_deal B G_law_of G_law_pick
  have G_law_goes := g_law_goes (P := P) (w := w) (base := base) F_law_goes m_law_goes B 
  let tab : Tab := fun c => if c = f_piece_of then some (2, (Law.F_piece_of c_Refused)) else if c = f_cell_behind then some (2, (Law.F_cell_behind c_Refused)) else if c = f_cell_ahead then some (2, (Law.F_cell_ahead c_Refused)) else none
  have hTab : ∀ (c : Addr) (np : Nat) (F : Fd), tab c = some (np, F) → HeldG P w K mg base 5 c np F := fun c np F e => by
    simp only [tab] at e
    split at e
    · rename_i z
      subst z
      cases e
      exact heldG_of G_piece_of m_piece_of (by decide)
    split at e
    · rename_i z
      subst z
      cases e
      exact heldG_of G_cell_behind m_cell_behind (by decide)
    split at e
    · rename_i z
      subst z
      cases e
      exact heldG_of G_cell_ahead m_cell_ahead (by decide)
    cases e
  have G_law_told := g_law_told (P := P) (w := w) (base := base) F_law_told m_law_told B er_Refused mg_Refused hTab xfc_Refused xn_Refused ex_Refused
  have G_law_begins := g_law_begins (P := P) (w := w) (base := base) F_law_begins m_law_begins B 
  have G_law_deal_right := g_law_deal_right (P := P) (w := w) (base := base) F_law_deal_right m_law_deal_right B m_cell_ahead m_cell_behind m_piece_of G_law_goes G_deal_size G_deal_made G_piece_of G_cell_behind G_cell_ahead G_law_told G_law_begins G_first_cells G_laid_cells G_deal_undone G_deal_full
  have G_law_far_right := g_law_far_right (P := P) (w := w) (base := base) F_law_far_right m_law_far_right B m_cell_behind G_law_pick G_law_of G_law_begins G_piece_of G_cell_behind G_cell_ahead G_deal_size G_law_told
  have G_law_made := g_law_made (P := P) (w := w) (base := base) F_law_made m_law_made B er_TooGreat mg_TooGreat xfc_TooGreat xn_TooGreat ex_TooGreat G_deal_made
  exact law_of F_law sc_law rfl G_law_source (by decide) law_source_ok rfl (by first | exact Or.inl rfl | exact Or.inr rfl) (by first | exact Or.inl rfl | exact Or.inr (Or.inl rfl)) (fun cdv A outer s H E Z hz hr hgd => d_law B G_law_deal G_law_deal_right G_law_far_right G_law_pick G_law_made G_deal_size cdv A outer s H E Z hz hr hgd) (fun sr hsr => Law.law_ok c_TooGreat c_Refused f_piece_of f_cell_behind f_cell_ahead tab (by simp only [tab,  if_true]) (by simp only [tab, d_piece_of_cell_behind, if_false,  if_true]) (by simp only [tab, d_piece_of_cell_ahead, d_cell_behind_cell_ahead, if_false,  if_true]) sr hsr) (fun _ => rfl)
end Law
end Pw
open PySem PySem.W PyProof.Rows
set_option maxRecDepth 100000 in
set_option maxHeartbeats 0 in
theorem PySem.Challenge.cw_codeddeals_k11_cells_one_by_one_holds : PySem.Challenge.rw_codeddeals_k11_cells_one_by_one.Holds := by
  w_on; o_law; k_head; (case hw => w_witness2)
  k_fill
  refine Pw.walkG (l := PySem.Challenge.rw_codeddeals_k11_cells_one_by_one) (n := 63) (k := 8) (x := "script") (sp := fun K => Pw.spLaw K) rfl (by decide) rfl ⟨rfl, by decide, by decide⟩ (fun w h Y => PySem.W.kIn_of Y) ?F (fun _ H a ns hl hO hS => ⟨a, ns, rfl, hl, hS, hO, fun _ => rfl⟩)
  case F =>
    intro w mg fa h KX G hmg
    refine' Pw.Law.all_mk KX G hmg ?a_is_long ?l_is_long ?cc_is_long ?kp_is_long ?a_number_made ?l_number_made ?cc_number_made ?kp_number_made ?a_deal_size ?l_deal_size ?cc_deal_size ?kp_deal_size ?a_full_pieces ?l_full_pieces ?cc_full_pieces ?kp_full_pieces ?a_deal_full ?l_deal_full ?cc_deal_full ?kp_deal_full ?a_deal_made ?l_deal_made ?cc_deal_made ?kp_deal_made ?a_first_cells ?l_first_cells ?cc_first_cells ?kp_first_cells ?a_laid_cells ?l_laid_cells ?cc_laid_cells ?kp_laid_cells ?a_cell_let ?l_cell_let ?cc_cell_let ?kp_cell_let ?a_piece_of ?l_piece_of ?cc_piece_of ?kp_piece_of ?a_cell_behind ?l_cell_behind ?cc_cell_behind ?kp_cell_behind ?a_deal_undone ?l_deal_undone ?cc_deal_undone ?kp_deal_undone ?a_cell_ahead ?l_cell_ahead ?cc_cell_ahead ?kp_cell_ahead ?a_law_source ?l_law_source ?cc_law_source ?kp_law_source ?a_law_pick ?l_law_pick ?cc_law_pick ?kp_law_pick ?a_law_of ?l_law_of ?cc_law_of ?kp_law_of ?a_law_deal ?l_law_deal ?cc_law_deal ?kp_law_deal ?a_law_goes ?l_law_goes ?cc_law_goes ?kp_law_goes ?a_law_told ?l_law_told ?cc_law_told ?kp_law_told ?a_law_begins ?l_law_begins ?cc_law_begins ?kp_law_begins ?a_law_deal_right ?l_law_deal_right ?cc_law_deal_right ?kp_law_deal_right ?a_law_far_right ?l_law_far_right ?cc_law_far_right ?kp_law_far_right ?a_law_made ?l_law_made ?cc_law_made ?kp_law_made ?a_law ?l_law ?cc_law ?kp_law ?z_abs ?z_all ?z_any ?z_dict ?z_enumerate ?z_int ?z_isinstance ?z_len ?z_list ?z_max ?z_min ?z_range ?z_repr ?z_sorted ?z_str ?z_sum ?z_super ?z_tuple ?z_zip ?v_CELL ?v_LONG_NUMBER ?v_MOST_FIGURES ?v_SURE_BITS ?aX_Refused ?x1_Refused ?x2_Refused ?n_Refused_word ?n_Refused_place ?x3_Refused ?x4_Refused ?x5_Refused ?x6_Refused ?x7_Refused ?x8_Refused ?x9_Refused ?xa_Refused ?xb_Refused ?xc_Refused ?xd_Refused ?xe_Refused ?xf_Refused ?xg_Refused ?xh_Refused ?xi_Refused ?xj_Refused ?xk_Refused ?xl_Refused ?xm_Refused ?aX_TooGreat ?x1_TooGreat ?x2_TooGreat ?n_TooGreat_number ?x3_TooGreat ?x4_TooGreat ?x5_TooGreat ?x6_TooGreat ?x7_TooGreat ?x8_TooGreat ?x9_TooGreat ?xa_TooGreat ?xb_TooGreat ?xc_TooGreat ?xd_TooGreat ?xe_TooGreat ?xf_TooGreat ?xg_TooGreat ?xh_TooGreat ?xi_TooGreat ?xj_TooGreat ?xk_TooGreat ?xl_TooGreat ?xm_TooGreat ?d_piece_of_cell_behind ?d_piece_of_cell_ahead ?d_cell_behind_cell_ahead
    (case a_is_long => k_is)
    (case l_is_long => k_is)
    (case cc_is_long => k_is)
    (case kp_is_long => k_is)
    (case a_number_made => k_is)
    (case l_number_made => k_is)
    (case cc_number_made => k_is)
    (case kp_number_made => k_is)
    (case a_deal_size => k_is)
    (case l_deal_size => k_is)
    (case cc_deal_size => k_is)
    (case kp_deal_size => k_is)
    (case a_full_pieces => k_is)
    (case l_full_pieces => k_is)
    (case cc_full_pieces => k_is)
    (case kp_full_pieces => k_is)
    (case a_deal_full => k_is)
    (case l_deal_full => k_is)
    (case cc_deal_full => k_is)
    (case kp_deal_full => k_is)
    (case a_deal_made => k_is)
    (case l_deal_made => k_is)
    (case cc_deal_made => k_is)
    (case kp_deal_made => k_is)
    (case a_first_cells => k_is)
    (case l_first_cells => k_is)
    (case cc_first_cells => k_is)
    (case kp_first_cells => k_is)
    (case a_laid_cells => k_is)
    (case l_laid_cells => k_is)
    (case cc_laid_cells => k_is)
    (case kp_laid_cells => k_is)
    (case a_cell_let => k_is)
    (case l_cell_let => k_is)
    (case cc_cell_let => k_is)
    (case kp_cell_let => k_is)
    (case a_piece_of => k_is)
    (case l_piece_of => k_is)
    (case cc_piece_of => k_is)
    (case kp_piece_of => k_is)
    (case a_cell_behind => k_is)
    (case l_cell_behind => k_is)
    (case cc_cell_behind => k_is)
    (case kp_cell_behind => k_is)
    (case a_deal_undone => k_is)
    (case l_deal_undone => k_is)
    (case cc_deal_undone => k_is)
    (case kp_deal_undone => k_is)
    (case a_cell_ahead => k_is)
    (case l_cell_ahead => k_is)
    (case cc_cell_ahead => k_is)
    (case kp_cell_ahead => k_is)
    (case a_law_source => k_is)
    (case l_law_source => k_is)
    (case cc_law_source => k_is)
    (case kp_law_source => k_is)
    (case a_law_pick => k_is)
    (case l_law_pick => k_is)
    (case cc_law_pick => k_is)
    (case kp_law_pick => k_is)
    (case a_law_of => k_is)
    (case l_law_of => k_is)
    (case cc_law_of => k_is)
    (case kp_law_of => k_is)
    (case a_law_deal => k_is)
    (case l_law_deal => k_is)
    (case cc_law_deal => k_is)
    (case kp_law_deal => k_is)
    (case a_law_goes => k_is)
    (case l_law_goes => k_is)
    (case cc_law_goes => k_is)
    (case kp_law_goes => k_is)
    (case a_law_told => k_is)
    (case l_law_told => k_is)
    (case cc_law_told => k_is)
    (case kp_law_told => k_is)
    (case a_law_begins => k_is)
    (case l_law_begins => k_is)
    (case cc_law_begins => k_is)
    (case kp_law_begins => k_is)
    (case a_law_deal_right => k_is)
    (case l_law_deal_right => k_is)
    (case cc_law_deal_right => k_is)
    (case kp_law_deal_right => k_is)
    (case a_law_far_right => k_is)
    (case l_law_far_right => k_is)
    (case cc_law_far_right => k_is)
    (case kp_law_far_right => k_is)
    (case a_law_made => k_is)
    (case l_law_made => k_is)
    (case cc_law_made => k_is)
    (case kp_law_made => k_is)
    (case a_law => k_is)
    (case l_law => k_is)
    (case cc_law => k_is)
    (case kp_law => k_is)
    (case z_abs => k_is)
    (case z_all => k_is)
    (case z_any => k_is)
    (case z_dict => k_is)
    (case z_enumerate => k_is)
    (case z_int => k_is)
    (case z_isinstance => k_is)
    (case z_len => k_is)
    (case z_list => k_is)
    (case z_max => k_is)
    (case z_min => k_is)
    (case z_range => k_is)
    (case z_repr => k_is)
    (case z_sorted => k_is)
    (case z_str => k_is)
    (case z_sum => k_is)
    (case z_super => k_is)
    (case z_tuple => k_is)
    (case z_zip => k_is)
    (case v_CELL => k_is)
    (case v_LONG_NUMBER => k_is)
    (case v_MOST_FIGURES => k_is)
    (case v_SURE_BITS => k_is)
    (case aX_Refused => k_is)
    (case x1_Refused => k_is)
    (case x2_Refused => k_is)
    (case n_Refused_word => k_is)
    (case n_Refused_place => k_is)
    (case x3_Refused => k_is)
    (case x4_Refused => k_is)
    (case x5_Refused => k_is)
    (case x6_Refused => k_is)
    (case x7_Refused => k_is)
    (case x8_Refused => k_is)
    (case x9_Refused => ks_is)
    (case xa_Refused => k_is)
    (case xb_Refused => first | rfl | decide +kernel)
    (case xc_Refused => k_is)
    (case xd_Refused => k_is)
    (case xe_Refused => k_is)
    (case xf_Refused => rfl)
    (case xg_Refused => first | rfl | decide +kernel)
    (case xh_Refused => k_is)
    (case xi_Refused => k_is)
    (case xj_Refused => k_is)
    (case xk_Refused => k_is)
    (case xl_Refused => k_is)
    (case xm_Refused => first | rfl | k_is)
    (case aX_TooGreat => k_is)
    (case x1_TooGreat => k_is)
    (case x2_TooGreat => k_is)
    (case n_TooGreat_number => k_is)
    (case x3_TooGreat => k_is)
    (case x4_TooGreat => k_is)
    (case x5_TooGreat => k_is)
    (case x6_TooGreat => k_is)
    (case x7_TooGreat => k_is)
    (case x8_TooGreat => k_is)
    (case x9_TooGreat => ks_is)
    (case xa_TooGreat => k_is)
    (case xb_TooGreat => first | rfl | decide +kernel)
    (case xc_TooGreat => k_is)
    (case xd_TooGreat => k_is)
    (case xe_TooGreat => k_is)
    (case xf_TooGreat => rfl)
    (case xg_TooGreat => first | rfl | decide +kernel)
    (case xh_TooGreat => k_is)
    (case xi_TooGreat => k_is)
    (case xj_TooGreat => k_is)
    (case xk_TooGreat => k_is)
    (case xl_TooGreat => k_is)
    (case xm_TooGreat => first | rfl | k_is)
    (case d_piece_of_cell_behind => decide)
    (case d_piece_of_cell_ahead => decide)
    (case d_cell_behind_cell_ahead => decide)
