import PyProof.Rows.All
import Wide.All
import OpenK.AllK
import Wide.FinOn
import HandS.ForMost
import HandS.Exc
import HandS.TryOnly
import HandS.ExcOwn
import HandS.WordsExc
import HandS.Lambda
import HandS.Wide
import HandS.WideBits
import HandS.TupAny
import HandS.Style
import KE.DataEq
import KE.LtData
import KE.DataMinMax
import KE.SortData
import HandS.TupMul
import HandS.Conv
import HandS.RaiseMore
import PyProof.ReprRoads
import HandS.Small
import HandS.More
import HandS.Zip
import KE.KExcSuper
import HandS.ExcSuper
import HandS.ExcInit
import HandS.ExcField
import HandS.ListItems
import HandS.CallLocal
import HandS.Codes
import HandS.SortInts
import HandS.Ends
import HandS.Star
import KE.KRevSl
import HandS.IsInst
import PyProof.ListStr
import HandS.Text
import HandS.EndTab
import HandS.NestedK
import KE.KNestM
import PySem.Challenge.RW_codeddeals_k09_whole_endless_words_in_or
set_option Elab.async false
set_option linter.all false
set_option maxRecDepth 100000
namespace Pw
open PySem PySem.Spec PyProof.Rows L2

abbrev D := PyData
/-- the drawn source's numbers -/
structure Src where
  cells : List Int
  left : Int
  mixed : Int
  turn : Int
/-- what a slot, an argument, a result holds -/
inductive SV where
  | sh (d : D)
  | own (d : D)
  | fn (a : Addr)
  | src
  | exd (fs : List (Str × D))
  | fns (as : List Addr)
  | exn (fs : List (Str × D))
  | scr (ns : List Int)
  | tb
  | lm
structure S where
  sl : List (Option SV)
  src : Option Src
structure Ex where
  cls : Addr
  fs : List (Str × D)
inductive Res (α : Type) where
  | ok (a : α) (s : S)
  | exc (e : Ex) (s : S)
  | err
def Res.bind {α β : Type} (r : Res α) (k : α → S → Res β) : Res β :=
  match r with
  | .ok a s => k a s
  | .exc e s => .exc e s
  | .err => .err
def Res.sat {α : Type} (r : Res α) (Q : α → S → Prop) (E : Ex → S → Prop) : Prop :=
  match r with
  | .ok a s => Q a s
  | .exc e s => E e s
  | .err => False
theorem Res.sat_bind {α β : Type} {r : Res α} {k : α → S → Res β} {Q : β → S → Prop} {E : Ex → S → Prop} : (r.bind k).sat Q E ↔ r.sat (fun a s => (k a s).sat Q E) E := by
  cases r <;> exact Iff.rfl
theorem Res.sat_mono {α : Type} {r : Res α} {Q Q' : α → S → Prop} {E E' : Ex → S → Prop} (h : r.sat Q E) (hq : ∀ a s, Q a s → Q' a s) (he : ∀ a s, E a s → E' a s) : r.sat Q' E' := by
  cases r with
  | ok a s => exact hq _ _ h
  | exc e s => exact he _ _ h
  | err => exact h

/-! ### what a value holds -/
def keyD : Key → D
  | .inl i => .int i
  | .inr s => .str s
mutual
inductive Rp (K : PySem.W.Frag) (H : Hp) (O : Addr → Prop) : V → D → Prop
  | non : Rp K H O .non .none
  | bl (b : Bool) : Rp K H O (.bl b) (.bool b)
  | int (i : Int) : Rp K H O (.int i) (.int i)
  | str (x : Str) : Rp K H O (.str x) (.str x)
  | lst {a : Addr} {xs : List V} {ds : List D} : H a = some (.lst xs) → ¬ O a → RpA K H O xs ds → Rp K H O (.ref a) (.list ds)
  | tup {a : Addr} {xs : List V} {ds : List D} : H a = some (.tup xs) → ¬ O a → RpA K H O xs ds → Rp K H O (.ref a) (.tuple ds)
  | tupK {a : Addr} {xs : List V} {ds : List D} {o : Obj} {its : Array Value} {n : Nat} : K.lookup a = some o → o.cls = .type "tuple" → o.data = .seq its n → its.size ≤ sizeLine → Vals xs its.toList → RpA K H O xs ds → Rp K H O (.ref a) (.tuple ds)
  | dic {a : Addr} {kvs : List (Key × V)} {ds : List (D × D)} : H a = some (.dK kvs) → ¬ O a → RpD K H O kvs ds → Rp K H O (.ref a) (.dict ds)
inductive RpA (K : PySem.W.Frag) (H : Hp) (O : Addr → Prop) : List V → List D → Prop
  | nil : RpA K H O [] []
  | cons {v : V} {vs : List V} {d : D} {ds : List D} : Rp K H O v d → RpA K H O vs ds → RpA K H O (v :: vs) (d :: ds)
inductive RpD (K : PySem.W.Frag) (H : Hp) (O : Addr → Prop) : List (Key × V) → List (D × D) → Prop
  | nil : RpD K H O [] []
  | cons {k : Key} {v : V} {vs : List (Key × V)} {d : D} {ds : List (D × D)} : Rp K H O v d → RpD K H O vs ds → RpD K H O ((k, v) :: vs) ((keyD k, d) :: ds)
end
section
variable {K : PySem.W.Frag} {H H' : Hp} {O O' : Addr → Prop}
mutual
theorem Rp.keep (hk : ∀ b x, H b = some x → ¬ O b → H' b = some x) (ho : ∀ b, O' b → O b ∨ H b = none) : ∀ {v : V} {d : D}, Rp K H O v d → Rp K H' O' v d
  | _, _, .non => .non
  | _, _, .bl b => .bl b
  | _, _, .int i => .int i
  | _, _, .str x => .str x
  | _, _, .lst e n r => .lst (hk _ _ e n) (fun z => (ho _ z).elim n fun q => by rw [e] at q; cases q) (RpA.keep hk ho r)
  | _, _, .tup e n r => .tup (hk _ _ e n) (fun z => (ho _ z).elim n fun q => by rw [e] at q; cases q) (RpA.keep hk ho r)
  | _, _, .tupK e1 e2 e3 e4 e5 r => .tupK e1 e2 e3 e4 e5 (RpA.keep hk ho r)
  | _, _, .dic e n r => .dic (hk _ _ e n) (fun z => (ho _ z).elim n fun q => by rw [e] at q; cases q) (RpD.keep hk ho r)
theorem RpA.keep (hk : ∀ b x, H b = some x → ¬ O b → H' b = some x) (ho : ∀ b, O' b → O b ∨ H b = none) : ∀ {v : List V} {d : List D}, RpA K H O v d → RpA K H' O' v d
  | _, _, .nil => .nil
  | _, _, .cons r s => .cons (Rp.keep hk ho r) (RpA.keep hk ho s)
theorem RpD.keep (hk : ∀ b x, H b = some x → ¬ O b → H' b = some x) (ho : ∀ b, O' b → O b ∨ H b = none) : ∀ {v : List (Key × V)} {d : List (D × D)}, RpD K H O v d → RpD K H' O' v d
  | _, _, .nil => .nil
  | _, _, .cons r s => .cons (Rp.keep hk ho r) (RpD.keep hk ho s)
end
theorem Rp.less (h : Rp K H O v d) (ho : ∀ b, O' b → O b) : Rp K H O' v d := h.keep (fun _ _ e _ => e) fun b z => .inl (ho b z)
theorem RpA.less (h : RpA K H O v d) (ho : ∀ b, O' b → O b) : RpA K H O' v d := h.keep (fun _ _ e _ => e) fun b z => .inl (ho b z)
theorem RpD.less (h : RpD K H O v d) (ho : ∀ b, O' b → O b) : RpD K H O' v d := h.keep (fun _ _ e _ => e) fun b z => .inl (ho b z)
theorem RpA.length : ∀ {v : List V} {d : List D}, RpA K H O v d → v.length = d.length
  | _, _, .nil => rfl
  | _, _, .cons _ s => congrArg (· + 1) (RpA.length s)
theorem RpD.length : ∀ {v : List (Key × V)} {d : List (D × D)}, RpD K H O v d → v.length = d.length
  | _, _, .nil => rfl
  | _, _, .cons _ s => congrArg (· + 1) (RpD.length s)
theorem RpA.append : ∀ {v w : List V} {d e : List D}, RpA K H O v d → RpA K H O w e → RpA K H O (v ++ w) (d ++ e)
  | _, _, _, _, .nil, s => s
  | _, _, _, _, .cons r t, s => .cons r (RpA.append t s)
theorem RpA.get : ∀ {v : List V} {ds : List D} {i : Nat} {d : D}, RpA K H O v ds → ds[i]? = some d → ∃ x, v[i]? = some x ∧ Rp K H O x d
  | _, _, _, _, .nil, e => by simp at e
  | _, _, 0, _, .cons r _, e => by simp at e; subst e; exact ⟨_, rfl, r⟩
  | _, _, i + 1, d, .cons _ t, e => by
    obtain ⟨x, h1, h2⟩ := RpA.get (i := i) (d := d) t (by simpa using e)
    exact ⟨x, by simpa using h1, h2⟩
theorem RpA.take : ∀ {v : List V} {ds : List D} (n : Nat), RpA K H O v ds → RpA K H O (v.take n) (ds.take n)
  | _, _, 0, _ => by simpa using RpA.nil
  | _, _, n + 1, .nil => by simpa using RpA.nil
  | _, _, n + 1, .cons r t => by simpa using RpA.cons r (RpA.take n t)
theorem RpA.drop : ∀ {v : List V} {ds : List D} (n : Nat), RpA K H O v ds → RpA K H O (v.drop n) (ds.drop n)
  | _, _, 0, r => by simpa using r
  | _, _, n + 1, .nil => by simpa using RpA.nil
  | _, _, n + 1, .cons r t => by simpa using RpA.drop n t
theorem RpA.eraseIdx : ∀ {v : List V} {ds : List D} (n : Nat), RpA K H O v ds → RpA K H O (v.eraseIdx n) (ds.eraseIdx n)
  | _, _, _, .nil => by simpa using RpA.nil
  | _, _, 0, .cons r t => by simpa using t
  | _, _, n + 1, .cons r t => by simpa using RpA.cons r (RpA.eraseIdx n t)
theorem RpA.set : ∀ {v : List V} {ds : List D} {x : V} {d : D} (n : Nat), Rp K H O x d → RpA K H O v ds → RpA K H O (v.set n x) (ds.set n d)
  | _, _, _, _, _, _, .nil => by simpa using RpA.nil
  | _, _, _, _, 0, q, .cons r t => by simpa using RpA.cons q t
  | _, _, _, _, n + 1, q, .cons r t => by simpa using RpA.cons r (RpA.set n q t)
theorem RpA.reverse : ∀ {v : List V} {ds : List D}, RpA K H O v ds → RpA K H O v.reverse ds.reverse
  | _, _, .nil => by simpa using RpA.nil
  | _, _, .cons r t => by simpa using (RpA.reverse t).append (.cons r .nil)
theorem RpA.rep {v : List V} {ds : List D} (h : RpA K H O v ds) : ∀ k : Nat, RpA K H O (List.replicate k v).flatten (List.replicate k ds).flatten
  | 0 => .nil
  | k + 1 => by
    rw [List.replicate_succ, List.replicate_succ, List.flatten_cons, List.flatten_cons]
    exact h.append (RpA.rep h k)
end

/-! ### the state -/
structure Zx where
  K : PySem.W.Frag
  H0 : Hp
  Oc : Addr → Prop
  A : Option (Addr × Addr)
  Xn : Option (Addr × Addr)
  Tb : Option (Addr × Str) := none
  Lm : Option Addr := none
/-- the table of code objects at P: each that it tells bears the name q -/
def TbOk (H : Hp) (O : Addr → Prop) (P : Addr) (q : Str) : Prop := ∃ ps : Array Value, H P = some (.tbl ps) ∧ TriplesOk ps.toList ∧ ∀ (pos : Pos) (cv : Value), codeAmong pos ps.toList = some cv → ∃ c, cv = .ref c ∧ ¬ O c ∧ H c = some (LamX.CodeO c q)
abbrev Ent := Option V × Option SV
/-- an owned list or dict -/
def RpO (K : PySem.W.Frag) (H : Hp) (O : Addr → Prop) (a : Addr) : D → Prop
  | .list ds => ∃ xs, H a = some (.lst xs) ∧ RpA K H O xs ds
  | .dict ds => ∃ ks, H a = some (.dK ks) ∧ RpD K H O ks ds
  | _ => False
def InA (A : Option (Addr × Addr)) (a : Addr) : Prop := match A with
  | none => False
  | some (x, y) => a = x ∨ a = y
/-- fields of an error -/
def RpF (K : PySem.W.Frag) (H : Hp) (O : Addr → Prop) (xs : List (Str × V)) (fs : List (Str × D)) : Prop :=
  Paired (fun (p : Str × V) (q : Str × D) => p.1 = q.1 ∧ Rp K H O p.2 q.2) xs fs
def ScrK (K : PySem.W.Frag) (a : Addr) (xs : List V) : Prop := ∃ (o : Obj) (its : Array Value) (n : Nat), K.lookup a = some o ∧ o.cls = .type "list" ∧ o.dict = none ∧ o.data = .seq its n ∧ its.size ≤ sizeLine ∧ Vals xs its.toList
def SvOk (Z : Zx) (H : Hp) (O : Addr → Prop) (v : V) : SV → Prop
  | .sh d => Rp Z.K H O v d
  | .own d => ∃ a, v = .ref a ∧ O a ∧ (Z.H0 a = none ∧ ¬ Z.Oc a) ∧ ¬ InA Z.A a ∧ RpO Z.K H O a d
  | .fn a => v = .ref a
  | .src => ∃ x y, Z.A = some (x, y) ∧ v = .ref x
  | .fns as => ∃ a, v = .ref a ∧ ¬ O a ∧ H a = some (.tup (as.map V.ref))
  | .scr ns => ∃ a, v = .ref a ∧ ((Rd H a (.lst (ns.map V.int)) ∧ ¬ O a) ∨ ScrK Z.K a (ns.map V.int))
  | .exn fs => ∃ a dd xs, Z.Xn = some (a, dd) ∧ v = .ref a ∧ ¬ O dd ∧ H dd = some (.xd xs) ∧ RpF Z.K H O xs fs
  | .exd fs => ∃ a xs, v = .ref a ∧ ¬ O a ∧ H a = some (.xd xs) ∧ RpF Z.K H O xs fs
  | .tb => ∃ P q, Z.Tb = some (P, q) ∧ v = .ref P ∧ ¬ O P ∧ TbOk H O P q
  | .lm => ∃ f, Z.Lm = some f ∧ v = .ref f
def EntOk (Z : Zx) (H : Hp) (O : Addr → Prop) (e : Ent) : Prop := ∀ s, e.2 = some s → ∃ v, e.1 = some v ∧ SvOk Z H O v s
def Apart (p q : Ent) : Prop := ∀ d e a, p.2 = some (.own d) → q.2 = some (.own e) → p.1 = some (.ref a) → q.1 ≠ some (.ref a)
theorem Apart.symm {p q : Ent} (h : Apart p q) : Apart q p := fun d e a h1 h2 h3 h4 => h e d a h2 h1 h4 h3
def srcKv (y : Addr) (s : Src) : List (Key × V) := [(.inr "cells", .ref y), (.inr "left", .int s.left), (.inr "mixed", .int s.mixed), (.inr "turn", .int s.turn)]
def SrcOk (A : Option (Addr × Addr)) (H : Hp) (O : Addr → Prop) (src : Option Src) : Prop := match src, A with
  | none, none => True
  | some s, some (x, y) => x ≠ y ∧ O x ∧ O y ∧ H x = some (.dK (srcKv y s)) ∧ H y = some (.lst (s.cells.map V.int))
  | _, _ => False
structure RelO (Z : Zx) (H : Hp) (src : Option Src) (L : List Ent) (O : Addr → Prop) : Prop where
  oc : ∀ a, Z.Oc a → O a
  ent : ∀ e ∈ L, EntOk Z H O e
  ap : L.Pairwise Apart
  src : SrcOk Z.A H O src
  base : ∀ b x, Z.H0 b = some x → ¬ InA Z.A b → H b = some x
  live : ∀ b, O b → ∃ x, H b = some x
def Rel (Z : Zx) (H : Hp) (src : Option Src) (L : List Ent) : Prop := ∃ O, RelO Z H src L O
end Pw
set_option Elab.async false
set_option linter.all false
set_option maxRecDepth 100000
namespace Pw
open PySem PySem.Spec PyProof.Rows L2
section
variable {Z : Zx} {H H' : Hp} {O O' Dt : Addr → Prop} {src src' : Option Src} {L L' : List Ent} {v : V} {d : D}
theorem paired_imp {α β : Type} {F G : α → β → Prop} : ∀ {l₁ : List α} {l₂ : List β}, Paired F l₁ l₂ → (∀ a b, F a b → G a b) → Paired G l₁ l₂
  | _, _, .nil, _ => .nil
  | _, _, .cons r t, f => .cons (f _ _ r) (paired_imp t f)
/-- a step of the heap: what is dirty was forbidden -/
structure Stp (H H' : Hp) (O O' Dt : Addr → Prop) : Prop where
  hk : ∀ b x, H b = some x → ¬ Dt b → H' b = some x
  hd : ∀ b, Dt b → O b
  ho : ∀ b, O' b → O b ∨ H b = none
  hi : ∀ b, O b → ¬ Dt b → O' b
theorem Stp.rp (t : Stp H H' O O' Dt) {K} (h : Rp K H O v d) : Rp K H' O' v d := h.keep (fun b x e n => t.hk b x e fun z => n (t.hd b z)) t.ho
theorem Stp.rpA (t : Stp H H' O O' Dt) {K} {vs ds} (h : RpA K H O vs ds) : RpA K H' O' vs ds := h.keep (fun b x e n => t.hk b x e fun z => n (t.hd b z)) t.ho
theorem Stp.rpD (t : Stp H H' O O' Dt) {K} {vs ds} (h : RpD K H O vs ds) : RpD K H' O' vs ds := h.keep (fun b x e n => t.hk b x e fun z => n (t.hd b z)) t.ho
theorem Stp.rpO (t : Stp H H' O O' Dt) {K} {a : Addr} (n : ¬ Dt a) (h : RpO K H O a d) : RpO K H' O' a d := by
  cases d <;> try exact h
  · obtain ⟨xs, e, r⟩ := h; exact ⟨xs, t.hk _ _ e n, t.rpA r⟩
  · obtain ⟨xs, e, r⟩ := h; exact ⟨xs, t.hk _ _ e n, t.rpD r⟩
/-- an entry that owns no dirty thing -/
def Clear (Dt : Addr → Prop) (e : Ent) : Prop := ∀ d a, e.2 = some (.own d) → e.1 = some (.ref a) → ¬ Dt a
theorem Stp.sv (t : Stp H H' O O' Dt) {s : SV} (c : ∀ d a, s = .own d → v = .ref a → ¬ Dt a) (h : SvOk Z H O v s) : SvOk Z H' O' v s := by
  cases s with
  | sh d => exact t.rp h
  | own d => obtain ⟨a, e, o, f, n, r⟩ := h; exact ⟨a, e, t.hi a o (c d a rfl e), f, n, t.rpO (c d a rfl e) r⟩
  | fn a => exact h
  | src => exact h
  | fns as =>
    obtain ⟨a, e, n, q⟩ := h
    refine ⟨a, e, fun z => ?_, t.hk _ _ q fun z => n (t.hd _ z)⟩
    rcases t.ho _ z with y | y
    · exact n y
    · rw [q] at y; cases y
  | scr ns =>
    obtain ⟨a, e, ⟨q, n⟩ | q⟩ := h
    · have nd : ¬ Dt a := fun z => n (t.hd _ z)
      have some' : ∃ x, H a = some x := q.elim (fun q => ⟨_, q⟩) fun ⟨o, q⟩ => ⟨_, q⟩
      refine ⟨a, e, .inl ⟨?_, fun z => ?_⟩⟩
      · rcases q with q | ⟨o, q⟩
        · exact .inl (t.hk _ _ q nd)
        · exact .inr ⟨o, t.hk _ _ q nd⟩
      · obtain ⟨x, hx⟩ := some'
        rcases t.ho _ z with y | y
        · exact n y
        · rw [hx] at y; cases y
    · exact ⟨a, e, .inr q⟩
  | exn fs =>
    obtain ⟨a, dd, xs, z, e, n, q, r⟩ := h
    refine ⟨a, dd, xs, z, e, fun z => ?_, t.hk _ _ q fun z => n (t.hd _ z), paired_imp r fun p q z => ⟨z.1, t.rp z.2⟩⟩
    rcases t.ho _ z with y | y
    · exact n y
    · rw [q] at y; cases y
  | exd fs =>
    obtain ⟨a, xs, e, n, q, r⟩ := h
    refine ⟨a, xs, e, fun z => ?_, t.hk _ _ q fun z => n (t.hd _ z), paired_imp r fun p q z => ⟨z.1, t.rp z.2⟩⟩
    rcases t.ho _ z with y | y
    · exact n y
    · rw [q] at y; cases y
  | tb =>
    obtain ⟨P, q, e1, e2, n, ps, hP, ht, hc⟩ := h
    refine ⟨P, q, e1, e2, fun z => ?_, ps, t.hk _ _ hP fun z => n (t.hd _ z), ht, fun pos cv e => ?_⟩
    · rcases t.ho _ z with y | y
      · exact n y
      · rw [hP] at y; cases y
    · obtain ⟨c, e3, n2, hC⟩ := hc pos cv e
      refine ⟨c, e3, fun z => ?_, t.hk _ _ hC fun z => n2 (t.hd _ z)⟩
      rcases t.ho _ z with y | y
      · exact n2 y
      · rw [hC] at y; cases y
  | lm => exact h
theorem Stp.ent (t : Stp H H' O O' Dt) {e : Ent} (c : Clear Dt e) (h : EntOk Z H O e) : EntOk Z H' O' e := fun s q => by
  obtain ⟨v, e1, r⟩ := h s q
  exact ⟨v, e1, t.sv (fun d a z y => c d a (z ▸ q) (y ▸ e1)) r⟩
theorem Stp.of_keep (hk : ∀ b x, H b = some x → H' b = some x) : Stp H H' O O (fun _ => False) := ⟨fun b x e _ => hk b x e, fun _ z => z.elim, fun _ z => .inl z, fun _ z _ => z⟩
theorem Clear.none {e : Ent} : Clear (fun _ => False) e := fun _ _ _ _ z => z

theorem Rel.perm (h : Rel Z H src L) (p : L.Perm L') : Rel Z H src L' := by
  obtain ⟨O, r⟩ := h
  exact ⟨O, r.oc, fun e he => r.ent e (p.mem_iff.mpr he), (p.pairwise_iff fun h => h.symm).mp r.ap, r.src, r.base, r.live⟩
theorem Rel.pop {e : Ent} (h : Rel Z H src (e :: L)) : Rel Z H src L := by
  obtain ⟨O, r⟩ := h
  exact ⟨O, r.oc, fun e he => r.ent e (List.mem_cons_of_mem _ he), (List.pairwise_cons.mp r.ap).2, r.src, r.base, r.live⟩
theorem Rel.popN (T : List Ent) (h : Rel Z H src (T ++ L)) : Rel Z H src L := by
  induction T with
  | nil => exact h
  | cons e T ih => exact ih h.pop
/-- an entry without an owner -/
def Mild (e : Ent) : Prop := ∀ d, e.2 ≠ some (.own d)
theorem Mild.apart {e f : Ent} (m : Mild e) : Apart e f := fun d _ _ h => absurd h (m d)
theorem RelO.push {e : Ent} (r : RelO Z H src L O) (m : Mild e) (h : EntOk Z H O e) : RelO Z H src (e :: L) O :=
  ⟨r.oc, fun f hf => (List.mem_cons.mp hf).elim (fun z => z ▸ h) (r.ent f), List.pairwise_cons.mpr ⟨fun _ _ => m.apart, r.ap⟩, r.src, r.base, r.live⟩
theorem mild_none {x} : Mild (x, none) := fun _ h => by cases h
theorem mild_sh {x d} : Mild (x, some (.sh d)) := fun _ h => by cases h
theorem mild_fn {x a} : Mild (x, some (.fn a)) := fun _ h => by cases h
theorem mild_fns {x a} : Mild (x, some (.fns a)) := fun _ h => by cases h
theorem mild_exn {x a} : Mild (x, some (.exn a)) := fun _ h => by cases h
theorem mild_scr {x a} : Mild (x, some (.scr a)) := fun _ h => by cases h
theorem mild_src {x} : Mild (x, some .src) := fun _ h => by cases h
theorem mild_exd {x f} : Mild (x, some (.exd f)) := fun _ h => by cases h
theorem Rel.triv {x} (h : Rel Z H src L) : Rel Z H src ((x, none) :: L) := by
  obtain ⟨O, r⟩ := h
  exact ⟨O, r.push mild_none fun s q => by cases q⟩
/-- data without an object -/
def flat : D → Prop
  | .none | .bool _ | .int _ | .str _ => True
  | _ => False
def vOf : D → V
  | .bool b => .bl b
  | .int i => .int i
  | .str s => .str s
  | _ => .non
theorem rp_flat {K} (f : flat d) : Rp K H O (vOf d) d := by
  cases d <;> first | exact .non | exact .bl _ | exact .int _ | exact .str _ | exact f.elim
theorem Rel.flat (h : Rel Z H src L) (f : Pw.flat d) : Rel Z H src ((some (vOf d), some (.sh d)) :: L) := by
  obtain ⟨O, r⟩ := h
  exact ⟨O, r.push mild_sh fun s q => ⟨_, rfl, by cases q; exact rp_flat f⟩⟩
theorem Rel.int (h : Rel Z H src L) (i : Int) : Rel Z H src ((some (.int i), some (.sh (.int i))) :: L) := h.flat (d := .int i) trivial
theorem Rel.bl (h : Rel Z H src L) (i : Bool) : Rel Z H src ((some (.bl i), some (.sh (.bool i))) :: L) := h.flat (d := .bool i) trivial
theorem Rel.str (h : Rel Z H src L) (i : Str) : Rel Z H src ((some (.str i), some (.sh (.str i))) :: L) := h.flat (d := .str i) trivial
theorem Rel.non (h : Rel Z H src L) : Rel Z H src ((some .non, some (.sh .none)) :: L) := h.flat (d := .none) trivial
/-- a mild entry again -/
theorem Rel.dup {e : Ent} (h : Rel Z H src L) (m : Mild e) (he : e ∈ L) : Rel Z H src (e :: L) := by
  obtain ⟨O, r⟩ := h
  exact ⟨O, r.push m (r.ent e he)⟩
theorem srcOk_step (A : Option (Addr × Addr)) (hk : ∀ b x, InA A b → H b = some x → H' b = some x) (ho : ∀ b, InA A b → O b → O' b) (h : SrcOk A H O src) : SrcOk A H' O' src := by
  cases src with
  | none => cases A <;> exact h
  | some s =>
    cases A with
    | none => exact h
    | some p =>
      obtain ⟨n, o1, o2, h1, h2⟩ := h
      exact ⟨n, ho _ (.inl rfl) o1, ho _ (.inr rfl) o2, hk _ _ (.inl rfl) h1, hk _ _ (.inr rfl) h2⟩
/-- an owned thing is owned no more -/
theorem Rel.settle {v : Option V} {d : D} (h : Rel Z H src ((v, some (.own d)) :: L)) : Rel Z H src ((v, some (.sh d)) :: L) := by
  obtain ⟨O, r⟩ := h
  obtain ⟨w, e1, a, e2, oa, fa, na, ra⟩ := r.ent _ List.mem_cons_self _ rfl
  have e1 : v = some w := e1
  subst e1 e2
  have ap := (List.pairwise_cons.mp r.ap).1
  have t : Stp H H O (fun b => O b ∧ b ≠ a) (fun b => b = a) := ⟨fun _ _ e _ => e, fun b z => z ▸ oa, fun b z => .inl z.1, fun b z n => ⟨z, n⟩⟩
  refine ⟨fun b => O b ∧ b ≠ a, fun b z => ⟨r.oc b z, fun q => fa.2 (q ▸ z)⟩, fun f hf => ?_, List.pairwise_cons.mpr ⟨fun _ _ => mild_sh.apart, (List.pairwise_cons.mp r.ap).2⟩, srcOk_step _ (fun _ _ _ e => e) (fun b i o => ⟨o, fun z => na (z ▸ i)⟩) r.src, r.base, fun b z => r.live b z.1⟩
  rcases List.mem_cons.mp hf with rfl | hf
  · intro s q
    cases q
    refine ⟨_, rfl, ?_⟩
    cases d <;> first | exact ra.elim | skip
    · obtain ⟨xs, q, x⟩ := ra; exact .lst q (fun z => z.2 rfl) (t.rpA x)
    · obtain ⟨xs, q, x⟩ := ra; exact .dic q (fun z => z.2 rfl) (t.rpD x)
  · exact t.ent (fun d' b h1 h2 z => ap f hf d d' a rfl h1 rfl (by rw [h2, z])) (r.ent f (List.mem_cons_of_mem _ hf))
/-- a new object -/
theorem RelO.new {p : Addr} {o : HO} (r : RelO Z H src L O) (hp : H p = none) : RelO Z (upd H p o) src L O := by
  have k : ∀ b x, H b = some x → upd H p o b = some x := fun b x e => by rw [upd_ne (ne_of_none e hp)]; exact e
  exact ⟨r.oc, fun e he => (Stp.of_keep k).ent .none (r.ent e he), r.ap, srcOk_step _ (fun b x _ e => k b x e) (fun _ _ o => o) r.src, fun b x e n => k b x (r.base b x e n), fun b z => let ⟨x, e⟩ := r.live b z; ⟨x, k b x e⟩⟩
theorem RelO.fresh {p : Addr} (r : RelO Z H src L O) (hp : H p = none) : ¬ O p := fun z => by
  obtain ⟨x, e⟩ := r.live p z
  rw [hp] at e; cases e
theorem RelO.fresh0 {p : Addr} (r : RelO Z H src L O) (hp : H p = none) : ¬ InA Z.A p → Z.H0 p = none := fun n => by
  cases q : Z.H0 p with
  | none => rfl
  | some x => rw [r.base p x q n] at hp; cases hp
theorem RelO.freshA {p : Addr} (r : RelO Z H src L O) (hp : H p = none) (hs : src.isSome = Z.A.isSome) : ¬ InA Z.A p := fun z => by
  have q := r.src
  cases src <;> cases e : Z.A <;> rw [e] at q z hs <;> first | exact z | exact q | (simp at hs; done) | skip
  obtain ⟨n, o1, o2, h1, h2⟩ := q
  rcases z with rfl | rfl
  · rw [hp] at h1; cases h1
  · rw [hp] at h2; cases h2
theorem srcOk_some (h : SrcOk Z.A H O src) : src.isSome = Z.A.isSome := by
  cases src <;> cases e : Z.A <;> rw [e] at h <;> first | rfl | exact h.elim
/-- a new tuple of known things -/
theorem Rel.newTup {p : Addr} {vs : List V} {ds : List D} (h : Rel Z H src L) (hp : H p = none) (hr : ∀ O, RelO Z H src L O → RpA Z.K H O vs ds) : Rel Z (upd H p (.tup vs)) src ((some (.ref p), some (.sh (.tuple ds))) :: L) := by
  obtain ⟨O, r⟩ := h
  have k : ∀ b x, H b = some x → upd H p (.tup vs) b = some x := fun b x e => by rw [upd_ne (ne_of_none e hp)]; exact e
  refine ⟨O, (r.new hp).push mild_sh fun s q => ⟨_, rfl, ?_⟩⟩
  cases q
  exact .tup upd_same (r.fresh hp) ((Stp.of_keep k).rpA (hr O r))
theorem Rel.newOwn {p : Addr} {o : HO} {d : D} (h : Rel Z H src L) (hp : H p = none) (hr : ∀ O, RelO Z H src L O → RpO Z.K (upd H p o) (fun b => O b ∨ b = p) p d) : Rel Z (upd H p o) src ((some (.ref p), some (.own d)) :: L) := by
  obtain ⟨O, r⟩ := h
  have k : ∀ b x, H b = some x → upd H p o b = some x := fun b x e => by rw [upd_ne (ne_of_none e hp)]; exact e
  have t : Stp H (upd H p o) O (fun b => O b ∨ b = p) (fun _ => False) := ⟨fun b x e _ => k b x e, fun _ z => z.elim, fun b z => z.elim .inl fun z => .inr (z ▸ hp), fun _ z _ => .inl z⟩
  have nA := r.freshA hp (srcOk_some r.src)
  refine ⟨fun b => O b ∨ b = p, fun b z => .inl (r.oc b z), fun f hf => ?_, List.pairwise_cons.mpr ⟨fun f hf => ?_, r.ap⟩, srcOk_step _ (fun b x _ e => k b x e) (fun _ _ o => .inl o) r.src, fun b x e n => k b x (r.base b x e n), fun b z => ?_⟩
  · rcases List.mem_cons.mp hf with rfl | hf
    · intro s q
      cases q
      exact ⟨_, rfl, p, rfl, .inr rfl, ⟨r.fresh0 hp nA, fun z => r.fresh hp (r.oc p z)⟩, nA, hr O r⟩
    · exact t.ent .none (r.ent f hf)
  · intro d1 d2 a h1 h2 h3 h4
    obtain ⟨w, e1, a', e2, oa, _⟩ := r.ent f hf _ h2
    rw [e1] at h4
    have h3 : some (V.ref p) = some (V.ref a) := h3
    injection h3 with h3; injection h3 with h3
    injection h4 with h4
    rw [e2] at h4; injection h4 with h4
    rw [h4, ← h3] at oa
    exact r.fresh hp oa
  · rcases z with z | rfl
    · obtain ⟨x, e⟩ := r.live b z; exact ⟨x, k b x e⟩
    · exact ⟨o, upd_same⟩
/-- an owned thing is changed -/
theorem Rel.updOwn {p : Addr} {o : HO} {d d' : D} (h : Rel Z H src ((some (.ref p), some (.own d)) :: L)) (hr : ∀ O, RelO Z H src ((some (.ref p), some (.own d)) :: L) O → RpO Z.K H O p d → O p → RpO Z.K (upd H p o) O p d') : Rel Z (upd H p o) src ((some (.ref p), some (.own d')) :: L) := by
  obtain ⟨O, r⟩ := h
  obtain ⟨w, e1, a, e2, oa, fa, na, ra⟩ := r.ent _ List.mem_cons_self _ rfl
  have e1 : some (V.ref p) = some w := e1
  injection e1 with e1
  rw [← e1] at e2
  injection e2 with e2
  subst e2
  have ap := (List.pairwise_cons.mp r.ap).1
  have k : ∀ b x, H b = some x → ¬ b = p → upd H p o b = some x := fun b x e n => by rw [upd_ne n]; exact e
  have t : Stp H (upd H p o) O O (fun b => b = p) := ⟨k, fun b z => z ▸ oa, fun b z => .inl z, fun b z _ => z⟩
  refine ⟨O, r.oc, fun f hf => ?_, List.pairwise_cons.mpr ⟨fun f hf => ?_, (List.pairwise_cons.mp r.ap).2⟩, srcOk_step _ (fun b x i e => k b x e fun z => na (z ▸ i)) (fun _ _ o => o) r.src, fun b x e n => k b x (r.base b x e n) (fun z => by rw [z, fa.1] at e; cases e), fun b z => ?_⟩
  · rcases List.mem_cons.mp hf with rfl | hf
    · intro s q
      cases q
      exact ⟨_, rfl, p, rfl, oa, fa, na, hr O r ra oa⟩
    · exact t.ent (fun d' b h1 h2 z => ap f hf d d' p rfl h1 rfl (by rw [h2, z])) (r.ent f (List.mem_cons_of_mem _ hf))
  · intro d1 d2 a h1 h2 h3 h4
    have h3 : some (V.ref p) = some (V.ref a) := h3
    exact ap f hf d d2 p rfl h2 rfl (h4.trans h3.symm)
  · obtain ⟨x, e⟩ := r.live b z
    by_cases q : b = p
    · exact ⟨o, by rw [q]; exact upd_same⟩
    · exact ⟨x, k b x e q⟩
end

/-! ### slots -/
section
variable {Z : Zx} {H : Hp} {src : Option Src} {T : List Ent} {σ : L2.St} {sl : List (Option SV)}
theorem perm_set {α : Type} : ∀ (l : List α) (i : Nat) (x y : α), l[i]? = some x → (y :: l).Perm (x :: l.set i y)
  | [], _, _, _, h => by simp at h
  | a :: l, 0, x, y, h => by
    simp at h; subst h
    exact List.Perm.swap ..
  | a :: l, i + 1, x, y, h => by
    have ih := perm_set l i x y (by simpa using h)
    rw [List.set_cons_succ]
    exact (List.Perm.swap a y l).trans ((ih.cons a).trans (List.Perm.swap x a _))
theorem zip_set {α β : Type} : ∀ (l : List α) (m : List β) (i : Nat) (x : α) (y : β), List.zip (l.set i x) (m.set i y) = (List.zip l m).set i (x, y)
  | [], m, i, x, y => by simp
  | a :: l, [], i, x, y => by simp
  | a :: l, b :: m, 0, x, y => by simp
  | a :: l, b :: m, i + 1, x, y => by simp [zip_set l m i x y]
theorem zip_get {α β : Type} : ∀ {l : List α} {m : List β} {i : Nat} {x : α} {y : β}, l[i]? = some x → m[i]? = some y → (List.zip l m)[i]? = some (x, y)
  | [], m, i, x, y, h, _ => by simp at h
  | a :: l, [], i, x, y, _, h => by simp at h
  | a :: l, b :: m, 0, x, y, h, g => by simp at h g; subst h g; rfl
  | a :: l, b :: m, i + 1, x, y, h, g => by simpa using zip_get (l := l) (m := m) (i := i) (by simpa using h) (by simpa using g)
theorem set_id {α : Type} : ∀ (l : List α) (i : Nat) (x : α), l[i]? = some x → l.set i x = l
  | [], _, _, h => by simp at h
  | a :: l, 0, x, h => by simp at h; subst h; rfl
  | a :: l, i + 1, x, h => by rw [List.set_cons_succ, set_id l i x (by simpa using h)]
/-- a slot's thing is taken out -/
theorem Rel.takeSlot {i : Nat} {ov : Option V} {os : Option SV} (h : Rel Z H src (T ++ List.zip σ sl)) (h1 : σ[i]? = some ov) (h2 : sl[i]? = some os) : Rel Z H src ((ov, os) :: (T ++ List.zip σ (sl.set i none))) := by
  have e : List.zip σ (sl.set i none) = (List.zip σ sl).set i (ov, none) := by
    rw [← zip_set, set_id σ i ov h1]
  rw [e]
  refine (h.triv (x := ov)).perm ?_
  have p := perm_set (List.zip σ sl) i (ov, os) (ov, none) (zip_get h1 h2)
  have q : ((ov, none) :: (T ++ List.zip σ sl)).Perm (T ++ (ov, none) :: List.zip σ sl) := List.perm_middle.symm
  exact q.trans ((p.append_left T).trans List.perm_middle)
/-- a thing is put into a slot -/
theorem Rel.putSlot {i : Nat} {ov : Option V} {os : Option SV} (h : Rel Z H src ((ov, os) :: (T ++ List.zip σ sl))) (hl : σ.length = sl.length) : Rel Z H src (T ++ List.zip (σ.set i ov) (sl.set i os)) := by
  by_cases hi : i < σ.length
  · have h1 : σ[i]? = some σ[i] := List.getElem?_eq_getElem hi
    have h2 : sl[i]? = some sl[i] := List.getElem?_eq_getElem (hl ▸ hi)
    rw [zip_set]
    have p := perm_set (List.zip σ sl) i _ (ov, os) (zip_get h1 h2)
    have q : ((ov, os) :: (T ++ List.zip σ sl)).Perm (T ++ (ov, os) :: List.zip σ sl) := List.perm_middle.symm
    exact (h.perm (q.trans ((p.append_left T).trans List.perm_middle))).pop
  · rw [List.set_eq_of_length_le (by omega), List.set_eq_of_length_le (by omega)]
    exact h.pop
end
end Pw
set_option Elab.async false
set_option linter.all false
set_option maxRecDepth 100000
namespace Pw
open PySem PySem.Spec PyProof.Rows L2
abbrev Ev := S → Res SV
abbrev Vw := S → Res D
abbrev Tt := S → Res Bool
abbrev Ag := S → Res (List SV)
inductive Fl where
  | nx
  | ret (r : SV)
  | bk
  | ct
abbrev Sm := S → Res Fl

def RelS (Z : Zx) (H : Hp) (σ : L2.St) (T : List Ent) (s : S) : Prop := σ.length = s.sl.length ∧ Rel Z H s.src (T ++ List.zip σ s.sl)
def ExP (Z : Zx) (σ : L2.St) (T : List Ent) (W : WX) (e : Ex) (s : S) : Prop := ∀ dd H', RelS Z H' σ ((some (.ref dd), some (.exd e.fs)) :: T) s → W (.ref e.cls) (some dd) σ H'
def LE (Z : Zx) (W : WX) (f : Ev) : TE := fun σ H Q => ∃ T s, RelS Z H σ T s ∧ (f s).sat (fun r s' => ∀ v H', RelS Z H' σ ((some v, some r) :: T) s' → Q v H') (ExP Z σ T W)
def SV.dat : SV → Option D
  | .sh d => some d
  | .own d => some d
  | _ => none
def Has (L : List Ent) (v : V) (d : D) : Prop := ∃ r, (some v, some r) ∈ L ∧ r.dat = some d
def LV (Z : Zx) (W : WX) (f : Vw) : TE := fun σ H Q => ∃ T s, RelS Z H σ T s ∧ (f s).sat (fun d s' => ∀ v H' T', RelS Z H' σ (T' ++ T) s' → Has (T' ++ T ++ List.zip σ s'.sl) v d → Q v H') (ExP Z σ T W)
def LT (Z : Zx) (W : WX) (f : Tt) : TT := fun σ H Q => ∃ T s, RelS Z H σ T s ∧ (f s).sat (fun b s' => ∀ H', RelS Z H' σ T s' → Q b H') (ExP Z σ T W)
def ents (vs : List V) (rs : List SV) : List Ent := List.zip (vs.map some) (rs.map some)
def LA (Z : Zx) (W : WX) (f : Ag) : TA := fun σ H Q => ∃ T s, RelS Z H σ T s ∧ (f s).sat (fun rs s' => ∀ vs H', vs.length = rs.length → RelS Z H' σ (ents vs rs ++ T) s' → Q vs H') (ExP Z σ T W)
def FlP (Z : Zx) (T : List Ent) (D : Ends) (f : Fl) (s : S) : Prop := match f with
  | .nx => ∀ σ H, RelS Z H σ T s → D.nx σ H
  | .ret r => ∀ v σ H, RelS Z H σ ((some v, some r) :: T) s → D.rt v H
  | .bk => ∀ σ H, RelS Z H σ T s → D.bk σ H
  | .ct => ∀ σ H, RelS Z H σ T s → D.ct σ H
def ExS (Z : Zx) (T : List Ent) (W : WX) (e : Ex) (s : S) : Prop := ∀ σ, ExP Z σ T W e s
def LS (Z : Zx) (W : WX) (f : Sm) : TS := fun D σ H => ∃ T s, RelS Z H σ T s ∧ (f s).sat (FlP Z T D) (ExS Z T W)

def SnE (X : Cx) (Z : Zx) (W : WX) (e : Expr) (f : Ev) : Prop := X.K = Z.K → PE X e (LE Z W f)
def SnV (X : Cx) (Z : Zx) (W : WX) (e : Expr) (f : Vw) : Prop := X.K = Z.K → PE X e (LV Z W f)
def SnT (X : Cx) (Z : Zx) (W : WX) (e : Expr) (f : Tt) : Prop := X.K = Z.K → PT X e (LT Z W f)
def SnA (X : Cx) (Z : Zx) (W : WX) (es : List Expr) (f : Ag) : Prop := X.K = Z.K → PA X es (LA Z W f)
def SnS (X : Cx) (Z : Zx) (W : WX) (st : Stmt) (f : Sm) : Prop := X.K = Z.K → PS X st (LS Z W f)
def SnB (X : Cx) (Z : Zx) (W : WX) (st : List Stmt) (f : Sm) : Prop := X.K = Z.K → PSs X st (LS Z W f)

theorem pe_imp {X : Cx} {e : Expr} {t t' : TE} (h : PE X e t) (i : ∀ σ H Q, t' σ H Q → t σ H Q) : PE X e t' := ⟨fun pins s σ H Q I q => h.run pins s σ H Q I (i σ H Q q)⟩
theorem pt_imp {X : Cx} {e : Expr} {t t' : TT} (h : PT X e t) (i : ∀ σ H Q, t' σ H Q → t σ H Q) : PT X e t' := ⟨fun pins s σ H Q I q => h.run pins s σ H Q I (i σ H Q q)⟩
theorem pa_imp {X : Cx} {e : List Expr} {t t' : TA} (h : PA X e t) (i : ∀ σ H Q, t' σ H Q → t σ H Q) : PA X e t' := ⟨fun pos pins s σ H Q I q => h.run pos pins s σ H Q I (i σ H Q q)⟩
theorem ps_imp {X : Cx} {e : Stmt} {t t' : TS} (h : PS X e t) (i : ∀ D σ H, t' D σ H → t D σ H) : PS X e t' := ⟨fun pins s σ H D I q => h.run pins s σ H D I (i D σ H q)⟩
theorem pss_imp {X : Cx} {e : List Stmt} {t t' : TS} (h : PSs X e t) (i : ∀ D σ H, t' D σ H → t D σ H) : PSs X e t' := ⟨fun pins s σ H D I q => h.run pins s σ H D I (i D σ H q)⟩

section
variable {X : Cx} {Z : Zx} {W : WX} {e a b : Expr} {f fa : Ev} {H : Hp} {σ : L2.St} {T T' : List Ent} {s : S}
theorem RelS.slot {i : Nat} {r : SV} (h : RelS Z H σ T s) (e : s.sl[i]? = some (some r)) : ∃ v, σ[i]? = some (some v) ∧ (some v, some r) ∈ T ++ List.zip σ s.sl := by
  obtain ⟨hl, O, R⟩ := h
  have hi : i < σ.length := by rw [hl]; exact (List.getElem?_eq_some_iff.mp e).1
  have h1 : σ[i]? = some σ[i] := List.getElem?_eq_getElem hi
  have hm : (σ[i], some r) ∈ T ++ List.zip σ s.sl := List.mem_append_right _ (List.mem_of_getElem? (zip_get h1 e))
  obtain ⟨v, e1, _⟩ := R.ent _ hm r rfl
  have e1 : σ[i] = some v := e1
  rw [e1] at h1 hm
  exact ⟨v, h1, hm⟩
theorem RelS.perm (h : RelS Z H σ T s) (p : T.Perm T') : RelS Z H σ T' s := ⟨h.1, h.2.perm (p.append_right _)⟩
theorem RelS.pop {x : Ent} (h : RelS Z H σ (x :: T) s) : RelS Z H σ T s := ⟨h.1, h.2.pop⟩
theorem RelS.popN {T' : List Ent} (h : RelS Z H σ (T' ++ T) s) : RelS Z H σ T s := ⟨h.1, Rel.popN T' (by rw [← List.append_assoc]; exact h.2)⟩
theorem RelS.dup {x : Ent} (h : RelS Z H σ T s) (m : Mild x) (hx : x ∈ T ++ List.zip σ s.sl) : RelS Z H σ (x :: T) s := ⟨h.1, h.2.dup m hx⟩
theorem RelS.settle {v : Option V} {d : D} (h : RelS Z H σ ((v, some (.own d)) :: T) s) : RelS Z H σ ((v, some (.sh d)) :: T) s := ⟨h.1, h.2.settle⟩

/-! ### constants, names -/
def cD (d : D) : Ev := fun s => .ok (.sh d) s
theorem snE_C {v : V} {d : D} (h : PE X e (tC v)) (hf : flat d) (hv : vOf d = v) : SnE X Z W e (cD d) := fun _ => pe_imp h fun σ H Q ⟨T, s, R, q⟩ => by
  subst hv
  exact q _ _ ⟨R.1, R.2.flat hf⟩
theorem snE_int {i j pos} : SnE X Z W (.Constant (.int i) j pos) (cD (.int i)) := snE_C pe_int trivial rfl
theorem snE_bl {i j pos} : SnE X Z W (.Constant (.bool i) j pos) (cD (.bool i)) := snE_C pe_bl trivial rfl
theorem snE_non {j pos} : SnE X Z W (.Constant .none j pos) (cD .none) := snE_C pe_non trivial rfl
theorem snE_str {x j pos} : SnE X Z W (.Constant (.str x) j pos) (cD (.str x)) := snE_C pe_str trivial rfl
/-- a name read: what a slot owns is shared from then on -/
def cVar (i : Nat) : Ev := fun s => match s.sl[i]? with
  | some (some (.own d)) => .ok (.sh d) { s with sl := s.sl.set i (some (.sh d)) }
  | some (some (.sh d)) => .ok (.sh d) s
  | some (some (.fn a)) => .ok (.fn a) s
  | some (some .src) => .ok .src s
  | some (some (.scr ns)) => .ok (.scr ns) s
  | _ => .err
theorem RelS.share {i : Nat} {d : D} {v : V} (R : RelS Z H σ T s) (e : s.sl[i]? = some (some (.own d))) (hv : σ[i]? = some (some v)) : RelS Z H σ T { s with sl := s.sl.set i (some (.sh d)) } := by
  have R2 := (R.2.takeSlot hv e).settle.putSlot (i := i) (by simpa using R.1)
  rw [set_id σ i _ hv, List.set_set] at R2
  exact ⟨by simpa using R.1, R2⟩
theorem snE_var {i : Nat} (h : PE X e (tVar i)) : SnE X Z W e (cVar i) := fun _ => pe_imp h fun σ H Q ⟨T, s, R, q⟩ => by
  unfold cVar at q
  split at q
  · rename_i d e
    obtain ⟨v, hv, hm⟩ := R.slot e
    refine ⟨v, hv, q _ _ ?_⟩
    have R2 := R.share e hv
    have hi : i < s.sl.length := (List.getElem?_eq_some_iff.mp e).1
    obtain ⟨v', hv', hm'⟩ := R2.slot (i := i) (r := .sh d) (by simp [hi])
    rw [hv] at hv'; cases hv'
    exact R2.dup mild_sh hm'
  · rename_i d e
    obtain ⟨v, hv, hm⟩ := R.slot e
    exact ⟨v, hv, q _ _ (R.dup mild_sh hm)⟩
  · rename_i a e
    obtain ⟨v, hv, hm⟩ := R.slot e
    exact ⟨v, hv, q _ _ (R.dup mild_fn hm)⟩
  · rename_i e
    obtain ⟨v, hv, hm⟩ := R.slot e
    exact ⟨v, hv, q _ _ (R.dup mild_src hm)⟩
  · rename_i ns e
    obtain ⟨v, hv, hm⟩ := R.slot e
    exact ⟨v, hv, q _ _ (R.dup mild_scr hm)⟩
  · exact q.elim
/-- a name moved: the slot holds nothing we know behind it -/
def cMv (i : Nat) : Ev := fun s => match s.sl[i]? with
  | some (some r) => .ok r { s with sl := s.sl.set i none }
  | _ => .err
theorem snE_mv {i : Nat} (h : PE X e (tVar i)) : SnE X Z W e (cMv i) := fun _ => pe_imp h fun σ H Q ⟨T, s, R, q⟩ => by
  unfold cMv at q
  split at q
  · rename_i r e
    obtain ⟨v, hv, hm⟩ := R.slot e
    exact ⟨v, hv, q _ _ ⟨by simpa using R.1, R.2.takeSlot hv e⟩⟩
  · exact q.elim
/-! ### views -/
def cVarV (i : Nat) : Vw := fun s => match s.sl[i]? with
  | some (some (.own d)) => .ok d s
  | some (some (.sh d)) => .ok d s
  | _ => .err
theorem snV_var {i : Nat} (h : PE X e (tVar i)) : SnV X Z W e (cVarV i) := fun _ => pe_imp h fun σ H Q ⟨T, s, R, q⟩ => by
  unfold cVarV at q
  split at q
  · rename_i d e
    obtain ⟨v, hv, hm⟩ := R.slot e
    exact ⟨v, hv, q _ _ [] R ⟨_, hm, rfl⟩⟩
  · rename_i d e
    obtain ⟨v, hv, hm⟩ := R.slot e
    exact ⟨v, hv, q _ _ [] R ⟨_, hm, rfl⟩⟩
  · exact q.elim
def vE (f : Ev) : Vw := fun s => (f s).bind fun r s' => match r.dat with
  | some d => .ok d s'
  | none => .err
theorem snV_E (h : SnE X Z W e f) : SnV X Z W e (vE f) := fun k => pe_imp (h k) fun σ H Q ⟨T, s, R, q⟩ => by
  refine ⟨T, s, R, ?_⟩
  refine Res.sat_mono (Res.sat_bind.mp q) (fun r s' q v H' R' => ?_) fun e s h => h
  cases e : r.dat with
  | none => rw [e] at q; exact q.elim
  | some d => rw [e] at q; exact q _ _ [(some v, some r)] R' ⟨r, by simp, e⟩
/-! ### argument lists -/
def SV.settle : SV → SV
  | .own d => .sh d
  | r => r
theorem RelS.settleAny {v : Option V} {r : SV} (h : RelS Z H σ ((v, some r) :: T) s) : RelS Z H σ ((v, some r.settle) :: T) s := by
  cases r <;> first | exact h | exact h.settle
def cNil : Ag := fun s => .ok [] s
def cCons (f : Ev) (g : Ag) : Ag := fun s => (f s).bind fun r s1 => (g s1).bind fun rs s2 => .ok (r.settle :: rs) s2
theorem snA_nil : SnA X Z W [] cNil := fun _ => pa_imp pa_nil fun σ H Q ⟨T, s, R, q⟩ => q [] _ rfl R
theorem snA_cons {es : List Expr} {g : Ag} (h : SnE X Z W e f) (hr : SnA X Z W es g) (hs : starEach (e :: es) X.env = (false, eval e X.env) :: starEach es X.env := by rfl) : SnA X Z W (e :: es) (cCons f g) := fun k => pa_imp (pa_cons (h k) (hr k) hs) fun σ H Q ⟨T, s, R, q⟩ => by
  refine ⟨T, s, R, ?_⟩
  refine Res.sat_mono (Res.sat_bind.mp q) (fun r s1 q v H1 R1 => ?_) fun e s h => h
  refine ⟨(some v, some r.settle) :: T, s1, R1.settleAny, ?_⟩
  refine Res.sat_mono (Res.sat_bind.mp q) (fun rs s2 q vs H2 hl R2 => ?_) fun e s h dd H' R' => h dd H' ?_
  · refine q (v :: vs) H2 (by simpa [SV.settle] using hl) (R2.perm ?_)
    exact List.perm_middle
  · exact ⟨R'.1, (R'.perm (List.Perm.swap _ _ _)).pop.2⟩
/-! ### displays -/
def datas : List SV → Option (List D)
  | [] => some []
  | .sh d :: r => (datas r).map (d :: ·)
  | _ => none
theorem rpA_ents {O : Addr → Prop} : ∀ {vs : List V} {rs : List SV} {ds : List D}, vs.length = rs.length → datas rs = some ds → (∀ e ∈ ents vs rs, EntOk Z H O e) → RpA Z.K H O vs ds
  | [], [], _, _, e, _ => by cases e; exact .nil
  | v :: vs, r :: rs, ds, hl, e, h => by
    cases r <;> first | (simp [datas] at e; done) | skip
    rename_i d
    simp only [datas, Option.map_eq_some_iff] at e
    obtain ⟨ds', e1, rfl⟩ := e
    obtain ⟨w, e2, q⟩ := h (some v, some (.sh d)) (by simp [ents]) _ rfl
    cases e2
    exact .cons q (rpA_ents (by simpa using hl) e1 fun e he => h e (by simp only [ents, List.map_cons, List.zip_cons_cons]; exact List.mem_cons_of_mem _ he))
  | [], _ :: _, _, h, _, _ => by simp at h
  | _ :: _, [], _, h, _, _ => by simp at h
def cTup (g : Ag) : Ev := fun s => (g s).bind fun rs s1 => match datas rs with
  | some ds => if ds.length ≤ sizeLine then .ok (.sh (.tuple ds)) s1 else .err
  | none => .err
def cLst (g : Ag) : Ev := fun s => (g s).bind fun rs s1 => match datas rs with
  | some ds => if ds.length ≤ sizeLine then .ok (.own (.list ds)) s1 else .err
  | none => .err
theorem snE_tup {es : List Expr} {g : Ag} {x1 pos} (h : SnA X Z W es g) : SnE X Z W (.Tuple es x1 pos) (cTup g) := fun k => pe_imp (pe_tup (h k)) fun σ H Q ⟨T, s, R, q⟩ => by
  refine ⟨T, s, R, ?_⟩
  refine Res.sat_mono (Res.sat_bind.mp q) (fun rs s1 q vs H1 hl R1 => ?_) fun e s h => h
  split at q
  · rename_i ds e
    split at q
    · rename_i hz
      have hr : ∀ O, RelO Z H1 s1.src (ents vs rs ++ T ++ List.zip σ s1.sl) O → RpA Z.K H1 O vs ds := fun O r => rpA_ents hl e fun x hx => r.ent x (by simp [hx])
      obtain ⟨O, r⟩ := R1.2
      refine ⟨by rw [(hr O r).length]; exact hz, fun p hp => q _ _ ⟨R1.1, ?_⟩⟩
      have R2 := Rel.newTup (p := p) (vs := vs) (ds := ds) ⟨O, r⟩ hp hr
      have R3 := R2.perm (L' := ents vs rs ++ ((some (.ref p), some (.sh (.tuple ds))) :: (T ++ List.zip σ s1.sl))) (by rw [List.append_assoc]; exact List.perm_middle.symm)
      exact Rel.popN _ R3
    · exact q.elim
  · exact q.elim
theorem snE_lst {es : List Expr} {g : Ag} {pos} (h : SnA X Z W es g) : SnE X Z W (.List es pos) (cLst g) := fun k => pe_imp (pe_lst (h k)) fun σ H Q ⟨T, s, R, q⟩ => by
  refine ⟨T, s, R, ?_⟩
  refine Res.sat_mono (Res.sat_bind.mp q) (fun rs s1 q vs H1 hl R1 => ?_) fun e s h => h
  split at q
  · rename_i ds e
    split at q
    · rename_i hz
      have hr : ∀ O, RelO Z H1 s1.src (ents vs rs ++ T ++ List.zip σ s1.sl) O → RpA Z.K H1 O vs ds := fun O r => rpA_ents hl e fun x hx => r.ent x (by simp [hx])
      obtain ⟨O, r⟩ := R1.2
      refine ⟨by rw [(hr O r).length]; exact hz, fun p hp => q _ _ ⟨R1.1, ?_⟩⟩
      have R2 := Rel.newOwn (p := p) (o := .lst vs) (d := .list ds) ⟨O, r⟩ hp fun O r => ⟨vs, upd_same, (hr O r).keep (fun b x e _ => by rw [upd_ne (ne_of_none e hp)]; exact e) fun b z => Or.elim z Or.inl fun z => .inr (by rw [z]; exact hp)⟩
      have R3 := R2.perm (L' := ents vs rs ++ ((some (.ref p), some (.own (.list ds))) :: (T ++ List.zip σ s1.sl))) (by rw [List.append_assoc]; exact List.perm_middle.symm)
      exact Rel.popN _ R3
    · exact q.elim
  · exact q.elim
end
end Pw
set_option Elab.async false
set_option linter.all false
set_option maxRecDepth 100000
namespace Pw
open PySem PySem.Spec PyProof.Rows L2
section
variable {X : Cx} {Z : Zx} {W : WX} {e a b : Expr} {f fa : Ev} {fb : Vw} {H : Hp} {σ : L2.St} {T T' : List Ent} {s : S} {L : List Ent} {src : Option Src} {O : Addr → Prop} {v : V}
theorem Rel.mid {e : Ent} (T' : List Ent) (h : Rel Z H src (e :: (T' ++ L))) : Rel Z H src (e :: L) := Rel.popN T' (h.perm List.perm_middle.symm)
theorem Rp.bool_inv {K} {b : Bool} (h : Rp K H O v (.bool b)) : v = .bl b := by cases h; rfl
theorem Rp.int_inv {K} {b : Int} (h : Rp K H O v (.int b)) : v = .int b := by cases h; rfl
theorem Rp.str_inv {K} {b : Str} (h : Rp K H O v (.str b)) : v = .str b := by cases h; rfl
theorem Rp.non_inv {K} (h : Rp K H O v .none) : v = .non := by cases h; rfl
theorem RelO.has (r : RelO Z H src L O) {d : D} (h : Has L v d) : Rp Z.K H O v d ∨ ∃ a, v = .ref a ∧ RpO Z.K H O a d := by
  obtain ⟨x, hm, e⟩ := h
  obtain ⟨w, e1, q⟩ := r.ent _ hm x rfl
  cases e1
  cases x <;> first | (cases e; done) | skip
  · cases e; exact .inl q
  · cases e; obtain ⟨a, e1, _, _, _, z⟩ := q; exact .inr ⟨a, e1, z⟩
theorem RelO.int (r : RelO Z H src L O) {i : Int} (h : Has L v (.int i)) : v = .int i := (r.has h).elim Rp.int_inv fun ⟨_, _, z⟩ => z.elim
theorem RelO.str (r : RelO Z H src L O) {i : Str} (h : Has L v (.str i)) : v = .str i := (r.has h).elim Rp.str_inv fun ⟨_, _, z⟩ => z.elim
theorem RelO.bl (r : RelO Z H src L O) {i : Bool} (h : Has L v (.bool i)) : v = .bl i := (r.has h).elim Rp.bool_inv fun ⟨_, _, z⟩ => z.elim
theorem RelO.non (r : RelO Z H src L O) (h : Has L v .none) : v = .non := (r.has h).elim Rp.non_inv fun ⟨_, _, z⟩ => z.elim
theorem RelO.list (r : RelO Z H src L O) {ds : List D} (h : Has L v (.list ds)) : ∃ a xs, v = .ref a ∧ H a = some (.lst xs) ∧ RpA Z.K H O xs ds := by
  rcases r.has h with z | ⟨a, e, xs, q, z⟩
  · cases z with | lst q _ z => exact ⟨_, _, rfl, q, z⟩
  · exact ⟨a, xs, e, q, z⟩
theorem RelO.tuple (r : RelO Z H src L O) {ds : List D} (h : Has L v (.tuple ds)) : ∃ a xs, v = .ref a ∧ SqT Z.K H a xs ∧ RpA Z.K H O xs ds := by
  rcases r.has h with z | ⟨a, e, z⟩
  · cases z with
    | tup q _ z => exact ⟨_, _, rfl, SqT.of q, z⟩
    | tupK e1 e2 e3 e4 e5 z => exact ⟨_, _, rfl, .inr ⟨_, _, _, e1, e2, e3, e4, e5⟩, z⟩
  · exact z.elim
theorem RelO.dict (r : RelO Z H src L O) {ds : List (D × D)} (h : Has L v (.dict ds)) : ∃ a xs, v = .ref a ∧ H a = some (.dK xs) ∧ RpD Z.K H O xs ds := by
  rcases r.has h with z | ⟨a, e, xs, q, z⟩
  · cases z with | dic q _ z => exact ⟨_, _, rfl, q, z⟩
  · exact ⟨a, xs, e, q, z⟩

/-! ### operations of two values -/
def rD (K : PySem.W.Frag) (g : D → D → Option SV) : R2 := fun x y H Q => ∃ Z src L d1 d2 r, Z.K = K ∧ Rel Z H src L ∧ Has L x d1 ∧ Has L y d2 ∧ g d1 d2 = some r ∧ ∀ v H', Rel Z H' src ((some v, some r) :: L) → Q v H'
def Res.opt {α : Type} (o : Option α) (s : S) : Res α := match o with
  | some a => .ok a s
  | none => .err
def cBinE (g : D → D → Option SV) (fa : Ev) (fb : Vw) : Ev := fun s => (fa s).bind fun r s1 => match r.dat with
  | some d1 => (fb s1).bind fun d2 s2 => Res.opt (g d1 d2) s2
  | none => .err
def datAt (s : S) (i : Nat) : Option D := match s.sl[i]? with
  | some (some r) => r.dat
  | _ => none
/-- the left one is a name: what it holds counts when the operation comes -/
def cBinV (g : D → D → Option SV) (i : Nat) (fb : Vw) : Ev := fun s => match s.sl[i]? with
  | some (some _) => (fb s).bind fun d2 s2 => match datAt s2 i with
    | some d1 => Res.opt (g d1 d2) s2
    | none => .err
  | _ => .err
theorem sat_opt {α : Type} {o : Option α} {s : S} {Q : α → S → Prop} {E : Ex → S → Prop} (h : (Res.opt o s).sat Q E) : ∃ a, o = some a ∧ Q a s := by
  cases o with
  | none => exact h.elim
  | some a => exact ⟨a, rfl, h⟩
theorem RelS.datAt {i : Nat} {d : D} (R : RelS Z H σ T s) (h : Pw.datAt s i = some d) : ∃ v, σ[i]? = some (some v) ∧ Has (T ++ List.zip σ s.sl) v d := by
  unfold Pw.datAt at h
  split at h
  · rename_i r e
    obtain ⟨v, hv, hm⟩ := R.slot e
    exact ⟨v, hv, r, hm, h⟩
  · cases h
theorem rd_binE {g : D → D → Option SV} {ta tb : TE} (ha : ∀ σ H Q, LE Z W fa σ H Q → ta σ H Q) (hb : ∀ σ H Q, LV Z W fb σ H Q → tb σ H Q) {Q : VK} (q : LE Z W (cBinE g fa fb) σ H Q) : tOp (rD Z.K g) ta tb σ H Q := by
  obtain ⟨T, s, R, q⟩ := q
  refine ha _ _ _ ⟨T, s, R, Res.sat_mono (Res.sat_bind.mp q) (fun r s1 q v H1 R1 => ?_) fun e s h => h⟩
  cases e : r.dat with
  | none => rw [e] at q; exact q.elim
  | some d1 =>
    rw [e] at q
    refine hb _ _ _ ⟨_, s1, R1, Res.sat_mono (Res.sat_bind.mp q) (fun d2 s2 q v2 H2 T' R2 hv2 => ?_) fun e s h dd H' R' => h dd H' ⟨R'.1, (R'.perm (List.Perm.swap _ _ _)).pop.2⟩⟩
    obtain ⟨r3, e3, q⟩ := sat_opt q
    refine ⟨Z, s2.src, _, d1, d2, r3, rfl, R2.2, ⟨r, by simp, e⟩, hv2, e3, fun v3 H3 R3 => q v3 H3 ⟨R2.1, ?_⟩⟩
    have R4 : Rel Z H3 s2.src ((some v3, some r3) :: ((T' ++ [(some v, some r)]) ++ (T ++ List.zip σ s2.sl))) := by simpa using R3
    exact R4.mid
theorem rd_binV {g : D → D → Option SV} {i : Nat} {tb : TE} (hb : ∀ σ H Q, LV Z W fb σ H Q → tb σ H Q) {Q : VK} (q : LE Z W (cBinV g i fb) σ H Q) : tOp (rD Z.K g) (tVar i) tb σ H Q := by
  obtain ⟨T, s, R, q⟩ := q
  unfold cBinV at q
  split at q
  · rename_i r e
    obtain ⟨v, hv, hm⟩ := R.slot e
    refine ⟨v, hv, hb _ _ _ ⟨T, s, R, Res.sat_mono (Res.sat_bind.mp q) (fun d2 s2 q v2 H2 T' R2 hv2 => ?_) fun e s h => h⟩⟩
    cases e1 : Pw.datAt s2 i with
    | none => rw [e1] at q; exact q.elim
    | some d1 =>
      rw [e1] at q
      obtain ⟨r3, e3, q⟩ := sat_opt q
      obtain ⟨v', hv', hh⟩ := R2.datAt e1
      rw [hv] at hv'; cases hv'
      refine ⟨Z, s2.src, _, d1, d2, r3, rfl, R2.2, hh, hv2, e3, fun v3 H3 R3 => q v3 H3 ⟨R2.1, ?_⟩⟩
      have R4 : Rel Z H3 s2.src ((some v3, some r3) :: (T' ++ (T ++ List.zip σ s2.sl))) := by simpa using R3
      exact R4.mid
  · exact q.elim
theorem snE_binE {op : Operator} {g : D → D → Option SV} {pos} (ho : OpR X (binaryOp op) (rD X.K g)) (ha : SnE X Z W a fa) (hb : SnV X Z W b fb) : SnE X Z W (.BinOp a op b pos) (cBinE g fa fb) := fun k => pe_imp (pe_op ho (ha k) (hb k)) fun σ H Q q => by rw [k]; exact rd_binE (fun _ _ _ q => q) (fun _ _ _ q => q) q
theorem snE_binV {op : Operator} {g : D → D → Option SV} {i : Nat} {pos} (ho : OpR X (binaryOp op) (rD X.K g)) (ha : PE X a (tVar i)) (hb : SnV X Z W b fb) : SnE X Z W (.BinOp a op b pos) (cBinV g i fb) := fun k => pe_imp (pe_op ho ha (hb k)) fun σ H Q q => by rw [k]; exact rd_binV (fun _ _ _ q => q) q
theorem snE_ixE {g : D → D → Option SV} {pos} (ho : IxR X (rD X.K g)) (ha : SnE X Z W a fa) (hb : SnV X Z W b fb) (hs : PlainIx b) : SnE X Z W (.Subscript a b pos) (cBinE g fa fb) := fun k => pe_imp (pe_ix ho (ha k) (hb k) hs) fun σ H Q q => by rw [k]; exact rd_binE (fun _ _ _ q => q) (fun _ _ _ q => q) q
theorem snE_ixV {g : D → D → Option SV} {i : Nat} {pos} (ho : IxR X (rD X.K g)) (ha : PE X a (tVar i)) (hb : SnV X Z W b fb) (hs : PlainIx b) : SnE X Z W (.Subscript a b pos) (cBinV g i fb) := fun k => pe_imp (pe_ix ho ha (hb k) hs) fun σ H Q q => by rw [k]; exact rd_binV (fun _ _ _ q => q) q
theorem snE_cmpE {op : CmpOp} {g : D → D → Option SV} {pos} (ho : OpR X (compareOp op) (rD X.K g)) (ha : SnE X Z W a fa) (hb : SnV X Z W b fb) (hm : behindInMarks op b = false) : SnE X Z W (.Compare a [op] [b] pos) (cBinE g fa fb) := fun k => pe_imp (pe_cmpR ho (ha k) (hb k) hm) fun σ H Q q => by rw [k]; exact rd_binE (fun _ _ _ q => q) (fun _ _ _ q => q) q
theorem snE_cmpV {op : CmpOp} {g : D → D → Option SV} {i : Nat} {pos} (ho : OpR X (compareOp op) (rD X.K g)) (ha : PE X a (tVar i)) (hb : SnV X Z W b fb) (hm : behindInMarks op b = false) : SnE X Z W (.Compare a [op] [b] pos) (cBinV g i fb) := fun k => pe_imp (pe_cmpR ho ha (hb k) hm) fun σ H Q q => by rw [k]; exact rd_binV (fun _ _ _ q => q) q
/-! ### tests -/
def cT (f : Ev) : Tt := fun s => (f s).bind fun r s' => match r with
  | .sh (.bool b) => .ok b s'
  | _ => .err
theorem rd_T {t : TE} (h : ∀ σ H Q, LE Z W f σ H Q → t σ H Q) {Q : Bool → Hp → Prop} (q : LT Z W (cT f) σ H Q) : t σ H fun x H' => ∃ k, x = .bl k ∧ Q k H' := by
  obtain ⟨T, s, R, q⟩ := q
  refine h _ _ _ ⟨T, s, R, Res.sat_mono (Res.sat_bind.mp q) (fun r s1 q v H1 R1 => ?_) fun e s h => h⟩
  split at q
  · rename_i b
    obtain ⟨O, r⟩ := R1.2
    have e := r.bl (v := v) (i := b) ⟨.sh (.bool b), by simp, rfl⟩
    exact ⟨b, e, q _ R1.pop⟩
  · exact q.elim
theorem snT_val (h : SnE X Z W e f) (he : ∀ whole, isTrue e X.env whole = (do let v ← whole; standAt e.pos; holding [v] (truthy v)) := by intro _; rfl) : SnT X Z W e (cT f) := fun k => pt_imp (pt_val (h k) he) fun σ H Q q => rd_T (fun _ _ _ q => q) q
theorem snT_cmpE {op : CmpOp} {g : D → D → Option SV} {pos} (ho : OpR X (compareOp op) (rD X.K g)) (ha : SnE X Z W a fa) (hb : SnV X Z W b fb) (hm : behindInMarks op b = false) : SnT X Z W (.Compare a [op] [b] pos) (cT (cBinE g fa fb)) := fun k => pt_imp (pt_cmpR ho (ha k) (hb k) hm) fun σ H Q q => rd_T (fun _ _ _ q => by rw [k]; exact rd_binE (fun _ _ _ q => q) (fun _ _ _ q => q) q) q
theorem snT_cmpV {op : CmpOp} {g : D → D → Option SV} {i : Nat} {pos} (ho : OpR X (compareOp op) (rD X.K g)) (ha : PE X a (tVar i)) (hb : SnV X Z W b fb) (hm : behindInMarks op b = false) : SnT X Z W (.Compare a [op] [b] pos) (cT (cBinV g i fb)) := fun k => pt_imp (pt_cmpR ho ha (hb k) hm) fun σ H Q q => rd_T (fun _ _ _ q => by rw [k]; exact rd_binV (fun _ _ _ q => q) q) q
def SnW (X : Cx) (Z : Zx) (W : WX) (e : Expr) (f : Tt) : Prop := X.K = Z.K → PW X e (LT Z W f)
def cAnd (f g : Tt) : Tt := fun s => (f s).bind fun b s1 => if b = true then g s1 else .ok false s1
def cOr (f g : Tt) : Tt := fun s => (f s).bind fun b s1 => if b = true then .ok true s1 else g s1
def cNot (f : Tt) : Tt := fun s => (f s).bind fun b s1 => .ok (!b) s1
theorem pw_imp {X : Cx} {e : Expr} {t t' : TT} (h : PW X e t) (i : ∀ σ H Q, t' σ H Q → t σ H Q) : PW X e t' := ⟨fun wh pins s σ H Q I q => h.run wh pins s σ H Q I (i σ H Q q)⟩
variable {g h : Tt} {rest : List Expr}
theorem snT_W (h' : SnW X Z W e g) : SnT X Z W e g := fun k => (h' k).pt
theorem snW_and1 {pos} (ha : SnT X Z W a g) : SnW X Z W (.BoolOp .And [a] pos) g := fun k => pw_and1 (ha k)
theorem snW_or1 {pos} (ha : SnT X Z W a g) : SnW X Z W (.BoolOp .Or [a] pos) g := fun k => pw_or1 (ha k)
theorem snW_and {pos} (ha : SnT X Z W a g) (hb : SnW X Z W (.BoolOp .And (b :: rest) pos) h) : SnW X Z W (.BoolOp .And (a :: b :: rest) pos) (cAnd g h) := fun k => pw_imp (pw_and (ha k) (hb k)) fun σ H Q ⟨T, s, R, q⟩ => by
  refine ⟨T, s, R, Res.sat_mono (Res.sat_bind.mp q) (fun b s1 q H1 R1 => ?_) fun e s h => h⟩
  cases b with
  | true => exact ⟨T, s1, R1, q⟩
  | false => exact q H1 R1
theorem snW_or {pos} (ha : SnT X Z W a g) (hb : SnW X Z W (.BoolOp .Or (b :: rest) pos) h) : SnW X Z W (.BoolOp .Or (a :: b :: rest) pos) (cOr g h) := fun k => pw_imp (pw_or (ha k) (hb k)) fun σ H Q ⟨T, s, R, q⟩ => by
  refine ⟨T, s, R, Res.sat_mono (Res.sat_bind.mp q) (fun b s1 q H1 R1 => ?_) fun e s h => h⟩
  cases b with
  | true => exact q H1 R1
  | false => exact ⟨T, s1, R1, q⟩
theorem snT_not {pos} (ha : SnT X Z W a g) : SnT X Z W (.UnaryOp .Not a pos) (cNot g) := fun k => pt_imp (pt_not (ha k)) fun σ H Q ⟨T, s, R, q⟩ => ⟨T, s, R, Res.sat_bind.mp q⟩
/-- a or b, a and b, not a as values -/
def cOrV (f g : Ev) : Ev := fun s => (f s).bind fun r s1 => match r with
  | .sh (.bool b) => if b = true then .ok (.sh (.bool true)) s1 else g s1
  | _ => .err
def cAndV (f g : Ev) : Ev := fun s => (f s).bind fun r s1 => match r with
  | .sh (.bool b) => if b = true then g s1 else .ok (.sh (.bool false)) s1
  | _ => .err
def cNotV (f : Ev) : Ev := fun s => (f s).bind fun r s1 => match r with
  | .sh (.bool b) => .ok (.sh (.bool (!b))) s1
  | _ => .err
variable {k1 k2 : Ev}
theorem snE_one {op pos} (h : SnE X Z W a k1) : SnE X Z W (.BoolOp op [a] pos) k1 := fun k => pe_one (h k)
theorem snE_and {pos} (ha : SnE X Z W a k1) (hb : SnE X Z W (.BoolOp .And (b :: rest) pos) k2) : SnE X Z W (.BoolOp .And (a :: b :: rest) pos) (cAndV k1 k2) := fun k => pe_imp (pe_and (ha k) (hb k)) fun σ H Q ⟨T, s, R, q⟩ => by
  refine ⟨T, s, R, Res.sat_mono (Res.sat_bind.mp q) (fun r s1 q v H1 R1 => ?_) fun e s h => h⟩
  split at q
  · rename_i c
    obtain ⟨O, r⟩ := R1.2
    have e := r.bl (v := v) (i := c) ⟨.sh (.bool c), by simp, rfl⟩
    refine ⟨c, e, ?_⟩
    cases c with
    | true => exact ⟨T, s1, R1.pop, q⟩
    | false => exact q _ _ (e ▸ R1)
  · exact q.elim
theorem snE_or {pos} (ha : SnE X Z W a k1) (hb : SnE X Z W (.BoolOp .Or (b :: rest) pos) k2) : SnE X Z W (.BoolOp .Or (a :: b :: rest) pos) (cOrV k1 k2) := fun k => pe_imp (pe_or (ha k) (hb k)) fun σ H Q ⟨T, s, R, q⟩ => by
  refine ⟨T, s, R, Res.sat_mono (Res.sat_bind.mp q) (fun r s1 q v H1 R1 => ?_) fun e s h => h⟩
  split at q
  · rename_i c
    obtain ⟨O, r⟩ := R1.2
    have e := r.bl (v := v) (i := c) ⟨.sh (.bool c), by simp, rfl⟩
    refine ⟨c, e, ?_⟩
    cases c with
    | false => exact ⟨T, s1, R1.pop, q⟩
    | true => exact q _ _ (e ▸ R1)
  · exact q.elim
theorem snE_not {pos} (ha : SnE X Z W a k1) : SnE X Z W (.UnaryOp .Not a pos) (cNotV k1) := fun k => pe_imp (pe_not (ha k)) fun σ H Q ⟨T, s, R, q⟩ => by
  refine ⟨T, s, R, Res.sat_mono (Res.sat_bind.mp q) (fun r s1 q v H1 R1 => ?_) fun e s h => h⟩
  split at q
  · rename_i c
    obtain ⟨O, r⟩ := R1.2
    have e := r.bl (v := v) (i := c) ⟨.sh (.bool c), by simp, rfl⟩
    exact ⟨c, e, q _ _ ⟨R1.1, R1.pop.2.bl _⟩⟩
  · exact q.elim
def cIf (t : Tt) (f g : Ev) : Ev := fun s => (t s).bind fun b s1 => if b = true then f s1 else g s1
theorem snE_if {c : Expr} {pos} (hc : SnT X Z W c g) (ha : SnE X Z W a k1) (hb : SnE X Z W b k2) : SnE X Z W (.IfExp c a b pos) (cIf g k1 k2) := fun k => pe_imp (pe_ifExp (hc k) (ha k) (hb k)) fun σ H Q ⟨T, s, R, q⟩ => by
  refine ⟨T, s, R, Res.sat_mono (Res.sat_bind.mp q) (fun b s1 q H1 R1 => ?_) fun e s h => h⟩
  cases b with
  | true => exact ⟨T, s1, R1, q⟩
  | false => exact ⟨T, s1, R1, q⟩
end
end Pw
set_option Elab.async false
set_option linter.all false
set_option maxRecDepth 100000
namespace Pw
open PySem PySem.Spec PyProof.Rows L2
section
variable {X : Cx} {Z : Zx} {H : Hp} {σ : L2.St} {L : List Ent} {src : Option Src} {O : Addr → Prop} {v : V} {pins : List (Addr × Obj)} {s : Shared}
/-! ### what the heap of objects reads -/
theorem vals_key {P : Program} {w : World} : ∀ {kvs : List (Key × V)} {vs : List (Key × Value)} {es : List DictEntry}, KV kvs vs → Pairs (mixKind P w) es vs →
    Paired (fun (p : Key × V) (e : DictEntry) => RelV (kV p.1) e.key ∧ RelV p.2 e.val) kvs es
  | [], _, _, .nil, .nil => .nil
  | (k, x) :: _, _, _, .cons ⟨e1, e2⟩ r, .cons h1 h2 p => by
    refine .cons ⟨?_, by rw [h2]; exact e2⟩ (vals_key r p)
    have e1 : k = _ := e1
    rw [← e1] at h1
    have h1 : keyIs k _ = true := h1
    exact relV_key h1
mutual
theorem Rp.reads (I : Inv X pins σ H s) : ∀ {v : V} {d : D} {u : Value}, Rp X.K H O v d → RelV v u → ∃ as, Reads s.heap u d as
  | _, _, _, .non, r => by cases r; exact ⟨_, .none⟩
  | _, _, _, .bl b, r => by cases r; exact ⟨_, .bool b⟩
  | _, _, _, .int i, r => by obtain ⟨t, rfl⟩ := r; exact ⟨_, .int i t⟩
  | _, _, _, .str x, r => by obtain ⟨t, rfl⟩ := r; exact ⟨_, .str x t⟩
  | _, _, _, .lst e _ q, r => by
    cases r
    obtain ⟨its, rv, ⟨o, n, ho, hc, _, hd⟩, _⟩ := I.list (SqL.of e)
    obtain ⟨as, hr⟩ := RpA.reads I q rv
    exact ⟨_, .list ho hc hd hr⟩
  | _, _, _, .tup e _ q, r => by
    cases r
    obtain ⟨its, rv, ⟨o, ho, hc, n, hd⟩, _⟩ := I.tuple (SqT.of e)
    obtain ⟨as, hr⟩ := RpA.reads I q rv
    exact ⟨_, .tuple ho hc hd hr⟩
  | _, _, _, .tupK e1 e2 e3 e4 e5 q, r => by
    cases r
    obtain ⟨its, rv, ⟨o, ho, hc, n, hd⟩, _⟩ := I.tuple (xs := _) (show SqT X.K _ _ _ from .inr ⟨_, _, _, e1, e2, e3, e4, e5⟩)
    obtain ⟨as, hr⟩ := RpA.reads I q rv
    exact ⟨_, .tuple ho hc hd hr⟩
  | _, _, _, .dic e _ q, r => by
    cases r
    obtain ⟨_, _, vs, kv, o, es, ep, ho, hx, hd, _, hp, _⟩ := dk_of I.hok e
    obtain ⟨as, bs, h1, h2⟩ := RpD.reads I q (vals_key kv hp)
    exact ⟨_, .dict ho hx.1 hd h1 h2⟩
theorem RpA.reads (I : Inv X pins σ H s) : ∀ {vs : List V} {ds : List D} {us : List Value}, RpA X.K H O vs ds → Vals vs us → ∃ as, ReadsAll s.heap us ds as
  | _, _, _, .nil, r => by cases r; exact ⟨_, .nil⟩
  | _, _, _, .cons q t, r => by
    cases r with
    | cons r1 r2 =>
      obtain ⟨as, h1⟩ := Rp.reads I q r1
      obtain ⟨bs, h2⟩ := RpA.reads I t r2
      exact ⟨_, .cons h1 h2⟩
theorem RpD.reads (I : Inv X pins σ H s) : ∀ {vs : List (Key × V)} {ds : List (D × D)} {es : List DictEntry}, RpD X.K H O vs ds → Paired (fun (p : Key × V) (e : DictEntry) => RelV (kV p.1) e.key ∧ RelV p.2 e.val) vs es →
    ∃ as bs, ReadsAll s.heap (es.map (·.key)) (ds.map (·.1)) as ∧ ReadsAll s.heap (es.map (·.val)) (ds.map (·.2)) bs
  | _, _, _, .nil, r => by cases r; exact ⟨_, _, .nil, .nil⟩
  | _, _, _, .cons (k := k) q t, r => by
    cases r with
    | cons r1 r2 =>
      obtain ⟨as, h1⟩ := Rp.reads I q r1.2
      obtain ⟨bs, cs, h2, h3⟩ := RpD.reads I t r2
      have hk : ∀ e : Value, L2.RelV (kV k) e → ∃ as, Reads s.heap e (keyD k) as := fun e r => by
        cases k with
        | inl i => obtain ⟨t, rfl⟩ := r; exact ⟨_, .int i t⟩
        | inr x => obtain ⟨t, rfl⟩ := r; exact ⟨_, .str x t⟩
      obtain ⟨ks, hk⟩ := hk _ r1.1
      exact ⟨_, _, .cons hk h2, .cons h1 h3⟩
end
theorem RelO.reads (r : RelO Z H src L O) (hK : Z.K = X.K) (I : Inv X pins σ H s) {d : D} (h : Has L v d) {u : Value} (rv : RelV v u) : ∃ as, Reads s.heap u d as := by
  rcases r.has h with z | ⟨a, e, z⟩
  · rw [hK] at z; exact z.reads I rv
  · subst e
    cases rv
    cases d <;> first | exact z.elim | skip
    · obtain ⟨xs, q, z⟩ := z
      rw [hK] at z
      obtain ⟨its, rv, ⟨o, n, ho, hc, _, hd⟩, _⟩ := I.list (SqL.of q)
      obtain ⟨as, hr⟩ := RpA.reads I z rv
      exact ⟨_, .list ho hc hd hr⟩
    · obtain ⟨xs, q, z⟩ := z
      rw [hK] at z
      obtain ⟨_, _, vs, kv, o, es, ep, ho, hx, hd, _, hp, _⟩ := dk_of I.hok q
      obtain ⟨as, bs, h1, h2⟩ := RpD.reads I z (vals_key kv hp)
      exact ⟨_, .dict ho hx.1 hd h1 h2⟩
/-! ### arithmetic -/
def dAdd : D → D → Option SV
  | .int i, .int j => some (.sh (.int (i + j)))
  | .str x, .str y => if x.length + y.length ≤ sizeLine then some (.sh (.str (x ++ y))) else none
  | .list xs, .list ys => if xs.length + ys.length ≤ sizeLine then some (.own (.list (xs ++ ys))) else none
  | .tuple xs, .tuple ys => if xs.length + ys.length ≤ sizeLine then some (.sh (.tuple (xs ++ ys))) else none
  | _, _ => none
theorem opR_add : OpR X (binaryOp .Add) (rD X.K dAdd) := by
  intro pins s σ H x y v u Q I rx ry h
  obtain ⟨Z, src, L, d1, d2, r, hK, R, h1, h2, e, q⟩ := h
  obtain ⟨O, R0⟩ := id R
  unfold dAdd at e
  split at e
  · cases e
    exact op_add pins s σ H x y v u Q I rx ry ⟨_, _, R0.int h1, R0.int h2, q _ _ (R.int _)⟩
  · split at e
    · cases e
      exact op_add_str pins s σ H x y v u Q I rx ry ⟨_, _, R0.str h1, R0.str h2, by assumption, q _ _ (R.str _)⟩
    · cases e
  · split at e
    · rename_i hz
      cases e
      obtain ⟨a, xs, e1, ha, ra⟩ := R0.list h1
      obtain ⟨b, ys, e2, hb, rb⟩ := R0.list h2
      refine op_cat pins s σ H x y v u Q I rx ry ⟨a, b, xs, ys, e1, e2, ha, hb, by rw [ra.length, rb.length]; exact hz, fun p hp => q _ _ (R.newOwn hp fun O' R' => ?_)⟩
      obtain ⟨a', xs', e1', ha', ra'⟩ := R'.list h1
      obtain ⟨b', ys', e2', hb', rb'⟩ := R'.list h2
      rw [e1] at e1'; cases e1'; rw [ha] at ha'; cases ha'
      rw [e2] at e2'; cases e2'; rw [hb] at hb'; cases hb'
      exact ⟨_, upd_same, (ra'.append rb').keep (fun b x e _ => by rw [upd_ne (ne_of_none e hp)]; exact e) fun b z => Or.elim z .inl fun z => .inr (by rw [z]; exact hp)⟩
    · cases e
  · split at e
    · rename_i hz
      cases e
      obtain ⟨a, xs, e1, ha, ra⟩ := R0.tuple h1
      obtain ⟨b, ys, e2, hb, rb⟩ := R0.tuple h2
      rw [hK] at ha hb
      refine op_catA pins s σ H x y v u Q I rx ry ⟨a, b, xs, ys, e1, e2, ha, hb, by rw [ra.length, rb.length]; exact hz, fun z => ?_, fun z z' => ?_, fun _ _ p hp => q _ _ (R.newTup hp fun O' R' => ?_)⟩
      · subst z
        cases ra
        rw [e2] at h2
        refine q _ _ ⟨O, R0.push mild_sh fun s q => ⟨_, rfl, ?_⟩⟩
        cases q
        exact (R0.has h2).elim id fun ⟨_, _, z⟩ => z.elim
      · subst z'
        cases rb
        rw [List.append_nil] at q
        rw [e1] at h1
        refine q _ _ ⟨O, R0.push mild_sh fun s q => ⟨_, rfl, ?_⟩⟩
        cases q
        exact (R0.has h1).elim id fun ⟨_, _, z⟩ => z.elim
      · obtain ⟨a', xs', e1', ha', ra'⟩ := R'.tuple h1
        obtain ⟨b', ys', e2', hb', rb'⟩ := R'.tuple h2
        rw [hK] at ha' hb'
        rw [e1] at e1'; cases e1'; cases I.tuple_inj ha ha'
        rw [e2] at e2'; cases e2'; cases I.tuple_inj hb hb'
        exact ra'.append rb'
    · cases e
  · cases e
def dSub : D → D → Option SV
  | .int i, .int j => some (.sh (.int (i - j)))
  | _, _ => none
theorem opR_sub : OpR X (binaryOp .Sub) (rD X.K dSub) := by
  intro pins s σ H x y v u Q I rx ry h
  obtain ⟨Z, src, L, d1, d2, r, hK, R, h1, h2, e, q⟩ := h
  obtain ⟨O, R0⟩ := id R
  unfold dSub at e
  split at e
  · cases e
    exact op_sub pins s σ H x y v u Q I rx ry ⟨_, _, R0.int h1, R0.int h2, q _ _ (R.int _)⟩
  · cases e
def smallI (i : Int) : Bool := decide (-(2 ^ 64) < i) && decide (i < 2 ^ 64)
def mulFits (i j : Int) : Bool := smallI j || smallI i || decide ((Builtin.Int.intBits i : Int) + (Builtin.Int.intBits j : Int) ≤ 134217728)
def dMul : D → D → Option SV
  | .int i, .int j => if mulFits i j = true then some (.sh (.int (i * j))) else none
  | .list xs, .int k => if -(2 ^ 63) ≤ k ∧ k < 2 ^ 63 ∧ xs.length * k.toNat ≤ sizeLine then some (.own (.list (List.replicate k.toNat xs).flatten)) else none
  | .tuple xs, .int k => if xs ≠ [] ∧ 2 ≤ k ∧ k ≤ 1000 ∧ xs.length ≤ 1000 then some (.sh (.tuple (List.replicate k.toNat xs).flatten)) else none
  | .str x, .int k => if 0 ≤ k ∧ k ≤ 100000 ∧ x.length ≤ 100 then some (.sh (.str (Txt.mul x k))) else none
  | _, _ => none
theorem mulOk_of {x : Str} {n : Int} (h0 : 0 ≤ n) (h1 : n ≤ 100000) (h2 : x.length ≤ 100) : MulOk x n := by
  refine ⟨by simp; omega, fun a b => ?_, fun a b => ?_⟩
  · have h3 : (x.length : Int) ≤ 100 := by exact_mod_cast h2
    have : (100 : Int) ≤ (2 ^ 63 - 1) / n := by
      rw [Int.le_ediv_iff_mul_le (by omega)]
      omega
    omega
  · have : x.length * n.toNat ≤ 100 * 100000 := Nat.mul_le_mul h2 (by omega)
    unfold Builtin.Str.tooLong
    rw [sizeLine_eq]
    simp
    omega
theorem opR_mul : OpR X (binaryOp .Mult) (rD X.K dMul) := by
  intro pins s σ H x y v u Q I rx ry h
  obtain ⟨Z, src, L, d1, d2, r, hK, R, h1, h2, e, q⟩ := h
  obtain ⟨O, R0⟩ := id R
  unfold dMul at e
  split at e
  · split at e
    · rename_i hz
      cases e
      unfold mulFits smallI at hz
      simp only [Bool.or_eq_true, Bool.and_eq_true, decide_eq_true_eq] at hz
      rcases hz with (hz | hz) | hz
      · exact op_mul pins s σ H x y v u Q I rx ry ⟨_, _, R0.int h1, R0.int h2, .inr hz, q _ _ (R.int _)⟩
      · exact op_mul pins s σ H x y v u Q I rx ry ⟨_, _, R0.int h1, R0.int h2, .inl hz, q _ _ (R.int _)⟩
      · exact op_mulX pins s σ H x y v u Q I rx ry ⟨_, _, R0.int h1, R0.int h2, hz, q _ _ (R.int _)⟩
    · cases e
  · split at e
    · rename_i hz
      cases e
      obtain ⟨a, xs, e1, ha, ra⟩ := R0.list h1
      refine op_rep pins s σ H x y v u Q I rx ry ⟨a, _, xs, e1, R0.int h2, ha, hz.1, hz.2.1, by rw [ra.length]; exact hz.2.2, fun p hp => q _ _ (R.newOwn hp fun O' R' => ?_)⟩
      obtain ⟨a', xs', e1', ha', ra'⟩ := R'.list h1
      rw [e1] at e1'; cases e1'; rw [ha] at ha'; cases ha'
      exact ⟨_, upd_same, (ra'.rep _).keep (fun b x e _ => by rw [upd_ne (ne_of_none e hp)]; exact e) fun b z => Or.elim z .inl fun z => .inr (by rw [z]; exact hp)⟩
    · cases e
  · split at e
    · rename_i hz
      cases e
      obtain ⟨a, xs, e1, ha, ra⟩ := R0.tuple h1
      have ha' := ha
      rw [hK] at ha
      refine op_repT pins s σ H x y v u Q I rx ry ⟨a, _, xs, e1, R0.int h2, ha, fun z => hz.1 ?_, hz.2.1, hz.2.2.1, by rw [ra.length]; exact hz.2.2.2, fun p hp => q _ _ (R.newTup hp fun O' R' => ?_)⟩
      · subst z; cases ra; rfl
      · obtain ⟨a', xs', e1', ha', ra'⟩ := R'.tuple h1
        rw [hK] at ha'
        rw [e1] at e1'; cases e1'; cases I.tuple_inj ha ha'
        exact ra'.rep _
    · cases e
  · split at e
    · rename_i hz
      cases e
      have e1 := R0.str h1
      have e2 := R0.int h2
      subst e1 e2
      obtain ⟨t, rfl⟩ := rx
      obtain ⟨t', rfl⟩ := ry
      exact SB.mul (mulOk_of hz.1 hz.2.1 hz.2.2) fun t k => ⟨.str _, H, I.tok _, ⟨_, rfl⟩, q _ _ (R.str _)⟩
    · cases e
  · cases e
def dFdiv : D → D → Option SV
  | .int i, .int j => if 0 < j ∧ j.natAbs.log2 < 9000 then some (.sh (.int (i / j))) else none
  | _, _ => none
theorem opR_fdiv : OpR X (binaryOp .FloorDiv) (rD X.K dFdiv) := by
  intro pins s σ H x y v u Q I rx ry h
  obtain ⟨Z, src, L, d1, d2, r, hK, R, h1, h2, e, q⟩ := h
  obtain ⟨O, R0⟩ := id R
  unfold dFdiv at e
  split at e
  · split at e
    · rename_i hz
      cases e
      exact op_fdivW pins s σ H x y v u Q I rx ry ⟨_, _, R0.int h1, R0.int h2, hz, q _ _ (R.int _)⟩
    · cases e
  · cases e
def dMod : D → D → Option SV
  | .int i, .int j => if 0 < j then some (.sh (.int (i % j))) else none
  | _, _ => none
theorem opR_mod : OpR X (binaryOp .Mod) (rD X.K dMod) := by
  intro pins s σ H x y v u Q I rx ry h
  obtain ⟨Z, src, L, d1, d2, r, hK, R, h1, h2, e, q⟩ := h
  obtain ⟨O, R0⟩ := id R
  unfold dMod at e
  split at e
  · split at e
    · rename_i hz
      cases e
      exact op_mod pins s σ H x y v u Q I rx ry ⟨_, _, R0.int h1, R0.int h2, hz, q _ _ (R.int _)⟩
    · cases e
  · cases e
def dPow : D → D → Option SV
  | .int i, .int j => if 0 ≤ j ∧ j ≤ 100000 ∧ i.natAbs < 2 ^ 64 then some (.sh (.int (i ^ j.toNat))) else none
  | _, _ => none
theorem opR_pow : OpR X (binaryOp .Pow) (rD X.K dPow) := by
  intro pins s σ H x y v u Q I rx ry h
  obtain ⟨Z, src, L, d1, d2, r, hK, R, h1, h2, e, q⟩ := h
  obtain ⟨O, R0⟩ := id R
  unfold dPow at e
  split at e
  · split at e
    · rename_i hz
      cases e
      exact op_pow pins s σ H x y v u Q I rx ry ⟨_, _, R0.int h1, R0.int h2, ⟨hz.1, by omega, hz.2.2⟩, q _ _ (R.int _)⟩
    · cases e
  · cases e
/-! ### comparisons -/
def eqOk (a b : D) : Bool := a.plain && b.plain && decide (a.depth ≤ 40)
def dEq (a b : D) : Option SV := if eqOk a b = true then some (.sh (.bool (PyData.eqv a b))) else none
def dNe (a b : D) : Option SV := if eqOk a b = true then some (.sh (.bool (!PyData.eqv a b))) else none
theorem opR_eq (hu : X.A.units + 64 < cLine) : OpR X (compareOp .Eq) (rD X.K dEq) := by
  intro pins s σ H x y v u Q I rx ry h
  obtain ⟨Z, src, L, d1, d2, r, hK, R, h1, h2, e, q⟩ := h
  obtain ⟨O, R0⟩ := id R
  unfold dEq at e
  split at e
  · rename_i hz
    cases e
    simp only [eqOk, Bool.and_eq_true, decide_eq_true_eq] at hz
    obtain ⟨as, r1⟩ := R0.reads hK I h1 rx
    obtain ⟨bs, r2⟩ := R0.reads hK I h2 ry
    have hm : min d1.depth d2.depth ≤ d1.depth := Nat.min_le_left _ _
    exact SeqAt.eq_plain r1 r2 hz.1.1 hz.1.2 (by omega) ⟨.bl _, H, I, rfl, q _ _ (R.bl _)⟩
  · cases e
theorem opR_ne (hu : X.A.units + 64 < cLine) : OpR X (compareOp .NotEq) (rD X.K dNe) := by
  intro pins s σ H x y v u Q I rx ry h
  obtain ⟨Z, src, L, d1, d2, r, hK, R, h1, h2, e, q⟩ := h
  obtain ⟨O, R0⟩ := id R
  unfold dNe at e
  split at e
  · rename_i hz
    cases e
    simp only [eqOk, Bool.and_eq_true, decide_eq_true_eq] at hz
    obtain ⟨as, r1⟩ := R0.reads hK I h1 rx
    obtain ⟨bs, r2⟩ := R0.reads hK I h2 ry
    have hm : min d1.depth d2.depth ≤ d1.depth := Nat.min_le_left _ _
    exact SeqAt.ne_plain r1 r2 hz.1.1 hz.1.2 (by omega) ⟨.bl _, H, I, rfl, q _ _ (R.bl _)⟩
  · cases e
/-- an order of ints, of texts -/
def dOrd (p : Int → Int → Bool) (t : Str → Str → Bool) : D → D → Option SV
  | .int i, .int j => some (.sh (.bool (p i j)))
  | .str i, .str j => some (.sh (.bool (t i j)))
  | _, _ => none
def strLt (a b : Str) : Bool := decide (a.cps.toList < b.cps.toList)
theorem opR_ord {op : CmpOp} {p : Int → Int → Bool} {t : Str → Str → Bool} (hi : OpR X (compareOp op) (rI0 fun i j => .bl (p i j))) (ht : OpR X (compareOp op) (fun x y H Q => ∃ i j, x = .str i ∧ y = .str j ∧ Q (.bl (t i j)) H)) : OpR X (compareOp op) (rD X.K (dOrd p t)) := by
  intro pins s σ H x y v u Q I rx ry h
  obtain ⟨Z, src, L, d1, d2, r, hK, R, h1, h2, e, q⟩ := h
  obtain ⟨O, R0⟩ := id R
  unfold dOrd at e
  split at e
  · cases e
    exact hi pins s σ H x y v u Q I rx ry ⟨_, _, R0.int h1, R0.int h2, q _ _ (R.bl _)⟩
  · cases e
    exact ht pins s σ H x y v u Q I rx ry ⟨_, _, R0.str h1, R0.str h2, q _ _ (R.bl _)⟩
  · cases e
abbrev dLt := dOrd (fun i j => decide (i < j)) strLt
theorem opR_lt : OpR X (compareOp .Lt) (rD X.K dLt) := opR_ord op_lt op_lt_str
def dOrdI (p : Int → Int → Bool) : D → D → Option SV
  | .int i, .int j => some (.sh (.bool (p i j)))
  | _, _ => none
theorem opR_ordI {op : CmpOp} {p : Int → Int → Bool} (hi : OpR X (compareOp op) (rI0 fun i j => .bl (p i j))) : OpR X (compareOp op) (rD X.K (dOrdI p)) := by
  intro pins s σ H x y v u Q I rx ry h
  obtain ⟨Z, src, L, d1, d2, r, hK, R, h1, h2, e, q⟩ := h
  obtain ⟨O, R0⟩ := id R
  unfold dOrdI at e
  split at e
  · cases e
    exact hi pins s σ H x y v u Q I rx ry ⟨_, _, R0.int h1, R0.int h2, q _ _ (R.bl _)⟩
  · cases e
abbrev dLe := dOrdI fun i j => decide (i ≤ j)
abbrev dGt := dOrdI fun i j => decide (j < i)
abbrev dGe := dOrdI fun i j => decide (j ≤ i)
theorem opR_le : OpR X (compareOp .LtE) (rD X.K dLe) := opR_ordI op_le
theorem opR_gt : OpR X (compareOp .Gt) (rD X.K dGt) := opR_ordI op_gt
theorem opR_ge : OpR X (compareOp .GtE) (rD X.K dGe) := opR_ordI op_ge
/-! ### dicts -/
def keyOf : D → Option Key
  | .int i => some (.inl i)
  | .str x => some (.inr x)
  | _ => none
theorem keyOf_keyD (k : Key) : keyOf (keyD k) = some k := by cases k <;> rfl
def dLook : List (D × D) → Key → Option D
  | [], _ => none
  | p :: r, k => if keyOf p.1 = some k then some p.2 else dLook r k
def dHas (ds : List (D × D)) (k : Key) : Bool := (dLook ds k).isSome
def dPut (ds : List (D × D)) (k : Key) (x : D) : List (D × D) := if dHas ds k = true then ds.map fun p => if keyOf p.1 = some k then (p.1, x) else p else ds ++ [(keyD k, x)]
theorem RpD.look : ∀ {kvs : List (Key × V)} {ds : List (D × D)} {K}, RpD K H O kvs ds → ∀ k, match valV kvs k, dLook ds k with
    | some v, some d => Rp K H O v d
    | none, none => True
    | _, _ => False
  | _, _, _, .nil, k => trivial
  | _, _, _, .cons (k := j) (v := v) (d := d) (vs := vs) (ds := ds) r t, k => by
    have ih := RpD.look t k
    unfold dLook
    simp only [keyOf_keyD]
    by_cases e : j = k
    · rw [valV_pos e, if_pos (by rw [e])]; exact r
    · rw [valV_neg e, if_neg (fun z => e (Option.some.inj z))]; exact ih
theorem RpD.has {kvs : List (Key × V)} {ds : List (D × D)} {K} (r : RpD K H O kvs ds) (k : Key) : (valV kvs k).isSome = dHas ds k := by
  have q := r.look k
  unfold dHas
  cases e1 : valV kvs k <;> cases e2 : dLook ds k <;> rw [e1, e2] at q <;> first | rfl | exact q.elim
theorem RpD.append : ∀ {kvs ls : List (Key × V)} {ds es : List (D × D)} {K}, RpD K H O kvs ds → RpD K H O ls es → RpD K H O (kvs ++ ls) (ds ++ es)
  | _, _, _, _, _, .nil, s => s
  | _, _, _, _, _, .cons r t, s => .cons r (RpD.append t s)
theorem RpD.repl : ∀ {kvs : List (Key × V)} {ds : List (D × D)} {K}, RpD K H O kvs ds → ∀ (k : Key) {v : V} {d : D}, Rp K H O v d → RpD K H O (kvs.map fun kv => if kv.1 = k then (kv.1, v) else kv) (ds.map fun p => if keyOf p.1 = some k then (p.1, d) else p)
  | _, _, _, .nil, _, _, _, _ => .nil
  | _, _, _, .cons (k := j) r t, k, _, _, q => by
    have ih := RpD.repl t k q
    simp only [List.map_cons, keyOf_keyD]
    by_cases z : j = k
    · rw [if_pos z, if_pos (by rw [z])]; exact .cons q ih
    · rw [if_neg z, if_neg (fun x => z (Option.some.inj x))]; exact .cons r ih
theorem RpD.put {kvs : List (Key × V)} {ds : List (D × D)} {K} (r : RpD K H O kvs ds) (k : Key) {v : V} {d : D} (q : Rp K H O v d) : RpD K H O (putK kvs k v) (dPut ds k d) := by
  unfold putK dPut
  rw [← r.has k, valV_any]
  split
  · exact r.repl k q
  · exact r.append (.cons q .nil)
/-! ### in -/
def inOk (d : D) (xs : List D) : Bool := PyData.plainAll xs && d.plain && decide (d.depth ≤ 40)
def dIn (neg : Bool) : D → D → Option SV
  | d, .list xs => if inOk d xs = true then some (.sh (.bool (xor neg (xs.any fun y => PyData.eqv y d)))) else none
  | d, .tuple xs => if inOk d xs = true then some (.sh (.bool (xor neg (xs.any fun y => PyData.eqv y d)))) else none
  | d, .dict ds => (keyOf d).map fun k => .sh (.bool (xor neg (dHas ds k)))
  | .str x, .str y => some (.sh (.bool (xor neg (!(Builtin.Str.occurrences y x 0 y.length 1).isEmpty))))
  | _, _ => none
theorem kV_of {k : Key} {d : D} {K} (h : keyOf d = some k) (r : Rp K H O v d) : v = kV k := by
  cases d <;> simp only [keyOf] at h <;> first | (cases h; done) | skip
  · cases h; exact r.int_inv
  · cases h; exact r.str_inv
theorem keyD_of {k : Key} {d : D} (h : keyOf d = some k) : d = keyD k := by
  cases d <;> simp only [keyOf] at h <;> first | (cases h; done) | (cases h; rfl)
theorem RelO.key (r : RelO Z H src L O) {d : D} {k : Key} (h : Has L v d) (e : keyOf d = some k) : v = kV k := by
  rcases r.has h with z | ⟨a, _, z⟩
  · exact kV_of e z
  · cases d <;> first | exact z.elim | (simp [keyOf] at e)
theorem opR_in (hu : X.A.units + 64 < cLine) : OpR X (compareOp .In) (rD X.K (dIn false)) := by
  intro pins s σ H x y v u Q I rx ry h
  obtain ⟨Z, src, L, d1, d2, r, hK, R, h1, h2, e, q⟩ := h
  obtain ⟨O, R0⟩ := id R
  have fin : ∀ b, some (SV.sh (.bool b)) = some r → ∀ k', b = k' → EP X pins σ Q (.bool k') s := fun b e k' e' => by
    cases e; subst e'; exact ⟨.bl b, H, I, rfl, q _ _ (R.bl _)⟩
  unfold dIn at e
  split at e
  · split at e
    · rename_i hz
      simp only [inOk, Bool.and_eq_true, decide_eq_true_eq] at hz
      obtain ⟨as, r1⟩ := R0.reads hK I h1 rx
      obtain ⟨bs, r2⟩ := R0.reads hK I h2 ry
      refine SeqAt.in_list_data r2 r1 hz.1.1 hz.1.2 ?_ (fin _ e _ (Bool.false_xor _))
      have hm : ∀ n, min n d1.depth ≤ d1.depth := fun n => Nat.min_le_right _ _
      exact Nat.lt_of_le_of_lt (Nat.add_le_add_left (hm _) _) (by omega)
    · cases e
  · split at e
    · rename_i hz
      simp only [inOk, Bool.and_eq_true, decide_eq_true_eq] at hz
      obtain ⟨as, r1⟩ := R0.reads hK I h1 rx
      obtain ⟨bs, r2⟩ := R0.reads hK I h2 ry
      refine SeqAt.in_tuple_data r2 r1 hz.1.1 hz.1.2 ?_ (fin _ e _ (Bool.false_xor _))
      have hm : ∀ n, min n d1.depth ≤ d1.depth := fun n => Nat.min_le_right _ _
      exact Nat.lt_of_le_of_lt (Nat.add_le_add_left (hm _) _) (by omega)
    · cases e
  · obtain ⟨k, e1, e2⟩ := Option.map_eq_some_iff.mp e
    obtain ⟨a, kvs, e3, ha, ra⟩ := R0.dict h2
    have e4 := R0.key h1 e1
    subst e3 e4
    cases ry
    exact d_in (by omega) I (DGet.k (k := k) ha) rx fun s' I' => by
      rw [ra.has k]
      refine ⟨.bl _, H, I', rfl, ?_⟩
      rw [← e2] at q
      simpa using q _ _ (R.bl _)
  · have e1 := R0.str h1
    have e2 := R0.str h2
    cases e
    exact op_in_str pins s σ H x y v u Q I rx ry ⟨_, _, e1, e2, by simpa using q _ _ (R.bl _)⟩
  · cases e
theorem opR_notIn (hu : X.A.units + 64 < cLine) : OpR X (compareOp .NotIn) (rD X.K (dIn true)) := by
  intro pins s σ H x y v u Q I rx ry h
  obtain ⟨Z, src, L, d1, d2, r, hK, R, h1, h2, e, q⟩ := h
  obtain ⟨O, R0⟩ := id R
  have fin : ∀ b, some (SV.sh (.bool b)) = some r → ∀ k', b = k' → EP X pins σ Q (.bool k') s := fun b e k' e' => by
    cases e; subst e'; exact ⟨.bl b, H, I, rfl, q _ _ (R.bl _)⟩
  unfold dIn at e
  split at e
  · split at e
    · rename_i hz
      simp only [inOk, Bool.and_eq_true, decide_eq_true_eq] at hz
      obtain ⟨as, r1⟩ := R0.reads hK I h1 rx
      obtain ⟨bs, r2⟩ := R0.reads hK I h2 ry
      refine SeqAt.notIn_list_data r2 r1 hz.1.1 hz.1.2 ?_ (fin _ e _ (Bool.true_xor _))
      have hm : ∀ n, min n d1.depth ≤ d1.depth := fun n => Nat.min_le_right _ _
      exact Nat.lt_of_le_of_lt (Nat.add_le_add_left (hm _) _) (by omega)
    · cases e
  · split at e
    · rename_i hz
      simp only [inOk, Bool.and_eq_true, decide_eq_true_eq] at hz
      obtain ⟨as, r1⟩ := R0.reads hK I h1 rx
      obtain ⟨bs, r2⟩ := R0.reads hK I h2 ry
      refine SeqAt.notIn_tuple_data r2 r1 hz.1.1 hz.1.2 ?_ (fin _ e _ (Bool.true_xor _))
      have hm : ∀ n, min n d1.depth ≤ d1.depth := fun n => Nat.min_le_right _ _
      exact Nat.lt_of_le_of_lt (Nat.add_le_add_left (hm _) _) (by omega)
    · cases e
  · obtain ⟨k, e1, e2⟩ := Option.map_eq_some_iff.mp e
    obtain ⟨a, kvs, e3, ha, ra⟩ := R0.dict h2
    have e4 := R0.key h1 e1
    subst e3 e4
    cases ry
    exact d_notIn (by omega) I (DGet.k (k := k) ha) rx fun s' I' => by
      rw [ra.has k]
      refine ⟨.bl _, H, I', rfl, ?_⟩
      rw [← e2] at q
      simpa using q _ _ (R.bl _)
  · have e1 := R0.str h1
    have e2 := R0.str h2
    cases e
    exact op_notin_str pins s σ H x y v u Q I rx ry ⟨_, _, e1, e2, by simpa using q _ _ (R.bl _)⟩
  · cases e
/-! ### is -/
def isNone : D → Bool
  | .none => true
  | _ => false
def dIs (neg : Bool) : D → D → Option SV
  | d, .none => some (.sh (.bool (xor neg (isNone d))))
  | .bool a, .bool b => some (.sh (.bool (xor neg (decide (a = b)))))
  | _, _ => none
theorem RelO.isNone (r : RelO Z H src L O) {d : D} (h : Has L v d) : decide (v = .non) = Pw.isNone d := by
  rcases r.has h with z | ⟨a, e, z⟩
  · cases z <;> rfl
  · subst e
    cases d <;> first | exact z.elim | rfl
theorem opR_is : OpR X (compareOp .Is) (rD X.K (dIs false)) := by
  intro pins s σ H x y v u Q I rx ry h
  obtain ⟨Z, src, L, d1, d2, r, hK, R, h1, h2, e, q⟩ := h
  obtain ⟨O, R0⟩ := id R
  unfold dIs at e
  split at e
  · cases e
    exact op_isN pins s σ H x y v u Q I rx ry ⟨R0.non h2, by rw [R0.isNone h1]; simpa using q _ _ (R.bl _)⟩
  · cases e
    exact op_isBl pins s σ H x y v u Q I rx ry ⟨_, _, R0.bl h1, R0.bl h2, by simpa using q _ _ (R.bl _)⟩
  · cases e
theorem opR_isNot : OpR X (compareOp .IsNot) (rD X.K (dIs true)) := by
  intro pins s σ H x y v u Q I rx ry h
  obtain ⟨Z, src, L, d1, d2, r, hK, R, h1, h2, e, q⟩ := h
  obtain ⟨O, R0⟩ := id R
  unfold dIs at e
  split at e
  · cases e
    exact op_notN pins s σ H x y v u Q I rx ry ⟨R0.non h2, by rw [R0.isNone h1]; simpa using q _ _ (R.bl _)⟩
  · cases e
    exact op_notBl pins s σ H x y v u Q I rx ry ⟨_, _, R0.bl h1, R0.bl h2, by simpa using q _ _ (R.bl _)⟩
  · cases e
/-! ### items -/
theorem subTail {prog : Program} {w : World} {A : Around} {E : Value → Shared → Prop} {s : Shared} {value slice : Expr} {o i : Value} {T id : String} {Q : Value → Shared → Prop} (hT : s.TypeIs o T) (hl : typeLookup (.type T) "__getitem__" = pure (some (.builtin id))) (h : wpAny (model prog w) A (getItem o i) Q E s) (hs : subscripted slice false o i = operate [o, i] (getItem o i)) : wpAny (model prog w) A (subscriptTail value slice o i) Q E s := by
  have fin : wpAny (model prog w) A (subscripted slice false o i) (fun r t => wpAny (model prog w) A (letTemporaryGo value o r >>= fun _ => pure r) Q E t) E s :=
    hs ▸ wpAny_operating (wpAny_mono h (fun r t z => wpAny_bind (wpAny_letTemporaryGo (wpAny_pure z))) fun _ _ x => x)
  unfold subscriptTail
  refine wpAny_bind ?_
  rw [getitemInPython_of_ne hT.not_modules]; refine wpAny_bind (wpAny_specialOf hT hl ?_)
  first | exact wpAny_pure (wpAny_bind fin) | exact wpAny_bind (wpAny_pure (wpAny_bind fin)) | exact wpAny_bind fin
def dIx : D → D → Option SV
  | .list xs, .int i => (atI xs i).map .sh
  | .tuple xs, .int i => (atI xs i).map .sh
  | .str z, .int i => if z.length ≤ sizeLine then (atI z.cps.toList i).map fun c => .sh (.str ⟨#[c]⟩) else none
  | .dict ds, d => (keyOf d).bind fun k => (dLook ds k).map .sh
  | _, _ => none
theorem RpA.atI {K} {vs : List V} {ds : List D} (r : RpA K H O vs ds) {i : Int} {d : D} (h : L2.atI ds i = some d) : ∃ x, L2.atI vs i = some x ∧ Rp K H O x d := by
  unfold L2.atI at *
  rw [r.length]
  cases e : ixN ds.length i with
  | none => rw [e] at h; cases h
  | some j =>
    rw [e] at h
    exact r.get h
theorem RelO.pushSh (r : RelO Z H src L O) {d : D} (h : Rp Z.K H O v d) : Rel Z H src ((some v, some (.sh d)) :: L) := ⟨O, r.push mild_sh fun s q => ⟨_, rfl, by cases q; exact h⟩⟩
theorem ixR (hu : X.A.units + 64 < cLine) : IxR X (rD X.K dIx) := by
  intro value slice pins s σ H x y v u Q I rx ry h hs
  obtain ⟨Z, src, L, d1, d2, r, hK, R, h1, h2, e, q⟩ := h
  obtain ⟨O, R0⟩ := id R
  unfold dIx at e
  split at e
  · obtain ⟨d, e1, e2⟩ := Option.map_eq_some_iff.mp e
    subst e2
    obtain ⟨a, xs, e3, ha, ra⟩ := R0.list h1
    obtain ⟨w, e4, rw'⟩ := ra.atI e1
    exact ix_list value slice pins s σ H x y v u Q I rx ry ⟨a, xs, _, w, e3, R0.int h2, SqL.of ha, e4, q _ _ (R0.pushSh rw')⟩ hs
  · obtain ⟨d, e1, e2⟩ := Option.map_eq_some_iff.mp e
    subst e2
    obtain ⟨a, xs, e3, ha, ra⟩ := R0.tuple h1
    obtain ⟨w, e4, rw'⟩ := ra.atI e1
    exact ix_tup value slice pins s σ H x y v u Q I rx ry ⟨a, xs, _, w, e3, R0.int h2, hK ▸ ha, e4, q _ _ (R0.pushSh rw')⟩ hs
  · split at e
    · obtain ⟨c, e1, e2⟩ := Option.map_eq_some_iff.mp e
      subst e2
      exact ix_str value slice pins s σ H x y v u Q I rx ry ⟨_, _, c, R0.str h1, R0.int h2, by assumption, e1, q _ _ (R.str _)⟩ hs
    · cases e
  · obtain ⟨k, e1, e2⟩ := Option.bind_eq_some_iff.mp e
    obtain ⟨d, e3, e4⟩ := Option.map_eq_some_iff.mp e2
    subst e4
    obtain ⟨a, kvs, e5, ha, ra⟩ := R0.dict h1
    have e6 := R0.key h2 e1
    subst e5 e6
    cases rx
    have z := ra.look k
    rw [e3] at z
    cases e7 : valV kvs k with
    | none => rw [e7] at z; exact z.elim
    | some w =>
      rw [e7] at z
      have g : DGet H a (kV k) (some w) := e7 ▸ DGet.k (k := k) ha
      refine subTail (dict_typeIs I g) PySem.F.slot_dict_getitem.lookup (d_getItem (by omega) I g ry fun w' s3 I3 rw' => ⟨w, H, I3, rw', q _ _ (R0.pushSh z)⟩) hs
  · cases e
end
end Pw
set_option Elab.async false
set_option linter.all false
set_option maxRecDepth 100000
namespace Pw
open PySem PySem.Spec PyProof.Rows L2
/-! ### calls of built-ins by values -/
def rC (K : PySem.W.Frag) (g : D → Option SV) : List V → Hp → VK → Prop := fun xs H Q => ∃ Z src L d r x, xs = [x] ∧ Z.K = K ∧ Rel Z H src L ∧ Has L x d ∧ g d = some r ∧ ∀ v H', Rel Z H' src ((some v, some r) :: L) → Q v H'
def cCall1 (g : D → Option SV) (f : Vw) : Ev := fun s => (f s).bind fun d s1 => Res.opt (g d) s1
section
variable {X : Cx} {Z : Zx} {W : WX} {e a b : Expr} {f fa : Ev} {fb : Vw} {H : Hp} {σ : L2.St} {T T' : List Ent} {s : S} {L : List Ent} {src : Option Src} {O : Addr → Prop} {v : V}
theorem rd_call1 {g : D → Option SV} {Q : VK} (q : LE Z W (cCall1 g fb) σ H Q) : LV Z W fb σ H fun x H1 => rC Z.K g [x] H1 Q := by
  obtain ⟨T, s, R, q⟩ := q
  refine ⟨T, s, R, Res.sat_mono (Res.sat_bind.mp q) (fun d s1 q v H1 T' R1 hv => ?_) fun e s h => h⟩
  obtain ⟨r, e, q⟩ := sat_opt q
  refine ⟨Z, s1.src, _, d, r, v, rfl, rfl, R1.2, hv, e, fun w H2 R2 => q _ _ ⟨R1.1, ?_⟩⟩
  have R3 : Rel Z H2 s1.src ((some w, some r) :: (T' ++ (T ++ List.zip σ s1.sl))) := by simpa using R2
  exact R3.mid
theorem snE_callB {id : String} {x : Str} {p pos : Pos} {g : D → Option SV} (hc : CallR X (.builtin id) (rC X.K g)) (hg : Gl X x) (hm : X.mg x = none) (hv : bootBuiltins x = some (.builtin id)) (ha : SnV X Z W e fb) (hn : x ≠ "__name__" := by decide) (hdb : (x == ("__debug__" : Str)) = false := by decide)
    (he : starEach (e :: []) X.env = (false, eval e X.env) :: starEach [] X.env := by rfl) (hpl : (backTo pos (starEach [] X.env)).any (·.1) = false := by rfl) : SnE X Z W (.Call (.Name x p) [e] [] pos) (cCall1 g fb) := fun k =>
  pe_imp (pe_callB hc hg hm hv (pa_cons (ha k) pa_nil he) hn hdb he hpl) fun σ H Q q => by
    have q := rd_call1 q
    rw [← k] at q
    exact q
theorem snE_callTy {ty : String} {x : Str} {p pos : Pos} {g : D → Option SV} (hc : CallR X (.type ty) (rC X.K g)) (hg : Gl X x) (hm : X.mg x = none) (hv : bootBuiltins x = some (.type ty)) (ha : SnV X Z W e fb) (hn : x ≠ "__name__" := by decide) (hdb : (x == ("__debug__" : Str)) = false := by decide)
    (he : starEach (e :: []) X.env = (false, eval e X.env) :: starEach [] X.env := by rfl) (hpl : (backTo pos (starEach [] X.env)).any (·.1) = false := by rfl) : SnE X Z W (.Call (.Name x p) [e] [] pos) (cCall1 g fb) := fun k =>
  pe_imp (pe_callTy hc hg hm hv (pa_cons (ha k) pa_nil he) hn hdb he hpl) fun σ H Q q => by
    have q := rd_call1 q
    rw [← k] at q
    exact q
end
section
variable {X : Cx} {Z : Zx} {H : Hp} {σ : L2.St} {L : List Ent} {src : Option Src} {O : Addr → Prop} {v : V} {pins : List (Addr × Obj)}
def dLen : D → Option SV
  | .list xs => some (.sh (.int xs.length))
  | .tuple xs => some (.sh (.int xs.length))
  | .dict ds => some (.sh (.int ds.length))
  | .str x => if x.length ≤ sizeLine then some (.sh (.int x.length)) else none
  | _ => none
theorem call_lenR : CallR X (.builtin "len") (rC X.K dLen) := by
  intro pins s σ H xs us Q I rx h
  obtain ⟨Z, src, L, d, r, x, rfl, hK, R, h1, e, q⟩ := h
  obtain ⟨O, R0⟩ := id R
  unfold dLen at e
  split at e
  · cases e
    obtain ⟨a, ys, rfl, ha, ra⟩ := R0.list h1
    exact call_len_seq pins s σ H _ us Q I rx ⟨a, ys, rfl, .inl (SqL.of ha), by rw [ra.length]; exact q _ _ (R.int _)⟩
  · cases e
    obtain ⟨a, ys, rfl, ha, ra⟩ := R0.tuple h1
    exact call_len_seq pins s σ H _ us Q I rx ⟨a, ys, rfl, .inr (hK ▸ ha), by rw [ra.length]; exact q _ _ (R.int _)⟩
  · cases e
    obtain ⟨a, ys, rfl, ha, ra⟩ := R0.dict h1
    exact call_lenD pins s σ H _ us Q I rx ⟨a, ys, rfl, ha, by rw [ra.length]; exact q _ _ (R.int _)⟩
  · split at e
    · cases e
      cases R0.str h1
      exact call_len_str pins s σ H _ us Q I rx ⟨_, rfl, by assumption, q _ _ (R.int _)⟩
    · cases e
  · cases e
/-- the ints, the bools, the texts of a list -/
def dInts : List D → Option (List Int)
  | [] => some []
  | .int i :: r => (dInts r).map (i :: ·)
  | _ => none
def dBools : List D → Option (List Bool)
  | [] => some []
  | .bool i :: r => (dBools r).map (i :: ·)
  | _ => none
theorem RpA.asInts {K} : ∀ {vs : List V} {ds : List D} {ns : List Int}, RpA K H O vs ds → dInts ds = some ns → vs = ns.map V.int
  | _, _, _, .nil, e => by cases e; rfl
  | _, _, _, .cons (d := d) r t, e => by
    cases d <;> try (cases (show (none : Option (List Int)) = some _ from e))
    obtain ⟨ms, e1, rfl⟩ := Option.map_eq_some_iff.mp (show (dInts _).map _ = some _ from e)
    rw [r.int_inv, RpA.asInts t e1]; rfl
theorem RpA.asBools {K} : ∀ {vs : List V} {ds : List D} {ns : List Bool}, RpA K H O vs ds → dBools ds = some ns → vs = ns.map V.bl
  | _, _, _, .nil, e => by cases e; rfl
  | _, _, _, .cons (d := d) r t, e => by
    cases d <;> try (cases (show (none : Option (List Bool)) = some _ from e))
    obtain ⟨ms, e1, rfl⟩ := Option.map_eq_some_iff.mp (show (dBools _).map _ = some _ from e)
    rw [r.bool_inv, RpA.asBools t e1]; rfl
theorem ints_map (ns : List Int) : dInts (ns.map .int) = some ns := by
  induction ns with
  | nil => rfl
  | cons n r ih => simp [dInts, ih]
theorem bools_map (ns : List Bool) : dBools (ns.map .bool) = some ns := by
  induction ns with
  | nil => rfl
  | cons n r ih => simp [dBools, ih]
def dSum : D → Option SV
  | .list xs => (dInts xs).map fun ns => .sh (.int ns.sum)
  | _ => none
theorem call_sumR (hc : X.calm = true) : CallR X (.builtin "sum") (rC X.K dSum) := by
  intro pins s σ H xs us Q I rx h
  obtain ⟨Z, src, L, d, r, x, rfl, hK, R, h1, e, q⟩ := h
  obtain ⟨O, R0⟩ := id R
  unfold dSum at e
  split at e
  · obtain ⟨ns, e1, rfl⟩ := Option.map_eq_some_iff.mp e
    obtain ⟨a, ys, rfl, ha, ra⟩ := R0.list h1
    have e2 := ra.asInts e1
    subst e2
    exact cr_sum hc pins s σ H _ us Q I rx ⟨a, ns, rfl, SqL.of ha, q _ _ (R.int _)⟩
  · cases e
def dAll : D → Option SV
  | .list xs => (dBools xs).map fun ns => .sh (.bool (ns.all id))
  | _ => none
theorem call_allR (hc : X.calm = true) : CallR X (.builtin "all") (rC X.K dAll) := by
  intro pins s σ H xs us Q I rx h
  obtain ⟨Z, src, L, d, r, x, rfl, hK, R, h1, e, q⟩ := h
  obtain ⟨O, R0⟩ := id R
  unfold dAll at e
  split at e
  · obtain ⟨ns, e1, rfl⟩ := Option.map_eq_some_iff.mp e
    obtain ⟨a, ys, rfl, ha, ra⟩ := R0.list h1
    have e2 := ra.asBools e1
    subst e2
    exact cr_all hc pins s σ H _ us Q I rx ⟨a, ns, rfl, SqL.of ha, q _ _ (R.bl _)⟩
  · cases e
def dAny : D → Option SV
  | .list xs => (dBools xs).map fun ns => .sh (.bool (ns.any id))
  | _ => none
theorem call_anyR (hc : X.calm = true) : CallR X (.builtin "any") (rC X.K dAny) := by
  intro pins s σ H xs us Q I rx h
  obtain ⟨Z, src, L, d, r, x, rfl, hK, R, h1, e, q⟩ := h
  obtain ⟨O, R0⟩ := id R
  unfold dAny at e
  split at e
  · obtain ⟨ns, e1, rfl⟩ := Option.map_eq_some_iff.mp e
    obtain ⟨a, ys, rfl, ha, ra⟩ := R0.list h1
    have e2 := ra.asBools e1
    subst e2
    exact cr_any hc pins s σ H _ us Q I rx ⟨a, ns, rfl, SqL.of ha, q _ _ (R.bl _)⟩
  · cases e
def dAbs : D → Option SV
  | .int i => some (.sh (.int (if i < 0 then -i else i)))
  | _ => none
theorem call_absR : CallR X (.builtin "abs") (rC X.K dAbs) := by
  intro pins s σ H xs us Q I rx h
  obtain ⟨Z, src, L, d, r, x, rfl, hK, R, h1, e, q⟩ := h
  obtain ⟨O, R0⟩ := id R
  unfold dAbs at e
  split at e
  · cases e
    cases R0.int h1
    exact call_abs pins s σ H _ us Q I rx ⟨_, rfl, q _ _ (R.int _)⟩
  · cases e
def dInt : D → Option SV
  | .int i => some (.sh (.int i))
  | .bool k => some (.sh (.int (if k then 1 else 0)))
  | .str x => if x.length ≤ 640 then (PySem.intText? x).map fun n => .sh (.int n) else none
  | _ => none
theorem call_intR : CallR X (.type "int") (rC X.K dInt) := by
  intro pins s σ H xs us Q I rx h
  obtain ⟨Z, src, L, d, r, x, rfl, hK, R, h1, e, q⟩ := h
  obtain ⟨O, R0⟩ := id R
  unfold dInt at e
  split at e
  · cases e
    cases R0.int h1
    exact call_int1 pins s σ H _ us Q I rx (.inl ⟨_, rfl, q _ _ (R.int _)⟩)
  · cases e
    cases R0.bl h1
    exact call_int1 pins s σ H _ us Q I rx (.inr ⟨_, rfl, q _ _ (R.int _)⟩)
  · split at e
    · obtain ⟨n, e1, rfl⟩ := Option.map_eq_some_iff.mp e
      cases R0.str h1
      exact call_int_str pins s σ H _ us Q I rx ⟨_, n, rfl, e1, by assumption, q _ _ (R.int _)⟩
    · cases e
  · cases e
def dStr : D → Option SV
  | .int i => if i.natAbs.log2 < 1920 then some (.sh (.str (toString i))) else none
  | .str x => some (.sh (.str x))
  | _ => none
theorem call_strR : CallR X (.type "str") (rC X.K dStr) := by
  intro pins s σ H xs us Q I rx h
  obtain ⟨Z, src, L, d, r, x, rfl, hK, R, h1, e, q⟩ := h
  obtain ⟨O, R0⟩ := id R
  unfold dStr at e
  split at e
  · split at e
    · cases e
      cases R0.int h1
      exact call_str_int pins s σ H _ us Q I rx ⟨_, rfl, by assumption, q _ _ (R.str _)⟩
    · cases e
  · cases e
    cases R0.str h1
    exact SkE.call_str_str pins s σ H _ us Q I rx ⟨_, rfl, q _ _ (R.str _)⟩
  · cases e
theorem Rel.newListOf {p : Addr} {xs : List V} {ds : List D} (R : Rel Z H src L) (hp : H p = none) (h : ∀ O, RelO Z H src L O → RpA Z.K H O xs ds) : Rel Z (upd H p (.lst xs)) src ((some (.ref p), some (.own (.list ds))) :: L) :=
  R.newOwn hp fun O R' => ⟨xs, upd_same, (h O R').keep (fun b x e _ => by rw [upd_ne (ne_of_none e hp)]; exact e) fun b z => Or.elim z .inl fun z => .inr (by rw [z]; exact hp)⟩
theorem Rel.newDictOf {p : Addr} {xs : List (Key × V)} {ds : List (D × D)} (R : Rel Z H src L) (hp : H p = none) (h : ∀ O, RelO Z H src L O → RpD Z.K H O xs ds) : Rel Z (upd H p (.dK xs)) src ((some (.ref p), some (.own (.dict ds))) :: L) :=
  R.newOwn hp fun O R' => ⟨xs, upd_same, (h O R').keep (fun b x e _ => by rw [upd_ne (ne_of_none e hp)]; exact e) fun b z => Or.elim z .inl fun z => .inr (by rw [z]; exact hp)⟩
theorem RelO.listEq (r : RelO Z H src L O) {ds : List D} {a : Addr} {xs : List V} (h : Has L (.ref a) (.list ds)) (e : H a = some (.lst xs)) : RpA Z.K H O xs ds := by
  obtain ⟨b, ys, e1, e2, q⟩ := r.list h
  cases e1
  rw [e] at e2; cases e2
  exact q
theorem RelO.tupEq {s : Shared} (I : Inv X pins σ H s) (r : RelO Z H src L O) (hK : Z.K = X.K) {ds : List D} {a : Addr} {xs : List V} (h : Has L (.ref a) (.tuple ds)) (e : SqT Z.K H a xs) : RpA Z.K H O xs ds := by
  obtain ⟨b, ys, e1, e2, q⟩ := r.tuple h
  cases e1
  rw [hK] at e e2
  cases I.tuple_inj e e2
  exact q
theorem RelO.dictEq (r : RelO Z H src L O) {ds : List (D × D)} {a : Addr} {xs : List (Key × V)} (h : Has L (.ref a) (.dict ds)) (e : H a = some (.dK xs)) : RpD Z.K H O xs ds := by
  obtain ⟨b, ys, e1, e2, q⟩ := r.dict h
  cases e1
  rw [e] at e2; cases e2
  exact q
theorem RelO.shOf (r : RelO Z H src L O) {d : D} {w : V} (h : Has L w d) (n : ∀ a, RpO Z.K H O a d → False) : Rel Z H src ((some w, some (.sh d)) :: L) := by
  rcases r.has h with z | ⟨a, _, z⟩
  · exact r.pushSh z
  · exact (n a z).elim
/-- keys of a dict -/
theorem RpD.keys {K} : ∀ {kvs : List (Key × V)} {ds : List (D × D)}, RpD K H O kvs ds → RpA K H O (kvs.map fun kv => kV kv.1) (ds.map (·.1))
  | _, _, .nil => .nil
  | _, _, .cons (k := k) _ t => .cons (by cases k <;> first | exact .int _ | exact .str _) (RpD.keys t)
theorem RpD.vals {K} : ∀ {kvs : List (Key × V)} {ds : List (D × D)}, RpD K H O kvs ds → RpA K H O (kvs.map (·.2)) (ds.map (·.2))
  | _, _, .nil => .nil
  | _, _, .cons r t => .cons r (RpD.vals t)
def dList : D → Option SV
  | .list xs => some (.own (.list xs))
  | .tuple xs => some (.own (.list xs))
  | .dict ds => some (.own (.list (ds.map (·.1))))
  | _ => none
theorem call_listR (hc : X.calm = true) : CallR X (.type "list") (rC X.K dList) := by
  intro pins s σ H xs us Q I rx h
  obtain ⟨Z, src, L, d, r, x, rfl, hK, R, h1, e, q⟩ := h
  obtain ⟨O, R0⟩ := id R
  unfold dList at e
  split at e
  · cases e
    obtain ⟨a, ys, rfl, ha, ra⟩ := R0.list h1
    exact call_list_of pins s σ H _ us Q I rx ⟨a, ys, rfl, .inl (SqL.of ha), fun l hl => q _ _ (R.newListOf hl fun O' R' => R'.listEq h1 ha)⟩
  · cases e
    obtain ⟨a, ys, rfl, ha, ra⟩ := R0.tuple h1
    exact call_list_of pins s σ H _ us Q I rx ⟨a, ys, rfl, .inr (hK ▸ ha), fun l hl => q _ _ (R.newListOf hl fun O' R' => R'.tupEq I hK h1 ha)⟩
  · cases e
    obtain ⟨a, ys, rfl, ha, ra⟩ := R0.dict h1
    exact call_list_dK hc pins s σ H _ us Q I rx ⟨a, ys, rfl, ha, fun l hl => q _ _ (R.newListOf hl fun O' R' => (R'.dictEq h1 ha).keys)⟩
  · cases e
def dTuple : D → Option SV
  | .list xs => some (.sh (.tuple xs))
  | .tuple xs => some (.sh (.tuple xs))
  | _ => none
theorem call_tupleR : CallR X (.type "tuple") (rC X.K dTuple) := by
  intro pins s σ H xs us Q I rx h
  obtain ⟨Z, src, L, d, r, x, rfl, hK, R, h1, e, q⟩ := h
  obtain ⟨O, R0⟩ := id R
  unfold dTuple at e
  split at e
  · cases e
    obtain ⟨a, ys, rfl, ha, ra⟩ := R0.list h1
    exact call_tuple_of pins s σ H _ us Q I rx ⟨a, ys, rfl, .inl ⟨SqL.of ha, fun l hl => q _ _ (R.newTup hl fun O' R' => R'.listEq h1 ha)⟩⟩
  · cases e
    obtain ⟨a, ys, rfl, ha, ra⟩ := R0.tuple h1
    exact call_tuple_of pins s σ H _ us Q I rx ⟨a, ys, rfl, .inr ⟨hK ▸ ha, q _ _ (R0.shOf h1 fun _ z => z)⟩⟩
  · cases e
/-- pairs of a list -/
def pairsD : List D → Option (List (Key × D))
  | [] => some []
  | .tuple [k, x] :: r => (keyOf k).bind fun k => (pairsD r).map ((k, x) :: ·)
  | _ => none
def dMerge (ds : List (D × D)) (kvs : List (Key × D)) : List (D × D) := kvs.foldl (fun acc kv => dPut acc kv.1 kv.2) ds
theorem RpD.merge {K} : ∀ {kvs : List (Key × V)} {ks : List (Key × D)} {acc : List (Key × V)} {ds : List (D × D)}, Paired (fun (p : Key × V) (q : Key × D) => p.1 = q.1 ∧ Rp K H O p.2 q.2) kvs ks → RpD K H O acc ds → RpD K H O (mergeK acc kvs) (dMerge ds ks) := by
  intro kvs
  induction kvs with
  | nil => intro ks acc ds h r; cases h; exact r
  | cons p kvs ih =>
    intro ks acc ds h r
    cases h with
    | cons h1 h2 =>
      obtain ⟨k, x⟩ := p
      rename_i q _
      obtain ⟨k', d⟩ := q
      cases (h1.1 : k = k')
      have z := ih h2 (r.put k h1.2)
      exact z
theorem pairs_rp {K} : ∀ {vs : List V} {ds : List D} {ks : List (Key × D)}, RpA K H O vs ds → pairsD ds = some ks → ∃ (ps : List Addr) (kvs : List (Key × V)), vs = ps.map V.ref ∧ Paired (fun p kv => SqT K H p [kV kv.1, kv.2]) ps kvs ∧ Paired (fun (p : Key × V) (q : Key × D) => p.1 = q.1 ∧ Rp K H O p.2 q.2) kvs ks
  | _, _, _, .nil, e => by cases e; exact ⟨[], [], rfl, .nil, .nil⟩
  | _, _, _, .cons (d := d) r t, e => by
    unfold pairsD at e
    split at e
    · rename_i z; cases z
    · rename_i k x r' z
      cases z
      obtain ⟨k', e1, e2⟩ := Option.bind_eq_some_iff.mp e
      obtain ⟨ks, e3, rfl⟩ := Option.map_eq_some_iff.mp e2
      obtain ⟨ps, kvs, h1, h2, h3⟩ := pairs_rp t e3
      have fin : ∀ {a : Addr} {xs : List V}, SqT K H a xs → RpA K H O xs [k, x] → ∃ y, SqT K H a [kV k', y] ∧ Rp K H O y x := fun {a xs} q r => by
        cases r with
        | cons r1 r =>
          cases r with
          | cons r2 r =>
            cases r
            rw [kV_of e1 r1] at q
            exact ⟨_, q, r2⟩
      cases r with
      | tup q _ r =>
        obtain ⟨y, h4, h5⟩ := fin (SqT.of q) r
        exact ⟨_ :: ps, (k', y) :: kvs, by rw [h1]; rfl, .cons h4 h2, .cons ⟨rfl, h5⟩ h3⟩
      | tupK e1 e2 e3 e4 e5 r =>
        obtain ⟨y, h4, h5⟩ := fin (.inr ⟨_, _, _, e1, e2, e3, e4, e5⟩) r
        exact ⟨_ :: ps, (k', y) :: kvs, by rw [h1]; rfl, .cons h4 h2, .cons ⟨rfl, h5⟩ h3⟩
    · cases e
def dDict : D → Option SV
  | .list xs => (pairsD xs).map fun ks => .own (.dict (dMerge [] ks))
  | _ => none
theorem call_dictR (hc : X.calm = true) : CallR X (.type "dict") (rC X.K dDict) := by
  intro pins s σ H xs us Q I rx h
  obtain ⟨Z, src, L, d, r, x, rfl, hK, R, h1, e, q⟩ := h
  obtain ⟨O, R0⟩ := id R
  unfold dDict at e
  split at e
  · obtain ⟨ks, e1, rfl⟩ := Option.map_eq_some_iff.mp e
    obtain ⟨a, ys, rfl, ha, ra⟩ := R0.list h1
    obtain ⟨ps, kvs, rfl, h2, h3⟩ := pairs_rp ra e1
    refine call_dictP hc pins s σ H _ us Q I rx ⟨a, ps, kvs, rfl, SqL.of ha, hK ▸ h2, fun p hp => q _ _ (R.newDictOf hp fun O' R' => ?_)⟩
    have ra' := R'.listEq h1 ha
    have fix : ∀ {ps : List Addr} {kvs : List (Key × V)} {ds : List D} {ks : List (Key × D)}, RpA Z.K H O' (ps.map V.ref) ds → pairsD ds = some ks → Paired (fun p kv => SqT Z.K H p [kV kv.1, kv.2]) ps kvs → Paired (fun (p : Key × V) (q : Key × D) => p.1 = q.1 ∧ Rp Z.K H O' p.2 q.2) kvs ks := by
      intro ps kvs ds ks r e h
      obtain ⟨ps', kvs', e1, h2, h3⟩ := pairs_rp r e
      have inj : ∀ {l m : List Addr}, l.map V.ref = m.map V.ref → l = m := fun {l m} h => List.map_inj_right (fun _ _ z => by cases z; rfl) |>.mp h
      cases inj e1
      have same : ∀ {ps : List Addr} {k1 k2 : List (Key × V)}, Paired (fun p kv => SqT Z.K H p [kV kv.1, kv.2]) ps k1 → Paired (fun p kv => SqT Z.K H p [kV kv.1, kv.2]) ps k2 → k1 = k2 := by
        intro ps
        induction ps with
        | nil => intro k1 k2 a b; cases a; cases b; rfl
        | cons p ps ih =>
          intro k1 k2 a b
          cases a with
          | cons a1 a2 =>
            cases b with
            | cons b1 b2 =>
              rw [hK] at a1 b1
              have := I.tuple_inj a1 b1
              simp only [List.cons.injEq, and_true] at this
              rw [ih a2 b2, Prod.ext (kV_inj this.1) this.2]
      rw [same h h2]
      exact h3
    exact RpD.merge (fix ra' e1 h2) .nil
  · cases e
/-! ### repr -/
def dRepr (d : D) : Option SV := if d.showable = true ∧ d.hasDict = false ∧ d.depth ≤ 40 ∧ d.shown.length ≤ sizeLine then some (.sh (.str d.shown)) else none
theorem call_reprR (hu : X.A.units + 64 < cLine) (hg : X.A.guards = some []) : CallR X (.builtin "repr") (rC X.K dRepr) := by
  intro pins s σ H xs us Q I rx h
  obtain ⟨Z, src, L, d, r, x, rfl, hK, R, h1, e, q⟩ := h
  obtain ⟨O, R0⟩ := id R
  unfold dRepr at e
  split at e
  · rename_i hz
    obtain ⟨z1, z2, z3, z4⟩ := hz
    cases e
    obtain ⟨u, rfl, ru⟩ := vals1 rx
    obtain ⟨as, rd⟩ := R0.reads hK I h1 ru
    have fin : ∀ (h' : Heap) (w : Tok) (tk : Nat), (∀ b o, s.heap.get? b = some o → h'.get? b = some o) → EP X pins σ Q (.str d.shown w) { s with heap := h', toks := tk } := fun h' w tk k =>
      ⟨.str _, H, I.kept k, ⟨_, rfl⟩, q _ _ (R.str _)⟩
    have hd : d.hasDict = true → sysModules ∉ as := fun z => by rw [z2] at z; cases z
    cases rd with
    | none => exact PySem.P.repr_of_none (fin s.heap _ _ fun _ _ e => e)
    | bool b => exact PySem.P.repr_of_bool (fin s.heap _ _ fun _ _ e => e)
    | int i t => exact PySem.P.repr_of_int (by simpa [PyData.showable] using z1) (fin s.heap _ _ fun _ _ e => e)
    | str x t => exact PySem.P.repr_of_str (fin s.heap _ _ fun _ _ e => e) z4
    | list a b c d => exact repr_of_reads' (.list a b c d) z1 hd hg (by omega) (fun _ _ e => e) fin z4
    | tuple a b c d => exact repr_of_reads' (.tuple a b c d) z1 hd hg (by omega) (fun _ _ e => e) fin z4
    | dict a b c d e => simp [PyData.hasDict] at z2
  · cases e
end
end Pw
set_option Elab.async false
set_option linter.all false
set_option maxRecDepth 100000
namespace Pw
open PySem PySem.Spec PyProof.Rows L2
section
variable {X : Cx} {Z : Zx} {W : WX} {e a b : Expr} {f fa : Ev} {fb : Vw} {H : Hp} {σ σ' : L2.St} {T T' : List Ent} {s s' : S} {L : List Ent} {src : Option Src} {O : Addr → Prop} {v : V}
/-! ### targets -/
abbrev Tg := SV → S → Option S
abbrev Tgs := List D → S → Option S
/-- other names stay -/
def SameOff (is : List Nat) (σ σ' : L2.St) : Prop := σ'.length = σ.length ∧ ∀ j, j ∉ is → σ'[j]? = σ[j]?
theorem SameOff.trans {is js : List Nat} {σ1 σ2 σ3 : L2.St} (a : SameOff is σ1 σ2) (b : SameOff js σ2 σ3) : SameOff (is ++ js) σ1 σ3 :=
  ⟨b.1.trans a.1, fun j h => by simp only [List.mem_append, not_or] at h; exact (b.2 j h.2).trans (a.2 j h.1)⟩
def LG (Z : Zx) (g : Tg) (is : List Nat) : TG := fun v σ H Q => ∃ T s r s', RelS Z H σ ((some v, some r) :: T) s ∧ g r s = some s' ∧ ∀ σ', RelS Z H σ' T s' → SameOff is σ σ' → Q σ' H
def LGs (Z : Zx) (g : Tgs) (is : List Nat) : TGs := fun vs σ H Q => ∃ T s ds s', RelS Z H σ (ents vs (ds.map .sh) ++ T) s ∧ vs.length = ds.length ∧ g ds s = some s' ∧ ∀ σ', RelS Z H σ' T s' → SameOff is σ σ' → Q σ' H
def SnG (X : Cx) (Z : Zx) (tg : Expr) (g : Tg) (is : List Nat) : Prop := X.K = Z.K → PG X tg (LG Z g is)
def SnGs (X : Cx) (Z : Zx) (tg : List Expr) (g : Tgs) (is : List Nat) (n : Nat) : Prop := (∀ ds s s', g ds s = some s' → ds.length = n) ∧ (X.K = Z.K → PGs X tg (LGs Z g is))
theorem pg_imp {tg : Expr} {t t' : TG} (h : PG X tg t) (i : ∀ v σ H Q, t' v σ H Q → t v σ H Q) : PG X tg t' := ⟨fun pins s σ H v u Q I r q => h.run pins s σ H v u Q I r (i v σ H Q q)⟩
theorem pgs_imp {tg : List Expr} {t t' : TGs} (h : PGs X tg t) (i : ∀ v σ H Q, t' v σ H Q → t v σ H Q) : PGs X tg t' := ⟨fun pins s σ H v u Q I r q => h.run pins s σ H v u Q I r (i v σ H Q q)⟩
def gNm (i : Nat) : Tg := fun r s => some { s with sl := s.sl.set i (some r) }
def gTp (g : Tgs) : Tg := fun r s => match r with
  | .sh (.tuple ds) => g ds s
  | _ => none
def gsNil : Tgs := fun ds s => match ds with
  | [] => some s
  | _ => none
def gsCons (f : Tg) (g : Tgs) : Tgs := fun ds s => match ds with
  | d :: ds => (f (.sh d) s).bind (g ds)
  | [] => none
theorem RelS.put {i : Nat} {r : SV} (R : RelS Z H σ ((some v, some r) :: T) s) : RelS Z H (σ.set i (some v)) T { s with sl := s.sl.set i (some r) } :=
  ⟨by simpa using R.1, Rel.putSlot (i := i) R.2 R.1⟩
theorem snG_nm {tg : Expr} {i : Nat} (h : PG X tg (gName i)) : SnG X Z tg (gNm i) [i] := fun _ => pg_imp h fun v σ H Q ⟨T, s, r, s', R, e, q⟩ => by
  cases e
  exact q _ R.put ⟨by simp, fun j hj => by rw [List.getElem?_set_ne (by simpa using Ne.symm (by simpa using hj))]⟩
theorem snGs_nil : SnGs X Z [] gsNil [] 0 := ⟨fun ds s s' e => (by cases ds <;> first | rfl | cases e), fun _ => pgs_imp pgs_nil fun vs σ H Q ⟨T, s, ds, s', R, hl, e, q⟩ => by
  cases ds with
  | nil =>
    cases e
    cases vs with
    | nil => exact ⟨rfl, q _ R ⟨rfl, fun _ _ => rfl⟩⟩
    | cons v vs => simp at hl
  | cons d ds => cases e⟩
theorem snGs_cons {tg : Expr} {ts : List Expr} {g : Tg} {gs : Tgs} {is js : List Nat} {n : Nat} (h1 : SnG X Z tg g is) (h2 : SnGs X Z ts gs js n) (hs : (assignEach (tg :: ts) X.env).map (·.2) = assign tg X.env :: (assignEach ts X.env).map (·.2) := by rfl) : SnGs X Z (tg :: ts) (gsCons g gs) (is ++ js) (n + 1) := ⟨fun ds s s' e => (by
  cases ds with
  | nil => cases e
  | cons d ds =>
    obtain ⟨s1, _, e2⟩ := Option.bind_eq_some_iff.mp e
    rw [List.length_cons, h2.1 _ _ _ e2]), fun k => pgs_imp (pgs_cons (h1 k) (h2.2 k) hs) fun vs σ H Q ⟨T, s, ds, s', R, hl, e, q⟩ => by
  cases ds with
  | nil => cases e
  | cons d ds =>
    cases vs with
    | nil => simp at hl
    | cons v vs =>
      obtain ⟨s1, e1, e2⟩ := Option.bind_eq_some_iff.mp e
      exact ⟨v, vs, rfl, ents vs (ds.map .sh) ++ T, s, .sh d, s1, R, e1, fun σ1 R1 o1 => ⟨T, s1, ds, s', R1, by simpa using hl, e2, fun σ2 R2 o2 => q σ2 R2 (o1.trans o2)⟩⟩⟩
theorem rel_ents {K} : ∀ {vs : List V} {ds : List D}, RpA K H O vs ds → ∀ e ∈ ents vs (ds.map .sh), ∃ v d, e = (some v, some (.sh d)) ∧ Rp K H O v d
  | _, _, .nil, e, h => by simp [ents] at h
  | _, _, .cons r t, e, h => by
    simp only [ents, List.map_cons, List.zip_cons_cons, List.mem_cons] at h
    rcases h with rfl | h
    · exact ⟨_, _, rfl, r⟩
    · exact rel_ents t e (by simpa [ents] using h)
theorem RelO.pushN : ∀ {E : List Ent}, RelO Z H src L O → (∀ e ∈ E, ∃ v d, e = (some v, some (.sh d)) ∧ Rp Z.K H O v d) → RelO Z H src (E ++ L) O
  | [], r, _ => r
  | e :: E, r, h => by
    obtain ⟨v, d, rfl, q⟩ := h e List.mem_cons_self
    exact (RelO.pushN r fun e he => h e (List.mem_cons_of_mem _ he)).push mild_sh fun s z => ⟨v, rfl, by cases z; exact q⟩
theorem snG_tp {ts : List Expr} {k0 : Nat} {pos : Pos} {gs : Tgs} {n : Nat} {is : List Nat} (hc : X.calm = true) (h : SnGs X Z ts gs is n) (hn : (assignEach ts X.env).length = n := by rfl) (hst : (assignEach ts X.env).findIdx? (·.1) = none := by rfl) : SnG X Z (.Tuple ts k0 pos) (gTp gs) is := fun k => pg_imp (pg_tup hc (h.2 k) hn hst) fun v σ H Q ⟨T, s, r, s', R, e, q⟩ => by
  unfold gTp at e
  split at e
  · rename_i ds
    obtain ⟨O, R0⟩ := R.2
    obtain ⟨a, xs, e1, ha, ra⟩ := R0.tuple (v := v) ⟨_, List.mem_cons_self, rfl⟩
    refine ⟨a, xs, e1, k ▸ ha, by rw [ra.length]; exact h.1 _ _ _ e, T, s, ds, s', ⟨R.1, O, ?_⟩, ra.length, e, q⟩
    obtain ⟨O', z⟩ := R.pop.2
    have R1 : RelO Z H s.src (T ++ List.zip σ s.sl) O := ⟨R0.oc, fun e he => R0.ent e (List.mem_cons_of_mem _ he), (List.pairwise_cons.mp R0.ap).2, R0.src, R0.base, R0.live⟩
    rw [List.append_assoc]
    exact R1.pushN (rel_ents ra)
  · cases e
/-! ### statements -/
theorem LS_of {f : Sm} {D : Ends} (q : LS Z W f D σ H) : ∃ T s, RelS Z H σ T s ∧ (f s).sat (FlP Z T D) (ExS Z T W) := q
def cAsg (f : Ev) (g : Tg) : Sm := fun s => (f s).bind fun r s1 => match g r s1 with
  | some s2 => .ok .nx s2
  | none => .err
theorem rd_asg {g : Tg} {is : List Nat} {D : Ends} (q : LS Z W (cAsg f g) D σ H) : tAsg (LE Z W f) (LG Z g is) D σ H := by
  obtain ⟨T, s, R, q⟩ := q
  refine ⟨T, s, R, Res.sat_mono (Res.sat_bind.mp q) (fun r s1 q v H1 R1 => ?_) fun e s h => h σ⟩
  cases e : g r s1 with
  | none => rw [e] at q; exact q.elim
  | some s2 => rw [e] at q; exact ⟨T, s1, r, s2, R1, e, fun σ' R2 _ => q _ _ R2⟩
theorem snS_asg {tg : Expr} {pos} {g : Tg} {is : List Nat} (he : SnE X Z W e f) (hg : SnG X Z tg g is) (hs : swapsWithSole [tg] e pos.line X.env = pure false := by rfl) (hw : swappedStores [tg] e X.env = pure none := by rfl)
    (h1 : (assignEach [tg] X.env).map (·.2) = [assign tg X.env] := by rfl) : SnS X Z W (.Assign [tg] e pos) (cAsg f g) := fun k => ps_imp (ps_asg (he k) (hg k) hs hw h1) fun D σ H q => rd_asg q
theorem snS_set {i : Nat} {x : Str} {pos pos' : Pos} (hN : X.N.Nodup) (hi : X.N[i]? = some x) (hx : Loc X.env.scope x) (he : SnE X Z W e f) (hs : swapsWith e (some (.Name x pos')) pos.line X.env = pure false := by rfl) (hf : X.fn x = true ∨ X.env.scope.names.lookup x = some .local := by first | exact .inl rfl | exact .inr rfl | assumption) : SnS X Z W (.Assign [.Name x pos'] e pos) (cAsg f (gNm i)) := fun k =>
  ps_imp (ps_set hN hi hx (he k) hs hf) fun D σ H q => by
    obtain ⟨T, s, R, q⟩ := q
    exact ⟨T, s, R, Res.sat_mono (Res.sat_bind.mp q) (fun r s1 q v H1 R1 => q _ _ R1.put) fun e s h => h σ⟩
/-- several names at once -/
def cConsR (f : Ev) (g : Ag) : Ag := fun s => (f s).bind fun r s1 => (g s1).bind fun rs s2 => .ok (r :: rs) s2
theorem snA_consR {es : List Expr} {g : Ag} (h : SnE X Z W e f) (hr : SnA X Z W es g) (hs : starEach (e :: es) X.env = (false, eval e X.env) :: starEach es X.env := by rfl) : SnA X Z W (e :: es) (cConsR f g) := fun k => pa_imp (pa_cons (h k) (hr k) hs) fun σ H Q ⟨T, s, R, q⟩ => by
  refine ⟨T, s, R, ?_⟩
  refine Res.sat_mono (Res.sat_bind.mp q) (fun r s1 q v H1 R1 => ?_) fun e s h => h
  refine ⟨(some v, some r) :: T, s1, R1, ?_⟩
  refine Res.sat_mono (Res.sat_bind.mp q) (fun rs s2 q vs H2 hl R2 => ?_) fun e s h dd H' R' => h dd H' ?_
  · exact q (v :: vs) H2 (by simpa using hl) (R2.perm List.perm_middle)
  · exact ⟨R'.1, (R'.perm (List.Perm.swap _ _ _)).pop.2⟩
def setMany {α : Type} : List (Option α) → List Nat → List α → List (Option α)
  | l, i :: is, v :: vs => setMany (l.set i (some v)) is vs
  | l, _, _ => l
def cPar (is : List Nat) (g : Ag) : Sm := fun s => (g s).bind fun rs s1 => if is.length = rs.length then .ok .nx { s1 with sl := setMany s1.sl is rs } else .err
theorem RelS.putMany : ∀ {is : List Nat} {vs : List V} {rs : List SV} {σ : L2.St} {s : S}, vs.length = rs.length → RelS Z H σ (ents vs rs ++ T) s → RelS Z H (setMany σ is vs) T { s with sl := setMany s.sl is rs }
  | [], vs, rs, σ, s, hl, R => by unfold setMany; exact RelS.popN R
  | i :: is, [], [], σ, s, hl, R => by unfold setMany; exact R
  | i :: is, v :: vs, r :: rs, σ, s, hl, R => by
    unfold setMany
    have R1 := RelS.put (i := i) (show RelS Z H σ ((some v, some r) :: (ents vs rs ++ T)) s from R)
    exact RelS.putMany (s := { s with sl := s.sl.set i (some r) }) (by simpa using hl) R1
  | i :: is, [], r :: rs, σ, s, hl, R => by simp at hl
  | i :: is, v :: vs, [], σ, s, hl, R => by simp at hl
theorem snS_par2 {i j : Nat} {x y : Str} {g : Ag} {px py pt pos : Pos} {kt k2 pt2} (hc : X.calm = true) (hN : X.N.Nodup) (hi : X.N[i]? = some x) (hj : X.N[j]? = some y) (hij : i ≠ j) (hx : X.env.scope.names.lookup x = some .local) (hy : X.env.scope.names.lookup y = some .local) (ha : SnA X Z W [a, b] g)
    (hw : swappedStores [.Tuple [.Name x px, .Name y py] kt pt] (.Tuple [a, b] k2 pt2) X.env = pure (some [x, y])) (hs : swapsWithSole [.Tuple [.Name x px, .Name y py] kt pt] (.Tuple [a, b] k2 pt2) pos.line X.env = pure false := by rfl) :
    SnS X Z W (.Assign [.Tuple [.Name x px, .Name y py] kt pt] (.Tuple [a, b] k2 pt2) pos) (cPar [i, j] g) := fun k => ps_imp (ps_par hc hN hi hj hij hx hy (ha k) hw hs) fun D σ H ⟨T, s, R, q⟩ => by
  refine ⟨T, s, R, Res.sat_mono (Res.sat_bind.mp q) (fun rs s1 q vs H1 hl R1 => ?_) fun e s h => h σ⟩
  split at q
  · rename_i hr
    have R2 := R1.putMany (is := [i, j]) hl
    match vs, hl, R2 with
    | [v, w], _, R2 => exact ⟨v, w, rfl, q _ _ R2⟩
    | [], hl, _ => simp [← hr] at hl
    | [_], hl, _ => simp [← hr] at hl
    | _ :: _ :: _ :: _, hl, _ => simp [← hr] at hl
  · exact q.elim
theorem snS_par3 {i j l : Nat} {x y z : Str} {c : Expr} {g : Ag} {px py pz pt pos : Pos} {kt k2 pt2} (hc : X.calm = true) (hN : X.N.Nodup) (hi : X.N[i]? = some x) (hj : X.N[j]? = some y) (hl' : X.N[l]? = some z) (hij : i ≠ j) (hil : i ≠ l) (hjl : j ≠ l) (hx : X.env.scope.names.lookup x = some .local) (hy : X.env.scope.names.lookup y = some .local) (hz : X.env.scope.names.lookup z = some .local) (ha : SnA X Z W [a, b, c] g)
    (hw : swappedStores [.Tuple [.Name x px, .Name y py, .Name z pz] kt pt] (.Tuple [a, b, c] k2 pt2) X.env = pure (some [x, y, z])) (hs : swapsWithSole [.Tuple [.Name x px, .Name y py, .Name z pz] kt pt] (.Tuple [a, b, c] k2 pt2) pos.line X.env = pure false := by rfl) :
    SnS X Z W (.Assign [.Tuple [.Name x px, .Name y py, .Name z pz] kt pt] (.Tuple [a, b, c] k2 pt2) pos) (cPar [i, j, l] g) := fun k => ps_imp (ps_par3 hc hN hi hj hl' hij hil hjl hx hy hz (ha k) hw hs) fun D σ H ⟨T, s, R, q⟩ => by
  refine ⟨T, s, R, Res.sat_mono (Res.sat_bind.mp q) (fun rs s1 q vs H1 hl R1 => ?_) fun e s h => h σ⟩
  split at q
  · rename_i hr
    have R2 := R1.putMany (is := [i, j, l]) hl
    match vs, hl, R2 with
    | [v, w, u], _, R2 => exact ⟨v, w, u, rfl, q _ _ R2⟩
    | [], hl, _ => simp [← hr] at hl
    | [_], hl, _ => simp [← hr] at hl
    | [_, _], hl, _ => simp [← hr] at hl
    | _ :: _ :: _ :: _ :: _, hl, _ => simp [← hr] at hl
  · exact q.elim
/-- .. where a tuple is made: the targets are names -/
def PGn (X : Cx) (ts : List Expr) (is : List Nat) : Prop := PGs X ts (fun vs σ H Q => vs.length = is.length ∧ Q (setMany σ is vs) H)
theorem pgn_nil : PGn X [] [] := pgs_imp pgs_nil fun vs σ H Q ⟨h, q⟩ => by
  cases vs with
  | nil => exact ⟨rfl, q⟩
  | cons v vs => simp at h
theorem pgn_cons {tg : Expr} {ts : List Expr} {i : Nat} {is : List Nat} (h : PG X tg (gName i)) (hr : PGn X ts is) (hs : (assignEach (tg :: ts) X.env).map (·.2) = assign tg X.env :: (assignEach ts X.env).map (·.2) := by rfl) : PGn X (tg :: ts) (i :: is) := pgs_imp (pgs_cons h hr hs) fun vs σ H Q ⟨h, q⟩ => by
  cases vs with
  | nil => simp at h
  | cons v vs => exact ⟨v, vs, rfl, by simpa using h, q⟩
theorem snS_parT {ts es : List Expr} {is : List Nat} {g : Ag} {kt k2 : Nat} {pt pt2 pos : Pos} (hc : X.calm = true) (hg : PGn X ts is) (ha : SnA X Z W es g) (hw : swappedStores [.Tuple ts kt pt] (.Tuple es k2 pt2) X.env = pure none := by rfl) (hs : swapsWithSole [.Tuple ts kt pt] (.Tuple es k2 pt2) pos.line X.env = pure false := by rfl)
    (h1 : (assignEach [.Tuple ts kt pt] X.env).map (·.2) = [assign (.Tuple ts kt pt) X.env] := by rfl) (hn : (assignEach ts X.env).length = is.length := by rfl) (hst : (assignEach ts X.env).findIdx? (·.1) = none := by rfl) (hz : is.length ≤ 100 := by decide) :
    SnS X Z W (.Assign [.Tuple ts kt pt] (.Tuple es k2 pt2) pos) (cPar is g) := fun k => ps_imp (ps_asg (pe_tup (ha k)) (pg_tup hc hg hn hst) hs hw h1) fun D σ H ⟨T, s, R, q⟩ => by
  refine ⟨T, s, R, Res.sat_mono (Res.sat_bind.mp q) (fun rs s1 q vs H1 hl R1 => ?_) fun e s h => h σ⟩
  split at q
  · rename_i hr
    refine ⟨by rw [hl, ← hr, sizeLine_eq]; omega, fun p hp => ⟨p, vs, rfl, SqT.of upd_same, by rw [hl, hr], by rw [hl, hr], q _ _ ?_⟩⟩
    obtain ⟨O, R0⟩ := R1.2
    exact RelS.putMany hl ⟨R1.1, O, R0.new hp⟩
  · exact q.elim
/-- names op= -/
def cAug (g : D → D → Option SV) (i : Nat) (fb : Vw) : Sm := fun s => match s.sl[i]? with
  | some (some _) => (fb s).bind fun d2 s2 => match datAt s2 i with
    | some d1 => match g d1 d2 with
      | some r => .ok .nx { s2 with sl := s2.sl.set i (some r) }
      | none => .err
    | none => .err
  | _ => .err
theorem snS_aug {i : Nat} {x : Str} {op : Operator} {g : D → D → Option SV} {pos pos' : Pos} (ho : OpR X (inplaceOp op) (rD X.K g)) (hN : X.N.Nodup) (hi : X.N[i]? = some x) (hx : Loc X.env.scope x) (he : SnV X Z W e fb) (hf : X.fn x = true ∨ X.env.scope.names.lookup x = some .local := by first | exact .inl rfl | exact .inr rfl | assumption) :
    SnS X Z W (.AugAssign (.Name x pos') op e pos) (cAug g i fb) := fun k => ps_imp (ps_aug (ti := rD X.K g) hN hi hx (he k) ho hf) fun D σ H ⟨T, s, R, q⟩ => by
  unfold cAug at q
  split at q
  · rename_i r e
    obtain ⟨v, hv, hm⟩ := R.slot e
    refine ⟨v, hv, T, s, R, Res.sat_mono (Res.sat_bind.mp q) (fun d2 s2 q v2 H2 T' R2 hv2 => ?_) fun e s h => h σ⟩
    cases e1 : datAt s2 i with
    | none => rw [e1] at q; exact q.elim
    | some d1 =>
      rw [e1] at q
      cases e3 : g d1 d2 with
      | none => simp only [e3] at q; exact q.elim
      | some r3 =>
        simp only [e3] at q
        obtain ⟨v', hv', hh⟩ := R2.datAt e1
        rw [hv] at hv'; cases hv'
        refine ⟨Z, s2.src, _, d1, d2, r3, k.symm, R2.2, hh, hv2, e3, fun v3 H3 R3 => q _ _ (RelS.put ⟨R2.1, ?_⟩)⟩
        have R4 : Rel Z H3 s2.src ((some v3, some r3) :: (T' ++ (T ++ List.zip σ s2.sl))) := by simpa using R3
        exact R4.mid
  · exact q.elim
def dAddI : D → D → Option SV
  | .int i, .int j => some (.sh (.int (i + j)))
  | _, _ => none
theorem opR_iaddI : OpR X (inplaceOp .Add) (rD X.K dAddI) := by
  intro pins s σ H x y v u Q I rx ry h
  obtain ⟨Z, src, L, d1, d2, r, hK, R, h1, h2, e, q⟩ := h
  obtain ⟨O, R0⟩ := id R
  unfold dAddI at e
  split at e
  · cases e
    exact iop_add pins s σ H x y v u Q I rx ry ⟨_, _, R0.int h1, R0.int h2, q _ _ (R.int _)⟩
  · cases e
theorem opR_isub : OpR X (inplaceOp .Sub) (rD X.K dSub) := by
  intro pins s σ H x y v u Q I rx ry h
  obtain ⟨Z, src, L, d1, d2, r, hK, R, h1, h2, e, q⟩ := h
  obtain ⟨O, R0⟩ := id R
  unfold dSub at e
  split at e
  · cases e
    exact iop_sub pins s σ H x y v u Q I rx ry ⟨_, _, R0.int h1, R0.int h2, q _ _ (R.int _)⟩
  · cases e
/-! ### o[i] = v -/
def dSet : D → D → D → Option D
  | .list xs, .int k, x => (ixN xs.length k).map fun j => .list (xs.set j x)
  | .dict ds, k, x => (keyOf k).bind fun k => if ds.length < sizeLine then some (.dict (dPut ds k x)) else none
  | _, _, _ => none
def rSt (K : PySem.W.Frag) : TSet := fun o i v H Q => ∃ Z src L a dO dI dV dO', Z.K = K ∧ o = .ref a ∧ Rel Z H src ((some (.ref a), some (.own dO)) :: L) ∧ Has ((some (.ref a), some (.own dO)) :: L) i dI ∧ (some v, some (.sh dV)) ∈ L ∧ dSet dO dI dV = some dO' ∧ ∀ H', Rel Z H' src ((some (.ref a), some (.own dO')) :: L) → Q H'
theorem psetR (hu : X.A.units + 64 < cLine) : PSet X (rSt X.K) := by
  intro pins s σ H o i v ov iv u Q I ro ri rv h
  obtain ⟨Z, src, L, a, dO, dI, dV, dO', hK, rfl, R, h1, h2, e, q⟩ := h
  obtain ⟨O, R0⟩ := id R
  have hv : ∀ O, RelO Z H src ((some (.ref a), some (.own dO)) :: L) O → Rp Z.K H O v dV := fun O R0 => by
    obtain ⟨w, e1, z⟩ := R0.ent _ (List.mem_cons_of_mem _ h2) _ rfl
    cases e1; exact z
  have hi := h1
  have step : ∀ O, RelO Z H src ((some (.ref a), some (.own dO)) :: L) O → O a → ∀ o', ∀ b x, H b = some x → ¬ O b → upd H a o' b = some x := fun O R0 oa o' b x e n => by
    rw [upd_ne (fun z => n (by rw [z]; exact oa))]; exact e
  unfold dSet at e
  split at e
  · obtain ⟨j, e1, rfl⟩ := Option.map_eq_some_iff.mp e
    obtain ⟨b, xs, e2, ha, ra⟩ := R0.list (v := .ref a) ⟨_, List.mem_cons_self, rfl⟩
    cases e2
    refine set_list pins s σ H _ i v ov iv u Q I ro ri rv ⟨a, xs, _, j, rfl, R0.int hi, ha, by rw [ra.length]; exact e1, q _ (R.updOwn fun O' R' rO oa => ?_)⟩
    obtain ⟨ys, e3, ry⟩ := rO
    rw [ha] at e3; cases e3
    exact ⟨_, upd_same, (ry.set j (hv O' R')).keep (step O' R' oa _) fun _ z => .inl z⟩
  · obtain ⟨k, e1, e2⟩ := Option.bind_eq_some_iff.mp e
    split at e2
    · rename_i hz
      cases e2
      obtain ⟨b, xs, e2, ha, ra⟩ := R0.dict (v := .ref a) ⟨_, List.mem_cons_self, rfl⟩
      cases e2
      have ek := R0.key hi e1
      subst ek
      refine set_dict (by omega) pins s σ H _ _ v ov iv u Q I ro ri rv ⟨a, _, rfl, DPut.k ha (by rw [ra.length]; exact hz), q _ (R.updOwn fun O' R' rO oa => ?_)⟩
      obtain ⟨ys, e3, ry⟩ := rO
      rw [ha] at e3; cases e3
      exact ⟨_, upd_same, (ry.put k (hv O' R')).keep (step O' R' oa _) fun _ z => .inl z⟩
    · cases e2
  · cases e
theorem mem_zip_set {α β : Type} : ∀ {l : List α} {m : List β} {i : Nat} {x : α × β} {a : α} {b c : β}, x ∈ List.zip l m → l[i]? = some a → m[i]? = some b → x = (a, b) ∨ x ∈ List.zip l (m.set i c)
  | [], m, i, x, a, b, c, h, _, _ => by simp at h
  | _ :: _, [], i, x, a, b, c, h, _, _ => by simp at h
  | p :: l, q :: m, 0, x, a, b, c, h, e1, e2 => by
    simp at e1 e2 h
    subst e1 e2
    rcases h with h | h
    · exact .inl h
    · exact .inr (by simp [h])
  | p :: l, q :: m, i + 1, x, a, b, c, h, e1, e2 => by
    simp at h
    rcases h with h | h
    · exact .inr (by simp [h])
    · rcases mem_zip_set (c := c) h (by simpa using e1) (by simpa using e2) with z | z
      · exact .inl z
      · exact .inr (by simp [z])
theorem mem_takeSlot {sl : List (Option SV)} {i : Nat} {ov : Option V} {os : Option SV} {x : Ent} (h : x ∈ T ++ List.zip σ sl) (h1 : σ[i]? = some ov) (h2 : sl[i]? = some os) : x ∈ (ov, os) :: (T ++ List.zip σ (sl.set i none)) := by
  rcases List.mem_append.mp h with h | h
  · exact List.mem_cons_of_mem _ (List.mem_append_left _ h)
  · rcases mem_zip_set (c := none) h h1 h2 with z | z
    · rw [z]; exact List.mem_cons_self
    · exact List.mem_cons_of_mem _ (List.mem_append_right _ z)
theorem RelS.backSlot {i : Nat} {w : V} {r : SV} {src' : Option Src} {sl : List (Option SV)} (hl : σ.length = sl.length) (hw : σ[i]? = some (some w)) (R : Rel Z H src' ((some w, some r) :: (T ++ List.zip σ (sl.set i none)))) : RelS Z H σ T ⟨sl.set i (some r), src'⟩ := by
  have R1 := Rel.putSlot (i := i) R (by simpa using hl)
  rw [set_id σ i _ hw, List.set_set] at R1
  exact ⟨by simpa using hl, R1⟩
def cSetIx (i : Nat) (fk : Vw) (fv : Ev) : Sm := fun s => (fv s).bind fun r s1 => match r.settle with
  | .sh dV => match s1.sl[i]? with
    | some (some (.own _)) => (fk s1).bind fun dI s2 => match s2.sl[i]? with
      | some (some (.own dO)) => match dSet dO dI dV with
        | some dO' => .ok .nx { s2 with sl := s2.sl.set i (some (.own dO')) }
        | none => .err
      | _ => .err
    | _ => .err
  | _ => .err
theorem snS_setIx {o ix : Expr} {i : Nat} {fk : Vw} {pos pos' : Pos} (hu : X.A.units + 64 < cLine) (ho : PE X o (tVar i)) (hk : SnV X Z W ix fk) (hv : SnE X Z W e f) (hs : swapsWithSole [.Subscript o ix pos'] e pos.line X.env = pure false := by rfl) (hw : swappedStores [.Subscript o ix pos'] e X.env = pure none := by rfl)
    (h1 : (assignEach [.Subscript o ix pos'] X.env).map (·.2) = [assign (.Subscript o ix pos') X.env] := by rfl) (ha : ∀ v, assign (.Subscript o ix pos') X.env v = (do
      let ov ← holding [v] (eval o X.env)
      let iv ← holding [v, ov] (eval ix X.env)
      standAt pos'
      holding [v, ov, iv] (setItem ov iv v)
      release [v, ov, iv] []) := by intro _; rfl) : SnS X Z W (.Assign [.Subscript o ix pos'] e pos) (cSetIx i fk f) := fun k => ps_imp (ps_asg (hv k) (pg_sub ho (hk k) (psetR hu) ha) hs hw h1) fun D σ H ⟨T, s, R, q⟩ => by
  refine ⟨T, s, R, Res.sat_mono (Res.sat_bind.mp q) (fun r s1 q v H1 R1 => ?_) fun e s h => h σ⟩
  split at q
  · rename_i dV er
    have R1 := R1.settleAny
    rw [er] at R1
    split at q
    · rename_i d0 e0
      obtain ⟨w, hw, hm⟩ := R1.slot e0
      refine ⟨w, hw, _, s1, R1, Res.sat_mono (Res.sat_bind.mp q) (fun dI s2 q v2 H2 T' R2 hv2 => ?_) fun e s h dd H' R' => h σ dd H' ⟨R'.1, (R'.perm (List.Perm.swap _ _ _)).pop.2⟩⟩
      split at q
      · rename_i dO e1
        cases e2 : dSet dO dI dV with
        | none => rw [e2] at q; exact q.elim
        | some dO' =>
          rw [e2] at q
          obtain ⟨w', hw', hm'⟩ := R2.slot e1
          rw [hw] at hw'; cases hw'
          have R3 := Rel.takeSlot R2.2 hw e1
          obtain ⟨O, R4⟩ := id R3
          obtain ⟨w1, z1, a, z2, _⟩ := R4.ent _ List.mem_cons_self _ rfl
          cases z1
          subst z2
          obtain ⟨r', hm2, hd⟩ := hv2
          refine ⟨Z, s2.src, _, a, dO, dI, dV, dO', k.symm, rfl, R3, ⟨r', mem_takeSlot hm2 hw e1, hd⟩, by simp, e2, fun H3 R5 => q σ H3 ?_⟩
          have R6 := RelS.backSlot (i := i) R2.1 hw R5
          exact RelS.popN (T' := T' ++ [(some v, some (.sh dV))]) (by simpa using R6)
      · exact q.elim
    · exact q.elim
  · exact q.elim
end
end Pw
set_option Elab.async false
set_option linter.all false
set_option maxRecDepth 100000
namespace Pw
open PySem PySem.Spec PyProof.Rows L2
section
variable {X : Cx} {Z : Zx} {W : WX} {e a b : Expr} {f fa : Ev} {fb : Vw} {H : Hp} {σ σ' : L2.St} {T T' : List Ent} {s s' : S} {L : List Ent} {src : Option Src} {O : Addr → Prop} {v : V}
/-! ### methods -/
def tyD (ty : String) : D → Bool
  | .list _ => ty == "list"
  | .dict _ => ty == "dict"
  | .str _ => ty == "str"
  | _ => false
theorem RelO.ty (r : RelO Z H src L O) {ty : String} {d : D} (h : Has L v d) (e : tyD ty d = true) : tyV Z.K ty v H := by
  cases d <;> simp only [tyD] at e <;> first | (cases e; done) | skip
  · cases r.str h; exact beq_iff_eq.mp e
  · obtain ⟨a, xs, rfl, ha, _⟩ := r.list h
    exact .inl ⟨beq_iff_eq.mp e, xs, SqL.of ha⟩
  · obtain ⟨a, xs, rfl, ha, _⟩ := r.dict h
    exact .inr (.inr (.inl ⟨beq_iff_eq.mp e, .inl ⟨xs, ha⟩⟩))
def AllSh (L : List Ent) (xs : List V) (ds : List D) : Prop := xs.length = ds.length ∧ ∀ e ∈ ents xs (ds.map .sh), e ∈ L
theorem AllSh.rp {xs : List V} {ds : List D} (h : AllSh L xs ds) (r : RelO Z H src L O) : RpA Z.K H O xs ds := by
  obtain ⟨hl, hm⟩ := h
  refine rpA_ents (rs := ds.map .sh) (by simpa using hl) ?_ fun e he => r.ent e (hm e he)
  clear hl hm
  induction ds with
  | nil => rfl
  | cons d ds ih => simp [datas, ih]
theorem datas_sh : ∀ {rs : List SV} {ds : List D}, datas rs = some ds → rs = ds.map .sh
  | [], ds, e => by cases e; rfl
  | r :: rs, ds, e => by
    cases r <;> first | (simp [datas] at e; done) | skip
    simp only [datas, Option.map_eq_some_iff] at e
    obtain ⟨ds', e1, rfl⟩ := e
    rw [datas_sh e1]; rfl
/-- what an owned receiver becomes, what comes back -/
def rM (K : PySem.W.Frag) (g : D → List D → Option (D × SV)) : V → List V → Hp → VK → Prop := fun x xs H Q => ∃ Z src L a dO ds dO' r, Z.K = K ∧ x = .ref a ∧ Rel Z H src ((some (.ref a), some (.own dO)) :: L) ∧ AllSh ((some (.ref a), some (.own dO)) :: L) xs ds ∧ g dO ds = some (dO', r) ∧ ∀ v H', Rel Z H' src ((some v, some r) :: (some (.ref a), some (.own dO')) :: L) → Q v H'
def cMeth (i : Nat) (ty : String) (g : D → List D → Option (D × SV)) (ga : Ag) : Ev := fun s => match s.sl[i]? with
  | some (some (.own d0)) => if tyD ty d0 = true then (ga s).bind fun rs s1 => match s1.sl[i]?, datas rs with
    | some (some (.own dO)), some ds => match g dO ds with
      | some (dO', r) => .ok r { s1 with sl := s1.sl.set i (some (.own dO')) }
      | none => .err
    | _, _ => .err
    else .err
  | _ => .err
theorem rd_meth {i : Nat} {ty : String} {g : D → List D → Option (D × SV)} {ga : Ag} {Q : VK} (q : LE Z W (cMeth i ty g ga) σ H Q) : tBM Z.K ty (rM Z.K g) (tVar i) (LA Z W ga) σ H Q := by
  obtain ⟨T, s, R, q⟩ := q
  unfold cMeth at q
  split at q
  · rename_i d0 e0
    split at q
    · rename_i ht
      obtain ⟨v, hv, hm⟩ := R.slot e0
      obtain ⟨O, R0⟩ := id R.2
      refine ⟨v, hv, R0.ty ⟨_, hm, rfl⟩ ht, T, s, R, Res.sat_mono (Res.sat_bind.mp q) (fun rs s1 q vs H1 hl R1 => ?_) fun e s h => h⟩
      split at q
      · rename_i dO ds e1 e2
        have e3 := datas_sh e2
        subst e3
        cases e4 : g dO ds with
        | none => rw [e4] at q; exact q.elim
        | some p =>
          obtain ⟨dO', r⟩ := p
          rw [e4] at q
          have R3 := Rel.takeSlot R1.2 hv e1
          obtain ⟨O', R4⟩ := id R3
          obtain ⟨w1, z1, a, z2, _⟩ := R4.ent _ List.mem_cons_self _ rfl
          cases z1
          subst z2
          refine ⟨Z, s1.src, _, a, dO, ds, dO', r, rfl, rfl, R3, ⟨by simpa using hl, fun e he => List.mem_cons_of_mem _ (List.mem_append_left _ (List.mem_append_left _ he))⟩, e4, fun w H2 R5 => q w H2 ?_⟩
          have R6 : Rel Z H2 s1.src ((some (.ref a), some (.own dO')) :: (((some w, some r) :: (ents vs (ds.map .sh) ++ T)) ++ List.zip σ (s1.sl.set i none))) := R5.perm (List.Perm.swap _ _ _)
          have R7 := RelS.backSlot (i := i) R1.1 hv R6
          exact RelS.popN (T' := ents vs (ds.map .sh)) (R7.perm (by simpa using List.perm_middle.symm))
      · exact q.elim
    · exact q.elim
  · exact q.elim
theorem snE_meth0 {o : Expr} {i : Nat} {ty id : String} {name : Str} {apos cpos : Pos} {g : D → List D → Option (D × SV)} (pa : PlainAttrs ty) (slot : Slot ty name id) (hty : typeOf (.builtin id) = pure (.type "method_descriptor")) (hm : MtR X id (rM X.K g)) (ho : PE X o (tVar i))
    (hbase : attributeBase o name X.env (eval o X.env) = eval o X.env := by rfl) (hline : (apos.endLine == cpos.line) = true := by rfl) : SnE X Z W (.Call (.Attribute o name apos) [] [] cpos) (cMeth i ty g cNil) := fun k => pe_imp (pe_bm0 pa slot hty hm ho hbase hline) fun σ H Q q => by
  have q := rd_meth q
  rw [← k] at q
  obtain ⟨v, hv, h1, T, s, R, q⟩ := q
  exact ⟨v, hv, h1, q [] H rfl R⟩
theorem snE_meth {o : Expr} {es : List Expr} {i : Nat} {ty id : String} {name : Str} {apos cpos : Pos} {g : D → List D → Option (D × SV)} {ga : Ag} (pa : PlainAttrs ty) (slot : Slot ty name id) (hty : typeOf (.builtin id) = pure (.type "method_descriptor")) (hm : MtR X id (rM X.K g)) (ho : PE X o (tVar i)) (ha : SnA X Z W (e :: es) ga)
    (hbase : attributeBase o name X.env (eval o X.env) = eval o X.env := by rfl)
    (hfew : ((backTo cpos (starEach (e :: es) X.env)).all (fun x => !x.1) && (backToKw cpos (keywordEach [] X.env)).all (fun x => x.1.isSome) && decide ((e :: es).length + ([] : List Keyword).length + (if ([] : List Keyword).isEmpty then 0 else 1) < 30)) = true := by rfl)
    (hline : (apos.endLine == cpos.line) = true := by rfl) (hs : starEach (e :: es) X.env = (false, eval e X.env) :: starEach es X.env := by rfl) (hplain : (backTo cpos (starEach es X.env)).any (·.1) = false := by rfl) : SnE X Z W (.Call (.Attribute o name apos) (e :: es) [] cpos) (cMeth i ty g ga) := fun k =>
  pe_imp (pe_bm pa slot hty hm ho (ha k) hbase hfew hline hs hplain) fun σ H Q q => by
    have q := rd_meth q
    rw [← k] at q
    exact q
/-- a method that only looks -/
def rMV (K : PySem.W.Frag) (g : D → List D → Option SV) : V → List V → Hp → VK → Prop := fun x xs H Q => ∃ Z src L dO ds r, Z.K = K ∧ Rel Z H src L ∧ Has L x dO ∧ AllSh L xs ds ∧ g dO ds = some r ∧ ∀ v H', Rel Z H' src ((some v, some r) :: L) → Q v H'
def cMethV (i : Nat) (ty : String) (g : D → List D → Option SV) (ga : Ag) : Ev := fun s => match datAt s i with
  | some d0 => if tyD ty d0 = true then (ga s).bind fun rs s1 => match datAt s1 i, datas rs with
    | some dO, some ds => Res.opt (g dO ds) s1
    | _, _ => .err
    else .err
  | none => .err
def cMethE (ty : String) (g : D → List D → Option SV) (f : Ev) (ga : Ag) : Ev := fun s => (f s).bind fun r s0 => match r.dat with
  | some d0 => if tyD ty d0 = true then (ga s0).bind fun rs s1 => match datas rs with
    | some ds => Res.opt (g d0 ds) s1
    | _ => .err
    else .err
  | none => .err
theorem rd_methV {i : Nat} {ty : String} {g : D → List D → Option SV} {ga : Ag} {Q : VK} (q : LE Z W (cMethV i ty g ga) σ H Q) : tBM Z.K ty (rMV Z.K g) (tVar i) (LA Z W ga) σ H Q := by
  obtain ⟨T, s, R, q⟩ := q
  unfold cMethV at q
  split at q
  · rename_i d0 e0
    split at q
    · rename_i ht
      obtain ⟨v, hv, hm⟩ := R.datAt e0
      obtain ⟨O, R0⟩ := id R.2
      refine ⟨v, hv, R0.ty hm ht, T, s, R, Res.sat_mono (Res.sat_bind.mp q) (fun rs s1 q vs H1 hl R1 => ?_) fun e s h => h⟩
      split at q
      · rename_i dO ds e1 e2
        have e3 := datas_sh e2
        subst e3
        obtain ⟨r, e4, q⟩ := sat_opt q
        obtain ⟨v', hv', hm'⟩ := R1.datAt e1
        rw [hv] at hv'; cases hv'
        refine ⟨Z, s1.src, _, dO, ds, r, rfl, R1.2, hm', ⟨by simpa using hl, fun e he => List.mem_append_left _ (List.mem_append_left _ he)⟩, e4, fun w H2 R5 => q w H2 ⟨R1.1, ?_⟩⟩
        have R6 : Rel Z H2 s1.src ((some w, some r) :: (ents vs (ds.map .sh) ++ (T ++ List.zip σ s1.sl))) := by simpa using R5
        exact R6.mid
      · exact q.elim
    · exact q.elim
  · exact q.elim
theorem rd_methE {ty : String} {g : D → List D → Option SV} {ga : Ag} {Q : VK} (q : LE Z W (cMethE ty g f ga) σ H Q) : tBM Z.K ty (rMV Z.K g) (LE Z W f) (LA Z W ga) σ H Q := by
  obtain ⟨T, s, R, q⟩ := q
  refine ⟨T, s, R, Res.sat_mono (Res.sat_bind.mp q) (fun r s0 q v H0 R0 => ?_) fun e s h => h⟩
  cases e0 : r.dat with
  | none => rw [e0] at q; exact q.elim
  | some d0 =>
    simp only [e0] at q
    split at q
    · rename_i ht
      obtain ⟨O, Q0⟩ := id R0.2
      have hm : Has ((some v, some r) :: T ++ List.zip σ s0.sl) v d0 := ⟨r, by simp, e0⟩
      refine ⟨Q0.ty hm ht, _, s0, R0, Res.sat_mono (Res.sat_bind.mp q) (fun rs s1 q vs H1 hl R1 => ?_) fun e s h dd H' R' => h dd H' ⟨R'.1, (R'.perm (List.Perm.swap _ _ _)).pop.2⟩⟩
      split at q
      · rename_i ds e2
        have e3 := datas_sh e2
        subst e3
        obtain ⟨r', e4, q⟩ := sat_opt q
        refine ⟨Z, s1.src, _, d0, ds, r', rfl, R1.2, ⟨r, by simp, e0⟩, ⟨by simpa using hl, fun e he => List.mem_append_left _ (List.mem_append_left _ he)⟩, e4, fun w H2 R5 => q w H2 ⟨R1.1, ?_⟩⟩
        have R6 : Rel Z H2 s1.src ((some w, some r') :: ((ents vs (ds.map .sh) ++ [(some v, some r)]) ++ (T ++ List.zip σ s1.sl))) := by simpa using R5
        exact R6.mid
      · exact q.elim
    · exact q.elim
section
variable {o : Expr} {es : List Expr} {i : Nat} {ty id : String} {name : Str} {apos cpos : Pos} {g : D → List D → Option SV} {ga : Ag}
theorem snE_methV0 (pa : PlainAttrs ty) (slot : Slot ty name id) (hty : typeOf (.builtin id) = pure (.type "method_descriptor")) (hm : MtR X id (rMV X.K g)) (ho : PE X o (tVar i)) (hbase : attributeBase o name X.env (eval o X.env) = eval o X.env := by rfl) (hline : (apos.endLine == cpos.line) = true := by rfl) :
    SnE X Z W (.Call (.Attribute o name apos) [] [] cpos) (cMethV i ty g cNil) := fun k => pe_imp (pe_bm0 pa slot hty hm ho hbase hline) fun σ H Q q => by
  have q := rd_methV q
  rw [← k] at q
  obtain ⟨v, hv, h1, T, s, R, q⟩ := q
  exact ⟨v, hv, h1, q [] H rfl R⟩
theorem snE_methV (pa : PlainAttrs ty) (slot : Slot ty name id) (hty : typeOf (.builtin id) = pure (.type "method_descriptor")) (hm : MtR X id (rMV X.K g)) (ho : PE X o (tVar i)) (ha : SnA X Z W (e :: es) ga) (hbase : attributeBase o name X.env (eval o X.env) = eval o X.env := by rfl)
    (hfew : ((backTo cpos (starEach (e :: es) X.env)).all (fun x => !x.1) && (backToKw cpos (keywordEach [] X.env)).all (fun x => x.1.isSome) && decide ((e :: es).length + ([] : List Keyword).length + (if ([] : List Keyword).isEmpty then 0 else 1) < 30)) = true := by rfl)
    (hline : (apos.endLine == cpos.line) = true := by rfl) (hs : starEach (e :: es) X.env = (false, eval e X.env) :: starEach es X.env := by rfl) (hplain : (backTo cpos (starEach es X.env)).any (·.1) = false := by rfl) : SnE X Z W (.Call (.Attribute o name apos) (e :: es) [] cpos) (cMethV i ty g ga) := fun k =>
  pe_imp (pe_bm pa slot hty hm ho (ha k) hbase hfew hline hs hplain) fun σ H Q q => by
    have q := rd_methV q
    rw [← k] at q
    exact q
theorem snE_methE0 (pa : PlainAttrs ty) (slot : Slot ty name id) (hty : typeOf (.builtin id) = pure (.type "method_descriptor")) (hm : MtR X id (rMV X.K g)) (ho : SnE X Z W o f) (hbase : attributeBase o name X.env (eval o X.env) = eval o X.env := by rfl) (hline : (apos.endLine == cpos.line) = true := by rfl) :
    SnE X Z W (.Call (.Attribute o name apos) [] [] cpos) (cMethE ty g f cNil) := fun k => pe_imp (pe_bm0 pa slot hty hm (ho k) hbase hline) fun σ H Q q => by
  have q := rd_methE q
  rw [← k] at q
  obtain ⟨T, s, R, q⟩ := q
  exact ⟨T, s, R, Res.sat_mono q (fun r s1 q v H1 R1 => let ⟨h1, T2, s2, R2, q2⟩ := q v H1 R1; ⟨h1, q2 [] H1 rfl R2⟩) fun e s h => h⟩
theorem snE_methE (pa : PlainAttrs ty) (slot : Slot ty name id) (hty : typeOf (.builtin id) = pure (.type "method_descriptor")) (hm : MtR X id (rMV X.K g)) (ho : SnE X Z W o f) (ha : SnA X Z W (e :: es) ga) (hbase : attributeBase o name X.env (eval o X.env) = eval o X.env := by rfl)
    (hfew : ((backTo cpos (starEach (e :: es) X.env)).all (fun x => !x.1) && (backToKw cpos (keywordEach [] X.env)).all (fun x => x.1.isSome) && decide ((e :: es).length + ([] : List Keyword).length + (if ([] : List Keyword).isEmpty then 0 else 1) < 30)) = true := by rfl)
    (hline : (apos.endLine == cpos.line) = true := by rfl) (hs : starEach (e :: es) X.env = (false, eval e X.env) :: starEach es X.env := by rfl) (hplain : (backTo cpos (starEach es X.env)).any (·.1) = false := by rfl) : SnE X Z W (.Call (.Attribute o name apos) (e :: es) [] cpos) (cMethE ty g f ga) := fun k =>
  pe_imp (pe_bm pa slot hty hm (ho k) (ha k) hbase hfew hline hs hplain) fun σ H Q q => by
    have q := rd_methE q
    rw [← k] at q
    exact q
end
end
section
variable {X : Cx} {Z : Zx} {H : Hp} {σ : L2.St} {L : List Ent} {src : Option Src} {O : Addr → Prop} {v : V} {pins : List (Addr × Obj)}
/-! ### lists' own methods -/
theorem RelO.ownList (r : RelO Z H src L O) {a : Addr} {ds : List D} (h : (some (V.ref a), some (SV.own (.list ds))) ∈ L) : ∃ xs, H a = some (.lst xs) ∧ RpA Z.K H O xs ds ∧ O a := by
  obtain ⟨w, e1, b, e2, oa, _, _, z⟩ := r.ent _ h _ rfl
  cases e1
  cases e2
  obtain ⟨xs, h1, h2⟩ := z
  exact ⟨xs, h1, h2, oa⟩
theorem RelO.ownDict (r : RelO Z H src L O) {a : Addr} {ds : List (D × D)} (h : (some (V.ref a), some (SV.own (.dict ds))) ∈ L) : ∃ xs, H a = some (.dK xs) ∧ RpD Z.K H O xs ds ∧ O a := by
  obtain ⟨w, e1, b, e2, oa, _, _, z⟩ := r.ent _ h _ rfl
  cases e1
  cases e2
  obtain ⟨xs, h1, h2⟩ := z
  exact ⟨xs, h1, h2, oa⟩
theorem rp_upd {K} {a : Addr} {o : HO} (oa : O a) {w : V} {d : D} (h : Rp K H O w d) : Rp K (upd H a o) O w d := h.keep (fun b x e n => by rw [upd_ne (fun z => n (by rw [z]; exact oa))]; exact e) fun _ z => .inl z
theorem rpA_upd {K} {a : Addr} {o : HO} (oa : O a) {w : List V} {d : List D} (h : RpA K H O w d) : RpA K (upd H a o) O w d := h.keep (fun b x e n => by rw [upd_ne (fun z => n (by rw [z]; exact oa))]; exact e) fun _ z => .inl z
theorem rpD_upd {K} {a : Addr} {o : HO} (oa : O a) {w : List (Key × V)} {d : List (D × D)} (h : RpD K H O w d) : RpD K (upd H a o) O w d := h.keep (fun b x e n => by rw [upd_ne (fun z => n (by rw [z]; exact oa))]; exact e) fun _ z => .inl z
/-- the owned list is another one; what comes back is shared -/
theorem Rel.listTo {a : Addr} {ds ds' : List D} {xs' : List V} {w : V} {d : D} (R : Rel Z H src ((some (.ref a), some (.own (.list ds))) :: L)) (h : ∀ O, RelO Z H src ((some (.ref a), some (.own (.list ds))) :: L) O → RpA Z.K H O xs' ds' ∧ Rp Z.K H O w d) : Rel Z (upd H a (.lst xs')) src ((some w, some (.sh d)) :: (some (.ref a), some (.own (.list ds'))) :: L) := by
  have R1 : Rel Z H src ((some w, some (.sh d)) :: (some (.ref a), some (.own (.list ds))) :: L) := let ⟨O, r⟩ := R; r.pushSh (h O r).2
  have R2 := R1.perm (List.Perm.swap _ _ _)
  have R3 := R2.updOwn (o := .lst xs') (d' := .list ds') fun O' R' z oa => ?_
  · exact R3.perm (List.Perm.swap _ _ _)
  · have Rc : RelO Z H src ((some (.ref a), some (.own (.list ds))) :: L) O' := ⟨R'.oc, fun e he => R'.ent e (by
      rcases List.mem_cons.mp he with rfl | he
      · simp
      · simp [he]), (List.pairwise_cons.mp ((List.Perm.swap (some w, some (SV.sh d)) (some (V.ref a), some (SV.own (.list ds))) L).pairwise_iff (R := Apart) (fun h => h.symm) |>.mp R'.ap)).2, R'.src, R'.base, R'.live⟩
    exact ⟨xs', upd_same, rpA_upd oa (h O' Rc).1⟩
def mAppend : D → List D → Option (D × SV)
  | .list xs, [x] => if xs.length < sizeLine then some (.list (xs ++ [x]), .sh .none) else none
  | _, _ => none
theorem mt_appendR : MtR X "list.append" (rM X.K mAppend) := by
  intro pins s σ H x xs v us Q I rx rs h
  obtain ⟨Z, src, L, a, dO, ds, dO', r, hK, rfl, R, h1, e, q⟩ := h
  obtain ⟨O, R0⟩ := id R
  unfold mAppend at e
  split at e
  · rename_i ys y
    split at e
    · rename_i hz
      cases e
      obtain ⟨zs, ha, ra, oa⟩ := R0.ownList List.mem_cons_self
      have h2 := h1.rp R0
      cases h2 with
      | cons h2 h3 =>
        cases h3
        refine mt_append pins s σ H _ _ v us Q I rx rs ⟨a, zs, _, rfl, rfl, ha, by rw [ra.length]; exact hz, q _ _ (R.listTo fun O' R' => ⟨?_, .non⟩)⟩
        obtain ⟨zs', ha', ra', _⟩ := R'.ownList List.mem_cons_self
        rw [ha] at ha'; cases ha'
        exact ra'.append (h1.rp R')
    · cases e
  · cases e
def mPop : D → List D → Option (D × SV)
  | .list xs, [] => (xs[xs.length - 1]?).map fun y => (.list xs.dropLast, .sh y)
  | .list xs, [.int i] => if 0 ≤ i ∧ i < 2 ^ 63 then (xs[i.toNat]?).map fun y => (.list (xs.eraseIdx i.toNat), .sh y) else none
  | _, _ => none
theorem RpA.dropLast {K} {vs : List V} {ds : List D} (h : RpA K H O vs ds) : RpA K H O vs.dropLast ds.dropLast := by
  rw [List.dropLast_eq_take, List.dropLast_eq_take, h.length]; exact h.take _
theorem mt_popR : MtR X "list.pop" (rM X.K mPop) := by
  intro pins s σ H x xs v us Q I rx rs h
  obtain ⟨Z, src, L, a, dO, ds, dO', r, hK, rfl, R, h1, e, q⟩ := h
  obtain ⟨O, R0⟩ := id R
  have h2 := h1.rp R0
  unfold mPop at e
  split at e
  · obtain ⟨y, e1, e2⟩ := Option.map_eq_some_iff.mp e
    cases e2
    cases h2
    obtain ⟨zs, ha, ra, oa⟩ := R0.ownList List.mem_cons_self
    obtain ⟨w, e3, rw'⟩ := ra.get e1
    refine mt_pop pins s σ H _ _ v us Q I rx rs ⟨a, zs, w, rfl, rfl, ha, by rw [ra.length]; exact e3, q _ _ (R.listTo fun O' R' => ?_)⟩
    obtain ⟨zs', ha', ra', _⟩ := R'.ownList List.mem_cons_self
    rw [ha] at ha'; cases ha'
    obtain ⟨w', e3', rw''⟩ := ra'.get e1
    rw [e3] at e3'; cases e3'
    exact ⟨ra'.dropLast, rw''⟩
  · rename_i i
    split at e
    · rename_i hz
      obtain ⟨y, e1, e2⟩ := Option.map_eq_some_iff.mp e
      cases e2
      obtain ⟨zs, ha, ra, oa⟩ := R0.ownList List.mem_cons_self
      obtain ⟨w, e3, rw'⟩ := ra.get e1
      cases h2 with
      | cons h2 h3 =>
        cases h3
        have e5 := h2.int_inv
        subst e5
        have hlt : i.toNat < zs.length := (List.getElem?_eq_some_iff.mp e3).1
        refine mt_popAt pins s σ H _ _ v us Q I rx rs ⟨a, zs, i, i.toNat, w, rfl, rfl, ha, by omega, hz.2, ?_, e3, q _ _ (R.listTo fun O' R' => ?_)⟩
        · have z : ixN zs.length i = some i.toNat := by unfold ixN; rw [if_pos hz.1, if_pos (by omega)]
          exact (ixN_seq z).1
        · obtain ⟨zs', ha', ra', _⟩ := R'.ownList List.mem_cons_self
          rw [ha] at ha'; cases ha'
          obtain ⟨w', e3', rw''⟩ := ra'.get e1
          rw [e3] at e3'; cases e3'
          exact ⟨ra'.eraseIdx _, rw''⟩
    · cases e
  · cases e
end
end Pw
set_option Elab.async false
set_option linter.all false
set_option maxRecDepth 100000
namespace Pw
open PySem PySem.Spec PyProof.Rows L2
section
variable {X : Cx} {Z : Zx} {W : WX} {e a b tg : Expr} {f fa : Ev} {fb : Vw} {H : Hp} {σ σ' : L2.St} {T T' : List Ent} {s s' : S} {L : List Ent} {src : Option Src} {O : Addr → Prop} {v : V} {c : Tt} {m m1 m2 : Sm}
/-! ### blocks -/
def cSkip : Sm := fun s => .ok .nx s
def cSeq (m1 m2 : Sm) : Sm := fun s => (m1 s).bind fun fl s1 => match fl with
  | .nx => m2 s1
  | fl => .ok fl s1
theorem snB_nil : SnB X Z W [] cSkip := fun _ => pss_imp pss_nil fun D σ H ⟨T, s, R, q⟩ => q σ H R
theorem snB_one {st : Stmt} (h : SnS X Z W st m) : SnB X Z W [st] m := fun k => pss_one (h k)
theorem snB_cons {st : Stmt} {sts : List Stmt} (h : SnS X Z W st m1) (h2 : SnB X Z W sts m2) : SnB X Z W (st :: sts) (cSeq m1 m2) := fun k => pss_imp (pss_cons (h k) (h2 k)) fun D σ H ⟨T, s, R, q⟩ => by
  refine ⟨T, s, R, Res.sat_mono (Res.sat_bind.mp q) (fun fl s1 q => ?_) fun e s h => h⟩
  cases fl with
  | nx => exact fun σ1 H1 R1 => ⟨T, s1, R1, q⟩
  | ret r => exact q
  | bk => exact q
  | ct => exact q
theorem snS_pass {pos} : SnS X Z W (.Pass pos) cSkip := fun _ => ps_imp ps_pass fun D σ H ⟨T, s, R, q⟩ => q σ H R
def cBk : Sm := fun s => .ok .bk s
def cCt : Sm := fun s => .ok .ct s
theorem snS_break {pos} : SnS X Z W (.Break pos) cBk := fun _ => ps_imp ps_break fun D σ H ⟨T, s, R, q⟩ => q σ H R
theorem snS_continue {pos} : SnS X Z W (.Continue pos) cCt := fun _ => ps_imp ps_continue fun D σ H ⟨T, s, R, q⟩ => q σ H R
def cExpr (f : Ev) : Sm := fun s => (f s).bind fun _ s1 => .ok .nx s1
theorem snS_expr {pos} (he : SnE X Z W e f) (hs : swapsWith e none pos.line X.env = pure false := by rfl) : SnS X Z W (.Expr e pos) (cExpr f) := fun k => ps_imp (ps_expr (he k) hs) fun D σ H ⟨T, s, R, q⟩ =>
  ⟨T, s, R, Res.sat_mono (Res.sat_bind.mp q) (fun r s1 q v H1 R1 => q σ H1 R1.pop) fun e s h => h σ⟩
def cRet (f : Ev) : Sm := fun s => (f s).bind fun r s1 => .ok (.ret r) s1
theorem snS_ret {pos} (he : SnE X Z W e f) : SnS X Z W (.Return (some e) pos) (cRet f) := fun k => ps_imp (ps_ret (he k)) fun D σ H ⟨T, s, R, q⟩ =>
  ⟨T, s, R, Res.sat_mono (Res.sat_bind.mp q) (fun r s1 q v H1 R1 => q v σ H1 R1) fun e s h => h σ⟩
theorem snS_retN {pos} : SnS X Z W (.Return none pos) (cRet (cD .none)) := fun k => ps_imp ps_retN fun D σ H ⟨T, s, R, q⟩ => q _ σ H ⟨R.1, R.2.non⟩
def cIfS (c : Tt) (m1 m2 : Sm) : Sm := fun s => (c s).bind fun b s1 => if b = true then m1 s1 else m2 s1
theorem snS_if {t : Expr} {sa sb : List Stmt} {pos} (hc : SnT X Z W t c) (ha : SnB X Z W sa m1) (hb : SnB X Z W sb m2) : SnS X Z W (.If t sa sb pos) (cIfS c m1 m2) := fun k => ps_imp (ps_if (hc k) (ha k) (hb k)) fun D σ H ⟨T, s, R, q⟩ => by
  refine ⟨T, s, R, Res.sat_mono (Res.sat_bind.mp q) (fun b s1 q H1 R1 => ?_) fun e s h => h σ⟩
  cases b with
  | true => exact ⟨T, s1, R1, q⟩
  | false => exact ⟨T, s1, R1, q⟩
/-! ### while -/
def whileL (c : Tt) (m : Sm) : Nat → S → Res Fl
  | 0, _ => .err
  | n + 1, s => (c s).bind fun b s1 => if b = true then (m s1).bind fun fl s2 => match fl with
      | .nx => whileL c m n s2
      | .ct => whileL c m n s2
      | .bk => .ok .nx s2
      | .ret r => .ok (.ret r) s2
    else .ok .nx s1
def FUEL : Nat := 1000000000
def cWhile (c : Tt) (m : Sm) : Sm := fun s => whileL c m FUEL s
theorem snS_while {t : Expr} {body : List Stmt} {pos} (hp : PassesOwn (model X.prog X.w) X.A X.env X.xe) (hc : SnT X Z W t c) (hb : SnB X Z W body m) : SnS X Z W (.While t body [] pos) (cWhile c m) := fun k => ps_imp (ps_while hp (hc k) (hb k)) fun D σ H ⟨T, s, R, q⟩ => by
  refine ⟨fun n σ H => ∃ s, RelS Z H σ T s ∧ (whileL c m n s).sat (FlP Z T D) (ExS Z T W), ⟨FUEL, s, R, q⟩, ?_⟩
  rintro n σ H ⟨s, R, q⟩
  cases n with
  | zero => exact q.elim
  | succ n =>
    refine ⟨T, s, R, Res.sat_mono (Res.sat_bind.mp q) (fun b s1 q H1 R1 => ?_) fun e s h => h σ⟩
    cases b with
    | false => exact q σ H1 R1
    | true =>
      refine ⟨fun σ' H' => ∃ s, RelS Z H' σ' T s ∧ (whileL c m n s).sat (FlP Z T D) (ExS Z T W), fun σ' H' h => ⟨n, Nat.lt_succ_self n, h⟩, T, s1, R1, Res.sat_mono (Res.sat_bind.mp q) (fun fl s2 q => ?_) fun e s h => h⟩
      cases fl with
      | nx => exact fun σ2 H2 R2 => ⟨s2, R2, q⟩
      | ct => exact fun σ2 H2 R2 => ⟨s2, R2, q⟩
      | bk => exact fun σ2 H2 R2 => q σ2 H2 R2
      | ret r => exact q
/-! ### what is walked -/
abbrev Itf := S → Res (List SV)
/-- the iterator gives these, one by one, as long as what is walked stands -/
def JSpecD (Z : Zx) (E : List Ent) (J : It) (ds : List D) : Prop := ∀ H src L, Rel Z H src L → (∀ x ∈ E, x ∈ L) → ∀ i,
  (∀ d, ds[i]? = some d → J.go i H ∧ ∀ x H', J.yld i H x H' → Rel Z H' src ((some x, some (.sh d)) :: L)) ∧ (ds.length ≤ i → J.stop i H)
def JSpec (Z : Zx) (E : List Ent) (J : It) (ds : List SV) : Prop := ∀ H src L, Rel Z H src L → (∀ x ∈ E, x ∈ L) → ∀ i,
  (∀ d, ds[i]? = some d → J.go i H ∧ ∀ x H', J.yld i H x H' → Rel Z H' src ((some x, some d) :: L)) ∧ (ds.length ≤ i → J.stop i H)
def shs (ds : List D) : List SV := ds.map .sh
theorem JSpecD.up {E : List Ent} {J : It} {ds : List D} (h : JSpecD Z E J ds) : JSpec Z E J (shs ds) := fun H src L R hE i => ⟨fun d hd => by
  unfold shs at hd
  rw [List.getElem?_map] at hd
  obtain ⟨c, hc, rfl⟩ := Option.map_eq_some_iff.mp hd
  exact (h H src L R hE i).1 c hc, fun hi => (h H src L R hE i).2 (by simpa [shs] using hi)⟩
def LI (Z : Zx) (W : WX) (f : Itf) : TI := fun σ H R => ∃ T s, RelS Z H σ T s ∧ (f s).sat (fun ds s' => ∀ J H' T', RelS Z H' σ (T' ++ T) s' → JSpec Z T' J ds → R J H') (ExP Z σ T W)
def SnI (X : Cx) (Z : Zx) (W : WX) (tg iter : Expr) (f : Itf) : Prop := X.K = Z.K → PI X tg iter (LI Z W f)
def forL (g : Tg) (m : Sm) : List SV → S → Res Fl
  | [], s => .ok .nx s
  | d :: ds, s => match g d s with
    | none => .err
    | some s1 => (m s1).bind fun fl s2 => match fl with
      | .nx => forL g m ds s2
      | .ct => forL g m ds s2
      | .bk => .ok .nx s2
      | .ret r => .ok (.ret r) s2
def cFor (f : Itf) (g : Tg) (m : Sm) : Sm := fun s => (f s).bind fun ds s1 => forL g m ds s1
theorem drop_at {α : Type} {l : List α} {i : Nat} {d : α} (h : l[i]? = some d) : l.drop i = d :: l.drop (i + 1) := by
  obtain ⟨hi, e⟩ := List.getElem?_eq_some_iff.mp h
  rw [List.drop_eq_getElem_cons hi, e]
theorem FlP.less {D : Ends} {fl : Fl} (T' : List Ent) (q : FlP Z T D fl s) : FlP Z (T' ++ T) D fl s := by
  cases fl with
  | nx => exact fun σ H R => q σ H R.popN
  | bk => exact fun σ H R => q σ H R.popN
  | ct => exact fun σ H R => q σ H R.popN
  | ret r => exact fun v σ H R => q v σ H (RelS.popN (T' := T') (R.perm List.perm_middle.symm))
theorem ExP.less {e : Ex} (T' : List Ent) (q : ExP Z σ T W e s) : ExP Z σ (T' ++ T) W e s := fun dd H R => q dd H (RelS.popN (T' := T') (R.perm List.perm_middle.symm))
theorem snS_for {iter : Expr} {body : List Stmt} {fi : Itf} {g : Tg} {is : List Nat} {pos} (hp : PassesOwn (model X.prog X.w) X.A X.env X.xe) (hc : X.calm = true) (hi : SnI X Z W tg iter fi) (hg : SnG X Z tg g is) (hb : SnB X Z W body m)
    (hs : ∀ x, foldedSetIterable iter X.env x = pure x := by intro _; rfl) : SnS X Z W (.For tg iter body [] pos) (cFor fi g m) := fun k => ps_imp (ps_for hp hc (hi k) (hg k) (hb k) hs) fun D σ H ⟨T, s, R, q⟩ => by
  refine ⟨T, s, R, Res.sat_mono (Res.sat_bind.mp q) (fun ds s1 q J H1 T' R1 hJ => ?_) fun e s h => h σ⟩
  refine ⟨fun i n σ H => ∃ s, i + n = ds.length ∧ RelS Z H σ (T' ++ T) s ∧ (forL g m (ds.drop i) s).sat (FlP Z T D) (ExS Z T W), ⟨ds.length, s1, by simp, R1, q⟩, ?_⟩
  rintro i n σ H ⟨s, en, R, q⟩
  have hJ' := hJ H s.src _ R.2 (fun x hx => List.mem_append_left _ (List.mem_append_left _ hx)) i
  cases e : ds[i]? with
  | none =>
    have hi : ds.length ≤ i := List.getElem?_eq_none_iff.mp e
    rw [List.drop_eq_nil_of_le hi] at q
    exact .inl ⟨hJ'.2 hi, q σ H R.popN⟩
  | some d =>
    rw [drop_at e] at q
    obtain ⟨go, yl⟩ := hJ'.1 d e
    have hi : i < ds.length := (List.getElem?_eq_some_iff.mp e).1
    refine .inr ⟨go, fun σ' H' => ∃ s, RelS Z H' σ' (T' ++ T) s ∧ (forL g m (ds.drop (i + 1)) s).sat (FlP Z T D) (ExS Z T W), fun σ' H' ⟨s, R, q⟩ => ⟨n - 1, by omega, s, by omega, R, q⟩, fun x H' hy => ?_⟩
    unfold forL at q
    cases e2 : g d s with
    | none => rw [e2] at q; exact q.elim
    | some s2 =>
      rw [e2] at q
      refine ⟨T' ++ T, s, d, s2, ⟨R.1, yl x H' hy⟩, e2, fun σ2 R2 _ => ⟨T' ++ T, s2, R2, Res.sat_mono (Res.sat_bind.mp q) (fun fl s3 q => ?_) fun e s h σ => (h σ).less T'⟩⟩
      cases fl with
      | nx => exact fun σ3 H3 R3 => ⟨s3, R3, q⟩
      | ct => exact fun σ3 H3 R3 => ⟨s3, R3, q⟩
      | bk => exact fun σ3 H3 R3 => q σ3 H3 R3.popN
      | ret r => exact FlP.less (fl := .ret r) (D := D) T' q
/-! ### comprehensions -/
def W0 : WX := fun _ _ _ _ => False
def Res.quiet {α : Type} : Res α → Res α
  | .exc _ _ => .err
  | r => r
theorem sat_quiet {α : Type} {r : Res α} {Q : α → S → Prop} {E E' : Ex → S → Prop} (h : r.quiet.sat Q E) : r.sat Q E' := by
  cases r <;> first | exact h | exact h.elim
def cYes : Tt := fun s => .ok true s
def SnTs (X : Cx) (Z : Zx) (W : WX) (ifs : List Expr) (f : Tt) : Prop := X.K = Z.K → PTs X ifs (LT Z W f)
theorem pts_imp {ifs : List Expr} {t t' : TT} (h : PTs X ifs t) (i : ∀ σ H Q, t' σ H Q → t σ H Q) : PTs X ifs t' := ⟨fun pins s σ H Q I q => h.run pins s σ H Q I (i σ H Q q)⟩
theorem snTs_nil : SnTs X Z W [] cYes := fun _ => pts_imp pts_nil fun σ H Q ⟨T, s, R, q⟩ => q H R
theorem snTs_one (h : SnT X Z W e c) : SnTs X Z W [e] c := fun k => pts_one (h k)
def wipeS : List Nat → S → S
  | [], s => s
  | v :: vs, s => { wipeS vs s with sl := (wipeS vs s).sl.set v none }
def backS : List Nat → S → S → S
  | [], _, s => s
  | v :: vs, s0, s => backS vs s0 { s with sl := s.sl.set v (((wipeS vs s0).sl[v]?).join) }
theorem wipeS_src : ∀ (vs : List Nat) (s : S), (wipeS vs s).src = s.src
  | [], _ => rfl
  | v :: vs, s => wipeS_src vs s
theorem RelS.wiped : ∀ (vs : List Nat) {s : S}, RelS Z H σ T s → ∃ E, RelS Z H (wipe σ vs) (E ++ T) (wipeS vs s) ∧ ∀ {H' : Hp} {T2 : List Ent} {s' : S}, RelS Z H' (L2.wipe σ vs) (T2 ++ (E ++ T)) s' → RelS Z H' σ (T2 ++ T) (backS vs s s')
  | [], s, R => ⟨[], R, fun R' => R'⟩
  | v :: vs, s, R => by
    obtain ⟨E, R1, back⟩ := RelS.wiped vs R
    by_cases hv : v < (L2.wipe σ vs).length
    · have h1 : (L2.wipe σ vs)[v]? = some (L2.wipe σ vs)[v] := List.getElem?_eq_getElem hv
      have hv2 : v < (wipeS vs s).sl.length := R1.1 ▸ hv
      have h2 : (wipeS vs s).sl[v]? = some (wipeS vs s).sl[v] := List.getElem?_eq_getElem hv2
      have R2 := Rel.takeSlot R1.2 h1 h2
      have R3 : Rel Z H (wipeS vs s).src ((none, none) :: ((((L2.wipe σ vs)[v], (wipeS vs s).sl[v]) :: (E ++ T)) ++ List.zip (L2.wipe σ vs) ((wipeS vs s).sl.set v none))) := Rel.triv R2
      have R4 := Rel.putSlot (i := v) R3 (by simpa using R1.1)
      rw [List.set_set] at R4
      refine ⟨((L2.wipe σ vs)[v], (wipeS vs s).sl[v]) :: E, ⟨by unfold L2.wipe wipeS; simpa using R1.1, R4⟩, fun {H' T2 s'} R' => ?_⟩
      have R' : RelS Z H' ((L2.wipe σ vs).set v none) (T2 ++ ((((L2.wipe σ vs)[v], (wipeS vs s).sl[v]) :: E) ++ T)) s' := R'
      unfold backS
      refine back (T2 := T2) ?_
      rw [h2]
      have R5 : Rel Z H' s'.src (((L2.wipe σ vs)[v], (wipeS vs s).sl[v]) :: ((T2 ++ (E ++ T)) ++ List.zip ((L2.wipe σ vs).set v none) s'.sl)) := by
        refine R'.2.perm ?_
        simp only [List.append_assoc, List.cons_append]
        exact List.perm_middle
      have R6 := Rel.putSlot (i := v) R5 R'.1
      rw [List.set_set, set_id _ v _ h1] at R6
      exact ⟨by have := R'.1; simpa using this, R6⟩
    · have e1 : (L2.wipe σ vs).set v none = L2.wipe σ vs := List.set_eq_of_length_le (by omega)
      have e2 : (wipeS vs s).sl.set v none = (wipeS vs s).sl := List.set_eq_of_length_le (by rw [← R1.1]; omega)
      refine ⟨E, by unfold L2.wipe wipeS; rw [e1, e2]; exact R1, fun {H' T2 s'} R' => ?_⟩
      unfold L2.wipe at R'
      rw [e1] at R'
      unfold backS
      rw [List.set_eq_of_length_le (by rw [← R'.1]; omega)]
      exact back R'
theorem wipe_at (σ : L2.St) (j : Nat) : ∀ vs : List Nat, (wipe σ vs)[j]? = if j ∈ vs then (if j < σ.length then some none else none) else σ[j]?
  | [] => by simp [wipe]
  | v :: vs => by
    unfold wipe
    by_cases e : v = j
    · subst e
      rw [List.getElem?_set]
      simp [wipe_length]
    · rw [List.getElem?_set_ne e, wipe_at σ j vs]
      simp [Ne.symm e]
theorem wipe_eq {vs is : List Nat} {τ : L2.St} (h : SameOff is (wipe σ vs) τ) (hs : ∀ i ∈ is, i ∈ vs) : wipe τ vs = wipe σ vs := by
  apply List.ext_getElem?
  intro j
  have hl : τ.length = σ.length := h.1.trans (wipe_length _ _)
  rw [wipe_at, wipe_at, hl]
  by_cases hj : j ∈ vs
  · rw [if_pos hj, if_pos hj]
  · rw [if_neg hj, if_neg hj, h.2 j fun z => hj (hs j z), wipe_at, if_neg hj]
theorem RelS.wipeAgain {vs is : List Nat} {τ : L2.St} (R : RelS Z H τ T s) (h : SameOff is (wipe σ vs) τ) (hs : ∀ i ∈ is, i ∈ vs) : RelS Z H (wipe σ vs) T (wipeS vs s) := by
  obtain ⟨E, R1, _⟩ := RelS.wiped vs R
  rw [wipe_eq h hs] at R1
  exact R1.popN
def compL (g : Tg) (c : Tt) (f : Ev) (vs : List Nat) : List SV → List D → S → Res (List D)
  | [], acc, s => .ok acc s
  | d :: ds, acc, s => match g d s with
    | none => .err
    | some s1 => (c s1).quiet.bind fun b s2 => if b = true then (f s2).quiet.bind fun r s3 => match r.settle with
        | .sh x => if acc.length < sizeLine then compL g c f vs ds (acc ++ [x]) (wipeS vs s3) else .err
        | _ => .err
      else compL g c f vs ds acc (wipeS vs s2)
def cComp (fi : Itf) (g : Tg) (c : Tt) (f : Ev) (vs : List Nat) : Ev := fun s => (fi s).bind fun ds s1 => (compL g c f vs ds [] (wipeS vs s1)).quiet.bind fun acc s2 => .ok (.own (.list acc)) (backS vs s1 s2)
theorem wipe_wipe (σ : L2.St) (vs : List Nat) : wipe (wipe σ vs) vs = wipe σ vs := wipe_eq (is := []) ⟨rfl, fun _ _ => rfl⟩ (fun _ h => by cases h)
theorem rd_comp {fi : Itf} {g : Tg} {vs is : List Nat} (hs : ∀ i ∈ is, i ∈ vs) {Q : VK} (q : LE Z W (cComp fi g c f vs) σ H Q) : tLc (LI Z W fi) (LG Z g is) (LT Z W0 c) (LE Z W0 f) vs σ H Q := by
  obtain ⟨T, s, R, q⟩ := q
  refine ⟨T, s, R, Res.sat_mono (Res.sat_bind.mp q) (fun ds s1 q J H1 T' R1 hJ D hD => ?_) fun e s h => h⟩
  obtain ⟨E, R2, back⟩ := RelS.wiped vs R1
  have R3 : RelS Z (upd H1 D (.lst [])) (wipe σ vs) ((some (.ref D), some (.own (.list []))) :: (E ++ (T' ++ T))) (wipeS vs s1) := ⟨R2.1, R2.2.newListOf hD fun O R => .nil⟩
  refine ⟨fun i n H => ∃ s acc, i + n = ds.length ∧ RelS Z H (wipe σ vs) ((some (.ref D), some (.own (.list acc))) :: (E ++ (T' ++ T))) s ∧ (compL g c f vs (ds.drop i) acc s).sat (fun acc s2 => ∀ v H', RelS Z H' σ ((some v, some (.own (.list acc))) :: T) (backS vs s1 s2) → Q v H') (fun _ _ => False), ⟨ds.length, wipeS vs s1, [], by simp, R3, ?_⟩, ?_⟩
  · exact Res.sat_mono (sat_quiet (E' := fun _ _ => False) (Res.sat_bind.mp q)) (fun acc s2 q => q) fun _ _ h => h
  rintro i n H ⟨s, acc, en, R, q⟩
  have hJ' := hJ H s.src _ R.2 (fun x hx => List.mem_append_left _ (List.mem_cons_of_mem _ (List.mem_append_right _ (List.mem_append_left _ hx)))) i
  cases e : ds[i]? with
  | none =>
    have hi : ds.length ≤ i := List.getElem?_eq_none_iff.mp e
    rw [List.drop_eq_nil_of_le hi] at q
    refine .inl ⟨hJ'.2 hi, q _ _ ?_⟩
    have R4 := back (T2 := [(some (.ref D), some (.own (.list acc)))]) R
    exact RelS.popN (T' := T') (R4.perm (by simpa using (List.perm_middle (a := (some (V.ref D), some (SV.own (.list acc)))) (l₁ := T') (l₂ := T)).symm))
  | some d =>
    rw [drop_at e] at q
    obtain ⟨go, yl⟩ := hJ'.1 d e
    have hi : i < ds.length := (List.getElem?_eq_some_iff.mp e).1
    refine .inr ⟨go, fun H' => ∃ s acc, RelS Z H' (wipe σ vs) ((some (.ref D), some (.own (.list acc))) :: (E ++ (T' ++ T))) s ∧ (compL g c f vs (ds.drop (i + 1)) acc s).sat (fun acc s2 => ∀ v H', RelS Z H' σ ((some v, some (.own (.list acc))) :: T) (backS vs s1 s2) → Q v H') (fun _ _ => False), fun H' ⟨s, acc, R, q⟩ => ⟨n - 1, by omega, s, acc, by omega, R, q⟩, fun x H' hy => ?_⟩
    unfold compL at q
    cases e2 : g d s with
    | none => rw [e2] at q; exact q.elim
    | some s2 =>
      rw [e2] at q
      refine ⟨(some (.ref D), some (.own (.list acc))) :: (E ++ (T' ++ T)), s, d, s2, ⟨R.1, yl x H' hy⟩, e2, fun σ2 R5 off => ⟨wipe_eq off hs, _, s2, R5, Res.sat_mono (sat_quiet (E' := fun _ _ => False) (Res.sat_bind.mp q)) (fun b s3 q H3 R6 => ?_) fun _ _ h => h.elim⟩⟩
      cases b with
      | false => exact ⟨wipeS vs s3, acc, R6.wipeAgain off hs, q⟩
      | true =>
        refine ⟨_, s3, R6, Res.sat_mono (sat_quiet (E' := fun _ _ => False) (Res.sat_bind.mp q)) (fun r s4 q y H4 R7 => ?_) fun _ _ h => h.elim⟩
        have R8 := R7.settleAny
        split at q
        · rename_i x' ex
          rw [ex] at R8
          split at q
          · rename_i hz
            obtain ⟨O, R9⟩ := id R8.2
            obtain ⟨xs, hx, rx, oD⟩ := R9.ownList (a := D) (ds := acc) (by simp)
            refine ⟨xs, hx, by rw [rx.length]; exact hz, wipeS vs s4, acc ++ [x'], ?_, q⟩
            have R10 : Rel Z H4 s4.src ((some (.ref D), some (.own (.list acc))) :: (some y, some (.sh x')) :: ((E ++ (T' ++ T)) ++ List.zip σ2 s4.sl)) := R8.2.perm (List.Perm.swap _ _ _)
            have R11 := R10.updOwn (o := .lst (xs ++ [y])) (d' := .list (acc ++ [x'])) fun O' R' z oa => by
              obtain ⟨w, e1, hw⟩ := R'.ent (some y, some (.sh x')) (by simp) _ rfl
              cases e1
              obtain ⟨ys, e3, ry⟩ := z
              rw [hx] at e3; cases e3
              exact ⟨_, upd_same, rpA_upd oa (ry.append (.cons hw .nil))⟩
            have R12 := (R11.perm (List.Perm.swap _ _ _)).pop
            have R13 : RelS Z (upd H4 D (.lst (xs ++ [y]))) σ2 ((some (.ref D), some (.own (.list (acc ++ [x'])))) :: (E ++ (T' ++ T))) s4 := ⟨R8.1, R12⟩
            exact R13.wipeAgain off hs
          · exact q.elim
        · exact q.elim
theorem snE_lc {elt iter : Expr} {ifs : List Expr} {scope : Scope} {own : List (Str × Nat)} {pos : Pos} {fi : Itf} {g : Tg} {is : List Nat} (hc : X.calm = true) (hN : X.N.Nodup) (hi : SnI X Z W tg iter fi) (ok : BlkOk X.N X.env.scope scope own) (hsub : ∀ i ∈ is, i ∈ own.map (·.2))
    (hg : ∀ (s : Shared) (H : Hp) (C : Addr) (cl : List (Str × Addr)) (fp : List Addr), SnG (X.blk s H scope (compEnvC scope cl C X.env) fp) Z tg g is)
    (ht : ∀ (s : Shared) (H : Hp) (C : Addr) (cl : List (Str × Addr)) (fp : List Addr), SnTs (X.blk s H scope (compEnvC scope cl C X.env) fp) Z W0 ifs c)
    (he : ∀ (s : Shared) (H : Hp) (C : Addr) (cl : List (Str × Addr)) (fp : List Addr), SnE (X.blk s H scope (compEnvC scope cl C X.env) fp) Z W0 elt f) (hs : ∀ x, foldedSetIterable iter X.env x = pure x := by intro _; rfl) :
    SnE X Z W (.ListComp elt [⟨tg, iter, ifs, 0⟩] scope pos) (cComp fi g c f (own.map (·.2))) := fun k =>
  pe_imp (pe_lc hc hN (hi k) ok (fun s H C cl fp => hg s H C cl fp k) (fun s H C cl fp => ht s H C cl fp k) (fun s H C cl fp => he s H C cl fp k) hs) fun σ H Q q => rd_comp hsub q
theorem snS_setLc {i : Nat} {y : Str} {py : Pos} {elt iter : Expr} {ifs : List Expr} {scope : Scope} {own : List (Str × Nat)} {pos spos : Pos} {fi : Itf} {g : Tg} {is : List Nat} (hc : X.calm = true) (hN : X.N.Nodup) (hy : X.N[i]? = some y) (hyl : X.env.scope.names.lookup y = some .local)
    (hsw : swapsWith (.ListComp elt [⟨tg, iter, ifs, 0⟩] scope pos) (some (.Name y py)) spos.line X.env = pure true) (hi : SnI X Z W tg iter fi) (ok : BlkOk X.N X.env.scope scope own) (hsub : ∀ i ∈ is, i ∈ own.map (·.2))
    (hg : ∀ (s : Shared) (H : Hp) (C : Addr) (cl : List (Str × Addr)) (fp : List Addr), SnG (X.blk s H scope (compEnvC scope cl C X.env) fp) Z tg g is)
    (ht : ∀ (s : Shared) (H : Hp) (C : Addr) (cl : List (Str × Addr)) (fp : List Addr), SnTs (X.blk s H scope (compEnvC scope cl C X.env) fp) Z W0 ifs c)
    (he : ∀ (s : Shared) (H : Hp) (C : Addr) (cl : List (Str × Addr)) (fp : List Addr), SnE (X.blk s H scope (compEnvC scope cl C X.env) fp) Z W0 elt f) (hs : ∀ x, foldedSetIterable iter X.env x = pure x := by intro _; rfl) :
    SnS X Z W (.Assign [.Name y py] (.ListComp elt [⟨tg, iter, ifs, 0⟩] scope pos) spos) (cAsg (cComp fi g c f (own.map (·.2))) (gNm i)) := fun k =>
  ps_imp (ps_setLc hc hN hy hyl hsw (hi k) ok (fun s H C cl fp => hg s H C cl fp k) (fun s H C cl fp => ht s H C cl fp k) (fun s H C cl fp => he s H C cl fp k) hs) fun D σ H ⟨T, s, R, q⟩ => by
    refine rd_comp (Z := Z) (W := W) (σ := σ) (H := H) (Q := fun x H1 => gName i x σ H1 D.nx) hsub ⟨T, s, R, Res.sat_mono (Res.sat_bind.mp q) (fun r s1 q v H1 R1 => q _ _ R1.put) fun e s h => h σ⟩
end
end Pw
set_option Elab.async false
set_option linter.all false
set_option maxRecDepth 100000
namespace Pw
open PySem PySem.Spec PyProof.Rows L2 RZ
section
variable {X : Cx} {Z : Zx} {W : WX} {e a b tg : Expr} {f fa : Ev} {fb : Vw} {H : Hp} {σ σ' : L2.St} {T T' : List Ent} {s s' : S} {L : List Ent} {src : Option Src} {O : Addr → Prop} {v : V}
theorem pi_imp {iter : Expr} {t t' : TI} (h : PI X tg iter t) (i : ∀ σ H R, t' σ H R → t σ H R) : PI X tg iter t' := ⟨fun pins s σ H R I q => h.run pins s σ H R I (i σ H R q)⟩
/-- a list, a tuple or a text is walked -/
def iAny (K : PySem.W.Frag) (tl : TE) : TI := fun σ H R => tl σ H fun x H1 => (∃ a xs, x = .ref a ∧ SqL K H1 a xs ∧ R (Itl K a) H1) ∨ (∃ a xs, x = .ref a ∧ SqT K H1 a xs ∧ R (Itt K a) H1) ∨ ∃ z, x = .str z ∧ R (Its z) H1
theorem pi_any {l : Expr} {tl : TE} (hl : PE X l tl) : PI X tg l (iAny X.K tl) := by
  refine ⟨fun pins s σ H R I h => thn (hl.run pins s σ H _ I h) fun v s1 ⟨x, H1, I1, r1, q1⟩ => ?_⟩
  have k1 : ∀ o, Inv X pins σ H1 { s1 with heap := s1.heap.push o } := fun o => I1.kept (t' := s1.toks) fun b o e => Heap.get?_push_of_some _ e
  have k2 : ∀ b, b ∈ [s1.heap.objs.size] → FpOk X pins H1 b := fun b hb => by
    cases List.mem_singleton.mp hb
    exact I1.fpOk (Nat.le_refl _) (I1.hok.fresh (Nat.le_refl _))
  rcases q1 with ⟨a, xs, rfl, hq, q⟩ | ⟨a, xs, rfl, hq, q⟩ | ⟨z, rfl, q⟩
  · cases r1
    obtain ⟨its, rv, p, hz⟩ := I1.list hq
    exact wpAny_pyIter_list p.isList ⟨_, [_], _, _, H1, rfl, k1 _, turn_list a _, ⟨_, Heap.get?_push_size _ rfl, rfl, rfl⟩, k2, q⟩
  · cases r1
    obtain ⟨its, rv, p, hz⟩ := I1.tuple hq
    exact wpAny_pyIter_tuple (show s1.heap.IsTuple a its.toArray from p) ⟨_, [_], _, _, H1, rfl, k1 _, turn_tuple a _, ⟨_, Heap.get?_push_size _ rfl, rfl, rfl⟩, k2, q⟩
  · obtain ⟨t, rfl⟩ := r1
    cases ha : z.cps.all (· < 128)
    · exact wpAny_pyIter_wide ha (pi_one (tk := s1.toks) I1 _ (turn_str _ z t _ (.inr rfl)) ⟨_, Heap.get?_push_size _ rfl, rfl, rfl⟩ q)
    · exact wpAny_pyIter_ascii ha (pi_one (tk := s1.toks) I1 _ (turn_str _ z t _ (.inl rfl)) ⟨_, Heap.get?_push_size _ rfl, rfl, rfl⟩ q)
def chars (z : Str) : List D := z.cps.toList.map fun c => .str ⟨#[c]⟩
def itemsOf : D → Option (List D)
  | .list xs => some xs
  | .tuple xs => some xs
  | .str z => some (chars z)
  | _ => none
def cIt (f : Ev) : Itf := fun s => (f s).bind fun r s1 => match r.settle with
  | .sh d => Res.opt ((itemsOf d).map shs) s1
  | .scr ns => .ok (shs (ns.map .int)) s1
  | .fns as => .ok (as.map .fn) s1
  | _ => .err
theorem shRp {x : Ent} {d : D} {w : V} (hx : (some w, some (SV.sh d)) ∈ L) (r : RelO Z H src L O) : Rp Z.K H O w d := by
  obtain ⟨w', e, z⟩ := r.ent _ hx _ rfl
  cases e; exact z
theorem RelO.atSh (r : RelO Z H src L O) {w : V} {d : D} (h : Rp Z.K H O w d) : Rel Z H src ((some w, some (.sh d)) :: L) := r.pushSh h
theorem Rp.lstK {K} (h : Rp K H O v (.list ds)) : ∃ a xs, v = .ref a ∧ SqL K H a xs ∧ RpA K H O xs ds := by
  cases h with | lst e _ r => exact ⟨_, _, rfl, SqL.of e, r⟩
theorem Rp.tupK' {K} (h : Rp K H O v (.tuple ds)) : ∃ a xs, v = .ref a ∧ SqT K H a xs ∧ RpA K H O xs ds := by
  cases h with
  | tup e _ r => exact ⟨_, _, rfl, SqT.of e, r⟩
  | tupK e1 e2 e3 e4 e5 r => exact ⟨_, _, rfl, .inr ⟨_, _, _, e1, e2, e3, e4, e5⟩, r⟩
theorem jspec_list {a : Addr} {ds : List D} (E : List Ent) (hE : (some (V.ref a), some (SV.sh (.list ds))) ∈ E) : JSpecD Z E (Itl Z.K a) ds := by
  intro H src L R hL i
  have hm := hL _ hE
  obtain ⟨O, R0⟩ := id R
  obtain ⟨a', xs, e1, hq, ra⟩ := (shRp (x := (none, none)) hm R0).lstK
  cases e1
  refine ⟨fun d hd => ?_, fun hi => ⟨xs, hq, by rw [ra.length]; exact hi⟩⟩
  obtain ⟨x, hx, rx⟩ := ra.get hd
  refine ⟨⟨xs, x, hq, hx⟩, fun y H' ⟨e, hy⟩ => ?_⟩
  subst e
  have := hy xs hq
  rw [hx] at this; cases this
  exact R0.atSh rx
theorem jspec_tup {a : Addr} {ds : List D} (E : List Ent) (hE : (some (V.ref a), some (SV.sh (.tuple ds))) ∈ E) : JSpecD Z E (Itt Z.K a) ds := by
  intro H src L R hL i
  have hm := hL _ hE
  obtain ⟨O, R0⟩ := id R
  obtain ⟨a', xs, e1, hq, ra⟩ := (shRp (x := (none, none)) hm R0).tupK'
  cases e1
  refine ⟨fun d hd => ?_, fun hi => ⟨xs, hq, by rw [ra.length]; exact hi⟩⟩
  obtain ⟨x, hx, rx⟩ := ra.get hd
  refine ⟨⟨xs, x, hq, hx⟩, fun y H' ⟨e, hy⟩ => ?_⟩
  subst e
  have := hy xs hq
  rw [hx] at this; cases this
  exact R0.atSh rx
theorem jspec_str {z : Str} (E : List Ent) : JSpecD Z E (Its z) (chars z) := by
  intro H src L R hL i
  refine ⟨fun d hd => ?_, fun hi => by show z.cps.size ≤ i; simpa [chars] using hi⟩
  unfold chars at hd
  rw [List.getElem?_map] at hd
  obtain ⟨c, hc, rfl⟩ := Option.map_eq_some_iff.mp hd
  have hlt : i < z.cps.size := by simpa using (List.getElem?_eq_some_iff.mp hc).1
  refine ⟨hlt, fun y H' ⟨e, c', hc', hy⟩ => ?_⟩
  subst e hy
  have : z.cps[i]? = some c := by simpa using hc
  rw [this] at hc'; cases hc'
  exact R.str _
theorem jspec_scr {a : Addr} {ns : List Int} (E : List Ent) (hE : (some (V.ref a), some (SV.scr ns)) ∈ E) : JSpecD Z E (Itl Z.K a) (ns.map .int) := by
  intro H src L R hL i
  have hm := hL _ hE
  obtain ⟨O, R0⟩ := id R
  obtain ⟨w, e1, a', e2, hq⟩ := R0.ent _ hm _ rfl
  cases e1; cases e2
  have hq : SqL Z.K H a (ns.map V.int) := hq.elim (fun z => .inl z.1) .inr
  refine ⟨fun d hd => ?_, fun hi => ⟨_, hq, by simpa using hi⟩⟩
  rw [List.getElem?_map] at hd
  obtain ⟨c, hc, rfl⟩ := Option.map_eq_some_iff.mp hd
  have hx : (ns.map V.int)[i]? = some (.int c) := by rw [List.getElem?_map, hc]; rfl
  refine ⟨⟨_, _, hq, hx⟩, fun y H' ⟨e, hy⟩ => ?_⟩
  subst e
  have := hy _ hq
  rw [hx] at this; cases this
  exact R.int c
theorem jspec_fns {a : Addr} {as : List Addr} (E : List Ent) (hE : (some (V.ref a), some (SV.fns as)) ∈ E) : JSpec Z E (Itt Z.K a) (as.map .fn) := by
  intro H src L R hL i
  have hm := hL _ hE
  obtain ⟨O, R0⟩ := id R
  obtain ⟨w, e1, a', e2, n, hq⟩ := R0.ent _ hm _ rfl
  cases e1; cases e2
  have hq : SqT Z.K H a (as.map V.ref) := SqT.of hq
  refine ⟨fun d hd => ?_, fun hi => ⟨_, hq, by simpa using hi⟩⟩
  rw [List.getElem?_map] at hd
  obtain ⟨c, hc, rfl⟩ := Option.map_eq_some_iff.mp hd
  have hx : (as.map V.ref)[i]? = some (.ref c) := by rw [List.getElem?_map, hc]; rfl
  refine ⟨⟨_, _, hq, hx⟩, fun y H' ⟨e, hy⟩ => ?_⟩
  subst e
  have := hy _ hq
  rw [hx] at this; cases this
  exact ⟨O, R0.push mild_fn fun s q => by cases q; exact ⟨_, rfl, rfl⟩⟩
theorem snI_any {iter : Expr} (h : SnE X Z W iter f) : SnI X Z W tg iter (cIt f) := fun k => pi_imp (pi_any (h k)) fun σ H R q => by
  rw [k]
  obtain ⟨T, s, Q, q⟩ := q
  refine ⟨T, s, Q, Res.sat_mono (Res.sat_bind.mp q) (fun r s1 q v H1 R1 => ?_) fun e s h => h⟩
  have R1 := R1.settleAny
  split at q
  · rename_i d ed
    rw [ed] at R1
    obtain ⟨ds', e, q⟩ := sat_opt q
    obtain ⟨ds, e9, e0⟩ := Option.map_eq_some_iff.mp e
    subst e0
    clear e
    have e := e9
    clear e9
    obtain ⟨O, R0⟩ := id R1.2
    have hr := shRp (x := (none, none)) (w := v) (d := d) (by simp) R0
    unfold itemsOf at e
    split at e
    · cases e
      obtain ⟨a, xs, rfl, hq, ra⟩ := hr.lstK
      exact .inl ⟨a, xs, rfl, hq, q _ H1 [_] R1 (JSpecD.up (jspec_list _ (by simp)))⟩
    · cases e
      obtain ⟨a, xs, rfl, hq, ra⟩ := hr.tupK'
      exact .inr (.inl ⟨a, xs, rfl, hq, q _ H1 [_] R1 (JSpecD.up (jspec_tup _ (by simp)))⟩)
    · cases e
      cases hr.str_inv
      exact .inr (.inr ⟨_, rfl, q _ H1 [_] R1 (JSpecD.up (jspec_str _))⟩)
    · cases e
  · rename_i ns ed
    rw [ed] at R1
    obtain ⟨O, R0⟩ := id R1.2
    obtain ⟨w, e1, a, e2, hq⟩ := R0.ent (some v, some (.scr ns)) (by simp) _ rfl
    cases e1
    subst e2
    exact .inl ⟨a, _, rfl, hq.elim (fun z => .inl z.1) .inr, q _ H1 [_] R1 (JSpecD.up (jspec_scr _ (by simp)))⟩
  · rename_i as ed
    rw [ed] at R1
    obtain ⟨O, R0⟩ := id R1.2
    obtain ⟨w, e1, a, e2, n, hq⟩ := R0.ent (some v, some (.fns as)) (by simp) _ rfl
    cases e1
    subst e2
    exact .inr (.inl ⟨a, _, rfl, SqT.of hq, q _ H1 [_] R1 (jspec_fns _ (by simp))⟩)
  · exact q.elim
/-! ### ranges -/
def rgD (lo : Int) (n : Nat) : List D := (List.range n).map fun (i : Nat) => .int (lo + i)
theorem jspec_range {lo : Int} {n : Nat} (E : List Ent) : JSpecD Z E (Itr lo n) (rgD lo n) := by
  intro H src L R hL i
  refine ⟨fun d hd => ?_, fun hi => by show n ≤ i; simpa [rgD] using hi⟩
  unfold rgD at hd
  rw [List.getElem?_map] at hd
  obtain ⟨c, hc, rfl⟩ := Option.map_eq_some_iff.mp hd
  obtain ⟨hlt, e⟩ := List.getElem?_eq_some_iff.mp hc
  have hlt : i < n := by simpa using hlt
  refine ⟨hlt, fun y H' ⟨e1, hy⟩ => ?_⟩
  subst e1 hy
  have : c = i := by simpa using e.symm
  subst this
  exact R.int _
def cRange1 (ga : Ag) : Itf := fun s => (ga s).bind fun rs s1 => match rs with
  | [.sh (.int j)] => if -(2 ^ 62) ≤ j ∧ j < 2 ^ 62 then .ok (shs (rgD 0 j.toNat)) s1 else .err
  | _ => .err
def cRange2 (ga : Ag) : Itf := fun s => (ga s).bind fun rs s1 => match rs with
  | [.sh (.int i), .sh (.int j)] => if -(2 ^ 62) ≤ i ∧ i < 2 ^ 62 ∧ -(2 ^ 62) ≤ j ∧ j < 2 ^ 62 then .ok (shs (rgD i (j - i).toNat)) s1 else .err
  | _ => .err
theorem ents_one {vs : List V} {d : D} (hl : vs.length = 1) (R : RelS Z H σ (ents vs [.sh d] ++ T) s) : ∃ v, vs = [v] ∧ (some v, some (SV.sh d)) ∈ ents vs [.sh d] := by
  match vs, hl with
  | [v], _ => exact ⟨v, rfl, by simp [ents]⟩
theorem ents_two {vs : List V} {d d' : D} (hl : vs.length = 2) (R : RelS Z H σ (ents vs [.sh d, .sh d'] ++ T) s) : ∃ v w, vs = [v, w] ∧ (some v, some (SV.sh d)) ∈ ents vs [.sh d, .sh d'] ∧ (some w, some (SV.sh d')) ∈ ents vs [.sh d, .sh d'] := by
  match vs, hl with
  | [v, w], _ => exact ⟨v, w, rfl, by simp [ents], by simp [ents]⟩
theorem snI_range1 {ga : Ag} {p pos : Pos} (hg : Gl X "range") (hm : X.mg "range" = none) (ha : SnA X Z W [a] ga) (hs : starEach [a] X.env = [(false, eval a X.env)] := by rfl) : SnI X Z W tg (.Call (.Name "range" p) [a] [] pos) (cRange1 ga) := fun k => pi_imp (pi_range1 hg hm (ha k) hs) fun σ H R q => by
  obtain ⟨T, s, Q, q⟩ := q
  refine ⟨T, s, Q, Res.sat_mono (Res.sat_bind.mp q) (fun rs s1 q vs H1 hl R1 => ?_) fun e s h => h⟩
  split at q
  · rename_i j
    split at q
    · rename_i hz
      obtain ⟨v, rfl, hv⟩ := ents_one (by simpa using hl) R1
      obtain ⟨O, R0⟩ := id R1.2
      have hr := shRp (x := (none, none)) (List.mem_append_left _ (List.mem_append_left _ hv)) R0
      cases hr.int_inv
      exact ⟨j, rfl, hz.1, hz.2, q _ H1 (ents _ _) R1 (JSpecD.up (jspec_range _))⟩
    · exact q.elim
  · exact q.elim
theorem snI_range2 {ga : Ag} {p pos : Pos} (hg : Gl X "range") (hm : X.mg "range" = none) (ha : SnA X Z W [a, b] ga) (hs : starEach [a, b] X.env = [(false, eval a X.env), (false, eval b X.env)] := by rfl) (hs2 : starEach [b] X.env = [(false, eval b X.env)] := by rfl) : SnI X Z W tg (.Call (.Name "range" p) [a, b] [] pos) (cRange2 ga) := fun k => pi_imp (pi_range2 hg hm (ha k) hs hs2) fun σ H R q => by
  obtain ⟨T, s, Q, q⟩ := q
  refine ⟨T, s, Q, Res.sat_mono (Res.sat_bind.mp q) (fun rs s1 q vs H1 hl R1 => ?_) fun e s h => h⟩
  split at q
  · rename_i i j
    split at q
    · rename_i hz
      obtain ⟨v, w, rfl, hv, hw⟩ := ents_two (by simpa using hl) R1
      obtain ⟨O, R0⟩ := id R1.2
      have hr := shRp (x := (none, none)) (List.mem_append_left _ (List.mem_append_left _ hv)) R0
      have hr2 := shRp (x := (none, none)) (List.mem_append_left _ (List.mem_append_left _ hw)) R0
      cases hr.int_inv
      cases hr2.int_inv
      exact ⟨i, j, rfl, hz, q _ H1 (ents _ _) R1 (JSpecD.up (jspec_range _))⟩
    · exact q.elim
  · exact q.elim
/-! ### enumerate, zip -/
def enumD (xs : List D) : List D := xs.zipIdx.map fun p => .tuple [.int (p.2 : Nat), p.1]
def cEnum (ga : Ag) : Itf := fun s => (ga s).bind fun rs s1 => match rs with
  | [.sh (.list xs)] => .ok (shs (enumD xs)) s1
  | _ => .err
theorem Rel.newPair {p : Addr} {v w : V} {d d' : D} (R : Rel Z H src L) (hp : H p = none) (h : ∀ O, RelO Z H src L O → Rp Z.K H O v d ∧ Rp Z.K H O w d') : Rel Z (upd H p (.tup [v, w])) src ((some (.ref p), some (.sh (.tuple [d, d']))) :: L) := R.newTup hp fun O r => .cons (h O r).1 (.cons (h O r).2 .nil)
theorem jspec_enum {a : Addr} {ds : List D} (E : List Ent) (hE : (some (V.ref a), some (SV.sh (.list ds))) ∈ E) : JSpecD Z E (Ite Z.K a) (enumD ds) := by
  intro H src L R hL i
  have hm := hL _ hE
  obtain ⟨O, R0⟩ := id R
  obtain ⟨a', xs, e1, hq, ra⟩ := (shRp (x := (none, none)) hm R0).lstK
  cases e1
  refine ⟨fun d hd => ?_, fun hi => ⟨xs, hq, by rw [ra.length]; simpa [enumD] using hi⟩⟩
  unfold enumD at hd
  rw [List.getElem?_map, List.getElem?_zipIdx] at hd
  simp only [Option.map_map, Option.map_eq_some_iff, Function.comp, Nat.zero_add] at hd
  obtain ⟨d0, hd0, rfl⟩ := hd
  obtain ⟨x, hx, rx⟩ := ra.get hd0
  refine ⟨⟨xs, x, hq, hx⟩, fun y H' ⟨p, z, e, hp, e2, hy⟩ => ?_⟩
  subst e e2
  have := hy xs hq
  rw [hx] at this; cases this
  refine R.newPair hp fun O' R' => ⟨.int _, ?_⟩
  obtain ⟨a', xs', e1, hq', ra'⟩ := (shRp (x := (none, none)) hm R').lstK
  cases e1
  obtain ⟨x', hx', rx'⟩ := ra'.get hd0
  have := hy xs' hq'
  rw [hx'] at this; cases this
  exact rx'
theorem snI_enum {ga : Ag} {p pos tpos : Pos} {elts : List Expr} {kk : Nat} (hg : Gl X "enumerate") (hm : X.mg "enumerate" = none) (ha : SnA X Z W [a] ga) (hs : starEach [a] X.env = [(false, eval a X.env)] := by rfl) : SnI X Z W (.Tuple elts kk tpos) (.Call (.Name "enumerate" p) [a] [] pos) (cEnum ga) := fun k => pi_imp (pi_enum hg hm (ha k) hs) fun σ H R q => by
  rw [k]
  obtain ⟨T, s, Q, q⟩ := q
  refine ⟨T, s, Q, Res.sat_mono (Res.sat_bind.mp q) (fun rs s1 q vs H1 hl R1 => ?_) fun e s h => h⟩
  split at q
  · rename_i ds
    obtain ⟨v, rfl, hv⟩ := ents_one (by simpa using hl) R1
    obtain ⟨O, R0⟩ := id R1.2
    obtain ⟨a', xs, rfl, hq, ra⟩ := (shRp (x := (none, none)) (List.mem_append_left _ (List.mem_append_left _ hv)) R0).lstK
    exact ⟨a', xs, rfl, hq, q _ H1 (ents _ _) R1 (JSpecD.up (jspec_enum _ hv))⟩
  · exact q.elim
def zipD (xs ys : List D) : List D := (List.zip xs ys).map fun p => .tuple [p.1, p.2]
def cZip (ga : Ag) : Itf := fun s => (ga s).bind fun rs s1 => match rs with
  | [.sh (.list xs), .sh (.list ys)] => .ok (shs (zipD xs ys)) s1
  | [.sh (.tuple xs), .sh (.tuple ys)] => .ok (shs (zipD xs ys)) s1
  | _ => .err
theorem zip_some {α β : Type} : ∀ {xs : List α} {ys : List β} {i : Nat} {p : α × β}, (List.zip xs ys)[i]? = some p → xs[i]? = some p.1 ∧ ys[i]? = some p.2
  | [], ys, i, p, h => by simp at h
  | _ :: _, [], i, p, h => by simp at h
  | x :: xs, y :: ys, 0, p, h => by simp at h; subst h; exact ⟨rfl, rfl⟩
  | x :: xs, y :: ys, i + 1, p, h => by simpa using zip_some (xs := xs) (ys := ys) (i := i) (by simpa using h)
theorem jspec_zip {a b : Addr} {ds es : List D} (E : List Ent) (hE : (some (V.ref a), some (SV.sh (.list ds))) ∈ E) (hF : (some (V.ref b), some (SV.sh (.list es))) ∈ E) : JSpecD Z E (Itz Z.K a b) (zipD ds es) := by
  intro H src L R hL i
  have hm := hL _ hE
  have hn := hL _ hF
  obtain ⟨O, R0⟩ := id R
  obtain ⟨a', xs, e1, hq, ra⟩ := (shRp (x := (none, none)) hm R0).lstK
  obtain ⟨b', ys, e2, hq2, rb⟩ := (shRp (x := (none, none)) hn R0).lstK
  cases e1; cases e2
  refine ⟨fun d hd => ?_, fun hi => ⟨xs, ys, hq, hq2, by rw [ra.length, rb.length]; simp [zipD] at hi; omega⟩⟩
  unfold zipD at hd
  rw [List.getElem?_map] at hd
  obtain ⟨⟨d1, d2⟩, hd0, rfl⟩ := Option.map_eq_some_iff.mp hd
  obtain ⟨hd1, hd2⟩ := zip_some hd0
  obtain ⟨x, hx, rx⟩ := ra.get hd1
  obtain ⟨y, hy, ry⟩ := rb.get hd2
  refine ⟨⟨xs, ys, x, y, hq, hq2, hx, hy⟩, fun u H' ⟨p, z, z', e, hp, e2, h1, h2⟩ => ?_⟩
  subst e e2
  have t1 := h1 xs hq
  rw [hx] at t1; cases t1
  have t2 := h2 ys hq2
  rw [hy] at t2; cases t2
  refine R.newPair hp fun O' R' => ?_
  obtain ⟨a', xs', e1, hq', ra'⟩ := (shRp (x := (none, none)) hm R').lstK
  obtain ⟨b', ys', e2, hq2', rb'⟩ := (shRp (x := (none, none)) hn R').lstK
  cases e1; cases e2
  obtain ⟨x', hx', rx'⟩ := ra'.get hd1
  obtain ⟨y', hy', ry'⟩ := rb'.get hd2
  have t1 := h1 xs' hq'
  rw [hx'] at t1; cases t1
  have t2 := h2 ys' hq2'
  rw [hy'] at t2; cases t2
  exact ⟨rx', ry'⟩
theorem jspec_zipT {a b : Addr} {ds es : List D} (E : List Ent) (hE : (some (V.ref a), some (SV.sh (.tuple ds))) ∈ E) (hF : (some (V.ref b), some (SV.sh (.tuple es))) ∈ E) : JSpecD Z E (ItzT Z.K a b) (zipD ds es) := by
  intro H src L R hL i
  have hm := hL _ hE
  have hn := hL _ hF
  obtain ⟨O, R0⟩ := id R
  obtain ⟨a', xs, e1, hq, ra⟩ := (shRp (x := (none, none)) hm R0).tupK'
  obtain ⟨b', ys, e2, hq2, rb⟩ := (shRp (x := (none, none)) hn R0).tupK'
  cases e1; cases e2
  refine ⟨fun d hd => ?_, fun hi => ⟨xs, ys, hq, hq2, by rw [ra.length, rb.length]; simp [zipD] at hi; omega⟩⟩
  unfold zipD at hd
  rw [List.getElem?_map] at hd
  obtain ⟨⟨d1, d2⟩, hd0, rfl⟩ := Option.map_eq_some_iff.mp hd
  obtain ⟨hd1, hd2⟩ := zip_some hd0
  obtain ⟨x, hx, rx⟩ := ra.get hd1
  obtain ⟨y, hy, ry⟩ := rb.get hd2
  refine ⟨⟨xs, ys, x, y, hq, hq2, hx, hy⟩, fun u H' ⟨p, z, z', e, hp, e2, h1, h2⟩ => ?_⟩
  subst e e2
  have t1 := h1 xs hq
  rw [hx] at t1; cases t1
  have t2 := h2 ys hq2
  rw [hy] at t2; cases t2
  refine R.newPair hp fun O' R' => ?_
  obtain ⟨a', xs', e1, hq', ra'⟩ := (shRp (x := (none, none)) hm R').tupK'
  obtain ⟨b', ys', e2, hq2', rb'⟩ := (shRp (x := (none, none)) hn R').tupK'
  cases e1; cases e2
  obtain ⟨x', hx', rx'⟩ := ra'.get hd1
  obtain ⟨y', hy', ry'⟩ := rb'.get hd2
  have t1 := h1 xs' hq'
  rw [hx'] at t1; cases t1
  have t2 := h2 ys' hq2'
  rw [hy'] at t2; cases t2
  exact ⟨rx', ry'⟩
theorem snI_zip {ga : Ag} {p pos tpos : Pos} {elts : List Expr} {kk : Nat} (hg : Gl X "zip") (hm : X.mg "zip" = none) (ha : SnA X Z W [a, b] ga) (hs : starEach [a, b] X.env = (false, eval a X.env) :: starEach [b] X.env := by rfl) (hpl : (backTo pos (starEach [b] X.env)).any (·.1) = false := by rfl) : SnI X Z W (.Tuple elts kk tpos) (.Call (.Name "zip" p) [a, b] [] pos) (cZip ga) := fun k => pi_imp (pi_zipA hg hm (ha k) hs hpl) fun σ H R q => by
  rw [k]
  obtain ⟨T, s, Q, q⟩ := q
  refine ⟨T, s, Q, Res.sat_mono (Res.sat_bind.mp q) (fun rs s1 q vs H1 hl R1 => ?_) fun e s h => h⟩
  split at q
  · obtain ⟨v, w, rfl, hv, hw⟩ := ents_two (by simpa using hl) R1
    obtain ⟨O, R0⟩ := id R1.2
    obtain ⟨a', xs, rfl, hq, ra⟩ := (shRp (x := (none, none)) (List.mem_append_left _ (List.mem_append_left _ hv)) R0).lstK
    obtain ⟨b', ys, rfl, hq2, rb⟩ := (shRp (x := (none, none)) (List.mem_append_left _ (List.mem_append_left _ hw)) R0).lstK
    exact ⟨a', b', xs, ys, rfl, .inl ⟨hq, hq2, q _ H1 (ents _ _) R1 (JSpecD.up (jspec_zip _ hv hw))⟩⟩
  · obtain ⟨v, w, rfl, hv, hw⟩ := ents_two (by simpa using hl) R1
    obtain ⟨O, R0⟩ := id R1.2
    obtain ⟨a', xs, rfl, hq, ra⟩ := (shRp (x := (none, none)) (List.mem_append_left _ (List.mem_append_left _ hv)) R0).tupK'
    obtain ⟨b', ys, rfl, hq2, rb⟩ := (shRp (x := (none, none)) (List.mem_append_left _ (List.mem_append_left _ hw)) R0).tupK'
    exact ⟨a', b', xs, ys, rfl, .inr ⟨hq, hq2, q _ H1 (ents _ _) R1 (JSpecD.up (jspec_zipT _ hv hw))⟩⟩
  · exact q.elim
end
end Pw
set_option Elab.async false
set_option linter.all false
set_option maxRecDepth 100000
namespace Pw
open PySem PySem.Spec PyProof.Rows L2
section
variable {Z : Zx} {H H' : Hp} {O : Addr → Prop} {src src' : Option Src} {L M Ar : List Ent} {v : V} {r : SV}
/-- the callee's frame of reference -/
def Zx.deep (Z : Zx) (H : Hp) (O : Addr → Prop) : Zx := ⟨Z.K, H, O, Z.A, none, Z.Tb, Z.Lm⟩
theorem inA_own (h : SrcOk Z.A H O src) : ∀ b, InA Z.A b → O b := fun b i => by
  cases src <;> cases e : Z.A <;> rw [e] at h i <;> first | exact i.elim | exact h.elim | skip
  obtain ⟨_, o1, o2, _⟩ := h
  rcases i with rfl | rfl
  · exact o1
  · exact o2
/-- arguments that own nothing, as the callee's world -/
theorem RelO.enter (R : RelO Z H src (Ar ++ L) O) (hm : ∀ e ∈ Ar, Mild e) (hx : ∀ e ∈ Ar, ∀ fs, e.2 ≠ some (.exn fs)) : RelO (Z.deep H O) H src Ar O := by
  refine ⟨fun _ z => z, fun e he s q => ?_, (List.pairwise_append.mp R.ap).1, R.src, fun b x e _ => e, R.live⟩
  obtain ⟨v, e1, k⟩ := R.ent e (List.mem_append_left _ he) s q
  refine ⟨v, e1, ?_⟩
  cases s with
  | own d => exact absurd q (hm e he d)
  | sh d => exact k
  | fn a => exact k
  | src => exact k
  | fns as => exact k
  | scr ns => exact k
  | exn fs => exact absurd q (hx e he fs)
  | exd fs => exact k
  | tb => exact k
  | lm => exact k
/-- the way back -/
theorem Rel.back (R : RelO Z H src (Ar ++ L) O) (R1 : Rel (Z.deep H O) H' src' ((some v, some r) :: M)) : Rel Z H' src' ((some v, some r) :: L) := by
  obtain ⟨O1, r1⟩ := R1
  have hsub : ∀ b, (O b ∨ ∃ d, r = .own d ∧ v = .ref b) → O1 b := fun b z => by
    rcases z with z | ⟨d, rfl, rfl⟩
    · exact r1.oc b z
    · obtain ⟨w, e1, a, e2, oa, _⟩ := r1.ent _ List.mem_cons_self _ rfl
      cases e1; cases e2; exact oa
  have hin := inA_own R.src
  have keep : ∀ b x, H b = some x → ¬ InA Z.A b → H' b = some x := r1.base
  have fresh : ∀ b d, r = .own d → v = .ref b → H b = none := fun b d e1 e2 => by
    subst e1 e2
    obtain ⟨w, e1, a, e2, oa, fa, _⟩ := r1.ent _ List.mem_cons_self _ rfl
    cases e1; cases e2; exact fa.1
  have t : Stp H H' O (fun b => O b ∨ ∃ d, r = .own d ∧ v = .ref b) (InA Z.A) :=
    ⟨keep, hin, fun b z => z.elim .inl fun ⟨d, e1, e2⟩ => .inr (fresh b d e1 e2), fun b z _ => .inl z⟩
  refine ⟨_, fun b z => .inl (R.oc b z), fun e he => ?_, List.pairwise_cons.mpr ⟨fun f hf => ?_, (List.pairwise_append.mp R.ap).2.1⟩, ?_, fun b x e n => keep b x (R.base b x e n) n, fun b z => r1.live b (hsub b z)⟩
  · rcases List.mem_cons.mp he with rfl | he
    · intro s q
      cases q
      obtain ⟨w, e1, k⟩ := r1.ent _ List.mem_cons_self _ rfl
      have e1 : some v = some w := e1
      cases e1
      refine ⟨v, rfl, ?_⟩
      cases r with
      | sh d => exact Rp.less k hsub
      | fn a => exact k
      | src => exact k
      | exn fs => obtain ⟨a, dd, xs, z, _⟩ := k; cases z
      | scr ns =>
        obtain ⟨a, e, q⟩ := k
        exact ⟨a, e, q.imp (fun q => ⟨q.1, fun z => q.2 (hsub _ z)⟩) id⟩
      | fns as => obtain ⟨a, e, n, q⟩ := k; exact ⟨a, e, fun z => n (hsub _ z), q⟩
      | exd fs =>
        obtain ⟨a, xs, e, n, q, z⟩ := k
        exact ⟨a, xs, e, fun y => n (hsub _ y), q, paired_imp z fun p q z => ⟨z.1, Rp.less z.2 hsub⟩⟩
      | tb =>
        obtain ⟨P, q, e1, e2, n, ps, hP, ht, hc⟩ := k
        refine ⟨P, q, e1, e2, fun z => n (hsub _ z), ps, hP, ht, fun pos cv e => ?_⟩
        obtain ⟨c, e3, n2, hC⟩ := hc pos cv e
        exact ⟨c, e3, fun z => n2 (hsub _ z), hC⟩
      | lm => exact k
      | own d =>
        obtain ⟨a, rfl, oa, fa, na, ra⟩ := k
        have ha : H a = none := fa.1
        refine ⟨a, rfl, .inr ⟨d, rfl, rfl⟩, ⟨R.fresh0 ha na, fun z => fa.2 (R.oc a z)⟩, na, ?_⟩
        cases d <;> first | exact ra.elim | skip
        · obtain ⟨xs, e, z⟩ := ra; exact ⟨xs, e, z.less hsub⟩
        · obtain ⟨xs, e, z⟩ := ra; exact ⟨xs, e, z.less hsub⟩
    · refine t.ent (fun d a h1 h2 z => ?_) (R.ent e (List.mem_append_right _ he))
      obtain ⟨w, e1, a', e2, oa, fa, na, _⟩ := R.ent e (List.mem_append_right _ he) _ h1
      rw [h2] at e1; cases e1; cases e2
      exact na z
  · intro d1 d2 a h1 h2 h3 h4
    have h3 : some v = some (V.ref a) := h3
    have h1 : some r = some (SV.own d1) := h1
    cases h3; cases h1
    obtain ⟨w, e1, a', e2, oa, _⟩ := R.ent f (List.mem_append_right _ hf) _ h2
    rw [h4] at e1; cases e1; cases e2
    obtain ⟨x, e⟩ := R.live _ oa
    rw [fresh _ _ rfl rfl] at e; cases e
  · have q : SrcOk Z.A H' O1 src' := r1.src
    have q0 := R.src
    cases src' <;> cases e : Z.A <;> rw [e] at q <;> first | exact q | exact q.elim | skip
    obtain ⟨n, o1, o2, h1, h2⟩ := q
    exact ⟨n, .inl (hin _ (by rw [e]; exact .inl rfl)), .inl (hin _ (by rw [e]; exact .inr rfl)), h1, h2⟩
theorem Rel.trivN (n : Nat) (h : Rel Z H src L) : Rel Z H src (List.replicate n (none, none) ++ L) := by
  induction n with
  | zero => exact h
  | succ n ih => rw [List.replicate_succ]; exact ih.triv
end
/-! ### functions over plain data -/
theorem zx_deep {Z : Zx} {H : Hp} {O : Addr → Prop} : (Z.deep H O).Xn = none := rfl
abbrev Fd := List SV → Option Src → Res SV
def padS (n : Nat) (as : List SV) : List (Option SV) := as.map some ++ List.replicate (n - as.length) none
def runFn (n : Nat) (m : Sm) : Fd := fun as src => (m ⟨padS n as, src⟩).bind fun fl s => match fl with
  | .ret r => .ok r s
  | .nx => .ok (.sh .none) s
  | _ => .err
def okA : List SV → Bool
  | [] => true
  | .own _ :: _ => false
  | .exn _ :: _ => false
  | _ :: r => okA r
theorem okA_mem : ∀ {vs : List V} {as : List SV}, okA as = true → ∀ e ∈ ents vs as, (∀ d, e.2 ≠ some (.own d)) ∧ ∀ fs, e.2 ≠ some (.exn fs)
  | [], _, _, e, he => by simp [ents] at he
  | _ :: _, [], _, e, he => by simp [ents] at he
  | v :: vs, a :: as, h, e, he => by
    simp only [ents, List.map_cons, List.zip_cons_cons, List.mem_cons] at he
    rcases he with rfl | he
    · constructor
      · intro d q
        cases q
        simp [okA] at h
      · intro d q
        cases q
        simp [okA] at h
    · refine okA_mem (vs := vs) (as := as) ?_ e he
      cases a <;> first | exact h | (simp [okA] at h)
def spF (K : PySem.W.Frag) (np : Nat) (F : Fd) : Sp := fun vs H Q E => vs.length = np ∧ ∃ (Z : Zx) (src : Option Src) (as : List SV) (L : List Ent), Z.K = K ∧ vs.length = as.length ∧ okA as = true ∧ Rel Z H src (ents vs as ++ L) ∧
  (F as src).sat (fun r s' => ∀ v H', Rel Z H' s'.src ((some v, some r) :: L) → Q v H') fun e s' => ∀ dd H', Rel Z H' s'.src ((some (.ref dd), some (.exd e.fs)) :: L) → E (.ref e.cls) (some dd) H'
/-- what a def promises, under no repr -/
structure FnG (P : Program) (w : World) (K : PySem.W.Frag) (mg : Str → Option Value) (base : Heap) (k : Nat) (f : Addr) (fd : FuncData) (ps : List Str) (sp : Sp) : Prop where
  cnt : ∀ vs H Q E, sp vs H Q E → vs.length = ps.length
  go : ∀ (A : Around) (outer : List Env) (s : Shared) (H : Hp) (args : Args) (us : List Value) (vs : List V) (Q : VK) (E : XK), Room k A → A.guards = some [] →
    Env0 P w K mg base A outer s H → BindsTo s fd args (ps.zip us) → Vals vs us → sp vs H Q E → codeAny (model P w) A (.call (.ref f) args) (CR (L2.CX P w) outer P w H s Q E) s
section
variable {P : Program} {w : World} {K : PySem.W.Frag} {mg : Str → Option Value} {base : Heap} {k j : Nat} {f : Addr} {fd : FuncData} {ps N : List Str} {sp sp' : Sp} {x qual : Str} {st : Stmt}
theorem FnG.mono (F : FnG P w K mg base j f fd ps sp) (h : j ≤ k) : FnG P w K mg base k f fd ps sp := ⟨F.cnt, fun A outer s H args us vs Q E hr => F.go A outer s H args us vs Q E (hr.mono h)⟩
theorem FnG.imp (F : FnG P w K mg base k f fd ps sp) (h : ∀ vs H Q E, sp' vs H Q E → sp vs H Q E) : FnG P w K mg base k f fd ps sp' :=
  ⟨fun vs H Q E q => F.cnt vs H Q E (h _ _ _ _ q), fun A outer s H args us vs Q E hr hg he hb hv hs => F.go A outer s H args us vs Q E hr hg he hb hv (h _ _ _ _ hs)⟩
/-- a def by its body, raw -/
theorem fnG_raw (F : Fun K x qual st f fd) (S : FnScope N ps (defScope st)) (cnt : ∀ vs H Q E, sp vs H Q E → vs.length = ps.length)
    (hb : ∀ (cdv : Value) (A : Around) (outer : List Env) (s : Shared) (H : Hp) (vs : List V) (Q : VK) (E : XK), Room k (A.deeper (envOfC qual (defScope st) s.heap.objs.size f cdv)) → A.guards = some [] → sp vs H Q E →
      ∃ t, PSs (cxOf (L2.CX P w) P w K mg base N qual (defScope st) f cdv A outer s H E) (defBody st) t ∧ t { nx := fun _ H' => Q .non H', rt := Q } (start N vs) H) : FnG P w K mg base (k + 1) f fd ps sp := by
  obtain ⟨oc, od, kV, doc, pm, an, cdv, ct, osl, rfl, lk, hcd⟩ := F.ex
  refine ⟨cnt, fun A outer s H args us vs Q E hr hg e0 hbi r hsp => ?_⟩
  have hkind : ∀ y ∈ ps.zip us, (defScope st).names.lookup y.1 = some .local ∨ ((defScope st).names.lookup y.1 = some .cell ∧ ((cellsFrom (s.heap.objs.size + 1) (defScope st).names []).lookup y.1).isSome = true) := by
    rintro ⟨n, v⟩ hy
    refine (S.par n (List.of_mem_zip hy).1).imp id fun q => ⟨q, PySem.W.cellsFrom_some _ _ _ (.inl q)⟩
  have kin : ∀ b o, base.get? b = some o → s.heap.get? b = some o := fun b o e => (e0.bs b o e).1
  have KX : K.In s.heap := e0.mod.kin.keeps kin
  refine codeAny_call_function hr.depth (KX _ _ lk) rfl S.co S.gen rfl (PySem.W.codeRec_of KX hcd) (hbi _ _ _ _ (wpAny_newFunctionEnv_cells S.kind hkind fun env he s1 y => ?_))
  subst he
  refine ⟨(e0.mod.nolimit.keeps kin).keeps y.toInCall.keep, codeAny_func ?_⟩
  obtain ⟨t, ht, hq⟩ := hb cdv A outer s H vs Q E (hr.deeper _) hg hsp
  refine wpAny_mono (ht.run [] s1 (start N vs) H _ (inv_start S hr.hd e0 (cnt _ _ _ _ hsp) r y) hq) (fun fl s' hs => ?_) fun e s' hs => hs
  have done : ∀ {σ' : L2.St} {H' : Hp} {v : V} {u : Value}, Inv (cxOf (L2.CX P w) P w K mg base N qual (defScope st) f cdv A outer s H E) [] σ' H' s' → RelV v u → Q v H' → CE outer P w H s Q u s' := by
    intro σ' H' v u J rv q
    exact ⟨v, H', J.os, J.bare, J.base, J.hok, rv, q⟩
  match fl, hs with
  | .ret u, ⟨v, σ', H', J, rv, q⟩ => exact done J rv q
  | .next, ⟨σ', H', J, q⟩ => exact done (v := V.non) (u := Value.none) J rfl q
  | .brk, ⟨_, _, _, q⟩ => exact q.elim
  | .cont, ⟨_, _, _, q⟩ => exact q.elim
theorem rel_pad {Z : Zx} {H : Hp} {src : Option Src} {n : Nat} : ∀ {vs : List V} {as : List SV}, vs.length = as.length → Rel Z H src (ents vs as) → Rel Z H src (List.zip (vs.map some ++ List.replicate n none) (as.map some ++ List.replicate n none)) := by
  intro vs as hl R
  rw [List.zip_append (by simpa using hl)]
  have e : List.zip (List.replicate n (none : Option V)) (List.replicate n (none : Option SV)) = List.replicate n (none, none) := by
    rw [List.zip_replicate, Nat.min_self]
  rw [e]
  exact (R.trivN n).perm List.perm_append_comm
/-- THE RULE: a def by what its body computes -/
theorem fnG_of {m : Sm} (F : Fun K x qual st f fd) (S : FnScope N ps (defScope st))
    (hb : ∀ (cdv : Value) (A : Around) (outer : List Env) (s : Shared) (H : Hp) (E : XK) (Z : Zx), Z.Xn = none → Room k (A.deeper (envOfC qual (defScope st) s.heap.objs.size f cdv)) → A.guards = some [] →
      SnB (cxOf (L2.CX P w) P w K mg base N qual (defScope st) f cdv A outer s H E) Z (fun cls d _ H => E cls d H) (defBody st) m) : FnG P w K mg base (k + 1) f fd ps (spF K ps.length (runFn N.length m)) := by
  refine fnG_raw F S (fun vs H Q E h => h.1) fun cdv A outer s H vs Q E hr hg h => ?_
  obtain ⟨hn, Z, src, as, L, zk, hl, ok, R, q⟩ := h
  obtain ⟨O, RO⟩ := R
  refine ⟨_, hb cdv A outer s H E (Z.deep H O) rfl hr hg zk.symm, [], ⟨padS N.length as, src⟩, ⟨?_, ?_⟩, ?_⟩
  · show (start N vs).length = (padS N.length as).length
    rw [L2.start, padS]
    simp [hl]
  · have R2 : Rel (Z.deep H O) H src (ents vs as) := ⟨O, RO.enter (fun e he => (okA_mem ok e he).1) fun e he => (okA_mem ok e he).2⟩
    have R3 := rel_pad (n := N.length - vs.length) hl R2
    have e : List.zip (start N vs) (padS N.length as) = List.zip (vs.map some ++ List.replicate (N.length - vs.length) none) (as.map some ++ List.replicate (N.length - vs.length) none) := by
      rw [L2.start, padS, hl]
    show Rel _ _ _ ([] ++ List.zip (start N vs) (padS N.length as))
    rw [List.nil_append, e]
    exact R3
  · refine Res.sat_mono (Res.sat_bind.mp q) (fun fl s1 q => ?_) fun e s1 q σ dd H1 R1 => q dd H1 (Rel.back RO R1.2)
    cases fl with
    | ret r => exact fun v σ H1 R1 => q v H1 (Rel.back RO R1.2)
    | nx => exact fun σ H1 R1 => q _ H1 (Rel.back RO (Rel.non R1.2))
    | bk => exact q.elim
    | ct => exact q.elim
end
/-! ### calls -/
section
variable {X : Cx} {Z : Zx} {W : WX} {e : Expr} {es : List Expr} {F : Fd} {ga : Ag} {k : Nat} {f : Addr} {fd : FuncData} {ps : List Str} {sp : Sp} {x : Str} {p pos : Pos} {t : TA} {H : Hp} {σ : L2.St}
def tG (sp : Sp) (E : L2.St → XK) (t : TA) : TE := fun σ H Q => t σ H fun vs H1 => sp vs H1 Q (E σ)
theorem runG {pins : List (Addr × Obj)} {s : Shared} {Q : VK} {us : List Value} {vs : List V} (G : FnG X.prog X.w X.K X.mg X.base k f fd ps sp) (hr : Room k X.A) (hg : X.A.guards = some []) (hb : Binds X.K fd ps []) (tk : Takes X W)
    (I : Inv X pins σ H s) (r : Vals vs us) (h : sp vs H Q (WE W σ)) : wpAny (model X.prog X.w) X.A (call (.ref f) us) (EP X pins σ Q) X.xe s := by
  have b := hb s us I.kIn (by rw [List.append_nil, ← r.length]; exact G.cnt _ _ _ _ h)
  rw [List.append_nil] at b
  refine wpAny_call (codeAny_mono (G.go X.A X.stack s H ⟨us, []⟩ us vs Q _ hr hg I.env0 b r h) fun res s' hq => ?_)
  match res, hq with
  | .error e, hq => exact passAt tk σ pins H s e s' I hq
  | .ok (.ret u), hq => exact I.after hq
theorem pe_G (G : FnG X.prog X.w X.K X.mg X.base k f fd ps sp) (hr : Room k X.A) (hgd : X.A.guards = some []) (hg : Gl X x) (hm : X.mg x = some (.ref f)) (hk : PySem.W.keepIn X.K (.ref f) = true) (hb : Binds X.K fd ps []) (tk : Takes X W)
    (ha : PA X (e :: es) t) (hdb : (x == ("__debug__" : Str)) = false := by decide) (he : starEach (e :: es) X.env = (false, eval e X.env) :: starEach es X.env := by rfl) (hpl : (backTo pos (starEach es X.env)).any (·.1) = false := by rfl) :
    PE X (.Call (.Name x p) (e :: es) [] pos) (tG sp (WE W) t) :=
  ⟨fun pins s σ H Q I h => wpAny_Call_Name_kw (ld_glob I hg hm (PySem.W.callWith_K (h₀ := X.base) I.ok.mod.kin hk (thn (ha.run pos pins s σ H _ I h) fun us s1 ⟨vs, H1, I1, r, q⟩ => ⟨I1.kIn, runG G hr hgd hb tk I1 r q⟩) he hpl) hdb)⟩
theorem pe_G0 (G : FnG X.prog X.w X.K X.mg X.base k f fd ps sp) (hr : Room k X.A) (hgd : X.A.guards = some []) (hg : Gl X x) (hm : X.mg x = some (.ref f)) (hk : PySem.W.keepIn X.K (.ref f) = true) (hb : Binds X.K fd ps []) (tk : Takes X W)
    (hdb : (x == ("__debug__" : Str)) = false := by decide) : PE X (.Call (.Name x p) [] [] pos) (tG sp (WE W) tNil) :=
  ⟨fun pins s σ H Q I h => wpAny_Call_Name_kw (ld_glob I hg hm (PySem.W.callWith_K0 I.kIn hk (runG (us := []) G hr hgd hb tk I .nil h)) hdb)⟩
def appF (n : Nat) (F : Fd) (rs : List SV) (s : S) : Res SV := if rs.length = n ∧ okA rs = true then match F rs s.src with
  | .ok r s2 => .ok r { s with src := s2.src }
  | .exc e s2 => .exc e { s with src := s2.src }
  | .err => .err
  else .err
def cCall (n : Nat) (F : Fd) (ga : Ag) : Ev := fun s => (ga s).bind fun rs s1 => appF n F rs s1
theorem spF_of {vs : List V} {rs : List SV} {T : List Ent} {s : S} {Q : VK} (zk : Z.K = X.K) (hl : vs.length = rs.length) (R : RelS Z H σ (ents vs rs ++ T) s)
    (q : (appF ps.length F rs s).sat (fun r s' => ∀ v H', RelS Z H' σ ((some v, some r) :: T) s' → Q v H') (ExP Z σ T W)) : spF X.K ps.length F vs H Q (WE W σ) := by
  unfold appF at q
  split at q
  · rename_i ok
    obtain ⟨hn, ok⟩ := ok
    refine ⟨hl.trans hn, Z, s.src, rs, T ++ List.zip σ s.sl, zk, hl, ok, by rw [← List.append_assoc]; exact R.2, ?_⟩
    cases e : F rs s.src with
    | ok r s2 => rw [e] at q; exact fun v H' R' => q v H' ⟨R.1, R'⟩
    | exc ex s2 => rw [e] at q; exact fun dd H' R' => q dd H' ⟨R.1, R'⟩
    | err => rw [e] at q; exact q.elim
  · exact q.elim
theorem snE_call (G : FnG X.prog X.w X.K X.mg X.base k f fd ps (spF X.K ps.length F)) (hr : Room k X.A) (hgd : X.A.guards = some []) (hg : Gl X x) (hm : X.mg x = some (.ref f)) (hk : PySem.W.keepIn X.K (.ref f) = true) (hb : Binds X.K fd ps []) (tk : Takes X W)
    (ha : SnA X Z W (e :: es) ga) (hdb : (x == ("__debug__" : Str)) = false := by decide) (he : starEach (e :: es) X.env = (false, eval e X.env) :: starEach es X.env := by rfl) (hpl : (backTo pos (starEach es X.env)).any (·.1) = false := by rfl) :
    SnE X Z W (.Call (.Name x p) (e :: es) [] pos) (cCall ps.length F ga) := fun zk => pe_imp (pe_G G hr hgd hg hm hk hb tk (ha zk) hdb he hpl) fun σ H Q ⟨T, s, R, q⟩ => by
  refine ⟨T, s, R, Res.sat_mono (Res.sat_bind.mp q) (fun rs s1 q vs H1 hl R1 => ?_) fun e s h => h⟩
  exact spF_of zk.symm hl R1 q
theorem snE_call0 (G : FnG X.prog X.w X.K X.mg X.base k f fd ps (spF X.K ps.length F)) (hr : Room k X.A) (hgd : X.A.guards = some []) (hg : Gl X x) (hm : X.mg x = some (.ref f)) (hk : PySem.W.keepIn X.K (.ref f) = true) (hb : Binds X.K fd ps []) (tk : Takes X W)
    (hdb : (x == ("__debug__" : Str)) = false := by decide) : SnE X Z W (.Call (.Name x p) [] [] pos) (cCall ps.length F cNil) := fun zk => pe_imp (pe_G0 G hr hgd hg hm hk hb tk hdb) fun σ H Q ⟨T, s, R, q⟩ =>
  spF_of (vs := []) (rs := []) zk.symm rfl R q
end
end Pw
set_option Elab.async false
set_option linter.all false
set_option maxRecDepth 100000
set_option maxHeartbeats 2000000
namespace Pw
open PySem PySem.Spec PyProof.Rows L2 PySem.W PySem.Calls PySem.HandSPX
/-! ### an error of the program's own, made -/
inductive Asgs : List Str → List Stmt → Prop
  | nil : Asgs [] []
  | cons {f : Str} {p1 p2 p3 p4 : Pos} {fs : List Str} {r : List Stmt} : Asgs fs r → Asgs (f :: fs) (.Assign [.Attribute (.Name "self" p1) f p2] (.Name f p3) p4 :: r)
inductive Nms : List Str → List Expr → Prop
  | nil : Nms [] []
  | cons {f : Str} {p : Pos} {fs : List Str} {r : List Expr} : Nms fs r → Nms (f :: fs) (.Name f p :: r)
abbrev iEnv (qual : Str) (scope : Scope) (L a : Addr) (cda : Addr) (cc : Addr) : Env := ksEnv qual scope L a (.ref cda) cc
/-- what the written part says of an error class at C whose __init__, at fI, hands its arguments on and keeps them as fs -/
structure ErC (P : Program) (K : Frag) (mg : Str → Option Value) (C fI : Addr) (qual : Str) (fs : List Str) : Prop where
  cls : ∃ nm q N bs bm sn sub ab col dd k0 k1 k2 k3 k5, K.lookup C = some (excClassObj nm q C N bs bm true sn sub ab col dd k0 k1 k2 k3 k5 "ValueError.__new__") ∧ refsVE bm = true
  sa : findIn K (.ref C) "__setattr__" = some (some (.builtin "object.__setattr__"))
  no : ∀ f ∈ fs, findIn K (.ref C) f = some none
  iC : findIn K (.ref C) "__init__" = some (some (.ref fI))
  tC : typeIn K (.ref fI) = some (.type "function")
  kC : keepIn K (.ref C) = true
  exC : subIn K (.ref C) (.type "BaseException") = some true
  veC : subIn K (.ref C) (.type "ValueError") = some true
  tyC : typeIn K (.ref C) = some (.type "type")
  sup : ks_superIn K C C "__init__" = some (some (.builtin "ValueError.__init__"))
  opq : nsIn K cStatics "thirdparty.any" = some none
  mgS : mg "super" = none
  top : (P.main.scope.names.lookup ("super" : Str)).isSome = false
  fn : ∃ (oc : Value) (od : Option Addr) (st : Stmt) (kV doc pm : Value) (an : Option Addr) (cda : Addr) (ct : Value) (cc : Addr) (osl : Array (Option Value)) (ccl cl : Value) (cdd cld : Option Addr) (ccs csl : Array (Option Value)) (cvs : Array Value) (file : Str) (tf : Tok) (p0 p1 p2 p3 p4 : Pos) (es : List Expr) (rest : List Stmt),
    K.lookup fI = some ⟨oc, od, .func (ksFn "__init__" qual (defArgs st) (defBody st) (defScope st) .none kV doc pm an (.ref cda) ct cc), osl⟩ ∧ codeIn K (.ref cda) qual = true ∧
    K.lookup cda = some ⟨ccl, cdd, .fields cvs, ccs⟩ ∧ cvs[2]? = some (.str file tf) ∧ ((P.main.file : Str) == file) = true ∧ K.lookup cc = some ⟨cl, cld, .cell (some (.ref C)), csl⟩ ∧
    defBody st = .Expr (.Call (.Attribute (.Call (.Name "super" p0) [] [] p1) "__init__" p2) es [] p3) p4 :: rest ∧ Nms fs es ∧ Asgs fs rest ∧
    (∀ env : Env, ∃ pl : Sem Bool, eval (.Call (.Attribute (.Call (.Name "super" p0) [] [] p1) "__init__" p2) es [] p3) env = (do
      let ov ← attributeBase (.Call (.Name "super" p0) [] [] p1) "__init__" env (eval (.Call (.Name "super" p0) [] [] p1) env)
      standAt p2.atName
      let (f, first) ← holding [ov] (getMethod ov "__init__" pl)
      callWith p3 f first (backTo p3 (starEach es env)) [])) ∧ (∀ env : Env, (backTo p3 (starEach es env)).any (·.1) = false) ∧
    (∃ ar, ((defArgs st).posonlyargs ++ (defArgs st).args).head? = some ar ∧ ar.arg = "self") ∧ (∃ nl more, defScope st = { kind := .function, names := nl, isGenerator := false, isCoroutine := false, more := more }) ∧
    (defScope st).names.lookup ("self" : Str) = some .local ∧ (∀ f ∈ fs, (defScope st).names.lookup f = some .local ∧ f ≠ "self" ∧ (f == ("__debug__" : Str)) = false) ∧
    (defScope st).names.lookup ("super" : Str) = some .globalImplicit ∧ (defScope st).names.lookup ("__class__" : Str) = some .free ∧ (∀ x ∈ (defScope st).names, x.2 ≠ .cell) ∧
    ∀ (x : Value) (us : List Value), us.length = fs.length → bindArgs (ksFn "__init__" qual (defArgs st) (defBody st) (defScope st) .none kV doc pm an (.ref cda) ct cc) ⟨x :: us, []⟩ = pure ((("self" : Str), x) :: fs.zip us)
  ne : fs ≠ []
  nd : fs.Nodup
  few : fs.length ≤ 20
section
variable {prog : Program} {w : World} {A : Around} {E : Value → Shared → Prop} {K : Frag} {mg : Str → Option Value} {C fI : Addr} {hp : Heap} {g : Array GenState} {d : Drawn} {t : Nat} {os : OsState}
theorem mw_call {C N : Addr} {nm q : Str} {bs bm : List Value} {hd : Bool} {sn : List Str} {sub : List Value} {ab : Bool} {col : Option Bool} {dd : Option Addr} {k0 k1 k2 k3 k5 : Option Value} {u x t0 : Addr} {rest : List Value} {Q : Value → Shared → Prop}
    (hC : hp.get? C = some (excClassObj nm q C N bs bm hd sn sub ab col dd k0 k1 k2 k3 k5 "ValueError.__new__")) (he : hp.get? x = some (excO C t0)) (hu : hp.get? u = some (kxs_mw "ValueError.__init__" x)) (hz : rest.length ≤ sizeLine)
    (hq : ∀ h' t1, (∀ b o, b ≠ x → hp.get? b = some o → h'.get? b = some o) → h'.get? x = some (excO C t1) → Q .none ⟨h', g, d, t, os⟩) :
    wpAny (model prog w) A (call (.ref u) rest) Q E ⟨hp, g, d, t, os⟩ := by
  refine wpAny_call (codeAny_of_tree ?_)
  show wpAny _ A.in1 (callAny (.ref u) ⟨rest, []⟩) _ _ _
  simp only [callAny]
  refine wpAny_bind (wpAny_load hu ?_)
  simp only [kxs_mw, show (Value.type "method-wrapper" == Value.type "method" || Value.type "method-wrapper" == Value.type "builtin_function_or_method" || Value.type "method-wrapper" == Value.type "method-wrapper") = true by decide, if_true]
  refine KFB.if_so (by decide) (wpAny_bind (check_bound_init F.excBase_ValueError.toExcCallFacts hC he rfl (wpAny_bind (wpAny_pure (wpAny_pure ?_)))))
  refine ⟨plainId_quiet F.excBase_ValueError.init.plain _, codeAny_builtin F.excBase_ValueError.initEntry ?_⟩
  exact exc_init_tree (cls := .ref C) (t0 := t0) (dv := none) (c2 := .none) (c3 := .none) (b4 := .bool false) he hz fun h' k e _ => hq h' _ k e
theorem asgs_run {P : Program} {qual : Str} {fs0 : List Str} (T : ErC P K mg C fI qual fs0) {env : Env} {m : Str → Option Value} {x dx : Addr} {fv : Array Value} {Q : Flow → Shared → Prop} (hk : env.scope.kind = .function) (hs : env.kindOf "self" = some .local) (hself : m "self" = some (.ref x)) :
    ∀ {fs : List Str} {rest : List Stmt}, Asgs fs rest → ∀ {vs : List V} {us : List Value} {hp : Heap} {t : Nat} {mA : Str → Option Value} {done : List (Str × V)}, vs.length = fs.length → Vals vs us →
    (∀ p ∈ fs.zip us, m p.1 = some p.2) → (∀ f ∈ fs, env.kindOf f = some .local ∧ (f == ("__debug__" : Str)) = false ∧ f ∈ fs0) → K.In hp → hp.Ns env.locals m → env.locals ≠ dx → K.lookup dx = none → hp.get? x = some { cls := .ref C, dict := some dx, data := .fields fv } → hp.Ns1 dx mA →
    (∀ f, L2.RelO (done.lookup f) (mA f)) → done.length + fs.length ≤ 900 →
    (∀ h' tk mB, (∀ b o, b ≠ dx → hp.get? b = some o → h'.get? b = some o) → h'.Ns1 dx mB → (∀ f, L2.RelO (((fs.zip vs).reverse ++ done).lookup f) (mB f)) → Q .next ⟨h', g, d, tk, os⟩) →
    wpAny (model prog w) A (execs rest env) Q E ⟨hp, g, d, t, os⟩ := by
  intro fs rest a
  induction a with
  | nil =>
    intro vs us hp t mA done hl _ _ _ _ _ _ _ _ hns r _ hq
    cases vs with
    | nil => exact wpAny_execs_nil (hq hp t mA (fun _ _ _ e => e) hns (by simpa using r))
    | cons _ _ => simp at hl
  | @cons f p1 p2 p3 p4 fs rest a ih =>
    intro vs us hp t mA done hl rr hm hf X hn hL hdk hx hns r hz hq
    cases rr with
    | nil => simp at hl
    | @cons v u vs us rv rr =>
    obtain ⟨nm, q, N, bs, bm, sn, sub, ab, col, dd, k0, k1, k2, k3, k5, hC, hbm⟩ := T.cls
    have hcl : clsIn K C = some { name := nm, bases := bs, mro := .ref C :: bm, ns := N, qualname := q, hasDict := true, slotNames := sn, subclasses := sub, abstract := ab, collection := col, hasDel := false } := by unfold clsIn; rw [hC] <;> rfl
    obtain ⟨f1, f2, f3⟩ := hf f List.mem_cons_self
    have hw := within_of r
    obtain ⟨oD, _, _, hoD, _, _⟩ := hns.count hw
    refine wpAny_execs_cons (plainObj_wpAny_Assign_Attribute (ESX.ldL hn (hm (f, u) (by simp)) (ESX.ldL hn hself ?_ hk hs) hk f1 f2))
    refine set_plain X (ox := { cls := .ref C, dict := some dx, data := .fields fv }) (od := some oD) ⟨hx, rfl, rfl, hoD⟩ T.sa ?_
    refine OEX.osa_old X hx hns hw (by rw [List.length_map]; omega) hcl (show refsVE (.ref C :: bm) = true from hbm) rfl (T.no f f3) fun h' tk' k hn' => ?_
    have hxd : x ≠ dx := fun z => by
      obtain ⟨o, es, ep, e1, e2, _⟩ := hns
      rw [← z, hx] at e1
      have z2 := Option.some.inj e1
      subst z2
      cases e2
    show wpAny _ _ (execs _ _) _ _ _
    refine ih (done := (f, v) :: done) (by simpa using hl) rr (fun p hp => hm p (by simp [hp])) (fun f hf' => hf f (List.mem_cons_of_mem _ hf')) ?_ ?_ hL hdk (k _ _ hxd hx) hn' (relO_put rv r) (by simp at hz ⊢; omega) fun h2 tk2 mB k2 n2 r2 => ?_
    · exact fun b o e => k b o (fun z => by rw [z, hdk] at e; cases e) (X b o e)
    · exact hn.at fun o e => k _ _ hL e
    · exact hq h2 tk2 mB (fun b o hb e => k2 b o hb (k b o hb e)) n2 (by simpa using r2)
/-- what __init__ leaves of the fresh error at x -/
structure InitLeft (h h' : Heap) (x C dx : Addr) (ws : List (Str × V)) : Prop where
  keep : ∀ b o, b ≠ x → h.get? b = some o → h'.get? b = some o
  obj : ∃ t1, h'.get? x = some { cls := .ref C, dict := some dx, data := .fields #[.ref t1, .none, .none, .none, .bool false, .none] }
  big : h.objs.size ≤ dx
  ne : dx ≠ x
  ns : ∃ mB, h'.Ns1 dx mB ∧ ∀ f, L2.RelO (ws.lookup f) (mB f)
theorem nms_run {M : Model} {env : Env} {m : Str → Option Value} {pos : Pos} {s : Shared} (hk : env.scope.kind = .function) (hn : s.heap.Ns env.locals m) : ∀ {fs : List Str} {es : List Expr}, Nms fs es → ∀ {us : List Value} {Q : List Value → Shared → Prop}, us.length = fs.length → (∀ p ∈ fs.zip us, m p.1 = some p.2) →
    (∀ f ∈ fs, env.kindOf f = some .local ∧ (f == ("__debug__" : Str)) = false) → Q us s → wpAny M A (spliced (backTo pos (starEach es env))) Q E s := by
  intro fs es a
  induction a with
  | nil =>
    intro us Q hl _ _ q
    cases us with
    | nil => exact Calls.spliced_nil q
    | cons _ _ => simp at hl
  | @cons f p fs es a ih =>
    intro us Q hl hm hf q
    cases us with
    | nil => simp at hl
    | cons u us =>
      obtain ⟨f1, f2⟩ := hf f List.mem_cons_self
      show wpAny M A (spliced ((false, eval (.Name f p) env) :: backTo pos (starEach es env))) Q E s
      exact Calls.spliced_cons (ESX.ldL hn (hm (f, u) (by simp)) (ih (by simpa using hl) (fun p hp => hm p (by simp [hp])) (fun f hf' => hf f (List.mem_cons_of_mem _ hf')) q) hk f1 f2)
theorem zip_fst {α β : Type} : ∀ {l : List α} {m : List β} {p : α × β}, p ∈ l.zip m → p.1 ∈ l
  | [], _, p, h => by simp at h
  | a :: l, [], p, h => by simp at h
  | a :: l, b :: m, p, h => by
    simp only [List.zip_cons_cons, List.mem_cons] at h
    rcases h with rfl | h
    · exact List.mem_cons_self
    · exact List.mem_cons_of_mem _ (zip_fst h)
theorem lookup_mem {α : Type} : ∀ {l : List (Str × α)} {p : Str × α}, (l.map (·.1)).Nodup → p ∈ l → l.lookup p.1 = some p.2
  | [], p, _, h => by simp at h
  | (k, v) :: l, p, nd, h => by
    simp only [List.map_cons, List.nodup_cons] at nd
    rcases List.mem_cons.mp h with rfl | h
    · simp [List.lookup]
    · have ne : (p.1 == k) = false := by
        simp only [beq_eq_false_iff_ne]
        intro e
        exact nd.1 (List.mem_map.mpr ⟨p, h, e⟩)
      rw [List.lookup, ne]
      exact lookup_mem nd.2 h
theorem zip_map_fst {α β : Type} : ∀ {l : List α} {m : List β}, l.length = m.length → (l.zip m).map (·.1) = l
  | [], _, _ => rfl
  | a :: l, [], h => by simp at h
  | a :: l, b :: m, h => by simp [zip_map_fst (l := l) (m := m) (by simpa using h)]
theorem own_mro {K : Frag} {C : Addr} {cd : ClassData} {bm : List Value} (hcl : clsIn K C = some cd) (h : cd.mro = .ref C :: bm := by rfl) : mroIn K C (.ref C) = some true := by
  unfold mroIn
  rw [hcl, Option.bind_some, h]
  rw [if_neg (by simp), List.contains_cons, beq_self_eq_true, Bool.true_or]
theorem er_init {P : Program} {w : World} {qual : Str} {fs : List Str} (T : ErC P K mg C fI qual fs) {x t0 : Addr} {vs : List V} {us : List Value} {R : Result → Shared → Prop} (X : K.In hp) (hlim : hp.NoLimit) (G : hp.Ns mainGlobals mg) {mb : Str → Option Value} (B : hp.Ns builtinsNs mb) (hB : mb "super" = some (.type "super"))
    (hx : hp.get? x = some (excO C t0)) (hnx : K.lookup x = none) (hroom : A.depth < recursionLimit) (hl : vs.length = fs.length) (r : Vals vs us)
    (hq : ∀ h' tk dx, InitLeft hp h' x C dx (fs.zip vs).reverse → R (.ok (.ret .none)) ⟨h', g, d, tk, os⟩) :
    codeAny (model P w) A (.call (.ref fI) ⟨.ref x :: us, []⟩) R ⟨hp, g, d, t, os⟩ := by
  obtain ⟨oc, od, st, kV, doc, pm, an, cda, ct, cc, osl, ccl, cl, cdd, cld, ccs, csl, cvs, file, tf, p0, p1, p2, p3, p4, es, rest, ho, hcd, hca, hcv, hfile, hcc, hbody, hnm, has, hev, hplain, ⟨ar, har, hars⟩, ⟨nl, more, hsc⟩, hself, hfs, hsup, hcls, hnc, hbind⟩ := T.fn
  obtain ⟨nm, q, N, bs, bm, sn, sub, ab, col, dd, k0, k1, k2, k3, k5, hC, hbm⟩ := T.cls
  have hcl : clsIn K C = some { name := nm, bases := bs, mro := .ref C :: bm, ns := N, qualname := q, hasDict := true, slotNames := sn, subclasses := sub, abstract := ab, collection := col, hasDel := false } := by unfold clsIn; rw [hC] <;> rfl
  have lu : us.length = fs.length := by rw [← r.length]; exact hl
  rw [hsc] at ho hself hfs hsup hcls hnc hbind
  refine ks_codeAny_call_defAt (fd := ksFn "__init__" qual (defArgs st) (defBody st) { kind := .function, names := nl, isGenerator := false, isCoroutine := false, more := more } .none kV doc pm an (.ref cda) ct cc) (body := defBody st) (binds := (("self" : Str), Value.ref x) :: fs.zip us) hroom (X _ _ ho) rfl hlim (codeRec_of X hcd) rfl
    (.of_eq (hbind _ us lu)) hnc (fun y hy => ?_) (fun h₁ hn k => ?_) rfl rfl rfl
  · rcases List.mem_cons.mp hy with rfl | hy
    · exact hself
    · exact (hfs _ (zip_fst hy)).1
  have X₁ : K.In h₁ := X.keeps k
  have hx₁ := k _ _ hx
  have hxL : hp.objs.size ≠ x := Nat.ne_of_gt (Heap.lt_size hx)
  have nd : (((("self" : Str), Value.ref x) :: fs.zip us).reverse.map (·.1)).Nodup := by
    rw [List.map_reverse, List.nodup_iff_pairwise_ne, List.pairwise_reverse, List.map_cons, zip_map_fst lu.symm]
    exact (List.nodup_cons.mpr ⟨fun z => (hfs _ z).2.1 rfl, T.nd⟩).imp fun h => Ne.symm h
  have hm : ∀ p ∈ (("self" : Str), Value.ref x) :: fs.zip us, (fun y => ((("self" : Str), Value.ref x) :: fs.zip us).reverse.lookup y) p.1 = some p.2 := fun p hp => lookup_mem nd (List.mem_reverse.mpr hp)
  rw [hbody]
  obtain ⟨pl, hev⟩ := hev (callEnv (ksFn "__init__" qual (defArgs st) (.Expr (.Call (.Attribute (.Call (.Name "super" p0) [] [] p1) "__init__" p2) es [] p3) p4 :: rest) { kind := .function, names := nl, isGenerator := false, isCoroutine := false, more := more } .none kV doc pm an (.ref cda) ct cc) hp.objs.size fI)
  refine ks_wpAt_execs_cons (ks_wpAt_Expr_any (ks_wpAt_MethodCall (pl := pl) ?_ hev) (by rfl) (by rfl))
  have hD1 := X₁ _ _ hC
  refine ks_wpAt_super_base (f := fI) (cc := cda) (ar := ar) hsup hcls (by decide) rfl (X₁ _ _ ho) rfl har rfl (X₁ _ _ hca) rfl hcv hfile T.top ?_
  refine ks_loadName_global rfl hsup (Calls.loadGlobal_builtin (G.keeps k) T.mgS (B.keeps k) hB ⟨rfl, ?_⟩)
  refine wpAny_loadName_free rfl hcls rfl ⟨_, X₁ _ _ hcc, rfl⟩ ?_
  rw [hars]
  refine wpAny_loadName_local rfl hself hn (hm _ List.mem_cons_self) ?_
  have I : InstAt h₁ x (excO C t0) C none := ⟨hx₁, rfl, rfl, trivial⟩
  refine ks_wpAny_isType_cls hD1 rfl ⟨rfl, ks_wpAny_call_super hD1 rfl hx₁ rfl (fun c e => by cases e) (looks_mroIn X₁ (own_mro hcl)) fun h₂ e₂ k₂ => ?_⟩
  have X₂ : K.In h₂ := X₁.keeps k₂
  have hx₂ := k₂ _ _ hx₁
  have I₂ : InstAt h₂ x (excO C t0) C none := ⟨hx₂, rfl, rfl, trivial⟩
  have hsu := T.sup
  unfold ks_superIn at hsu
  rw [hcl] at hsu
  refine kxs_getMethod kxs_ValueError e₂ (looks_opaque X₂ T.opq) (fun A Q E s k q => wpAny_bind ((looks_clsIn X₂ hcl) A _ E s k (wpAny_pure q))) rfl X₂ hsu (I₂.type.andThen (looks_subIn X₂ T.veC)) (ks_ne X₂ I₂ hcl) (by decide) ?_
  have kk : ∀ b o, hp.get? b = some o → (h₂.push (kxs_mw "ValueError.__init__" x)).get? b = some o := fun b o e => Heap.get?_push_of_some _ (k₂ _ _ (k _ _ e))
  have hn₃ : (h₂.push (kxs_mw "ValueError.__init__" x)).Ns hp.objs.size (fun y => ((("self" : Str), Value.ref x) :: fs.zip us).reverse.lookup y) := hn.at fun o e => Heap.get?_push_of_some _ (k₂ _ _ e)
  have hu : (h₂.push (kxs_mw "ValueError.__init__" x)).get? h₂.objs.size = some (kxs_mw "ValueError.__init__" x) := Heap.get?_push_at rfl rfl
  refine kxs_callWith (first := []) (i := "ValueError.__init__") (x := x) (hplain _) ?_
  have lz : us.length ≤ sizeLine := by rw [lu, sizeLine_eq]; have := T.few; omega
  have hkf : ∀ f ∈ fs, (iEnv qual { kind := .function, names := nl, isGenerator := false, isCoroutine := false, more := more } hp.objs.size fI cda cc).kindOf f = some .local ∧ (f == ("__debug__" : Str)) = false := fun f hf => ⟨(hfs f hf).1, (hfs f hf).2.2⟩
  have hne := T.ne
  have hnm0 := hnm
  cases hnm with
  | nil => exact absurd rfl hne
  | @cons f0 pf fs es hnm =>
  refine evalArgs_plain (nms_run (m := fun y => ((("self" : Str), Value.ref x) :: (f0 :: fs).zip us).reverse.lookup y) (env := iEnv qual { kind := .function, names := nl, isGenerator := false, isCoroutine := false, more := more } hp.objs.size fI cda cc) rfl hn₃ hnm0 lu (fun p hp => hm p (List.mem_cons_of_mem _ hp)) hkf ⟨hu, ?_⟩)
  refine mw_call (Heap.get?_push_of_some _ (k₂ _ _ hD1)) (Heap.get?_push_of_some _ hx₂) hu lz fun h₄ t1 k₄ hx₄ => ?_
  have hxK : ∀ b o, hp.get? b = some o → b ≠ x → h₄.get? b = some o := fun b o e n => k₄ b o n (kk b o e)
  have X₄ : K.In h₄ := fun b o e => hxK b o (X b o e) fun z => by rw [z, hnx] at e; cases e
  have hn₄ := hn₃.at fun o e => k₄ _ _ hxL e
  show _root_.PySem.wpAt _ _ _ (execs _ _) _ _ _
  refine wpAt_of_wpAny ?_
  cases has with
  | @cons f p1' p2' p3' p4' fs rest a =>
  cases r with
  | nil => simp at lu
  | @cons v u vs us rv rr =>
  refine wpAny_execs_cons (plainObj_wpAny_Assign_Attribute (ESX.ldL hn₄ (hm (f0, u) (by simp)) (ESX.ldL hn₄ (hm _ List.mem_cons_self) ?_ rfl hself) rfl (hfs f0 List.mem_cons_self).1 (hfs f0 List.mem_cons_self).2.2))
  refine set_plain X₄ (ox := excO C t1) (od := none) ⟨hx₄, rfl, rfl, trivial⟩ T.sa ?_
  refine exc_osa X₄ hx₄ hcl (show refsVE (.ref C :: bm) = true from hbm) rfl (T.no f0 List.mem_cons_self) fun h₅ tk₅ dx k₅ dn dne hx₅ hn₅ => ?_
  have lt0 : hp.objs.size < h₁.objs.size := hn.lt
  have lt4 : hp.objs.size < h₄.objs.size := hn₄.lt
  have hdk : K.lookup dx = none := by
    cases e : K.lookup dx with
    | none => rfl
    | some o => exact absurd (Heap.lt_size (X₄ _ _ e)) (Nat.not_lt.mpr dn)
  show wpAny _ _ (execs _ _) _ _ _
  refine asgs_run T (env := iEnv qual { kind := .function, names := nl, isGenerator := false, isCoroutine := false, more := more } hp.objs.size fI cda cc) (m := fun y => ((("self" : Str), Value.ref x) :: (f0 :: fs).zip (u :: us)).reverse.lookup y) (x := x) (dx := dx) (done := [(f0, v)]) rfl hself (hm _ List.mem_cons_self) a (by simpa using hl) rr (fun p hp => hm p (by simp [hp])) (fun f hf => ⟨(hkf f (List.mem_cons_of_mem _ hf)).1, (hkf f (List.mem_cons_of_mem _ hf)).2, List.mem_cons_of_mem _ hf⟩)
    (fun b o e => ?_) (hn₄.at fun o e => k₅ _ _ hxL e) (fun z => absurd (Nat.lt_of_lt_of_le lt4 dn) (by rw [← (show hp.objs.size = dx from z)]; exact Nat.lt_irrefl _)) hdk hx₅ hn₅ (relO_put (fs := []) rv fun g => trivial) (by have := T.few; simp at this ⊢; omega) fun h₆ tk₆ mB k₆ hn₆ r₆ => ?_
  · exact k₅ b o (fun z => by rw [z, hnx] at e; cases e) (X₄ b o e)
  · have hxd : x ≠ dx := dne.symm
    refine hq h₆ tk₆ dx ⟨fun b o hb e => k₆ b o ?_ (k₅ b o hb (hxK b o e hb)), ⟨t1, k₆ _ _ hxd hx₅⟩, Nat.le_of_lt (Nat.lt_of_lt_of_le lt4 dn), dne, mB, hn₆, by simpa using r₆⟩
    exact Nat.ne_of_lt (Nat.lt_of_lt_of_le (Heap.lt_size (hxK b o e hb)) dn)
/-- an error made -/
theorem er_made {P : Program} {w : World} {qual : Str} {fs : List Str} (T : ErC P K mg C fI qual fs) {vs : List V} {us : List Value} {R : Result → Shared → Prop} (X : K.In hp) (hlim : hp.NoLimit) (G : hp.Ns mainGlobals mg) {mb : Str → Option Value} (B : hp.Ns builtinsNs mb) (hB : mb "super" = some (.type "super"))
    (hroom : A.depth + 1 < recursionLimit) (hl : vs.length = fs.length) (r : Vals vs us)
    (hq : ∀ h' tk e dx, (∀ b o, hp.get? b = some o → h'.get? b = some o) → hp.objs.size ≤ e → (∃ t1, h'.get? e = some { cls := .ref C, dict := some dx, data := .fields #[.ref t1, .none, .none, .none, .bool false, .none] }) → hp.objs.size ≤ dx → dx ≠ e →
      (∃ mB, h'.Ns1 dx mB ∧ ∀ f, L2.RelO ((fs.zip vs).reverse.lookup f) (mB f)) → R (.ok (.ret (.ref e))) ⟨h', g, d, tk, os⟩) :
    codeAny (model P w) A (.call (.ref C) ⟨us, []⟩) R ⟨hp, g, d, t, os⟩ := by
  obtain ⟨nm, q, N, bs, bm, sn, sub, ab, col, dd, k0, k1, k2, k3, k5, hC, hbm⟩ := T.cls
  have k : ∀ b o, hp.get? b = some o → ((hp.push (kdv_tup us)).push (excO C hp.objs.size)).get? b = some o := fun b o e => Heap.get?_push_of_some _ (Heap.get?_push_of_some _ e)
  have hget : ((hp.push (kdv_tup us)).push (excO C hp.objs.size)).get? (hp.objs.size + 1) = some (excO C hp.objs.size) := by heap_get
  have hnx : K.lookup (hp.objs.size + 1) = none := by
    cases e : K.lookup (hp.objs.size + 1) with
    | none => rfl
    | some o => exact absurd (Nat.lt_of_succ_lt (Heap.lt_size (X _ _ e))) (Nat.lt_irrefl _)
  have lz : us.length ≤ sizeLine := by rw [← r.length, hl, sizeLine_eq]; have := T.few; omega
  refine call_own F.excBase_ValueError (fun Y => refsVE_contains Y bm hbm) (X _ _ hC) (looks_findIn X T.iC) (fun self => bind_fn X self T.tC) lz ?_
  refine er_init T (X.keeps k) (hlim.keeps k) (G.keeps k) (B.keeps k) hB hget hnx (by show A.depth + 1 < recursionLimit; exact hroom) hl r fun h' tk' dx M => ?_
  have old : ∀ b o, hp.get? b = some o → h'.get? b = some o := fun b o e => M.keep b o (Nat.ne_of_lt (Nat.lt_succ_of_lt (Heap.lt_size e))) (k b o e)
  have z : hp.objs.size + 1 + 1 ≤ dx := by
    first
      | (simpa only [Heap.size_push] using M.big)
      | exact M.big
      | (have q := M.big; rw [Heap.size_push, Heap.size_push] at q; exact q)
  exact ⟨rfl, hq h' tk' (hp.objs.size + 1) dx old (Nat.le_succ _) M.obj (Nat.le_trans (Nat.le_trans (Nat.le_succ _) (Nat.le_succ _)) z) M.ne M.ns⟩
end
/-- an error of the class at C is one that «except C» names -/
theorem exm_own {K : Frag} {C : Addr} (a : subIn K (.ref C) (.type "BaseException") = some true) (b : isClsIn K C = true) (c : typeIn K (.ref C) = some (.type "type")) (d : subIn K (.ref C) (.ref C) = some true) : exmOne K (.ref C) (.ref C) = some true := by
  have b' : (clsIn K C).isSome = true := b
  have e1 : ((clsIn K C).isSome && typeIn K (.ref C) == some (.type "type")) = true := by rw [b', c] <;> rfl
  have e0 : (subIn K (.ref C) (.type "BaseException") == some true) = true := by rw [a] <;> rfl
  show (if (subIn K (.ref C) (.type "BaseException") == some true) = true then (if ((clsIn K C).isSome && typeIn K (.ref C) == some (.type "type")) = true then subIn K (.ref C) (.ref C) else none) else none) = some true
  rw [if_pos e0, if_pos e1, d]
def clsDef (st : Stmt) : Stmt := match st with
  | .ClassDef (body := b :: _) .. => b
  | s => s
end Pw
set_option Elab.async false
set_option linter.all false
set_option maxRecDepth 100000
set_option maxHeartbeats 2000000
namespace Pw
open PySem PySem.Spec PyProof.Rows L2
section
variable {X : Cx} {Z : Zx} {W : WX} {a e : Expr} {es : List Expr} {ga : Ag} {k : Nat} {C fI : Addr} {qual x : Str} {fs : List Str} {p pos pos2 : Pos} {ta : TA} {H : Hp} {σ : L2.St} {T : List Ent} {s : S}
def tMkE (C : Addr) (fs : List Str) (ta : TA) : L2.St → Hp → XK → Prop := fun σ H Q => ta σ H fun vs H1 => vs.length = fs.length ∧ ∀ dd, H1 dd = none → Q (.ref C) (some dd) (upd H1 dd (.xd (fs.zip vs).reverse))
theorem pmk_er (Y : ErC X.prog X.K X.mg C fI qual fs) (hr : Room k X.A) (ha : PA X (a :: es) ta) (hg : Gl X x) (hm : X.mg x = some (.ref C)) (hdb : (x == ("__debug__" : Str)) = false := by decide)
    (hst : starEach (a :: es) X.env = (false, eval a X.env) :: starEach es X.env := by rfl) (hpl : (backTo pos (starEach es X.env)).any (·.1) = false := by rfl) : PMk X (.Call (.Name x p) (a :: es) [] pos) (tMkE C fs ta) := by
  intro pins s σ H Q I h
  refine wpAny_Call_Name_kw (ld_glob I hg hm (PySem.W.callWith_K (h₀ := X.base) I.ok.mod.kin Y.kC (thn (ha.run pos pins s σ H _ I h) fun us s1 ⟨vs, H1, I1, r1, hl, q1⟩ => ⟨I1.kIn, ?_⟩) hst hpl) hdb)
  have lim := I1.nolimit
  have K1 := I1.kIn
  obtain ⟨mb, B, hB⟩ := I1.mod.blt
  have B1 := B.keeps I1.bk
  have G1 := I1.mod.glob.keeps I1.bk
  obtain ⟨hp, g, dr, tk, os⟩ := s1
  refine wpAny_call (er_made Y K1 lim G1 B1 ((hB _ (by decide)).trans (by exact PyProof.Rows.Boot.«super»)) (by have := hr.dp; omega) hl r1 fun h' tk' e dx old big ho dbig dne hns => ?_)
  obtain ⟨t1, ho⟩ := ho
  obtain ⟨mB, hn, rel⟩ := hns
  obtain ⟨G, ga, gb⟩ := restrict h' fun b => decide (b ≠ e)
  have on : ∀ b, b ≠ e → G.get? b = h'.get? b := fun b hb => ga b (decide_eq_true hb)
  have off : G.get? e = none := gb e (by simp)
  have keepG : ∀ b o, hp.get? b = some o → G.get? b = some o := fun b o q => (on b (Nat.ne_of_lt (Nat.lt_of_lt_of_le (Heap.lt_size q) big))).trans (old b o q)
  have okX : ObjOk X.prog X.w (upd H1 dx (.xd (fs.zip vs).reverse)) G dx (.xd (fs.zip vs).reverse) := ⟨mB, hn.at fun o q => (on dx dne).trans q, rel⟩
  have J := I1.laid (t' := tk') keepG dbig okX
  refine ⟨e, _, _, ⟨G, g, dr, tk', os⟩, _, .ref C, some dx, rfl, J, fun b o q => ?_, off, ho, ⟨rfl, rfl⟩, rfl, rfl, ?_, rfl, I1.bare, raises_own Y.exC Y.tyC, q1 dx (I1.hok.fresh dbig)⟩
  · have hb : b ≠ e := fun z => by
      have q : G.get? b = some o := q
      rw [z, off] at q; cases q
    exact (on b hb).symm.trans q
  · rw [upd_ne (Ne.symm dne)]
    exact I1.hok.fresh big
def exFs (fs : List Str) (ds : List D) : List (Str × D) := (fs.zip ds).reverse
def cRaise (C : Addr) (fs : List Str) (ga : Ag) : Sm := fun s => (ga s).bind fun rs s1 => if rs.length = fs.length then match datas rs with
  | some ds => .exc ⟨C, exFs fs ds⟩ s1
  | none => .err
  else .err
theorem paired_app {α β : Type} {F : α → β → Prop} : ∀ {l₁ : List α} {l₂ : List β} {m₁ : List α} {m₂ : List β}, Paired F l₁ l₂ → Paired F m₁ m₂ → Paired F (l₁ ++ m₁) (l₂ ++ m₂)
  | _, _, _, _, .nil, q => q
  | _, _, _, _, .cons r t, q => .cons r (paired_app t q)
theorem rpF_zip {K} {O : Addr → Prop} : ∀ {fs : List Str} {vs : List V} {ds : List D}, RpA K H O vs ds → RpF K H O (fs.zip vs).reverse (exFs fs ds)
  | [], _, _, _ => by simp [exFs]; exact .nil
  | f :: fs, [], _, .nil => by simp [exFs]; exact .nil
  | f :: fs, v :: vs, d :: ds, .cons r t => by
    have := rpF_zip (fs := fs) t
    simp only [exFs, List.zip_cons_cons, List.reverse_cons] at this ⊢
    exact paired_app this (.cons ⟨rfl, r⟩ .nil)
theorem snS_raise (hc : X.calm = true) (Y : ErC X.prog X.K X.mg C fI qual fs) (hr : Room k X.A) (tk : Takes X W) (ha : SnA X Z W (a :: es) ga) (hg : Gl X x) (hm : X.mg x = some (.ref C)) (hdb : (x == ("__debug__" : Str)) = false := by decide)
    (hst : starEach (a :: es) X.env = (false, eval a X.env) :: starEach es X.env := by rfl) (hpl : (backTo pos (starEach es X.env)).any (·.1) = false := by rfl) :
    SnS X Z W (.Raise (some (.Call (.Name x p) (a :: es) [] pos)) none pos2) (cRaise C fs ga) := fun zk => ps_imp (ps_raise hc tk (pmk_er Y hr (ha zk) hg hm hdb hst hpl)) fun D σ H ⟨T, s, R, q⟩ => by
  refine ⟨T, s, R, Res.sat_mono (Res.sat_bind.mp q) (fun rs s1 q vs H1 hl R1 => ?_) fun e s h => h σ⟩
  split at q
  · rename_i hn
    split at q
    · rename_i ds ed
      refine ⟨hl.trans hn, fun dd hd => q σ dd _ ⟨R1.1, ?_⟩⟩
      obtain ⟨O, r⟩ := R1.2
      have ra : RpA Z.K H1 O vs ds := rpA_ents hl ed fun x hx => r.ent x (by simp [hx])
      have kk : ∀ b x, H1 b = some x → upd H1 dd (.xd (fs.zip vs).reverse) b = some x := fun b x e => by rw [upd_ne (ne_of_none e hd)]; exact e
      have r2 : RelO Z (upd H1 dd (.xd (fs.zip vs).reverse)) s1.src ((some (.ref dd), some (.exd (exFs fs ds))) :: (ents vs rs ++ T ++ List.zip σ s1.sl)) O := (r.new hd).push mild_exd fun s q => by
        cases q
        exact ⟨_, rfl, dd, _, rfl, r.fresh hd, upd_same, rpF_zip ((Stp.of_keep kk).rpA ra)⟩
      have r3 : Rel Z (upd H1 dd (.xd (fs.zip vs).reverse)) s1.src (ents vs rs ++ ((some (.ref dd), some (.exd (exFs fs ds))) :: (T ++ List.zip σ s1.sl))) := Rel.perm ⟨O, r2⟩ (by rw [List.append_assoc]; exact List.perm_middle.symm)
      exact Rel.popN _ r3
    · exact q.elim
  · exact q.elim
/-! ### try -/
def noExn : List (Option SV) → Bool
  | [] => true
  | some (.exn _) :: _ => false
  | _ :: r => noExn r
def Fl.noExn : Fl → Bool
  | .ret (.exn _) => false
  | _ => true
def Zx.at (Z : Zx) (a dd : Addr) : Zx := { Z with Xn := some (a, dd) }
def cTry (m : Sm) (C : Addr) (i : Nat) (ms : Sm) : Sm := fun s => match m s with
  | .ok fl s1 => .ok fl s1
  | .err => .err
  | .exc e s1 => if e.cls = C then (ms { s1 with sl := s1.sl.set i (some (.exn e.fs)) }).quiet.bind fun fl s2 => if fl.noExn = true ∧ noExn (s2.sl.set i none) = true then .ok fl { s2 with sl := s2.sl.set i none } else .err
    else .err
theorem Rel.xn {src : Option Src} {L : List Ent} {c : Option (Addr × Addr)} (h : Rel Z H src L) (hx : ∀ e ∈ L, ∀ fs, e.2 ≠ some (.exn fs)) : Rel { Z with Xn := c } H src L := by
  obtain ⟨O, r⟩ := h
  refine ⟨O, r.oc, fun e he s q => ?_, r.ap, r.src, r.base, r.live⟩
  obtain ⟨v, e1, k⟩ := r.ent e he s q
  refine ⟨v, e1, ?_⟩
  cases s <;> first | exact k | exact absurd q (hx e he _)
theorem Rel.noXn {src : Option Src} {L : List Ent} (h : Rel Z H src L) (hz : Z.Xn = none) : ∀ e ∈ L, ∀ fs, e.2 ≠ some (.exn fs) := fun e he fs q => by
  obtain ⟨O, r⟩ := h
  obtain ⟨v, e1, a, dd, xs, z, _⟩ := r.ent e he _ q
  rw [hz] at z; cases z
theorem noExn_zip : ∀ {sl : List (Option SV)} {σ : L2.St}, noExn sl = true → ∀ e ∈ List.zip σ sl, ∀ fs, e.2 ≠ some (.exn fs)
  | [], σ, _, e, he => by simp at he
  | _ :: _, [], _, e, he => by simp at he
  | o :: sl, v :: σ, h, e, he => by
    simp only [List.zip_cons_cons, List.mem_cons] at he
    rcases he with rfl | he
    · intro fs q
      cases q
      simp [noExn] at h
    · refine noExn_zip (sl := sl) (σ := σ) ?_ e he
      match o, h with
      | none, h => exact h
      | some (.sh _), h => exact h
      | some (.own _), h => exact h
      | some (.fn _), h => exact h
      | some .src, h => exact h
      | some (.exd _), h => exact h
      | some (.fns _), h => exact h
      | some (.scr _), h => exact h
      | some .tb, h => exact h
      | some .lm, h => exact h
theorem Rel.exn {src : Option Src} {i : Nat} {a dd : Addr} {fs : List (Str × D)} {sl : List (Option SV)} (h : Rel (Z.at a dd) H src ((some (.ref dd), some (.exd fs)) :: (T ++ List.zip σ sl))) (hl : σ.length = sl.length) : Rel (Z.at a dd) H src (T ++ List.zip (σ.set i (some (.ref a))) (sl.set i (some (.exn fs)))) := by
  refine Rel.putSlot (i := i) ?_ hl
  obtain ⟨O, r⟩ := h
  have hd := r.ent _ List.mem_cons_self _ rfl
  have r2 : Rel (Z.at a dd) H src (T ++ List.zip σ sl) := Rel.pop ⟨O, r⟩
  refine ⟨O, RelO.push ⟨r.oc, fun e he => r.ent e (List.mem_cons_of_mem _ he), (List.pairwise_cons.mp r.ap).2, r.src, r.base, r.live⟩ mild_exn fun s q => ?_⟩
  cases q
  obtain ⟨v, e1, b, xs, e2, n, q, z⟩ := hd
  cases e1; cases e2
  exact ⟨_, rfl, a, dd, xs, rfl, rfl, n, q, z⟩
theorem snS_try {n : Str} {i : Nat} {body suite : List Stmt} {b₀ : Stmt} {np pos' : Pos} {m ms : Sm} (hz : Z.Xn = none) (hs : X.stack = X.env :: X.outer) (hf : X.env.frame = some X.env.locals) (hN : X.N.Nodup) (hi : X.N[i]? = some n) (hln : X.env.kindOf n = some .local) (hc : Names X x (.ref C))
    (hx : PySem.W.exmOne X.K (.ref C) (.ref C) = some true)
    (hb : ∀ (W : WX) (pn : List (Addr × Obj)) (xe : Value → Shared → Prop), Takes (X.tr pn xe) W → PassesOwn (model X.prog X.w) X.A X.env xe → SnB (X.tr pn xe) Z W body m)
    (hsu : ∀ (a : Addr) (oe : Obj) (dd : Addr) (pn : List (Addr × Obj)), Zc (.ref C) (some dd) oe → (∃ vs, oe.data = .fields vs) → SnB (X.suite a ((a, oe) :: pn)) (Z.at a dd) W0 (b₀ :: suite) ms) :
    SnS X Z W (.Try body [.ExceptHandler (some (.Name x np)) (some n) (b₀ :: suite) pos'] [] [] pos) (cTry m C i ms) := fun zk => by
  refine ps_imp (ps_try_as (i := i) (c := .ref C) (tb := fun W => LS Z W m) (ts := fun a cls d D σ H => ∃ dd, cls = .ref C ∧ d = some dd ∧ LS (Z.at a dd) W0 ms D σ H) (Wout := fun _ _ _ _ => False) hs hf hN hi hln hc (fun u s' ⟨_, _, _, _, _, _, _, _, _, _, _, _, _, _, _, _, w⟩ => w.elim)
    (fun W pn xe tk po => hb W pn xe tk po zk) fun a oe cls d pn h1 h2 => ?_) fun D σ H ⟨T, s, R, q⟩ => ?_
  · refine ⟨fun pins s σ H D I ⟨dd, e1, e2, q⟩ => ?_⟩
    subst e1 e2
    exact (hsu a oe dd pn h1 h2 zk).run pins s σ H D I q
  · refine ⟨T, s, R, ?_⟩
    unfold cTry at q
    cases e : m s with
    | ok fl s1 => rw [e] at q; exact q
    | err => rw [e] at q; exact q.elim
    | exc ex s1 =>
      rw [e] at q
      dsimp only at q
      split at q
      · rename_i hcl
        intro σ1 dd H1 R1
        refine ⟨true, by rw [hcl]; exact hx, fun _ a ha => ⟨dd, by rw [hcl], rfl, ?_⟩, fun z => by cases z⟩
        have hnx := Rel.noXn R1.2 hz
        have R2 : Rel (Z.at a dd) H1 s1.src ((some (.ref dd), some (.exd ex.fs)) :: (T ++ List.zip σ1 s1.sl)) := Rel.xn R1.2 hnx
        refine ⟨T, { s1 with sl := s1.sl.set i (some (.exn ex.fs)) }, ⟨by simpa using R1.1, Rel.exn R2 R1.1⟩, Res.sat_mono (sat_quiet (E' := fun _ _ => False) (Res.sat_bind.mp q)) (fun fl s2 q => ?_) fun _ _ h => h.elim⟩
        split at q
        · rename_i hh
          have hT : ∀ e ∈ T, ∀ fs, e.2 ≠ some (.exn fs) := fun e he => hnx e (List.mem_cons_of_mem _ (List.mem_append_left _ he))
          have back : ∀ {σ2 : L2.St} {H2 : Hp} {T2 : List Ent}, (∀ e ∈ T2, ∀ fs, e.2 ≠ some (.exn fs)) → RelS (Z.at a dd) H2 σ2 (T2 ++ T) s2 → RelS Z H2 (σ2.set i none) (T2 ++ T) { s2 with sl := s2.sl.set i none } := fun {σ2 H2 T2} h2 R => by
            have R3 := Rel.putSlot (i := i) (ov := none) (os := none) R.2.triv R.1
            have R4 := Rel.xn (c := Z.Xn) R3 fun e he => by
              rcases List.mem_append.mp he with he | he
              · exact (List.mem_append.mp he).elim (h2 e) (hT e)
              · exact noExn_zip hh.2 e he
            exact ⟨by simpa using R.1, R4⟩
          cases fl with
          | nx => exact fun σ2 H2 R => q _ _ (back (T2 := []) (fun _ h => by simp at h) R)
          | bk => exact fun σ2 H2 R => q _ _ (back (T2 := []) (fun _ h => by simp at h) R)
          | ct => exact fun σ2 H2 R => q _ _ (back (T2 := []) (fun _ h => by simp at h) R)
          | ret r => exact fun v σ2 H2 R => q _ _ _ (back (T2 := [(some v, some r)]) (fun e he fs z => by
              cases List.mem_singleton.mp he
              cases z
              simp [Fl.noExn] at hh) R)
        · exact q.elim
      · exact q.elim
/-- the caught error's field -/
def cFld (i : Nat) (f : Str) : Ev := fun s => match s.sl[i]? with
  | some (some (.exn fs)) => Res.opt ((fs.lookup f).map .sh) s
  | _ => .err
theorem rpF_lookup {K} {O : Addr → Prop} {f : Str} {d : D} : ∀ {xs : List (Str × V)} {fs : List (Str × D)}, RpF K H O xs fs → fs.lookup f = some d → ∃ v, xs.lookup f = some v ∧ Rp K H O v d
  | _, _, .nil, h => by cases h
  | (g, v) :: xs, (g', d') :: fs, .cons ⟨e, r⟩ t, h => by
    have e : g = g' := e
    subst e
    by_cases q : (f == g) = true
    · simp only [List.lookup, q, Option.some.injEq] at h ⊢
      subst h
      exact ⟨v, rfl, r⟩
    · have q : (f == g) = false := by simpa using q
      simp only [List.lookup, q] at h ⊢
      exact rpF_lookup t h
theorem snE_fld {a dd : Addr} {oe : Obj} {pn : List (Addr × Obj)} {i : Nat} {n : Str} (Y : XfC X.K C) (hno : PySem.W.findIn X.K (.ref C) n = some none) (hz : Zc (.ref C) (some dd) oe) (hf : ∃ vs, oe.data = .fields vs) (he : PE (X.suite a ((a, oe) :: pn)) e (tVar i))
    (hb : attributeBase e n X.env (eval e X.env) = eval e X.env := by rfl) : SnE (X.suite a ((a, oe) :: pn)) (Z.at a dd) W (.Attribute e n pos) (cFld i n) := fun _ => pe_imp (pe_xf Y hno hz hf he hb) fun σ H Q ⟨T, s, R, q⟩ => by
  unfold cFld at q
  split at q
  · rename_i fs e1
    obtain ⟨r, er, q⟩ := sat_opt q
    obtain ⟨d, ed, e0⟩ := Option.map_eq_some_iff.mp er
    subst e0
    obtain ⟨v, hv, hm⟩ := R.slot e1
    obtain ⟨O, R0⟩ := id R.2
    obtain ⟨w, e2, b, dd', xs, z, e3, no, hx, rf⟩ := R0.ent _ hm _ rfl
    cases e2
    have z : some (a, dd) = some (b, dd') := z
    cases z
    obtain ⟨y, hy, ry⟩ := rpF_lookup rf ed
    exact ⟨v, hv, e3, rfl, dd, xs, y, rfl, hx, hy, q _ _ ⟨R.1, R0.atSh ry⟩⟩
  · exact q.elim
end
end Pw
set_option Elab.async false
set_option linter.all false
set_option maxRecDepth 100000
namespace Pw
open PySem PySem.Spec PyProof.Rows L2
/-! ### the drawn source -/
section
variable {Z : Zx} {H H' : Hp} {L : List Ent} {T : List Ent} {σ : L2.St} {s : S} {x y : Addr} {sr sr' : Src}
theorem Rel.srcTo (R : Rel Z H (some sr) L) (hA : Z.A = some (x, y)) (hk : ∀ b, b ≠ x → b ≠ y → H' b = H b) (hx : H' x = some (.dK (srcKv y sr'))) (hy : H' y = some (.lst (sr'.cells.map V.int))) : Rel Z H' (some sr') L := by
  obtain ⟨O, r⟩ := R
  have q := r.src
  rw [hA] at q
  obtain ⟨n, o1, o2, _, _⟩ := q
  have hin : ∀ b, InA Z.A b ↔ b = x ∨ b = y := fun b => by rw [hA]; exact Iff.rfl
  have t : Stp H H' O O (fun b => b = x ∨ b = y) := ⟨fun b z e n => by rw [hk b (fun q => n (.inl q)) fun q => n (.inr q)]; exact e, fun b z => z.elim (fun z => z ▸ o1) fun z => z ▸ o2, fun _ z => .inl z, fun _ z _ => z⟩
  refine ⟨O, r.oc, fun e he => t.ent (fun d a h1 h2 z => ?_) (r.ent e he), r.ap, ?_, fun b z e nA => ?_, fun b z => ?_⟩
  · obtain ⟨w, e1, a', e2, _, _, na, _⟩ := r.ent e he _ h1
    rw [h2] at e1
    cases e1; cases e2
    exact na ((hin a).mpr z)
  · rw [hA]
    exact ⟨n, o1, o2, hx, hy⟩
  · rw [hk b (fun q => nA ((hin b).mpr (.inl q))) fun q => nA ((hin b).mpr (.inr q))]
    exact r.base b z e nA
  · by_cases e1 : b = x
    · exact ⟨_, e1 ▸ hx⟩
    · by_cases e2 : b = y
      · exact ⟨_, e2 ▸ hy⟩
      · rw [hk b e1 e2]; exact r.live b z
theorem RelS.src {i : Nat} (R : RelS Z H σ T s) (e : s.sl[i]? = some (some .src)) : ∃ x y sr, Z.A = some (x, y) ∧ σ[i]? = some (some (.ref x)) ∧ s.src = some sr ∧ x ≠ y ∧ H x = some (.dK (srcKv y sr)) ∧ H y = some (.lst (sr.cells.map V.int)) := by
  obtain ⟨v, hv, hm⟩ := R.slot e
  obtain ⟨O, r⟩ := R.2
  obtain ⟨w, e1, x, y, hA, e2⟩ := r.ent _ hm _ rfl
  cases e1; cases e2
  have q := r.src
  rw [hA] at q
  cases hs : s.src with
  | none => rw [hs] at q; exact q.elim
  | some sr =>
    rw [hs] at q
    exact ⟨x, y, sr, hA, hv, rfl, q.1, q.2.2.2.1, q.2.2.2.2⟩
end
section
variable {X : Cx} {Z : Zx} {W : WX} {o e : Expr} {f : Ev} {i : Nat} {k : Str} {kj : Nat} {kp pos pos' p apos cpos : Pos} {H : Hp} {σ : L2.St} {T : List Ent} {s : S}
def rKey : R2 := fun x y H Q => ∃ a kvs k v, x = .ref a ∧ H a = some (.dK kvs) ∧ y = kV k ∧ valV kvs k = some v ∧ Q v H
theorem ixKey (hu : X.A.units + 64 < cLine) : IxR X rKey := by
  intro value slice pins s σ H x y v u Q I rx ry h hs
  obtain ⟨a, kvs, k, w, rfl, ha, rfl, hv, q⟩ := h
  cases rx
  have g : DGet H a (kV k) (some w) := hv ▸ DGet.k (k := k) ha
  exact subTail (dict_typeIs I g) PySem.F.slot_dict_getitem.lookup (d_getItem (by omega) I g ry fun w' s3 I3 rw' => ⟨w, H, I3, rw', q⟩) hs
theorem pe_key (hu : X.A.units + 64 < cLine) (ho : PE X o (tVar i)) (hs : PlainIx (.Constant (.str k) kj kp)) : PE X (.Subscript o (.Constant (.str k) kj kp) pos) (tOp rKey (tVar i) (tC (.str k))) := pe_ix (ixKey hu) ho pe_str hs
def SelOk (k : Str) (sel : Src → Int) : Prop := ∀ y s, valV (srcKv y s) (.inr k) = some (.int (sel s))
def cSrcG (i : Nat) (sel : Src → Int) : Ev := fun s => match s.sl[i]?, s.src with
  | some (some .src), some sr => .ok (.sh (.int (sel sr))) s
  | _, _ => .err
theorem snE_srcG {sel : Src → Int} (hk : SelOk k sel) (hu : X.A.units + 64 < cLine) (ho : PE X o (tVar i)) (hs : PlainIx (.Constant (.str k) kj kp)) : SnE X Z W (.Subscript o (.Constant (.str k) kj kp) pos) (cSrcG i sel) := fun _ => pe_imp (pe_key hu ho hs) fun σ H Q ⟨T, s, R, q⟩ => by
  unfold cSrcG at q
  split at q
  · rename_i sr e1 e2
    obtain ⟨x, y, sr', hA, hv, e3, ne, hx, hy⟩ := R.src e1
    rw [e2] at e3; cases e3
    exact ⟨.ref x, hv, x, _, .inr k, _, rfl, hx, rfl, hk y sr, q _ _ ⟨R.1, R.2.int _⟩⟩
  · exact q.elim
theorem valCells (y : Addr) (s : Src) : valV (srcKv y s) (.inr "cells") = some (.ref y) := rfl
theorem pe_cells (hu : X.A.units + 64 < cLine) (ho : PE X o (tVar i)) (hs : PlainIx (.Constant (.str "cells") kj kp)) : PE X (.Subscript o (.Constant (.str "cells") kj kp) pos) (fun σ H Q => ∃ x y s, σ[i]? = some (some (.ref x)) ∧ H x = some (.dK (srcKv y s)) ∧ Q (.ref y) H) :=
  pe_imp (pe_key hu ho hs) fun σ H Q ⟨x, y, s, h1, h2, q⟩ => ⟨.ref x, h1, x, _, .inr "cells", _, rfl, h2, rfl, valCells y s, q⟩
def cSrcLen (i : Nat) : Ev := fun s => match s.sl[i]?, s.src with
  | some (some .src), some sr => .ok (.sh (.int sr.cells.length)) s
  | _, _ => .err
theorem snE_srcLen {c : Expr} (hc : PE X c (fun σ H Q => ∃ x y s, σ[i]? = some (some (.ref x)) ∧ H x = some (.dK (srcKv y s)) ∧ Q (.ref y) H)) (hg : Gl X "len") (hm : X.mg "len" = none) (he : starEach (c :: []) X.env = (false, eval c X.env) :: starEach [] X.env := by rfl) :
    SnE X Z W (.Call (.Name "len" p) [c] [] pos) (cSrcLen i) := fun k => pe_imp (pe_callB call_len hg hm PyProof.Rows.Boot.«len» (pa_cons hc pa_nil he) (he := he)) fun σ H Q ⟨T, s, R, q⟩ => by
  unfold cSrcLen at q
  split at q
  · rename_i sr e1 e2
    obtain ⟨x, y, sr', hA, hv, e3, ne, hx, hy⟩ := R.src e1
    rw [e2] at e3; cases e3
    refine ⟨x, y, sr, hv, hx, .ref y, _, rfl, .inl ⟨_, SqL.of hy, rfl⟩, ?_⟩
    rw [List.length_map]
    exact q _ _ ⟨R.1, R.2.int _⟩
  · exact q.elim
def cSrcPop (i : Nat) : Ev := fun s => match s.sl[i]?, s.src with
  | some (some .src), some sr => match sr.cells[sr.cells.length - 1]? with
    | some n => .ok (.sh (.int n)) { s with src := some { sr with cells := sr.cells.dropLast } }
    | none => .err
  | _, _ => .err
theorem snE_srcPop {c : Expr} (hc : PE X c (fun σ H Q => ∃ x y s, σ[i]? = some (some (.ref x)) ∧ H x = some (.dK (srcKv y s)) ∧ Q (.ref y) H))
    (hbase : attributeBase c "pop" X.env (eval c X.env) = eval c X.env := by rfl) (hline : (apos.endLine == cpos.line) = true := by rfl) : SnE X Z W (.Call (.Attribute c "pop" apos) [] [] cpos) (cSrcPop i) := fun k =>
  pe_imp (pe_bm0 PySem.F.plainAttrs_list PySem.F.slot_list_pop PySem.F.type_list_pop mt_pop hc hbase hline) fun σ H Q ⟨T, s, R, q⟩ => by
  unfold cSrcPop at q
  split at q
  · rename_i sr e1 e2
    obtain ⟨x, y, sr', hA, hv, e3, ne, hx, hy⟩ := R.src e1
    rw [e2] at e3; cases e3
    split at q
    · rename_i n e4
      refine ⟨x, y, sr, hv, hx, .inl ⟨rfl, _, SqL.of hy⟩, y, _, .int n, rfl, rfl, hy, by rw [List.length_map, List.getElem?_map, e4]; rfl, q _ _ ⟨R.1, ?_⟩⟩
      have R2 : Rel Z H (some sr) (T ++ List.zip σ s.sl) := by rw [← e2]; exact R.2
      exact (R2.srcTo (sr' := { sr with cells := sr.cells.dropLast }) hA (fun b _ h => upd_ne h) (by rw [upd_ne ne]; exact hx) (by rw [upd_same, List.map_dropLast])).int n
    · exact q.elim
  · exact q.elim
def PutOk (k : Str) (put : Src → Int → Src) : Prop := ∀ y s n, putK (srcKv y s) (.inr k) (.int n) = srcKv y (put s n) ∧ (put s n).cells = s.cells
def cSrcSet (i : Nat) (put : Src → Int → Src) (f : Ev) : Sm := fun s => (f s).bind fun r s1 => match r, s1.sl[i]?, s1.src with
  | .sh (.int n), some (some .src), some sr => .ok .nx { s1 with src := some (put sr n) }
  | _, _, _ => .err
theorem snS_srcSet {put : Src → Int → Src} (hk : PutOk k put) (hu : X.A.units + 64 < cLine) (ho : PE X o (tVar i)) (he : SnE X Z W e f) (hs : swapsWithSole [.Subscript o (.Constant (.str k) kj kp) pos'] e pos.line X.env = pure false := by rfl)
    (hw : swappedStores [.Subscript o (.Constant (.str k) kj kp) pos'] e X.env = pure none := by rfl) (h1 : (assignEach [.Subscript o (.Constant (.str k) kj kp) pos'] X.env).map (·.2) = [assign (.Subscript o (.Constant (.str k) kj kp) pos') X.env] := by rfl)
    (ha : ∀ v, assign (.Subscript o (.Constant (.str k) kj kp) pos') X.env v = (do
      let ov ← holding [v] (eval o X.env)
      let iv ← holding [v, ov] (eval (.Constant (.str k) kj kp) X.env)
      standAt pos'
      holding [v, ov, iv] (setItem ov iv v)
      release [v, ov, iv] []) := by intro _; rfl) : SnS X Z W (.Assign [.Subscript o (.Constant (.str k) kj kp) pos'] e pos) (cSrcSet i put f) := fun zk => ps_imp (ps_asg (he zk) (pg_sub ho pe_str (set_dict (by omega)) ha) hs hw h1) fun D σ H ⟨T, s, R, q⟩ => by
  refine ⟨T, s, R, Res.sat_mono (Res.sat_bind.mp q) (fun r s1 q v H1 R1 => ?_) fun e s h => h σ⟩
  split at q
  · rename_i n sr e1 e2
    obtain ⟨x, y, sr', hA, hv, e3, ne, hx, hy⟩ := RelS.src R1 e1
    rw [e2] at e3; cases e3
    obtain ⟨O, R0⟩ := id R1.2
    have hr := shRp (x := (none, none)) (w := v) (d := .int n) (by simp) R0
    cases hr.int_inv
    obtain ⟨k1, k2⟩ := hk y sr n
    refine ⟨.ref x, hv, x, _, rfl, DPut.k (k := .inr k) hx (by show 4 < sizeLine; decide), q σ _ ⟨R1.1, ?_⟩⟩
    have R2 : Rel Z H1 (some sr) (T ++ List.zip σ s1.sl) := by rw [← e2]; exact R1.2.pop
    exact R2.srcTo hA (fun b h _ => upd_ne h) (by rw [upd_same, k1]) (by rw [upd_ne (Ne.symm ne), k2]; exact hy)
  · exact q.elim
theorem sel_left : SelOk "left" Src.left := fun _ _ => rfl
theorem sel_mixed : SelOk "mixed" Src.mixed := fun _ _ => rfl
theorem sel_turn : SelOk "turn" Src.turn := fun _ _ => rfl
def putLeft (s : Src) (n : Int) : Src := { s with left := n }
def putMixed (s : Src) (n : Int) : Src := { s with mixed := n }
def putTurn (s : Src) (n : Int) : Src := { s with turn := n }
theorem put_left : PutOk "left" putLeft := fun _ _ _ => ⟨rfl, rfl⟩
theorem put_mixed : PutOk "mixed" putMixed := fun _ _ _ => ⟨rfl, rfl⟩
theorem put_turn : PutOk "turn" putTurn := fun _ _ _ => ⟨rfl, rfl⟩
end
end Pw
set_option Elab.async false
set_option linter.all false
set_option maxRecDepth 100000
namespace Pw
open PySem PySem.Spec PyProof.Rows L2
section
variable {X : Cx} {Z : Zx} {W : WX} {o e a b : Expr} {es : List Expr} {f fa : Ev} {fb : Vw} {ga : Ag} {i : Nat} {x : Str} {p p1 p2 p3 pos pos' apos cpos : Pos} {H : Hp} {σ : L2.St} {T : List Ent} {s : S} {L : List Ent} {src : Option Src} {O : Addr → Prop} {v : V}
/-! ### module constants, functions by name -/
theorem snE_glob {d : D} (hg : Gl X x) (h : ∃ u, X.mg x = some u ∧ RelV (vOf d) u) (hf : flat d) (hd : (x == ("__debug__" : Str)) = false := by decide) : SnE X Z W (.Name x pos) (cD d) := snE_C (C8.pe_gc hg h hd) hf rfl
def cFn (a : Addr) : Ev := fun s => .ok (.fn a) s
theorem snE_fn {c : Addr} (hg : Gl X x) (hm : X.mg x = some (.ref c)) (hd : (x == ("__debug__" : Str)) = false := by decide) : SnE X Z W (.Name x pos) (cFn c) := fun _ => pe_imp (pe_glob (v := .ref c) hg hm rfl hd) fun σ H Q ⟨T, s, R, q⟩ => by
  refine q _ _ ⟨R.1, ?_⟩
  obtain ⟨O, r⟩ := R.2
  exact ⟨O, r.push mild_fn fun s q => by cases q; exact ⟨_, rfl, rfl⟩⟩
/-! ### built-ins of several arguments -/
def rCN (K : PySem.W.Frag) (g : List D → Option SV) : List V → Hp → VK → Prop := fun xs H Q => ∃ Z src L ds r, Z.K = K ∧ Rel Z H src L ∧ AllSh L xs ds ∧ g ds = some r ∧ ∀ v H', Rel Z H' src ((some v, some r) :: L) → Q v H'
def cCallN (g : List D → Option SV) (ga : Ag) : Ev := fun s => (ga s).bind fun rs s1 => match datas rs with
  | some ds => Res.opt (g ds) s1
  | none => .err
theorem rd_callN {g : List D → Option SV} {Q : VK} (q : LE Z W (cCallN g ga) σ H Q) : LA Z W ga σ H fun xs H1 => rCN Z.K g xs H1 Q := by
  obtain ⟨T, s, R, q⟩ := q
  refine ⟨T, s, R, Res.sat_mono (Res.sat_bind.mp q) (fun rs s1 q vs H1 hl R1 => ?_) fun e s h => h⟩
  split at q
  · rename_i ds ed
    obtain ⟨r, er, q⟩ := sat_opt q
    have e3 := datas_sh ed
    subst e3
    refine ⟨Z, s1.src, _, ds, r, rfl, R1.2, ⟨by simpa using hl, fun e he => List.mem_append_left _ (List.mem_append_left _ he)⟩, er, fun v H' R2 => q v H' ⟨R1.1, ?_⟩⟩
    have R3 : Rel Z H' s1.src (ents vs (ds.map .sh) ++ ((some v, some r) :: (T ++ List.zip σ s1.sl))) := R2.perm (by rw [List.append_assoc]; exact List.perm_middle.symm)
    exact Rel.popN _ R3
  · exact q.elim
theorem snE_callN {id : String} {g : List D → Option SV} (hc : CallR X (.builtin id) (rCN X.K g)) (hg : Gl X x) (hm : X.mg x = none) (hv : bootBuiltins x = some (.builtin id)) (ha : SnA X Z W (e :: es) ga) (hn : x ≠ "__name__" := by decide) (hdb : (x == ("__debug__" : Str)) = false := by decide)
    (he : starEach (e :: es) X.env = (false, eval e X.env) :: starEach es X.env := by rfl) (hpl : (backTo pos (starEach es X.env)).any (·.1) = false := by rfl) : SnE X Z W (.Call (.Name x p) (e :: es) [] pos) (cCallN g ga) := fun k =>
  pe_imp (pe_callB hc hg hm hv (ha k) hn hdb he hpl) fun σ H Q q => by
    have q := rd_callN q
    rw [← k] at q
    exact q
theorem AllSh.two {xs : List V} {d d' : D} (h : AllSh L xs [d, d']) : ∃ u v, xs = [u, v] ∧ (some u, some (SV.sh d)) ∈ L ∧ (some v, some (SV.sh d')) ∈ L := by
  obtain ⟨hl, h⟩ := h
  match xs, hl with
  | [u, v], _ => exact ⟨u, v, rfl, h _ (by simp [ents]), h _ (by simp [ents])⟩
def dMax2 : List D → Option SV
  | [.int i, .int j] => some (.sh (.int (if j > i then j else i)))
  | _ => none
def dMin2 : List D → Option SV
  | [.int i, .int j] => some (.sh (.int (if j < i then j else i)))
  | _ => none
theorem call_maxN (hc : X.calm = true) : CallR X (.builtin "max") (rCN X.K dMax2) := by
  intro pins s σ H xs us Q I rx h
  obtain ⟨Z, src, L, ds, r, hK, R, hs, e, q⟩ := h
  unfold dMax2 at e
  split at e
  · cases e
    obtain ⟨u, v, rfl, h1, h2⟩ := hs.two
    obtain ⟨O, R0⟩ := id R
    cases (shRp (x := (none, none)) h1 R0).int_inv
    cases (shRp (x := (none, none)) h2 R0).int_inv
    exact call_max2 hc pins s σ H _ us Q I rx ⟨_, _, rfl, q _ _ (R.int _)⟩
  · cases e
theorem call_minN (hc : X.calm = true) : CallR X (.builtin "min") (rCN X.K dMin2) := by
  intro pins s σ H xs us Q I rx h
  obtain ⟨Z, src, L, ds, r, hK, R, hs, e, q⟩ := h
  unfold dMin2 at e
  split at e
  · cases e
    obtain ⟨u, v, rfl, h1, h2⟩ := hs.two
    obtain ⟨O, R0⟩ := id R
    cases (shRp (x := (none, none)) h1 R0).int_inv
    cases (shRp (x := (none, none)) h2 R0).int_inv
    exact call_min2 hc pins s σ H _ us Q I rx ⟨_, _, rfl, q _ _ (R.int _)⟩
  · cases e
/-! ### bit_length -/
def cBits (f : Vw) : Ev := fun s => (f s).bind fun d s1 => match d with
  | .int n => .ok (.sh (.int (Builtin.Int.intBits n : Nat))) s1
  | _ => .err
theorem snE_bits (ho : SnV X Z W o fb) (hbase : attributeBase o "bit_length" X.env (eval o X.env) = eval o X.env := by rfl) (hline : (apos.endLine == pos.line) = true := by rfl) : SnE X Z W (.Call (.Attribute o "bit_length" apos) [] [] pos) (cBits fb) := fun k => pe_imp (pe_bits (ho k) hbase hline) fun σ H Q ⟨T, s, R, q⟩ => by
  refine ⟨T, s, R, Res.sat_mono (Res.sat_bind.mp q) (fun d s1 q v H1 T' R1 hv => ?_) fun e s h => h⟩
  split at q
  · obtain ⟨O, R0⟩ := id R1.2
    exact ⟨_, R0.int hv, q _ _ ⟨R1.1, Rel.int (RelS.popN R1).2 _⟩⟩
  · exact q.elim
/-! ### the list turned about -/
def cRev (f : Vw) : Ev := fun s => (f s).bind fun d s1 => match d with
  | .list ds => .ok (.own (.list ds.reverse)) s1
  | _ => .err
theorem snE_rev {k : Nat} (ho : SnV X Z W e fb) : SnE X Z W (.Subscript e (.Slice none none (some (.UnaryOp .USub (.Constant (.int 1) k p1) p2)) p3) pos) (cRev fb) := fun kz => pe_imp (pe_revL (ho kz)) fun σ H Q ⟨T, s, R, q⟩ => by
  refine ⟨T, s, R, Res.sat_mono (Res.sat_bind.mp q) (fun d s1 q v H1 T' R1 hv => ?_) fun e s h => h⟩
  split at q
  · obtain ⟨O, R0⟩ := id R1.2
    obtain ⟨c, xs, e1, hc, ra⟩ := R0.list hv
    refine ⟨c, xs, e1, SqL.of hc, fun p hp => q _ _ ⟨R1.1, ?_⟩⟩
    have R2 := R1.2.newListOf hp (xs := xs.reverse) fun O' R' => by
      obtain ⟨c', xs', e1', hc', ra'⟩ := R'.list hv
      rw [e1] at e1'
      cases e1'
      rw [hc] at hc'
      cases hc'
      exact ra'.reverse
    have R3 : Rel Z (upd H1 p (.lst xs.reverse)) s1.src (T' ++ ((some (.ref p), some (.own (.list _))) :: (T ++ List.zip σ s1.sl))) := R2.perm (by rw [List.append_assoc]; exact List.perm_middle.symm)
    exact Rel.popN _ R3
  · exact q.elim
/-! ### slices -/
def bnd (b : Option Vw) : S → Res (Option Int) := fun s => match b with
  | none => .ok none s
  | some f => (f s).bind fun d s1 => match d with
    | .int i => .ok (some i) s1
    | _ => .err
def SnO (X : Cx) (Z : Zx) (W : WX) (e : Option Expr) (b : Option Vw) : Prop := match e, b with
  | none, none => True
  | some e, some f => SnV X Z W e f
  | _, _ => False
def LO (Z : Zx) (W : WX) (b : Option Vw) : TO := fun σ H Q => ∃ T s, RelS Z H σ T s ∧ (bnd b s).sat (fun d s' => ∀ H', RelS Z H' σ T s' → Q d H') (ExP Z σ T W)
theorem po_of {e : Option Expr} {b : Option Vw} (h : SnO X Z W e b) (k : X.K = Z.K) : PO X e (LO Z W b) := by
  match e, b, h with
  | none, none, _ =>
    have := po_none (X := X)
    exact ⟨fun pins s σ H Q I ⟨T, s1, R, q⟩ => this.run pins s σ H Q I (q H R)⟩
  | some e, some f, h =>
    have := po_some (h k)
    refine ⟨fun pins s σ H Q I ⟨T, s1, R, q⟩ => this.run pins s σ H Q I ⟨T, s1, R, Res.sat_mono (Res.sat_bind.mp q) (fun d s2 q v H1 T' R1 hv => ?_) fun e s h => h⟩⟩
    split at q
    · obtain ⟨O, R0⟩ := id R1.2
      exact ⟨_, R0.int hv, q _ R1.popN⟩
    · exact q.elim
def cutD (ds : List D) (lo hi : Option Int) : List D := (ds.drop (HT.sIx ds.length 0 lo)).take (HT.sIx ds.length ds.length hi - HT.sIx ds.length 0 lo)
def dSl (d : D) (lo hi : Option Int) : Option SV := match d with
  | .list ds => some (.own (.list (cutD ds lo hi)))
  | .tuple ds => if HT.sIx ds.length 0 lo = 0 ∧ HT.sIx ds.length ds.length hi = ds.length then none else some (.sh (.tuple (cutD ds lo hi)))
  | .str z => if z.length ≤ sizeLine then some (.sh (.str (Txt.slice z lo hi))) else none
  | _ => none
def rSlD (K : PySem.W.Frag) : V → Option Int → Option Int → Hp → VK → Prop := fun x lo hi H Q => ∃ Z src L d r, Z.K = K ∧ Rel Z H src L ∧ Has L x d ∧ dSl d lo hi = some r ∧ ∀ v H', Rel Z H' src ((some v, some r) :: L) → Q v H'
theorem cut_rp {K} {O : Addr → Prop} {xs : List V} {ds : List D} {lo hi : Option Int} (r : RpA K H O xs ds) : RpA K H O (cutV xs lo hi) (cutD ds lo hi) := by
  unfold cutV cutD
  rw [r.length]
  exact (r.drop _).take _
theorem slR : SlR X (rSlD X.K) := by
  intro pins s σ H x v vl vu lo hi sl Q I rx hs pl pu h
  obtain ⟨Z, src, L, d, r, hK, R, hx, e, q⟩ := h
  obtain ⟨O, R0⟩ := id R
  unfold dSl at e
  split at e
  · cases e
    obtain ⟨c, xs, e1, hc, ra⟩ := R0.list hx
    refine sl_list pins s σ H x v vl vu lo hi sl Q I rx hs pl pu ⟨c, xs, e1, SqL.of hc, fun p hp => q _ _ (R.newListOf hp fun O' R' => ?_)⟩
    obtain ⟨c', xs', e1', hc', ra'⟩ := R'.list hx
    rw [e1] at e1'
    cases e1'
    rw [hc] at hc'
    cases hc'
    exact cut_rp ra'
  · split at e
    · cases e
    · rename_i hw
      cases e
      obtain ⟨c, xs, e1, hc, ra⟩ := R0.tuple hx
      rw [hK] at hc
      refine sl_tup pins s σ H x v vl vu lo hi sl Q I rx hs pl pu ⟨c, xs, e1, hc, by rw [ra.length]; exact hw, fun p hp => q _ _ (R.newTup hp fun O' R' => ?_)⟩
      obtain ⟨c', xs', e1', hc', ra'⟩ := R'.tuple hx
      rw [hK] at hc'
      rw [e1] at e1'
      cases e1'
      have := I.tuple_inj hc hc'
      subst this
      exact cut_rp ra'
  · split at e
    · rename_i hz
      cases e
      exact C8.sl_txt pins s σ H x v vl vu lo hi sl Q I rx hs pl pu ⟨_, R0.str hx, hz, q _ _ (R.str _)⟩
    · cases e
  · cases e
/-- the receiver's value is kept -/
def cSlE (f : Ev) (lo hi : Option Vw) : Ev := fun s => (f s).bind fun r s1 => (bnd lo s1).bind fun l s2 => (bnd hi s2).bind fun h s3 => match r.dat with
  | some d => Res.opt (dSl d l h) s3
  | none => .err
/-- the receiver's name is read late -/
def cSlV (i : Nat) (lo hi : Option Vw) : Ev := fun s => match datAt s i with
  | some _ => (bnd lo s).bind fun l s2 => (bnd hi s2).bind fun h s3 => match datAt s3 i with
    | some d => Res.opt (dSl d l h) s3
    | none => .err
  | none => .err
theorem exP_pop {e : Ex} {x : Ent} (h : ExP Z σ (x :: T) W e s) (hx : ∀ dd H', RelS Z H' σ ((some (.ref dd), some (.exd e.fs)) :: T) s → RelS Z H' σ ((some (.ref dd), some (.exd e.fs)) :: x :: T) s) : ExP Z σ T W e s := fun dd H' R => h dd H' (hx dd H' R)
theorem exP_popT {e : Ex} {x : Ent} (h : ExP Z σ T W e s) : ExP Z σ (x :: T) W e s := fun dd H' R => h dd H' ⟨R.1, (R.perm (List.Perm.swap _ _ _)).pop.2⟩
theorem snE_slE {lo hi : Option Expr} {l h : Option Vw} (ha : SnE X Z W e fa) (hl : SnO X Z W lo l) (hh : SnO X Z W hi h) : SnE X Z W (.Subscript e (.Slice lo hi none p2) pos) (cSlE fa l h) := fun k => pe_imp (pe_slice slR (ha k) (po_of hl k) (po_of hh k)) fun σ H Q ⟨T, s, R, q⟩ => by
  refine ⟨T, s, R, Res.sat_mono (Res.sat_bind.mp q) (fun r s1 q v H1 R1 => ?_) fun e s h => h⟩
  refine ⟨_, s1, R1, Res.sat_mono (Res.sat_bind.mp q) (fun l s2 q H2 R2 => ?_) fun e s h => exP_popT h⟩
  refine ⟨_, s2, R2, Res.sat_mono (Res.sat_bind.mp q) (fun h s3 q H3 R3 => ?_) fun e s h => exP_popT h⟩
  split at q
  · rename_i d ed
    obtain ⟨r', er, q⟩ := sat_opt q
    exact ⟨Z, s3.src, _, d, r', k.symm, R3.2, ⟨r, by simp, ed⟩, er, fun w H' R' => q w H' ⟨R3.1, (Rel.perm R' (List.Perm.swap _ _ _)).pop⟩⟩
  · exact q.elim
theorem snE_slV {lo hi : Option Expr} {l h : Option Vw} (ho : PE X e (tVar i)) (hl : SnO X Z W lo l) (hh : SnO X Z W hi h) : SnE X Z W (.Subscript e (.Slice lo hi none p2) pos) (cSlV i l h) := fun k => pe_imp (pe_slice slR ho (po_of hl k) (po_of hh k)) fun σ H Q ⟨T, s, R, q⟩ => by
  unfold cSlV at q
  split at q
  · rename_i d0 e0
    obtain ⟨v, hv, _⟩ := R.datAt e0
    refine ⟨v, hv, T, s, R, Res.sat_mono (Res.sat_bind.mp q) (fun l s2 q H2 R2 => ?_) fun e s h => h⟩
    refine ⟨T, s2, R2, Res.sat_mono (Res.sat_bind.mp q) (fun h s3 q H3 R3 => ?_) fun e s h => h⟩
    split at q
    · rename_i d ed
      obtain ⟨r', er, q⟩ := sat_opt q
      obtain ⟨v', hv', hm⟩ := R3.datAt ed
      rw [hv] at hv'
      cases hv'
      exact ⟨Z, s3.src, _, d, r', k.symm, R3.2, hm, er, fun w H' R' => q w H' ⟨R3.1, R'⟩⟩
    · exact q.elim
  · exact q.elim
/-! ### lists of a range, of a dict's items -/
def cListRg (f : Vw) : Ev := fun s => (f s).bind fun d s1 => match d with
  | .int j => if -(2 ^ 62) ≤ j ∧ j < 2 ^ 62 ∧ j.toNat ≤ 2 ^ 24 then .ok (.own (.list (rgD 0 j.toNat))) s1 else .err
  | _ => .err
def cListRg2 (f g : Vw) : Ev := fun s => (f s).bind fun d s1 => match d with
  | .int i => (g s1).bind fun d' s2 => match d' with
    | .int j => if -(2 ^ 62) ≤ i ∧ i < 2 ^ 62 ∧ -(2 ^ 62) ≤ j ∧ j < 2 ^ 62 ∧ (j - i).toNat ≤ 2 ^ 24 then .ok (.own (.list (rgD i (j - i).toNat))) s2 else .err
    | _ => .err
  | _ => .err
theorem rp_rg {K} {O : Addr → Prop} {i j : Int} : RpA K H O (rgV i j) (rgD i (j - i).toNat) := by
  unfold rgV rgD
  generalize (j - i).toNat = n
  induction n with
  | zero => exact .nil
  | succ n ih =>
    rw [List.range_succ, List.map_append, List.map_append]
    exact ih.append (.cons (.int _) .nil)
theorem rel_rg {i j : Int} {q : Addr} (R : RelS Z H σ T s) (hq : H q = none) : RelS Z (upd H q (.lst (rgV i j))) σ ((some (.ref q), some (.own (.list (rgD i (j - i).toNat)))) :: T) s := ⟨R.1, R.2.newListOf hq fun O _ => rp_rg⟩
theorem snE_listRg1 (hc : X.calm = true) (hgl : Gl X "list") (hml : X.mg "list" = none) (hg : Gl X "range") (hm : X.mg "range" = none) (ha : SnV X Z W a fb) (na : starEach [a] X.env = (false, eval a X.env) :: starEach [] X.env := by rfl)
    (nb : starEach [.Call (.Name "range" p1) [a] [] p2] X.env = (false, eval (.Call (.Name "range" p1) [a] [] p2) X.env) :: starEach [] X.env := by rfl) : SnE X Z W (.Call (.Name "list" p) [.Call (.Name "range" p1) [a] [] p2] [] pos) (cListRg fb) := fun k =>
  pe_imp (pe_listRg hc hgl hml (prg_1 hg hm (ha k) na) nb) fun σ H Q ⟨T, s, R, q⟩ => by
  refine ⟨T, s, R, Res.sat_mono (Res.sat_bind.mp q) (fun d s1 q v H1 T' R1 hv => ?_) fun e s h => h⟩
  split at q
  · rename_i j
    split at q
    · rename_i hz
      obtain ⟨O, R0⟩ := id R1.2
      refine ⟨j, R0.int hv, ⟨by decide, by decide, hz.1, hz.2.1, by rw [Int.sub_zero]; exact hz.2.2⟩, fun p hp => q _ _ ?_⟩
      have := rel_rg (i := 0) (j := j) R1.popN hp
      rwa [Int.sub_zero] at this
    · exact q.elim
  · exact q.elim
theorem snE_listRg2 {fc : Vw} (hc : X.calm = true) (hgl : Gl X "list") (hml : X.mg "list" = none) (hg : Gl X "range") (hm : X.mg "range" = none) (ha : SnV X Z W a fb) (hb : SnV X Z W b fc) (na : starEach [a, b] X.env = (false, eval a X.env) :: starEach [b] X.env := by rfl) (nb : starEach [b] X.env = (false, eval b X.env) :: starEach [] X.env := by rfl)
    (nc : starEach [.Call (.Name "range" p1) [a, b] [] p2] X.env = (false, eval (.Call (.Name "range" p1) [a, b] [] p2) X.env) :: starEach [] X.env := by rfl) (hp : (backTo p2 (starEach [b] X.env)).any (·.1) = false := by rfl) : SnE X Z W (.Call (.Name "list" p) [.Call (.Name "range" p1) [a, b] [] p2] [] pos) (cListRg2 fb fc) := fun k =>
  pe_imp (pe_listRg hc hgl hml (prg_2 hg hm (ha k) (hb k) na nb hp) nc) fun σ H Q ⟨T, s, R, q⟩ => by
  refine ⟨T, s, R, Res.sat_mono (Res.sat_bind.mp q) (fun d s1 q v H1 T' R1 hv => ?_) fun e s h => h⟩
  split at q
  · rename_i i
    refine ⟨T' ++ T, s1, R1, Res.sat_mono (Res.sat_bind.mp q) (fun d s2 q v2 H2 T2 R2 hv2 => ?_) fun e s h => h.less T'⟩
    obtain ⟨O, R0⟩ := id R1.2
    have ev := R0.int hv
    split at q
    · rename_i j
      split at q
      · rename_i hz
        obtain ⟨O2, R02⟩ := id R2.2
        exact ⟨i, j, ev, R02.int hv2, hz, fun p hp => q _ _ (rel_rg R2.popN.popN hp)⟩
      · exact q.elim
    · exact q.elim
  · exact q.elim
def itemsD (ds : List (D × D)) : List D := ds.map fun p => .tuple [p.1, p.2]
def cItems (f : Vw) : Ev := fun s => (f s).bind fun d s1 => match d with
  | .dict ds => .ok (.own (.list (itemsD ds))) s1
  | _ => .err
theorem rp_key {K} {O : Addr → Prop} (k : Key) : Rp K H O (kV k) (keyD k) := by
  cases k
  · exact .int _
  · exact .str _
theorem rp_items {K} {O O2 : Addr → Prop} {H' : Hp} (hk : ∀ b o, H b = some o → H' b = some o) (ho : ∀ b, O2 b → O b ∨ H b = none) : ∀ {kvs : List (Key × V)} {ds : List (D × D)} {ts : List Addr}, RpD K H O kvs ds → (∀ t ∈ ts, ¬ O2 t) → Paired (fun (t : Addr) (q : Key × V) => H' t = some (.tup [kV q.1, q.2])) ts kvs → RpA K H' O2 (ts.map V.ref) (itemsD ds)
  | _, _, [], .nil, _, _ => .nil
  | _, _, _ :: _, .nil, _, p => by cases p
  | _, _, [], .cons _ _, _, p => by cases p
  | _, _, t :: ts, .cons (k := k) r rs, hn, .cons h p => .cons (.tup h (hn t List.mem_cons_self) (.cons (rp_key _) (.cons (r.keep (fun b x e _ => hk b x e) ho) .nil))) (rp_items hk ho rs (fun t ht => hn t (List.mem_cons_of_mem _ ht)) p)
theorem Rel.grown (R : Rel Z H src L) {H' : Hp} (hk : ∀ b o, H b = some o → H' b = some o) : Rel Z H' src L := by
  obtain ⟨O, r⟩ := R
  exact ⟨O, r.oc, fun e he => (Stp.of_keep hk).ent .none (r.ent e he), r.ap, srcOk_step _ (fun b x _ e => hk b x e) (fun _ _ o => o) r.src, fun b x e n => hk b x (r.base b x e n), fun b z => let ⟨x, e⟩ := r.live b z; ⟨x, hk b x e⟩⟩
/-- an object that came beside, told as a list -/
theorem Rel.ownAt {H' : Hp} {p : Addr} {vs : List V} {ds : List D} (R : Rel Z H src L) (hk : ∀ b o, H b = some o → H' b = some o) (hp : H p = none) (hv : H' p = some (.lst vs)) (hr : ∀ O, RelO Z H src L O → RpA Z.K H' (fun b => O b ∨ b = p) vs ds) : Rel Z H' src ((some (.ref p), some (.own (.list ds))) :: L) := by
  obtain ⟨O, r⟩ := R
  have t : Stp H H' O (fun b => O b ∨ b = p) (fun _ => False) := ⟨fun b x e _ => hk b x e, fun _ z => z.elim, fun b z => z.elim .inl fun z => .inr (z ▸ hp), fun _ z _ => .inl z⟩
  have nA := r.freshA hp (srcOk_some r.src)
  refine ⟨fun b => O b ∨ b = p, fun b z => .inl (r.oc b z), fun f hf => ?_, List.pairwise_cons.mpr ⟨fun f hf => ?_, r.ap⟩, srcOk_step _ (fun b x _ e => hk b x e) (fun _ _ o => .inl o) r.src, fun b x e n => hk b x (r.base b x e n), fun b z => ?_⟩
  · rcases List.mem_cons.mp hf with rfl | hf
    · intro s q
      cases q
      exact ⟨_, rfl, p, rfl, .inr rfl, ⟨r.fresh0 hp nA, fun z => r.fresh hp (r.oc p z)⟩, nA, vs, hv, hr O r⟩
    · exact t.ent .none (r.ent f hf)
  · intro d1 d2 a h1 h2 h3 h4
    obtain ⟨w, e1, a', e2, oa, _⟩ := r.ent f hf _ h2
    rw [e1] at h4
    have h3 : some (V.ref p) = some (V.ref a) := h3
    injection h3 with h3
    injection h3 with h3
    injection h4 with h4
    rw [e2] at h4
    injection h4 with h4
    rw [h4, ← h3] at oa
    exact r.fresh hp oa
  · rcases z with z | rfl
    · obtain ⟨x, e⟩ := r.live b z
      exact ⟨x, hk b x e⟩
    · exact ⟨_, hv⟩
theorem snE_items (hc : X.calm = true) (he : SnV X Z W e fb) (hg : Gl X "list") (hm : X.mg "list" = none) (hbase : attributeBase e "items" X.env (eval e X.env) = eval e X.env := by rfl) (hline : (apos.endLine == cpos.line) = true := by rfl)
    (hs : starEach [.Call (.Attribute e "items" apos) [] [] cpos] X.env = (false, eval (.Call (.Attribute e "items" apos) [] [] cpos) X.env) :: starEach [] X.env := by rfl) : SnE X Z W (.Call (.Name "list" p) [.Call (.Attribute e "items" apos) [] [] cpos] [] pos) (cItems fb) := fun k =>
  pe_imp (LiI.pe_listItems hc (he k) hg hm PyProof.Rows.Boot.«list» hbase hline hs) fun σ H Q ⟨T, s, R, q⟩ => by
  refine ⟨T, s, R, Res.sat_mono (Res.sat_bind.mp q) (fun d s1 q v H1 T' R1 hv => ?_) fun e s h => h⟩
  split at q
  · obtain ⟨O, R0⟩ := id R1.2
    obtain ⟨c, xs, e1, hc, ra⟩ := R0.dict hv
    refine ⟨c, xs, e1, hc, fun H2 p ts hk hp hts hpts hl hpair => q _ _ ⟨R1.1, ?_⟩⟩
    have R2 := R1.2.ownAt hk hp hl fun O' R' => by
      obtain ⟨c', xs', e1', hc', ra'⟩ := R'.dict hv
      rw [e1] at e1'
      cases e1'
      rw [hc] at hc'
      cases hc'
      refine rp_items hk (fun b z => z.elim .inl fun z => .inr (z ▸ hp)) ra' (fun t ht z => ?_) hpair
      rcases z with z | rfl
      · exact R'.fresh (hts t ht) z
      · exact hpts ht
    have R3 : Rel Z H2 s1.src (T' ++ ((some (.ref p), some (.own (.list (itemsD _)))) :: (T ++ List.zip σ s1.sl))) := R2.perm (by rw [List.append_assoc]; exact List.perm_middle.symm)
    exact Rel.popN _ R3
  · exact q.elim
end
end Pw
set_option Elab.async false
set_option linter.all false
set_option maxRecDepth 100000
namespace Pw
open PySem PySem.Spec PyProof.Rows L2
section
variable {X : Cx} {Z : Zx} {W : WX} {o e a b : Expr} {es : List Expr} {f fa : Ev} {fb : Vw} {ga : Ag} {i k : Nat} {x : Str} {p p1 p2 pos : Pos} {H : Hp} {σ : L2.St} {T : List Ent} {s : S} {L : List Ent} {src : Option Src} {O : Addr → Prop} {v : V}
/-! ### displays of dicts -/
def cNewD : Ev := fun s => .ok (.own (.dict [])) s
theorem snE_newD : SnE X Z W (.Dict [] [] pos) cNewD := fun _ => pe_imp pe_dnewK fun σ H Q ⟨T, s, R, q⟩ p hp => q _ _ ⟨R.1, R.2.newDictOf hp fun O _ => .nil⟩
def cPairs : List (Ev × Ev) → S → Res (List (D × D))
  | [], s => .ok [] s
  | (fk, fv) :: r, s => (fk s).bind fun k s1 => (fv s1).bind fun v s2 => match k.settle, v.settle with
    | .sh dk, .sh dv => (cPairs r s2).bind fun ps s3 => .ok ((dk, dv) :: ps) s3
    | _, _ => .err
def keysD : List (D × D) → Option (List (Key × D))
  | [] => some []
  | (.int i, d) :: r => (keysD r).map ((.inl i, d) :: ·)
  | (.str i, d) :: r => (keysD r).map ((.inr i, d) :: ·)
  | _ => none
def putAll (ds : List (D × D)) (ps : List (Key × D)) : List (D × D) := ps.foldl (fun a p => dPut a p.1 p.2) ds
def cDisp (fs : List (Ev × Ev)) : Ev := fun s => (cPairs fs s).bind fun ps s1 => match keysD ps with
  | some ks => if ks.length ≤ 15 then .ok (.own (.dict (putAll [] ks))) s1 else .err
  | none => .err
def trsOf (Z : Zx) (W : WX) (fs : List (Ev × Ev)) : List (TE × TE) := fs.map fun f => (LE Z W f.1, LE Z W f.2)
inductive SnPs (X : Cx) (Z : Zx) (W : WX) : List (Option Expr) → List Expr → List (Ev × Ev) → Prop
  | nil : SnPs X Z W [] [] []
  | cons {k v : Expr} {ks : List (Option Expr)} {vs : List Expr} {fk fv : Ev} {fs : List (Ev × Ev)} : SnE X Z W k fk → SnE X Z W v fv → SnPs X Z W ks vs fs → SnPs X Z W (some k :: ks) (v :: vs) ((fk, fv) :: fs)
theorem SnPs.pps {ks : List (Option Expr)} {vs : List Expr} {fs : List (Ev × Ev)} (h : SnPs X Z W ks vs fs) (zk : X.K = Z.K) : PPs X pos ks vs (trsOf Z W fs) := by
  induction h with
  | nil => exact pps_nil
  | cons h1 h2 _ ih => exact pps_cons (h1 zk) (h2 zk) ih
def pEnts (ps : List (V × V)) (ds : List (D × D)) : List Ent := (List.zip ps ds).flatMap fun p => [(some p.1.1, some (.sh p.2.1)), (some p.1.2, some (.sh p.2.2))]
theorem rd_pairs : ∀ (fs : List (Ev × Ev)) {T : List Ent} {s : S} {H : Hp} {Q : List (V × V) → Hp → Prop}, RelS Z H σ T s → (cPairs fs s).sat (fun ds s' => ∀ ps H', ps.length = ds.length → RelS Z H' σ (pEnts ps ds ++ T) s' → Q ps H') (ExP Z σ T W) → tPairs (trsOf Z W fs) σ H Q
  | [], T, s, H, Q, R, q => q [] H rfl R
  | (fk, fv) :: fs, T, s, H, Q, R, q => by
    refine ⟨T, s, R, Res.sat_mono (Res.sat_bind.mp q) (fun k s1 q v H1 R1 => ?_) fun e s h => h⟩
    refine ⟨_, s1, R1, Res.sat_mono (Res.sat_bind.mp q) (fun k2 s2 q v2 H2 R2 => ?_) fun e s h => exP_popT h⟩
    have R3 := RelS.settleAny (RelS.perm R2.settleAny (List.Perm.swap _ _ _))
    split at q
    · rename_i dk dv e1 e2
      rw [e1, e2] at R3
      refine rd_pairs fs R3 (Res.sat_mono (Res.sat_bind.mp q) (fun ds s3 q ps H3 hl R4 => ?_) fun e s h => exP_popT (exP_popT h))
      refine q ((v, v2) :: ps) H3 (by simpa using hl) (R4.perm ?_)
      have e : pEnts ((v, v2) :: ps) ((dk, dv) :: ds) = (some v, some (.sh dk)) :: (some v2, some (.sh dv)) :: pEnts ps ds := rfl
      rw [e]
      exact List.perm_middle.trans ((List.perm_middle).cons _)
    · exact q.elim
theorem rp_keyInv {K} {O : Addr → Prop} {w : V} {d : D} {c : Key} (h : Rp K H O w d) (e : d = keyD c) : w = kV c := by
  subst e
  cases c
  · exact h.int_inv
  · exact h.str_inv
theorem pairs_keys (hR : RelO Z H src L O) : ∀ {ps : List (V × V)} {ds : List (D × D)} {ks : List (Key × D)}, ps.length = ds.length → (∀ e ∈ pEnts ps ds, e ∈ L) → keysD ds = some ks → ∃ kvs : List (Key × V), ps = kvs.map (fun kv => (kV kv.1, kv.2)) ∧ Paired (fun (p : Key × V) (q : Key × D) => p.1 = q.1 ∧ Rp Z.K H O p.2 q.2) kvs ks
  | [], [], ks, _, _, e => by cases e; exact ⟨[], rfl, .nil⟩
  | [], _ :: _, _, h, _, _ => by simp at h
  | _ :: _, [], _, h, _, _ => by simp at h
  | (v, w) :: ps, (dk, dv) :: ds, ks, hl, hm, e => by
    have m1 := hm (some v, some (.sh dk)) (by simp [pEnts])
    have m2 := hm (some w, some (.sh dv)) (by simp [pEnts])
    have hm' : ∀ e ∈ pEnts ps ds, e ∈ L := fun e he => hm e (by simp only [pEnts, List.zip_cons_cons, List.flatMap_cons]; exact List.mem_append_right _ he)
    have r1 := shRp (x := (none, none)) m1 hR
    have r2 := shRp (x := (none, none)) m2 hR
    cases dk <;> simp only [keysD, reduceCtorEq] at e
    · obtain ⟨ks', e1, rfl⟩ := Option.map_eq_some_iff.mp e
      obtain ⟨kvs, rfl, pr⟩ := pairs_keys hR (by simpa using hl) hm' e1
      cases r1.int_inv
      exact ⟨(.inl _, w) :: kvs, rfl, .cons ⟨rfl, r2⟩ pr⟩
    · obtain ⟨ks', e1, rfl⟩ := Option.map_eq_some_iff.mp e
      obtain ⟨kvs, rfl, pr⟩ := pairs_keys hR (by simpa using hl) hm' e1
      cases r1.str_inv
      exact ⟨(.inr _, w) :: kvs, rfl, .cons ⟨rfl, r2⟩ pr⟩
theorem kV_inj {a b : Key} (h : kV a = kV b) : a = b := by
  cases a <;> cases b <;> first | (cases h; rfl) | (cases h)
theorem map_inj_kv : ∀ {l m : List (Key × V)}, l.map (fun kv => (kV kv.1, kv.2)) = m.map (fun kv => (kV kv.1, kv.2)) → l = m
  | [], [], _ => rfl
  | [], _ :: _, h => by simp at h
  | _ :: _, [], h => by simp at h
  | (a, b) :: l, (c, d) :: m, h => by
    simp only [List.map_cons, List.cons.injEq, Prod.mk.injEq] at h
    obtain ⟨⟨h1, h2⟩, h3⟩ := h
    rw [kV_inj h1, h2, map_inj_kv h3]
theorem merge_rp {K} {O : Addr → Prop} : ∀ {kvs : List (Key × V)} {ks : List (Key × D)} {acc : List (Key × V)} {ds : List (D × D)}, Paired (fun (p : Key × V) (q : Key × D) => p.1 = q.1 ∧ Rp K H O p.2 q.2) kvs ks → RpD K H O acc ds → RpD K H O (mergeK acc kvs) (putAll ds ks)
  | _, _, _, _, .nil, r => r
  | _, _, _, _, .cons (a := p) (b := q) h t, r => by
    obtain ⟨h1, h2⟩ := h
    have := merge_rp t (r.put p.1 h2)
    unfold mergeK putAll at this ⊢
    rw [List.foldl_cons, List.foldl_cons, ← h1]
    exact this
theorem snE_disp {ks : List (Option Expr)} {vs : List Expr} {fs : List (Ev × Ev)} (h : SnPs X Z W ks vs fs) (hall : ks.all (·.isSome) = true := by rfl) (hl : ks.length = vs.length := by rfl) (h0 : ks ≠ [] := by decide) (h15 : ks.length ≤ 15 := by decide) : SnE X Z W (.Dict ks vs pos) (cDisp fs) := fun zk =>
  pe_imp (pe_disp (h.pps zk) hall hl h0 h15) fun σ H Q ⟨T, s, R, q⟩ p hp => by
  have R1 : RelS Z (upd H p (.dK [])) σ ((some (.ref p), some (.own (.dict []))) :: T) s := ⟨R.1, R.2.newDictOf hp fun O _ => .nil⟩
  refine rd_pairs fs R1 (Res.sat_mono (Res.sat_bind.mp q) (fun ds s1 q ps H1 hlen R2 => ?_) fun e s h => exP_popT h)
  split at q
  · rename_i kk ek
    split at q
    · rename_i hz
      have R3 : Rel Z H1 s1.src ((some (.ref p), some (.own (.dict []))) :: (pEnts ps ds ++ (T ++ List.zip σ s1.sl))) := R2.2.perm (by rw [List.append_assoc, List.cons_append]; exact List.perm_middle)
      obtain ⟨O, R0⟩ := id R3
      obtain ⟨w, e1, c, e2, oc, _, _, ys, hy, ry⟩ := R0.ent _ List.mem_cons_self _ rfl
      cases e1; cases e2
      cases ry
      have hm : ∀ e ∈ pEnts ps ds, e ∈ (some (V.ref p), some (SV.own (.dict []))) :: (pEnts ps ds ++ (T ++ List.zip σ s1.sl)) := fun e he => List.mem_cons_of_mem _ (List.mem_append_left _ he)
      obtain ⟨kvs, ep, pr⟩ := pairs_keys R0 hlen hm ek
      have lk : kvs.length ≤ 15 := by rw [Paired.length pr]; exact hz
      refine ⟨hy, kvs, ep, lk, q _ _ ⟨R2.1, ?_⟩⟩
      have R4 := R3.updOwn (o := .dK (mergeK [] kvs)) (d' := .dict (putAll [] kk)) fun O' R' rO oa => by
        obtain ⟨kvs', ep', pr'⟩ := pairs_keys R' hlen hm ek
        have ee : kvs' = kvs := by
          have : kvs'.map (fun kv => (kV kv.1, kv.2)) = kvs.map (fun kv => (kV kv.1, kv.2)) := ep'.symm.trans ep
          exact map_inj_kv this
        subst ee
        refine ⟨_, upd_same, (merge_rp pr' .nil).keep (fun b x e n => ?_) fun b z => .inl z⟩
        rw [upd_ne (fun z => n (by rw [z]; exact oa))]
        exact e
      have R5 : Rel Z (upd H1 p (.dK (mergeK [] kvs))) s1.src (pEnts ps ds ++ ((some (.ref p), some (.own (.dict (putAll [] kk)))) :: (T ++ List.zip σ s1.sl))) := R4.perm List.perm_middle.symm
      exact Rel.popN _ R5
    · exact q.elim
  · exact q.elim
/-! ### a tuple of functions -/
def fnsOf : List SV → Option (List Addr)
  | [] => some []
  | .fn a :: r => (fnsOf r).map (a :: ·)
  | _ => none
def cTupF (g : Ag) : Ev := fun s => (g s).bind fun rs s1 => match fnsOf rs with
  | some as => if as.length ≤ sizeLine then .ok (.fns as) s1 else .err
  | none => .err
theorem fns_vals : ∀ {vs : List V} {rs : List SV} {as : List Addr}, vs.length = rs.length → fnsOf rs = some as → (∀ e ∈ ents vs rs, EntOk Z H O e) → vs = as.map V.ref
  | [], [], as, _, e, _ => by cases e; rfl
  | v :: vs, r :: rs, as, hl, e, h => by
    cases r <;> first | (simp [fnsOf] at e; done) | skip
    rename_i c
    simp only [fnsOf, Option.map_eq_some_iff] at e
    obtain ⟨as', e1, rfl⟩ := e
    obtain ⟨w, e2, q⟩ := h (some v, some (.fn c)) (by simp [ents]) _ rfl
    cases e2
    have q : v = .ref c := q
    rw [q, fns_vals (vs := vs) (rs := rs) (by simpa using hl) e1 fun e he => h e (by simp only [ents, List.map_cons, List.zip_cons_cons]; exact List.mem_cons_of_mem _ he)]
    rfl
  | [], _ :: _, _, h, _, _ => by simp at h
  | _ :: _, [], _, h, _, _ => by simp at h
theorem snE_tupF {g : Ag} {x1} (h : SnA X Z W es g) : SnE X Z W (.Tuple es x1 pos) (cTupF g) := fun k => pe_imp (pe_tup (h k)) fun σ H Q ⟨T, s, R, q⟩ => by
  refine ⟨T, s, R, Res.sat_mono (Res.sat_bind.mp q) (fun rs s1 q vs H1 hl R1 => ?_) fun e s h => h⟩
  split at q
  · rename_i as e
    split at q
    · rename_i hz
      obtain ⟨O, r⟩ := R1.2
      have ev := fns_vals hl e fun x hx => r.ent x (by simp [hx])
      subst ev
      refine ⟨by simpa using hz, fun p hp => q _ _ ⟨R1.1, ?_⟩⟩
      have r2 : RelO Z (upd H1 p (.tup (as.map V.ref))) s1.src ((some (.ref p), some (.fns as)) :: (ents (as.map V.ref) rs ++ T ++ List.zip σ s1.sl)) O := (r.new hp).push mild_fns fun s q => by
        cases q
        exact ⟨_, rfl, p, rfl, r.fresh hp, upd_same⟩
      have r3 : Rel Z (upd H1 p (.tup (as.map V.ref))) s1.src (ents (as.map V.ref) rs ++ ((some (.ref p), some (.fns as)) :: (T ++ List.zip σ s1.sl))) := Rel.perm ⟨O, r2⟩ (by rw [List.append_assoc]; exact List.perm_middle.symm)
      exact Rel.popN _ r3
    · exact q.elim
  · exact q.elim
/-! ### a function that a name holds -/
abbrev Tab := Addr → Option (Nat × Fd)
structure HeldG (P : Program) (w : World) (K : PySem.W.Frag) (mg : Str → Option Value) (base : Heap) (k : Nat) (c : Addr) (np : Nat) (F : Fd) : Prop where
  ex : ∃ (fd : FuncData) (ps : List Str), ps.length = np ∧ FnG P w K mg base k c fd ps (spF K np F) ∧ PySem.W.keepIn K (.ref c) = true ∧ Binds K fd ps []
def cCallL (i : Nat) (tab : Tab) (ga : Ag) : Ev := fun s => match s.sl[i]? with
  | some (some (.fn c)) => match tab c with
    | some (np, F) => (ga s).bind fun rs s1 => appF np F rs s1
    | none => .err
  | _ => .err
theorem pe_GL {t : TA} {c : Addr} {fd : FuncData} {ps : List Str} {sp : Sp} (G : FnG X.prog X.w X.K X.mg X.base k c fd ps sp) (hr : Room k X.A) (hgd : X.A.guards = some []) (hx : PE X (.Name x p) (tVar i)) (hk : PySem.W.keepIn X.K (.ref c) = true) (hb : Binds X.K fd ps []) (tk : Takes X W) (ha : PA X (e :: es) t)
    (he : starEach (e :: es) X.env = (false, eval e X.env) :: starEach es X.env := by rfl) (hpl : (backTo pos (starEach es X.env)).any (·.1) = false := by rfl) : PE X (.Call (.Name x p) (e :: es) [] pos) (fun σ H Q => σ[i]? = some (some (.ref c)) ∧ tG sp (WE W) t σ H Q) := by
  refine ⟨fun pins s σ H Q I ⟨hs, h⟩ => wpAny_Call_Name_kw (thn (hx.run pins s σ H (fun v H1 => v = .ref c ∧ H1 = H) I ⟨.ref c, hs, rfl, rfl⟩) fun u s1 ⟨v, H1, I1, r1, q1, q2⟩ => ?_)⟩
  subst q1 q2
  cases r1
  exact PySem.W.callWith_K (h₀ := X.base) I.ok.mod.kin hk (thn (ha.run pos pins s1 σ _ _ I1 h) fun us s2 ⟨vs, H2, I2, r, q⟩ => ⟨I2.kIn, runG G hr hgd hb tk I2 r q⟩) he hpl
theorem snE_callL {tab : Tab} (A : ∀ c np F, tab c = some (np, F) → HeldG X.prog X.w X.K X.mg X.base k c np F) (hr : Room k X.A) (hgd : X.A.guards = some []) (hx : PE X (.Name x p) (tVar i)) (tk : Takes X W) (ha : SnA X Z W (e :: es) ga)
    (he : starEach (e :: es) X.env = (false, eval e X.env) :: starEach es X.env := by rfl) (hpl : (backTo pos (starEach es X.env)).any (·.1) = false := by rfl) : SnE X Z W (.Call (.Name x p) (e :: es) [] pos) (cCallL i tab ga) := fun zk => by
  refine ⟨fun pins s σ H Q I ⟨T, s0, R, q⟩ => ?_⟩
  unfold cCallL at q
  split at q
  · rename_i c e0
    split at q
    · rename_i np F et
      obtain ⟨fd, ps, hn, G, hk, hb⟩ := (A c np F et).ex
      subst hn
      obtain ⟨v, hv, hm⟩ := R.slot e0
      obtain ⟨O, R0⟩ := id R.2
      obtain ⟨w, e1, e2⟩ := R0.ent _ hm _ rfl
      cases e1
      have e2 : v = .ref c := e2
      subst e2
      refine (pe_GL G hr hgd hx hk hb tk (ha zk) he hpl).run pins s σ H Q I ⟨hv, T, s0, R, Res.sat_mono (Res.sat_bind.mp q) (fun rs s1 q vs H1 hl R1 => ?_) fun e s h => h⟩
      exact spF_of zk.symm hl R1 q
    · exact q.elim
  · exact q.elim
end
end Pw
set_option Elab.async false
set_option linter.all false
set_option maxRecDepth 100000
namespace Pw
open PySem PySem.Spec PyProof.Rows L2
section
variable {X : Cx} {Z : Zx} {W : WX} {o e a b c : Expr} {es : List Expr} {f fa fb' : Ev} {fb fc : Vw} {ga : Ag} {i k : Nat} {x : Str} {p p1 p2 pos : Pos} {H : Hp} {σ : L2.St} {T : List Ent} {s : S} {L : List Ent} {src : Option Src} {O : Addr → Prop} {v : V}
/-! ### a < b < c -/
def cChain (g g' : D → D → Option SV) (fa fb : Ev) (fc : Vw) : Ev := fun s => (fa s).bind fun r s1 => (fb s1).bind fun r' s2 => match r.dat, r'.dat with
  | some d, some d' => match g d d' with
    | some (.sh (.bool true)) => (fc s2).bind fun d3 s3 => Res.opt (g' d' d3) s3
    | some (.sh (.bool false)) => .ok (.sh (.bool false)) s2
    | _ => .err
  | _, _ => .err
theorem rd_chain {g g' : D → D → Option SV} {Q : VK} (q : LE Z W (cChain g g' fa fb' fc) σ H Q) : tChain (rD Z.K g) (rD Z.K g') (LE Z W fa) (LE Z W fb') (LV Z W fc) σ H Q := by
  obtain ⟨T, s, R, q⟩ := q
  refine ⟨T, s, R, Res.sat_mono (Res.sat_bind.mp q) (fun r s1 q v H1 R1 => ?_) fun e s h => h⟩
  refine ⟨_, s1, R1, Res.sat_mono (Res.sat_bind.mp q) (fun r' s2 q v' H2 R2 => ?_) fun e s h => exP_popT h⟩
  split at q
  · rename_i d d' e1 e2
    have h1 : Has ((some v', some r') :: (some v, some r) :: T ++ List.zip σ s2.sl) v d := ⟨r, by simp, e1⟩
    have h2 : Has ((some v', some r') :: (some v, some r) :: T ++ List.zip σ s2.sl) v' d' := ⟨r', by simp, e2⟩
    split at q
    · rename_i eg
      refine ⟨Z, s2.src, _, d, d', _, rfl, R2.2, h1, h2, eg, fun w H3 R3 => ⟨true, ?_, ?_⟩⟩
      · obtain ⟨O, R0⟩ := id R3
        exact R0.bl (i := true) ⟨.sh (.bool true), by simp, rfl⟩
      · rw [if_pos rfl]
        have R4 : RelS Z H3 σ ((some v', some r') :: (some v, some r) :: T) s2 := ⟨R2.1, Rel.pop R3⟩
        refine ⟨_, s2, R4, Res.sat_mono (Res.sat_bind.mp q) (fun d3 s3 q y H4 T' R5 hy => ?_) fun e s h => exP_popT (exP_popT h)⟩
        obtain ⟨r3, er, q⟩ := sat_opt q
        refine ⟨Z, s3.src, _, d', d3, r3, rfl, R5.2, ⟨r', by simp, e2⟩, hy, er, fun u H5 R6 => q u H5 ⟨R5.1, ?_⟩⟩
        have R7 : Rel Z H5 s3.src ((some u, some r3) :: ((T' ++ [(some v', some r'), (some v, some r)]) ++ (T ++ List.zip σ s3.sl))) := by simpa using R6
        exact R7.mid
    · rename_i eg
      refine ⟨Z, s2.src, _, d, d', _, rfl, R2.2, h1, h2, eg, fun w H3 R3 => ⟨false, ?_, ?_⟩⟩
      · obtain ⟨O, R0⟩ := id R3
        exact R0.bl (i := false) ⟨.sh (.bool false), by simp, rfl⟩
      · rw [if_neg Bool.false_ne_true]
        have R4 : Rel Z H3 s2.src ([(some v', some r'), (some v, some r)] ++ (T ++ List.zip σ s2.sl)) := by simpa using Rel.pop R3
        exact q _ _ ⟨R2.1, (Rel.popN _ R4).bl false⟩
    · exact q.elim
  · exact q.elim
theorem snE_chain {op op' : CmpOp} {g g' : D → D → Option SV} (ho : OpR X (compareOp op) (rD X.K g)) (ho' : OpR X (compareOp op') (rD X.K g')) (ha : SnE X Z W a fa) (hb : SnE X Z W b fb') (hc : SnV X Z W c fc) (hm : lastMarks [op, op'] [b, c] = false := by with_unfolding_all rfl) : SnE X Z W (.Compare a [op, op'] [b, c] pos) (cChain g g' fa fb' fc) := fun k =>
  pe_imp (pe_chain ho ho' (ha k) (hb k) (hc k) hm) fun σ H Q q => by rw [k]; exact rd_chain q
theorem snT_chain {op op' : CmpOp} {g g' : D → D → Option SV} (ho : OpR X (compareOp op) (rD X.K g)) (ho' : OpR X (compareOp op') (rD X.K g')) (ha : SnE X Z W a fa) (hb : SnE X Z W b fb') (hc : SnV X Z W c fc) (hm : lastMarks [op, op'] [b, c] = false := by with_unfolding_all rfl) : SnT X Z W (.Compare a [op, op'] [b, c] pos) (cT (cChain g g' fa fb' fc)) := fun k =>
  pt_imp (pt_chain ho ho' (ha k) (hb k) (hc k) hm) fun σ H Q q => rd_T (fun _ _ _ q => by rw [k]; exact rd_chain q) q
/-! ### - n -/
def cNeg (f : Vw) : Ev := fun s => (f s).bind fun d s1 => match d with
  | .int n => .ok (.sh (.int (-n))) s1
  | _ => .err
theorem snE_neg (ho : SnV X Z W o fb) : SnE X Z W (.UnaryOp .USub o pos) (cNeg fb) := fun k => pe_imp (pe_un un_neg (ho k)) fun σ H Q ⟨T, s, R, q⟩ => by
  refine ⟨T, s, R, Res.sat_mono (Res.sat_bind.mp q) (fun d s1 q v H1 T' R1 hv => ?_) fun e s h => h⟩
  split at q
  · obtain ⟨O, R0⟩ := id R1.2
    exact ⟨_, R0.int hv, q _ _ ⟨R1.1, Rel.int (RelS.popN R1).2 _⟩⟩
  · exact q.elim
/-! ### calls of the module's own functions -/
structure CalG (P : Program) (w : World) (K : PySem.W.Frag) (mg : Str → Option Value) (base : Heap) (k : Nat) (x : Str) (np : Nat) (F : Fd) : Prop where
  ex : ∃ (c : Addr) (fd : FuncData) (ps : List Str), ps.length = np ∧ FnG P w K mg base k c fd ps (spF K np F) ∧ mg x = some (.ref c) ∧ PySem.W.keepIn K (.ref c) = true ∧ Binds K fd ps []
theorem snE_cal {np : Nat} {F : Fd} (G : CalG X.prog X.w X.K X.mg X.base k x np F) (hr : Room k X.A) (hgd : X.A.guards = some []) (hg : Gl X x) (tk : Takes X W) (ha : SnA X Z W (e :: es) ga) (hdb : (x == ("__debug__" : Str)) = false := by decide)
    (he : starEach (e :: es) X.env = (false, eval e X.env) :: starEach es X.env := by rfl) (hpl : (backTo pos (starEach es X.env)).any (·.1) = false := by rfl) : SnE X Z W (.Call (.Name x p) (e :: es) [] pos) (cCall np F ga) := by
  obtain ⟨c, fd, ps, hn, G, hm, hk, hb⟩ := G.ex
  subst hn
  exact snE_call G hr hgd hg hm hk hb tk ha hdb he hpl
theorem snE_cal0 {np : Nat} {F : Fd} (G : CalG X.prog X.w X.K X.mg X.base k x np F) (hr : Room k X.A) (hgd : X.A.guards = some []) (hg : Gl X x) (tk : Takes X W) (hdb : (x == ("__debug__" : Str)) = false := by decide) : SnE X Z W (.Call (.Name x p) [] [] pos) (cCall np F cNil) := by
  obtain ⟨c, fd, ps, hn, G, hm, hk, hb⟩ := G.ex
  subst hn
  exact snE_call0 G hr hgd hg hm hk hb tk hdb
theorem heldG_of {P : Program} {w : World} {K : PySem.W.Frag} {mg : Str → Option Value} {base : Heap} {k k' np : Nat} {x : Str} {F : Fd} {c : Addr} (G : CalG P w K mg base k x np F) (hm : mg x = some (.ref c)) (hk : k ≤ k') : HeldG P w K mg base k' c np F := by
  obtain ⟨c', fd, ps, hn, G, hm', hkp, hb⟩ := G.ex
  rw [hm] at hm'
  cases hm'
  exact ⟨fd, ps, hn, G.mono hk, hkp, hb⟩
theorem takesW0 : Takes X W0 := fun _ _ ⟨_, _, _, _, _, _, _, _, _, _, _, _, _, _, _, _, w⟩ => w.elim
/-- none of the built-ins' names is the module's -/
structure Blt (mg : Str → Option Value) : Prop where
  abs : mg "abs" = none
  all : mg "all" = none
  any : mg "any" = none
  dict : mg "dict" = none
  enumerate : mg "enumerate" = none
  int : mg "int" = none
  isinstance : mg "isinstance" = none
  len : mg "len" = none
  list : mg "list" = none
  max : mg "max" = none
  min : mg "min" = none
  range : mg "range" = none
  repr : mg "repr" = none
  sorted : mg "sorted" = none
  str : mg "str" = none
  sum : mg "sum" = none
  super : mg "super" = none
  tuple : mg "tuple" = none
  zip : mg "zip" = none
end
end Pw
set_option Elab.async false
set_option linter.all false
set_option maxRecDepth 100000
namespace Pw
open PySem PySem.Spec PyProof.Rows L2
section
variable {X : Cx} {K : PySem.W.Frag} {H : Hp} {O : Addr → Prop}
def sortI (ns : List Int) : List Int := ns.mergeSort fun a b => decide (a ≤ b)
theorem sortI_perm (ns : List Int) : (sortI ns).Perm ns := List.mergeSort_perm ns _
theorem sortI_sorted (ns : List Int) : (sortI ns).Pairwise (· ≤ ·) := (List.pairwise_mergeSort (le := fun a b => decide (a ≤ b)) (fun a b c h1 h2 => by simp at *; omega) (fun a b => by simp; omega) ns).imp fun h => by simpa using h
theorem sortI_eq {ms ns : List Int} (p : ms.Perm ns) (h : ms.Pairwise (· ≤ ·)) : ms = sortI ns := (p.trans (sortI_perm ns).symm).eq_of_pairwise (fun a b _ _ h1 h2 => by omega) h (sortI_sorted ns)
def dSorted : D → Option SV
  | .list xs => (dInts xs).map fun ns => .own (.list ((sortI ns).map .int))
  | _ => none
theorem rp_ints (ns : List Int) : RpA K H O (ns.map V.int) (ns.map .int) := by
  induction ns with
  | nil => exact .nil
  | cons n r ih => exact .cons (.int n) ih
theorem call_sortedR : CallR X (.builtin "sorted") (rC X.K dSorted) := by
  intro pins s σ H xs us Q I rx h
  obtain ⟨Z, src, L, d, r, x, rfl, hK, R, h1, e, q⟩ := h
  obtain ⟨O, R0⟩ := id R
  unfold dSorted at e
  split at e
  · obtain ⟨ns, e1, rfl⟩ := Option.map_eq_some_iff.mp e
    obtain ⟨a, ys, rfl, ha, ra⟩ := R0.list h1
    have e2 := ra.asInts e1
    subst e2
    refine cr_sortedI pins s σ H _ us Q I rx ⟨a, ns, rfl, SqL.of ha, fun ms p h1 h2 h3 => ?_⟩
    have := sortI_eq h1 h2
    subst this
    exact q _ _ (R.newListOf h3 fun O' _ => rp_ints _)
  · cases e
end
end Pw
set_option Elab.async false
set_option linter.all false
set_option maxRecDepth 100000
namespace Pw
open PySem PySem.Spec PyProof.Rows L2
/-! ### the law's own call -/
section
variable {P : Program} {w : World} {K : PySem.W.Frag} {mg mb : Str → Option Value} {k : Nat} {fa a : Addr} {fd : FuncData} {x : Str} {sp : Sp} {s₁ : Shared} {vs : List Value} {ns : List Int}
def scrH (K : PySem.W.Frag) (a : Addr) (vs : List Value) (ns : List Int) : Hp := fun b => if b = a ∧ K.lookup a = none then some (.frz { cls := .type "list", data := .seq vs.toArray } (.lst (ns.map V.int))) else none
theorem scrH_some {b : Addr} {u : HO} (h : scrH K a vs ns b = some u) : b = a ∧ K.lookup a = none ∧ u = .frz { cls := .type "list", data := .seq vs.toArray } (.lst (ns.map V.int)) := by
  unfold scrH at h
  split at h
  · rename_i q
    cases h
    exact ⟨q.1, q.2, rfl⟩
  · cases h
theorem scrH_only : Only (scrH K a vs ns) := fun b => by
  cases e : scrH K a vs ns b with
  | none => exact .inl rfl
  | some u => exact .inr ⟨_, _, by rw [(scrH_some e).2.2]⟩
theorem law_goes (KX : K.In s₁.heap) (hg : s₁.heap.Ns mainGlobals mg) (hb : s₁.heap.Ns builtinsNs mb) (hbb : ∀ x : Str, x ≠ "__name__" → mb x = bootBuiltins x) (lim : s₁.heap.NoLimit) (hgen : s₁.gens = #[])
    (ha : s₁.heap.get? a = some { cls := .type "list", data := .seq vs.toArray }) (hi : IntsAre vs ns) (hl : ns.length ≤ sizeLine) (hr : Room k callerA)
    (G : ∀ base : Heap, K.In base → base.Ns mainGlobals mg → FnG P w K mg base k fa fd [x] sp) (bind : ∀ (s : Shared) (u : Value), BindsTo s fd ⟨[u], []⟩ [(x, u)])
    (hsp : ∀ H : Hp, Only H → SqL K H a (ns.map V.int) → sp [.ref a] H (fun v _ => v = .bl true) fun _ _ _ => False) :
    codeAny (model P w) callerA (.call (.ref fa) ⟨[.ref a], []⟩) (fun r s' => r = .ok (.ret (.bool true)) ∧ OldK s₁.heap s'.heap ∧ s'.os = s₁.os ∧ AllBare s'.gens) s₁ := by
  have rv := vals_ints hi
  have sz : (ns.map V.int).length ≤ sizeLine := by rw [List.length_map]; exact hl
  have hsq : SqL K (scrH K a vs ns) a (ns.map V.int) := by
    cases e : K.lookup a with
    | none => exact .inl (.inr ⟨_, if_pos ⟨rfl, e⟩⟩)
    | some o =>
      have eo := KX a o e
      rw [ha] at eo
      cases eo
      refine .inr ⟨_, vs.toArray, _, e, rfl, rfl, rfl, ?_, by simpa using rv⟩
      rw [List.size_toArray, hi.length]
      exact hl
  have ok : HOk P w (scrH K a vs ns) s₁.heap := fun b u e => by
    obtain ⟨e1, e2, e3⟩ := scrH_some e
    subst e1 e3
    exact ⟨ha, sz, vs, _, rv, ha⟩
  have seen : ∀ {b : Addr} {o : Obj}, s₁.heap.get? b = some o → scrH K a vs ns b = none → (hidT s₁.heap (scrH K a vs ns)).get? b = some o := fun e n => hidT_get e n
  have dicts : ∀ {b : Addr} {m : Str → Option Value}, s₁.heap.Ns b m → (hidT s₁.heap (scrH K a vs ns)).Ns b m := by
    rintro b m ⟨o, es, ep, e, d, r⟩
    refine ⟨o, es, ep, seen e ?_, d, r⟩
    cases q : scrH K a vs ns b with
    | none => rfl
    | some u =>
      have z := (scrH_some q).1
      rw [z, ha] at e
      cases e
      cases (show Data.seq vs.toArray _ = Data.dict es ep from d)
  have kin : K.In (hidT s₁.heap (scrH K a vs ns)) := fun b o e => seen (KX b o e) (by
    cases q : scrH K a vs ns b with
    | none => rfl
    | some u =>
      obtain ⟨z1, z2, _⟩ := scrH_some q
      rw [z1, z2] at e
      cases e)
  have M : Mod K mg (hidT s₁.heap (scrH K a vs ns)) := ⟨kin, dicts hg, ⟨mb, dicts hb, hbb⟩, let ⟨mc, h1, h2⟩ := lim; ⟨mc, dicts h1, h2⟩⟩
  have E0 : Env0 P w K mg (hidT s₁.heap (scrH K a vs ns)) callerA [] s₁ (scrH K a vs ns) := ⟨rfl, M, fun b o e => of_hidT e, Nat.le_of_eq (hidT_size _ _), trivial, fun b hb => (by cases (show b ∈ ([] : List Addr) from hb)), ok, .of_eq hgen⟩
  refine codeAny_mono ((G _ kin (dicts hg)).go callerA [] s₁ _ ⟨[.ref a], []⟩ [.ref a] [.ref a] _ _ hr rfl E0 (bind s₁ (.ref a)) (.cons rfl .nil) (hsp _ scrH_only hsq)) fun r s' h => ?_
  match r, h with
  | .error e, ⟨_, _, _, _, _, _, _, _, _, _, _, _, z⟩ => exact z.elim
  | .ok (.ret u), ⟨v, H', os, bare, un, ok', r', q⟩ =>
    have q : v = .bl true := q
    subst q
    obtain rfl : u = Value.bool true := r'
    refine ⟨rfl, OldK.of_keep fun b o e => ?_, os, bare⟩
    cases q : scrH K a vs ns b with
    | none => exact un.keep b o e q (fun z => by cases (show b ∈ ([] : List Addr) from z)) (by simp)
    | some u =>
      obtain ⟨z1, z2, z3⟩ := scrH_some q
      subst z3
      have z4 := un.frzs b _ _ q
      rw [z1, ha] at e
      cases e
      exact (ok' b _ z4).1
end
theorem walkG {l : PySem.W.OpenLaw} {n k : Nat} {q : Program} {loose : List Str} {XP : (Str → Option Value) → Heap → Prop} {YP : World → Heap → Prop} {d : DefRec} {K : Params → PySem.W.Frag} {sp : PySem.W.Frag → Sp} {x : Str}
    (hn : l.most = some n) (hn2 : n ≤ sizeLine) (hdf : d.params.defaults = []) (hr : Room k callerA) (hY : ∀ (w : World) (h : Heap), YP w h → (K w.params).In h)
    (G : ∀ (w : World) (mg : Str → Option Value) (fa : Addr) (h : Heap), (K w.params).In h → h.Ns mainGlobals mg → mg d.name = some (.ref fa) →
      ∃ fd : FuncData, (∀ (s : Shared) (u : Value), BindsTo s fd ⟨[u], []⟩ [(x, u)]) ∧ ∀ base : Heap, (K w.params).In base → base.Ns mainGlobals mg → FnG l.prog w (K w.params) mg base k fa fd [x] (sp (K w.params)))
    (hsp : ∀ (K : PySem.W.Frag) (H : Hp) (a : Addr) (ns : List Int), ns.length ≤ n → Only H → SqL K H a (ns.map V.int) → sp K [.ref a] H (fun v _ => v = .bl true) fun _ _ _ => False) : PySem.W.WalkO q loose XP YP l.row.toRowW d [] (fun f vs => PySem.call f vs) := by
  refine Att.attach_call hn hdf fun w s₀ s₁ mg mb fa o pm cd doc a vs ns Gd Y _ _ _ hmg hobj hints hlen hgen => ?_
  obtain ⟨fd, hb, hG⟩ := G w mg fa _ (hY w _ Y) Gd.T.g hmg
  exact law_goes (hY w _ Y) Gd.T.g Gd.T.b Gd.T.builtins Gd.T.nolimit hgen hobj hints (Nat.le_trans hlen hn2) hr hG hb fun H hO hS => hsp _ H a ns hlen hO hS
/-! ### the law's body: the source drawn, then the rest -/
def spLaw (K : PySem.W.Frag) : Sp := fun vs H Q _ => ∃ (a : Addr) (ns : List Int), vs = [.ref a] ∧ ns.length ≤ 63 ∧ SqL K H a (ns.map V.int) ∧ Only H ∧ ∀ H', Q (.bl true) H'
def srcD (s : Src) : D := .dict [(.str "cells", .list (s.cells.map .int)), (.str "left", .int s.left), (.str "mixed", .int s.mixed), (.str "turn", .int s.turn)]
def lawS (n : Nat) (sr : Src) : S := ⟨none :: some .src :: List.replicate (n - 2) none, some sr⟩
theorem Rel.trivZip {Z : Zx} {H : Hp} {src : Option Src} {L : List Ent} (R : Rel Z H src L) : ∀ {σ : L2.St} {n : Nat}, Rel Z H src (List.zip σ (List.replicate n (none : Option SV)) ++ L)
  | [], n => R
  | _ :: _, 0 => R
  | v :: σ, n + 1 => by
    rw [List.replicate_succ, List.zip_cons_cons]
    exact Rel.triv (Rel.trivZip R)
theorem rpD_inv {K : PySem.W.Frag} {H : Hp} {O : Addr → Prop} {kvs : List (Key × V)} {a d : D} {ds : List (D × D)} (h : RpD K H O kvs ((a, d) :: ds)) : ∃ k v rest, kvs = (k, v) :: rest ∧ keyD k = a ∧ Rp K H O v d ∧ RpD K H O rest ds := by
  generalize e : (a, d) :: ds = l at h
  cases h with
  | nil => cases e
  | cons r t =>
    cases e
    exact ⟨_, _, _, rfl, rfl, r, t⟩
theorem keyD_str {c : Key} {t : Str} (e : keyD c = .str t) : c = .inr t := by
  cases c <;> cases e
  rfl
theorem rpD_src {K : PySem.W.Frag} {H : Hp} {O : Addr → Prop} {kvs : List (Key × V)} {s : Src} (h : RpD K H O kvs [(.str "cells", .list (s.cells.map .int)), (.str "left", .int s.left), (.str "mixed", .int s.mixed), (.str "turn", .int s.turn)]) :
    ∃ y, kvs = srcKv y s ∧ H y = some (.lst (s.cells.map V.int)) ∧ ¬ O y := by
  obtain ⟨k1, v1, r1, rfl, e1, h1, h⟩ := rpD_inv h
  obtain ⟨k2, v2, r2, rfl, e2, h2, h⟩ := rpD_inv h
  obtain ⟨k3, v3, r3, rfl, e3, h3, h⟩ := rpD_inv h
  obtain ⟨k4, v4, r4, rfl, e4, h4, h⟩ := rpD_inv h
  cases h
  cases h2.int_inv
  cases h3.int_inv
  cases h4.int_inv
  have e1 := keyD_str e1
  have e2 := keyD_str e2
  have e3 := keyD_str e3
  have e4 := keyD_str e4
  subst e1 e2 e3 e4
  cases h1 with
  | lst e n r =>
    rename_i y xs
    have z := r.asInts (ints_map s.cells)
    subst z
    exact ⟨y, rfl, e, n⟩
def tLaw (K : PySem.W.Frag) (W : WX) (m : Sm) : TS := fun D σ H => ∃ Z : Zx, Z.K = K ∧ Z.Xn = none ∧ LS Z W m D σ H
section
variable {P : Program} {w : World} {K : PySem.W.Frag} {mg : Str → Option Value} {base : Heap} {k ks : Nat} {f : Addr} {fd : FuncData} {st : Stmt} {N : List Str}
theorem law_of {FS : Fd} {m : Sm} {p1 p2 p3 p4 p5 : Pos} {rest : List Stmt} (F : Fun K "law" "law" st f fd) (S : FnScope ("script" :: "source" :: N) ["script"] (defScope st)) (hb : defBody st = .Assign [.Name "source" p1] (.Call (.Name "_law_source" p2) [.Name "script" p3] [] p4) p5 :: rest)
    (GS : CalG P w K mg base ks "_law_source" 1 FS) (hks : ks ≤ k) (hsrc : ∀ ns : List Int, ns.length ≤ 63 → ∃ sr s', FS [.scr ns] none = .ok (.own (srcD sr)) s' ∧ s'.src = none ∧ sr.cells.length ≤ 63)
    (gl : (defScope st).names.lookup ("_law_source" : Str) = some .globalImplicit) (ls : Loc (defScope st) "source") (lv : Vis (defScope st) "script")
    (hd : ∀ (cdv : Value) (A : Around) (outer : List Env) (s : Shared) (H : Hp) (E : XK) (Z : Zx), Z.Xn = none → Room k (A.deeper (envOfC "law" (defScope st) s.heap.objs.size f cdv)) → A.guards = some [] → SnB (cxOf (L2.CX P w) P w K mg base ("script" :: "source" :: N) "law" (defScope st) f cdv A outer s H E) Z (fun cls d _ H => E cls d H) rest m)
    (hm : ∀ sr : Src, sr.cells.length ≤ 63 → (m (lawS (N.length + 2) sr)).sat (fun fl _ => fl = .ret (.sh (.bool true))) fun _ _ => False)
    (hsw : ∀ env : Env, swapsWith (.Call (.Name "_law_source" p2) [.Name "script" p3] [] p4) (some (.Name "source" p1)) p5.line env = pure false) :
    FnG P w K mg base (k + 1) f fd ["script"] (spLaw K) := by
  refine fnG_raw F S (fun vs H Q E ⟨a, ns, e, _⟩ => by rw [e]; rfl) fun cdv A outer s H vs Q E hr hg ⟨a, ns, ev, hlen, hS, hO, q⟩ => ?_
  subst ev
  rw [hb]
  obtain ⟨sr, s', eF, es, hsr⟩ := hsrc ns hlen
  have tk : Takes (cxOf (L2.CX P w) P w K mg base ("script" :: "source" :: N) "law" (defScope st) f cdv A outer s H E) (fun cls d _ H => E cls d H) := takes_of rfl rfl rfl rfl
  have h1 : SnS (cxOf (L2.CX P w) P w K mg base ("script" :: "source" :: N) "law" (defScope st) f cdv A outer s H E) ⟨K, H, fun _ => False, none, none, none, none⟩ (fun cls d _ H => E cls d H) (.Assign [.Name "source" p1] (.Call (.Name "_law_source" p2) [.Name "script" p3] [] p4) p5) (cAsg (cCall 1 FS (cCons (cVar 0) cNil)) (gNm 1)) :=
    snS_set (i := 1) S.nd rfl ls (snE_cal GS (hr.mono hks) hg gl tk (snA_cons (snE_var (pe_var rfl lv)) snA_nil)) (hsw _) (.inl rfl)
  have h2 : PSs (cxOf (L2.CX P w) P w K mg base ("script" :: "source" :: N) "law" (defScope st) f cdv A outer s H E) rest (tLaw K (fun cls d _ H => E cls d H) m) := ⟨fun pins s1 σ H1 D I ⟨Z, e1, e2, z⟩ => (hd cdv A outer s H E Z e2 hr hg e1.symm).run pins s1 σ H1 D I z⟩
  have R0 : Rel ⟨K, H, fun _ => False, none, none, none, none⟩ H none (List.zip (L2.start ("script" :: "source" :: N) [.ref a]) (padS (N.length + 2) [.scr ns])) := by
    have e : List.zip (L2.start ("script" :: "source" :: N) [.ref a]) (padS (N.length + 2) [.scr ns]) = (some (.ref a), some (.scr ns)) :: List.zip (List.replicate (N.length + 1) none) (List.replicate (N.length + 1) none) := rfl
    rw [e]
    have r1 : Rel ⟨K, H, fun _ => False, none, none, none, none⟩ H none [(some (V.ref a), some (SV.scr ns))] := by
      refine ⟨fun _ => False, fun _ z => z, fun e he s z => ?_, List.pairwise_singleton _ _, trivial, fun b x e _ => e, fun _ z => z.elim⟩
      cases List.mem_singleton.mp he
      cases z
      exact ⟨_, rfl, a, rfl, hS.imp (fun z => ⟨z, id⟩) id⟩
    exact (Rel.trivZip r1 (σ := List.replicate (N.length + 1) none) (n := N.length + 1)).perm (List.perm_append_singleton _ _)
  refine ⟨_, pss_cons (h1 rfl) h2, [], ⟨padS (N.length + 2) [.scr ns], none⟩, ⟨by simp [L2.start, padS], R0⟩, ?_⟩
  have ev : cAsg (cCall 1 FS (cCons (cVar 0) cNil)) (gNm 1) ⟨padS (N.length + 2) [.scr ns], none⟩ = .ok .nx ⟨(padS (N.length + 2) [.scr ns]).set 1 (some (.own (srcD sr))), none⟩ := by
    have e0 : (padS (N.length + 2) [.scr ns])[0]? = some (some (.scr ns)) := rfl
    have e1 : cVar 0 ⟨padS (N.length + 2) [.scr ns], none⟩ = .ok (.scr ns) ⟨padS (N.length + 2) [.scr ns], none⟩ := by
      unfold cVar
      dsimp only
      rw [e0]
    unfold cAsg cCall cCons cNil
    rw [e1]
    simp only [Res.bind, SV.settle, appF, okA, List.length_cons, List.length_nil, and_self, if_true, eF, gNm, es]
  rw [ev]
  intro σ H1 R
  obtain ⟨hl, O, RO⟩ := id R
  have hl : σ.length = N.length + 2 := by simpa [padS] using hl
  match σ, hl with
  | σ0 :: o1 :: σr, hl =>
    have hlr : σr.length = N.length := by simpa using hl
    have m1 : (o1, some (SV.own (srcD sr))) ∈ [] ++ List.zip (σ0 :: o1 :: σr) ((padS (N.length + 2) [SV.scr ns]).set 1 (some (SV.own (srcD sr)))) := by
      have e : (padS (N.length + 2) [SV.scr ns]).set 1 (some (SV.own (srcD sr))) = some (.scr ns) :: some (.own (srcD sr)) :: List.replicate N.length none := rfl
      rw [e]
      simp
    obtain ⟨v, e1, c, e2, oc, _, _, kvs, hc, rc⟩ := RO.ent _ m1 _ rfl
    have e1 : o1 = some v := e1
    subst e1 e2
    obtain ⟨y, ek, hy, ny⟩ := rpD_src rc
    subst ek
    have ncy : c ≠ y := fun z => by
      rw [z, hy] at hc
      cases hc
    have r1 : Rel ⟨K, fun _ => none, fun _ => False, some (c, y), none, none, none⟩ H1 (some sr) [(some (V.ref c), some SV.src)] := by
      refine ⟨fun b => b = c ∨ b = y, fun _ z => z.elim, fun e he s z => ?_, List.pairwise_singleton _ _, ⟨ncy, .inl rfl, .inr rfl, hc, hy⟩, fun b x e _ => (nomatch e), fun b z => ?_⟩
      · cases List.mem_singleton.mp he
        cases z
        exact ⟨_, rfl, c, y, rfl, rfl⟩
      · rcases z with rfl | rfl
        · exact ⟨_, hc⟩
        · exact ⟨_, hy⟩
    refine ⟨⟨K, fun _ => none, fun _ => False, some (c, y), none, none, none⟩, rfl, rfl, [], lawS (N.length + 2) sr, ⟨by simp [lawS, hlr], ?_⟩, Res.sat_mono (hm sr hsr) (fun fl s2 e => ?_) fun _ _ z => z.elim⟩
    · have e : List.zip (σ0 :: some (V.ref c) :: σr) (lawS (N.length + 2) sr).sl = (σ0, none) :: (some (V.ref c), some SV.src) :: List.zip σr (List.replicate N.length none) := rfl
      show Rel _ H1 (some sr) ([] ++ List.zip (σ0 :: some (V.ref c) :: σr) (lawS (N.length + 2) sr).sl)
      rw [List.nil_append, e]
      exact Rel.triv ((Rel.trivZip r1 (σ := σr) (n := N.length)).perm (List.perm_append_singleton _ _))
    · subst e
      intro u σ2 H2 R2
      obtain ⟨O2, R3⟩ := R2.2
      have : u = .bl true := R3.bl ⟨.sh (.bool true), by simp, rfl⟩
      subst this
      exact q H2
end
end Pw
set_option Elab.async false
set_option linter.all false
set_option maxRecDepth 100000
namespace Pw
open PySem PySem.Spec PyProof.Rows L2
/-! ### reading the plain readings -/
section
variable {α β : Type} {Q : α → S → Prop} {E : Ex → S → Prop} {s : S}
theorem sat_ok {a : α} : (Res.ok a s).sat Q E = Q a s := rfl
theorem sat_bnd {r : Res β} {k : β → S → Res α} : (r.bind k).sat Q E = r.sat (fun a s => (k a s).sat Q E) E := propext Res.sat_bind
theorem bnd_ok {b : β} {k : β → S → Res α} : (Res.ok b s).bind k = k b s := rfl
theorem bnd_err {k : β → S → Res α} : (Res.err : Res β).bind k = .err := rfl
theorem opt_some {a : α} : Res.opt (some a) s = .ok a s := rfl
theorem quiet_ok {a : α} : (Res.ok a s).quiet = .ok a s := rfl
end
theorem forL_sat {g : Tg} {m : Sm} {Q : Fl → S → Prop} {E : Ex → S → Prop} (I : List SV → S → Prop)
    (step : ∀ d ds s, I (d :: ds) s → ∃ s1, g d s = some s1 ∧ (m s1).sat (fun fl s2 => match fl with | .nx => I ds s2 | .ct => I ds s2 | .bk => Q .nx s2 | .ret r => Q (.ret r) s2) E) (fin : ∀ s, I [] s → Q .nx s) :
    ∀ ds s, I ds s → (forL g m ds s).sat Q E
  | [], s, h => fin s h
  | d :: ds, s, h => by
    obtain ⟨s1, e, q⟩ := step d ds s h
    unfold forL
    rw [e]
    refine Res.sat_bind.mpr (Res.sat_mono q (fun fl s2 q => ?_) fun _ _ q => q)
    cases fl with
    | nx => exact forL_sat I step fin ds s2 q
    | ct => exact forL_sat I step fin ds s2 q
    | bk => exact q
    | ret r => exact q
theorem whileL_sat {c : Tt} {m : Sm} {Q : Fl → S → Prop} {E : Ex → S → Prop} (I : Nat → S → Prop)
    (step : ∀ k s, I k s → (c s).sat (fun b s1 => if b = true then (m s1).sat (fun fl s2 => match fl with | .nx => ∃ j, j < k ∧ I j s2 | .ct => ∃ j, j < k ∧ I j s2 | .bk => Q .nx s2 | .ret r => Q (.ret r) s2) E else Q .nx s1) E) :
    ∀ n k s, k < n → I k s → (whileL c m n s).sat Q E
  | 0, k, s, h, _ => absurd h (Nat.not_lt_zero _)
  | n + 1, k, s, h, i => by
    unfold whileL
    refine Res.sat_bind.mpr (Res.sat_mono (step k s i) (fun b s1 q => ?_) fun _ _ q => q)
    cases b with
    | false =>
      rw [if_neg Bool.false_ne_true] at q ⊢
      exact q
    | true =>
      rw [if_pos rfl] at q ⊢
      refine Res.sat_bind.mpr (Res.sat_mono q (fun fl s2 q => ?_) fun _ _ q => q)
      cases fl with
      | nx => obtain ⟨j, hj, q⟩ := q; exact whileL_sat I step n j s2 (by omega) q
      | ct => obtain ⟨j, hj, q⟩ := q; exact whileL_sat I step n j s2 (by omega) q
      | bk => exact q
      | ret r => exact q
theorem compL_sat {g : Tg} {c : Tt} {f : Ev} {vs : List Nat} {Q : List D → S → Prop} {E : Ex → S → Prop} (I : List SV → List D → S → Prop)
    (step : ∀ d ds acc s, I (d :: ds) acc s → ∃ s1, g d s = some s1 ∧ (c s1).sat (fun b s2 => if b = true then (f s2).sat (fun r s3 => ∃ x, r.settle = .sh x ∧ acc.length < sizeLine ∧ I ds (acc ++ [x]) (wipeS vs s3)) (fun _ _ => False) else I ds acc (wipeS vs s2)) (fun _ _ => False))
    (fin : ∀ acc s, I [] acc s → Q acc s) : ∀ ds acc s, I ds acc s → (compL g c f vs ds acc s).sat Q E
  | [], acc, s, h => fin acc s h
  | d :: ds, acc, s, h => by
    obtain ⟨s1, e, q⟩ := step d ds acc s h
    unfold compL
    rw [e]
    have q2 : ∀ {γ : Type} {r : Res γ} {P : γ → S → Prop}, r.sat P (fun _ _ => False) → r.quiet.sat P E := fun {γ r P} h => by
      cases r with
      | ok a s => exact h
      | exc e s => exact h.elim
      | err => exact h
    refine Res.sat_bind.mpr (Res.sat_mono (q2 q) (fun b s2 q => ?_) fun _ _ q => q)
    cases b with
    | false =>
      rw [if_neg Bool.false_ne_true] at q ⊢
      exact compL_sat I step fin ds acc _ q
    | true =>
      rw [if_pos rfl] at q ⊢
      refine Res.sat_bind.mpr (Res.sat_mono (q2 q) (fun r s3 q => ?_) fun _ _ q => q)
      obtain ⟨x, e1, e2, q⟩ := q
      rw [e1]
      dsimp only
      rw [if_pos e2]
      exact compL_sat I step fin ds _ _ q
end Pw
namespace Pw
open PySem PySem.Spec PyProof.Rows L2
section
variable {Q : Fl → S → Prop} {E : Ex → S → Prop} {m1 m2 : Sm} {s : S}
theorem sat_seq : (cSeq m1 m2 s).sat Q E ↔ (m1 s).sat (fun fl s1 => match fl with | .nx => (m2 s1).sat Q E | fl => Q fl s1) E := by
  unfold cSeq
  rw [Res.sat_bind]
  cases m1 s with
  | ok fl s1 => cases fl <;> exact Iff.rfl
  | exc => exact Iff.rfl
  | err => exact Iff.rfl
theorem seq_ok {s1 : S} (h : m1 s = .ok .nx s1) : cSeq m1 m2 s = m2 s1 := by unfold cSeq; rw [h]; rfl
theorem forL_step {g : Tg} {m : Sm} {d : SV} {ds : List SV} {s s1 s2 : S} (h1 : g d s = some s1) (h2 : m s1 = .ok .nx s2) : forL g m (d :: ds) s = forL g m ds s2 := by
  conv => lhs; unfold forL
  rw [h1]
  dsimp only
  rw [h2]
  rfl
theorem forL_ret {g : Tg} {m : Sm} {d : SV} {ds : List SV} {s s1 s2 : S} {r : SV} (h1 : g d s = some s1) (h2 : m s1 = .ok (.ret r) s2) : forL g m (d :: ds) s = .ok (.ret r) s2 := by
  conv => lhs; unfold forL
  rw [h1]
  dsimp only
  rw [h2]
  rfl
theorem call_ok {n : Nat} {F : Fd} {ga : Ag} {rs : List SV} {s s1 s2 : S} {r : SV} (ha : ga s = .ok rs s1) (hF : F rs s1.src = .ok r s2) (hn : rs.length = n := by rfl) (ho : okA rs = true := by rfl) : cCall n F ga s = .ok r ⟨s1.sl, s2.src⟩ := by
  unfold cCall appF
  rw [ha, bnd_ok, if_pos ⟨hn, ho⟩, hF]
theorem call_exc {n : Nat} {F : Fd} {ga : Ag} {rs : List SV} {s s1 s2 : S} {e : Ex} (ha : ga s = .ok rs s1) (hF : F rs s1.src = .exc e s2) (hn : rs.length = n := by rfl) (ho : okA rs = true := by rfl) : cCall n F ga s = .exc e ⟨s1.sl, s2.src⟩ := by
  unfold cCall appF
  rw [ha, bnd_ok, if_pos ⟨hn, ho⟩, hF]
theorem callL_ok {i n : Nat} {tab : Tab} {F : Fd} {ga : Ag} {c : Addr} {rs : List SV} {s s1 s2 : S} {r : SV} (hi : s.sl[i]? = some (some (.fn c))) (ht : tab c = some (n, F)) (ha : ga s = .ok rs s1) (hF : F rs s1.src = .ok r s2) (hn : rs.length = n := by rfl) (ho : okA rs = true := by rfl) : cCallL i tab ga s = .ok r ⟨s1.sl, s2.src⟩ := by
  unfold cCallL appF
  rw [hi]
  dsimp only
  rw [ht]
  dsimp only
  rw [ha, bnd_ok, if_pos ⟨hn, ho⟩, hF]
theorem callL_exc {i n : Nat} {tab : Tab} {F : Fd} {ga : Ag} {c : Addr} {rs : List SV} {s s1 s2 : S} {e : Ex} (hi : s.sl[i]? = some (some (.fn c))) (ht : tab c = some (n, F)) (ha : ga s = .ok rs s1) (hF : F rs s1.src = .exc e s2) (hn : rs.length = n := by rfl) (ho : okA rs = true := by rfl) : cCallL i tab ga s = .exc e ⟨s1.sl, s2.src⟩ := by
  unfold cCallL appF
  rw [hi]
  dsimp only
  rw [ht]
  dsimp only
  rw [ha, bnd_ok, if_pos ⟨hn, ho⟩, hF]
theorem atI_nat {α : Type} {xs : List α} {i : Nat} (h : i < xs.length) : atI xs (i : Int) = some xs[i] := by
  unfold atI ixN
  rw [if_pos (Int.natCast_nonneg i), if_pos (by exact_mod_cast h)]
  simp [h]
theorem atI_int {α : Type} {xs : List α} {i : Int} (h0 : 0 ≤ i) (h : i.toNat < xs.length) : atI xs i = some xs[i.toNat] := by
  have := atI_nat h
  rwa [Int.toNat_of_nonneg h0] at this
/-- a function that the source is nothing to -/
def Rets (F : Fd) (as : List SV) (r : SV) : Prop := ∀ src, ∃ sl, F as src = .ok r ⟨sl, src⟩
def Excs (F : Fd) (as : List SV) (e : Ex) : Prop := ∀ src, ∃ sl, F as src = .exc e ⟨sl, src⟩
theorem Rets.call {n : Nat} {F : Fd} {ga : Ag} {rs : List SV} {s s1 : S} {r : SV} (h : Rets F rs r) (ha : ga s = .ok rs s1) (hn : rs.length = n := by rfl) (ho : okA rs = true := by rfl) : cCall n F ga s = .ok r s1 := by
  obtain ⟨sl, e⟩ := h s1.src
  exact call_ok (s2 := ⟨sl, s1.src⟩) ha e hn ho
theorem Excs.call {n : Nat} {F : Fd} {ga : Ag} {rs : List SV} {s s1 : S} {x : Ex} (h : Excs F rs x) (ha : ga s = .ok rs s1) (hn : rs.length = n := by rfl) (ho : okA rs = true := by rfl) : cCall n F ga s = .exc x s1 := by
  obtain ⟨sl, e⟩ := h s1.src
  exact call_exc (s2 := ⟨sl, s1.src⟩) ha e hn ho
theorem Rets.callL {i n : Nat} {tab : Tab} {F : Fd} {ga : Ag} {c : Addr} {rs : List SV} {s s1 : S} {r : SV} (h : Rets F rs r) (hi : s.sl[i]? = some (some (.fn c))) (ht : tab c = some (n, F)) (ha : ga s = .ok rs s1) (hn : rs.length = n := by rfl) (ho : okA rs = true := by rfl) : cCallL i tab ga s = .ok r s1 := by
  obtain ⟨sl, e⟩ := h s1.src
  exact callL_ok (s2 := ⟨sl, s1.src⟩) hi ht ha e hn ho
theorem Excs.callL {i n : Nat} {tab : Tab} {F : Fd} {ga : Ag} {c : Addr} {rs : List SV} {s s1 : S} {x : Ex} (h : Excs F rs x) (hi : s.sl[i]? = some (some (.fn c))) (ht : tab c = some (n, F)) (ha : ga s = .ok rs s1) (hn : rs.length = n := by rfl) (ho : okA rs = true := by rfl) : cCallL i tab ga s = .exc x s1 := by
  obtain ⟨sl, e⟩ := h s1.src
  exact callL_exc (s2 := ⟨sl, s1.src⟩) hi ht ha e hn ho
theorem for_ok {f : Itf} {g : Tg} {m : Sm} {ds : List SV} {s s1 : S} {r : Res Fl} (hi : f s = .ok ds s1) (h : forL g m ds s1 = r) : cFor f g m s = r := by unfold cFor; rw [hi]; exact h
theorem comp_ok {f : Itf} {g : Tg} {c : Tt} {e : Ev} {vs : List Nat} {ds : List SV} {acc : List D} {s s1 s2 : S} (hi : f s = .ok ds s1) (h : compL g c e vs ds [] (wipeS vs s1) = .ok acc s2) : cComp f g c e vs s = .ok (.own (.list acc)) (backS vs s1 s2) := by
  unfold cComp
  rw [hi, bnd_ok, h]
  rfl
theorem compL_step {g : Tg} {f : Ev} {vs : List Nat} {d : SV} {ds : List SV} {acc : List D} {s s1 s3 : S} {r : SV} {x : D} (h1 : g d s = some s1) (h2 : f s1 = .ok r s3) (h3 : r.settle = .sh x) (h4 : acc.length < sizeLine) : compL g cYes f vs (d :: ds) acc s = compL g cYes f vs ds (acc ++ [x]) (wipeS vs s3) := by
  conv => lhs; unfold compL
  rw [h1]
  simp only [cYes, Res.quiet, bnd_ok, if_true]
  rw [h2]
  simp only [Res.quiet, bnd_ok, h3, h4, if_true]
theorem compL_keep {g : Tg} {c : Tt} {f : Ev} {vs : List Nat} {d : SV} {ds : List SV} {acc : List D} {s s1 s2 s3 : S} {r : SV} {x : D} (h1 : g d s = some s1) (hc : c s1 = .ok true s2) (h2 : f s2 = .ok r s3) (h3 : r.settle = .sh x) (h4 : acc.length < sizeLine) : compL g c f vs (d :: ds) acc s = compL g c f vs ds (acc ++ [x]) (wipeS vs s3) := by
  conv => lhs; unfold compL
  rw [h1]
  dsimp only
  rw [hc]
  simp only [Res.quiet, bnd_ok, if_true]
  rw [h2]
  simp only [Res.quiet, bnd_ok, h3, h4, if_true]
theorem compL_drop {g : Tg} {c : Tt} {f : Ev} {vs : List Nat} {d : SV} {ds : List SV} {acc : List D} {s s1 s2 : S} (h1 : g d s = some s1) (hc : c s1 = .ok false s2) : compL g c f vs (d :: ds) acc s = compL g c f vs ds acc (wipeS vs s2) := by
  conv => lhs; unfold compL
  rw [h1]
  dsimp only
  rw [hc]
  simp only [Res.quiet, bnd_ok, Bool.false_eq_true, if_false]
theorem seq_ret {r : SV} {s1 : S} (h : m1 s = .ok (.ret r) s1) : cSeq m1 m2 s = .ok (.ret r) s1 := by unfold cSeq; rw [h]; rfl
theorem ifs_ok {c : Tt} {b : Bool} {s1 : S} (h : c s = .ok b s1) : cIfS c m1 m2 s = if b = true then m1 s1 else m2 s1 := by unfold cIfS; rw [h]; rfl
end
theorem mulFits_r {i j : Int} (h : smallI j = true) : mulFits i j = true := by unfold mulFits; rw [h]; rfl
theorem mulFits_l {i j : Int} (h : smallI i = true) : mulFits i j = true := by unfold mulFits; rw [h, Bool.or_true]; rfl
/-! ### how each reading comes to its end -/
section
variable {f fa fb' : Ev} {fb fc : Vw} {ga : Ag} {m m1 m2 : Sm} {c c1 c2 : Tt} {s s1 s2 s3 : S} {r r1 r2 x : SV} {d d1 d2 d3 : D} {ds : List D} {rs : List SV} {i n : Nat} {b : Bool} {e : Ex}
theorem vE_ok (h : f s = .ok r s1) (hd : r.dat = some d) : vE f s = .ok d s1 := by unfold vE; rw [h, bnd_ok, hd]
theorem vE_exc (h : f s = .exc e s1) : vE f s = .exc e s1 := by unfold vE; rw [h]; rfl
theorem call1_ok {g : D → Option SV} (h : fb s = .ok d s1) (hg : g d = some r) : cCall1 g fb s = .ok r s1 := by unfold cCall1; rw [h, bnd_ok, hg]; rfl
theorem callN_ok {g : List D → Option SV} (h : ga s = .ok rs s1) (hd : datas rs = some ds) (hg : g ds = some r) : cCallN g ga s = .ok r s1 := by unfold cCallN; rw [h, bnd_ok, hd]; dsimp only; rw [hg]; rfl
theorem ret_ok (h : f s = .ok r s1) : cRet f s = .ok (.ret r) s1 := by unfold cRet; rw [h]; rfl
theorem ret_exc (h : f s = .exc e s1) : cRet f s = .exc e s1 := by unfold cRet; rw [h]; rfl
theorem expr_ok (h : f s = .ok r s1) : cExpr f s = .ok .nx s1 := by unfold cExpr; rw [h]; rfl
theorem expr_exc (h : f s = .exc e s1) : cExpr f s = .exc e s1 := by unfold cExpr; rw [h]; rfl
theorem asg_ok {g : Tg} (h : f s = .ok r s1) (hg : g r s1 = some s2) : cAsg f g s = .ok .nx s2 := by unfold cAsg; rw [h, bnd_ok, hg]
theorem asg_exc {g : Tg} (h : f s = .exc e s1) : cAsg f g s = .exc e s1 := by unfold cAsg; rw [h]; rfl
theorem nm_ok (h : f s = .ok r s1) : cAsg f (gNm i) s = .ok .nx ⟨s1.sl.set i (some r), s1.src⟩ := asg_ok h rfl
theorem binE_ok {g : D → D → Option SV} (ha : fa s = .ok r s1) (hb : fb s1 = .ok d2 s2) (hd : r.dat = some d1) (hg : g d1 d2 = some x) : cBinE g fa fb s = .ok x s2 := by
  unfold cBinE
  rw [ha, bnd_ok, hd]
  dsimp only
  rw [hb, bnd_ok, hg]
  rfl
theorem binV_ok {g : D → D → Option SV} (hi : s.sl[i]? = some (some r)) (hb : fb s = .ok d2 s1) (hd : datAt s1 i = some d1) (hg : g d1 d2 = some x) : cBinV g i fb s = .ok x s1 := by
  unfold cBinV
  rw [hi]
  dsimp only
  rw [hb, bnd_ok, hd]
  dsimp only
  rw [hg]
  rfl
theorem cons_ok (h : f s = .ok r s1) (hr : ga s1 = .ok rs s2) : cCons f ga s = .ok (r.settle :: rs) s2 := by unfold cCons; rw [h, bnd_ok, hr]; rfl
theorem cons_exc (h : f s = .exc e s1) : cCons f ga s = .exc e s1 := by unfold cCons; rw [h]; rfl
theorem consR_ok (h : f s = .ok r s1) (hr : ga s1 = .ok rs s2) : cConsR f ga s = .ok (r :: rs) s2 := by unfold cConsR; rw [h, bnd_ok, hr]; rfl
theorem tup_ok (h : ga s = .ok rs s1) (hd : datas rs = some ds) (hz : ds.length ≤ 1000) : cTup ga s = .ok (.sh (.tuple ds)) s1 := by
  unfold cTup
  rw [h, bnd_ok, hd]
  dsimp only
  rw [if_pos (by rw [sizeLine_eq]; omega)]
theorem tup_exc (h : ga s = .exc e s1) : cTup ga s = .exc e s1 := by unfold cTup; rw [h]; rfl
theorem lst_ok (h : ga s = .ok rs s1) (hd : datas rs = some ds) (hz : ds.length ≤ 1000) : cLst ga s = .ok (.own (.list ds)) s1 := by
  unfold cLst
  rw [h, bnd_ok, hd]
  dsimp only
  rw [if_pos (by rw [sizeLine_eq]; omega)]
theorem orV_tt {k1 k2 : Ev} (h : k1 s = .ok (.sh (.bool true)) s1) : cOrV k1 k2 s = .ok (.sh (.bool true)) s1 := by unfold cOrV; rw [h, bnd_ok]; rfl
theorem orV_ff {k1 k2 : Ev} (h : k1 s = .ok (.sh (.bool false)) s1) (h2 : k2 s1 = .ok r s2) : cOrV k1 k2 s = .ok r s2 := by unfold cOrV; rw [h, bnd_ok]; exact h2
theorem andV_ff {k1 k2 : Ev} (h : k1 s = .ok (.sh (.bool false)) s1) : cAndV k1 k2 s = .ok (.sh (.bool false)) s1 := by unfold cAndV; rw [h, bnd_ok]; rfl
theorem andV_tt {k1 k2 : Ev} (h : k1 s = .ok (.sh (.bool true)) s1) (h2 : k2 s1 = .ok r s2) : cAndV k1 k2 s = .ok r s2 := by unfold cAndV; rw [h, bnd_ok]; exact h2
theorem t_ok (h : f s = .ok (.sh (.bool b)) s1) : cT f s = .ok b s1 := by unfold cT; rw [h]; rfl
theorem not_ok (h : c s = .ok b s1) : cNot c s = .ok (!b) s1 := by unfold cNot; rw [h]; rfl
theorem and_ok (h : c1 s = .ok b s1) (h2 : b = true → c2 s1 = .ok b' s2) (h3 : b = false → b' = false ∧ s2 = s1) : cAnd c1 c2 s = .ok b' s2 := by
  unfold cAnd
  rw [h, bnd_ok]
  cases b with
  | true => rw [if_pos rfl]; exact h2 rfl
  | false => obtain ⟨rfl, rfl⟩ := h3 rfl; rw [if_neg Bool.false_ne_true]
theorem or_ff (h : c1 s = .ok false s1) (h2 : c2 s1 = .ok b s2) : cOr c1 c2 s = .ok b s2 := by
  unfold cOr
  rw [h, bnd_ok, if_neg Bool.false_ne_true, h2]
theorem or_tt (h : c1 s = .ok true s1) : cOr c1 c2 s = .ok true s1 := by
  unfold cOr
  rw [h, bnd_ok, if_pos rfl]
theorem if_tt {k1 k2 : Ev} (h : c s = .ok true s1) (h2 : k1 s1 = .ok r s2) : cIf c k1 k2 s = .ok r s2 := by unfold cIf; rw [h, bnd_ok, if_pos rfl, h2]
theorem if_ff {k1 k2 : Ev} (h : c s = .ok false s1) (h2 : k2 s1 = .ok r s2) : cIf c k1 k2 s = .ok r s2 := by unfold cIf; rw [h, bnd_ok, if_neg Bool.false_ne_true, h2]
theorem ifs_tt {q : Res Fl} (h : c s = .ok true s1) (h2 : m1 s1 = q) : cIfS c m1 m2 s = q := by unfold cIfS; rw [h, bnd_ok, if_pos rfl, h2]
theorem ifs_ff {q : Res Fl} (h : c s = .ok false s1) (h2 : m2 s1 = q) : cIfS c m1 m2 s = q := by unfold cIfS; rw [h, bnd_ok, if_neg Bool.false_ne_true, h2]
theorem seq_nx {q : Res Fl} (h : m1 s = .ok .nx s1) (h2 : m2 s1 = q) : cSeq m1 m2 s = q := (seq_ok h).trans h2
theorem seq_exc (h : m1 s = .exc e s1) : cSeq m1 m2 s = .exc e s1 := by unfold cSeq; rw [h]; rfl
theorem run_ret {as : List SV} {src : Option Src} (h : m ⟨padS n as, src⟩ = .ok (.ret r) s) : runFn n m as src = .ok r s := by unfold runFn; rw [h]; rfl
theorem run_nx {as : List SV} {src : Option Src} (h : m ⟨padS n as, src⟩ = .ok .nx s) : runFn n m as src = .ok (.sh .none) s := by unfold runFn; rw [h]; rfl
theorem run_exc {as : List SV} {src : Option Src} (h : m ⟨padS n as, src⟩ = .exc e s) : runFn n m as src = .exc e s := by unfold runFn; rw [h]; rfl
theorem par_ok {is : List Nat} (h : ga s = .ok rs s1) (hl : is.length = rs.length := by rfl) : cPar is ga s = .ok .nx { s1 with sl := setMany s1.sl is rs } := by unfold cPar; rw [h, bnd_ok, if_pos hl]
theorem aug_ok {g : D → D → Option SV} (hi : s.sl[i]? = some (some r)) (hb : fb s = .ok d2 s1) (hd : datAt s1 i = some d1) (hg : g d1 d2 = some x) : cAug g i fb s = .ok .nx { s1 with sl := s1.sl.set i (some x) } := by
  unfold cAug
  rw [hi]
  dsimp only
  rw [hb, bnd_ok, hd]
  dsimp only
  rw [hg]
theorem setIx_ok {fk : Vw} {d0 : D} (hv : f s = .ok r s1) (hr : r.settle = .sh d3) (h0 : s1.sl[i]? = some (some (.own d0))) (hk : fk s1 = .ok d2 s2) (hi : s2.sl[i]? = some (some (.own d1))) (hg : dSet d1 d2 d3 = some d) : cSetIx i fk f s = .ok .nx { s2 with sl := s2.sl.set i (some (.own d)) } := by
  unfold cSetIx
  rw [hv, bnd_ok, hr]
  dsimp only
  rw [h0]
  dsimp only
  rw [hk, bnd_ok, hi]
  dsimp only
  rw [hg]
theorem chain_ok {g g' : D → D → Option SV} (ha : fa s = .ok r s1) (hb : fb' s1 = .ok r1 s2) (h1 : r.dat = some d) (h2 : r1.dat = some d1) (hg : g d d1 = some (.sh (.bool true))) (hc : fc s2 = .ok d2 s3) (hg' : g' d1 d2 = some x) : cChain g g' fa fb' fc s = .ok x s3 := by
  unfold cChain
  rw [ha, bnd_ok, hb, bnd_ok, h1, h2]
  dsimp only
  rw [hg]
  dsimp only
  rw [hc, bnd_ok, hg']
  rfl
theorem chain_no {g g' : D → D → Option SV} (ha : fa s = .ok r s1) (hb : fb' s1 = .ok r1 s2) (h1 : r.dat = some d) (h2 : r1.dat = some d1) (hg : g d d1 = some (.sh (.bool false))) : cChain g g' fa fb' fc s = .ok (.sh (.bool false)) s2 := by
  unfold cChain
  rw [ha, bnd_ok, hb, bnd_ok, h1, h2]
  dsimp only
  rw [hg]
end
end Pw
set_option Elab.async false
set_option linter.all false
set_option maxRecDepth 100000
namespace Pw
namespace Law
open PySem PySem.Spec PyProof.Rows L2
def m_law_source : Sm := (cSeq (cAsg (cD (.int 11)) (gNm 1)) (cSeq (cFor (cIt (cVar 0)) (gNm 2) (cAsg (cBinE dMod (cCall1 dInt (vE (cBinE dAdd (cBinE dAdd (cBinV dMul 1 (vE (cD (.int 69069)))) (vE (cBinV dMul 2 (vE (cD (.int 31)))))) (vE (cD (.int 5)))))) (vE (cD (.int 2147483629)))) (gNm 1))) (cRet (cDisp [((cD (.str "cells")), (cRev (vE (cComp (cIt (cVar 0)) (gNm 2) cYes (cCall1 dAbs (cVarV 2)) [2])))), ((cD (.str "left")), (cD (.int 1))), ((cD (.str "mixed")), (cVar 1)), ((cD (.str "turn")), (cD (.int 0)))]))))
def F_law_source : Fd := runFn 3 (m_law_source)
def m_law_pick : Sm := (cSeq (cWhile (cAnd (cT (cBinV dGt 1 (vE (cD (.int 1))))) (cAnd (cT (cBinE dLt (cSrcG 0 Src.left) (vE (cD (.int 2))))) (cT (cBinE dGt (cSrcLen 0) (vE (cD (.int 0))))))) (cSrcSet 0 putLeft (cSrcPop 0))) (cSeq (cAsg (cSrcG 0 Src.left) (gNm 2)) (cSeq (cIfS (cOr (cT (cBinV dLt 1 (vE (cD (.int 2))))) (cT (cBinV dGt 2 (vE (cD (.int 1)))))) (cSeq (cSrcSet 0 putLeft (cBinV dFdiv 2 (vE (cCallN dMax2 (cCons (cD (.int 1)) (cCons (cVar 1) cNil)))))) (cRet (cBinE dMod (cCall1 dInt (cVarV 2)) (vE (cCallN dMax2 (cCons (cD (.int 1)) (cCons (cVar 1) cNil))))))) cSkip) (cSeq (cSrcSet 0 putTurn (cBinE dAdd (cSrcG 0 Src.turn) (vE (cD (.int 1))))) (cSeq (cAsg (cBinE dMod (cCall1 dInt (vE (cBinE dAdd (cSrcG 0 Src.mixed) (vE (cBinE dMul (cSrcG 0 Src.turn) (vE (cD (.int 104729)))))))) (vE (cD (.int 998244353)))) (gNm 3)) (cSeq (cAsg (cBinE dMod (cCall1 dInt (vE (cBinE dAdd (cBinV dMul 3 (cVarV 3)) (vE (cBinE dMul (cSrcG 0 Src.turn) (vE (cD (.int 17)))))))) (vE (cD (.int 2147483647)))) (gNm 3)) (cSeq (cSrcSet 0 putMixed (cVar 3)) (cRet (cBinE dMod (cCall1 dInt (vE (cBinV dFdiv 3 (vE (cD (.int 16)))))) (cVarV 1))))))))))
def F_law_pick : Fd := runFn 4 (m_law_pick)
def m_law_of : Sm := (cRet (cBinV dIx 1 (vE (cCall 2 F_law_pick (cCons (cVar 0) (cCons (cCall1 dLen (cVarV 1)) cNil))))))
def F_law_of : Fd := runFn 2 (m_law_of)
/-! ### the source -/
theorem law_source_loop (ns : List Int) : ∀ (ms : List Int) (mx : Int) (o : Option SV), ∃ mx' o', forL (gNm 2) (cAsg (cBinE dMod (cCall1 dInt (vE (cBinE dAdd (cBinE dAdd (cBinV dMul 1 (vE (cD (.int 69069)))) (vE (cBinV dMul 2 (vE (cD (.int 31)))))) (vE (cD (.int 5)))))) (vE (cD (.int 2147483629)))) (gNm 1)) (shs (ms.map .int)) ⟨[some (.scr ns), some (.sh (.int mx)), o], none⟩ = .ok .nx ⟨[some (.scr ns), some (.sh (.int mx')), o'], none⟩
  | [], mx, o => ⟨mx, o, rfl⟩
  | z :: ms, mx, o => by
    obtain ⟨mx', o', h⟩ := law_source_loop ns ms ((mx * 69069 + z * 31 + 5) % 2147483629) (some (.sh (.int z)))
    refine ⟨mx', o', ?_⟩
    rw [← h]
    have e1 : mulFits mx 69069 = true := mulFits_r (by decide)
    have e2 : mulFits z 31 = true := mulFits_r (by decide)
    refine forL_step rfl ?_
    simp only [cAsg, cBinE, cBinV, vE, cD, cCall1, datAt, SV.dat, dMul, dAdd, dInt, dMod, e1, e2, if_true, bnd_ok, opt_some, gNm, List.getElem?_cons_zero, List.getElem?_cons_succ, List.set_cons_zero, List.set_cons_succ]
    rfl
def absI (i : Int) : Int := if i < 0 then -i else i
theorem law_source_comp (a b : Option SV) : ∀ (ms : List Int) (acc : List D), acc.length + ms.length ≤ 1000 → compL (gNm 2) cYes (cCall1 dAbs (cVarV 2)) [2] (shs (ms.map .int)) acc ⟨[a, b, none], none⟩ = .ok (acc ++ (ms.map absI).map .int) ⟨[a, b, none], none⟩
  | [], acc, _ => by simp [compL, shs]
  | z :: ms, acc, h => by
    have ih := law_source_comp a b ms (acc ++ [.int (absI z)]) (by simp at h ⊢; omega)
    have h4 : acc.length < sizeLine := by rw [sizeLine_eq]; simp at h; omega
    simp only [shs, List.map_cons, compL, gNm, cYes, Res.quiet, bnd_ok, if_true, cCall1, cVarV, dAbs, opt_some, SV.settle, wipeS, List.getElem?_cons_zero, List.getElem?_cons_succ, List.set_cons_zero, List.set_cons_succ, h4]
    simp only [shs, List.append_assoc, List.singleton_append] at ih
    exact ih
theorem law_source_ok (ns : List Int) (hl : ns.length ≤ 63) : ∃ sr s', F_law_source [.scr ns] none = .ok (.own (srcD sr)) s' ∧ s'.src = none ∧ sr.cells.length ≤ 63 := by
  obtain ⟨mx, o, h⟩ := law_source_loop ns ns 11 none
  refine ⟨⟨(ns.map absI).reverse, 1, mx, 0⟩, ⟨[some (.scr ns), some (.sh (.int mx)), o], none⟩, ?_, rfl, by simpa using hl⟩
  unfold F_law_source runFn m_law_source
  have h0 : cAsg (cD (.int 11)) (gNm 1) ⟨padS 3 [.scr ns], none⟩ = .ok .nx ⟨[some (.scr ns), some (.sh (.int 11)), none], none⟩ := rfl
  have h1 := for_ok (f := cIt (cVar 0)) (s := ⟨[some (.scr ns), some (.sh (.int 11)), none], none⟩) rfl h
  have hc : cComp (cIt (cVar 0)) (gNm 2) cYes (cCall1 dAbs (cVarV 2)) [2] ⟨[some (.scr ns), some (.sh (.int mx)), o], none⟩ = .ok (.own (.list ((ns.map absI).map .int))) ⟨[some (.scr ns), some (.sh (.int mx)), o], none⟩ :=
    comp_ok (f := cIt (cVar 0)) (s := ⟨[some (.scr ns), some (.sh (.int mx)), o], none⟩) (s1 := ⟨[some (.scr ns), some (.sh (.int mx)), o], none⟩) (vs := [2]) rfl (law_source_comp _ _ ns [] (by simp; omega))
  rw [seq_ok h0, seq_ok h1]
  simp only [cRet, cDisp, cPairs, cD, bnd_ok, cRev, vE, hc, SV.dat, SV.settle, cVar, List.getElem?_cons_zero, List.getElem?_cons_succ, keysD, Option.map_some, putAll, List.foldl_cons, List.foldl_nil]
  unfold srcD
  rw [List.map_reverse]
  rfl
def pkS (many : Int) (sr : Src) : S := ⟨[some .src, some (.sh (.int many)), none, none], some sr⟩
theorem law_pick_while (many : Int) : ∀ (n : Nat) (sr : Src), sr.cells.length < n → ∃ sr', whileL (cAnd (cT (cBinV dGt 1 (vE (cD (.int 1))))) (cAnd (cT (cBinE dLt (cSrcG 0 Src.left) (vE (cD (.int 2))))) (cT (cBinE dGt (cSrcLen 0) (vE (cD (.int 0))))))) (cSrcSet 0 putLeft (cSrcPop 0)) n (pkS many sr) = .ok .nx (pkS many sr') ∧ sr'.cells.length ≤ sr.cells.length
  | 0, sr, h => absurd h (Nat.not_lt_zero _)
  | n + 1, sr, h => by
    have hc : cAnd (cT (cBinV dGt 1 (vE (cD (.int 1))))) (cAnd (cT (cBinE dLt (cSrcG 0 Src.left) (vE (cD (.int 2))))) (cT (cBinE dGt (cSrcLen 0) (vE (cD (.int 0)))))) (pkS many sr) = .ok (decide (1 < many) && (decide (sr.left < 2) && decide (0 < (sr.cells.length : Int)))) (pkS many sr) := by
      simp only [pkS, cAnd, cT, cBinV, cBinE, vE, cD, cSrcG, cSrcLen, datAt, SV.dat, bnd_ok, opt_some, dGt, dLt, dOrd, dOrdI, List.getElem?_cons_zero, List.getElem?_cons_succ]
      by_cases c1 : 1 < many <;> by_cases c2 : sr.left < 2 <;> simp [c1, c2]
    unfold whileL
    rw [hc, bnd_ok]
    split
    · rename_i hb
      simp only [Bool.and_eq_true, decide_eq_true_eq] at hb
      have hl : sr.cells.length - 1 < sr.cells.length := by omega
      have hm : cSrcSet 0 putLeft (cSrcPop 0) (pkS many sr) = .ok .nx (pkS many ⟨sr.cells.dropLast, sr.cells[sr.cells.length - 1], sr.mixed, sr.turn⟩) := by
        simp only [pkS, cSrcSet, cSrcPop, List.getElem?_cons_zero, List.getElem?_eq_getElem hl, bnd_ok, putLeft]
      rw [hm, bnd_ok]
      obtain ⟨sr', e1, e2⟩ := law_pick_while many n ⟨sr.cells.dropLast, sr.cells[sr.cells.length - 1], sr.mixed, sr.turn⟩ (by simp; omega)
      exact ⟨sr', e1, by simp at e2; omega⟩
    · exact ⟨sr, rfl, Nat.le_refl _⟩
/-- what a pick gives -/
def PickIn (many v : Int) : Prop := 0 ≤ v ∧ (v < many ∨ (many < 2 ∧ v = 0))
theorem pick_ok (many : Int) (hm : many < 2 ^ 62) (sr : Src) (hs : sr.cells.length ≤ 63) : ∃ v sr' s', F_law_pick [.src, .sh (.int many)] (some sr) = .ok (.sh (.int v)) s' ∧ s'.src = some sr' ∧ PickIn many v ∧ sr'.cells.length ≤ 63 := by
  obtain ⟨sr1, hw, hl⟩ := law_pick_while many FUEL sr (Nat.lt_of_le_of_lt hs (by decide))
  have hl1 : sr1.cells.length ≤ 63 := Nat.le_trans hl hs
  have g0 : (⟨padS 4 [.src, .sh (.int many)], some sr⟩ : S) = pkS many sr := rfl
  have hx : dMax2 [.int 1, .int many] = some (.sh (.int (if many > 1 then many else 1))) := rfl
  have hx0 : 0 < (if many > 1 then many else 1) := by split <;> omega
  have hx1 : (if many > 1 then many else 1).natAbs.log2 < 9000 := by
    refine Nat.lt_of_le_of_lt (?_ : _ ≤ 62) (by decide)
    by_cases h : (if many > 1 then many else 1).natAbs = 0
    · rw [h]; decide
    · exact Nat.le_of_lt ((Nat.log2_lt h).mpr (by split <;> omega))
  unfold F_law_pick runFn m_law_pick
  rw [g0, seq_ok (show cWhile _ _ (pkS many sr) = .ok .nx (pkS many sr1) from hw)]
  have h2 : cAsg (cSrcG 0 Src.left) (gNm 2) (pkS many sr1) = .ok .nx ⟨[some .src, some (.sh (.int many)), some (.sh (.int sr1.left)), none], some sr1⟩ := rfl
  rw [seq_ok h2]
  have hc : cOr (cT (cBinV dLt 1 (vE (cD (.int 2))))) (cT (cBinV dGt 2 (vE (cD (.int 1))))) ⟨[some .src, some (.sh (.int many)), some (.sh (.int sr1.left)), none], some sr1⟩ = .ok (decide (many < 2) || decide (1 < sr1.left)) ⟨[some .src, some (.sh (.int many)), some (.sh (.int sr1.left)), none], some sr1⟩ := by
    simp only [cOr, cT, cBinV, vE, cD, datAt, SV.dat, bnd_ok, opt_some, dGt, dLt, dOrd, dOrdI, List.getElem?_cons_zero, List.getElem?_cons_succ]
    by_cases c1 : many < 2 <;> simp [c1]
  by_cases hb : (decide (many < 2) || decide (1 < sr1.left)) = true
  · have h3 : cSrcSet 0 putLeft (cBinV dFdiv 2 (vE (cCallN dMax2 (cCons (cD (.int 1)) (cCons (cVar 1) cNil))))) ⟨[some .src, some (.sh (.int many)), some (.sh (.int sr1.left)), none], some sr1⟩ = .ok .nx ⟨[some .src, some (.sh (.int many)), some (.sh (.int sr1.left)), none], some (putLeft sr1 (sr1.left / (if many > 1 then many else 1)))⟩ := by
      simp only [cSrcSet, cBinV, vE, cCallN, cCons, cNil, cD, cVar, SV.settle, datas, Option.map_some, hx, datAt, SV.dat, bnd_ok, opt_some, dFdiv, hx0, hx1, and_self, if_true, List.getElem?_cons_zero, List.getElem?_cons_succ]
    have h4 : cRet (cBinE dMod (cCall1 dInt (cVarV 2)) (vE (cCallN dMax2 (cCons (cD (.int 1)) (cCons (cVar 1) cNil))))) ⟨[some .src, some (.sh (.int many)), some (.sh (.int sr1.left)), none], some (putLeft sr1 (sr1.left / (if many > 1 then many else 1)))⟩ = .ok (.ret (.sh (.int (sr1.left % (if many > 1 then many else 1))))) ⟨[some .src, some (.sh (.int many)), some (.sh (.int sr1.left)), none], some (putLeft sr1 (sr1.left / (if many > 1 then many else 1)))⟩ := by
      simp only [cRet, cBinE, cCall1, cVarV, dInt, vE, cCallN, cCons, cNil, cD, cVar, SV.settle, datas, Option.map_some, hx, SV.dat, bnd_ok, opt_some, dMod, hx0, if_true, List.getElem?_cons_zero, List.getElem?_cons_succ]
    have h5 : cIfS (cOr (cT (cBinV dLt 1 (vE (cD (.int 2))))) (cT (cBinV dGt 2 (vE (cD (.int 1)))))) (cSeq (cSrcSet 0 putLeft (cBinV dFdiv 2 (vE (cCallN dMax2 (cCons (cD (.int 1)) (cCons (cVar 1) cNil)))))) (cRet (cBinE dMod (cCall1 dInt (cVarV 2)) (vE (cCallN dMax2 (cCons (cD (.int 1)) (cCons (cVar 1) cNil))))))) cSkip ⟨[some .src, some (.sh (.int many)), some (.sh (.int sr1.left)), none], some sr1⟩ = .ok (.ret (.sh (.int (sr1.left % (if many > 1 then many else 1))))) ⟨[some .src, some (.sh (.int many)), some (.sh (.int sr1.left)), none], some (putLeft sr1 (sr1.left / (if many > 1 then many else 1)))⟩ := by
      rw [ifs_ok hc, if_pos hb, seq_ok h3, h4]
    have h6 := Int.emod_nonneg sr1.left (Int.ne_of_gt hx0)
    have h7 := Int.emod_lt_of_pos sr1.left hx0
    rw [seq_ret h5]
    refine ⟨_, _, _, rfl, rfl, ⟨h6, ?_⟩, hl1⟩
    split at h7 <;> split <;> omega
  · have hb' : (decide (many < 2) || decide (1 < sr1.left)) = false := by simpa using hb
    have h2m : 2 ≤ many := by
      simp only [Bool.or_eq_false_iff, decide_eq_false_iff_not] at hb'
      omega
    have h5 : cIfS (cOr (cT (cBinV dLt 1 (vE (cD (.int 2))))) (cT (cBinV dGt 2 (vE (cD (.int 1)))))) (cSeq (cSrcSet 0 putLeft (cBinV dFdiv 2 (vE (cCallN dMax2 (cCons (cD (.int 1)) (cCons (cVar 1) cNil)))))) (cRet (cBinE dMod (cCall1 dInt (cVarV 2)) (vE (cCallN dMax2 (cCons (cD (.int 1)) (cCons (cVar 1) cNil))))))) cSkip ⟨[some .src, some (.sh (.int many)), some (.sh (.int sr1.left)), none], some sr1⟩ = .ok .nx ⟨[some .src, some (.sh (.int many)), some (.sh (.int sr1.left)), none], some sr1⟩ := by
      rw [ifs_ok hc, hb', if_neg Bool.false_ne_true]
      rfl
    have m1 : mulFits (sr1.turn + 1) 104729 = true := mulFits_r (by decide)
    have m2 : mulFits (sr1.turn + 1) 17 = true := mulFits_r (by decide)
    have r1 : 0 ≤ (sr1.mixed + (sr1.turn + 1) * 104729) % 998244353 ∧ (sr1.mixed + (sr1.turn + 1) * 104729) % 998244353 < 998244353 := ⟨Int.emod_nonneg _ (by decide), Int.emod_lt_of_pos _ (by decide)⟩
    generalize hmx : (sr1.mixed + (sr1.turn + 1) * 104729) % 998244353 = mx at r1
    have m3 : mulFits mx mx = true := mulFits_r (by unfold smallI; simp only [Bool.and_eq_true, decide_eq_true_eq]; omega)
    have h6 : cSrcSet 0 putTurn (cBinE dAdd (cSrcG 0 Src.turn) (vE (cD (.int 1)))) ⟨[some .src, some (.sh (.int many)), some (.sh (.int sr1.left)), none], some sr1⟩ = .ok .nx ⟨[some .src, some (.sh (.int many)), some (.sh (.int sr1.left)), none], some (putTurn sr1 (sr1.turn + 1))⟩ := rfl
    have h7 : cAsg (cBinE dMod (cCall1 dInt (vE (cBinE dAdd (cSrcG 0 Src.mixed) (vE (cBinE dMul (cSrcG 0 Src.turn) (vE (cD (.int 104729)))))))) (vE (cD (.int 998244353)))) (gNm 3) ⟨[some .src, some (.sh (.int many)), some (.sh (.int sr1.left)), none], some (putTurn sr1 (sr1.turn + 1))⟩ = .ok .nx ⟨[some .src, some (.sh (.int many)), some (.sh (.int sr1.left)), some (.sh (.int mx))], some (putTurn sr1 (sr1.turn + 1))⟩ := by
      subst hmx
      simp only [cAsg, cBinE, cSrcG, vE, cD, cCall1, SV.dat, dMul, dAdd, dInt, dMod, putTurn, m1, if_true, bnd_ok, opt_some, gNm, List.getElem?_cons_zero, List.getElem?_cons_succ, List.set_cons_zero, List.set_cons_succ]
      rfl
    have h8 : cAsg (cBinE dMod (cCall1 dInt (vE (cBinE dAdd (cBinV dMul 3 (cVarV 3)) (vE (cBinE dMul (cSrcG 0 Src.turn) (vE (cD (.int 17)))))))) (vE (cD (.int 2147483647)))) (gNm 3) ⟨[some .src, some (.sh (.int many)), some (.sh (.int sr1.left)), some (.sh (.int mx))], some (putTurn sr1 (sr1.turn + 1))⟩ = .ok .nx ⟨[some .src, some (.sh (.int many)), some (.sh (.int sr1.left)), some (.sh (.int ((mx * mx + (sr1.turn + 1) * 17) % 2147483647)))], some (putTurn sr1 (sr1.turn + 1))⟩ := by
      simp only [cAsg, cBinE, cBinV, cVarV, cSrcG, vE, cD, cCall1, datAt, SV.dat, dMul, dAdd, dInt, dMod, putTurn, m2, m3, if_true, bnd_ok, opt_some, gNm, List.getElem?_cons_zero, List.getElem?_cons_succ, List.set_cons_zero, List.set_cons_succ]
      rfl
    generalize (mx * mx + (sr1.turn + 1) * 17) % 2147483647 = my at h8
    have h9 : cSrcSet 0 putMixed (cVar 3) ⟨[some .src, some (.sh (.int many)), some (.sh (.int sr1.left)), some (.sh (.int my))], some (putTurn sr1 (sr1.turn + 1))⟩ = .ok .nx ⟨[some .src, some (.sh (.int many)), some (.sh (.int sr1.left)), some (.sh (.int my))], some (putMixed (putTurn sr1 (sr1.turn + 1)) my)⟩ := rfl
    have hmp : 0 < many := by omega
    have ha : cRet (cBinE dMod (cCall1 dInt (vE (cBinV dFdiv 3 (vE (cD (.int 16)))))) (cVarV 1)) ⟨[some .src, some (.sh (.int many)), some (.sh (.int sr1.left)), some (.sh (.int my))], some (putMixed (putTurn sr1 (sr1.turn + 1)) my)⟩ = .ok (.ret (.sh (.int (my / 16 % many)))) ⟨[some .src, some (.sh (.int many)), some (.sh (.int sr1.left)), some (.sh (.int my))], some (putMixed (putTurn sr1 (sr1.turn + 1)) my)⟩ := by
      have k1 : (0 : Int) < 16 ∧ (16 : Int).natAbs.log2 < 9000 := by decide
      simp only [cRet, cBinE, cBinV, cVarV, vE, cD, cCall1, datAt, SV.dat, dFdiv, dInt, dMod, k1, hmp, and_self, if_true, bnd_ok, opt_some, List.getElem?_cons_zero, List.getElem?_cons_succ]
    rw [seq_ok h5, seq_ok h6, seq_ok h7, seq_ok h8, seq_ok h9, ha]
    exact ⟨_, _, _, rfl, rfl, ⟨Int.emod_nonneg _ (by omega), .inl (Int.emod_lt_of_pos _ hmp)⟩, hl1⟩
/-- a source as the laws have it -/
def SrcIn (sr : Src) : Prop := sr.cells.length ≤ 63
/-- a call that draws: what it gives -/
def Draws (F : Fd) (as : List SV) (P : SV → Prop) : Prop := ∀ sr, SrcIn sr → ∃ r sr' sl, F as (some sr) = .ok r ⟨sl, some sr'⟩ ∧ P r ∧ SrcIn sr'
theorem Draws.call {n : Nat} {F : Fd} {ga : Ag} {rs : List SV} {s s1 : S} {P : SV → Prop} {sr : Src} (h : Draws F rs P) (ha : ga s = .ok rs s1) (hs : s1.src = some sr) (hi : SrcIn sr) (hn : rs.length = n := by rfl) (ho : okA rs = true := by rfl) : ∃ r sr', cCall n F ga s = .ok r ⟨s1.sl, some sr'⟩ ∧ P r ∧ SrcIn sr' := by
  obtain ⟨r, sr', sl, e, p, i⟩ := h sr hi
  rw [← hs] at e
  exact ⟨r, sr', call_ok ha e hn ho, p, i⟩
theorem pick_draws {many : Int} (hm : many < 2 ^ 62) : Draws F_law_pick [.src, .sh (.int many)] fun r => ∃ v, r = .sh (.int v) ∧ PickIn many v := fun sr hs => by
  obtain ⟨v, sr', ⟨sl, so⟩, e, e2, p, i⟩ := pick_ok many hm sr hs
  have e2 : so = some sr' := e2
  subst e2
  exact ⟨_, sr', sl, e, ⟨v, rfl, p⟩, i⟩
theorem of_draws {xs : List D} (h0 : xs ≠ []) (h1 : xs.length ≤ 1000) : Draws F_law_of [.src, .sh (.list xs)] fun r => ∃ x ∈ xs, r = .sh x := fun sr hs => by
  have hp : 0 < xs.length := List.length_pos_iff.mpr h0
  obtain ⟨r, sr', e, ⟨v, ev, pv⟩, i⟩ := (pick_draws (many := (xs.length : Int)) (by omega)).call (n := 2) (ga := cCons (cVar 0) (cCons (cCall1 dLen (cVarV 1)) cNil)) (s := ⟨[some .src, some (.sh (.list xs))], some sr⟩) (s1 := ⟨[some .src, some (.sh (.list xs))], some sr⟩) rfl rfl hs
  subst ev
  obtain ⟨p0, p1⟩ := pv
  have hv : v.toNat < xs.length := by omega
  refine ⟨.sh xs[v.toNat], sr', [some .src, some (.sh (.list xs))], ?_, ⟨_, List.getElem_mem hv, rfl⟩, i⟩
  have g0 : (⟨padS 2 [.src, .sh (.list xs)], some sr⟩ : S) = ⟨[some .src, some (.sh (.list xs))], some sr⟩ := rfl
  unfold F_law_of runFn m_law_of cRet cBinV vE
  rw [g0]
  simp only [e, List.getElem?_cons_zero, List.getElem?_cons_succ, bnd_ok, datAt, SV.dat, dIx, atI_int p0 hv, Option.map_some, opt_some]
end Law
end Pw
set_option Elab.async false
set_option linter.all false
set_option maxRecDepth 100000
namespace Pw
open PySem PySem.Spec PyProof.Rows L2
/-! ### what can be shown and compared -/
structure Nice (d : D) (k n : Nat) : Prop where
  sh : d.showable = true
  nd : d.hasDict = false
  pl : d.plain = true
  dp : d.depth ≤ k
  ln : d.shown.length ≤ n
theorem Nice.mono {d : D} {k k' n n' : Nat} (h : Nice d k n) (hk : k ≤ k') (hn : n ≤ n') : Nice d k' n' := ⟨h.sh, h.nd, h.pl, Nat.le_trans h.dp hk, Nat.le_trans h.ln hn⟩
theorem piled_le {n : Nat} : ∀ {ts : List Str}, (∀ t ∈ ts, t.length ≤ n) → piled ts ≤ ts.length * (n + 2)
  | [], _ => by simp [piled]
  | t :: ts, h => by
    have ih := piled_le (n := n) (ts := ts) fun t ht => h t (List.mem_cons_of_mem _ ht)
    have h0 := h t List.mem_cons_self
    rw [piled_cons, List.length_cons, Nat.succ_mul]
    omega
theorem tupleText_le (ts : List Str) : (tupleText ts).length ≤ piled ts + 4 := by
  unfold tupleText
  rw [Str.length_append, Str.length_append]
  have h1 : (("(" : Str)).length = 1 := by decide
  have h2 : ((if ts.length == 1 then ",)" else ")" : String) : Str).length ≤ 2 := by split <;> decide
  by_cases h : ts = []
  · subst h
    have : (Str.join ", " []).length = 0 := by decide
    omega
  · have := join_length_add ts h
    omega
theorem listText_le : ∀ (ts : List Str), (listText ts).length ≤ piled ts + 4
  | [] => by decide
  | t :: r => by
    have h := textFrom_length_pos r 1 (("[" : Str) ++ (if (0 : Nat) > 0 then ", " else "" : String) ++ t) (Nat.succ_pos 0)
    have hY : listText (t :: r) = textFrom 1 (("[" : Str) ++ (if (0 : Nat) > 0 then ", " else "" : String) ++ t) r ++ "]" := rfl
    have h3 : (("[" : Str) ++ (if (0 : Nat) > 0 then ", " else "" : String)).length = 1 := by decide
    have h4 : (("]" : Str)).length = 1 := by decide
    rw [hY, Str.length_append, h, Str.length_append, h3, h4]
    rw [piled_cons]
    omega
theorem all_show : ∀ {ds : List D} {k n : Nat}, (∀ d ∈ ds, Nice d k n) → PyData.showableAll ds = true ∧ PyData.hasDictAll ds = false ∧ PyData.plainAll ds = true ∧ PyData.depthAll ds ≤ k ∧ (∀ t ∈ PyData.shownAll ds, t.length ≤ n) ∧ (PyData.shownAll ds).length = ds.length
  | [], k, n, _ => ⟨rfl, rfl, rfl, Nat.zero_le _, by simp [PyData.shownAll], rfl⟩
  | d :: ds, k, n, h => by
    obtain ⟨h1, h2, h3, h4, h5, h6⟩ := all_show (ds := ds) fun x hx => h x (List.mem_cons_of_mem _ hx)
    have h0 := h d List.mem_cons_self
    refine ⟨by simp [PyData.showableAll, h0.sh, h1], by simp [PyData.hasDictAll, h0.nd, h2], by simp [PyData.plainAll, h0.pl, h3], ?_, ?_, by simp [PyData.shownAll, h6]⟩
    · simp only [PyData.depthAll]
      exact Nat.max_le.mpr ⟨h0.dp, h4⟩
    · intro t ht
      simp only [PyData.shownAll, List.mem_cons] at ht
      rcases ht with rfl | ht
      · exact h0.ln
      · exact h5 t ht
theorem Nice.tuple {ds : List D} {k n : Nat} (h : ∀ d ∈ ds, Nice d k n) : Nice (.tuple ds) (k + 1) (ds.length * (n + 2) + 4) := by
  obtain ⟨h1, h2, h3, h4, h5, h6⟩ := all_show h
  refine ⟨by simpa [PyData.showable] using h1, by simpa [PyData.hasDict] using h2, by simpa [PyData.plain] using h3, by simpa [PyData.depth] using h4, ?_⟩
  have a := tupleText_le (PyData.shownAll ds)
  have b := piled_le h5
  rw [h6] at b
  simp only [PyData.shown]
  omega
theorem Nice.list {ds : List D} {k n : Nat} (h : ∀ d ∈ ds, Nice d k n) : Nice (.list ds) (k + 1) (ds.length * (n + 2) + 4) := by
  obtain ⟨h1, h2, h3, h4, h5, h6⟩ := all_show h
  refine ⟨by simpa [PyData.showable] using h1, by simpa [PyData.hasDict] using h2, by simpa [PyData.plain] using h3, by simpa [PyData.depth] using h4, ?_⟩
  have a := listText_le (PyData.shownAll ds)
  have b := piled_le h5
  rw [h6] at b
  simp only [PyData.shown]
  omega
theorem Nice.int {i : Int} {m : Nat} (h0 : 0 ≤ i) (h : i < 10 ^ m) (hm : 0 < m) (h5 : m ≤ 500) : Nice (.int i) 0 m := by
  have hl : i.natAbs.log2 < 1920 := by
    have h1 : i.natAbs < 10 ^ m := by
      have : ((10 ^ m : Nat) : Int) = 10 ^ m := by simp
      omega
    have h2 : (10 : Nat) ^ m ≤ 2 ^ 1920 := Nat.le_trans (Nat.pow_le_pow_right (by decide) h5) (by decide +kernel)
    by_cases hz : i.natAbs = 0
    · rw [hz]; decide
    · exact (Nat.log2_lt hz).mpr (Nat.lt_of_lt_of_le h1 h2)
  exact ⟨by simpa [PyData.showable] using hl, rfl, rfl, Nat.le_refl _, by simp only [PyData.shown]; exact PyProof.Rows.toString_length_le h0 hm h⟩
theorem Nice.str {x : Str} {n : Nat} (h : (PyData.shown (.str x)).length ≤ n) : Nice (.str x) 0 n := ⟨rfl, rfl, rfl, Nat.le_refl _, h⟩
theorem Nice.repr {d : D} {k n : Nat} (h : Nice d k n) (hk : k ≤ 40) (hn : n ≤ 16000000) : dRepr d = some (.sh (.str d.shown)) := by
  unfold dRepr
  rw [if_pos ⟨h.sh, h.nd, Nat.le_trans h.dp hk, by have := h.ln; rw [sizeLine_eq]; omega⟩]
theorem Nice.eq {a b : D} {k n k' n' : Nat} (h : Nice a k n) (h' : Nice b k' n') (hk : k ≤ 40) : dEq a b = some (.sh (.bool (PyData.eqv a b))) := by
  unfold dEq eqOk
  rw [h.pl, h'.pl, decide_eq_true (Nat.le_trans h.dp hk)]
  rfl
theorem Nice.ne {a b : D} {k n k' n' : Nat} (h : Nice a k n) (h' : Nice b k' n') (hk : k ≤ 40) : dNe a b = some (.sh (.bool (!PyData.eqv a b))) := by
  unfold dNe eqOk
  rw [h.pl, h'.pl, decide_eq_true (Nat.le_trans h.dp hk)]
  rfl
theorem Nice.refl {a : D} {k n : Nat} (h : Nice a k n) : PyData.eqv a a = true := PySem.SeqAt.eqv_refl_plain a h.pl
end Pw
set_option Elab.async false
set_option linter.all false
set_option maxRecDepth 100000
namespace Pw
open PySem PySem.Spec PyProof.Rows L2
/-! ### *e in displays -/
section
variable {X : Cx} {Z : Zx} {W : WX} {o e a b : Expr} {es : List Expr} {f fa : Ev} {fb : Vw} {g ga : Ag} {i : Nat} {x : Str} {p p1 p2 p3 pos pos' : Pos} {H : Hp} {σ : L2.St} {T : List Ent} {s : S} {L : List Ent} {src : Option Src} {O : Addr → Prop} {v : V}
def cStar (f : Ev) (g : Ag) : Ag := fun s => (f s).bind fun r s1 => match r.settle with
  | .sh (.list ds) => (g s1).bind fun rs s2 => .ok (ds.map .sh ++ rs) s2
  | .sh (.tuple ds) => (g s1).bind fun rs s2 => .ok (ds.map .sh ++ rs) s2
  | _ => .err
theorem ents_app : ∀ {vs ws : List V} {rs ts : List SV}, vs.length = rs.length → ents (vs ++ ws) (rs ++ ts) = ents vs rs ++ ents ws ts
  | [], ws, [], ts, _ => rfl
  | v :: vs, ws, r :: rs, ts, h => by
    have := ents_app (vs := vs) (ws := ws) (rs := rs) (ts := ts) (by simpa using h)
    simp only [ents, List.cons_append, List.map_cons, List.zip_cons_cons] at this ⊢
    rw [this]
  | [], _, _ :: _, _, h => by simp at h
  | _ :: _, _, [], _, h => by simp at h
theorem star_fin {xs : List V} {ds : List D} {d : D} {Q : List V → Hp → Prop} (ra : RpA Z.K H O xs ds) (R0 : RelO Z H s.src ((some v, some (.sh d)) :: (T ++ List.zip σ s.sl)) O) (hl : σ.length = s.sl.length)
    (q : ((g s).bind fun rs s2 => .ok (ds.map .sh ++ rs) s2).sat (fun rs s' => ∀ vs H', vs.length = rs.length → RelS Z H' σ (ents vs rs ++ T) s' → Q vs H') (ExP Z σ T W)) : LA Z W g σ H fun ys H2 => Q (xs ++ ys) H2 := by
  have hlen : xs.length = (ds.map SV.sh).length := by rw [ra.length, List.length_map]
  refine ⟨(ents xs (ds.map .sh) ++ [(some v, some (.sh d))]) ++ T, s, ⟨hl, O, ?_⟩, Res.sat_mono (Res.sat_bind.mp q) (fun rs s2 q ys H2 hl2 R2 => ?_) fun e s h => h.less _⟩
  · have := R0.pushN (rel_ents ra)
    simpa using this
  · refine q (xs ++ ys) H2 (by simp [hlen, hl2]) ?_
    rw [ents_app hlen]
    have R3 : RelS Z H2 σ ([(some v, some (.sh d))] ++ ((ents xs (ds.map .sh) ++ ents ys rs) ++ T)) s2 := R2.perm (by
      have e : ents ys rs ++ (ents xs (ds.map .sh) ++ [(some v, some (.sh d))] ++ T) = (ents ys rs ++ ents xs (ds.map .sh)) ++ (some v, some (.sh d)) :: T := by simp
      rw [e]
      refine (List.perm_middle).trans ?_
      exact ((List.perm_append_comm).append_right T).cons _)
    exact RelS.popN R3
theorem snA_star (h : SnE X Z W e f) (hr : SnA X Z W es g) (hs : starEach (.Starred e p :: es) X.env = (true, eval e X.env) :: starEach es X.env := by rfl) : SnA X Z W (.Starred e p :: es) (cStar f g) := fun k => pa_imp (StX.pa_star (h k) (hr k) hs) fun σ H Q ⟨T, s, R, q⟩ => by
  refine ⟨T, s, R, Res.sat_mono (Res.sat_bind.mp q) (fun r s1 q v H1 R1 => ?_) fun e s h => h⟩
  have R1 := R1.settleAny
  split at q
  · rename_i ds e
    rw [e] at R1
    obtain ⟨O, R0⟩ := id R1.2
    obtain ⟨a, xs, e1, ha, ra⟩ := R0.list (v := v) (ds := ds) ⟨.sh (.list ds), by simp, rfl⟩
    exact ⟨a, xs, e1, .inr (SqL.of ha), star_fin ra R0 R1.1 q⟩
  · rename_i ds e
    rw [e] at R1
    obtain ⟨O, R0⟩ := id R1.2
    obtain ⟨a, xs, e1, ha, ra⟩ := R0.tuple (v := v) (ds := ds) ⟨.sh (.tuple ds), by simp, rfl⟩
    exact ⟨a, xs, e1, .inl (k ▸ ha), star_fin ra R0 R1.1 q⟩
  · exact q.elim
/-! ### slices, whole ones too -/
def dSl2 (d : D) (lo hi : Option Int) : Option SV := match d with
  | .list ds => some (.own (.list (cutD ds lo hi)))
  | .tuple ds => some (.sh (.tuple (cutD ds lo hi)))
  | .str z => if z.length ≤ sizeLine then some (.sh (.str (Txt.slice z lo hi))) else none
  | _ => none
def rSlD2 (K : PySem.W.Frag) : V → Option Int → Option Int → Hp → VK → Prop := fun x lo hi H Q => ∃ Z src L d r, Z.K = K ∧ Rel Z H src L ∧ Has L x d ∧ dSl2 d lo hi = some r ∧ ∀ v H', Rel Z H' src ((some v, some r) :: L) → Q v H'
theorem cut_whole {ds : List D} {lo hi : Option Int} (h : HT.sIx ds.length 0 lo = 0 ∧ HT.sIx ds.length ds.length hi = ds.length) : cutD ds lo hi = ds := by
  unfold cutD
  rw [h.1, h.2]
  simp
theorem slR2 : SlR X (rSlD2 X.K) := by
  intro pins s σ H x v vl vu lo hi sl Q I rx hs pl pu h
  obtain ⟨Z, src, L, d, r, hK, R, hx, e, q⟩ := h
  obtain ⟨O, R0⟩ := id R
  unfold dSl2 at e
  split at e
  · cases e
    obtain ⟨c, xs, e1, hc, ra⟩ := R0.list hx
    refine sl_list pins s σ H x v vl vu lo hi sl Q I rx hs pl pu ⟨c, xs, e1, SqL.of hc, fun p hp => q _ _ (R.newListOf hp fun O' R' => ?_)⟩
    obtain ⟨c', xs', e1', hc', ra'⟩ := R'.list hx
    rw [e1] at e1'
    cases e1'
    rw [hc] at hc'
    cases hc'
    exact cut_rp ra'
  · cases e
    obtain ⟨c, xs, e1, hc, ra⟩ := R0.tuple hx
    rw [hK] at hc
    refine sl_tupA pins s σ H x v vl vu lo hi sl Q I rx hs pl pu ⟨c, xs, e1, hc, fun hw => ?_, fun _ p hp => q _ _ (R.newTup hp fun O' R' => ?_)⟩
    · rw [ra.length] at hw
      rw [cut_whole hw] at q
      subst e1
      exact q _ _ (R0.shOf hx fun _ z => z)
    · obtain ⟨c', xs', e1', hc', ra'⟩ := R'.tuple hx
      rw [hK] at hc'
      rw [e1] at e1'
      cases e1'
      have := I.tuple_inj hc hc'
      subst this
      exact cut_rp ra'
  · split at e
    · rename_i hz
      cases e
      exact C8.sl_txt pins s σ H x v vl vu lo hi sl Q I rx hs pl pu ⟨_, R0.str hx, hz, q _ _ (R.str _)⟩
    · cases e
  · cases e
def cSlE2 (f : Ev) (lo hi : Option Vw) : Ev := fun s => (f s).bind fun r s1 => (bnd lo s1).bind fun l s2 => (bnd hi s2).bind fun h s3 => match r.dat with
  | some d => Res.opt (dSl2 d l h) s3
  | none => .err
def cSlV2 (i : Nat) (lo hi : Option Vw) : Ev := fun s => match datAt s i with
  | some _ => (bnd lo s).bind fun l s2 => (bnd hi s2).bind fun h s3 => match datAt s3 i with
    | some d => Res.opt (dSl2 d l h) s3
    | none => .err
  | none => .err
theorem snE_slE2 {lo hi : Option Expr} {l h : Option Vw} (ha : SnE X Z W e fa) (hl : SnO X Z W lo l) (hh : SnO X Z W hi h) : SnE X Z W (.Subscript e (.Slice lo hi none p2) pos) (cSlE2 fa l h) := fun k => pe_imp (pe_slice slR2 (ha k) (po_of hl k) (po_of hh k)) fun σ H Q ⟨T, s, R, q⟩ => by
  refine ⟨T, s, R, Res.sat_mono (Res.sat_bind.mp q) (fun r s1 q v H1 R1 => ?_) fun e s h => h⟩
  refine ⟨_, s1, R1, Res.sat_mono (Res.sat_bind.mp q) (fun l s2 q H2 R2 => ?_) fun e s h => exP_popT h⟩
  refine ⟨_, s2, R2, Res.sat_mono (Res.sat_bind.mp q) (fun h s3 q H3 R3 => ?_) fun e s h => exP_popT h⟩
  split at q
  · rename_i d ed
    obtain ⟨r', er, q⟩ := sat_opt q
    exact ⟨Z, s3.src, _, d, r', k.symm, R3.2, ⟨r, by simp, ed⟩, er, fun w H' R' => q w H' ⟨R3.1, (Rel.perm R' (List.Perm.swap _ _ _)).pop⟩⟩
  · exact q.elim
theorem snE_slV2 {lo hi : Option Expr} {l h : Option Vw} (ho : PE X e (tVar i)) (hl : SnO X Z W lo l) (hh : SnO X Z W hi h) : SnE X Z W (.Subscript e (.Slice lo hi none p2) pos) (cSlV2 i l h) := fun k => pe_imp (pe_slice slR2 ho (po_of hl k) (po_of hh k)) fun σ H Q ⟨T, s, R, q⟩ => by
  unfold cSlV2 at q
  split at q
  · rename_i d0 e0
    obtain ⟨v, hv, _⟩ := R.datAt e0
    refine ⟨v, hv, T, s, R, Res.sat_mono (Res.sat_bind.mp q) (fun l s2 q H2 R2 => ?_) fun e s h => h⟩
    refine ⟨T, s2, R2, Res.sat_mono (Res.sat_bind.mp q) (fun h s3 q H3 R3 => ?_) fun e s h => h⟩
    split at q
    · rename_i d ed
      obtain ⟨r', er, q⟩ := sat_opt q
      obtain ⟨v', hv', hm⟩ := R3.datAt ed
      rw [hv] at hv'
      cases hv'
      exact ⟨Z, s3.src, _, d, r', k.symm, R3.2, hm, er, fun w H' R' => q w H' ⟨R3.1, R'⟩⟩
    · exact q.elim
  · exact q.elim
/-! ### order of texts, too -/
def strLe (a b : Str) : Bool := !decide (b.cps.toList < a.cps.toList)
abbrev dLe2 := dOrd (fun i j => decide (i ≤ j)) strLe
theorem opR_le2 : OpR X (compareOp .LtE) (rD X.K dLe2) := opR_ord op_le op_le_str
abbrev dGe2 := dOrd (fun i j => decide (j ≤ i)) fun a b => strLe b a
theorem opR_ge2 : OpR X (compareOp .GtE) (rD X.K dGe2) := opR_ord op_ge op_ge_str
end
/-! ### t * 1 -/
section
variable {X : Cx}
theorem tuple_mulOne (l : Addr) (items : Array Value) (n : Nat) (dd : Option Addr) (sl : Array (Option Value)) (u : Tok) :
    Meets (Builtin.«tuple.__mul__» ⟨[.ref l, .int 1 u], []⟩) (fun _ R s => s.heap.get? l = some { cls := .type "tuple", dict := dd, data := .seq items n, slots := sl } ∧ R (.ok (.ret (Value.ref l))) s) :=
  .of_wp fun prog w A R s h => by
    obtain ⟨hp, g, d, tk, os⟩ := s
    obtain ⟨hl, h⟩ := h
    have f1 := AutoSeq1.idx_int
    have c1 : (items.isEmpty || (1 : Int) == 1) = true := by simp
    wp_walk using wpAny_loadPart' hl
    repeat (first
      | (refine wpAny_ite_false (decide_eq_false (by decide)) ?_; wp_walk using wpAny_loadPart' hl)
      | (refine wpAny_ite_true (decide_eq_true c1) ?_; wp_walk using wpAny_loadPart' hl))
    all_goals first | exact ⟨_, rfl, h⟩ | skip
def rRepOne (K : PySem.W.Frag) : R2 := fun x y H Q => ∃ l xs, x = .ref l ∧ y = .int 1 ∧ SqT K H l xs ∧ Q (.ref l) H
theorem op_repOne : OpR X (binaryOp .Mult) (rRepOne X.K) := by
  intro pins s σ H x y v u Q I rx ry h
  obtain ⟨l, xs, rfl, rfl, hT, q⟩ := h
  cases rx
  obtain ⟨t, rfl⟩ := ry
  obtain ⟨its, r, ⟨⟨cls, dd, data, sl⟩, ho, hc, n, hd⟩, hs⟩ := I.tuple hT
  simp only at hc hd
  subst hc hd
  exact wpAny_binaryOp_repeat_ref (T := "tuple") (U := "int") (by decide) ⟨_, ho, rfl⟩ (fun s' => typeIs_int s' 1 t) noFill_tuple_mul F.fills_int_mul F.slot_int_rmul repeat_tuple F.slot_int_index.lookup
    (call_meets F.slot_int_rmul (typeIs_int s 1 t) F.entry_int_rmul (F.args_int_rmul_2 _ _) (int_rmul_tuple 1 t l its.toArray n dd sl)
      ⟨ho, rfl, ⟨_, ho, rfl⟩, call_meets F.slot_tuple_mul ⟨_, ho, rfl⟩ F.entry_tuple_mul (F.args_tuple_mul_2 _ _) (tuple_mulOne l its.toArray n dd sl t) ⟨ho, ⟨.ref l, H, I, rfl, q⟩⟩⟩)
def dMul2r : D → D → Option SV
  | .tuple xs, .int k => if k = 1 then some (.sh (.tuple xs)) else dMul (.tuple xs) (.int k)
  | a, b => dMul a b
theorem opR_mul2r : OpR X (binaryOp .Mult) (rD X.K dMul2r) := by
  intro pins s σ H x y v u Q I rx ry h
  obtain ⟨Z, src, L, d1, d2, r, hK, R, h1, h2, e, q⟩ := h
  have old : dMul d1 d2 = some r → wpAny (model X.prog X.w) X.A (binaryOp .Mult v u) (EP X pins σ Q) X.xe s := fun e => opR_mul pins s σ H x y v u Q I rx ry ⟨Z, src, L, d1, d2, r, hK, R, h1, h2, e, q⟩
  unfold dMul2r at e
  split at e
  · split at e
    · rename_i hk
      cases e
      obtain ⟨O, R0⟩ := id R
      obtain ⟨a, xs, e1, ha, ra⟩ := R0.tuple h1
      subst hk
      rw [hK] at ha
      subst e1
      exact op_repOne pins s σ H _ y v u Q I rx ry ⟨a, xs, rfl, R0.int h2, ha, q _ _ (R0.shOf h1 fun _ z => z)⟩
    · exact old e
  · exact old e
end
/-! ### the same, its tests never looked into by the kernel -/
noncomputable def ifc {α : Type} (p : Prop) (a b : α) : α := @ite α p (Classical.propDecidable p) a b
theorem ifc_eq {α : Type} (p : Prop) [h : Decidable p] (a b : α) : ifc p a b = if p then a else b := by
  unfold ifc
  congr
theorem ifc_pos {α : Type} {p : Prop} {a b : α} (h : p) : ifc p a b = a := by
  unfold ifc
  exact if_pos h
noncomputable def dMul2 : D → D → Option SV
  | .int i, .int j => ifc (mulFits i j = true) (some (.sh (.int (i * j)))) none
  | .list xs, .int k => ifc (-(2 ^ 63) ≤ k ∧ k < 2 ^ 63 ∧ xs.length * k.toNat ≤ sizeLine) (some (.own (.list (List.replicate k.toNat xs).flatten))) none
  | .tuple xs, .int k => ifc (k = 1) (some (.sh (.tuple xs))) (ifc (xs ≠ [] ∧ 2 ≤ k ∧ k ≤ 1000 ∧ xs.length ≤ 1000) (some (.sh (.tuple (List.replicate k.toNat xs).flatten))) none)
  | .str x, .int k => ifc (0 ≤ k ∧ k ≤ 100000 ∧ x.length ≤ 100) (some (.sh (.str (Txt.mul x k)))) none
  | _, _ => none
theorem dMul2_eq : dMul2 = dMul2r := by
  funext a b
  cases a <;> cases b <;> first | rfl | (simp only [dMul2, dMul2r, dMul, ifc_eq])
section
variable {X : Cx}
theorem opR_mul2 : OpR X (binaryOp .Mult) (rD X.K dMul2) := by
  rw [dMul2_eq]
  exact opR_mul2r
end
end Pw
set_option Elab.async false
set_option linter.all false
set_option maxRecDepth 100000
namespace Pw
open PySem PySem.Spec PyProof.Rows L2
/-! ### t[::-1] -/
section
variable {prog : Program} {w : World} {A : Around} {E : Value → Shared → Prop} {s : Shared}
theorem sliceApplied_rev {sl : Addr} {vl vu vs : Value} {n : Nat} {Q : Int × Int × Nat → Shared → Prop} (hs : s.heap.IsSliceOf sl vl vu vs) (pl : IsPart vl none) (pu : IsPart vu none) (ps : IsPart vs (some (-1)))
    (h : Q ((n : Int) - 1, -1, n) s) : wpAny (model prog w) A (Builtin.Slice.sliceApplied (.ref sl) (pure (n : Int))) Q E s := by
  obtain ⟨os, hos, hcs, hds⟩ := id hs
  unfold Builtin.Slice.sliceApplied Builtin.Slice.sliceFields
  refine wpAny_bind (wpAny_bind (wpAny_field hos hds (x := vl) rfl (wpAny_bind (wpAny_field hos hds (x := vu) rfl (wpAny_bind (wpAny_field hos hds (x := vs) rfl (wpAny_pure ?_)))))))
  refine wpAny_bind (HT.slicePart_ ps ?_)
  show wpAny _ _ (if ((-1 : Int) == 0) = true then _ else _) _ _ s
  rw [if_neg (by decide)]
  refine wpAny_bind (HT.slicePart_ pl (wpAny_bind (HT.slicePart_ pu (wpAny_bind (wpAny_pure ?_)))))
  have e1 : Builtin.Slice.sliceAdjust none none (-1) (n : Int) = ((n : Int) - 1, -1) := rfl
  have e2 : Builtin.Slice.slicePlaces ((n : Int) - 1) (-1) (-1) = n := by
    unfold Builtin.Slice.slicePlaces
    have h1 : ¬ ((-1 : Int) > 0) := by decide
    simp only [h1, if_false]
    rw [show (- -1 : Int) = 1 by decide, Int.ediv_one]
    split <;> omega
  show wpAny _ _ (match Builtin.Slice.sliceAdjust none none (-1) (n : Int) with | (lo, hi) => pure (lo, (-1 : Int), Builtin.Slice.slicePlaces lo hi (-1))) _ _ s
  rw [e1]
  show wpAny _ _ (pure ((n : Int) - 1, (-1 : Int), Builtin.Slice.slicePlaces ((n : Int) - 1) (-1) (-1))) _ _ s
  rw [e2]
  exact wpAny_pure h
theorem pick_rev (xs : Array Value) : ((List.range xs.size).filterMap fun (m : Nat) => xs[(((xs.size : Int) - 1) + (m : Int) * -1).toNat]?).toArray = xs.toList.reverse.toArray := by
  congr 1
  apply List.ext_getElem?
  intro i
  have hm : ∀ m ∈ List.range xs.size, (fun (m : Nat) => xs[(((xs.size : Int) - 1) + (m : Int) * -1).toNat]?) m = some ((xs.toList.reverse)[m]?.getD .none) := by
    intro m hm
    have hm := List.mem_range.mp hm
    have e : (((xs.size : Int) - 1) + (m : Int) * -1).toNat = xs.size - 1 - m := by omega
    show xs[(((xs.size : Int) - 1) + (m : Int) * -1).toNat]? = _
    rw [e, List.getElem?_reverse (by simpa using hm)]
    have h2 : xs.size - 1 - m < xs.size := by omega
    simp [h2]
  have : ∀ (l : List Nat) (f : Nat → Option Value) (g : Nat → Value), (∀ m ∈ l, f m = some (g m)) → l.filterMap f = l.map g := by
    intro l
    induction l with
    | nil => intros; rfl
    | cons a l ih =>
      intro f g h
      rw [List.filterMap_cons, h a List.mem_cons_self]
      simp only [List.map_cons]
      rw [ih f g fun m hm => h m (List.mem_cons_of_mem _ hm)]
  rw [this _ _ _ hm, List.getElem?_map]
  by_cases hi : i < xs.size
  · have h2 : i < xs.toList.reverse.length := by simpa using hi
    rw [List.getElem?_range hi, List.getElem?_eq_getElem h2]
    show some (xs.toList.reverse[i]?.getD Value.none) = some _
    rw [List.getElem?_eq_getElem h2]
    rfl
  · rw [List.getElem?_eq_none (by simpa using hi), List.getElem?_eq_none (by simpa using hi)]
    rfl
theorem getItem_tuple_rev {t sl : Addr} {items : Array Value} {vl vu vs : Value} {Q : Value → Shared → Prop} (ht : PyProof.Rows.IsTup s.heap t items) (hs : s.heap.IsSliceOf sl vl vu vs) (pl : IsPart vl none) (pu : IsPart vu none) (ps : IsPart vs (some (-1)))
    (h : Q (.ref s.heap.objs.size) { s with heap := s.heap.push { cls := .type "tuple", data := .seq items.toList.reverse.toArray } })
    (hsz : items.size ≤ sizeLine) : wpAny (model prog w) A (getItem (.ref t) (.ref sl)) Q E s := by
  have htake : sizeOk (.seq items.toList.reverse.toArray) := by
    show (items.toList.reverse.toArray).size ≤ sizeLine
    simpa using hsz
  obtain ⟨os, hos, hcs, hds⟩ := id hs
  have hTs : s.TypeIs (.ref sl) "slice" := ⟨os, hos, hcs⟩
  unfold getItem
  try with_reducible refine wpAny_holding ?_
  first | refine wpAny_bind (wpAny_pure ?_) | skip
  refine wpAny_bind (wpAny_sequenceKey ht.typeIs (by decide) ?_)
  refine wpAny_bind (wpAny_callSpecial?_slot (name := Str.ofString "__getitem__") ht.typeIs PyProof.Rows.slot_tuple_getitem
    (wpAny_call_entry PyProof.Rows.slot_tuple_getitem ht.typeIs entry_tuple_getitem ?_ (args_tuple_getitem _ _)))
  show wpAny _ _ (Builtin.Tuple.tupleItemsOf (.ref t) >>= _) _ _ s
  refine wpAny_bind (tupleItemsOf_ ht ?_)
  refine wpAny_bind (wpAny_typeOf hTs ?_)
  rw [if_pos (by decide)]
  refine wpAny_bind (sliceApplied_rev hs pl pu ps ?_)
  have hno : ¬ ((((items.size : Int) - 1) == 0 && (-1 : Int) == 1 && items.size == items.size) = true) := by
    intro q
    rw [Bool.and_eq_true, Bool.and_eq_true] at q
    exact absurd q.1.2 (by decide)
  show wpAny _ _ (if (((items.size : Int) - 1) == 0 && (-1 : Int) == 1 && items.size == items.size) = true then _ else _) _ _ s
  rw [if_neg hno, pick_rev]
  first
    | exact wpAny_bind (m := Builtin.Tuple.tupleExact _) (wpAny_newObj_type (wpAny_pure ⟨_, rfl, wpAny_pure h⟩) htake)
    | exact wpAny_bind (m := Builtin.Tuple.tupleExact _) (wpAny_newObj_type (wpAny_bind (wpAny_pure (wpAny_pure ⟨_, rfl, wpAny_pure h⟩))) htake)
    | exact wpAny_bind (wpAny_bind (m := Builtin.Tuple.tupleExact _) (wpAny_newObj_type (wpAny_pure (wpAny_pure ⟨_, rfl, wpAny_pure h⟩)) htake))
    | exact wpAny_bind (wpAny_bind (m := Builtin.Tuple.tupleExact _) (wpAny_newObj_type (wpAny_pure ⟨_, rfl, wpAny_pure h⟩) htake))
end
theorem RelO.newTupO {Z : Zx} {H : Hp} {src : Option Src} {L : List Ent} {O : Addr → Prop} {p : Addr} {vs : List V} {ds : List D} (r : RelO Z H src L O) (hp : H p = none) (hr : RpA Z.K H O vs ds) : Rel Z (upd H p (.tup vs)) src ((some (.ref p), some (.sh (.tuple ds))) :: L) := by
  have k : ∀ b x, H b = some x → upd H p (.tup vs) b = some x := fun b x e => by rw [upd_ne (ne_of_none e hp)]; exact e
  refine ⟨O, (r.new hp).push mild_sh fun s q => ⟨_, rfl, ?_⟩⟩
  cases q
  exact .tup upd_same (r.fresh hp) ((Stp.of_keep k).rpA hr)
section
variable {X : Cx} {Z : Zx} {W : WX} {e : Expr} {fb : Vw} {k : Nat} {p1 p2 p3 pos : Pos} {H : Hp} {σ : L2.St}
def tRevA (K : PySem.W.Frag) (te : TE) : TE := fun σ H Q => te σ H fun x H1 => (∃ a xs, x = .ref a ∧ SqL K H1 a xs ∧ ∀ p, H1 p = none → Q (.ref p) (upd H1 p (.lst xs.reverse))) ∨ ∃ a xs, x = .ref a ∧ SqT K H1 a xs ∧ ∀ p, H1 p = none → Q (.ref p) (upd H1 p (.tup xs.reverse))
theorem pe_revA {te : TE} (he : PE X e te) : PE X (.Subscript e (.Slice none none (some (.UnaryOp .USub (.Constant (.int 1) k p1) p2)) p3) pos) (tRevA X.K te) := by
  refine ⟨fun pins s σ H Q I h => ?_⟩
  refine Subscript_ (thn (he.run pins s σ H _ I h) fun v s1 ⟨x, H1, I1, r1, q1⟩ => ?_)
  have hst : PO X (some (.UnaryOp .USub (.Constant (.int 1) k p1) p2)) (tPart (tUn (rU fun i => .int (-i)) (tC (.int 1)))) := po_some (pe_un un_neg pe_int)
  refine wpAny_Slice (thn (po_none.run pins s1 σ H1 (fun o H2 => o = none ∧ H2 = H1) I1 ⟨rfl, rfl⟩) fun vl s2 ⟨l, H2, I2, pl, el, e2⟩ => ?_)
  subst el e2
  refine thn (po_none.run pins s2 σ H2 (fun o H3 => o = none ∧ H3 = H2) I2 ⟨rfl, rfl⟩) fun vu s3 ⟨u, H3, I3, pu, eu, e3⟩ => ?_
  subst eu e3
  refine thn (hst.run pins s3 σ H3 (fun o H4 => o = some (-1) ∧ H4 = H3) I3 ⟨1, rfl, -1, rfl, rfl, rfl⟩) fun vs s4 ⟨o, H4, I4, ps, eo, e4⟩ => ?_
  subst eo e4
  have I5 : Inv X pins σ H4 { s4 with heap := s4.heap.push { cls := .type "slice", data := .fields #[vl, vu, vs] } } := I4.kept (t' := s4.toks) fun b ob q => Heap.get?_push_of_some _ q
  rcases q1 with ⟨a, xs, ex, hx, q⟩ | ⟨a, xs, ex, hx, q⟩
  · subst ex
    cases r1
    obtain ⟨its, r, ht, hz⟩ := I5.list hx
    have hlen := r.length
    show wpAny (model X.prog X.w) X.A (subscriptTail e (.Slice none none (some (.UnaryOp .USub (.Constant (.int 1) k p1) p2)) p3) (.ref a) (.ref s4.heap.objs.size)) (EP X pins σ Q) X.xe { s4 with heap := s4.heap.push { cls := .type "slice", data := .fields #[vl, vu, vs] } }
    refine tail_any (ops := [.ref a, .ref s4.heap.objs.size]) ht.isList.typeIs (PySem.slot_list_getitem.lookup) ?_ (by with_unfolding_all rfl)
    refine wpAny_getItem_list_slice ht.isList (Heap.IsSliceOf.new _ vl vu vs) pl pu ps (by decide) ?_ (by rw [List.size_toArray]; omega)
    rw [PySem.W.krv_pick]
    refine ⟨.ref _, _, I5.laid (t' := s4.toks) (o := .lst xs.reverse) (fun b ob q => Heap.get?_push_of_some _ q) (Nat.le_refl _) ?_, rfl, q _ (I5.hok.fresh (Nat.le_refl _))⟩
    exact ⟨by rw [List.length_reverse]; exact hz, _, 0, r.reverse, Heap.get?_push_size _ rfl⟩
  · subst ex
    cases r1
    obtain ⟨its, r, ht, hz⟩ := I5.tuple hx
    have hlen := r.length
    show wpAny (model X.prog X.w) X.A (subscriptTail e (.Slice none none (some (.UnaryOp .USub (.Constant (.int 1) k p1) p2)) p3) (.ref a) (.ref s4.heap.objs.size)) (EP X pins σ Q) X.xe { s4 with heap := s4.heap.push { cls := .type "slice", data := .fields #[vl, vu, vs] } }
    refine tail_any (ops := [.ref a, .ref s4.heap.objs.size]) ht.typeIs (PyProof.Rows.slot_tuple_getitem.lookup) ?_ (by with_unfolding_all rfl)
    refine getItem_tuple_rev ht (Heap.IsSliceOf.new _ vl vu vs) pl pu ps ?_ (by rw [List.size_toArray]; omega)
    refine ⟨.ref _, _, I5.laid (t' := s4.toks) (o := .tup xs.reverse) (fun b ob q => Heap.get?_push_of_some _ q) (Nat.le_refl _) ?_, rfl, q _ (I5.hok.fresh (Nat.le_refl _))⟩
    exact ⟨by rw [List.length_reverse]; exact hz, _, r.reverse, IsTup.new _ _⟩
def cRev2 (f : Vw) : Ev := fun s => (f s).bind fun d s1 => match d with
  | .list ds => .ok (.own (.list ds.reverse)) s1
  | .tuple ds => .ok (.sh (.tuple ds.reverse)) s1
  | _ => .err
theorem snE_rev2 (ho : SnV X Z W e fb) : SnE X Z W (.Subscript e (.Slice none none (some (.UnaryOp .USub (.Constant (.int 1) k p1) p2)) p3) pos) (cRev2 fb) := fun kz => pe_imp (pe_revA (ho kz)) fun σ H Q ⟨T, s, R, q⟩ => by
  refine ⟨T, s, R, Res.sat_mono (Res.sat_bind.mp q) (fun d s1 q v H1 T' R1 hv => ?_) fun e s h => h⟩
  split at q
  · obtain ⟨O, R0⟩ := id R1.2
    obtain ⟨c, xs, e1, hc, ra⟩ := R0.list hv
    refine .inl ⟨c, xs, e1, SqL.of hc, fun p hp => q _ _ ⟨R1.1, ?_⟩⟩
    have R2 := R1.2.newListOf hp (xs := xs.reverse) fun O' R' => by
      obtain ⟨c', xs', e1', hc', ra'⟩ := R'.list hv
      rw [e1] at e1'
      cases e1'
      rw [hc] at hc'
      cases hc'
      exact ra'.reverse
    have R3 : Rel Z (upd H1 p (.lst xs.reverse)) s1.src (T' ++ ((some (.ref p), some (.own (.list _))) :: (T ++ List.zip σ s1.sl))) := R2.perm (by rw [List.append_assoc]; exact List.perm_middle.symm)
    exact Rel.popN _ R3
  · obtain ⟨O, R0⟩ := id R1.2
    obtain ⟨c, xs, e1, hc, ra⟩ := R0.tuple hv
    exact .inr ⟨c, xs, e1, kz ▸ hc, fun p hp => q _ _ ⟨R1.1, by
      have R3 : Rel Z (upd H1 p (.tup xs.reverse)) s1.src (T' ++ ((some (.ref p), some (.sh (.tuple _))) :: (T ++ List.zip σ s1.sl))) := (R0.newTupO hp ra.reverse).perm (by rw [List.append_assoc]; exact List.perm_middle.symm)
      exact Rel.popN _ R3⟩⟩
  · exact q.elim
end
end Pw
set_option Elab.async false
set_option linter.all false
set_option maxRecDepth 100000
namespace Pw
open PySem PySem.Spec PyProof.Rows L2
open PySem.W (alike alikeAll minD maxD AlikeAll alike_unique min_list_data min_tuple_data max_list_data max_tuple_data dataLe dataLt sorted_data AllAlike Sortable EachIs)
section
variable {X : Cx} {Z : Zx} {H : Hp} {σ : L2.St} {L : List Ent} {src : Option Src} {O : Addr → Prop}
theorem vals_at : ∀ {vs : List V} {us : List Value} {i : Nat} {u : Value}, Vals vs us → us[i]? = some u → ∃ v, vs[i]? = some v ∧ RelV v u
  | _, _, i, u, .nil, e => by simp at e
  | _, _, 0, u, .cons r _, e => by simp at e; subst e; exact ⟨_, rfl, r⟩
  | _, _, i + 1, u, .cons _ t, e => by
    obtain ⟨v, h1, h2⟩ := vals_at (i := i) t (by simpa using e)
    exact ⟨v, by simpa using h1, h2⟩
theorem rpA_at {K} : ∀ {vs : List V} {ds : List D} {i : Nat} {v : V}, RpA K H O vs ds → vs[i]? = some v → ∃ d, ds[i]? = some d ∧ Rp K H O v d
  | _, _, i, v, .nil, e => by simp at e
  | _, _, 0, v, .cons r _, e => by simp at e; subst e; exact ⟨_, rfl, r⟩
  | _, _, i + 1, v, .cons _ t, e => by
    obtain ⟨d, h1, h2⟩ := rpA_at (i := i) t (by simpa using e)
    exact ⟨d, by simpa using h1, h2⟩
def alikesB (xs : List D) : Bool := xs.all fun x => xs.all fun y => alike x y
def nonesB (xs : List D) : Bool := xs.all fun x => !isNone x
theorem alikes_of {xs : List D} (h : alikesB xs = true) : ∀ x ∈ xs, ∀ y ∈ xs, alike x y = true := fun x hx y hy => by
  unfold alikesB at h
  exact List.all_eq_true.mp (List.all_eq_true.mp h x hx) y hy
theorem nones_of {xs : List D} (h : nonesB xs = true) : ∀ x ∈ xs, x ≠ .none := fun x hx e => by
  have := List.all_eq_true.mp h x hx
  rw [e] at this
  simp [isNone] at this
theorem minD_mem (x : D) (xs : List D) : minD x xs ∈ x :: xs := by
  unfold minD
  induction xs generalizing x with
  | nil => simp
  | cons y ys ih =>
    rw [List.foldl_cons]
    have := ih (if dataLt y x then y else x)
    rcases List.mem_cons.mp this with e | e
    · rw [e]
      split <;> simp
    · exact List.mem_cons_of_mem _ (List.mem_cons_of_mem _ e)
theorem maxD_mem (x : D) (xs : List D) : maxD x xs ∈ x :: xs := by
  unfold maxD
  induction xs generalizing x with
  | nil => simp
  | cons y ys ih =>
    rw [List.foldl_cons]
    have := ih (if dataLt x y then y else x)
    rcases List.mem_cons.mp this with e | e
    · rw [e]
      split <;> simp
    · exact List.mem_cons_of_mem _ (List.mem_cons_of_mem _ e)
def bestOk (xs : List D) : Bool := alikesB xs && nonesB xs && decide (PyData.depthAll xs ≤ 40)
def dMinL : D → Option SV
  | .list (x :: xs) => if bestOk (x :: xs) = true then some (.sh (minD x xs)) else none
  | .tuple (x :: xs) => if bestOk (x :: xs) = true then some (.sh (minD x xs)) else none
  | _ => none
def dMaxL : D → Option SV
  | .list (x :: xs) => if bestOk (x :: xs) = true then some (.sh (maxD x xs)) else none
  | .tuple (x :: xs) => if bestOk (x :: xs) = true then some (.sh (maxD x xs)) else none
  | _ => none
theorem best_fin {pins : List (Addr × Obj)} {s : Shared} {vs : List V} {its : List Value} {ds : List D} {m : D} {Q : VK} {i : Nat} {v : Value} {h' : Heap} {tk : Nat} {bs : List Addr} (I : Inv X pins σ H s) (hK : Z.K = X.K) (R0 : RelO Z H src L O) (ra : RpA Z.K H O vs ds) (rv : Vals vs its) (hal : ∀ x ∈ ds, ∀ y ∈ ds, alike x y = true) (hm : m ∈ ds)
    (hv : its.toArray[i]? = some v) (rdv : Reads h' v m bs) (kp : ∀ b o, s.heap.get? b = some o → h'.get? b = some o) (q : ∀ v H', Rel Z H' src ((some v, some (.sh m)) :: L) → Q v H') : EP X pins σ Q v { s with heap := h', toks := tk } := by
  obtain ⟨w, hw, rw'⟩ := vals_at rv (by simpa using hv)
  obtain ⟨d, hd, rd⟩ := rpA_at ra hw
  obtain ⟨cs, r1⟩ := Rp.reads I (hK ▸ rd) rw'
  have hmem : d ∈ ds := List.mem_of_getElem? hd
  have e : d = m := alike_unique d m v _ _ (hal d hmem m hm) (PyProof.Rows.Reads.keeps kp r1) rdv
  subst e
  exact ⟨w, H, I.kept kp, rw', q _ _ (R0.pushSh rd)⟩
theorem best_of {xs : List D} (h : bestOk xs = true) : AlikeAll xs ∧ PyData.depthAll xs ≤ 40 := by
  unfold bestOk at h
  simp only [Bool.and_eq_true, decide_eq_true_eq] at h
  exact ⟨⟨alikes_of h.1.1, nones_of h.1.2⟩, h.2⟩
theorem call_minL (hc : X.calm = true) (hu : X.A.units + 64 < cLine) : CallR X (.builtin "min") (rC X.K dMinL) := by
  intro pins s σ H xs us Q I rx h
  obtain ⟨Z, src, L, d, r, x, rfl, hK, R, h1, e, q⟩ := h
  obtain ⟨O, R0⟩ := id R
  unfold dMinL at e
  split at e
  · split at e
    · rename_i y ys hz
      cases e
      obtain ⟨hal, hd⟩ := best_of hz
      obtain ⟨a, vs, rfl, ha, ra⟩ := R0.list h1
      obtain ⟨its, rv, hl, hz'⟩ := I.list (SqL.of ha)
      rw [Vals.ref1 rx]
      obtain ⟨as, rd⟩ := RpA.reads I (hK ▸ ra) rv
      exact min_list_data (vs := its.toArray) (I.ok.hd hc) hl.isList (by simpa using rd) hal (by omega) fun i v h' tk bs hv rdv kp => best_fin I hK R0 ra rv hal.1 (minD_mem _ _) hv rdv kp q
    · cases e
  · split at e
    · rename_i y ys hz
      cases e
      obtain ⟨hal, hd⟩ := best_of hz
      obtain ⟨a, vs, rfl, ha, ra⟩ := R0.tuple h1
      rw [hK] at ha
      obtain ⟨its, rv, ht, hz'⟩ := I.tuple ha
      rw [Vals.ref1 rx]
      obtain ⟨as, rd⟩ := RpA.reads I (hK ▸ ra) rv
      exact min_tuple_data (vs := its.toArray) (I.ok.hd hc) ht (by simpa using rd) hal (by omega) fun i v h' tk bs hv rdv kp => best_fin I hK R0 ra rv hal.1 (minD_mem _ _) hv rdv kp q
    · cases e
  · cases e
theorem call_maxL (hc : X.calm = true) (hu : X.A.units + 64 < cLine) : CallR X (.builtin "max") (rC X.K dMaxL) := by
  intro pins s σ H xs us Q I rx h
  obtain ⟨Z, src, L, d, r, x, rfl, hK, R, h1, e, q⟩ := h
  obtain ⟨O, R0⟩ := id R
  unfold dMaxL at e
  split at e
  · split at e
    · rename_i y ys hz
      cases e
      obtain ⟨hal, hd⟩ := best_of hz
      obtain ⟨a, vs, rfl, ha, ra⟩ := R0.list h1
      obtain ⟨its, rv, hl, hz'⟩ := I.list (SqL.of ha)
      rw [Vals.ref1 rx]
      obtain ⟨as, rd⟩ := RpA.reads I (hK ▸ ra) rv
      exact max_list_data (vs := its.toArray) (I.ok.hd hc) hl.isList (by simpa using rd) hal (by omega) fun i v h' tk bs hv rdv kp => best_fin I hK R0 ra rv hal.1 (maxD_mem _ _) hv rdv kp q
    · cases e
  · split at e
    · rename_i y ys hz
      cases e
      obtain ⟨hal, hd⟩ := best_of hz
      obtain ⟨a, vs, rfl, ha, ra⟩ := R0.tuple h1
      rw [hK] at ha
      obtain ⟨its, rv, ht, hz'⟩ := I.tuple ha
      rw [Vals.ref1 rx]
      obtain ⟨as, rd⟩ := RpA.reads I (hK ▸ ra) rv
      exact max_tuple_data (vs := its.toArray) (I.ok.hd hc) ht (by simpa using rd) hal (by omega) fun i v h' tk bs hv rdv kp => best_fin I hK R0 ra rv hal.1 (maxD_mem _ _) hv rdv kp q
    · cases e
  · cases e
/-! ### sorted of alike things -/
def sortableB (xs : List D) : Bool := (xs.all fun d => match d with | .tuple (_ :: _) => true | _ => false) || xs.all fun d => match d with | .none => false | .tuple _ => false | _ => true
def sortD (xs : List D) : List D := xs.mergeSort (dataLe false id)
def dSortedD : D → Option SV
  | .list xs => if (alikesB xs && sortableB xs && decide (PyData.depthAll xs ≤ 40)) = true then some (.own (.list (sortD xs))) else none
  | .tuple xs => if (alikesB xs && sortableB xs && decide (PyData.depthAll xs ≤ 40)) = true then some (.own (.list (sortD xs))) else none
  | .dict ps => if (alikesB (ps.map (·.1)) && sortableB (ps.map (·.1)) && decide (PyData.depthAll (ps.map (·.1)) ≤ 40)) = true then some (.own (.list (sortD (ps.map (·.1))))) else none
  | _ => none
end
end Pw
set_option Elab.async false
set_option linter.all false
set_option maxRecDepth 100000
namespace Pw
open PySem PySem.Spec PyProof.Rows L2
/-! ### calls of what always answers -/
def App (n : Nat) (F : Fd) (as : List SV) (r : SV) : Prop := ∀ s : S, appF n F as s = .ok r s
theorem Rets.app {n : Nat} {F : Fd} {as : List SV} {r : SV} (h : Rets F as r) (hn : as.length = n := by rfl) (ho : okA as = true := by rfl) : App n F as r := fun s => by
  obtain ⟨sl, e⟩ := h s.src
  unfold appF
  rw [if_pos ⟨hn, ho⟩, e]
theorem rets_of {n : Nat} {m : Sm} {as : List SV} {r : SV} (h : ∀ src, ∃ sl, m ⟨padS n as, src⟩ = .ok (.ret r) ⟨sl, src⟩) : Rets (runFn n m) as r := fun src => by
  obtain ⟨sl, e⟩ := h src
  exact ⟨sl, run_ret e⟩
theorem rets_nx {n : Nat} {m : Sm} {as : List SV} (h : ∀ src, ∃ sl, m ⟨padS n as, src⟩ = .ok .nx ⟨sl, src⟩) : Rets (runFn n m) as (.sh .none) := fun src => by
  obtain ⟨sl, e⟩ := h src
  exact ⟨sl, run_nx e⟩
theorem excs_of {n : Nat} {m : Sm} {as : List SV} {x : Ex} (h : ∀ src, ∃ sl, m ⟨padS n as, src⟩ = .exc x ⟨sl, src⟩) : Excs (runFn n m) as x := fun src => by
  obtain ⟨sl, e⟩ := h src
  exact ⟨sl, run_exc e⟩
def AppX (n : Nat) (F : Fd) (as : List SV) (x : Ex) : Prop := ∀ s : S, appF n F as s = .exc x s
theorem Excs.app {n : Nat} {F : Fd} {as : List SV} {x : Ex} (h : Excs F as x) (hn : as.length = n := by rfl) (ho : okA as = true := by rfl) : AppX n F as x := fun s => by
  obtain ⟨sl, e⟩ := h s.src
  unfold appF
  rw [if_pos ⟨hn, ho⟩, e]
theorem bnd_exc {α β : Type} {e : Ex} {s : S} {k : α → S → Res β} : (Res.exc e s : Res α).bind k = .exc e s := rfl
/-! ### loops over lists of things -/
theorem forL_end {g : Tg} {m : Sm} {s : S} : forL g m [] s = .ok .nx s := rfl
theorem shs_cons (d : D) (ds : List D) : shs (d :: ds) = .sh d :: shs ds := rfl
theorem shs_nil : shs [] = [] := rfl
/-- a comprehension whose parts leave the state as it was -/
theorem comp_map {α : Type} {g : Tg} {f : Ev} {vs : List Nat} {s : S} (fd : α → SV) (h : α → D) : ∀ (xs : List α) (acc : List D), (∀ x ∈ xs, ∃ s1 s3 r, g (fd x) s = some s1 ∧ f s1 = .ok r s3 ∧ r.settle = .sh (h x) ∧ wipeS vs s3 = s) → acc.length + xs.length ≤ sizeLine →
    compL g cYes f vs (xs.map fd) acc s = .ok (acc ++ xs.map h) s
  | [], acc, _, _ => by simp [compL]
  | x :: xs, acc, H, hl => by
    obtain ⟨s1, s3, r, h1, h2, h3, h4⟩ := H x List.mem_cons_self
    have h4' : acc.length < sizeLine := by simp at hl; omega
    rw [List.map_cons, compL_step h1 h2 h3 h4', h4, comp_map fd h xs (acc ++ [h x]) (fun y hy => H y (List.mem_cons_of_mem _ hy)) (by simp at hl ⊢; omega)]
    simp
theorem comp_filter {α : Type} {g : Tg} {c : Tt} {f : Ev} {vs : List Nat} {s : S} (fd : α → SV) (p : α → Bool) (h : α → D) : ∀ (xs : List α) (acc : List D), (∀ x ∈ xs, ∃ s1 s2, g (fd x) s = some s1 ∧ c s1 = .ok (p x) s2 ∧ (p x = false → wipeS vs s2 = s) ∧ (p x = true → ∃ s3 r, f s2 = .ok r s3 ∧ r.settle = .sh (h x) ∧ wipeS vs s3 = s)) → acc.length + xs.length ≤ sizeLine →
    compL g c f vs (xs.map fd) acc s = .ok (acc ++ (xs.filter p).map h) s
  | [], acc, _, _ => by simp [compL]
  | x :: xs, acc, H, hl => by
    obtain ⟨s1, s2, h1, hc, h0, ht⟩ := H x List.mem_cons_self
    have h4' : acc.length < sizeLine := by simp at hl; omega
    cases e : p x with
    | false =>
      rw [e] at hc
      rw [List.map_cons, compL_drop h1 hc, h0 e, comp_filter fd p h xs acc (fun y hy => H y (List.mem_cons_of_mem _ hy)) (by simp at hl ⊢; omega)]
      simp [e]
    | true =>
      rw [e] at hc
      obtain ⟨s3, r, h2, h3, h4⟩ := ht e
      rw [List.map_cons, compL_keep h1 hc h2 h3 h4', h4, comp_filter fd p h xs (acc ++ [h x]) (fun y hy => H y (List.mem_cons_of_mem _ hy)) (by simp at hl ⊢; omega)]
      simp [e]
/-! ### repr, compared -/
theorem eqv_refl_of {a b : D} {k n : Nat} (h : Nice a k n) (e : a = b) : PyData.eqv a b = true := by
  subst e
  exact h.refl
theorem dEq_str (a b : Str) : dEq (.str a) (.str b) = some (.sh (.bool (decide (a = b)))) := by
  have : PyData.eqv (.str a) (.str b) = decide (a = b) := by
    simp only [PyData.eqv]
    by_cases h : a = b <;> simp [h]
  unfold dEq eqOk
  rw [this]
  rfl
theorem dNe_str (a b : Str) : dNe (.str a) (.str b) = some (.sh (.bool (!decide (a = b)))) := by
  have : PyData.eqv (.str a) (.str b) = decide (a = b) := by
    simp only [PyData.eqv]
    by_cases h : a = b <;> simp [h]
  unfold dNe eqOk
  rw [this]
  rfl
theorem dNe_self_str (a : Str) : dNe (.str a) (.str a) = some (.sh (.bool false)) := by
  rw [dNe_str]
  simp
/-! ### ranges, pop -/
noncomputable def cRangeC1 (ga : Ag) : Itf := fun s => (ga s).bind fun rs s1 => match rs with
  | [.sh (.int j)] => ifc (-(2 ^ 62) ≤ j ∧ j < 2 ^ 62) (.ok (shs (rgD 0 j.toNat)) s1) .err
  | _ => .err
noncomputable def cRangeC2 (ga : Ag) : Itf := fun s => (ga s).bind fun rs s1 => match rs with
  | [.sh (.int i), .sh (.int j)] => ifc (-(2 ^ 62) ≤ i ∧ i < 2 ^ 62 ∧ -(2 ^ 62) ≤ j ∧ j < 2 ^ 62) (.ok (shs (rgD i (j - i).toNat)) s1) .err
  | _ => .err
theorem cRangeC1_eq (ga : Ag) : cRangeC1 ga = cRange1 ga := by
  unfold cRangeC1 cRange1
  simp only [ifc_eq] <;> rfl
theorem cRangeC2_eq (ga : Ag) : cRangeC2 ga = cRange2 ga := by
  unfold cRangeC2 cRange2
  simp only [ifc_eq] <;> rfl
section
variable {X : Cx} {Z : Zx} {W : WX} {a b tg : Expr} {ga : Ag} {p pos : Pos}
theorem snI_rangeC1 (hg : Gl X "range") (hm : X.mg "range" = none) (ha : SnA X Z W [a] ga) (hs : starEach [a] X.env = [(false, eval a X.env)] := by rfl) : SnI X Z W tg (.Call (.Name "range" p) [a] [] pos) (cRangeC1 ga) := by
  rw [cRangeC1_eq]
  exact snI_range1 hg hm ha hs
theorem snI_rangeC2 (hg : Gl X "range") (hm : X.mg "range" = none) (ha : SnA X Z W [a, b] ga) (hs : starEach [a, b] X.env = [(false, eval a X.env), (false, eval b X.env)] := by rfl) (hs2 : starEach [b] X.env = [(false, eval b X.env)] := by rfl) : SnI X Z W tg (.Call (.Name "range" p) [a, b] [] pos) (cRangeC2 ga) := by
  rw [cRangeC2_eq]
  exact snI_range2 hg hm ha hs hs2
end
noncomputable def mPopC : D → List D → Option (D × SV)
  | .list xs, [] => (xs[xs.length - 1]?).map fun y => (.list xs.dropLast, .sh y)
  | .list xs, [.int i] => ifc (0 ≤ i ∧ i < 2 ^ 63) ((xs[i.toNat]?).map fun y => (.list (xs.eraseIdx i.toNat), .sh y)) none
  | _, _ => none
theorem mPopC_eq : mPopC = mPop := by
  funext a b
  unfold mPopC mPop
  simp only [ifc_eq] <;> rfl
theorem mt_popRC {X : Cx} : MtR X "list.pop" (rM X.K mPopC) := by
  rw [mPopC_eq]
  exact mt_popR
end Pw
set_option Elab.async false
set_option linter.all false
set_option maxRecDepth 100000
namespace Pw
open PySem PySem.Spec PyProof.Rows L2
/-! ### evaluation, more of it -/
theorem szl {n : Nat} (h : n ≤ 1000000) : n ≤ sizeLine := by rw [sizeLine_eq]; omega
theorem dis_tup {ds : List D} {s : S} (h : (decide (ds.length ≤ 1000)) = true := by rfl) : (if ds.length ≤ sizeLine then (Res.ok (SV.sh (.tuple ds)) s) else .err) = .ok (.sh (.tuple ds)) s := if_pos (szl (by have := of_decide_eq_true h; omega))
theorem dis_lst {ds : List D} {s : S} (h : (decide (ds.length ≤ 1000)) = true := by rfl) : (if ds.length ≤ sizeLine then (Res.ok (SV.own (.list ds)) s) else .err) = .ok (.own (.list ds)) s := if_pos (szl (by have := of_decide_eq_true h; omega))
theorem ne_self {a b : D} {k n : Nat} (h : Nice a k n) (hk : k ≤ 40) (e : a = b) : dNe a b = some (.sh (.bool false)) := by
  subst e
  rw [h.ne h hk, h.refl]
  rfl
theorem eq_self {a b : D} {k n : Nat} (h : Nice a k n) (hk : k ≤ 40) (e : a = b) : dEq a b = some (.sh (.bool true)) := by
  subst e
  rw [h.eq h hk, h.refl]
theorem try_exc {m ms : Sm} {C : Addr} {i : Nat} {s s1 s2 : S} {e : Ex} {r : SV} (h : m s = .exc e s1) (hc : e.cls = C) (hs : ms { s1 with sl := s1.sl.set i (some (.exn e.fs)) } = .ok (.ret r) s2) (h1 : (Fl.ret r).noExn = true := by rfl) (h2 : noExn (s2.sl.set i none) = true := by rfl) : cTry m C i ms s = .ok (.ret r) { s2 with sl := s2.sl.set i none } := by
  unfold cTry
  rw [h]
  dsimp only
  rw [if_pos hc, hs]
  simp only [Res.quiet, bnd_ok]
  rw [if_pos ⟨h1, h2⟩]
theorem reprs_ne {a b : D} {k n : Nat} (h : Nice a k n) (hk : k ≤ 40) (hn : n ≤ 16000000) (e : a = b) {f g : Vw} {s s1 s2 : S} (h1 : f s = .ok a s1) (h2 : g s1 = .ok b s2) : cT (cBinE dNe (cCall1 dRepr f) (vE (cCall1 dRepr g))) s = .ok false s2 := by
  subst e
  have e1 := call1_ok (g := dRepr) h1 (h.repr hk hn)
  have e2 := vE_ok (call1_ok (g := dRepr) h2 (h.repr hk hn)) rfl
  refine t_ok (binE_ok e1 e2 rfl ?_)
  exact ne_self (k := 0) (n := (PyData.shown (.str a.shown)).length) ⟨rfl, rfl, rfl, Nat.le_refl _, Nat.le_refl _⟩ (by decide) rfl
theorem reprs_eq {a b : D} {k n : Nat} (h : Nice a k n) (hk : k ≤ 40) (hn : n ≤ 16000000) (e : a = b) {f g : Vw} {s s1 s2 : S} (h1 : f s = .ok a s1) (h2 : g s1 = .ok b s2) : cBinE dEq (cCall1 dRepr f) (vE (cCall1 dRepr g)) s = .ok (.sh (.bool true)) s2 := by
  subst e
  have e1 := call1_ok (g := dRepr) h1 (h.repr hk hn)
  have e2 := vE_ok (call1_ok (g := dRepr) h2 (h.repr hk hn)) rfl
  refine binE_ok e1 e2 rfl ?_
  exact eq_self (k := 0) (n := (PyData.shown (.str a.shown)).length) ⟨rfl, rfl, rfl, Nat.le_refl _, Nat.le_refl _⟩ (by decide) rfl
theorem it_ok {f : Ev} {s s1 : S} {r : SV} {d : D} {ds : List D} (h : f s = .ok r s1) (hr : r.settle = .sh d) (hi : itemsOf d = some ds) : cIt f s = .ok (shs ds) s1 := by
  unfold cIt
  rw [h, bnd_ok, hr]
  dsimp only
  rw [hi]
  rfl
theorem dEq_int (i j : Int) : dEq (.int i) (.int j) = some (.sh (.bool (decide (i = j)))) := by
  have : PyData.eqv (.int i) (.int j) = decide (i = j) := by
    simp only [PyData.eqv]
    by_cases h : i = j <;> simp [h]
  unfold dEq eqOk
  rw [this]
  rfl
theorem dNe_int (i j : Int) : dNe (.int i) (.int j) = some (.sh (.bool (!decide (i = j)))) := by
  have : PyData.eqv (.int i) (.int j) = decide (i = j) := by
    simp only [PyData.eqv]
    by_cases h : i = j <;> simp [h]
  unfold dNe eqOk
  rw [this]
  rfl
theorem dEq_bool (i j : Bool) : dEq (.bool i) (.bool j) = some (.sh (.bool (i == j))) := rfl
theorem dNe_bool (i j : Bool) : dNe (.bool i) (.bool j) = some (.sh (.bool (!(i == j)))) := rfl
theorem ixN_last {n : Nat} (h : 0 < n) : ixN n (-1) = some (n - 1) := by
  unfold ixN
  rw [if_neg (by decide)]
  first
    | (rw [if_pos (by omega)]; congr 1; omega)
    | (simp; omega)
theorem atI_last {α : Type} (l : List α) (x : α) : atI (l ++ [x]) (-1) = some x := by
  unfold atI
  rw [ixN_last (by simp)]
  simp
theorem atI_zero {α : Type} (x : α) (l : List α) : atI (x :: l) 0 = some x := by
  have := atI_nat (xs := x :: l) (i := 0) (by simp)
  simpa using this
theorem atI_one {α : Type} (x y : α) (l : List α) : atI (x :: y :: l) 1 = some y := by
  have := atI_nat (xs := x :: y :: l) (i := 1) (by simp)
  simpa using this
theorem atI_two {α : Type} (x y z : α) (l : List α) : atI (x :: y :: z :: l) 2 = some z := by
  have := atI_nat (xs := x :: y :: z :: l) (i := 2) (by simp)
  simpa using this
theorem ix_t {xs : List D} {i : Int} {x : D} (h : atI xs i = some x) : dIx (.tuple xs) (.int i) = some (.sh x) := by
  unfold dIx
  dsimp only
  rw [h]
  rfl
theorem ix_l {xs : List D} {i : Int} {x : D} (h : atI xs i = some x) : dIx (.list xs) (.int i) = some (.sh x) := by
  unfold dIx
  dsimp only
  rw [h]
  rfl
theorem ix_t0 (x : D) (l : List D) : dIx (.tuple (x :: l)) (.int 0) = some (.sh x) := ix_t (atI_zero x l)
theorem ix_t1 (x y : D) (l : List D) : dIx (.tuple (x :: y :: l)) (.int 1) = some (.sh y) := ix_t (atI_one x y l)
theorem ix_t2 (x y z : D) (l : List D) : dIx (.tuple (x :: y :: z :: l)) (.int 2) = some (.sh z) := ix_t (atI_two x y z l)
theorem ix_l0 (x : D) (l : List D) : dIx (.list (x :: l)) (.int 0) = some (.sh x) := ix_l (atI_zero x l)
theorem ix_l1 (x y : D) (l : List D) : dIx (.list (x :: y :: l)) (.int 1) = some (.sh y) := ix_l (atI_one x y l)
theorem ix_l2 (x y z : D) (l : List D) : dIx (.list (x :: y :: z :: l)) (.int 2) = some (.sh z) := ix_l (atI_two x y z l)
theorem ix_tl (l : List D) (x : D) : dIx (.tuple (l ++ [x])) (.int (-1)) = some (.sh x) := ix_t (atI_last l x)
theorem ix_ll (l : List D) (x : D) : dIx (.list (l ++ [x])) (.int (-1)) = some (.sh x) := ix_l (atI_last l x)
theorem add_int (i j : Int) : dAdd (.int i) (.int j) = some (.sh (.int (i + j))) := rfl
theorem set_ll (l : List D) (x y : D) : dSet (.list (l ++ [x])) (.int (-1)) y = some (.list (l ++ [y])) := by
  unfold dSet
  dsimp only
  rw [ixN_last (by simp)]
  simp
theorem app_ok {xs : List D} {x : D} (h : xs.length < 1000000) : mAppend (.list xs) [x] = some (.list (xs ++ [x]), .sh .none) := by
  unfold mAppend
  dsimp only
  rw [if_pos (by rw [sizeLine_eq]; omega)]
theorem len_t (xs : List D) : dLen (.tuple xs) = some (.sh (.int xs.length)) := rfl
theorem len_l (xs : List D) : dLen (.list xs) = some (.sh (.int xs.length)) := rfl
theorem tup_l (xs : List D) : dTuple (.list xs) = some (.sh (.tuple xs)) := rfl
theorem mulI {i j : Int} (h : mulFits i j = true) : dMul2 (.int i) (.int j) = some (.sh (.int (i * j))) := ifc_pos h
theorem mulL {xs : List D} {k : Int} (h : -(2 ^ 63) ≤ k ∧ k < 2 ^ 63 ∧ xs.length * k.toNat ≤ sizeLine) : dMul2 (.list xs) (.int k) = some (.own (.list (List.replicate k.toNat xs).flatten)) := ifc_pos h
theorem mulT {xs : List D} {k : Nat} (h0 : xs ≠ []) (hk : 0 < k) (hk2 : k ≤ 1000) (hx : xs.length ≤ 1000) : dMul2 (.tuple xs) (.int (k : Int)) = some (.sh (.tuple (List.replicate k xs).flatten)) := by
  unfold dMul2
  dsimp only
  by_cases h : k = 1
  · subst h
    rw [ifc_pos (by rfl)]
    simp
  · rw [ifc_eq, if_neg (by omega), ifc_pos ⟨h0, by omega, by omega, hx⟩, Int.toNat_natCast]
theorem mulS {x : Str} {k : Int} (h : 0 ≤ k ∧ k ≤ 100000 ∧ x.length ≤ 100) : dMul2 (.str x) (.int k) = some (.sh (.str (Txt.mul x k))) := ifc_pos h
theorem fdivI {i j : Int} (h0 : 0 < j) (h : j.natAbs.log2 < 9000) : dFdiv (.int i) (.int j) = some (.sh (.int (i / j))) := by
  unfold dFdiv
  dsimp only
  rw [if_pos ⟨h0, h⟩]
theorem modI {i j : Int} (h0 : 0 < j) : dMod (.int i) (.int j) = some (.sh (.int (i % j))) := by
  unfold dMod
  dsimp only
  rw [if_pos h0]
theorem small_log {j : Int} (h0 : 0 ≤ j) (h : j < 2 ^ 5000) : j.natAbs.log2 < 9000 := by
  have e : ((2 ^ 5000 : Nat) : Int) = 2 ^ 5000 := by simp
  have h1 : j.natAbs < 2 ^ 5000 := by omega
  by_cases hz : j.natAbs = 0
  · rw [hz]; decide
  · exact Nat.lt_trans ((Nat.log2_lt hz).mpr h1) (by decide)
end Pw
set_option Elab.async false
set_option linter.all false
set_option maxRecDepth 100000
namespace Pw
open PySem PySem.Spec PyProof.Rows L2
section
variable {X : Cx} {Z : Zx} {W : WX} {e a b : Expr} {es : List Expr} {f fa : Ev} {fb : Vw} {ga : Ag} {H : Hp} {σ : L2.St} {T T' : List Ent} {s : S} {L : List Ent} {src : Option Src} {O : Addr → Prop} {v : V} {x : Str} {p pos : Pos}
/-! ### isinstance(x, T), T a built-in type -/
def tyNm : D → Option String
  | .none => some "NoneType"
  | .bool _ => some "bool"
  | .int _ => some "int"
  | .str _ => some "str"
  | .list _ => some "list"
  | .tuple _ => some "tuple"
  | .dict _ => some "dict"
def dIsTy (ty : String) (d : D) : Option SV := (tyNm d).bind fun n => (kitB n ty).map fun r => .sh (.bool r)
theorem RelO.tyX (r : RelO Z H src L O) {d : D} {n : String} (h : Has L v d) (e : tyNm d = some n) : TyX Z.K H v (.type n) := by
  cases d <;> simp only [tyNm, Option.some.injEq] at e <;> first | (cases e; done) | subst e
  · rw [r.non h]; exact .base .non
  · rw [r.bl h]; exact .base (.bl _)
  · rw [r.int h]; exact .base (.int _)
  · rw [r.str h]; exact .base (.str _)
  · obtain ⟨a, ys, rfl, ha, _⟩ := r.list h
    exact .base (.lst ha)
  · obtain ⟨a, ys, rfl, ha, _⟩ := r.tuple h
    rcases ha with (ha | ⟨ob, ha⟩) | ⟨o, its, n, h1, h2, _⟩
    · exact .base (.tup ha)
    · exact .fTuple ha
    · exact .kTuple h1 h2
  · obtain ⟨a, ys, rfl, ha, _⟩ := r.dict h
    exact .base (.dK ha)
theorem snE_isTy {ty : String} {y : Str} {p2 : Pos} (hg : Gl X "isinstance") (hm : X.mg "isinstance" = none) (hv : bootBuiltins "isinstance" = some (.builtin "isinstance")) (ha : SnV X Z W e fb) (hgT : Gl X y) (hmT : X.mg y = none) (hvT : bootBuiltins y = some (.type ty))
    (hnT : y ≠ "__name__" := by decide) (hdT : (y == ("__debug__" : Str)) = false := by decide)
    (he : starEach [e, .Name y p2] X.env = (false, eval e X.env) :: starEach [.Name y p2] X.env := by rfl) (he2 : starEach [.Name y p2] X.env = (false, eval (.Name y p2) X.env) :: starEach [] X.env := by rfl) (hpl : (backTo pos (starEach [.Name y p2] X.env)).any (·.1) = false := by rfl) :
    SnE X Z W (.Call (.Name "isinstance" p) [e, .Name y p2] [] pos) (cCall1 (dIsTy ty) fb) := fun k =>
  pe_imp (pe_callB call_isi hg hm hv (pa_cons (ha k) (pa_cons (pe_bltn (v := .ty ty) (u := .type ty) hgT hmT hvT rfl hnT hdT) pa_nil he2) he) (by decide) (by decide) he hpl) fun σ H Q q => by
    obtain ⟨T, s, R, q⟩ := q
    refine ⟨T, s, R, Res.sat_mono (Res.sat_bind.mp q) (fun d s1 q v H1 T' R1 hv => ?_) fun e s h => h⟩
    obtain ⟨r, e, q⟩ := sat_opt q
    obtain ⟨n, e1, e2⟩ := Option.bind_eq_some_iff.mp e
    obtain ⟨b, e3, e4⟩ := Option.map_eq_some_iff.mp e2
    obtain ⟨O, R0⟩ := R1.2
    subst e4
    refine ⟨v, .ty ty, .type n, .type ty, b, rfl, .ty ty, k ▸ R0.tyX hv e1, kit_ty e3, q _ _ ⟨R1.1, ?_⟩⟩
    exact (RelS.popN R1).2.bl b
/-! ### list of a text too -/
def dList2 : D → Option SV
  | .str z => if z.length ≤ sizeLine then some (.own (.list (z.cps.toList.map fun c => .str ⟨#[c]⟩))) else none
  | d => dList d
theorem rp_chars {K} : ∀ (l : List Nat), RpA K H O (l.map fun c => V.str ⟨#[c]⟩) (l.map fun c => PyData.str ⟨#[c]⟩)
  | [] => .nil
  | c :: l => .cons (.str _) (rp_chars l)
theorem call_listR2 (hc : X.calm = true) : CallR X (.type "list") (rC X.K dList2) := by
  intro pins s σ H xs us Q I rx h
  obtain ⟨Z, src, L, d, r, x, rfl, hK, R, h1, e, q⟩ := h
  unfold dList2 at e
  split at e
  · rename_i z
    split at e
    · rename_i hz
      cases e
      obtain ⟨O, R0⟩ := id R
      cases R0.str h1
      obtain ⟨u, rfl, r1⟩ : ∃ u, us = [u] ∧ RelV (.str z) u := by
        cases rx with
        | cons r1 r2 => cases r2; exact ⟨_, rfl, r1⟩
      obtain ⟨t, rfl⟩ := r1
      refine call_list_str (I.ok.hd hc) z t (fun h' tk acc c' hk e hi => ?_) hz
      refine ⟨.ref s.heap.objs.size, upd H s.heap.objs.size (.lst (z.cps.toList.map fun c => V.str ⟨#[c]⟩)), I.laid hk (Nat.le_refl _) ⟨by rw [List.length_map, Array.length_toList]; exact hz, acc.toList, c', ?_, by rw [Array.toArray_toList]; exact e⟩, rfl, q _ _ (R.newListOf (I.hok.fresh (Nat.le_refl _)) fun O' R' => rp_chars _)⟩
      refine vals_of_idx _ _ (by rw [List.length_map, Array.length_toList, Array.length_toList]; exact hi.1) fun j u hj => ?_
      obtain ⟨c, t', hc, rfl⟩ := hi.2 j u (by rw [← Array.getElem?_toList]; exact hj)
      exact ⟨.str ⟨#[c]⟩, by simp [hc], ⟨_, rfl⟩⟩
    · cases e
  · exact call_listR hc pins s σ H _ us Q I rx ⟨Z, src, L, d, r, x, rfl, hK, R, h1, e, q⟩
/-! ### x.split(sep) -/
def dSplit : D → List D → Option SV
  | .str a, [.str b] => if (b.length == 0) = false ∧ a.length + 2 ≤ sizeLine then some (.own (.list ((Txt.split a b).map .str))) else none
  | _, _ => none
theorem rp_strs {K} : ∀ (l : List Str), RpA K H O (l.map V.str) (l.map PyData.str)
  | [] => .nil
  | c :: l => .cons (.str _) (rp_strs l)
theorem mt_splitR : MtR X "str.split" (rMV X.K dSplit) := by
  intro pins s σ H x xs v us Q I rx rs h
  obtain ⟨Z, src, L, dO, ds, r, hK, R, h0, h1, e, q⟩ := h
  obtain ⟨O, R0⟩ := id R
  unfold dSplit at e
  split at e
  · rename_i a b
    split at e
    · rename_i hz
      cases e
      cases R0.str h0
      have h2 := h1.rp R0
      cases h2 with
      | cons r1 r2 =>
        cases r2
        cases r1
        exact mt_split pins s σ H _ _ v us Q I rx rs ⟨a, b, rfl, rfl, hz.1, hz.2, fun p hp => q _ _ (R.newListOf hp fun O' R' => rp_strs _)⟩
    · cases e
  · cases e
/-! ### a tuple of texts that the module names -/
def TupK (K : PySem.W.Frag) (a : Addr) (ss : List Str) : Prop := ∃ (o : Obj) (its : Array Value) (n : Nat), K.lookup a = some o ∧ o.cls = .type "tuple" ∧ o.data = .seq its n ∧ its.size ≤ sizeLine ∧ Vals (ss.map V.str) its.toList
def valsB : List Str → List Value → Bool
  | [], [] => true
  | s :: ss, .str x _ :: vs => decide (s = x) && valsB ss vs
  | _, _ => false
theorem vals_by : ∀ {ss : List Str} {vs : List Value}, valsB ss vs = true → Vals (ss.map V.str) vs
  | [], [], _ => .nil
  | s :: ss, .str x t :: vs, h => by
    simp only [valsB, Bool.and_eq_true, decide_eq_true_eq] at h
    obtain ⟨rfl, h⟩ := h
    exact .cons ⟨t, rfl⟩ (vals_by h)
theorem snE_globT {ss : List Str} (hg : Gl X x) (h : ∃ a, X.mg x = some (.ref a) ∧ TupK X.K a ss) (hd : (x == ("__debug__" : Str)) = false := by decide) : SnE X Z W (.Name x pos) (cD (.tuple (ss.map .str))) := fun k => by
  obtain ⟨a, hm, o, its, n, h1, h2, h3, h4, h5⟩ := h
  refine pe_imp (C8.pe_gc (v := .ref a) hg ⟨_, hm, rfl⟩ hd) fun σ H Q ⟨T, s, R, q⟩ => ?_
  obtain ⟨O, R0⟩ := R.2
  exact q _ _ ⟨R.1, R0.pushSh (.tupK (k ▸ h1) h2 h3 h4 h5 (rp_strs ss))⟩
end
end Pw
set_option Elab.async false
set_option linter.all false
set_option maxRecDepth 100000
namespace Pw
namespace Law
open PySem PySem.Spec PyProof.Rows L2
def rg (k n : Nat) : List D := (List.range' k n).map fun (i : Nat) => .int (i : Int)
theorem rgD_rg (k n : Nat) : rgD (k : Int) n = rg k n := by
  unfold rgD rg
  rw [List.range'_eq_map_range, List.map_map]
  apply List.map_congr_left
  intro i _
  simp
theorem rgD_zero (n : Nat) : rgD 0 n = rg 0 n := rgD_rg 0 n
theorem rg_succ (k n : Nat) : rg k (n + 1) = .int (k : Int) :: rg (k + 1) n := by
  unfold rg
  rw [List.range'_succ, List.map_cons]
theorem Draws.app {n : Nat} {F : Fd} {as : List SV} {P : SV → Prop} (h : Draws F as P) {sr : Src} (hi : SrcIn sr) (hn : as.length = n := by rfl) (ho : okA as = true := by rfl) : ∃ r sr', (∀ sl, appF n F as ⟨sl, some sr⟩ = .ok r ⟨sl, some sr'⟩) ∧ P r ∧ SrcIn sr' := by
  obtain ⟨r, sr', sl', e, p, i⟩ := h sr hi
  refine ⟨r, sr', fun sl => ?_, p, i⟩
  unfold appF
  rw [if_pos ⟨hn, ho⟩, e]
theorem comp_draw {g : Tg} {f : Ev} {vs : List Nat} {sl : List (Option SV)} (P : D → Prop) : ∀ (xs : List SV) (acc : List D) (sr : Src), (∀ x ∈ xs, ∀ sr, SrcIn sr → ∃ s1 s3 r sr' d, g x ⟨sl, some sr⟩ = some s1 ∧ f s1 = .ok r s3 ∧ r.settle = .sh d ∧ P d ∧ SrcIn sr' ∧ wipeS vs s3 = ⟨sl, some sr'⟩) → SrcIn sr → acc.length + xs.length ≤ sizeLine →
    ∃ ds sr', compL g cYes f vs xs acc ⟨sl, some sr⟩ = .ok (acc ++ ds) ⟨sl, some sr'⟩ ∧ ds.length = xs.length ∧ (∀ d ∈ ds, P d) ∧ SrcIn sr'
  | [], acc, sr, _, hi, _ => ⟨[], sr, by simp [compL], rfl, fun d h => (by simp at h), hi⟩
  | x :: xs, acc, sr, H, hi, hl => by
    obtain ⟨s1, s3, r, sr', d, h1, h2, h3, h4, h5, h6⟩ := H x List.mem_cons_self sr hi
    have h4' : acc.length < sizeLine := by simp at hl; omega
    obtain ⟨ds, sr2, e, hlen, hp, hi2⟩ := comp_draw P xs (acc ++ [d]) sr' (fun y hy => H y (List.mem_cons_of_mem _ hy)) h5 (by simp at hl ⊢; omega)
    refine ⟨d :: ds, sr2, ?_, by simp [hlen], fun y hy => ?_, hi2⟩
    · rw [compL_step h1 h2 h3 h4', h6, e]
      simp
    · rcases List.mem_cons.mp hy with rfl | hy
      · exact h4
      · exact hp y hy
end Law
end Pw
set_option Elab.async false
set_option linter.all false
set_option maxRecDepth 100000
namespace Pw
open PySem PySem.Spec PyProof.Rows L2
/-! ### all but the tables kept -/
section
variable {K : PySem.W.Frag} {H H' : Hp} {O O' : Addr → Prop} {Z : Zx} {L : List Ent} {src : Option Src} {v : V}
mutual
theorem Rp.keepN (hk : ∀ b x, H b = some x → (∀ ps, x ≠ .tbl ps) → H' b = some x) : ∀ {v : V} {d : D}, Rp K H O v d → Rp K H' O v d
  | _, _, .non => .non
  | _, _, .bl b => .bl b
  | _, _, .int i => .int i
  | _, _, .str x => .str x
  | _, _, .lst e n r => .lst (hk _ _ e fun _ z => by cases z) n (RpA.keepN hk r)
  | _, _, .tup e n r => .tup (hk _ _ e fun _ z => by cases z) n (RpA.keepN hk r)
  | _, _, .tupK e1 e2 e3 e4 e5 r => .tupK e1 e2 e3 e4 e5 (RpA.keepN hk r)
  | _, _, .dic e n r => .dic (hk _ _ e fun _ z => by cases z) n (RpD.keepN hk r)
theorem RpA.keepN (hk : ∀ b x, H b = some x → (∀ ps, x ≠ .tbl ps) → H' b = some x) : ∀ {v : List V} {d : List D}, RpA K H O v d → RpA K H' O v d
  | _, _, .nil => .nil
  | _, _, .cons r s => .cons (Rp.keepN hk r) (RpA.keepN hk s)
theorem RpD.keepN (hk : ∀ b x, H b = some x → (∀ ps, x ≠ .tbl ps) → H' b = some x) : ∀ {v : List (Key × V)} {d : List (D × D)}, RpD K H O v d → RpD K H' O v d
  | _, _, .nil => .nil
  | _, _, .cons r s => .cons (Rp.keepN hk r) (RpD.keepN hk s)
end
theorem SvOk.keepN (hE : LamX.ExtN H H') (hT : ∀ P q, Z.Tb = some (P, q) → TbOk H O P q → TbOk H' O P q) {s : SV} (h : SvOk Z H O v s) : SvOk Z H' O v s := by
  have hk : ∀ b x, H b = some x → (∀ ps, x ≠ .tbl ps) → H' b = some x := fun b x e n => hE b x e n
  cases s with
  | sh d => exact Rp.keepN hk h
  | own d =>
    obtain ⟨a, e, o, f, n, r⟩ := h
    refine ⟨a, e, o, f, n, ?_⟩
    cases d <;> try exact r
    · obtain ⟨xs, e, r⟩ := r; exact ⟨xs, hk _ _ e (fun _ z => by cases z), RpA.keepN hk r⟩
    · obtain ⟨xs, e, r⟩ := r; exact ⟨xs, hk _ _ e (fun _ z => by cases z), RpD.keepN hk r⟩
  | fn a => exact h
  | src => exact h
  | fns as => obtain ⟨a, e, n, q⟩ := h; exact ⟨a, e, n, hk _ _ q fun _ z => by cases z⟩
  | scr ns =>
    obtain ⟨a, e, ⟨q, n⟩ | q⟩ := h
    · refine ⟨a, e, .inl ⟨?_, n⟩⟩
      rcases q with q | ⟨o, q⟩
      · exact .inl (hk _ _ q fun _ z => by cases z)
      · exact .inr ⟨o, hk _ _ q fun _ z => by cases z⟩
    · exact ⟨a, e, .inr q⟩
  | exn fs =>
    obtain ⟨a, dd, xs, z, e, n, q, r⟩ := h
    exact ⟨a, dd, xs, z, e, n, hk _ _ q (fun _ z => by cases z), paired_imp r fun p q z => ⟨z.1, Rp.keepN hk z.2⟩⟩
  | exd fs =>
    obtain ⟨a, xs, e, n, q, r⟩ := h
    exact ⟨a, xs, e, n, hk _ _ q (fun _ z => by cases z), paired_imp r fun p q z => ⟨z.1, Rp.keepN hk z.2⟩⟩
  | tb => obtain ⟨P, q, e1, e2, n, t⟩ := h; exact ⟨P, q, e1, e2, n, hT P q e1 t⟩
  | lm => exact h
/-- less that is owned -/
theorem SvOk.less (ho : ∀ b, O' b → O b) {s : SV} (hown : ∀ d a, s = .own d → v = .ref a → O' a) (h : SvOk Z H O v s) : SvOk Z H O' v s := by
  cases s with
  | sh d => exact Rp.less h ho
  | own d =>
    obtain ⟨a, e, o, f, n, r⟩ := h
    refine ⟨a, e, hown d a rfl e, f, n, ?_⟩
    cases d <;> try exact r
    · obtain ⟨xs, e, r⟩ := r; exact ⟨xs, e, r.less ho⟩
    · obtain ⟨xs, e, r⟩ := r; exact ⟨xs, e, r.less ho⟩
  | fn a => exact h
  | src => exact h
  | fns as => obtain ⟨a, e, n, q⟩ := h; exact ⟨a, e, fun z => n (ho _ z), q⟩
  | scr ns =>
    obtain ⟨a, e, q⟩ := h
    exact ⟨a, e, q.imp (fun q => ⟨q.1, fun z => q.2 (ho _ z)⟩) id⟩
  | exn fs =>
    obtain ⟨a, dd, xs, z, e, n, q, r⟩ := h
    exact ⟨a, dd, xs, z, e, fun z => n (ho _ z), q, paired_imp r fun p q z => ⟨z.1, Rp.less z.2 ho⟩⟩
  | exd fs =>
    obtain ⟨a, xs, e, n, q, r⟩ := h
    exact ⟨a, xs, e, fun z => n (ho _ z), q, paired_imp r fun p q z => ⟨z.1, Rp.less z.2 ho⟩⟩
  | tb =>
    obtain ⟨P, q, e1, e2, n, ps, hP, ht, hc⟩ := h
    refine ⟨P, q, e1, e2, fun z => n (ho _ z), ps, hP, ht, fun pos cv e => ?_⟩
    obtain ⟨c, e3, n2, hC⟩ := hc pos cv e
    exact ⟨c, e3, fun z => n2 (ho _ z), hC⟩
  | lm => exact h
def seqO (H : Hp) (a : Addr) : Prop := (∃ xs, H a = some (.lst xs)) ∨ ∃ ks, H a = some (.dK ks)
theorem own_seq {d : D} {a : Addr} (h : RpO K H O a d) : seqO H a := by
  cases d <;> first | exact h.elim | skip
  · obtain ⟨xs, e, _⟩ := h; exact .inl ⟨xs, e⟩
  · obtain ⟨xs, e, _⟩ := h; exact .inr ⟨xs, e⟩
/-- only lists and dicts are owned, in the law's own frame -/
theorem RelO.tidy (R : RelO Z H src L O) (h0 : ∀ a, ¬ Z.Oc a) : RelO Z H src L fun b => O b ∧ seqO H b := by
  refine ⟨fun a z => absurd z (h0 a), fun e he s q => ?_, R.ap, ?_, R.base, fun b z => R.live b z.1⟩
  · obtain ⟨v, e1, k⟩ := R.ent e he s q
    refine ⟨v, e1, k.less (fun b z => z.1) fun d a es ev => ?_⟩
    subst es
    obtain ⟨a', e2, o, _, _, r⟩ := k
    rw [ev] at e2
    cases e2
    exact ⟨o, own_seq r⟩
  · have q := R.src
    cases src <;> cases e : Z.A <;> rw [e] at q <;> first | exact q | exact q.elim | skip
    obtain ⟨n, o1, o2, h1, h2⟩ := q
    exact ⟨n, ⟨o1, .inr ⟨_, h1⟩⟩, ⟨o2, .inl ⟨_, h2⟩⟩, h1, h2⟩
/-- the law's own frame behind the making of a lambda -/
theorem RelO.made (R : RelO Z H src L O) (hO : ∀ b, O b → seqO H b) (h0 : ∀ b, Z.H0 b = none) (hE : LamX.ExtN H H') (hT : ∀ P q, Z.Tb = some (P, q) → LamX.TabS H' P q) : RelO Z H' src L O := by
  have hk : ∀ b x, H b = some x → (∀ ps, x ≠ .tbl ps) → H' b = some x := fun b x e n => hE b x e n
  refine ⟨R.oc, fun e he s q => ?_, R.ap, ?_, fun b x e => (by rw [h0] at e; cases e), fun b z => ?_⟩
  · obtain ⟨v, e1, k⟩ := R.ent e he s q
    refine ⟨v, e1, k.keepN hE fun P q e2 _ => ?_⟩
    obtain ⟨ps, h1, h2, h3⟩ := hT P q e2
    refine ⟨ps, h1, h2, fun pos cv e3 => ?_⟩
    obtain ⟨c, e4, e5⟩ := h3 pos cv e3
    refine ⟨c, e4, fun z => ?_, e5⟩
    rcases hO c z with ⟨xs, e6⟩ | ⟨xs, e6⟩
    · have := hk _ _ e6 (fun _ z => by cases z)
      rw [e5] at this
      have := Option.some.inj this
      unfold LamX.CodeO at this
      cases this
    · have := hk _ _ e6 (fun _ z => by cases z)
      rw [e5] at this
      have := Option.some.inj this
      unfold LamX.CodeO at this
      cases this
  · have q := R.src
    cases src <;> cases e : Z.A <;> rw [e] at q <;> first | exact q | exact q.elim | skip
    obtain ⟨n, o1, o2, h1, h2⟩ := q
    exact ⟨n, o1, o2, hk _ _ h1 (fun _ z => by cases z), hk _ _ h2 (fun _ z => by cases z)⟩
  · rcases hO b z with ⟨xs, e⟩ | ⟨xs, e⟩
    · exact ⟨_, hk _ _ e (fun _ z => by cases z)⟩
    · exact ⟨_, hk _ _ e (fun _ z => by cases z)⟩
/-- owned: what the frame got, and what its entries own -/
def ownO (Oc : Addr → Prop) (L : List Ent) (b : Addr) : Prop := Oc b ∨ ∃ d, (some (V.ref b), some (SV.own d)) ∈ L
theorem RelO.shrink (R : RelO Z H src L O) (hA : ∀ b, InA Z.A b → Z.Oc b) : RelO Z H src L (ownO Z.Oc L) := by
  have hsub : ∀ b, ownO Z.Oc L b → O b := fun b z => by
    rcases z with z | ⟨d, z⟩
    · exact R.oc b z
    · obtain ⟨v, e1, a, e2, o, _⟩ := R.ent _ z _ rfl
      cases e1; cases e2; exact o
  refine ⟨fun a z => .inl z, fun e he s q => ?_, R.ap, ?_, R.base, fun b z => R.live b (hsub b z)⟩
  · obtain ⟨v, e1, k⟩ := R.ent e he s q
    refine ⟨v, e1, k.less hsub fun d a es ev => .inr ⟨d, ?_⟩⟩
    obtain ⟨x, y⟩ := e
    have e1 : x = some v := e1
    have q : y = some s := q
    rw [e1, q, es, ev] at he
    exact he
  · have q := R.src
    cases src <;> cases e : Z.A <;> rw [e] at q <;> first | exact q | exact q.elim | skip
    obtain ⟨n, o1, o2, h1, h2⟩ := q
    exact ⟨n, .inl (hA _ (by rw [e]; exact .inl rfl)), .inl (hA _ (by rw [e]; exact .inr rfl)), h1, h2⟩
end
end Pw
set_option Elab.async false
set_option linter.all false
set_option maxRecDepth 100000
namespace Pw
open PySem PySem.Spec PyProof.Rows L2
/-! ### a lambda without parameters, handed to a def that calls it; it raises -/
def settleS : List Nat → S → S
  | [], s => s
  | i :: is, s => settleS is (match s.sl[i]? with
    | some (some (.own d)) => { s with sl := s.sl.set i (some (.sh d)) }
    | _ => s)
def maskL (cs : List Nat) : Nat → List (Option SV) → List (Option SV)
  | _, [] => []
  | n, o :: sl => (if n ∈ cs then (match o with | some (.sh d) => some (.sh d) | some (.fn a) => some (.fn a) | _ => none) else none) :: maskL cs (n + 1) sl
/-- x(), x the name that holds the lambda -/
def cThunk (th : Option Src → Res SV) : Ev := fun s => match s.sl[0]? with
  | some (some SV.lm) => match th s.src with
    | .exc e s2 => .exc e { s with src := s2.src }
    | _ => .err
  | _ => .err
/-- f(lambda: body): gi the slot of the table, n the names of f, m what f does by what the lambda does -/
def cLam (gi n : Nat) (cs : List Nat) (m : (Option Src → Res SV) → Sm) (body : Ev) : Ev := fun s0 => match s0.sl[gi]? with
  | some (some SV.tb) =>
    let s := settleS cs s0
    match m (fun src => body ⟨maskL cs 0 s.sl, src⟩) ⟨some SV.lm :: List.replicate (n - 1) none, s.src⟩ with
    | .ok (.ret r) s2 => match r with
      | .lm => .err
      | r => .ok r { s with src := s2.src }
    | .ok .nx s2 => .ok (.sh .none) { s with src := s2.src }
    | _ => .err
  | _ => .err
section
variable {X : Cx} {Z : Zx} {W : WX} {H HZ : Hp} {σ σZ : L2.St} {T TZ : List Ent} {s sZ : S} {L : List Ent} {src : Option Src} {O : Addr → Prop} {v : V}
theorem RelS.settles : ∀ (is : List Nat) {s : S}, RelS Z H σ T s → RelS Z H σ T (settleS is s)
  | [], s, R => R
  | i :: is, s, R => by
    unfold settleS
    split
    · rename_i d e
      obtain ⟨v, hv, _⟩ := R.slot e
      exact RelS.settles is (R.share e hv)
    · exact RelS.settles is R
theorem settles_tb : ∀ (is : List Nat) (s : S) (g : Nat), s.sl[g]? = some (some .tb) → (settleS is s).sl[g]? = some (some .tb)
  | [], s, g, h => h
  | i :: is, s, g, h => by
    unfold settleS
    refine settles_tb is _ g ?_
    split
    · rename_i d e
      have : i ≠ g := fun z => by rw [z, h] at e; cases e
      rw [List.getElem?_set_ne this]
      exact h
    · exact h
theorem maskL_len (cs : List Nat) : ∀ (n : Nat) (sl : List (Option SV)), (maskL cs n sl).length = sl.length
  | _, [] => rfl
  | n, o :: sl => congrArg (· + 1) (maskL_len cs (n + 1) sl)
/-- an entry behind the mask is one that was there, a shared value or a function -/
theorem maskL_zip (cs : List Nat) : ∀ (n : Nat) (sl : List (Option SV)) (σ : L2.St) (e : Ent), e ∈ List.zip σ (maskL cs n sl) → e.2 = none ∨ (e ∈ List.zip σ sl ∧ ((∃ d, e.2 = some (.sh d)) ∨ ∃ a, e.2 = some (.fn a)))
  | _, [], σ, e, h => by simp [maskL] at h
  | n, o :: sl, [], e, h => by simp at h
  | n, o :: sl, v :: σ, e, h => by
    simp only [maskL, List.zip_cons_cons, List.mem_cons] at h ⊢
    rcases h with rfl | h
    · split
      · match o with
        | some (.sh d) => exact .inr ⟨.inl rfl, .inl ⟨d, rfl⟩⟩
        | some (.fn a) => exact .inr ⟨.inl rfl, .inr ⟨a, rfl⟩⟩
        | some (.own _) => exact .inl rfl
        | some .src => exact .inl rfl
        | some (.exd _) => exact .inl rfl
        | some (.fns _) => exact .inl rfl
        | some (.exn _) => exact .inl rfl
        | some (.scr _) => exact .inl rfl
        | some .tb => exact .inl rfl
        | some .lm => exact .inl rfl
        | none => exact .inl rfl
      · exact .inl rfl
    · exact (maskL_zip cs (n + 1) sl σ e h).imp id fun q => ⟨.inr q.1, q.2⟩
/-- the lambda's frame: entered from the def's frame Zc (entered at H by the law), it sees the law's shared values -/
theorem lam_enter {Zc : Zx} {cs : List Nat} {O1 : Addr → Prop} {srcZ : Option Src} {LZ : List Ent} (R : RelO Z H src (T ++ List.zip σ s.sl) O) (eK : Zc.K = Z.K) (e0 : Zc.H0 = H) (eO : Zc.Oc = O) (eA : Zc.A = Z.A) (RZ : RelO Zc HZ srcZ LZ O1) :
    ∃ O2, RelO Zc HZ srcZ LZ O2 ∧ Rel (Zc.deep HZ O2) HZ srcZ (List.zip σ (maskL cs 0 s.sl)) := by
  have hA : ∀ b, InA Zc.A b → Zc.Oc b := by rw [eA, eO]; exact inA_own R.src
  have R2 := RZ.shrink hA
  refine ⟨ownO Zc.Oc LZ, R2, ownO Zc.Oc LZ, ?_⟩
  have R3 := RelO.enter (Ar := []) (L := LZ) R2 (fun e h => by cases h) (fun e h => by cases h)
  refine ⟨R3.oc, fun e he sv q => ?_, ?_, R3.src, R3.base, R3.live⟩
  · rcases maskL_zip cs 0 s.sl σ e he with z | ⟨hm, hd⟩
    · rw [z] at q; cases q
    · obtain ⟨v, e1, k⟩ := R.ent e (List.mem_append_right _ hm) sv q
      refine ⟨v, e1, ?_⟩
      rcases hd with ⟨d, hd⟩ | ⟨a, hd⟩
      · rw [hd] at q
        cases q
        have k : Rp Z.K H O v d := k
        show Rp Zc.K HZ _ v d
        rw [eK]
        refine k.keep (fun b x e n => ?_) fun b z => ?_
        · exact RZ.base b x (by rw [e0]; exact e) fun z => n (by have := hA b z; rwa [eO] at this)
        · rcases z with z | ⟨d, z⟩
          · exact .inl (by rwa [eO] at z)
          · obtain ⟨w, e1, a, e2, _, f, _⟩ := RZ.ent _ z _ rfl
            cases e1; cases e2
            exact .inr (by rw [← e0]; exact f.1)
      · rw [hd] at q
        cases q
        exact k
  · refine List.Pairwise.imp_of_mem (R := fun _ _ => True) (fun {a b} ha hb _ => ?_) (List.pairwise_of_forall fun _ _ => trivial)
    intro d1 d2 x h1 h2
    rcases maskL_zip cs 0 s.sl σ a ha with z | ⟨_, ⟨d, z⟩ | ⟨c, z⟩⟩ <;> rw [z] at h1 <;> cases h1
end
end Pw
set_option Elab.async false
set_option linter.all false
set_option maxRecDepth 100000
set_option maxHeartbeats 2000000
namespace Pw
open PySem PySem.Spec PyProof.Rows L2
section
variable {X : Cx} {Z : Zx} {W : WX}
theorem Rel.unLm {K : PySem.W.Frag} {H0 H : Hp} {Oc : Addr → Prop} {A Xn : Option (Addr × Addr)} {Tb : Option (Addr × Str)} {l l' : Option Addr} {src : Option Src} {M : List Ent} {v : V} {r : SV} (hr : r ≠ .lm) (R : Rel ⟨K, H0, Oc, A, Xn, Tb, l⟩ H src ((some v, some r) :: M)) : Rel ⟨K, H0, Oc, A, Xn, Tb, l'⟩ H src [(some v, some r)] := by
  obtain ⟨O, R⟩ := R
  refine ⟨O, R.oc, fun e he s q => ?_, List.pairwise_singleton _ _, R.src, R.base, R.live⟩
  cases List.mem_singleton.mp he
  obtain ⟨w, e1, k⟩ := R.ent _ List.mem_cons_self s q
  refine ⟨w, e1, ?_⟩
  cases q
  cases r <;> first | exact k | exact absurd rfl hr
/-- f(lambda: body) -/
theorem snE_lam {c P g : Addr} {x a : Str} {st : Stmt} {fd : FuncData} {Ng : List Str} {k gi : Nat} {cs : List Nat} {m : (Option Src → Res SV) → Sm} {fb : Ev} {params : Arguments} {body : Expr} {scope : Scope} {p lpos pos : Pos}
    (F : Fun X.K x x st g fd) (Sg : FnScope Ng [a] (defScope st)) (hNg : Ng[0]? = some a) (hva : Vis (defScope st) a) (hb : Binds X.K fd [a] []) (hg : Gl X x) (hm : X.mg x = some (.ref g))
    (hG : ∀ (cdv : Value) (s : Shared) (H : Hp) (E : XK) (Zc : Zx) (th : Option Src → Res SV), Zc.Xn = none → Room (k + 1) (X.A.deeper (envOfC x (defScope st) s.heap.objs.size g cdv)) → X.A.guards = some [] →
      (∀ (W : WX) (pn : List (Addr × Obj)) (xe : Value → Shared → Prop) (p1 p2 : Pos), Takes ((cxOf (L2.CX X.prog X.w) X.prog X.w X.K X.mg X.base Ng x (defScope st) g cdv X.A X.stack s H E).tr pn xe) W → SnE ((cxOf (L2.CX X.prog X.w) X.prog X.w X.K X.mg X.base Ng x (defScope st) g cdv X.A X.stack s H E).tr pn xe) Zc W (.Call (.Name a p1) [] [] p2) (cThunk th)) →
      SnB (cxOf (L2.CX X.prog X.w) X.prog X.w X.K X.mg X.base Ng x (defScope st) g cdv X.A X.stack s H E) Zc (fun cls d _ H => E cls d H) (defBody st) (m th))
    (TB : LamX.TabB X.base X.mg c P) (hcode : X.env.code = .ref c) (hTb : Z.Tb = some (P, X.env.qual ++ "<lambda>")) (h0 : ∀ b, Z.H0 b = none) (hO : ∀ b, ¬ Z.Oc b) (hr : Room (k + 2) X.A) (hgd : X.A.guards = some []) (L : LamX.LamS X.env.scope scope) (hdef : defaultsOf params X.env = ([], []))
    (hbind : ∀ (q : Str) (cl : List (Str × Addr)) (pm cv ctv : Value), bindArgs (PySem.W.kla_fn "<lambda>" q params body scope cl pm cv ctv) ⟨[], []⟩ = pure [])
    (hbody : ∀ (A : Around) (outer : List Env) (s : Shared) (H : Hp) (E : XK) (f c' : Addr) (Zl : Zx), Zl.Xn = none → Room k (A.deeper (LamX.lamEnv X scope s.heap.objs.size f c')) → A.guards = some [] → SnE (LamX.lamCx X A outer s H E scope f c') Zl (fun cls d _ H => E cls d H) body fb)
    (hdb : (x == ("__debug__" : Str)) = false := by decide) (hd : (a == ("__debug__" : Str)) = false := by decide) (hcd : (a == ("__classdict__" : Str)) = false := by decide) :
    SnE X Z W (.Call (.Name x p) [.Lambda params body scope lpos] [] pos) (cLam gi Ng.length cs m fb) := fun zk => by
  refine ⟨fun pins s σ H Q I h => ?_⟩
  obtain ⟨T, s0, R0, q⟩ := h
  obtain ⟨oc, od, kV, doc, pm, an, cdv, ct, osl, rfl, lk, hcg⟩ := F.ex
  unfold cLam at q
  split at q
  case h_2 => exact q.elim
  rename_i eg
  dsimp only at q
  have R1 := R0.settles cs
  have eg1 := settles_tb cs s0 gi eg
  generalize settleS cs s0 = s1 at R1 eg1 q
  obtain ⟨v, hv, hmem⟩ := R1.slot eg1
  obtain ⟨O0, RO0⟩ := R1.2
  have RO := RO0.tidy hO
  generalize eO : (fun b => O0 b ∧ seqO H b) = O at RO
  have hseq : ∀ b, O b → seqO H b := fun b z => by rw [← eO] at z; exact z.2
  have hT : LamX.Tabs [(P, X.env.qual ++ "<lambda>")] H := fun y hy => by
    cases List.mem_singleton.mp hy
    obtain ⟨w, e1, P', q', e2, e3, n, ps, h1, h2, h3⟩ := RO.ent _ hmem _ rfl
    rw [hTb] at e2
    cases e2
    refine ⟨ps, h1, h2, fun pos cv e => ?_⟩
    obtain ⟨c1, e4, _, e5⟩ := h3 pos cv e
    exact ⟨c1, e4, e5⟩
  refine wpAny_Call_Name_kw (ld_glob I hg hm ?_ hdb)
  refine PySem.W.callWith_K (h₀ := X.base) I.ok.mod.kin F.kp ?_ (by rfl) (by rfl)
  show wpAny _ _ (spliced ((false, eval (.Lambda params body scope lpos) X.env) :: backTo pos (starEach [] X.env))) _ _ s
  refine Calls.spliced_cons (LamX.lam_make2 (T := [(P, X.env.qual ++ "<lambda>")]) I TB hcode List.mem_cons_self (fun y hy _ => by cases List.mem_singleton.mp hy; rfl) hT hdef (L.has I.ok) fun f c' pm' ctv H1 s' I1 eN T1 hf hfn hfr hco => ?_)
  refine Calls.spliced_nil ⟨I1.kIn, ?_⟩
  have RO1 : RelO Z H1 s1.src (T ++ List.zip σ s1.sl) O := RO.made hseq h0 eN fun P' q' e => by
    rw [hTb] at e
    cases e
    exact T1 _ List.mem_cons_self
  have hcA : ¬ InA Z.A c' := fun z => by
    have k := inA_own RO.src c' z
    rcases hseq c' k with ⟨xs, e⟩ | ⟨xs, e⟩
    · have := eN _ _ e (fun _ z => by cases z)
      rw [hco] at this
      have := Option.some.inj this
      unfold LamX.CodeO at this
      cases this
    · have := eN _ _ e (fun _ z => by cases z)
      rw [hco] at this
      have := Option.some.inj this
      unfold LamX.CodeO at this
      cases this
  have rc : codeAny (model X.prog X.w) X.A (.call (.ref g) ⟨[.ref f], []⟩) (CR (L2.CX X.prog X.w) X.stack X.prog X.w H1 s' Q (fun _ _ _ => False)) s' := by
    refine LamX.run_ofS (N := Ng) (ps := [a]) (us := [.ref f]) (vs := [.ref f]) lk hcg Sg hr I1.env0 (hb s' [.ref f] I1.kIn rfl) (.cons rfl .nil) rfl fun hr' => ?_
    have zc : (⟨Z.K, H1, O, Z.A, none, Z.Tb, some f⟩ : Zx).Xn = none := rfl
    refine ⟨_, (hG cdv s' H1 (fun _ _ _ => False) ⟨Z.K, H1, O, Z.A, none, Z.Tb, some f⟩ (fun src => fb ⟨maskL cs 0 s1.sl, src⟩) rfl hr' hgd (fun Wt pn xe p1 p2 tk zkk => ?_)) zk, ?_⟩
    · -- the lambda called
      refine ⟨fun pinsZ sZ σZ HZ QZ IZ hZ => ?_⟩
      obtain ⟨TZ, s2, RZ, qZ⟩ := hZ
      unfold cThunk at qZ
      split at qZ
      case h_2 => exact qZ.elim
      rename_i e0
      split at qZ
      case h_2 => exact qZ.elim
      rename_i ex s3 eB
      have eB : fb ⟨maskL cs 0 s1.sl, s2.src⟩ = .exc ex s3 := eB
      obtain ⟨vZ, hvZ, hmZ⟩ := RZ.slot e0
      obtain ⟨OZ, ROZ⟩ := RZ.2
      obtain ⟨vf, e1, f', e2, e3⟩ := ROZ.ent _ hmZ _ rfl
      cases e1; cases e2; subst e3
      have hcZ : HZ c' = some (LamX.CodeO c' (X.env.qual ++ "<lambda>")) := ROZ.base c' _ hco hcA
      obtain ⟨O2, ROZ2, RL⟩ := lam_enter (cs := cs) (Zc := ⟨Z.K, H1, O, Z.A, none, Z.Tb, some f⟩) RO1 rfl rfl rfl rfl ROZ
      refine wpAny_Call_Name_kw (thn ((pe_var (pos := p1) (i := 0) hNg hva hd hcd).run pinsZ sZ σZ HZ (fun v H1 => v = .ref f ∧ H1 = HZ) IZ ⟨.ref f, hvZ, rfl, rfl⟩) fun u sA ⟨v, HA, IA, rA, qA⟩ => ?_)
      obtain ⟨ev, eH⟩ := qA
      subst ev
      rw [eH] at IA
      obtain rfl : u = Value.ref f := rA
      have of1 : sA.heap.get? f = some (PySem.W.kla_obj "<lambda>" (X.env.qual ++ "<lambda>") params body scope (cloFrom X.env.cells scope.names []) pm' c' ctv) := IA.base.keep f _ hf hfn hfr (fun z => nomatch (show f ∈ ([] : List Addr) from z))
      refine PySem.W.callWith_F0 ⟨_, _, _, _, of1⟩ ?_
      have un : Un (frs X.stack) [] H1 HZ s'.heap sA.heap := IA.base
      obtain ⟨⟨oc2, vs2, t2, hoc, hdc, hvc⟩, _, _⟩ := IA.hok c' _ hcZ
      have rc : codeAny (model X.prog X.w) (X.A.deeper (envOfC x (defScope st) s'.heap.objs.size g cdv)) (.call (.ref f) ⟨[], []⟩) (CR (L2.CX X.prog X.w) (envOfC x (defScope st) s'.heap.objs.size g cdv :: X.stack) X.prog X.w HZ sA QZ (WE Wt σZ)) sA := by
        refine PySem.W.kla_callFunE hr'.depth of1 rfl L.co L.gen rfl ⟨c', oc2, vs2, t2, rfl, hoc, hdc, hvc⟩ ?_
        rw [hbind]
        refine wpAny_pure (wpAny_newFunctionEnv (fun y hy => (L.own y hy).2) (fun y hy => absurd hy (by simp)) (fun h₁ hns hsb => ⟨IA.nolimit.fresh _ hsb, ?_⟩) L.kind)
        show codeAny _ _ (.expr body (LamX.lamEnv X scope sA.heap.objs.size f c')) _ _
        have kp : ∀ b o, sA.heap.get? b = some o → h₁.get? b = some o := fun b o e => hsb.extBut b o (Nat.ne_of_lt (Heap.lt_size e)) (Heap.get?_push_of_some _ e)
        have J : Inv (LamX.lamCx X (X.A.deeper (envOfC x (defScope st) s'.heap.objs.size g cdv)) (envOfC x (defScope st) s'.heap.objs.size g cdv :: X.stack) sA HZ (WE Wt σZ) scope f c') [] σ HZ { sA with heap := h₁, toks := sA.toks + ([] : List (Str × Value)).length } :=
          LamX.lam_start2 I1 L IA.env0 hr'.hd un hns kp
        have hbd := (hbody (X.A.deeper (envOfC x (defScope st) s'.heap.objs.size g cdv)) (envOfC x (defScope st) s'.heap.objs.size g cdv :: X.stack) sA HZ (WE Wt σZ) f c' (Zx.deep ⟨Z.K, H1, O, Z.A, none, Z.Tb, some f⟩ HZ O2) rfl (hr'.deeper _) hgd) zk
        refine PySem.W.kla_codeExpr (wpAny_mono (hbd.run [] _ _ HZ QZ J ⟨[], ⟨maskL cs 0 s1.sl, s2.src⟩, ⟨by rw [maskL_len]; exact R1.1, by simpa using RL⟩, ?_⟩) (fun v s' hq => ?_) fun e s' hq => hq)
        · rw [eB]
          intro dd H' R'
          exact qZ dd H' ⟨RZ.1, Rel.back (Ar := []) ROZ2 R'.2⟩
        · obtain ⟨w', H', J', rv, q⟩ := hq
          exact ⟨w', H', J'.os, J'.bare, J'.base, J'.hok, rv, q⟩
      refine wpAny_call (codeAny_mono rc fun r sE hq => ?_)
      cases r with
      | error e => exact passAt tk σZ pinsZ HZ sA e sE IA hq
      | ok fl =>
        cases fl with
        | ret u => exact IA.after hq
        | next => exact False.elim hq
        | brk => exact False.elim hq
        | cont => exact False.elim hq
    · -- what the def does
      have RE : Rel ⟨Z.K, H1, O, Z.A, none, Z.Tb, some f⟩ H1 s1.src [] := by
        have R3 := RelO.enter (Ar := []) RO1 (fun e h => by cases h) (fun e h => by cases h)
        exact ⟨O, R3.oc, fun e h => (by cases h), .nil, R3.src, R3.base, R3.live⟩
      have RF : Rel ⟨Z.K, H1, O, Z.A, none, Z.Tb, some f⟩ H1 s1.src [(some (.ref f), some .lm)] := by
        obtain ⟨O3, R3⟩ := RE
        refine ⟨O3, R3.oc, fun e h s q => ?_, List.pairwise_singleton _ _, R3.src, R3.base, R3.live⟩
        cases List.mem_singleton.mp h
        cases q
        exact ⟨_, rfl, f, rfl, rfl⟩
      have hNl : 0 < Ng.length := (List.getElem?_eq_some_iff.mp hNg).1
      refine ⟨[], ⟨some SV.lm :: List.replicate (Ng.length - 1) none, s1.src⟩, ⟨?_, ?_⟩, ?_⟩
      · simp [L2.start]
      · have e : List.zip (L2.start Ng [V.ref f]) (some SV.lm :: List.replicate (Ng.length - 1) none) = (some (.ref f), some .lm) :: List.zip (List.replicate (Ng.length - 1) none) (List.replicate (Ng.length - 1) none) := rfl
        show Rel _ H1 s1.src ([] ++ List.zip _ _)
        rw [List.nil_append, e]
        exact (Rel.trivZip RF (σ := List.replicate (Ng.length - 1) none) (n := Ng.length - 1)).perm (List.perm_append_singleton _ _)
      · cases em : m (fun src => fb ⟨maskL cs 0 s1.sl, src⟩) ⟨some SV.lm :: List.replicate (Ng.length - 1) none, s1.src⟩ with
        | err => rw [em] at q; exact q.elim
        | exc e s2 => rw [em] at q; exact q.elim
        | ok fl s2 =>
          rw [em] at q
          cases fl with
          | bk => exact q.elim
          | ct => exact q.elim
          | nx =>
            intro σ' H' R'
            have R2 : Rel ⟨Z.K, H1, O, Z.A, none, Z.Tb, some f⟩ H' s2.src ((some .non, some (.sh .none)) :: List.zip σ' s2.sl) := by simpa using Rel.non R'.2
            exact q _ _ ⟨R1.1, Rel.back (Ar := []) RO1 (Rel.unLm (l' := Z.Lm) (by simp) R2)⟩
          | ret r =>
            intro w σ' H' R'
            by_cases hl : r = .lm
            · subst hl; exact q.elim
            · have q2 : ∀ v H', RelS Z H' σ ((some v, some r) :: T) { s1 with src := s2.src } → Q v H' := by
                cases r <;> first | exact q | exact absurd rfl hl
              exact q2 _ _ ⟨R1.1, Rel.back (Ar := []) RO1 (Rel.unLm (l' := Z.Lm) hl R'.2)⟩
  refine wpAny_call (codeAny_mono rc fun r s2 hq => ?_)
  cases r with
  | error e => exact absurd hq (fun ⟨_, _, _, _, _, _, _, _, _, _, _, _, z⟩ => z)
  | ok fl =>
    cases fl with
    | ret u => exact I1.after hq
    | next => exact False.elim hq
    | brk => exact False.elim hq
    | cont => exact False.elim hq
end
end Pw
set_option Elab.async false
set_option linter.all false
set_option maxRecDepth 100000
set_option maxHeartbeats 2000000
namespace Pw
open PySem PySem.Spec PyProof.Rows L2
/-! ### the law's own call, its table of code objects known -/
def OnlyT (P : Addr) (H : Hp) : Prop := ∀ b, b ≠ P → H b = none ∨ ∃ o xs, H b = some (.frz o (.lst xs))
section
variable {P : Program} {w : World} {K : PySem.W.Frag} {mg mb : Str → Option Value} {k : Nat} {fa a c t : Addr} {fd : FuncData} {x : Str} {sp : Sp} {s₁ : Shared} {vs : List Value} {ns : List Int}
def scrT (K : PySem.W.Frag) (a t : Addr) (vs : List Value) (ns : List Int) : Hp := fun b => if b = t then some (.tbl #[]) else scrH K a vs ns b
theorem scrT_some {b : Addr} {u : HO} (h : scrT K a t vs ns b = some u) : (b = t ∧ u = .tbl #[]) ∨ (b ≠ t ∧ b = a ∧ K.lookup a = none ∧ u = .frz { cls := .type "list", data := .seq vs.toArray } (.lst (ns.map V.int))) := by
  unfold scrT at h
  split at h
  · rename_i z
    cases h
    exact .inl ⟨z, rfl⟩
  · rename_i z
    exact .inr ⟨z, scrH_some h⟩
theorem law_goesT (KX : K.In s₁.heap) (hg : s₁.heap.Ns mainGlobals mg) (hb : s₁.heap.Ns builtinsNs mb) (hbb : ∀ x : Str, x ≠ "__name__" → mb x = bootBuiltins x) (lim : s₁.heap.NoLimit) (hgen : s₁.gens = #[])
    (hT : s₁.heap.get? t = some { cls := .none, data := .fields #[] }) (nT : K.lookup t = none) (hC : PySem.W.codeHdIn K c t = true)
    (hbm : ∃ (bm : Addr) (ob : Obj), mg "__builtins__" = some (.ref bm) ∧ bm ≠ builtinsNs ∧ s₁.heap.get? bm = some ob ∧ ob.cls = .type "module" ∧ ob.dict = some builtinsNs ∧ ob.data = .plain)
    (ha : s₁.heap.get? a = some { cls := .type "list", data := .seq vs.toArray }) (hi : IntsAre vs ns) (hl : ns.length ≤ sizeLine) (hr : Room k callerA)
    (G : ∀ base : Heap, K.In base → base.Ns mainGlobals mg → LamX.TabB base mg c t → FnG P w K mg base k fa fd [x] sp) (bind : ∀ (s : Shared) (u : Value), BindsTo s fd ⟨[u], []⟩ [(x, u)])
    (hsp : ∀ H : Hp, OnlyT t H → H t = some (.tbl #[]) → SqL K H a (ns.map V.int) → sp [.ref a] H (fun v _ => v = .bl true) fun _ _ _ => False) :
    codeAny (model P w) callerA (.call (.ref fa) ⟨[.ref a], []⟩) (fun r s' => r = .ok (.ret (.bool true)) ∧ OldK s₁.heap s'.heap ∧ s'.os = s₁.os ∧ AllBare s'.gens) s₁ := by
  have rv := vals_ints hi
  have sz : (ns.map V.int).length ≤ sizeLine := by rw [List.length_map]; exact hl
  have nat : a ≠ t := fun z => by
    rw [z, hT] at ha
    have z' : Data.fields #[] = Data.seq vs.toArray _ := congrArg Obj.data (Option.some.inj ha)
    cases z'
  have hTt : scrT K a t vs ns t = some (.tbl #[]) := if_pos rfl
  have hsq : SqL K (scrT K a t vs ns) a (ns.map V.int) := by
    cases e : K.lookup a with
    | none => exact .inl (.inr ⟨_, (if_neg nat).trans (if_pos ⟨rfl, e⟩)⟩)
    | some o =>
      have eo := KX a o e
      rw [ha] at eo
      cases eo
      refine .inr ⟨_, vs.toArray, _, e, rfl, rfl, rfl, ?_, by simpa using rv⟩
      rw [List.size_toArray, hi.length]
      exact hl
  have ok : HOk P w (scrT K a t vs ns) s₁.heap := fun b u e => by
    rcases scrT_some e with ⟨e1, e2⟩ | ⟨_, e1, e2, e3⟩
    · subst e1 e2
      exact hT
    · subst e1 e3
      exact ⟨ha, sz, vs, _, rv, ha⟩
  have seen : ∀ {b : Addr} {o : Obj}, s₁.heap.get? b = some o → scrT K a t vs ns b = none → (hidT s₁.heap (scrT K a t vs ns)).get? b = some o := fun e n => hidT_get e n
  have free : ∀ {b : Addr} {o : Obj}, s₁.heap.get? b = some o → (∀ vs n, o.data ≠ .seq vs n) → o.data ≠ .fields #[] → scrT K a t vs ns b = none := fun {b o} e h1 h2 => by
    cases q : scrT K a t vs ns b with
    | none => rfl
    | some u =>
      rcases scrT_some q with ⟨e1, _⟩ | ⟨_, e1, _, _⟩
      · rw [e1, hT] at e
        cases e
        exact (h2 rfl).elim
      · rw [e1, ha] at e
        cases e
        exact (h1 _ _ rfl).elim
  have dicts : ∀ {b : Addr} {m : Str → Option Value}, s₁.heap.Ns b m → (hidT s₁.heap (scrT K a t vs ns)).Ns b m := by
    rintro b m ⟨o, es, ep, e, d, r⟩
    exact ⟨o, es, ep, seen e (free e (fun vs n z => by rw [d] at z; cases z) fun z => by rw [d] at z; cases z), d, r⟩
  have kin : K.In (hidT s₁.heap (scrT K a t vs ns)) := fun b o e => seen (KX b o e) (by
    cases q : scrT K a t vs ns b with
    | none => rfl
    | some u =>
      rcases scrT_some q with ⟨e1, _⟩ | ⟨_, z1, z2, _⟩
      · rw [e1, nT] at e
        cases e
      · rw [z1, z2] at e
        cases e)
  have gT : mainGlobals ≠ t := fun z => by
    obtain ⟨o, es, ep, e, d, _⟩ := hg
    rw [z, hT] at e
    cases e
    cases d
  have BA : (hidT s₁.heap (scrT K a t vs ns)).BuiltinsAt mg t := by
    obtain ⟨bm, ob, b1, b2, b3, b4, b5, b6⟩ := hbm
    refine ⟨bm, ob, b1, b2, fun z => ?_, fun z => ?_, seen b3 (free b3 (fun vs n z => by rw [b6] at z; cases z) fun z => by rw [b6] at z; cases z), b4, b5, b6⟩
    · obtain ⟨o, es, ep, e, d, _⟩ := hg
      rw [z, e] at b3
      cases b3
      rw [d] at b6
      cases b6
    · rw [z, hT] at b3
      cases b3
      cases b6
  have TB : LamX.TabB (hidT s₁.heap (scrT K a t vs ns)) mg c t := ⟨PySem.W.codeHd_of_K kin hC, BA, gT⟩
  have M : Mod K mg (hidT s₁.heap (scrT K a t vs ns)) := ⟨kin, dicts hg, ⟨mb, dicts hb, hbb⟩, let ⟨mc, h1, h2⟩ := lim; ⟨mc, dicts h1, h2⟩⟩
  have E0 : Env0 P w K mg (hidT s₁.heap (scrT K a t vs ns)) callerA [] s₁ (scrT K a t vs ns) := ⟨rfl, M, fun b o e => of_hidT e, Nat.le_of_eq (hidT_size _ _), trivial, fun b hb => (by cases (show b ∈ ([] : List Addr) from hb)), ok, .of_eq hgen⟩
  have only : OnlyT t (scrT K a t vs ns) := fun b hb => by
    cases e : scrT K a t vs ns b with
    | none => exact .inl rfl
    | some u =>
      rcases scrT_some e with ⟨e1, _⟩ | ⟨_, _, _, e3⟩
      · exact absurd e1 hb
      · exact .inr ⟨_, _, by rw [e3]⟩
  refine codeAny_mono ((G _ kin (dicts hg) TB).go callerA [] s₁ _ ⟨[.ref a], []⟩ [.ref a] [.ref a] _ _ hr rfl E0 (bind s₁ (.ref a)) (.cons rfl .nil) (hsp _ only hTt hsq)) fun r s' h => ?_
  match r, h with
  | .error e, ⟨_, _, _, _, _, _, _, _, _, _, _, _, z⟩ => exact z.elim
  | .ok (.ret u), ⟨v, H', os, bare, un, ok', r', q⟩ =>
    have q : v = .bl true := q
    subst q
    obtain rfl : u = Value.bool true := r'
    obtain ⟨more, hm⟩ := un.tbls t #[] hTt
    have hm := ok' t _ hm
    have key : ∀ b o, b ≠ t → s₁.heap.get? b = some o → s'.heap.get? b = some o := fun b o nb e => by
      cases q : scrT K a t vs ns b with
      | none => exact un.keep b o e q (fun z => by cases (show b ∈ ([] : List Addr) from z)) (by simp)
      | some u =>
        rcases scrT_some q with ⟨e1, _⟩ | ⟨_, z1, z2, z3⟩
        · exact absurd e1 nb
        · subst z3
          have z4 := un.frzs b _ _ q
          rw [z1, ha] at e
          cases e
          exact (ok' b _ z4).1
    have CH : PySem.W.CodeHd s₁.heap c t := PySem.W.codeHd_of_K KX hC
    refine ⟨rfl, ⟨fun b o e => ?_, fun b o e => ?_⟩, os, bare⟩
    · by_cases hb : b = t
      · subst hb
        rw [hT] at e
        cases e
        exact .inr (.inl ⟨(CH.tab hT).isCodeTable, rfl, #[], _, rfl, by rw [Array.empty_append]; exact hm⟩)
      · exact .inl (key b o hb e)
    · by_cases hb : b = t
      · subst hb; exact ⟨_, hm⟩
      · exact ⟨o, key b o hb e⟩
end
theorem walkT {l : PySem.W.OpenLaw} {n k : Nat} {q : Program} {loose : List Str} {XP : (Str → Option Value) → Heap → Prop} {YP : World → Heap → Prop} {d : DefRec} {K : Params → PySem.W.Frag} {sp : PySem.W.Frag → Addr → Str → Sp} {x : Str} (c t : Addr) (qn : Str)
    (hn : l.most = some n) (hn2 : n ≤ sizeLine) (hdf : d.params.defaults = []) (hr : Room k callerA) (hY : ∀ (w : World) (h : Heap), YP w h → (K w.params).In h) (hT : ∀ (w : World) (h : Heap), YP w h → h.get? t = some { cls := .none, data := .fields #[] })
    (nT : ∀ w : World, (K w.params).lookup t = none) (hC : ∀ w : World, PySem.W.codeHdIn (K w.params) c t = true)
    (G : ∀ (w : World) (mg : Str → Option Value) (fa : Addr) (h : Heap), (K w.params).In h → h.Ns mainGlobals mg → mg d.name = some (.ref fa) →
      ∃ fd : FuncData, (∀ (s : Shared) (u : Value), BindsTo s fd ⟨[u], []⟩ [(x, u)]) ∧ ∀ base : Heap, (K w.params).In base → base.Ns mainGlobals mg → LamX.TabB base mg c t → FnG l.prog w (K w.params) mg base k fa fd [x] (sp (K w.params) t qn))
    (hsp : ∀ (K : PySem.W.Frag) (H : Hp) (a : Addr) (ns : List Int), ns.length ≤ n → OnlyT t H → H t = some (.tbl #[]) → SqL K H a (ns.map V.int) → sp K t qn [.ref a] H (fun v _ => v = .bl true) fun _ _ _ => False) : PySem.W.WalkO q loose XP YP l.row.toRowW d [] (fun f vs => PySem.call f vs) := by
  refine Att.attach_call hn hdf fun w s₀ s₁ mg mb fa o pm cd doc a vs ns Gd Y _ _ _ hmg hobj hints hlen hgen => ?_
  obtain ⟨fd, hb, hG⟩ := G w mg fa _ (hY w _ Y) Gd.T.g hmg
  exact law_goesT (hY w _ Y) Gd.T.g Gd.T.b Gd.T.builtins Gd.T.nolimit hgen (hT w _ Y) (nT w) (hC w) Gd.T.bmain hobj hints (Nat.le_trans hlen hn2) hr hG hb fun H hO hS hq => hsp _ H a ns hlen hO hS hq
end Pw
set_option Elab.async false
set_option linter.all false
set_option maxRecDepth 100000
namespace Pw
open PySem PySem.Spec PyProof.Rows L2
section
variable {P : Program} {w : World} {K : PySem.W.Frag} {mg : Str → Option Value} {base : Heap} {k j : Nat} {f : Addr} {fd : FuncData} {ps N : List Str} {sp sp' : Sp} {x qual : Str} {st : Stmt}
/-- a def by its body, raw -/
theorem fnG_rawC (F : Fun K x qual st f fd) (S : FnScope N ps (defScope st)) (cnt : ∀ vs H Q E, sp vs H Q E → vs.length = ps.length)
    (hb : ∀ (cdv : Value), (∃ (kV doc pm : Value) (an : Option Addr) (ct : Value), fd = PySem.W.fnOf x qual (defArgs st) (defBody st) (defScope st) .none kV doc pm an cdv ct) → ∀ (A : Around) (outer : List Env) (s : Shared) (H : Hp) (vs : List V) (Q : VK) (E : XK), Room k (A.deeper (envOfC qual (defScope st) s.heap.objs.size f cdv)) → A.guards = some [] → sp vs H Q E →
      ∃ t, PSs (cxOf (L2.CX P w) P w K mg base N qual (defScope st) f cdv A outer s H E) (defBody st) t ∧ t { nx := fun _ H' => Q .non H', rt := Q } (start N vs) H) : FnG P w K mg base (k + 1) f fd ps sp := by
  obtain ⟨oc, od, kV, doc, pm, an, cdv, ct, osl, rfl, lk, hcd⟩ := F.ex
  refine ⟨cnt, fun A outer s H args us vs Q E hr hg e0 hbi r hsp => ?_⟩
  have hkind : ∀ y ∈ ps.zip us, (defScope st).names.lookup y.1 = some .local ∨ ((defScope st).names.lookup y.1 = some .cell ∧ ((cellsFrom (s.heap.objs.size + 1) (defScope st).names []).lookup y.1).isSome = true) := by
    rintro ⟨n, v⟩ hy
    refine (S.par n (List.of_mem_zip hy).1).imp id fun q => ⟨q, PySem.W.cellsFrom_some _ _ _ (.inl q)⟩
  have kin : ∀ b o, base.get? b = some o → s.heap.get? b = some o := fun b o e => (e0.bs b o e).1
  have KX : K.In s.heap := e0.mod.kin.keeps kin
  refine codeAny_call_function hr.depth (KX _ _ lk) rfl S.co S.gen rfl (PySem.W.codeRec_of KX hcd) (hbi _ _ _ _ (wpAny_newFunctionEnv_cells S.kind hkind fun env he s1 y => ?_))
  subst he
  refine ⟨(e0.mod.nolimit.keeps kin).keeps y.toInCall.keep, codeAny_func ?_⟩
  obtain ⟨t, ht, hq⟩ := hb cdv ⟨kV, doc, pm, an, ct, rfl⟩ A outer s H vs Q E (hr.deeper _) hg hsp
  refine wpAny_mono (ht.run [] s1 (start N vs) H _ (inv_start S hr.hd e0 (cnt _ _ _ _ hsp) r y) hq) (fun fl s' hs => ?_) fun e s' hs => hs
  have done : ∀ {σ' : L2.St} {H' : Hp} {v : V} {u : Value}, Inv (cxOf (L2.CX P w) P w K mg base N qual (defScope st) f cdv A outer s H E) [] σ' H' s' → RelV v u → Q v H' → CE outer P w H s Q u s' := by
    intro σ' H' v u J rv q
    exact ⟨v, H', J.os, J.bare, J.base, J.hok, rv, q⟩
  match fl, hs with
  | .ret u, ⟨v, σ', H', J, rv, q⟩ => exact done J rv q
  | .next, ⟨σ', H', J, q⟩ => exact done (v := V.non) (u := Value.none) J rfl q
  | .brk, ⟨_, _, _, q⟩ => exact q.elim
  | .cont, ⟨_, _, _, q⟩ => exact q.elim
end
/-- a slot whose name is none of the def's names may hold anything -/
theorem Inv.ghost {X : Cx} {pins : List (Addr × Obj)} {σ : L2.St} {H : Hp} {s : Shared} {g : Nat} {v : Option V} {y : Str} (I : Inv X pins σ H s) (hg : X.N[g]? = some y) (hv : ¬ Vis X.env.scope y) : Inv X pins (σ.set g v) H s :=
  ⟨I.ok, I.os, I.bare, I.base, let ⟨m, hn, hl'⟩ := I.loc; ⟨m, hn, fun i x v e1 e2 e3 => by
    by_cases hi : g = i
    · subst hi
      rw [hg] at e1
      cases e1
      exact absurd e3 hv
    · rw [List.getElem?_set_ne hi] at e2
      exact hl' i x v e1 e2 e3⟩, I.cell, I.free, I.freeC, I.pin, I.hok, by rw [List.length_set]; exact I.len⟩
def lawN : Str := ("law" : Str) ++ ".<locals>." ++ "<lambda>"
def spLawT (K : PySem.W.Frag) (t : Addr) (_ : Str) : Sp := fun vs H Q _ => ∃ (a : Addr) (ns : List Int), vs = [.ref a] ∧ ns.length ≤ 63 ∧ SqL K H a (ns.map V.int) ∧ H t = some (.tbl #[]) ∧ ∀ H', Q (.bl true) H'
def lawT (n g : Nat) (sr : Src) : S := ⟨none :: some .src :: (List.replicate (n - 2) none).set g (some .tb), some sr⟩
def tLawT (K : PySem.W.Frag) (t : Addr) (qn : Str) (g : Nat) (W : WX) (m : Sm) : TS := fun D σ H => ∃ Z : Zx, Z.K = K ∧ Z.Xn = none ∧ Z.Tb = some (t, qn) ∧ (∀ b, Z.H0 b = none) ∧ (∀ b, ¬ Z.Oc b) ∧ LS Z W m D (σ.set g (some (.ref t))) H
theorem mild_tb {x} : Mild (x, some SV.tb) := fun _ h => by cases h
section
variable {P : Program} {w : World} {K : PySem.W.Frag} {mg : Str → Option Value} {base : Heap} {k ks : Nat} {f cc t : Addr} {fd : FuncData} {st : Stmt} {N : List Str}
theorem law_ofT {FS : Fd} {m : Sm} {g : Nat} {gy : Str} {p1 p2 p3 p4 p5 : Pos} {rest : List Stmt} (F : Fun K "law" "law" st f fd) (hcv : ∀ (kV doc pm : Value) (an : Option Addr) (cdv ct : Value), fd = PySem.W.fnOf "law" "law" (defArgs st) (defBody st) (defScope st) .none kV doc pm an cdv ct → cdv = .ref cc)
    (S : FnScope ("script" :: "source" :: N) ["script"] (defScope st)) (hb : defBody st = .Assign [.Name "source" p1] (.Call (.Name "_law_source" p2) [.Name "script" p3] [] p4) p5 :: rest)
    (GS : CalG P w K mg base ks "_law_source" 1 FS) (hks : ks ≤ k) (hsrc : ∀ ns : List Int, ns.length ≤ 63 → ∃ sr s', FS [.scr ns] none = .ok (.own (srcD sr)) s' ∧ s'.src = none ∧ sr.cells.length ≤ 63)
    (gl : (defScope st).names.lookup ("_law_source" : Str) = some .globalImplicit) (ls : Loc (defScope st) "source") (lv : Vis (defScope st) "script") (hgN : N[g]? = some gy) (hgv : ¬ Vis (defScope st) gy)
    (hd : ∀ (A : Around) (outer : List Env) (s : Shared) (H : Hp) (E : XK) (Z : Zx), Z.Xn = none → Z.Tb = some (t, lawN) → (∀ b, Z.H0 b = none) → (∀ b, ¬ Z.Oc b) → Room k (A.deeper (envOfC "law" (defScope st) s.heap.objs.size f (.ref cc))) → A.guards = some [] → SnB (cxOf (L2.CX P w) P w K mg base ("script" :: "source" :: N) "law" (defScope st) f (.ref cc) A outer s H E) Z (fun cls d _ H => E cls d H) rest m)
    (hm : ∀ sr : Src, sr.cells.length ≤ 63 → (m (lawT (N.length + 2) g sr)).sat (fun fl _ => fl = .ret (.sh (.bool true))) fun _ _ => False)
    (hsw : ∀ env : Env, swapsWith (.Call (.Name "_law_source" p2) [.Name "script" p3] [] p4) (some (.Name "source" p1)) p5.line env = pure false) :
    FnG P w K mg base (k + 1) f fd ["script"] (spLawT K t lawN) := by
  refine fnG_rawC F S (fun vs H Q E ⟨a, ns, e, _⟩ => by rw [e]; rfl) fun cdv ⟨kV, doc, pm, an, ct, efd⟩ A outer s H vs Q E hr hg ⟨a, ns, ev, hlen, hS, hTt, q⟩ => ?_
  have ecd := hcv _ _ _ _ _ _ efd
  subst ecd
  subst ev
  rw [hb]
  obtain ⟨sr, s', eF, es, hsr⟩ := hsrc ns hlen
  have tk : Takes (cxOf (L2.CX P w) P w K mg base ("script" :: "source" :: N) "law" (defScope st) f (.ref cc) A outer s H E) (fun cls d _ H => E cls d H) := takes_of rfl rfl rfl rfl
  have h1 : SnS (cxOf (L2.CX P w) P w K mg base ("script" :: "source" :: N) "law" (defScope st) f (.ref cc) A outer s H E) ⟨K, H, fun _ => False, none, none, none, none⟩ (fun cls d _ H => E cls d H) (.Assign [.Name "source" p1] (.Call (.Name "_law_source" p2) [.Name "script" p3] [] p4) p5) (cAsg (cCall 1 FS (cCons (cVar 0) cNil)) (gNm 1)) :=
    snS_set (i := 1) S.nd rfl ls (snE_cal GS (hr.mono hks) hg gl tk (snA_cons (snE_var (pe_var rfl lv)) snA_nil)) (hsw _) (.inl rfl)
  have hgN' : (("script" :: "source" :: N : List Str))[g + 2]? = some gy := by simpa using hgN
  have h2 : PSs (cxOf (L2.CX P w) P w K mg base ("script" :: "source" :: N) "law" (defScope st) f (.ref cc) A outer s H E) rest (tLawT K t lawN (g + 2) (fun cls d _ H => E cls d H) m) := ⟨fun pins s1 σ H1 D I ⟨Z, e1, e2, e3, e4, e5, z⟩ => (hd A outer s H E Z e2 e3 e4 e5 hr hg e1.symm).run pins s1 _ H1 D (Inv.ghost I hgN' hgv) z⟩
  have R0 : Rel ⟨K, H, fun _ => False, none, none, none, none⟩ H none (List.zip (L2.start ("script" :: "source" :: N) [.ref a]) (padS (N.length + 2) [.scr ns])) := by
    have e : List.zip (L2.start ("script" :: "source" :: N) [.ref a]) (padS (N.length + 2) [.scr ns]) = (some (.ref a), some (.scr ns)) :: List.zip (List.replicate (N.length + 1) none) (List.replicate (N.length + 1) none) := rfl
    rw [e]
    have r1 : Rel ⟨K, H, fun _ => False, none, none, none, none⟩ H none [(some (V.ref a), some (SV.scr ns))] := by
      refine ⟨fun _ => False, fun _ z => z, fun e he s z => ?_, List.pairwise_singleton _ _, trivial, fun b x e _ => e, fun _ z => z.elim⟩
      cases List.mem_singleton.mp he
      cases z
      exact ⟨_, rfl, a, rfl, hS.imp (fun z => ⟨z, id⟩) id⟩
    exact (Rel.trivZip r1 (σ := List.replicate (N.length + 1) none) (n := N.length + 1)).perm (List.perm_append_singleton _ _)
  refine ⟨_, pss_cons (h1 rfl) h2, [], ⟨padS (N.length + 2) [.scr ns], none⟩, ⟨by simp [L2.start, padS], R0⟩, ?_⟩
  have ev : cAsg (cCall 1 FS (cCons (cVar 0) cNil)) (gNm 1) ⟨padS (N.length + 2) [.scr ns], none⟩ = .ok .nx ⟨(padS (N.length + 2) [.scr ns]).set 1 (some (.own (srcD sr))), none⟩ := by
    have e0 : (padS (N.length + 2) [.scr ns])[0]? = some (some (.scr ns)) := rfl
    have e1 : cVar 0 ⟨padS (N.length + 2) [.scr ns], none⟩ = .ok (.scr ns) ⟨padS (N.length + 2) [.scr ns], none⟩ := by
      unfold cVar
      dsimp only
      rw [e0]
    unfold cAsg cCall cCons cNil
    rw [e1]
    simp only [Res.bind, SV.settle, appF, okA, List.length_cons, List.length_nil, and_self, if_true, eF, gNm, es]
  rw [ev]
  intro σ H1 R
  obtain ⟨hl, O, RO⟩ := id R
  have hl : σ.length = N.length + 2 := by simpa [padS] using hl
  have hT1 : H1 t = some (.tbl #[]) := RO.base t _ hTt id
  match σ, hl with
  | σ0 :: o1 :: σr, hl =>
    have hlr : σr.length = N.length := by simpa using hl
    have m1 : (o1, some (SV.own (srcD sr))) ∈ [] ++ List.zip (σ0 :: o1 :: σr) ((padS (N.length + 2) [SV.scr ns]).set 1 (some (SV.own (srcD sr)))) := by
      have e : (padS (N.length + 2) [SV.scr ns]).set 1 (some (SV.own (srcD sr))) = some (.scr ns) :: some (.own (srcD sr)) :: List.replicate N.length none := rfl
      rw [e]
      simp
    obtain ⟨v, e1, c, e2, oc, _, _, kvs, hc, rc⟩ := RO.ent _ m1 _ rfl
    have e1 : o1 = some v := e1
    subst e1 e2
    obtain ⟨y, ek, hy, ny⟩ := rpD_src rc
    subst ek
    have ncy : c ≠ y := fun z => by
      rw [z, hy] at hc
      cases hc
    have nt : ¬ (t = c ∨ t = y) := fun z => by
      rcases z with rfl | rfl
      · rw [hT1] at hc; cases hc
      · rw [hT1] at hy; cases hy
    have r1 : Rel ⟨K, fun _ => none, fun _ => False, some (c, y), none, some (t, lawN), none⟩ H1 (some sr) [(some (V.ref t), some SV.tb), (some (V.ref c), some SV.src)] := by
      refine ⟨fun b => b = c ∨ b = y, fun _ z => z.elim, fun e he s z => ?_, ?_, ⟨ncy, .inl rfl, .inr rfl, hc, hy⟩, fun b x e _ => (nomatch e), fun b z => ?_⟩
      · rcases List.mem_cons.mp he with rfl | he
        · cases z
          refine ⟨_, rfl, t, lawN, rfl, rfl, nt, #[], hT1, True.intro, fun pos cv hcv => ?_⟩
          have z : codeAmong pos [] = some cv := hcv
          simp [codeAmong] at z
        · cases List.mem_singleton.mp he
          cases z
          exact ⟨_, rfl, c, y, rfl, rfl⟩
      · exact List.pairwise_cons.mpr ⟨fun _ _ => mild_tb.apart, List.pairwise_singleton _ _⟩
      · rcases z with rfl | rfl
        · exact ⟨_, hc⟩
        · exact ⟨_, hy⟩
    refine ⟨⟨K, fun _ => none, fun _ => False, some (c, y), none, some (t, lawN), none⟩, rfl, rfl, rfl, fun _ => rfl, fun _ z => z, [], lawT (N.length + 2) g sr, ⟨by simp [lawT, hlr], ?_⟩, Res.sat_mono (hm sr hsr) (fun fl s2 e => ?_) fun _ _ z => z.elim⟩
    · have r2 : Rel ⟨K, fun _ => none, fun _ => False, some (c, y), none, some (t, lawN), none⟩ H1 (some sr) ((some (V.ref t), some SV.tb) :: ([(some (V.ref c), some SV.src)] ++ List.zip σr (List.replicate N.length none))) :=
        (Rel.trivZip r1 (σ := σr) (n := N.length)).perm (List.perm_append_comm.trans (by simp))
      have r3 := Rel.putSlot (i := g) r2 (by simp [hlr])
      have e : List.zip ((σ0 :: some (V.ref c) :: σr).set (g + 2) (some (V.ref t))) (lawT (N.length + 2) g sr).sl = (σ0, none) :: (some (V.ref c), some SV.src) :: List.zip (σr.set g (some (V.ref t))) ((List.replicate N.length none).set g (some SV.tb)) := rfl
      show Rel _ H1 (some sr) ([] ++ List.zip ((σ0 :: some (V.ref c) :: σr).set (g + 2) (some (V.ref t))) (lawT (N.length + 2) g sr).sl)
      rw [List.nil_append, e]
      exact Rel.triv r3
    · subst e
      intro u σ2 H2 R2
      obtain ⟨O2, R3⟩ := R2.2
      have : u = .bl true := R3.bl ⟨.sh (.bool true), by simp, rfl⟩
      subst this
      exact q H2
end
end Pw
set_option Elab.async false
set_option linter.all false
set_option maxRecDepth 100000
namespace Pw
namespace Wd
/-! ### words by runs -/
variable {α : Type} [DecidableEq α]
abbrev RL (α : Type) := List (α × Nat)
def exp (w : RL α) : List α := w.flatMap fun p => List.replicate p.2 p.1
def addRun (acc : RL α) (p : α × Nat) : RL α :=
  if p.2 = 0 then acc else match acc.getLast? with
  | none => [p]
  | some q => if q.1 = p.1 then acc.dropLast ++ [(q.1, q.2 + p.2)] else acc ++ [p]
def told (ps : RL α) : RL α := ps.foldl addRun []
def sing (l : List α) : RL α := l.map fun a => (a, 1)
def rle (l : List α) : RL α := told (sing l)
theorem addRun_nil {p : α × Nat} (h : p.2 ≠ 0) : addRun [] p = [p] := by simp [addRun, h]
theorem addRun_zero {acc : RL α} {p : α × Nat} (h : p.2 = 0) : addRun acc p = acc := by simp [addRun, h]
theorem addRun_same {acc : RL α} {q p : α × Nat} (h : p.2 ≠ 0) (e : q.1 = p.1) : addRun (acc ++ [q]) p = acc ++ [(q.1, q.2 + p.2)] := by simp [addRun, h, e]
theorem addRun_new {acc : RL α} {q p : α × Nat} (h : p.2 ≠ 0) (e : q.1 ≠ p.1) : addRun (acc ++ [q]) p = acc ++ [q] ++ [p] := by simp [addRun, h, e]
theorem snoc_cases (l : List β) : l = [] ∨ ∃ i x, l = i ++ [x] := by
  rcases List.eq_nil_or_concat l with h | ⟨i, x, h⟩
  · exact .inl h
  · exact .inr ⟨i, x, by simpa using h⟩
theorem exp_nil : exp ([] : RL α) = [] := rfl
theorem exp_cons (p : α × Nat) (w : RL α) : exp (p :: w) = List.replicate p.2 p.1 ++ exp w := by simp [exp]
theorem exp_app (u v : RL α) : exp (u ++ v) = exp u ++ exp v := by simp [exp]
theorem exp_one (p : α × Nat) : exp [p] = List.replicate p.2 p.1 := by simp [exp]
theorem exp_sing (l : List α) : exp (sing l) = l := by
  induction l with
  | nil => rfl
  | cons a l ih =>
    have : sing (a :: l) = (a, 1) :: sing l := rfl
    rw [this, exp_cons, ih]
    rfl
theorem exp_addRun (acc : RL α) (p : α × Nat) : exp (addRun acc p) = exp acc ++ List.replicate p.2 p.1 := by
  by_cases h : p.2 = 0
  · rw [addRun_zero h, h]
    simp
  · rcases snoc_cases acc with rfl | ⟨i, q, rfl⟩
    · rw [addRun_nil h, exp_one]
      rfl
    · by_cases e : q.1 = p.1
      · rw [addRun_same h e, exp_app, exp_app, exp_one, exp_one, List.append_assoc, ← e, List.replicate_append_replicate]
      · rw [addRun_new h e, exp_app, exp_one]
theorem exp_fold : ∀ (ps acc : RL α), exp (ps.foldl addRun acc) = exp acc ++ exp ps
  | [], acc => by simp [exp_nil]
  | p :: ps, acc => by rw [List.foldl_cons, exp_fold ps, exp_addRun, exp_cons, List.append_assoc]
theorem exp_told (ps : RL α) : exp (told ps) = exp ps := by
  unfold told
  rw [exp_fold]
  rfl
theorem exp_rle (l : List α) : exp (rle l) = l := by rw [rle, exp_told, exp_sing]
/-- runs as they should be -/
structure Nrm (w : RL α) : Prop where
  pos : ∀ p ∈ w, 0 < p.2
  adj : ∀ (x y : RL α) (p q : α × Nat), w = x ++ p :: q :: y → p.1 ≠ q.1
theorem nrm_nil : Nrm ([] : RL α) := ⟨fun _ h => (by simp at h), fun x y p q e => by simp at e⟩
theorem nrm_one {p : α × Nat} (h : 0 < p.2) : Nrm [p] := ⟨fun q hq => by simp at hq; rw [hq]; exact h, fun x y p q e => by
  cases x with
  | nil => simp at e
  | cons a x => simp at e⟩
theorem Nrm.left {u v : RL α} (h : Nrm (u ++ v)) : Nrm u := ⟨fun p hp => h.pos p (List.mem_append_left _ hp), fun x y p q e => h.adj x (y ++ v) p q (by rw [e]; simp)⟩
theorem Nrm.right {u v : RL α} (h : Nrm (u ++ v)) : Nrm v := ⟨fun p hp => h.pos p (List.mem_append_right _ hp), fun x y p q e => h.adj (u ++ x) y p q (by rw [e]; simp)⟩
theorem Nrm.tail {p : α × Nat} {v : RL α} (h : Nrm (p :: v)) : Nrm v := Nrm.right (u := [p]) h
/-- two put together -/
theorem Nrm.app {u v : RL α} (hu : Nrm u) (hv : Nrm v) (h : ∀ i p q y, u = i ++ [p] → v = q :: y → p.1 ≠ q.1) : Nrm (u ++ v) := by
  refine ⟨fun p hp => (List.mem_append.mp hp).elim (hu.pos p) (hv.pos p), fun x y p q e => ?_⟩
  rcases List.append_eq_append_iff.mp e with ⟨c, e1, e2⟩ | ⟨c, e1, e2⟩
  · exact hv.adj c y p q e2
  · cases c with
    | nil => exact hv.adj [] y p q (by simpa using e2.symm)
    | cons a c =>
      simp only [List.cons_append, List.cons.injEq] at e2
      obtain ⟨rfl, e2⟩ := e2
      cases c with
      | nil => exact h x p q y e1 (by simpa using e2.symm)
      | cons b c =>
        simp only [List.cons_append, List.cons.injEq] at e2
        obtain ⟨rfl, e2⟩ := e2
        exact hu.adj x c p q e1
theorem nrm_addRun {acc : RL α} (ha : Nrm acc) (p : α × Nat) : Nrm (addRun acc p) := by
  by_cases h : p.2 = 0
  · rw [addRun_zero h]
    exact ha
  · have h0 : 0 < p.2 := Nat.pos_of_ne_zero h
    rcases snoc_cases acc with rfl | ⟨i, q, rfl⟩
    · rw [addRun_nil h]
      exact nrm_one h0
    · by_cases e : q.1 = p.1
      · rw [addRun_same h e]
        refine ha.left.app (nrm_one (by show 0 < q.2 + p.2; omega)) fun i' p' q' y' e1 e2 => ?_
        simp only [List.cons.injEq] at e2
        obtain ⟨rfl, _⟩ := e2
        exact ha.adj i' [] p' q (by rw [e1]; simp)
      · rw [addRun_new h e]
        refine ha.app (nrm_one h0) fun i' p' q' y' e1 e2 => ?_
        simp only [List.cons.injEq] at e2
        obtain ⟨rfl, _⟩ := e2
        have := List.append_inj_right' e1 rfl
        simp only [List.cons.injEq, and_true] at this
        rw [← this]
        exact e
theorem nrm_fold : ∀ (ps acc : RL α), Nrm acc → Nrm (ps.foldl addRun acc)
  | [], acc, h => h
  | p :: ps, acc, h => nrm_fold ps _ (nrm_addRun h p)
theorem nrm_told (ps : RL α) : Nrm (told ps) := nrm_fold ps [] nrm_nil
theorem nrm_rle (l : List α) : Nrm (rle l) := nrm_told _
theorem fold_nrm : ∀ (u acc : RL α), Nrm (acc ++ u) → u.foldl addRun acc = acc ++ u
  | [], acc, h => by simp
  | p :: u, acc, h => by
    have h0 : p.2 ≠ 0 := Nat.ne_of_gt (h.pos p (by simp))
    have e : addRun acc p = acc ++ [p] := by
      rcases snoc_cases acc with rfl | ⟨i, q, rfl⟩
      · rw [addRun_nil h0]
        rfl
      · exact addRun_new h0 (h.adj i u q p (by simp))
    rw [List.foldl_cons, e, fold_nrm u (acc ++ [p]) (by simpa using h)]
    simp
theorem told_nrm {u : RL α} (h : Nrm u) : told u = u := by
  unfold told
  rw [fold_nrm u [] (by simpa using h)]
  rfl
/-- runs put together of parts -/
theorem addRun_addRun (acc : RL α) (a : α) (m k : Nat) : addRun (addRun acc (a, m)) (a, k) = addRun acc (a, m + k) := by
  by_cases hm : m = 0
  · subst hm
    rw [addRun_zero (acc := acc) (p := (a, 0)) rfl, Nat.zero_add]
  · by_cases hk : k = 0
    · subst hk
      rw [addRun_zero (p := (a, 0)) rfl]
      rfl
    · have hmk : m + k ≠ 0 := by omega
      rcases snoc_cases acc with rfl | ⟨i, q, rfl⟩
      · rw [addRun_nil (p := (a, m)) hm, addRun_nil (p := (a, m + k)) hmk]
        exact addRun_same (acc := []) (q := (a, m)) (p := (a, k)) hk rfl
      · by_cases e : q.1 = a
        · rw [addRun_same (p := (a, m)) hm e, addRun_same (p := (a, m + k)) hmk e, addRun_same (q := (q.1, q.2 + m)) (p := (a, k)) hk e]
          simp [Nat.add_assoc]
        · rw [addRun_new (p := (a, m)) hm e, addRun_new (p := (a, m + k)) hmk e, addRun_same (q := (a, m)) (p := (a, k)) hk rfl]
theorem fold_rep (a : α) : ∀ (n : Nat) (acc : RL α), (List.replicate n (a, 1)).foldl addRun acc = addRun acc (a, n)
  | 0, acc => by rw [addRun_zero (p := (a, 0)) rfl]; rfl
  | n + 1, acc => by
    rw [List.replicate_succ, List.foldl_cons, fold_rep a n, addRun_addRun, Nat.add_comm]
theorem fold_sing : ∀ (ps acc : RL α), (sing (exp ps)).foldl addRun acc = ps.foldl addRun acc
  | [], acc => rfl
  | p :: ps, acc => by
    have e : sing (exp (p :: ps)) = List.replicate p.2 (p.1, 1) ++ sing (exp ps) := by
      rw [exp_cons]
      unfold sing
      rw [List.map_append, List.map_replicate]
    rw [e, List.foldl_append, fold_rep, fold_sing ps, List.foldl_cons]
theorem told_eq (ps : RL α) : told ps = rle (exp ps) := (fold_sing ps []).symm
theorem rle_exp {u : RL α} (h : Nrm u) : rle (exp u) = u := by rw [← told_eq, told_nrm h]
theorem exp_inj {u v : RL α} (hu : Nrm u) (hv : Nrm v) (e : exp u = exp v) : u = v := by rw [← rle_exp hu, e, rle_exp hv]
theorem rle_inj {a b : List α} (e : rle a = rle b) : a = b := by rw [← exp_rle a, e, exp_rle]
theorem rle_iff {a b : List α} : rle a = rle b ↔ a = b := ⟨rle_inj, fun e => by rw [e]⟩
theorem rle_of {u : RL α} {l : List α} (h : Nrm u) (e : exp u = l) : u = rle l := by rw [← e, rle_exp h]
theorem rle_nil : rle ([] : List α) = [] := rfl
theorem rle_ne {l : List α} (h : l ≠ []) : rle l ≠ [] := fun e => h (by rw [← exp_rle l, e]; rfl)
theorem rle_eq_nil {l : List α} : rle l = [] ↔ l = [] := ⟨fun e => by rw [← exp_rle l, e]; rfl, fun e => by rw [e]; rfl⟩
/-! ### how many -/
def tot (w : RL α) : Nat := (w.map (·.2)).sum
theorem len_exp (w : RL α) : (exp w).length = tot w := by
  induction w with
  | nil => rfl
  | cons p w ih => rw [exp_cons, List.length_append, List.length_replicate, ih]; simp [tot]
theorem addRun_len (acc : RL α) (p : α × Nat) : (addRun acc p).length ≤ acc.length + 1 := by
  by_cases h : p.2 = 0
  · rw [addRun_zero h]; omega
  · rcases snoc_cases acc with rfl | ⟨i, q, rfl⟩
    · rw [addRun_nil h]; simp
    · by_cases e : q.1 = p.1
      · rw [addRun_same h e]; simp
      · rw [addRun_new h e]; simp
theorem told_len (ps : RL α) : (told ps).length ≤ ps.length := by
  have : ∀ (ps acc : RL α), (ps.foldl addRun acc).length ≤ acc.length + ps.length := by
    intro ps
    induction ps with
    | nil => intro acc; simp
    | cons p ps ih =>
      intro acc
      rw [List.foldl_cons]
      refine Nat.le_trans (ih _) ?_
      have : (addRun acc p).length ≤ acc.length + 1 := by
        by_cases h : p.2 = 0
        · rw [addRun_zero h]; omega
        · rcases snoc_cases acc with rfl | ⟨i, q, rfl⟩
          · rw [addRun_nil h]; simp
          · by_cases e : q.1 = p.1
            · rw [addRun_same h e]; simp
            · rw [addRun_new h e]; simp
      simp
      omega
  simpa [told] using this ps []
theorem rle_len (l : List α) : (rle l).length ≤ l.length := by
  have := told_len (sing l)
  simpa [sing, rle] using this
theorem mem_exp {w : RL α} {a : α} : a ∈ exp w ↔ ∃ p ∈ w, p.1 = a ∧ p.2 ≠ 0 := by
  unfold exp
  rw [List.mem_flatMap]
  constructor
  · rintro ⟨p, hp, h⟩
    rw [List.mem_replicate] at h
    exact ⟨p, hp, h.2.symm, h.1⟩
  · rintro ⟨p, hp, h1, h2⟩
    exact ⟨p, hp, List.mem_replicate.mpr ⟨h2, h1.symm⟩⟩
theorem count_le {w : RL α} {p : α × Nat} (h : p ∈ w) : p.2 ≤ tot w := by
  induction w with
  | nil => simp at h
  | cons q w ih =>
    simp only [tot, List.map_cons, List.sum_cons] at ih ⊢
    rcases List.mem_cons.mp h with rfl | h
    · omega
    · have := ih h
      omega
theorem rle_count {l : List α} {p : α × Nat} (h : p ∈ rle l) : p.2 ≤ l.length := by
  have := count_le h
  rwa [← len_exp, exp_rle] at this
theorem rle_mem {l : List α} {p : α × Nat} (h : p ∈ rle l) : p.1 ∈ l := by
  have : p.1 ∈ exp (rle l) := mem_exp.mpr ⟨p, h, rfl, Nat.ne_of_gt ((nrm_rle l).pos p h)⟩
  rwa [exp_rle] at this
/-! ### backwards -/
theorem exp_rev (w : RL α) : exp w.reverse = (exp w).reverse := by
  induction w with
  | nil => rfl
  | cons p w ih => rw [List.reverse_cons, exp_app, exp_one, ih, exp_cons, List.reverse_append, List.reverse_replicate]
theorem Nrm.rev {w : RL α} (h : Nrm w) : Nrm w.reverse := ⟨fun p hp => h.pos p (List.mem_reverse.mp hp), fun x y p q e => by
  have e2 := congrArg List.reverse e
  rw [List.reverse_reverse] at e2
  exact fun z => h.adj y.reverse x.reverse q p (by rw [e2]; simp) z.symm⟩
theorem rle_rev (l : List α) : (rle l).reverse = rle l.reverse := rle_of (nrm_rle l).rev (by rw [exp_rev, exp_rle])
end Wd
end Pw
set_option Elab.async false
set_option linter.all false
set_option maxRecDepth 100000
namespace Pw
namespace Wd
/-! ### endless words, powers, roots -/
section
variable {β : Type}
def Pd (f : Nat → β) (d : Nat) : Prop := ∀ i, f (i + d) = f i
theorem Pd.mul {f : Nat → β} {d : Nat} (h : Pd f d) : ∀ k, Pd f (d * k)
  | 0, i => by simp
  | k + 1, i => by
    rw [Nat.mul_succ, ← Nat.add_assoc, h, h.mul k]
theorem Pd.gcd {f : Nat → β} : ∀ (a b : Nat), Pd f a → Pd f b → Pd f (Nat.gcd a b) := by
  intro a b
  induction a, b using Nat.gcd.induction with
  | H0 n => intro _ h; rwa [Nat.gcd_zero_left]
  | H1 m n hm ih =>
    intro h1 h2
    rw [Nat.gcd_rec]
    refine ih (fun i => ?_) h1
    have e : i + n = i + n % m + m * (n / m) := by
      have := Nat.div_add_mod n m
      omega
    rw [← h2 i, e, h1.mul]
/-- agreeing as long as both periods together is agreeing for ever -/
theorem fw {f g : Nat → β} {p q : Nat} (hp : 0 < p) (hq : 0 < q) (hf : Pd f p) (hg : Pd g q) (h : ∀ i, i < p + q → f i = g i) : ∀ i, f i = g i := by
  intro i
  induction i using Nat.strongRecOn with
  | ind i ih =>
    by_cases hi : i < p + q
    · exact h i hi
    · have e1 : i - p + p = i := by omega
      have e2 : i - q + q = i := by omega
      have e3 : i - p - q + q = i - p := by omega
      have e4 : i - q - p + p = i - q := by omega
      have a1 : f i = g (i - p - q) := by
        have := hf (i - p)
        rw [e1] at this
        rw [this, ih (i - p) (by omega)]
        have := hg (i - p - q)
        rw [e3] at this
        exact this
      have a2 : g i = f (i - q - p) := by
        have := hg (i - q)
        rw [e2] at this
        rw [this, ← ih (i - q) (by omega)]
        have := hf (i - q - p)
        rw [e4] at this
        exact this
      rw [a1, a2, ← ih (i - p - q) (by omega)]
      congr 1
      omega
end
section
variable {α : Type} [DecidableEq α]
def pw (l : List α) (k : Nat) : List α := (List.replicate k l).flatten
theorem pw_zero (l : List α) : pw l 0 = [] := rfl
theorem pw_succ (l : List α) (k : Nat) : pw l (k + 1) = l ++ pw l k := by simp [pw, List.replicate_succ]
theorem pw_one (l : List α) : pw l 1 = l := by simp [pw]
theorem pw_add (l : List α) (a b : Nat) : pw l (a + b) = pw l a ++ pw l b := by
  unfold pw
  rw [← List.flatten_append, List.replicate_append_replicate]
theorem pw_len (l : List α) (k : Nat) : (pw l k).length = l.length * k := by
  induction k with
  | zero => simp [pw_zero]
  | succ k ih => rw [pw_succ, List.length_append, ih, Nat.mul_succ]; omega
theorem pw_get (l : List α) : ∀ (k j : Nat), j < l.length * k → (pw l k)[j]? = l[j % l.length]?
  | 0, j, h => by simp at h
  | k + 1, j, h => by
    rw [pw_succ]
    by_cases hj : j < l.length
    · rw [List.getElem?_append_left hj, Nat.mod_eq_of_lt hj]
    · have h1 : l.length ≤ j := Nat.le_of_not_lt hj
      rw [List.getElem?_append_right h1, pw_get l k (j - l.length) (by rw [Nat.mul_succ] at h; omega)]
      congr 1
      conv => rhs; rw [show j = j - l.length + l.length by omega, Nat.add_mod_right]
theorem pw_pw (l : List α) (a b : Nat) : pw (pw l a) b = pw l (a * b) := by
  induction b with
  | zero => rfl
  | succ b ih => rw [pw_succ, ih, Nat.mul_succ, Nat.add_comm, pw_add]
theorem pw_nil (k : Nat) : pw ([] : List α) k = [] := by simp [pw]
theorem pw_ne {l : List α} {k : Nat} (h : l ≠ []) (hk : 0 < k) : pw l k ≠ [] := fun e => by
  have := congrArg List.length e
  rw [pw_len] at this
  have h1 := List.length_pos_iff.mpr h
  have := Nat.mul_pos h1 hk
  simp_all
theorem pw_rev (l : List α) (k : Nat) : (pw l k).reverse = pw l.reverse k := by
  induction k with
  | zero => rfl
  | succ k ih =>
    rw [pw_succ, List.reverse_append, ih]
    have : pw l.reverse (k + 1) = pw l.reverse k ++ pw l.reverse 1 := pw_add _ _ _
    rw [this, pw_one]
/-- a letter of an endless word -/
def om (l : List α) (i : Nat) : Option α := l[i % l.length]?
theorem om_lt {l : List α} {i : Nat} (h : i < l.length) : om l i = l[i]? := by unfold om; rw [Nat.mod_eq_of_lt h]
theorem om_pd (l : List α) : Pd (om l) l.length := fun i => by unfold om; rw [Nat.add_mod_right]
theorem om_some {l : List α} (h : l ≠ []) (i : Nat) : ∃ a ∈ l, om l i = some a := by
  have := List.length_pos_iff.mpr h
  have hi := Nat.mod_lt i this
  exact ⟨l[i % l.length], List.getElem_mem hi, by unfold om; exact List.getElem?_eq_getElem hi⟩
theorem om_pw {l : List α} {k : Nat} (hk : 0 < k) (i : Nat) : om (pw l k) i = om l i := by
  by_cases h : l = []
  · subst h
    rw [pw_nil]
  · have hl := List.length_pos_iff.mpr h
    unfold om
    rw [pw_len, pw_get l k _ (Nat.mod_lt _ (Nat.mul_pos hl hk)), Nat.mod_mul_right_mod]
/-- s letters, again and again, are all -/
def Per (l : List α) (s : Nat) : Prop := pw (l.take s) (l.length / s) = l
instance (l : List α) (s : Nat) : Decidable (Per l s) := inferInstanceAs (Decidable (_ = _))
theorem Per.dvd {l : List α} {s : Nat} (h : Per l s) (hs : s ≤ l.length) : s ∣ l.length := by
  have := congrArg List.length h
  rw [pw_len, List.length_take, Nat.min_eq_left hs] at this
  exact ⟨_, this.symm⟩
theorem take_ne {l : List α} {s : Nat} (h : 0 < s) (hl : l ≠ []) : l.take s ≠ [] := by
  intro e
  rcases List.take_eq_nil_iff.mp e with h' | h'
  · omega
  · exact hl h'
theorem div_pos' {n s : Nat} (h0 : 0 < s) (h : s ≤ n) : 0 < n / s := Nat.div_pos h h0
theorem Per.om {l : List α} {s : Nat} (h : Per l s) (h0 : 0 < s) (hs : s ≤ l.length) (i : Nat) : Wd.om l i = Wd.om (l.take s) i := by
  have e : Wd.om l i = Wd.om (pw (l.take s) (l.length / s)) i := by rw [h]
  rw [e, om_pw (div_pos' h0 hs)]
theorem Per.pd {l : List α} {s : Nat} (h : Per l s) (h0 : 0 < s) (hs : s ≤ l.length) : Pd (Wd.om l) s := fun i => by
  rw [h.om h0 hs, h.om h0 hs]
  have := om_pd (l.take s) i
  rwa [List.length_take, Nat.min_eq_left hs] at this
theorem per_of {l : List α} {s : Nat} (h0 : 0 < s) (hd : s ∣ l.length) (hl : l ≠ []) (h : Pd (om l) s) : Per l s := by
  have hn := List.length_pos_iff.mpr hl
  have hs : s ≤ l.length := Nat.le_of_dvd hn hd
  have hlen : (l.take s).length = s := by rw [List.length_take, Nat.min_eq_left hs]
  have hm : s * (l.length / s) = l.length := Nat.mul_div_cancel' hd
  apply List.ext_getElem?
  intro j
  by_cases hj : j < l.length
  · rw [pw_get _ _ _ (by rw [hlen, hm]; exact hj), hlen, List.getElem?_take_of_lt (Nat.mod_lt _ h0), ← om_lt (Nat.lt_of_lt_of_le (Nat.mod_lt _ h0) hs), ← om_lt hj]
    conv => rhs; rw [show j = j % s + s * (j / s) by have := Nat.div_add_mod j s; omega]
    rw [h.mul]
  · rw [List.getElem?_eq_none (by rw [pw_len, hlen, hm]; omega), List.getElem?_eq_none (by omega)]
theorem per_self (l : List α) : Per l l.length := by
  unfold Per
  by_cases h : l = []
  · subst h; simp [pw]
  · rw [Nat.div_self (List.length_pos_iff.mpr h), List.take_length, pw_one]
/-- the size of the root -/
def rsz (l : List α) : Nat := ((List.range' 1 l.length).find? fun s => decide (Per l s)).getD l.length
theorem rsz_spec {l : List α} (h : l ≠ []) : 0 < rsz l ∧ rsz l ≤ l.length ∧ Per l (rsz l) ∧ ∀ s, 0 < s → s < rsz l → ¬ Per l s := by
  have hn := List.length_pos_iff.mpr h
  unfold rsz
  cases e : (List.range' 1 l.length).find? fun s => decide (Per l s) with
  | none =>
    have := List.find?_eq_none.mp e l.length (by rw [List.mem_range'_1]; omega)
    exact absurd (per_self l) (by simpa using this)
  | some s =>
    have h1 := List.find?_some e
    have h2 := List.mem_of_find?_eq_some e
    rw [List.mem_range'_1] at h2
    refine ⟨h2.1, by show s ≤ _; omega, by simpa using h1, fun t ht hts => ?_⟩
    obtain ⟨_, as, bs, e2, h3⟩ := List.find?_eq_some_iff_append.mp e
    have hmem : t ∈ as := by
      have ht2 : t ∈ List.range' 1 l.length := by rw [List.mem_range'_1]; have : t < s := hts; omega
      rw [e2] at ht2
      rcases List.mem_append.mp ht2 with z | z
      · exact z
      · exfalso
        have sorted := List.pairwise_lt_range' (s := 1) (n := l.length) (step := 1) (by decide)
        rw [e2] at sorted
        have := (List.pairwise_append.mp sorted).2.1
        rcases List.mem_cons.mp z with rfl | z
        · exact Nat.lt_irrefl _ hts
        · have := (List.pairwise_cons.mp this).1 t z
          have hts : t < s := hts
          omega
    simpa using h3 t hmem
def root (l : List α) : List α := l.take (rsz l)
def ofn (l : List α) : Nat := l.length / rsz l
theorem rsz_pos {l : List α} (h : l ≠ []) : 0 < rsz l := (rsz_spec h).1
theorem rsz_le {l : List α} (h : l ≠ []) : rsz l ≤ l.length := (rsz_spec h).2.1
theorem rsz_per {l : List α} (h : l ≠ []) : Per l (rsz l) := (rsz_spec h).2.2.1
theorem rsz_dvd {l : List α} (h : l ≠ []) : rsz l ∣ l.length := (rsz_per h).dvd (rsz_le h)
theorem rsz_min {l : List α} (h : l ≠ []) {s : Nat} (h0 : 0 < s) (hp : Per l s) : rsz l ≤ s := Nat.le_of_not_lt fun hs => (rsz_spec h).2.2.2 s h0 hs hp
theorem root_len {l : List α} (h : l ≠ []) : (root l).length = rsz l := by unfold root; rw [List.length_take, Nat.min_eq_left (rsz_le h)]
theorem root_ne {l : List α} (h : l ≠ []) : root l ≠ [] := take_ne (rsz_pos h) h
theorem ofn_pos {l : List α} (h : l ≠ []) : 0 < ofn l := div_pos' (rsz_pos h) (rsz_le h)
theorem root_pw {l : List α} (h : l ≠ []) : pw (root l) (ofn l) = l := rsz_per h
theorem rsz_ofn {l : List α} (h : l ≠ []) : rsz l * ofn l = l.length := Nat.mul_div_cancel' (rsz_dvd h)
theorem root_om {l : List α} (h : l ≠ []) (i : Nat) : om l i = om (root l) i := (rsz_per h).om (rsz_pos h) (rsz_le h) i
theorem per_pw {l : List α} {k : Nat} (h : l ≠ []) (hk : 0 < k) : Per (pw l k) l.length := by
  have hl := List.length_pos_iff.mpr h
  refine per_of hl ⟨k, pw_len _ _⟩ (pw_ne h hk) fun i => ?_
  rw [om_pw hk, om_pw hk]
  exact om_pd l i
/-- one endless word: one root -/
theorem rsz_om {u v : List α} (hu : u ≠ []) (hv : v ≠ []) (h : ∀ i, om u i = om v i) : rsz v ≤ rsz u := by
  have hf : om u = om v := funext h
  have p1 := (rsz_per hu).pd (rsz_pos hu) (rsz_le hu)
  have p2 : Pd (om u) v.length := by rw [hf]; exact om_pd v
  have pg := Pd.gcd _ _ p1 p2
  have g0 : 0 < Nat.gcd (rsz u) v.length := Nat.gcd_pos_of_pos_left _ (rsz_pos hu)
  have d1 := Nat.gcd_dvd_left (rsz u) v.length
  have d2 := Nat.gcd_dvd_right (rsz u) v.length
  have q1 := rsz_min hu g0 (per_of g0 (Nat.dvd_trans d1 (rsz_dvd hu)) hu pg)
  have q2 := Nat.le_of_dvd (rsz_pos hu) d1
  have e : Nat.gcd (rsz u) v.length = rsz u := by omega
  rw [e] at d2
  exact rsz_min hv (rsz_pos hu) (per_of (rsz_pos hu) d2 hv (by rw [← hf]; exact p1))
theorem rsz_eq {u v : List α} (hu : u ≠ []) (hv : v ≠ []) (h : ∀ i, om u i = om v i) : rsz u = rsz v := Nat.le_antisymm (rsz_om hv hu fun i => (h i).symm) (rsz_om hu hv h)
theorem root_eq {u v : List α} (hu : u ≠ []) (hv : v ≠ []) (h : ∀ i, om u i = om v i) : root u = root v := by
  have e := rsz_eq hu hv h
  unfold root
  rw [e]
  apply List.ext_getElem?
  intro j
  by_cases hj : j < rsz v
  · rw [List.getElem?_take_of_lt hj, List.getElem?_take_of_lt hj, ← om_lt (Nat.lt_of_lt_of_le hj (e ▸ rsz_le hu)), ← om_lt (Nat.lt_of_lt_of_le hj (rsz_le hv)), h]
  · rw [List.getElem?_eq_none (by simp; omega), List.getElem?_eq_none (by simp; omega)]
theorem root_iff {u v : List α} (hu : u ≠ []) (hv : v ≠ []) : root u = root v ↔ ∀ i, om u i = om v i := ⟨fun e i => by rw [root_om hu, root_om hv, e], root_eq hu hv⟩
theorem root_of_pw {l : List α} {k : Nat} (h : l ≠ []) (hk : 0 < k) : root (pw l k) = root l := root_eq (pw_ne h hk) h fun i => om_pw hk i
theorem root_root {l : List α} (h : l ≠ []) : root (root l) = root l := root_eq (root_ne h) h fun i => (root_om h i).symm
theorem rsz_of_pw {l : List α} {k : Nat} (h : l ≠ []) (hk : 0 < k) : rsz (pw l k) = rsz l := rsz_eq (pw_ne h hk) h fun i => om_pw hk i
theorem ofn_of_pw {l : List α} {k : Nat} (h : l ≠ []) (hk : 0 < k) : ofn (pw l k) = ofn l * k := by
  unfold ofn
  rw [rsz_of_pw h hk, pw_len]
  obtain ⟨c, hc⟩ := rsz_dvd h
  rw [hc, Nat.mul_assoc, Nat.mul_div_cancel_left _ (rsz_pos h), Nat.mul_div_cancel_left _ (rsz_pos h)]
/-- own roots -/
theorem prim_ofn {l : List α} (h : l ≠ []) (e : root l = l) : rsz l = l.length ∧ ofn l = 1 := by
  have h1 : rsz l = l.length := by rw [← root_len h, e]
  exact ⟨h1, by unfold ofn; rw [h1, Nat.div_self (List.length_pos_iff.mpr h)]⟩
theorem div_rsz {l : List α} (h : l ≠ []) : l.length / ofn l = rsz l := by
  have := rsz_ofn h
  rw [← this, Nat.mul_div_cancel _ (ofn_pos h)]
/-- the most often -/
theorem ofn_max {l x : List α} {k : Nat} (hx : x ≠ []) (hk : 0 < k) (e : l = pw x k) : k ≤ ofn l := by
  subst e
  rw [ofn_of_pw hx hk]
  exact Nat.le_mul_of_pos_left _ (ofn_pos hx)
/-! ### turned -/
def rot (k : Nat) (l : List α) : List α := l.drop k ++ l.take k
theorem rot_len (k : Nat) (l : List α) : (rot k l).length = l.length := by simp [rot]; omega
theorem rot_ne {k : Nat} {l : List α} (h : l ≠ []) : rot k l ≠ [] := fun e => by
  have := congrArg List.length e
  rw [rot_len] at this
  exact h (List.length_eq_zero_iff.mp this)
theorem rot_om {k : Nat} {l : List α} (hk : k ≤ l.length) (i : Nat) : om (rot k l) i = om l (i + k) := by
  by_cases h : l = []
  · subst h; simp [rot, om]
  · have hn := List.length_pos_iff.mpr h
    have hi := Nat.mod_lt i hn
    unfold om
    rw [rot_len]
    unfold rot
    by_cases h1 : i % l.length < l.length - k
    · rw [List.getElem?_append_left (by rw [List.length_drop]; exact h1), List.getElem?_drop]
      congr 1
      rw [Nat.add_mod]
      by_cases hkl : k = l.length
      · omega
      · rw [Nat.mod_eq_of_lt (show k < l.length by omega), Nat.mod_eq_of_lt (show i % l.length + k < l.length by omega)]
        omega
    · have e : (i + k) % l.length = i % l.length - (l.length - k) := by
        rw [← Nat.mod_add_mod]
        have h2 : i % l.length + k = (i % l.length - (l.length - k)) + l.length := by omega
        rw [h2, Nat.add_mod_right]
        exact Nat.mod_eq_of_lt (by omega)
      rw [List.getElem?_append_right (by rw [List.length_drop]; omega), List.length_drop, List.getElem?_take_of_lt (by omega), e]
theorem rot_pd {k s : Nat} {l : List α} (hk : k ≤ l.length) (h : Pd (om l) s) : Pd (om (rot k l)) s := fun i => by
  rw [rot_om hk, rot_om hk, show i + s + k = i + k + s by omega]
  exact h _
theorem rot_back {k s : Nat} {l : List α} (hk : k ≤ l.length) (h : Pd (om (rot k l)) s) : Pd (om l) s := fun i => by
  have a : ∀ j, om l j = om (rot k l) (j + (l.length - k)) := fun j => by
    rw [rot_om hk, show j + (l.length - k) + k = j + l.length by omega]
    exact (om_pd l j).symm
  rw [a, a, show i + s + (l.length - k) = i + (l.length - k) + s by omega]
  exact h _
theorem rsz_rot {k : Nat} {l : List α} (h : l ≠ []) (hk : k ≤ l.length) : rsz (rot k l) = rsz l := by
  have hr : rot k l ≠ [] := rot_ne h
  apply Nat.le_antisymm
  · refine rsz_min hr (rsz_pos h) (per_of (rsz_pos h) (by rw [rot_len]; exact rsz_dvd h) hr (rot_pd hk ((rsz_per h).pd (rsz_pos h) (rsz_le h))))
  · refine rsz_min h (rsz_pos hr) (per_of (rsz_pos hr) (by have := rsz_dvd hr; rwa [rot_len] at this) h (rot_back hk ((rsz_per hr).pd (rsz_pos hr) (rsz_le hr))))
theorem ofn_rot {k : Nat} {l : List α} (h : l ≠ []) (hk : k ≤ l.length) : ofn (rot k l) = ofn l := by unfold ofn; rw [rsz_rot h hk, rot_len]
/-! ### backwards -/
theorem rsz_rev_le {l : List α} (h : l ≠ []) : rsz l.reverse ≤ rsz l := by
  have e : l.reverse = pw (root l).reverse (ofn l) := by rw [← pw_rev, root_pw h]
  have hr : (root l).reverse ≠ [] := by simpa using root_ne h
  have hx : l.reverse ≠ [] := by simpa using h
  have hp : Per l.reverse (rsz l) := by
    have := per_pw hr (ofn_pos h)
    rw [← e, List.length_reverse, root_len h] at this
    exact this
  exact rsz_min hx (rsz_pos h) hp
theorem rsz_rev {l : List α} (h : l ≠ []) : rsz l.reverse = rsz l := by
  apply Nat.le_antisymm (rsz_rev_le h)
  have := rsz_rev_le (l := l.reverse) (by simpa using h)
  rwa [List.reverse_reverse] at this
theorem root_rev {l : List α} (h : l ≠ []) : root l.reverse = (root l).reverse := by
  have e : l.reverse = pw (root l).reverse (ofn l) := by rw [← pw_rev, root_pw h]
  unfold root
  rw [rsz_rev h, e]
  obtain ⟨m, hm⟩ : ∃ m, ofn l = m + 1 := ⟨ofn l - 1, by have := ofn_pos h; omega⟩
  rw [hm, pw_succ, List.take_append_of_le_length (by rw [List.length_reverse, root_len h]; exact Nat.le_refl _), List.take_of_length_le (by rw [List.length_reverse, root_len h]; exact Nat.le_refl _)]
  rfl
theorem ofn_rev {l : List α} (h : l ≠ []) : ofn l.reverse = ofn l := by unfold ofn; rw [rsz_rev h, List.length_reverse]
end
end Wd
end Pw
set_option Elab.async false
set_option linter.all false
set_option maxRecDepth 100000
namespace Pw
namespace Wd
/-! ### runs of endless words -/
section
variable {α : Type} [DecidableEq α]
theorem tot_app (u v : RL α) : tot (u ++ v) = tot u + tot v := by simp [tot]
theorem tot_cons (p : α × Nat) (v : RL α) : tot (p :: v) = p.2 + tot v := by simp [tot]
theorem tot_pos {w : RL α} (h : Nrm w) (hn : w ≠ []) : 0 < tot w := by
  cases w with
  | nil => exact absurd rfl hn
  | cons p w =>
    rw [tot_cons]
    have := h.pos p (by simp)
    omega
theorem exp_ne {w : RL α} (h : Nrm w) (hn : w ≠ []) : exp w ≠ [] := fun e => by
  have := tot_pos h hn
  rw [← len_exp, e] at this
  simp at this
theorem exp_pw (w : RL α) (k : Nat) : exp (pw w k) = pw (exp w) k := by
  induction k with
  | zero => rfl
  | succ k ih => rw [pw_succ, exp_app, ih, pw_succ]
theorem head_exp {p : α × Nat} {w : RL α} (h : Nrm (p :: w)) : (exp (p :: w)).head? = some p.1 := by
  have h0 := h.pos p (by simp)
  rw [exp_cons]
  obtain ⟨n, hn⟩ : ∃ n, p.2 = n + 1 := ⟨p.2 - 1, by omega⟩
  rw [hn, List.replicate_succ]
  rfl
theorem last_exp {q : α × Nat} {w : RL α} (h : Nrm (w ++ [q])) : (exp (w ++ [q])).getLast? = some q.1 := by
  have h0 := h.pos q (by simp)
  obtain ⟨n, hn⟩ : ∃ n, q.2 = n + 1 := ⟨q.2 - 1, by omega⟩
  rw [exp_app, exp_one, hn, List.replicate_succ', ← List.append_assoc]
  simp
/-- the first one and the last one are unlike -/
structure Cyc (w : RL α) : Prop where
  nrm : Nrm w
  ends : ∃ p mid q, w = p :: (mid ++ [q]) ∧ p.1 ≠ q.1
theorem Cyc.ne {w : RL α} (h : Cyc w) : w ≠ [] := by
  obtain ⟨p, mid, q, e, _⟩ := h.ends
  rw [e]
  simp
theorem Cyc.two {w : RL α} (h : Cyc w) : 2 ≤ w.length := by
  obtain ⟨p, mid, q, e, _⟩ := h.ends
  rw [e]
  simp
theorem ends_cases {w : RL α} (h : w ≠ []) : (∃ p, w = [p]) ∨ ∃ p mid q, w = p :: (mid ++ [q]) := by
  cases w with
  | nil => exact absurd rfl h
  | cons p w =>
    rcases snoc_cases w with rfl | ⟨mid, q, rfl⟩
    · exact .inl ⟨p, rfl⟩
    · exact .inr ⟨p, mid, q, rfl⟩
/-- about the ring -/
def ringR (w : RL α) : RL α := match w with
  | [] => []
  | p :: r => match r.getLast? with
    | none => [p]
    | some q => if p.1 = q.1 then r.dropLast ++ [(p.1, q.2 + p.2)] else p :: r
theorem ringR_one (p : α × Nat) : ringR [p] = [p] := rfl
theorem ringR_two (p : α × Nat) (mid : RL α) (q : α × Nat) : ringR (p :: (mid ++ [q])) = if p.1 = q.1 then mid ++ [(p.1, q.2 + p.2)] else p :: (mid ++ [q]) := by
  simp [ringR]
theorem mid_ne {p q : α × Nat} {mid : RL α} (h : Nrm (p :: (mid ++ [q]))) (e : p.1 = q.1) : ∃ b m, mid = b :: m ∧ b.1 ≠ p.1 := by
  cases mid with
  | nil => exact absurd e (h.adj [] [] p q rfl)
  | cons b m => exact ⟨b, m, rfl, fun z => h.adj [] (m ++ [q]) p b rfl z.symm⟩
theorem ringR_cyc {p q : α × Nat} {mid : RL α} (h : Nrm (p :: (mid ++ [q]))) : Cyc (ringR (p :: (mid ++ [q]))) := by
  rw [ringR_two]
  split
  · rename_i e
    obtain ⟨b, m, rfl, hb⟩ := mid_ne h e
    have h1 : Nrm ((b :: m) ++ [q]) := h.tail
    refine ⟨h1.left.app (nrm_one (by show 0 < q.2 + p.2; have := h.pos p (by simp); omega)) fun i x z y e1 e2 => ?_, b, m, (p.1, q.2 + p.2), rfl, hb⟩
    simp only [List.cons.injEq] at e2
    obtain ⟨rfl, _⟩ := e2
    show x.1 ≠ p.1
    rw [e]
    exact h1.adj i [] x q (by rw [e1]; simp)
  · rename_i e
    exact ⟨h, p, mid, q, rfl, e⟩
/-- the ring's runs are those of the word turned -/
theorem ringR_rot {w : RL α} (h : Nrm w) (hn : w ≠ []) : ∃ k, k ≤ tot w ∧ exp (ringR w) = rot k (exp w) ∧ Nrm (ringR w) ∧ ((∃ p, ringR w = [p] ∧ w = [p]) ∨ Cyc (ringR w)) := by
  rcases ends_cases hn with ⟨p, rfl⟩ | ⟨p, mid, q, rfl⟩
  · exact ⟨0, Nat.zero_le _, by simp [ringR, rot], h, .inl ⟨p, rfl, rfl⟩⟩
  · have hc := ringR_cyc h
    refine ⟨if p.1 = q.1 then p.2 else 0, ?_, ?_, hc.nrm, .inr hc⟩
    · split
      · rw [tot_cons]; omega
      · exact Nat.zero_le _
    · rw [ringR_two]
      by_cases e : p.1 = q.1
      · rw [if_pos e, if_pos e, exp_app, exp_one, exp_cons, exp_app, exp_one]
        unfold rot
        rw [List.drop_left' (by simp), List.take_left' (by simp), ← e, List.append_assoc, List.replicate_append_replicate]
      · rw [if_neg e, if_neg e]
        simp [rot]
theorem nrm_pw {y : RL α} (h : Cyc y) : ∀ k, Nrm (pw y k)
  | 0 => nrm_nil
  | k + 1 => by
    rw [pw_succ]
    refine h.nrm.app (nrm_pw h k) fun i a b z e1 e2 => ?_
    obtain ⟨p, mid, q, e, hpq⟩ := h.ends
    cases k with
    | zero => simp [pw_zero] at e2
    | succ k =>
      rw [pw_succ, e, List.cons_append, List.cons.injEq] at e2
      obtain ⟨rfl, _⟩ := e2
      rw [e, ← List.cons_append] at e1
      have := List.append_inj_right' e1 rfl
      simp only [List.cons.injEq, and_true] at this
      rw [← this]
      exact Ne.symm hpq
theorem head_pw {l : List α} {k : Nat} (hk : 0 < k) (h : l ≠ []) : (pw l k).head? = l.head? := by
  obtain ⟨m, rfl⟩ : ∃ m, k = m + 1 := ⟨k - 1, by omega⟩
  rw [pw_succ]
  cases l with
  | nil => exact absurd rfl h
  | cons a l => rfl
theorem last_pw {l : List α} {k : Nat} (hk : 0 < k) (h : l ≠ []) : (pw l k).getLast? = l.getLast? := by
  obtain ⟨m, rfl⟩ : ∃ m, k = m + 1 := ⟨k - 1, by omega⟩
  have : pw l (m + 1) = pw l m ++ l := by rw [pw_add, pw_one]
  rw [this]
  rcases snoc_cases l with rfl | ⟨i, x, rfl⟩
  · exact absurd rfl h
  · rw [← List.append_assoc]
    simp
theorem cyc_rle {x : List α} (h : x ≠ []) (he : x.head? ≠ x.getLast?) : Cyc (rle x) := by
  have hn := nrm_rle x
  rcases ends_cases (rle_ne h) with ⟨p, e⟩ | ⟨p, mid, q, e⟩
  · exfalso
    apply he
    have e2 := exp_rle x
    rw [e] at e2 hn
    have a := head_exp (p := p) (w := []) hn
    have b := last_exp (q := p) (w := []) hn
    rw [e2] at a
    rw [List.nil_append, e2] at b
    rw [a, b]
  · refine ⟨hn, p, mid, q, e, fun z => he ?_⟩
    have e2 := exp_rle x
    rw [e] at e2 hn
    have a := head_exp hn
    have b := last_exp (w := p :: mid) (q := q) hn
    rw [e2] at a
    rw [List.cons_append, e2] at b
    rw [a, b, z]
/-- how often: by runs as by letters -/
theorem cyc_ofn {r : RL α} (h : Cyc r) : ofn (exp r) = ofn r := by
  have hne := h.ne
  have hx := exp_ne h.nrm hne
  apply Nat.le_antisymm
  · have hr := root_ne hx
    have e1 := root_pw hx
    have hk := ofn_pos hx
    have hends : (root (exp r)).head? ≠ (root (exp r)).getLast? := by
      rw [← head_pw hk hr, ← last_pw hk hr, e1]
      obtain ⟨p, mid, q, e, hpq⟩ := h.ends
      have hn := h.nrm
      rw [e] at hn ⊢
      rw [head_exp hn, show p :: (mid ++ [q]) = (p :: mid) ++ [q] from rfl, last_exp (w := p :: mid) (q := q) hn]
      exact fun z => hpq (Option.some.inj z)
    have hc := cyc_rle hr hends
    have e2 : r = pw (rle (root (exp r))) (ofn (exp r)) := exp_inj h.nrm (nrm_pw hc _) (by rw [exp_pw, exp_rle, e1])
    exact ofn_max (rle_ne hr) hk e2
  · have e1 := root_pw hne
    have hr := root_ne hne
    have hk := ofn_pos hne
    have e2 : exp r = pw (exp (root r)) (ofn r) := by rw [← exp_pw, e1]
    have hn : Nrm (root r) := by
      have hh := h.nrm
      obtain ⟨m, hm⟩ : ∃ m, ofn r = m + 1 := ⟨ofn r - 1, by omega⟩
      rw [← e1, hm, pw_succ] at hh
      exact hh.left
    exact ofn_max (exp_ne hn hr) hk e2
/-! ### run by run -/
def Ps (r : Nat → α × Nat) : Nat → Nat
  | 0 => 0
  | k + 1 => Ps r k + (r k).2
structure Dec (f : Nat → Option α) (r : Nat → α × Nat) : Prop where
  pos : ∀ k, 0 < (r k).2
  adj : ∀ k, (r (k + 1)).1 ≠ (r k).1
  val : ∀ k j, j < (r k).2 → f (Ps r k + j) = some (r k).1
theorem Dec.locate {f : Nat → Option α} {r : Nat → α × Nat} (d : Dec f r) : ∀ i, ∃ k j, i = Ps r k + j ∧ j < (r k).2
  | 0 => ⟨0, 0, rfl, d.pos 0⟩
  | i + 1 => by
    obtain ⟨k, j, e, hj⟩ := d.locate i
    by_cases h : j + 1 < (r k).2
    · exact ⟨k, j + 1, by omega, h⟩
    · exact ⟨k + 1, 0, by show i + 1 = Ps r k + (r k).2 + 0; omega, d.pos _⟩
theorem ps_eq {r s : Nat → α × Nat} : ∀ {k : Nat}, (∀ j, j < k → r j = s j) → Ps r k = Ps s k
  | 0, _ => rfl
  | k + 1, h => by
    show Ps r k + (r k).2 = Ps s k + (s k).2
    rw [ps_eq (k := k) fun j hj => h j (by omega), h k (by omega)]
theorem Dec.agree {f g : Nat → Option α} {r s : Nat → α × Nat} (d : Dec f r) (e : Dec g s) : ∀ {k : Nat}, (∀ j, j < k → r j = s j) → ∀ i, i < Ps r k → f i = g i
  | 0, _, i, hi => by simp [Ps] at hi
  | k + 1, h, i, hi => by
    by_cases hk : i < Ps r k
    · exact d.agree e (k := k) (fun j hj => h j (by omega)) i hk
    · have hi : i < Ps r k + (r k).2 := hi
      have e0 := ps_eq (k := k) fun j hj => h j (by omega)
      have e1 := h k (by omega)
      have a := d.val k (i - Ps r k) (by omega)
      have b := e.val k (i - Ps r k) (by rw [← e1]; omega)
      rw [← e0, ← e1, ← a] at b
      rw [show Ps r k + (i - Ps r k) = i by omega] at b
      exact b.symm
theorem Dec.same {f g : Nat → Option α} {r s : Nat → α × Nat} (d : Dec f r) (e : Dec g s) (h : ∀ k, r k = s k) : ∀ i, f i = g i := fun i => by
  obtain ⟨k, j, e1, hj⟩ := d.locate i
  exact d.agree e (k := k + 1) (fun j _ => h j) i (by show i < Ps r k + (r k).2; omega)
/-- the first place at which two endless words are unlike -/
structure FD (f g : Nat → Option α) (i : Nat) (a b : α) : Prop where
  ahead : ∀ j, j < i → f j = g j
  one : f i = some a
  two : g i = some b
  ne : a ≠ b
def ploop (r s : Nat → α × Nat) : Nat → Nat → Nat → Option (Nat × α × α)
  | 0, _, _ => none
  | n + 1, k, p => if (r k).1 ≠ (s k).1 then some (p, (r k).1, (s k).1) else if (r k).2 < (s k).2 then some (p + (r k).2, (r (k + 1)).1, (s k).1) else if (s k).2 < (r k).2 then some (p + (s k).2, (r k).1, (s (k + 1)).1) else ploop r s n (k + 1) (p + (r k).2)
theorem ploop_spec {f g : Nat → Option α} {r s : Nat → α × Nat} (d : Dec f r) (e : Dec g s) : ∀ (n k : Nat), (∀ j, j < k → r j = s j) →
    match ploop r s n k (Ps r k) with
    | none => ∀ j, j < k + n → r j = s j
    | some (i, a, b) => FD f g i a b
  | 0, k, h => h
  | n + 1, k, h => by
    have e0 := ps_eq h
    unfold ploop
    by_cases h1 : (r k).1 ≠ (s k).1
    · rw [if_pos h1]
      exact ⟨d.agree e h, by have := d.val k 0 (d.pos k); simpa using this, by have := e.val k 0 (e.pos k); rw [← e0] at this; simpa using this, h1⟩
    · rw [if_neg h1]
      have h1 : (r k).1 = (s k).1 := Decidable.not_not.mp h1
      have same : ∀ j, j < (r k).2 → j < (s k).2 → f (Ps r k + j) = g (Ps r k + j) := fun j hj hj2 => by
        have b := e.val k j hj2
        rw [← e0, ← h1, ← d.val k j hj] at b
        exact b.symm
      have pre : ∀ m, m ≤ (r k).2 → m ≤ (s k).2 → ∀ j, j < Ps r k + m → f j = g j := fun m h2 h3 j hj => by
        by_cases hk : j < Ps r k
        · exact d.agree e h j hk
        · have := same (j - Ps r k) (by omega) (by omega)
          rwa [show Ps r k + (j - Ps r k) = j by omega] at this
      by_cases h2 : (r k).2 < (s k).2
      · rw [if_pos h2]
        refine ⟨pre _ (Nat.le_refl _) (Nat.le_of_lt h2), ?_, ?_, ?_⟩
        · have := d.val (k + 1) 0 (d.pos _)
          simpa [Ps] using this
        · have := e.val k (r k).2 h2
          rwa [← e0] at this
        · rw [← h1]
          exact d.adj k
      · rw [if_neg h2]
        by_cases h3 : (s k).2 < (r k).2
        · rw [if_pos h3]
          refine ⟨pre _ (Nat.le_of_lt h3) (Nat.le_refl _), d.val k _ h3, ?_, ?_⟩
          · have := e.val (k + 1) 0 (e.pos _)
            simp only [Ps, Nat.add_zero, ← e0] at this
            exact this
          · rw [h1]
            exact Ne.symm (e.adj k)
        · rw [if_neg h3]
          have hk : r k = s k := Prod.ext h1 (by omega)
          have := ploop_spec d e n (k + 1) fun j hj => by
            by_cases hjk : j < k
            · exact h j hjk
            · rw [show j = k by omega, hk]
          rw [show k + (n + 1) = k + 1 + n by omega]
          exact this
/-! ### runs, again and again -/
def cyc (w : RL α) (h : w ≠ []) (k : Nat) : α × Nat := w[k % w.length]'(Nat.mod_lt _ (List.length_pos_iff.mpr h))
theorem exp_get {w : RL α} {t : Nat} (ht : t < w.length) {j : Nat} (hj : j < (w[t]).2) : (exp w)[tot (w.take t) + j]? = some (w[t]).1 := by
  have e : w = w.take t ++ w[t] :: w.drop (t + 1) := by rw [← List.drop_eq_getElem_cons ht, List.take_append_drop]
  have e2 : exp w = exp (w.take t) ++ (List.replicate (w[t]).2 (w[t]).1 ++ exp (w.drop (t + 1))) := by
    conv => lhs; rw [e]
    rw [exp_app, exp_cons]
  rw [e2, ← len_exp, List.getElem?_append_right (by omega), Nat.add_sub_cancel_left, List.getElem?_append_left (by simpa using hj)]
  simp [hj]
theorem tot_take {w : RL α} {t : Nat} (ht : t < w.length) : tot (w.take (t + 1)) = tot (w.take t) + (w[t]).2 := by
  rw [List.take_succ_eq_append_getElem ht, tot_app]
  simp [tot]
theorem ms_lt {k n : Nat} (h : k % n + 1 < n) : (k + 1) % n = k % n + 1 := by
  rw [← Nat.mod_add_mod, Nat.mod_eq_of_lt h]
theorem ms_eq {k n : Nat} (h : k % n + 1 = n) : (k + 1) % n = 0 := by
  rw [← Nat.mod_add_mod, h, Nat.mod_self]
theorem cyc_ps {w : RL α} (h : w ≠ []) : ∀ k, ∃ q, Ps (cyc w h) k = tot w * q + tot (w.take (k % w.length))
  | 0 => ⟨0, by simp [Ps, tot]⟩
  | k + 1 => by
    obtain ⟨q, e⟩ := cyc_ps h k
    have hn := List.length_pos_iff.mpr h
    have hk := Nat.mod_lt k hn
    have e1 : Ps (cyc w h) (k + 1) = Ps (cyc w h) k + (w[k % w.length]).2 := rfl
    by_cases h1 : k % w.length + 1 < w.length
    · exact ⟨q, by rw [e1, e, ms_lt h1, tot_take hk]; omega⟩
    · refine ⟨q + 1, ?_⟩
      have h2 : k % w.length + 1 = w.length := by omega
      have h3 := tot_take hk
      rw [h2, List.take_length] at h3
      rw [e1, e, ms_eq h2, List.take_zero, Nat.mul_succ]
      show _ = _ + 0
      omega
theorem Nrm.at {w : RL α} (h : Nrm w) {t : Nat} (ht : t + 1 < w.length) : (w[t + 1]).1 ≠ (w[t]).1 := fun z => by
  have e : w = w.take t ++ w[t] :: w[t + 1] :: w.drop (t + 2) := by
    rw [← List.drop_eq_getElem_cons ht, ← List.drop_eq_getElem_cons (Nat.lt_of_succ_lt ht), List.take_append_drop]
  exact h.adj _ _ _ _ e z.symm
theorem cyc_dec {w : RL α} (h : Cyc w) : Dec (om (exp w)) (cyc w h.ne) where
  pos k := h.nrm.pos _ (List.getElem_mem _)
  adj k := by
    have hn := List.length_pos_iff.mpr h.ne
    have hk := Nat.mod_lt k hn
    unfold cyc
    by_cases h1 : k % w.length + 1 < w.length
    · simp only [ms_lt h1]
      exact h.nrm.at h1
    · have h2 : k % w.length + 1 = w.length := by omega
      simp only [ms_eq h2]
      obtain ⟨p, mid, q, e, hpq⟩ := h.ends
      have a : w[0] = p := by simp [e]
      have b : w[k % w.length] = q := by
        have h3 : k % w.length = mid.length + 1 := by
          have hl : w.length = mid.length + 2 := by rw [e]; simp
          omega
        simp only [h3]
        simp [e]
      rw [a, b]
      exact hpq
  val k j hj := by
    have hn := List.length_pos_iff.mpr h.ne
    have hk := Nat.mod_lt k hn
    obtain ⟨q, e⟩ := cyc_ps h.ne k
    have hj : j < (w[k % w.length]).2 := hj
    have h3 := tot_take hk
    have h4 : tot (w.take (k % w.length + 1)) ≤ tot w := by
      conv => rhs; rw [← List.take_append_drop (k % w.length + 1) w]
      rw [tot_app]
      omega
    unfold om
    rw [e, len_exp, show tot w * q + tot (w.take (k % w.length)) + j = tot (w.take (k % w.length)) + j + tot w * q by omega, Nat.add_mul_mod_self_left, Nat.mod_eq_of_lt (by omega)]
    exact exp_get hk hj
theorem ps_cons {a : α} {m : Nat} {r : Nat → α × Nat} {r' : Nat → α × Nat} (h0 : r' 0 = (a, m)) (hs : ∀ k, r' (k + 1) = r k) : ∀ k, Ps r' (k + 1) = m + Ps r k
  | 0 => by simp [Ps, h0]
  | k + 1 => by
    have := ps_cons h0 hs k
    show Ps r' (k + 1) + (r' (k + 1)).2 = m + (Ps r k + (r k).2)
    rw [this, hs]
    omega
theorem Dec.cons {f g : Nat → Option α} {r r' : Nat → α × Nat} (d : Dec g r) {a : α} {m : Nat} (hm : 0 < m) (hf : ∀ i, i < m → f i = some a) (hg : ∀ i, f (i + m) = g i) (ha : (r 0).1 ≠ a) (h0 : r' 0 = (a, m)) (hs : ∀ k, r' (k + 1) = r k) : Dec f r' where
  pos k := by
    cases k with
    | zero => rw [h0]; exact hm
    | succ k => rw [hs]; exact d.pos k
  adj k := by
    cases k with
    | zero => rw [hs, h0]; exact ha
    | succ k => rw [hs, hs]; exact d.adj k
  val k j hj := by
    cases k with
    | zero =>
      rw [h0] at hj ⊢
      show f (0 + j) = _
      rw [Nat.zero_add]
      exact hf j hj
    | succ k =>
      rw [hs] at hj ⊢
      rw [ps_cons h0 hs, show m + Ps r k + j = Ps r k + j + m by omega, hg]
      exact d.val k j hj
end
end Wd
end Pw
set_option Elab.async false
set_option linter.all false
set_option maxRecDepth 100000
namespace Pw
namespace Wd
/-! ### endless words in order; least turnings -/
section
variable {α : Type} [DecidableEq α]
structure Sto (lt : α → α → Prop) : Prop where
  irr : ∀ a, ¬ lt a a
  tr : ∀ a b c, lt a b → lt b c → lt a c
  tri : ∀ a b, lt a b ∨ a = b ∨ lt b a
variable {lt : α → α → Prop}
def AH (lt : α → α → Prop) (f g : Nat → Option α) : Prop := ∃ i a b, FD f g i a b ∧ lt a b
theorem AH.irr (S : Sto lt) {f : Nat → Option α} : ¬ AH lt f f := fun ⟨i, a, b, h, _⟩ => h.ne (Option.some.inj (h.one.symm.trans h.two))
theorem AH.tr (S : Sto lt) {f g h : Nat → Option α} (x : AH lt f g) (y : AH lt g h) : AH lt f h := by
  obtain ⟨i, a, b, u, l1⟩ := x
  obtain ⟨j, c, d, v, l2⟩ := y
  rcases Nat.lt_trichotomy i j with hij | hij | hij
  · exact ⟨i, a, b, ⟨fun k hk => (u.ahead k hk).trans (v.ahead k (by omega)), u.one, (v.ahead i hij).symm.trans u.two, u.ne⟩, l1⟩
  · subst hij
    have : b = c := Option.some.inj (u.two.symm.trans v.one)
    subst this
    have l := S.tr _ _ _ l1 l2
    exact ⟨i, a, d, ⟨fun k hk => (u.ahead k hk).trans (v.ahead k hk), u.one, v.two, fun e => S.irr _ (e ▸ l)⟩, l⟩
  · exact ⟨j, c, d, ⟨fun k hk => (u.ahead k (by omega)).trans (v.ahead k hk), (u.ahead j hij).trans v.one, v.two, v.ne⟩, l2⟩
theorem least_of {P : Nat → Prop} : ∀ n, P n → ∃ m, m ≤ n ∧ P m ∧ ∀ j, j < m → ¬ P j := by
  intro n
  induction n using Nat.strongRecOn with
  | ind n ih =>
    intro h
    by_cases q : ∃ j, j < n ∧ P j
    · obtain ⟨j, hj, pj⟩ := q
      obtain ⟨m, h1, h2, h3⟩ := ih j hj pj
      exact ⟨m, by omega, h2, h3⟩
    · exact ⟨n, Nat.le_refl _, h, fun j hj pj => q ⟨j, hj, pj⟩⟩
theorem fd_or {u v : List α} (hu : u ≠ []) (hv : v ≠ []) : (∀ i, om u i = om v i) ∨ ∃ i a b, i < u.length + v.length ∧ FD (om u) (om v) i a b := by
  by_cases h : ∀ i, i < u.length + v.length → om u i = om v i
  · exact .inl (fw (List.length_pos_iff.mpr hu) (List.length_pos_iff.mpr hv) (om_pd u) (om_pd v) h)
  · right
    have : ∃ i, i < u.length + v.length ∧ om u i ≠ om v i := by
      apply Classical.byContradiction
      intro q
      exact h fun i hi => Classical.byContradiction fun z => q ⟨i, hi, z⟩
    obtain ⟨i, hi, ne⟩ := this
    obtain ⟨m, h1, h2, h3⟩ := least_of (P := fun i => om u i ≠ om v i) i ne
    obtain ⟨a, _, ea⟩ := om_some hu m
    obtain ⟨b, _, eb⟩ := om_some hv m
    exact ⟨m, a, b, by omega, fun j hj => Classical.byContradiction fun z => h3 j hj z, ea, eb, fun e => h2 (by rw [ea, eb, e])⟩
theorem FD.uniq {f g : Nat → Option α} {i j : Nat} {a b c d : α} (h : FD f g i a b) (k : FD f g j c d) : i = j ∧ a = c ∧ b = d := by
  have : i = j := by
    rcases Nat.lt_trichotomy i j with q | q | q
    · have := k.ahead i q
      rw [h.one, h.two] at this
      exact absurd (Option.some.inj this) h.ne
    · exact q
    · have := h.ahead j q
      rw [k.one, k.two] at this
      exact absurd (Option.some.inj this) k.ne
  subst this
  exact ⟨rfl, Option.some.inj (h.one.symm.trans k.one), Option.some.inj (h.two.symm.trans k.two)⟩
theorem FD.not_same {f g : Nat → Option α} {i : Nat} {a b : α} (h : FD f g i a b) : ¬ ∀ i, f i = g i := fun z => by
  have := z i
  rw [h.one, h.two] at this
  exact h.ne (Option.some.inj this)
theorem FD.swap {f g : Nat → Option α} {i : Nat} {a b : α} (h : FD f g i a b) : FD g f i b a := ⟨fun j hj => (h.ahead j hj).symm, h.two, h.one, Ne.symm h.ne⟩
theorem FD.lt_sum {u v : List α} (hu : u ≠ []) (hv : v ≠ []) {i : Nat} {a b : α} (h : FD (om u) (om v) i a b) : i < u.length + v.length := by
  rcases fd_or hu hv with z | ⟨j, c, d, hj, k⟩
  · exact absurd z h.not_same
  · rw [(h.uniq k).1]
    exact hj
theorem AH.iff_fd (S : Sto lt) {f g : Nat → Option α} {i : Nat} {a b : α} (h : FD f g i a b) : AH lt f g ↔ lt a b := ⟨fun ⟨j, c, d, k, l⟩ => by
  obtain ⟨_, rfl, rfl⟩ := h.uniq k
  exact l, fun l => ⟨i, a, b, h, l⟩⟩
theorem AH.tri (S : Sto lt) {u v : List α} (hu : u ≠ []) (hv : v ≠ []) : AH lt (om u) (om v) ∨ (∀ i, om u i = om v i) ∨ AH lt (om v) (om u) := by
  rcases fd_or hu hv with z | ⟨i, a, b, _, h⟩
  · exact .inr (.inl z)
  · rcases S.tri a b with l | l | l
    · exact .inl ⟨i, a, b, h, l⟩
    · exact absurd l h.ne
    · exact .inr (.inr ⟨i, b, a, h.swap, l⟩)
theorem om_inj {u v : List α} (hl : u.length = v.length) (h : ∀ i, om u i = om v i) : u = v := by
  apply List.ext_getElem?
  intro i
  by_cases hi : i < u.length
  · rw [← om_lt hi, ← om_lt (hl ▸ hi), h]
  · rw [List.getElem?_eq_none (by omega), List.getElem?_eq_none (by omega)]
/-- turned by any number -/
theorem rot_any {l : List α} (h : l ≠ []) (j : Nat) : j % l.length ≤ l.length ∧ ∀ i, om (rot (j % l.length) l) i = om l (i + j) := by
  have hn := List.length_pos_iff.mpr h
  have hj := Nat.le_of_lt (Nat.mod_lt j hn)
  refine ⟨hj, fun i => ?_⟩
  rw [rot_om hj]
  unfold om
  rw [Nat.add_mod_mod]
theorem rot_rot {l : List α} (h : l ≠ []) {k j : Nat} (hk : k ≤ l.length) (hj : j ≤ l.length) : rot j (rot k l) = rot ((j + k) % l.length) l := by
  refine om_inj (by rw [rot_len, rot_len, rot_len]) fun i => ?_
  rw [rot_om (by rw [rot_len]; exact hj), rot_om hk, (rot_any h (j + k)).2]
  congr 1
  omega
structure IsMin (lt : α → α → Prop) (l m : List α) : Prop where
  turn : ∃ k, k ≤ l.length ∧ m = rot k l
  least : ∀ k, k ≤ l.length → ¬ AH lt (om (rot k l)) (om m)
theorem IsMin.len {l m : List α} (h : IsMin lt l m) : m.length = l.length := by
  obtain ⟨k, _, rfl⟩ := h.turn
  exact rot_len _ _
theorem IsMin.ne {l m : List α} (h : IsMin lt l m) (hl : l ≠ []) : m ≠ [] := by
  obtain ⟨k, _, rfl⟩ := h.turn
  exact rot_ne hl
theorem IsMin.uniq (S : Sto lt) {l m m' : List α} (hl : l ≠ []) (h : IsMin lt l m) (h' : IsMin lt l m') : m = m' := by
  obtain ⟨k, hk, e⟩ := h.turn
  obtain ⟨k', hk', e'⟩ := h'.turn
  rcases AH.tri S (h.ne hl) (h'.ne hl) with z | z | z
  · exact absurd (e ▸ z) (h'.least k hk)
  · exact om_inj (by rw [h.len, h'.len]) z
  · exact absurd (e' ▸ z) (h.least k' hk')
theorem IsMin.rot {l m : List α} (hl : l ≠ []) {k : Nat} (hk : k ≤ l.length) (h : IsMin lt (rot k l) m) : IsMin lt l m := by
  have hr : (Wd.rot k l).length = l.length := rot_len k l
  obtain ⟨j, hj, e⟩ := h.turn
  rw [hr] at hj
  refine ⟨⟨_, (rot_any hl (j + k)).1, by rw [e, rot_rot hl hk hj]⟩, fun i hi => ?_⟩
  have := h.least ((i + (l.length - k)) % l.length) (by rw [hr]; exact (rot_any hl _).1)
  have e2 : om (Wd.rot ((i + (l.length - k)) % l.length) (Wd.rot k l)) = om (Wd.rot i l) := funext fun t => by
    have a := (rot_any (rot_ne (k := k) hl) (i + (l.length - k))).2 t
    rw [hr] at a
    rw [a, rot_om hk, rot_om hi, show t + (i + (l.length - k)) + k = t + i + l.length by omega]
    exact om_pd l _
  rwa [e2] at this
theorem IsMin.turned {l m : List α} (S : Sto lt) (hl : l ≠ []) {k : Nat} (hk : k ≤ l.length) (h : IsMin lt l m) : IsMin lt (Wd.rot k l) m := by
  have hr : (Wd.rot k l).length = l.length := rot_len k l
  have e : Wd.rot (l.length - k) (Wd.rot k l) = l := by
    refine om_inj (by rw [rot_len, rot_len]) fun t => ?_
    rw [rot_om (by rw [hr]; omega), rot_om hk, show t + (l.length - k) + k = t + l.length by omega]
    exact om_pd l _
  refine IsMin.rot (l := Wd.rot k l) (k := l.length - k) (rot_ne hl) (by rw [hr]; omega) ?_
  rw [e]
  exact h
theorem IsMin.pw {l m : List α} (hl : l ≠ []) {e : Nat} (he : 0 < e) (h : IsMin lt l m) : IsMin lt (Wd.pw l e) (Wd.pw m e) := by
  obtain ⟨k, hk, em⟩ := h.turn
  have hp : Wd.pw l e ≠ [] := pw_ne hl he
  have hlen : l.length ≤ (Wd.pw l e).length := by rw [pw_len]; exact Nat.le_mul_of_pos_right _ he
  refine ⟨⟨k, by omega, om_inj (by rw [rot_len, pw_len, pw_len, h.len]) fun i => ?_⟩, fun j hj => ?_⟩
  · rw [om_pw he, rot_om (by omega), om_pw he, em, rot_om hk]
  · have e1 : om (Wd.rot j (Wd.pw l e)) = om (Wd.rot (j % l.length) l) := funext fun i => by rw [rot_om hj, om_pw he, (rot_any hl j).2]
    have e2 : om (Wd.pw m e) = om m := funext fun i => om_pw he i
    rw [e1, e2]
    exact h.least _ (rot_any hl j).1
/-! ### it begins where a run does -/
theorem exp_rot (r : RL α) (p : Nat) : exp (rot p r) = rot (tot (r.take p)) (exp r) := by
  have e : exp r = exp (r.take p) ++ exp (r.drop p) := by rw [← exp_app, List.take_append_drop]
  unfold rot
  rw [exp_app, e, List.drop_left' (len_exp _), List.take_left' (len_exp _)]
theorem Cyc.rot {r : RL α} (h : Cyc r) (p : Nat) : Nrm (rot p r) := by
  obtain ⟨a, mid, b, e, hab⟩ := h.ends
  unfold Wd.rot
  have e2 : r = r.take p ++ r.drop p := (List.take_append_drop p r).symm
  have hn := h.nrm
  refine (Nrm.right (u := r.take p) (by rw [← e2]; exact hn)).app (Nrm.left (v := r.drop p) (by rw [← e2]; exact hn)) fun i x y z e3 e4 => ?_
  have hx : x = b := by
    rw [e3, e] at e2
    have : a :: (mid ++ [b]) = (a :: mid) ++ [b] := rfl
    rw [this, ← List.append_assoc] at e2
    have := List.append_inj_right' e2 rfl
    simpa using this.symm
  have hy : y = a := by
    rw [e4, e] at e2
    simp only [List.cons_append, List.cons.injEq] at e2
    exact e2.1.symm
  rw [hx, hy]
  exact Ne.symm hab
theorem run_min (S : Sto lt) {r : RL α} (h : Cyc r) {q : Nat} (hq : q < r.length) (hm : ∀ p, p < r.length → ¬ AH lt (om (exp (rot p r))) (om (exp (rot q r)))) : IsMin lt (exp r) (exp (rot q r)) := by
  have hn := List.length_pos_iff.mpr h.ne
  have hx := exp_ne h.nrm h.ne
  have le_tot : ∀ p, tot (r.take p) ≤ (exp r).length := fun p => by
    rw [len_exp]
    conv => rhs; rw [← List.take_append_drop p r]
    rw [tot_app]
    omega
  have at_ : ∀ p i, om (exp (rot p r)) i = om (exp r) (i + tot (r.take p)) := fun p i => by rw [exp_rot, rot_om (le_tot p)]
  have D := cyc_dec h
  have atP : ∀ t i, om (exp (rot (t % r.length) r)) i = om (exp r) (i + Ps (cyc r h.ne) t) := fun t i => by
    obtain ⟨c, e⟩ := cyc_ps h.ne t
    rw [at_, e, ← len_exp r, show i + ((exp r).length * c + tot (r.take (t % r.length))) = i + tot (r.take (t % r.length)) + (exp r).length * c by omega]
    exact ((om_pd (exp r)).mul c _).symm
  refine ⟨⟨_, le_tot q, exp_rot r q⟩, fun k hk ha => ?_⟩
  obtain ⟨t, j, e, hj⟩ := D.locate k
  have fk : ∀ i, om (rot k (exp r)) i = om (exp r) (i + k) := fun i => rot_om hk i
  have hp := hm (t % r.length) (Nat.mod_lt _ hn)
  have hp1 := hm ((t + 1) % r.length) (Nat.mod_lt _ hn)
  by_cases hj0 : j = 0
  · apply hp
    have : om (exp (rot (t % r.length) r)) = om (rot k (exp r)) := funext fun i => by rw [atP, fk, e, hj0, Nat.add_zero]
    rw [this]
    exact ha
  · rcases S.tri (cyc r h.ne (t + 1)).1 (cyc r h.ne t).1 with l | l | l
    · apply hp1
      refine AH.tr S (g := om (rot k (exp r))) ⟨0, _, _, ⟨fun i hi => absurd hi (Nat.not_lt_zero _), ?_, ?_, D.adj t⟩, l⟩ ha
      · rw [atP]
        have := D.val (t + 1) 0 (D.pos _)
        simpa using this
      · rw [fk, Nat.zero_add, e]
        exact D.val t j hj
    · exact D.adj t l
    · apply hp
      refine AH.tr S (g := om (rot k (exp r))) ⟨(cyc r h.ne t).2 - j, _, _, ⟨fun i hi => ?_, ?_, ?_, Ne.symm (D.adj t)⟩, l⟩ ha
      · rw [atP, fk, e, Nat.add_comm i, Nat.add_comm i, Nat.add_assoc, D.val t i (by omega), D.val t (j + i) (by omega)]
      · rw [atP, Nat.add_comm]
        exact D.val t _ (by omega)
      · rw [fk, e, show (cyc r h.ne t).2 - j + (Ps (cyc r h.ne) t + j) = Ps (cyc r h.ne) t + (cyc r h.ne t).2 by omega]
        have := D.val (t + 1) 0 (D.pos _)
        simpa [Ps] using this
/-- the best of rows, one by one -/
theorem best_spec (S : Sto lt) {ι : Type} (f : ι → Nat → Option α) (b : ι → ι → Bool) (hb : ∀ x y, b x y = true ↔ AH lt (f x) (f y)) : ∀ (xs : List ι) (x : ι) (done : List ι), (∀ y ∈ done, ¬ AH lt (f y) (f x)) →
    (xs.foldl (fun a y => if b y a = true then y else a) x ∈ x :: xs) ∧ ∀ y ∈ done ++ x :: xs, ¬ AH lt (f y) (f (xs.foldl (fun a y => if b y a = true then y else a) x))
  | [], x, done, h => ⟨by simp, fun y hy => by
    rcases List.mem_append.mp hy with z | z
    · exact h y z
    · rw [List.mem_singleton.mp z]
      exact AH.irr S⟩
  | z :: xs, x, done, h => by
    rw [List.foldl_cons]
    by_cases hz : b z x = true
    · rw [if_pos hz]
      have hz' := (hb z x).mp hz
      obtain ⟨h1, h2⟩ := best_spec S f b hb xs z (done ++ [x]) fun y hy => by
        rcases List.mem_append.mp hy with q | q
        · exact fun a => h y q (AH.tr S a hz')
        · rw [List.mem_singleton.mp q]
          exact fun a => AH.irr S (AH.tr S a hz')
      exact ⟨List.mem_cons_of_mem _ h1, fun y hy => h2 y (by simpa using hy)⟩
    · rw [if_neg hz]
      obtain ⟨h1, h2⟩ := best_spec S f b hb xs x (done ++ [z]) fun y hy => by
        rcases List.mem_append.mp hy with q | q
        · exact h y q
        · rw [List.mem_singleton.mp q]
          exact fun a => hz ((hb z x).mpr a)
      refine ⟨?_, fun y hy => h2 y ?_⟩
      · rcases List.mem_cons.mp h1 with q | q
        · rw [q]; simp
        · exact List.mem_cons_of_mem _ (List.mem_cons_of_mem _ q)
      · simp only [List.mem_append, List.mem_cons, List.not_mem_nil, or_false] at hy ⊢
        rcases hy with q | q | q | q
        · exact .inl (.inl q)
        · exact .inr (.inl q)
        · exact .inl (.inr q)
        · exact .inr (.inr q)
/-- rows of one length, letter by letter -/
def lx (lt : α → α → Bool) : List α → List α → Bool
  | x :: xs, y :: ys => if x = y then lx lt xs ys else lt x y
  | _, _ => false
theorem lx_spec {ltb : α → α → Bool} : ∀ {u v : List α}, u.length = v.length → (lx ltb u v = true ↔ ∃ (i : Nat) (a b : α), (∀ j : Nat, j < i → u[j]? = v[j]?) ∧ u[i]? = some a ∧ v[i]? = some b ∧ a ≠ b ∧ ltb a b = true)
  | [], [], _ => by simp [lx]
  | [], _ :: _, h => by simp at h
  | _ :: _, [], h => by simp at h
  | x :: u, y :: v, h => by
    have ih := lx_spec (ltb := ltb) (u := u) (v := v) (by simpa using h)
    unfold lx
    by_cases e : x = y
    · rw [if_pos e, ih]
      constructor
      · rintro ⟨i, a, b, h1, h2, h3, h4, h5⟩
        refine ⟨i + 1, a, b, fun j hj => ?_, by simpa using h2, by simpa using h3, h4, h5⟩
        cases j with
        | zero => simp [e]
        | succ j => simpa using h1 j (by omega)
      · rintro ⟨i, a, b, h1, h2, h3, h4, h5⟩
        cases i with
        | zero =>
          simp at h2 h3
          exact absurd (by rw [← h2, ← h3, e]) h4
        | succ i => exact ⟨i, a, b, fun j hj => by simpa using h1 (j + 1) (by omega), by simpa using h2, by simpa using h3, h4, h5⟩
    · rw [if_neg e]
      constructor
      · intro l
        exact ⟨0, x, y, fun j hj => absurd hj (Nat.not_lt_zero _), rfl, rfl, e, l⟩
      · rintro ⟨i, a, b, h1, h2, h3, h4, h5⟩
        cases i with
        | zero =>
          simp at h2 h3
          rw [h2, h3]
          exact h5
        | succ i =>
          have := h1 0 (by omega)
          simp at this
          exact absurd this e
theorem lx_ah {ltb : α → α → Bool} {u v : List α} (hl : u.length = v.length) : lx ltb u v = true ↔ AH (fun a b => ltb a b = true) (om u) (om v) := by
  rw [lx_spec hl]
  constructor
  · rintro ⟨i, a, b, h1, h2, h3, h4, h5⟩
    have hi : i < u.length := (List.getElem?_eq_some_iff.mp h2).1
    exact ⟨i, a, b, ⟨fun j hj => by rw [om_lt (by omega), om_lt (by omega), h1 j hj], by rw [om_lt hi, h2], by rw [om_lt (hl ▸ hi), h3], h4⟩, h5⟩
  · rintro ⟨i, a, b, h, l⟩
    have hu : u ≠ [] := fun e => by
      have := h.one
      rw [e] at this
      simp [om] at this
    have hi : i < u.length := by
      apply Nat.lt_of_not_le
      intro hge
      have := h.ahead (i % u.length) (Nat.lt_of_lt_of_le (Nat.mod_lt _ (List.length_pos_iff.mpr hu)) hge)
      have e1 : om u (i % u.length) = om u i := by unfold om; rw [Nat.mod_mod]
      have e2 : om v (i % u.length) = om v i := by unfold om; rw [hl, Nat.mod_mod]
      rw [e1, e2, h.one, h.two] at this
      exact h.ne (Option.some.inj this)
    exact ⟨i, a, b, fun j hj => by rw [← om_lt (by omega), ← om_lt (by omega), h.ahead j hj], by rw [← om_lt hi, h.one], by rw [← om_lt (hl ▸ hi), h.two], h.ne, l⟩
end
end Wd
end Pw
set_option Elab.async false
set_option linter.all false
set_option maxRecDepth 100000
namespace Pw
namespace Law
open PySem PySem.Spec PyProof.Rows L2
-- printed by gen.py
noncomputable def m_not_long (c_TooGreat : Addr) : Sm := (cSeq (cIfS (cOr (cT (cBinE dGt (cBits (cVarV 0)) (vE (cD (.int 997))))) (cT (cBinE dGt (cCall1 dLen (vE (cCall1 dStr (vE (cCall1 dAbs (cVarV 0)))))) (vE (cD (.int 300)))))) (cRaise c_TooGreat ["number"] (cCons (cD (.int 0)) cNil)) cSkip) (cRet (cVar 0)))
noncomputable def F_not_long (c_TooGreat : Addr) : Fd := runFn 1 (m_not_long c_TooGreat)
noncomputable def g_word_told_0 : Tg := (gTp (gsCons (gNm 2) (gsCons (gNm 3) gsNil)))
noncomputable def b_word_told_1 : Sm := (cIfS (cT (cBinV dGt 3 (vE (cD (.int 0))))) (cIfS (cAnd (cT (cBinV dNe 1 (vE (cLst cNil)))) (cT (cBinE dEq (cBinE dIx (cBinV dIx 1 (vE (cNeg (vE (cD (.int 1)))))) (vE (cD (.int 0)))) (cVarV 2)))) (cSetIx 1 (vE (cNeg (vE (cD (.int 1))))) (cTup (cCons (cVar 2) (cCons (cBinE dAdd (cBinE dIx (cBinV dIx 1 (vE (cNeg (vE (cD (.int 1)))))) (vE (cD (.int 1)))) (cVarV 3)) cNil)))) (cExpr (cMeth 1 "list" mAppend (cCons (cTup (cCons (cVar 2) (cCons (cVar 3) cNil))) cNil)))) cSkip)
noncomputable def m_word_told : Sm := (cSeq (cAsg (cLst cNil) (gNm 1)) (cSeq (cFor (cIt (cVar 0)) g_word_told_0 b_word_told_1) (cRet (cCall1 dTuple (cVarV 1)))))
noncomputable def F_word_told : Fd := runFn 4 (m_word_told)
noncomputable def g_word_made_0 : Tg := (gTp (gsCons (gNm 1) (gsCons (gNm 2) gsNil)))
noncomputable def b_word_made_1 (c_TooGreat : Addr) : Sm := (cExpr (cCall 1 (F_not_long c_TooGreat) (cCons (cVar 2) cNil)))
noncomputable def m_word_made (c_TooGreat : Addr) : Sm := (cSeq (cIfS (cT (cBinE dGt (cCall1 dLen (cVarV 0)) (vE (cD (.int 400))))) (cRaise c_TooGreat ["number"] (cCons (cD (.int 1)) cNil)) cSkip) (cSeq (cFor (cIt (cVar 0)) g_word_made_0 (b_word_made_1 c_TooGreat)) (cRet (cVar 0))))
noncomputable def F_word_made (c_TooGreat : Addr) : Fd := runFn 3 (m_word_made c_TooGreat)
noncomputable def g_word_long_0 : Tg := (gTp (gsCons (gNm 1) (gsCons (gNm 2) gsNil)))
noncomputable def e_word_long_1 : Ev := (cVar 2)
noncomputable def m_word_long : Sm := (cRet (cCall1 dSum (vE (cComp (cIt (cVar 0)) g_word_long_0 cYes e_word_long_1 [1, 2]))))
noncomputable def F_word_long : Fd := runFn 3 (m_word_long)
noncomputable def m_word_then (c_TooGreat : Addr) : Sm := (cRet (cCall 1 (F_word_made c_TooGreat) (cCons (cCall 1 F_word_told (cCons (cLst (cStar (cVar 0) (cStar (cVar 1) cNil))) cNil)) cNil)))
noncomputable def F_word_then (c_TooGreat : Addr) : Fd := runFn 2 (m_word_then c_TooGreat)
noncomputable def m_times_runs : Sm := (cSeq (cAsg (cAndV (cBinV dNe 0 (vE (cTup cNil))) (cBinE dEq (cBinE dIx (cBinV dIx 0 (vE (cD (.int 0)))) (vE (cD (.int 0)))) (vE (cBinE dIx (cBinV dIx 0 (vE (cNeg (vE (cD (.int 1)))))) (vE (cD (.int 0))))))) (gNm 2)) (cRet (cBinE dSub (cBinE dMul2 (cCall1 dLen (cVarV 0)) (cVarV 1)) (vE (cIf (cT (cVar 2)) (cBinV dSub 1 (vE (cD (.int 1)))) (cD (.int 0)))))))
noncomputable def F_times_runs : Fd := runFn 3 (m_times_runs)
noncomputable def m_word_times (c_TooGreat : Addr) : Sm := (cSeq (cIfS (cOr (cT (cBinV dEq 0 (vE (cTup cNil)))) (cT (cBinV dEq 1 (vE (cD (.int 0)))))) (cRet (cTup cNil)) cSkip) (cSeq (cIfS (cT (cBinE dEq (cCall1 dLen (cVarV 0)) (vE (cD (.int 1))))) (cRet (cCall 1 (F_word_made c_TooGreat) (cCons (cTup (cCons (cTup (cCons (cBinE dIx (cBinV dIx 0 (vE (cD (.int 0)))) (vE (cD (.int 0)))) (cCons (cBinE dMul2 (cBinE dIx (cBinV dIx 0 (vE (cD (.int 0)))) (vE (cD (.int 1)))) (cVarV 1)) cNil))) cNil)) cNil))) cSkip) (cSeq (cIfS (cT (cBinE dGt (cCall 2 F_times_runs (cCons (cVar 0) (cCons (cVar 1) cNil))) (vE (cD (.int 400))))) (cRaise c_TooGreat ["number"] (cCons (cD (.int 1)) cNil)) cSkip) (cRet (cCall 1 (F_word_made c_TooGreat) (cCons (cCall 1 F_word_told (cCons (cBinE dMul2 (cCall1 dList2 (cVarV 0)) (cVarV 1)) cNil)) cNil))))))
noncomputable def F_word_times (c_TooGreat : Addr) : Fd := runFn 2 (m_word_times c_TooGreat)
noncomputable def m_endless_runs : Sm := (cSeq (cAsg (cTup (cCons (cBinV dIx 0 (vE (cD (.int 0)))) (cCons (cBinV dIx 0 (vE (cNeg (vE (cD (.int 1)))))) cNil))) (gTp (gsCons (gTp (gsCons (gNm 1) (gsCons (gNm 2) gsNil))) (gsCons (gTp (gsCons (gNm 3) (gsCons (gNm 4) gsNil))) gsNil)))) (cSeq (cIfS (cT (cBinV dNe 1 (cVarV 3))) (cRet (cTup (cCons (cTup cNil) (cCons (cVar 0) cNil)))) cSkip) (cRet (cTup (cCons (cSlV2 0 none (some (vE (cD (.int 1))))) (cCons (cTup (cStar (cSlV2 0 (some (vE (cD (.int 1)))) (some (vE (cNeg (vE (cD (.int 1))))))) (cCons (cTup (cCons (cVar 1) (cCons (cBinV dAdd 4 (cVarV 2)) cNil))) cNil))) cNil))))))
noncomputable def F_endless_runs : Fd := runFn 5 (m_endless_runs)
noncomputable def m_run_at : Sm := (cRet (cIf (cT (cBinV dLt 2 (vE (cCall1 dLen (cVarV 0))))) (cBinV dIx 0 (cVarV 2)) (cBinV dIx 1 (vE (cBinE dMod (cBinV dSub 2 (vE (cCall1 dLen (cVarV 0)))) (vE (cCall1 dLen (cVarV 1))))))))
noncomputable def F_run_at : Fd := runFn 3 (m_run_at)
noncomputable def m_parted_constant : Sm := (cSeq (cIfS (cT (cBinE dNe (cBinE dIx (cBinV dIx 0 (vE (cD (.int 0)))) (vE (cD (.int 0)))) (cVarV 1))) (cRet (cTup (cCons (cD (.int 0)) (cCons (cBinE dIx (cBinV dIx 0 (vE (cD (.int 0)))) (vE (cD (.int 0)))) cNil)))) cSkip) (cRet (cIf (cT (cBinE dGt (cCall1 dLen (cVarV 0)) (vE (cD (.int 1))))) (cTup (cCons (cBinE dIx (cBinV dIx 0 (vE (cD (.int 0)))) (vE (cD (.int 1)))) (cCons (cBinE dIx (cBinV dIx 0 (vE (cD (.int 1)))) (vE (cD (.int 0)))) cNil))) (cD .none))))
noncomputable def F_parted_constant : Fd := runFn 2 (m_parted_constant)
noncomputable def m_parted_by_one : Sm := (cSeq (cIfS (cT (cBinE dEq (cCall1 dLen (cVarV 1)) (vE (cD (.int 1))))) (cSeq (cAsg (cCall 2 F_parted_constant (cCons (cVar 0) (cCons (cBinE dIx (cBinV dIx 1 (vE (cD (.int 0)))) (vE (cD (.int 0)))) cNil))) (gNm 2)) (cRet (cIf (cT (cBinV (dIs false) 2 (vE (cD .none)))) (cD .none) (cTup (cStar (cVar 2) (cCons (cBinE dIx (cBinV dIx 1 (vE (cD (.int 0)))) (vE (cD (.int 0)))) cNil)))))) cSkip) (cSeq (cAsg (cCall 2 F_parted_constant (cCons (cVar 1) (cCons (cBinE dIx (cBinV dIx 0 (vE (cD (.int 0)))) (vE (cD (.int 0)))) cNil))) (gTp (gsCons (gNm 3) (gsCons (gNm 4) gsNil)))) (cRet (cTup (cCons (cVar 3) (cCons (cBinE dIx (cBinV dIx 0 (vE (cD (.int 0)))) (vE (cD (.int 0)))) (cCons (cVar 4) cNil)))))))
noncomputable def F_parted_by_one : Fd := runFn 5 (m_parted_by_one)
noncomputable def b_endless_parted_0 : Sm := (cSeq (cAsg (cTup (cCons (cCall 3 F_run_at (cCons (cVar 4) (cCons (cVar 5) (cCons (cVar 3) cNil)))) (cCons (cCall 3 F_run_at (cCons (cVar 6) (cCons (cVar 7) (cCons (cVar 3) cNil)))) cNil))) (gTp (gsCons (gTp (gsCons (gNm 8) (gsCons (gNm 9) gsNil))) (gsCons (gTp (gsCons (gNm 10) (gsCons (gNm 11) gsNil))) gsNil)))) (cSeq (cIfS (cT (cBinV dNe 8 (cVarV 10))) (cRet (cTup (cCons (cVar 2) (cCons (cVar 8) (cCons (cVar 10) cNil))))) cSkip) (cSeq (cIfS (cT (cBinV dLt 9 (cVarV 11))) (cRet (cTup (cCons (cBinV dAdd 2 (cVarV 9)) (cCons (cBinE dIx (cCall 3 F_run_at (cCons (cVar 4) (cCons (cVar 5) (cCons (cBinV dAdd 3 (vE (cD (.int 1)))) cNil)))) (vE (cD (.int 0)))) (cCons (cVar 10) cNil))))) cSkip) (cSeq (cIfS (cT (cBinV dLt 11 (cVarV 9))) (cRet (cTup (cCons (cBinV dAdd 2 (cVarV 11)) (cCons (cVar 8) (cCons (cBinE dIx (cCall 3 F_run_at (cCons (cVar 6) (cCons (cVar 7) (cCons (cBinV dAdd 3 (vE (cD (.int 1)))) cNil)))) (vE (cD (.int 0)))) cNil))))) cSkip) (cAug dAddI 2 (cVarV 9))))))
noncomputable def m_endless_parted : Sm := (cSeq (cIfS (cOr (cT (cBinE dEq (cCall1 dLen (cVarV 0)) (vE (cD (.int 1))))) (cT (cBinE dEq (cCall1 dLen (cVarV 1)) (vE (cD (.int 1)))))) (cRet (cCall 2 F_parted_by_one (cCons (cVar 0) (cCons (cVar 1) cNil)))) cSkip) (cSeq (cAsg (cTup (cCons (cCall 1 F_endless_runs (cCons (cVar 0) cNil)) (cCons (cCall 1 F_endless_runs (cCons (cVar 1) cNil)) cNil))) (gTp (gsCons (gTp (gsCons (gNm 4) (gsCons (gNm 5) gsNil))) (gsCons (gTp (gsCons (gNm 6) (gsCons (gNm 7) gsNil))) gsNil)))) (cSeq (cAsg (cD (.int 0)) (gNm 2)) (cSeq (cFor (cRangeC1 (cCons (cBinE dAdd (cBinE dAdd (cCall1 dLen (cVarV 5)) (vE (cCall1 dLen (cVarV 7)))) (vE (cD (.int 1)))) cNil)) (gNm 3) b_endless_parted_0) (cRet (cD .none))))))
noncomputable def F_endless_parted : Fd := runFn 12 (m_endless_parted)
noncomputable def m_let_word (c_Refused : Addr) : Sm := (cIfS (cT (cBinV dEq 0 (vE (cTup cNil)))) (cRaise c_Refused ["word", "place"] (cCons (cD (.str "none")) (cCons (cVar 1) cNil))) cSkip)
noncomputable def F_let_word (c_Refused : Addr) : Fd := runFn 2 (m_let_word c_Refused)
noncomputable def m_order_told (c_Refused : Addr) (c_TooGreat : Addr) : Sm := (cSeq (cExpr (cCall 2 (F_let_word c_Refused) (cCons (cVar 0) (cCons (cD (.int 0)) cNil)))) (cSeq (cExpr (cCall 2 (F_let_word c_Refused) (cCons (cVar 1) (cCons (cD (.int 1)) cNil)))) (cSeq (cAsg (cCall 2 F_endless_parted (cCons (cVar 0) (cCons (cVar 1) cNil))) (gNm 2)) (cSeq (cIfS (cT (cBinV (dIs false) 2 (vE (cD .none)))) (cRet (cTup (cCons (cD (.str "alike")) (cCons (cD .none) cNil)))) cSkip) (cRet (cTup (cCons (cIf (cT (cBinE dLt (cBinV dIx 2 (vE (cD (.int 1)))) (vE (cBinV dIx 2 (vE (cD (.int 2))))))) (cD (.str "before")) (cD (.str "behind"))) (cCons (cCall 1 (F_not_long c_TooGreat) (cCons (cBinV dIx 2 (vE (cD (.int 0)))) cNil)) cNil))))))))
noncomputable def F_order_told (c_Refused : Addr) (c_TooGreat : Addr) : Fd := runFn 3 (m_order_told c_Refused c_TooGreat)
noncomputable def m_ring_runs : Sm := (cSeq (cIfS (cAnd (cT (cBinE dGt (cCall1 dLen (cVarV 0)) (vE (cD (.int 1))))) (cT (cBinE dEq (cBinE dIx (cBinV dIx 0 (vE (cD (.int 0)))) (vE (cD (.int 0)))) (vE (cBinE dIx (cBinV dIx 0 (vE (cNeg (vE (cD (.int 1)))))) (vE (cD (.int 0)))))))) (cRet (cTup (cStar (cSlV2 0 (some (vE (cD (.int 1)))) (some (vE (cNeg (vE (cD (.int 1))))))) (cCons (cTup (cCons (cBinE dIx (cBinV dIx 0 (vE (cD (.int 0)))) (vE (cD (.int 0)))) (cCons (cBinE dAdd (cBinE dIx (cBinV dIx 0 (vE (cNeg (vE (cD (.int 1)))))) (vE (cD (.int 1)))) (vE (cBinE dIx (cBinV dIx 0 (vE (cD (.int 0)))) (vE (cD (.int 1)))))) cNil))) cNil)))) cSkip) (cRet (cVar 0)))
noncomputable def F_ring_runs : Fd := runFn 1 (m_ring_runs)
noncomputable def c_runs_often_0 : Tt := (cT (cBinE dEq (cBinE dMod (cCall1 dLen (cVarV 0)) (cVarV 2)) (vE (cD (.int 0)))))
noncomputable def e_runs_often_1 : Ev := (cVar 2)
noncomputable def c_runs_often_2 : Tt := (cT (cBinE dEq (cBinE dMul2 (cSlV2 0 none (some (cVarV 2))) (vE (cBinE dFdiv (cCall1 dLen (cVarV 0)) (cVarV 2)))) (cVarV 0)))
noncomputable def e_runs_often_3 : Ev := (cBinE dFdiv (cCall1 dLen (cVarV 0)) (cVarV 2))
noncomputable def m_runs_often : Sm := (cSeq (cAsg (cComp (cRangeC2 (cCons (cD (.int 1)) (cCons (cBinE dAdd (cCall1 dLen (cVarV 0)) (vE (cD (.int 1)))) cNil))) (gNm 2) c_runs_often_0 e_runs_often_1 [2]) (gNm 1)) (cRet (cBinE dIx (cComp (cIt (cVar 1)) (gNm 2) c_runs_often_2 e_runs_often_3 [2]) (vE (cD (.int 0))))))
noncomputable def F_runs_often : Fd := runFn 3 (m_runs_often)
noncomputable def g_word_upto_0 : Tg := (gTp (gsCons (gNm 4) (gsCons (gNm 5) gsNil)))
noncomputable def b_word_upto_1 : Sm := (cSeq (cExpr (cMeth 2 "list" mAppend (cCons (cTup (cCons (cVar 4) (cCons (cCallN dMin2 (cCons (cVar 5) (cCons (cVar 3) cNil))) cNil))) cNil))) (cAug dSub 3 (vE (cBinE dIx (cBinV dIx 2 (vE (cNeg (vE (cD (.int 1)))))) (vE (cD (.int 1)))))))
noncomputable def m_word_upto : Sm := (cSeq (cPar [2, 3] (cConsR (cLst cNil) (cConsR (cVar 1) cNil))) (cSeq (cFor (cIt (cVar 0)) g_word_upto_0 b_word_upto_1) (cRet (cCall 1 F_word_told (cCons (cVar 2) cNil)))))
noncomputable def F_word_upto : Fd := runFn 6 (m_word_upto)
noncomputable def g_word_from_0 : Tg := (gTp (gsCons (gNm 4) (gsCons (gNm 5) gsNil)))
noncomputable def b_word_from_1 : Sm := (cSeq (cAsg (cCallN dMin2 (cCons (cVar 5) (cCons (cVar 3) cNil))) (gNm 6)) (cSeq (cExpr (cMeth 2 "list" mAppend (cCons (cTup (cCons (cVar 4) (cCons (cBinV dSub 5 (cVarV 6)) cNil))) cNil))) (cAug dSub 3 (cVarV 6))))
noncomputable def m_word_from : Sm := (cSeq (cPar [2, 3] (cConsR (cLst cNil) (cConsR (cVar 1) cNil))) (cSeq (cFor (cIt (cVar 0)) g_word_from_0 b_word_from_1) (cRet (cCall 1 F_word_told (cCons (cVar 2) cNil)))))
noncomputable def F_word_from : Fd := runFn 7 (m_word_from)
noncomputable def m_power_told (c_Refused : Addr) : Sm := (cSeq (cExpr (cCall 2 (F_let_word c_Refused) (cCons (cVar 0) (cCons (cD (.int 0)) cNil)))) (cSeq (cAsg (cCall 1 F_ring_runs (cCons (cVar 0) cNil)) (gNm 1)) (cSeq (cAsg (cIf (cT (cBinE dEq (cCall1 dLen (cVarV 1)) (vE (cD (.int 1))))) (cBinE dIx (cBinV dIx 1 (vE (cD (.int 0)))) (vE (cD (.int 1)))) (cCall 1 F_runs_often (cCons (cVar 1) cNil))) (gNm 2)) (cRet (cTup (cCons (cCall 2 F_word_upto (cCons (cVar 0) (cCons (cBinE dFdiv (cCall 1 F_word_long (cCons (cVar 0) cNil)) (cVarV 2)) cNil))) (cCons (cVar 2) cNil)))))))
noncomputable def F_power_told (c_Refused : Addr) : Fd := runFn 3 (m_power_told c_Refused)
noncomputable def m_word_turned : Sm := (cRet (cCall 1 F_word_told (cCons (cLst (cStar (cCall 2 F_word_from (cCons (cVar 0) (cCons (cVar 1) cNil))) (cStar (cCall 2 F_word_upto (cCons (cVar 0) (cCons (cVar 1) cNil))) cNil))) cNil)))
noncomputable def F_word_turned : Fd := runFn 2 (m_word_turned)
noncomputable def m_letter_at : Sm := (cRet (cBinE dIx (cBinE dIx (cCall 2 F_word_from (cCons (cVar 0) (cCons (cBinV dMod 1 (vE (cCall 1 F_word_long (cCons (cVar 0) cNil)))) cNil))) (vE (cD (.int 0)))) (vE (cD (.int 0)))))
noncomputable def F_letter_at : Fd := runFn 2 (m_letter_at)
noncomputable def m_endless_cut (c_TooGreat : Addr) : Sm := (cSeq (cAsg (cCall 1 F_word_long (cCons (cVar 0) cNil)) (gNm 3)) (cSeq (cAsg (cCall 2 F_word_turned (cCons (cVar 0) (cCons (cBinV dMod 1 (cVarV 3)) cNil))) (gNm 4)) (cRet (cCall 2 (F_word_then c_TooGreat) (cCons (cCall 2 (F_word_times c_TooGreat) (cCons (cVar 4) (cCons (cBinV dFdiv 2 (cVarV 3)) cNil))) (cCons (cCall 2 F_word_upto (cCons (cVar 4) (cCons (cBinV dMod 2 (cVarV 3)) cNil))) cNil))))))
noncomputable def F_endless_cut (c_TooGreat : Addr) : Fd := runFn 5 (m_endless_cut c_TooGreat)
noncomputable def b_law_runs_0 : Sm := (cIfS (cAnd (cT (cBinV dNe 1 (vE (cLst cNil)))) (cT (cBinE dEq (cBinE dIx (cBinV dIx 1 (vE (cNeg (vE (cD (.int 1)))))) (vE (cD (.int 0)))) (cVarV 2)))) (cSetIx 1 (vE (cNeg (vE (cD (.int 1))))) (cTup (cCons (cVar 2) (cCons (cBinE dAdd (cBinE dIx (cBinV dIx 1 (vE (cNeg (vE (cD (.int 1)))))) (vE (cD (.int 1)))) (vE (cD (.int 1)))) cNil)))) (cExpr (cMeth 1 "list" mAppend (cCons (cTup (cCons (cVar 2) (cCons (cD (.int 1)) cNil))) cNil))))
noncomputable def m_law_runs : Sm := (cSeq (cAsg (cLst cNil) (gNm 1)) (cSeq (cFor (cIt (cVar 0)) (gNm 2) b_law_runs_0) (cRet (cCall1 dTuple (cVarV 1)))))
noncomputable def F_law_runs : Fd := runFn 3 (m_law_runs)
noncomputable def e_law_word_0 : Ev := (cCall 2 F_law_of (cCons (cVar 0) (cCons (cVar 2) cNil)))
noncomputable def m_law_word : Sm := (cSeq (cAsg (cCall 2 F_law_of (cCons (cVar 0) (cCons (cLst (cCons (cLst (cCons (cD (.str "a")) (cCons (cD (.str "b")) cNil))) (cCons (cLst (cCons (cD (.str "a")) (cCons (cD (.str "b")) (cCons (cD (.str "a")) cNil)))) (cCons (cLst (cCons (cD (.str "a")) (cCons (cD (.str "b")) (cCons (cD (.str "c")) cNil)))) (cCons (cLst (cCons (cD (.str "a")) cNil)) cNil))))) cNil))) (gNm 2)) (cRet (cComp (cRangeC1 (cCons (cBinE dAdd (cD (.int 1)) (vE (cCall 2 F_law_pick (cCons (cVar 0) (cCons (cVar 1) cNil))))) cNil)) (gNm 3) cYes e_law_word_0 [3])))
noncomputable def F_law_word : Fd := runFn 4 (m_law_word)
noncomputable def m_law_other : Sm := (cSeq (cPar [2, 3] (cConsR (cCall 2 F_law_pick (cCons (cVar 0) (cCons (cD (.int 6)) cNil))) (cConsR (cCall 2 F_law_pick (cCons (cVar 0) (cCons (cCall1 dLen (cVarV 1)) cNil))) cNil))) (cSeq (cIfS (cT (cBinV dEq 2 (vE (cD (.int 0))))) (cRet (cBinV dMul2 1 (vE (cBinE dAdd (cD (.int 1)) (vE (cCall 2 F_law_pick (cCons (cVar 0) (cCons (cD (.int 3)) cNil)))))))) cSkip) (cSeq (cIfS (cT (cBinV dEq 2 (vE (cD (.int 1))))) (cRet (cBinE dAdd (cSlV2 1 (some (cVarV 3)) none) (vE (cSlV2 1 none (some (cVarV 3)))))) cSkip) (cSeq (cIfS (cT (cBinV dEq 2 (vE (cD (.int 2))))) (cRet (cBinE dAdd (cBinE dAdd (cSlV2 1 none (some (cVarV 3))) (vE (cLst (cCons (cCall 2 F_law_of (cCons (cVar 0) (cCons (cLst (cCons (cD (.str "a")) (cCons (cD (.str "b")) (cCons (cD (.str "c")) cNil)))) cNil))) cNil)))) (vE (cSlV2 1 (some (vE (cBinV dAdd 3 (vE (cD (.int 1)))))) none)))) cSkip) (cSeq (cIfS (cT (cBinV dEq 2 (vE (cD (.int 3))))) (cRet (cBinE dAdd (cBinV dMul2 1 (vE (cD (.int 2)))) (vE (cSlV2 1 none (some (cVarV 3)))))) cSkip) (cSeq (cIfS (cT (cBinV dEq 2 (vE (cD (.int 4))))) (cRet (cIf (cT (cBinE dGt (cCall1 dLen (cVarV 1)) (vE (cD (.int 1))))) (cBinV dAdd 1 (vE (cSlV2 1 none (some (vE (cD (.int 1))))))) (cVar 1))) cSkip) (cRet (cCall 2 F_law_word (cCons (cVar 0) (cCons (cD (.int 7)) cNil))))))))))
noncomputable def F_law_other : Fd := runFn 4 (m_law_other)
noncomputable def b_law_parted_0 : Sm := (cSeq (cPar [3, 4] (cConsR (cBinV dIx 0 (vE (cBinV dMod 2 (vE (cCall1 dLen (cVarV 0)))))) (cConsR (cBinV dIx 1 (vE (cBinV dMod 2 (vE (cCall1 dLen (cVarV 1)))))) cNil))) (cIfS (cT (cBinV dNe 3 (cVarV 4))) (cRet (cTup (cCons (cVar 2) (cCons (cVar 3) (cCons (cVar 4) cNil))))) cSkip))
noncomputable def m_law_parted : Sm := (cSeq (cFor (cRangeC1 (cCons (cBinE dAdd (cCall1 dLen (cVarV 0)) (vE (cCall1 dLen (cVarV 1)))) cNil)) (gNm 2) b_law_parted_0) (cRet (cD .none)))
noncomputable def F_law_parted : Fd := runFn 5 (m_law_parted)
noncomputable def b_law_root_0 : Sm := (cIfS (cT (cBinE dEq (cBinE dMul2 (cSlV2 0 none (some (cVarV 1))) (vE (cBinE dFdiv (cCall1 dLen (cVarV 0)) (cVarV 1)))) (cVarV 0))) (cRet (cTup (cCons (cSlV2 0 none (some (cVarV 1))) (cCons (cBinE dFdiv (cCall1 dLen (cVarV 0)) (cVarV 1)) cNil)))) cSkip)
noncomputable def m_law_root : Sm := (cSeq (cFor (cRangeC2 (cCons (cD (.int 1)) (cCons (cBinE dAdd (cCall1 dLen (cVarV 0)) (vE (cD (.int 1)))) cNil))) (gNm 1) b_law_root_0) (cRet (cTup (cCons (cVar 0) (cCons (cD (.int 1)) cNil)))))
noncomputable def F_law_root : Fd := runFn 2 (m_law_root)
noncomputable def g_law_far_0 : Tg := (gTp (gsCons (gNm 2) (gsCons (gNm 3) gsNil)))
noncomputable def e_law_far_1 : Ev := (cTup (cCons (cVar 2) (cCons (cBinV dMul2 3 (cVarV 1)) cNil)))
noncomputable def m_law_far : Sm := (cRet (cCall1 dTuple (vE (cComp (cIt (cVar 0)) g_law_far_0 cYes e_law_far_1 [2, 3]))))
noncomputable def F_law_far : Fd := runFn 4 (m_law_far)
noncomputable def m_law_refused (c_Refused : Addr) (th : Option Src → Res SV) : Sm := (cSeq (cTry (cExpr (cThunk th)) c_Refused 1 (cRet (cTup (cCons (cFld 1 "word") (cCons (cFld 1 "place") cNil))))) (cRet (cD .none)))
-- slots of _law_refused: ['call', 'error']
noncomputable def g_law_0 : Tg := (gNm 11)
noncomputable def e_law_1 : Ev := (cCall 1 F_law_runs (cCons (cVar 11) cNil))
noncomputable def g_law_2 : Tg := (gNm 19)
noncomputable def e_law_3 : Ev := (cTup (cCons (cVar 19) (cCons (cD (.int 1)) cNil)))
noncomputable def g_law_4 : Tg := (gNm 10)
noncomputable def b_law_5 (c_Refused : Addr) (c_TooGreat : Addr) : Sm := (cSeq (cAsg (cCall 2 F_law_parted (cCons (cBinV dIx 2 (cVarV 5)) (cCons (cBinV dIx 2 (cVarV 10)) cNil))) (gNm 9)) (cSeq (cIfS (cT (cBinE dNe (cCall1 dRepr (vE (cCall 2 F_endless_parted (cCons (cBinV dIx 3 (cVarV 5)) (cCons (cBinV dIx 3 (cVarV 10)) cNil))))) (vE (cCall1 dRepr (cVarV 9))))) (cRet (cD (.bool false))) cSkip) (cSeq (cIfS (cT (cBinE dNe (cBinV (dIs false) 9 (vE (cD .none))) (vE (cBinE dEq (cBinE dIx (cCall 1 F_law_root (cCons (cBinV dIx 2 (cVarV 5)) cNil)) (vE (cD (.int 0)))) (vE (cBinE dIx (cCall 1 F_law_root (cCons (cBinV dIx 2 (cVarV 10)) cNil)) (vE (cD (.int 0))))))))) (cRet (cD (.bool false))) cSkip) (cSeq (cAsg (cIf (cT (cBinV (dIs false) 9 (vE (cD .none)))) (cTup (cCons (cD (.str "alike")) (cCons (cD .none) cNil))) (cTup (cCons (cIf (cT (cBinE dLt (cBinV dIx 9 (vE (cD (.int 1)))) (vE (cBinV dIx 9 (vE (cD (.int 2))))))) (cD (.str "before")) (cD (.str "behind"))) (cCons (cBinV dIx 9 (vE (cD (.int 0)))) cNil)))) (gNm 16)) (cSeq (cIfS (cT (cBinE dNe (cCall1 dRepr (vE (cCall 2 (F_order_told c_Refused c_TooGreat) (cCons (cBinV dIx 3 (cVarV 5)) (cCons (cBinV dIx 3 (cVarV 10)) cNil))))) (vE (cCall1 dRepr (cVarV 16))))) (cRet (cD (.bool false))) cSkip) (cSeq (cAsg (cCall 2 F_endless_parted (cCons (cCall 2 F_law_far (cCons (cBinV dIx 3 (cVarV 5)) (cCons (cVar 4) cNil))) (cCons (cCall 2 F_law_far (cCons (cBinV dIx 3 (cVarV 10)) (cCons (cVar 4) cNil))) cNil))) (gNm 17)) (cIfS (cT (cBinE dNe (cCall1 dRepr (cVarV 17)) (vE (cCall1 dRepr (vE (cIf (cT (cBinV (dIs true) 9 (vE (cD .none)))) (cTup (cCons (cBinE dMul2 (cBinV dIx 9 (vE (cD (.int 0)))) (cVarV 4)) (cCons (cBinV dIx 9 (vE (cD (.int 1)))) (cCons (cBinV dIx 9 (vE (cD (.int 2)))) cNil)))) (cD .none))))))) (cRet (cD (.bool false))) cSkip)))))))
noncomputable def b_law_6 (c_Refused : Addr) (c_TooGreat : Addr) : Sm := (cSeq (cIfS (cT (cBinE dNe (cCall1 dRepr (vE (cCall 1 F_word_told (cCons (cComp (cIt (cBinV dIx 2 (cVarV 5))) g_law_2 cYes e_law_3 [19]) cNil)))) (vE (cCall1 dRepr (vE (cBinV dIx 3 (cVarV 5))))))) (cRet (cD (.bool false))) cSkip) (cSeq (cIfS (cT (cBinE dNe (cCall 1 F_word_long (cCons (cBinV dIx 3 (cVarV 5)) cNil)) (vE (cCall1 dLen (vE (cBinV dIx 2 (cVarV 5))))))) (cRet (cD (.bool false))) cSkip) (cSeq (cAsg (cCall 1 F_law_root (cCons (cBinV dIx 2 (cVarV 5)) cNil)) (gTp (gsCons (gNm 12) (gsCons (gNm 13) gsNil)))) (cSeq (cIfS (cT (cBinE dNe (cCall1 dRepr (vE (cCall 1 (F_power_told c_Refused) (cCons (cBinV dIx 3 (cVarV 5)) cNil)))) (vE (cCall1 dRepr (vE (cTup (cCons (cCall 1 F_law_runs (cCons (cVar 12) cNil)) (cCons (cVar 13) cNil)))))))) (cRet (cD (.bool false))) cSkip) (cSeq (cAsg (cCall 2 F_law_pick (cCons (cVar 1) (cCons (cBinE dPow (cD (.int 10)) (vE (cD (.int 9)))) cNil))) (gNm 8)) (cSeq (cIfS (cT (cBinE dNe (cCall 2 F_letter_at (cCons (cBinV dIx 3 (cVarV 5)) (cCons (cVar 8) cNil))) (vE (cBinE dIx (cBinV dIx 2 (cVarV 5)) (vE (cBinE dMod (cCall1 dInt (cVarV 8)) (vE (cCall1 dLen (vE (cBinV dIx 2 (cVarV 5))))))))))) (cRet (cD (.bool false))) cSkip) (cSeq (cPar [14, 15] (cConsR (cBinE dMod (cCall1 dInt (cVarV 8)) (vE (cCall1 dLen (vE (cBinV dIx 2 (cVarV 5)))))) (cConsR (cCall 2 F_law_pick (cCons (cVar 1) (cCons (cD (.int 60)) cNil))) cNil))) (cSeq (cAsg (cBinE dMul2 (cBinE dAdd (cSlE2 (cBinV dIx 2 (cVarV 5)) (some (cVarV 14)) none) (vE (cSlE2 (cBinV dIx 2 (cVarV 5)) none (some (cVarV 14))))) (vE (cBinE dAdd (cBinV dFdiv 15 (vE (cCall1 dLen (vE (cBinV dIx 2 (cVarV 5)))))) (vE (cD (.int 1)))))) (gNm 9)) (cSeq (cIfS (cT (cBinE dNe (cCall1 dRepr (vE (cCall 3 (F_endless_cut c_TooGreat) (cCons (cBinV dIx 3 (cVarV 5)) (cCons (cVar 8) (cCons (cVar 15) cNil)))))) (vE (cCall1 dRepr (vE (cCall 1 F_law_runs (cCons (cSlV2 9 none (some (cVarV 15))) cNil))))))) (cRet (cD (.bool false))) cSkip) (cSeq (cIfS (cT (cBinE dNe (cCall1 dRepr (vE (cCall 2 F_word_turned (cCons (cBinV dIx 3 (cVarV 5)) (cCons (cVar 14) cNil))))) (vE (cCall1 dRepr (vE (cCall 1 F_law_runs (cCons (cBinE dAdd (cSlE2 (cBinV dIx 2 (cVarV 5)) (some (cVarV 14)) none) (vE (cSlE2 (cBinV dIx 2 (cVarV 5)) none (some (cVarV 14))))) cNil))))))) (cRet (cD (.bool false))) cSkip) (cFor (cRangeC1 (cCons (cD (.int 3)) cNil)) g_law_4 (b_law_5 c_Refused c_TooGreat))))))))))))
noncomputable def g_law_7 : Tg := (gTp (gsCons (gNm 5) (gsCons (gNm 10) gsNil)))
noncomputable def e_law_8 (c_Refused : Addr) (c_TooGreat : Addr) : Ev := (cBinE dIx (cCall 2 (F_order_told c_Refused c_TooGreat) (cCons (cBinV dIx 3 (cVarV 5)) (cCons (cBinV dIx 3 (cVarV 10)) cNil))) (vE (cD (.int 0))))
noncomputable def g_law_9 : Tg := (gTp (gsCons (gNm 5) (gsCons (gNm 10) gsNil)))
noncomputable def e_law_10 : Ev := (cCall 2 F_law_parted (cCons (cBinV dIx 2 (cVarV 5)) (cCons (cBinV dIx 2 (cVarV 10)) cNil)))
noncomputable def g_law_11 : Tg := (gNm 18)
noncomputable def e_law_12 : Ev := (cIf (cT (cBinV (dIs false) 18 (vE (cD .none)))) (cBinE dPow (cD (.int 10)) (vE (cD (.int 9)))) (cBinV dIx 18 (vE (cD (.int 0)))))
noncomputable def m_law (c_Refused : Addr) (c_TooGreat : Addr) : Sm := (cSeq (cAsg (cLst (cCons (cCall 2 F_law_word (cCons (cVar 1) (cCons (cD (.int 12)) cNil))) cNil)) (gNm 2)) (cSeq (cAsg (cBinV dAdd 2 (vE (cLst (cCons (cCall 2 F_law_other (cCons (cVar 1) (cCons (cBinV dIx 2 (vE (cD (.int 0)))) cNil))) (cCons (cCall 2 F_law_other (cCons (cVar 1) (cCons (cBinV dIx 2 (vE (cD (.int 0)))) cNil))) cNil))))) (gNm 2)) (cSeq (cAsg (cComp (cIt (cVar 2)) g_law_0 cYes e_law_1 [11]) (gNm 3)) (cSeq (cAsg (cCall 2 F_law_of (cCons (cVar 1) (cCons (cLst (cCons (cD (.int 2)) (cCons (cBinE dPow (cD (.int 10)) (vE (cD (.int 30)))) (cCons (cCall1 dInt (vE (cBinE dMul2 (cD (.str "7")) (vE (cD (.int 288)))))) cNil)))) cNil))) (gNm 4)) (cSeq (cFor (cRangeC1 (cCons (cD (.int 3)) cNil)) (gNm 5) (b_law_6 c_Refused c_TooGreat)) (cSeq (cAsg (cComp (cIt (cTup (cCons (cTup (cCons (cD (.int 0)) (cCons (cD (.int 1)) cNil))) (cCons (cTup (cCons (cD (.int 1)) (cCons (cD (.int 2)) cNil))) (cCons (cTup (cCons (cD (.int 0)) (cCons (cD (.int 2)) cNil))) cNil))))) g_law_7 cYes (e_law_8 c_Refused c_TooGreat) [5, 10]) (gNm 6)) (cSeq (cIfS (cAnd (cT (cBinE dEq (cBinV dIx 6 (vE (cD (.int 0)))) (vE (cBinV dIx 6 (vE (cD (.int 1))))))) (cT (cBinE dNe (cBinV dIx 6 (vE (cD (.int 2)))) (vE (cBinV dIx 6 (vE (cD (.int 0)))))))) (cRet (cD (.bool false))) cSkip) (cSeq (cAsg (cComp (cIt (cTup (cCons (cTup (cCons (cD (.int 0)) (cCons (cD (.int 1)) cNil))) (cCons (cTup (cCons (cD (.int 1)) (cCons (cD (.int 2)) cNil))) (cCons (cTup (cCons (cD (.int 0)) (cCons (cD (.int 2)) cNil))) cNil))))) g_law_9 cYes e_law_10 [5, 10]) (gNm 7)) (cSeq (cAsg (cCall1 dSorted (vE (cComp (cIt (cVar 7)) g_law_11 cYes e_law_12 [18]))) (gNm 8)) (cSeq (cIfS (cT (cBinE dNe (cBinV dIx 8 (vE (cD (.int 0)))) (vE (cBinV dIx 8 (vE (cD (.int 1))))))) (cRet (cD (.bool false))) cSkip) (cSeq (cIfS (cT (cBinE dNe (cLam 20 2 [3] (m_law_refused c_Refused) (cCall 2 (F_order_told c_Refused c_TooGreat) (cCons (cTup cNil) (cCons (cBinV dIx 3 (vE (cD (.int 0)))) cNil)))) (vE (cTup (cCons (cD (.str "none")) (cCons (cD (.int 0)) cNil)))))) (cRet (cD (.bool false))) cSkip) (cRet (cAndV (cBinE dEq (cLam 20 2 [3] (m_law_refused c_Refused) (cCall 2 (F_order_told c_Refused c_TooGreat) (cCons (cBinV dIx 3 (vE (cD (.int 0)))) (cCons (cTup cNil) cNil)))) (vE (cTup (cCons (cD (.str "none")) (cCons (cD (.int 1)) cNil))))) (cBinE dEq (cLam 20 2 [] (m_law_refused c_Refused) (cCall 1 (F_power_told c_Refused) (cCons (cTup cNil) cNil))) (vE (cTup (cCons (cD (.str "none")) (cCons (cD (.int 0)) cNil))))))))))))))))))
-- slots of law: ['script', 'source', 'words', 'forms', 'times', 'j', 'told', 'spots', 'far', 'due', 'k', 'word', 'root', 'often', 'place', 'many', 'side', 'late', 'spot', 'letter', '<tab>']
end Law
end Pw
set_option Elab.async false
set_option linter.all false
set_option maxRecDepth 100000
set_option maxHeartbeats 4000000
namespace Pw
namespace Law
open PySem PySem.Spec PyProof.Rows L2
def topS (i : Nat) : Stmt := PySem.Challenge.pw_codeddeals_k09_whole_endless_words_in_or.main.body.getD i (.Pass ⟨0, 0, 0, 0⟩)
section
variable {P : Program} {w : World} {K : PySem.W.Frag} {mg : Str → Option Value} {base : Heap}
-- printed by gen.py
abbrev s_not_long : Stmt := topS 14
theorem sc_not_long : FnScope ["number"] ["number"] (defScope s_not_long) := ⟨rfl, rfl, rfl, by decide +kernel, rfl, by decide +kernel, by decide +kernel⟩
theorem g_not_long {c_TooGreat : Addr} {f : Addr} {fd : FuncData} (F : Fun K "not_long" "not_long" s_not_long f fd) (hm : mg "not_long" = some (.ref f)) (B : Blt mg) (cn_FIGURES : ∃ u, mg "FIGURES" = some u ∧ RelV (vOf (.int 0)) u) (cn_MOST_FIGURES : ∃ u, mg "MOST_FIGURES" = some u ∧ RelV (vOf (.int 300)) u) (cn_SURE_BITS : ∃ u, mg "SURE_BITS" = some u ∧ RelV (vOf (.int 997)) u) {i_TooGreat : Addr} {q_TooGreat : Str} (er_TooGreat : ErC P K mg c_TooGreat i_TooGreat q_TooGreat ["number"]) (mg_TooGreat : mg "TooGreat" = some (.ref c_TooGreat)) : CalG P w K mg base 1 "not_long" 1 (F_not_long c_TooGreat) :=
  ⟨f, fd, ["number"], rfl, fnG_of (k := 0) F sc_not_long fun cdv A outer s H E Z hz hr hgd => (snB_cons (snS_if (snT_W (snW_or (snT_cmpE opR_gt (snE_bits (snV_var (pv 0))) (snV_E (snE_glob (by rfl) cn_SURE_BITS trivial)) (nomark _)) (snW_or1 (snT_cmpE opR_gt (snE_callB call_lenR (by rfl) B.len PyProof.Rows.Boot.«len» (snV_E (snE_callTy call_strR (by rfl) B.str PyProof.Rows.Boot.«str» (snV_E (snE_callB call_absR (by rfl) B.abs PyProof.Rows.Boot.«abs» (snV_var (pv 0))))))) (snV_E (snE_glob (by rfl) cn_MOST_FIGURES trivial)) (nomark _))))) (snB_one (snS_raise rfl er_TooGreat (hr.mono (Nat.zero_le _)) (takes_of rfl rfl rfl rfl) (snA_cons (snE_glob (by rfl) cn_FIGURES trivial) snA_nil) (by rfl) mg_TooGreat)) snB_nil) (snB_one (snS_ret (snE_var (pv 0))))), hm, F.kp, (F.binds (ps := ["number"]) fun _ _ _ _ _ _ us hl => match us, hl with | [_], _ => rfl)⟩
abbrev s_word_told : Stmt := topS 15
theorem sc_word_told : FnScope ["pairs", "found", "letter", "many"] ["pairs"] (defScope s_word_told) := ⟨rfl, rfl, rfl, by decide +kernel, rfl, by decide +kernel, by decide +kernel⟩
theorem g_word_told {f : Addr} {fd : FuncData} (F : Fun K "word_told" "word_told" s_word_told f fd) (hm : mg "word_told" = some (.ref f)) (B : Blt mg) : CalG P w K mg base 1 "word_told" 1 (F_word_told) :=
  ⟨f, fd, ["pairs"], rfl, fnG_of (k := 0) F sc_word_told fun cdv A outer s H E Z hz hr hgd => (snB_cons (snS_set (i := 1) sc_word_told.nd rfl (Or.inl rfl) (snE_lst snA_nil)) (snB_cons (snS_for (passes_of rfl) rfl (snI_any (snE_var (pv 0))) (snG_tp rfl (snGs_cons (snG_nm (pg_name (i := 2) sc_word_told.nd rfl (Or.inl rfl))) (snGs_cons (snG_nm (pg_name (i := 3) sc_word_told.nd rfl (Or.inl rfl))) snGs_nil))) (snB_one (snS_if (snT_cmpV opR_gt (pv 3) (snV_E snE_int) (nomark _)) (snB_one (snS_if (snT_W (snW_and (snT_cmpV (opR_ne hr.units) (pv 1) (snV_E (snE_lst snA_nil)) (nomark _)) (snW_and1 (snT_cmpE (opR_eq hr.units) (snE_ixE (ixR hr.units) (snE_ixV (ixR hr.units) (pv 1) (snV_E (snE_neg (snV_E snE_int))) (fun _ _ => rfl)) (snV_E snE_int) (fun _ _ => rfl)) (snV_var (pv 2)) (nomark _))))) (snB_one (snS_setIx (i := 1) hr.units (pv 1) (snV_E (snE_neg (snV_E snE_int))) (snE_tup (snA_cons (snE_var (pv 2)) (snA_cons (snE_binE opR_add (snE_ixE (ixR hr.units) (snE_ixV (ixR hr.units) (pv 1) (snV_E (snE_neg (snV_E snE_int))) (fun _ _ => rfl)) (snV_E snE_int) (fun _ _ => rfl)) (snV_var (pv 3))) snA_nil))))) (snB_one (snS_expr (snE_meth PySem.F.plainAttrs_list PySem.F.slot_list_append PySem.F.type_list_append mt_appendR (pv 1) (snA_cons (snE_tup (snA_cons (snE_var (pv 2)) (snA_cons (snE_var (pv 3)) snA_nil))) snA_nil)))))) snB_nil))) (snB_one (snS_ret (snE_callTy call_tupleR (by rfl) B.tuple PyProof.Rows.Boot.«tuple» (snV_var (pv 1))))))), hm, F.kp, (F.binds (ps := ["pairs"]) fun _ _ _ _ _ _ us hl => match us, hl with | [_], _ => rfl)⟩
abbrev s_word_made : Stmt := topS 16
theorem sc_word_made : FnScope ["word", "letter", "many"] ["word"] (defScope s_word_made) := ⟨rfl, rfl, rfl, by decide +kernel, rfl, by decide +kernel, by decide +kernel⟩
theorem g_word_made {c_TooGreat : Addr} {f : Addr} {fd : FuncData} (F : Fun K "word_made" "word_made" s_word_made f fd) (hm : mg "word_made" = some (.ref f)) (B : Blt mg) (cn_MOST_RUNS : ∃ u, mg "MOST_RUNS" = some u ∧ RelV (vOf (.int 400)) u) (cn_RUNS : ∃ u, mg "RUNS" = some u ∧ RelV (vOf (.int 1)) u) {i_TooGreat : Addr} {q_TooGreat : Str} (er_TooGreat : ErC P K mg c_TooGreat i_TooGreat q_TooGreat ["number"]) (mg_TooGreat : mg "TooGreat" = some (.ref c_TooGreat)) (G_not_long : CalG P w K mg base 1 "not_long" 1 (F_not_long c_TooGreat)) : CalG P w K mg base 2 "word_made" 1 (F_word_made c_TooGreat) :=
  ⟨f, fd, ["word"], rfl, fnG_of (k := 1) F sc_word_made fun cdv A outer s H E Z hz hr hgd => (snB_cons (snS_if (snT_cmpE opR_gt (snE_callB call_lenR (by rfl) B.len PyProof.Rows.Boot.«len» (snV_var (pv 0))) (snV_E (snE_glob (by rfl) cn_MOST_RUNS trivial)) (nomark _)) (snB_one (snS_raise rfl er_TooGreat (hr.mono (Nat.zero_le _)) (takes_of rfl rfl rfl rfl) (snA_cons (snE_glob (by rfl) cn_RUNS trivial) snA_nil) (by rfl) mg_TooGreat)) snB_nil) (snB_cons (snS_for (passes_of rfl) rfl (snI_any (snE_var (pv 0))) (snG_tp rfl (snGs_cons (snG_nm (pg_name (i := 1) sc_word_made.nd rfl (Or.inl rfl))) (snGs_cons (snG_nm (pg_name (i := 2) sc_word_made.nd rfl (Or.inl rfl))) snGs_nil))) (snB_one (snS_expr (snE_cal G_not_long (hr.mono (by decide)) hgd (by rfl) (takes_of rfl rfl rfl rfl) (snA_cons (snE_var (pv 2)) snA_nil))))) (snB_one (snS_ret (snE_var (pv 0)))))), hm, F.kp, (F.binds (ps := ["word"]) fun _ _ _ _ _ _ us hl => match us, hl with | [_], _ => rfl)⟩
abbrev s_word_long : Stmt := topS 17
theorem sc_word_long : FnScope ["word", "letter", "many"] ["word"] (defScope s_word_long) := ⟨rfl, rfl, rfl, by decide +kernel, rfl, by decide +kernel, by decide +kernel⟩
theorem g_word_long {f : Addr} {fd : FuncData} (F : Fun K "word_long" "word_long" s_word_long f fd) (hm : mg "word_long" = some (.ref f)) (B : Blt mg) : CalG P w K mg base 1 "word_long" 1 (F_word_long) :=
  ⟨f, fd, ["word"], rfl, fnG_of (k := 0) F sc_word_long fun cdv A outer s H E Z hz hr hgd => (snB_one (snS_ret (snE_callB (call_sumR rfl) (by rfl) B.sum PyProof.Rows.Boot.«sum» (snV_E (snE_lc rfl sc_word_long.nd (snI_any (snE_var (pv 0))) (own := [("letter", 1), ("many", 2)]) (blkOk_by (N := ["word", "letter", "many"]) (sc := defScope s_word_long) (by decide +kernel)) (by decide) (fun _ _ _ _ _ => (snG_tp rfl (snGs_cons (snG_nm (pg_name (i := 1) sc_word_long.nd rfl (by first | exact Or.inl rfl | exact Or.inr rfl))) (snGs_cons (snG_nm (pg_name (i := 2) sc_word_long.nd rfl (by first | exact Or.inl rfl | exact Or.inr rfl))) snGs_nil)))) (fun _ _ _ _ _ => snTs_nil) (fun _ _ _ _ _ => (snE_var (pv 2)))))))), hm, F.kp, (F.binds (ps := ["word"]) fun _ _ _ _ _ _ us hl => match us, hl with | [_], _ => rfl)⟩
abbrev s_word_then : Stmt := topS 18
theorem sc_word_then : FnScope ["one", "other"] ["one", "other"] (defScope s_word_then) := ⟨rfl, rfl, rfl, by decide +kernel, rfl, by decide +kernel, by decide +kernel⟩
theorem g_word_then {c_TooGreat : Addr} {f : Addr} {fd : FuncData} (F : Fun K "word_then" "word_then" s_word_then f fd) (hm : mg "word_then" = some (.ref f)) (B : Blt mg) (G_word_made : CalG P w K mg base 2 "word_made" 1 (F_word_made c_TooGreat)) (G_word_told : CalG P w K mg base 1 "word_told" 1 F_word_told) : CalG P w K mg base 3 "word_then" 2 (F_word_then c_TooGreat) :=
  ⟨f, fd, ["one", "other"], rfl, fnG_of (k := 2) F sc_word_then fun cdv A outer s H E Z hz hr hgd => (snB_one (snS_ret (snE_cal G_word_made (hr.mono (by decide)) hgd (by rfl) (takes_of rfl rfl rfl rfl) (snA_cons (snE_cal G_word_told (hr.mono (by decide)) hgd (by rfl) (takes_of rfl rfl rfl rfl) (snA_cons (snE_lst (snA_star (snE_var (pv 0)) (snA_star (snE_var (pv 1)) snA_nil))) snA_nil)) snA_nil)))), hm, F.kp, (F.binds (ps := ["one", "other"]) fun _ _ _ _ _ _ us hl => match us, hl with | [_, _], _ => rfl)⟩
abbrev s_times_runs : Stmt := topS 19
theorem sc_times_runs : FnScope ["word", "often", "is_joined"] ["word", "often"] (defScope s_times_runs) := ⟨rfl, rfl, rfl, by decide +kernel, rfl, by decide +kernel, by decide +kernel⟩
theorem g_times_runs {f : Addr} {fd : FuncData} (F : Fun K "times_runs" "times_runs" s_times_runs f fd) (hm : mg "times_runs" = some (.ref f)) (B : Blt mg) : CalG P w K mg base 1 "times_runs" 2 (F_times_runs) :=
  ⟨f, fd, ["word", "often"], rfl, fnG_of (k := 0) F sc_times_runs fun cdv A outer s H E Z hz hr hgd => (snB_cons (snS_set (i := 2) sc_times_runs.nd rfl (Or.inl rfl) (snE_and (snE_cmpV (opR_ne hr.units) (pv 0) (snV_E (snE_tup snA_nil)) (nomark _)) (snE_one (snE_cmpE (opR_eq hr.units) (snE_ixE (ixR hr.units) (snE_ixV (ixR hr.units) (pv 0) (snV_E snE_int) (fun _ _ => rfl)) (snV_E snE_int) (fun _ _ => rfl)) (snV_E (snE_ixE (ixR hr.units) (snE_ixV (ixR hr.units) (pv 0) (snV_E (snE_neg (snV_E snE_int))) (fun _ _ => rfl)) (snV_E snE_int) (fun _ _ => rfl))) (nomark _))))) (snB_one (snS_ret (snE_binE opR_sub (snE_binE opR_mul2 (snE_callB call_lenR (by rfl) B.len PyProof.Rows.Boot.«len» (snV_var (pv 0))) (snV_var (pv 1))) (snV_E (snE_if (snT_val (snE_var (pv 2))) (snE_binV opR_sub (pv 1) (snV_E snE_int)) snE_int)))))), hm, F.kp, (F.binds (ps := ["word", "often"]) fun _ _ _ _ _ _ us hl => match us, hl with | [_, _], _ => rfl)⟩
abbrev s_word_times : Stmt := topS 20
theorem sc_word_times : FnScope ["word", "often"] ["word", "often"] (defScope s_word_times) := ⟨rfl, rfl, rfl, by decide +kernel, rfl, by decide +kernel, by decide +kernel⟩
theorem g_word_times {c_TooGreat : Addr} {f : Addr} {fd : FuncData} (F : Fun K "word_times" "word_times" s_word_times f fd) (hm : mg "word_times" = some (.ref f)) (B : Blt mg) (cn_MOST_RUNS : ∃ u, mg "MOST_RUNS" = some u ∧ RelV (vOf (.int 400)) u) (cn_RUNS : ∃ u, mg "RUNS" = some u ∧ RelV (vOf (.int 1)) u) {i_TooGreat : Addr} {q_TooGreat : Str} (er_TooGreat : ErC P K mg c_TooGreat i_TooGreat q_TooGreat ["number"]) (mg_TooGreat : mg "TooGreat" = some (.ref c_TooGreat)) (G_word_made : CalG P w K mg base 2 "word_made" 1 (F_word_made c_TooGreat)) (G_times_runs : CalG P w K mg base 1 "times_runs" 2 F_times_runs) (G_word_told : CalG P w K mg base 1 "word_told" 1 F_word_told) : CalG P w K mg base 3 "word_times" 2 (F_word_times c_TooGreat) :=
  ⟨f, fd, ["word", "often"], rfl, fnG_of (k := 2) F sc_word_times fun cdv A outer s H E Z hz hr hgd => (snB_cons (snS_if (snT_W (snW_or (snT_cmpV (opR_eq hr.units) (pv 0) (snV_E (snE_tup snA_nil)) (nomark _)) (snW_or1 (snT_cmpV (opR_eq hr.units) (pv 1) (snV_E snE_int) (nomark _))))) (snB_one (snS_ret (snE_tup snA_nil))) snB_nil) (snB_cons (snS_if (snT_cmpE (opR_eq hr.units) (snE_callB call_lenR (by rfl) B.len PyProof.Rows.Boot.«len» (snV_var (pv 0))) (snV_E snE_int) (nomark _)) (snB_one (snS_ret (snE_cal G_word_made (hr.mono (by decide)) hgd (by rfl) (takes_of rfl rfl rfl rfl) (snA_cons (snE_tup (snA_cons (snE_tup (snA_cons (snE_ixE (ixR hr.units) (snE_ixV (ixR hr.units) (pv 0) (snV_E snE_int) (fun _ _ => rfl)) (snV_E snE_int) (fun _ _ => rfl)) (snA_cons (snE_binE opR_mul2 (snE_ixE (ixR hr.units) (snE_ixV (ixR hr.units) (pv 0) (snV_E snE_int) (fun _ _ => rfl)) (snV_E snE_int) (fun _ _ => rfl)) (snV_var (pv 1))) snA_nil))) snA_nil)) snA_nil)))) snB_nil) (snB_cons (snS_if (snT_cmpE opR_gt (snE_cal G_times_runs (hr.mono (by decide)) hgd (by rfl) (takes_of rfl rfl rfl rfl) (snA_cons (snE_var (pv 0)) (snA_cons (snE_var (pv 1)) snA_nil))) (snV_E (snE_glob (by rfl) cn_MOST_RUNS trivial)) (nomark _)) (snB_one (snS_raise rfl er_TooGreat (hr.mono (Nat.zero_le _)) (takes_of rfl rfl rfl rfl) (snA_cons (snE_glob (by rfl) cn_RUNS trivial) snA_nil) (by rfl) mg_TooGreat)) snB_nil) (snB_one (snS_ret (snE_cal G_word_made (hr.mono (by decide)) hgd (by rfl) (takes_of rfl rfl rfl rfl) (snA_cons (snE_cal G_word_told (hr.mono (by decide)) hgd (by rfl) (takes_of rfl rfl rfl rfl) (snA_cons (snE_binE opR_mul2 (snE_callTy (call_listR2 rfl) (by rfl) B.list PyProof.Rows.Boot.«list» (snV_var (pv 0))) (snV_var (pv 1))) snA_nil)) snA_nil))))))), hm, F.kp, (F.binds (ps := ["word", "often"]) fun _ _ _ _ _ _ us hl => match us, hl with | [_, _], _ => rfl)⟩
abbrev s_endless_runs : Stmt := topS 21
theorem sc_endless_runs : FnScope ["word", "letter", "many", "last", "more"] ["word"] (defScope s_endless_runs) := ⟨rfl, rfl, rfl, by decide +kernel, rfl, by decide +kernel, by decide +kernel⟩
theorem g_endless_runs {f : Addr} {fd : FuncData} (F : Fun K "endless_runs" "endless_runs" s_endless_runs f fd) (hm : mg "endless_runs" = some (.ref f)) (B : Blt mg) : CalG P w K mg base 1 "endless_runs" 1 (F_endless_runs) :=
  ⟨f, fd, ["word"], rfl, fnG_of (k := 0) F sc_endless_runs fun cdv A outer s H E Z hz hr hgd => (snB_cons (snS_asg (snE_tup (snA_cons (snE_ixV (ixR hr.units) (pv 0) (snV_E snE_int) (fun _ _ => rfl)) (snA_cons (snE_ixV (ixR hr.units) (pv 0) (snV_E (snE_neg (snV_E snE_int))) (fun _ _ => rfl)) snA_nil))) (snG_tp rfl (snGs_cons (snG_tp rfl (snGs_cons (snG_nm (pg_name (i := 1) sc_endless_runs.nd rfl (Or.inl rfl))) (snGs_cons (snG_nm (pg_name (i := 2) sc_endless_runs.nd rfl (Or.inl rfl))) snGs_nil))) (snGs_cons (snG_tp rfl (snGs_cons (snG_nm (pg_name (i := 3) sc_endless_runs.nd rfl (Or.inl rfl))) (snGs_cons (snG_nm (pg_name (i := 4) sc_endless_runs.nd rfl (Or.inl rfl))) snGs_nil))) snGs_nil)))) (snB_cons (snS_if (snT_cmpV (opR_ne hr.units) (pv 1) (snV_var (pv 3)) (nomark _)) (snB_one (snS_ret (snE_tup (snA_cons (snE_tup snA_nil) (snA_cons (snE_var (pv 0)) snA_nil))))) snB_nil) (snB_one (snS_ret (snE_tup (snA_cons (snE_slV2 (pv 0) trivial (snV_E snE_int)) (snA_cons (snE_tup (snA_star (snE_slV2 (pv 0) (snV_E snE_int) (snV_E (snE_neg (snV_E snE_int)))) (snA_cons (snE_tup (snA_cons (snE_var (pv 1)) (snA_cons (snE_binV opR_add (pv 4) (snV_var (pv 2))) snA_nil))) snA_nil))) snA_nil))))))), hm, F.kp, (F.binds (ps := ["word"]) fun _ _ _ _ _ _ us hl => match us, hl with | [_], _ => rfl)⟩
abbrev s_run_at : Stmt := topS 22
theorem sc_run_at : FnScope ["ahead", "late", "place"] ["ahead", "late", "place"] (defScope s_run_at) := ⟨rfl, rfl, rfl, by decide +kernel, rfl, by decide +kernel, by decide +kernel⟩
theorem g_run_at {f : Addr} {fd : FuncData} (F : Fun K "run_at" "run_at" s_run_at f fd) (hm : mg "run_at" = some (.ref f)) (B : Blt mg) : CalG P w K mg base 1 "run_at" 3 (F_run_at) :=
  ⟨f, fd, ["ahead", "late", "place"], rfl, fnG_of (k := 0) F sc_run_at fun cdv A outer s H E Z hz hr hgd => (snB_one (snS_ret (snE_if (snT_cmpV opR_lt (pv 2) (snV_E (snE_callB call_lenR (by rfl) B.len PyProof.Rows.Boot.«len» (snV_var (pv 0)))) (nomark _)) (snE_ixV (ixR hr.units) (pv 0) (snV_var (pv 2)) (fun _ _ => rfl)) (snE_ixV (ixR hr.units) (pv 1) (snV_E (snE_binE opR_mod (snE_binV opR_sub (pv 2) (snV_E (snE_callB call_lenR (by rfl) B.len PyProof.Rows.Boot.«len» (snV_var (pv 0))))) (snV_E (snE_callB call_lenR (by rfl) B.len PyProof.Rows.Boot.«len» (snV_var (pv 1)))))) (fun _ _ => rfl))))), hm, F.kp, (F.binds (ps := ["ahead", "late", "place"]) fun _ _ _ _ _ _ us hl => match us, hl with | [_, _, _], _ => rfl)⟩
abbrev s_parted_constant : Stmt := topS 23
theorem sc_parted_constant : FnScope ["word", "letter"] ["word", "letter"] (defScope s_parted_constant) := ⟨rfl, rfl, rfl, by decide +kernel, rfl, by decide +kernel, by decide +kernel⟩
theorem g_parted_constant {f : Addr} {fd : FuncData} (F : Fun K "parted_constant" "parted_constant" s_parted_constant f fd) (hm : mg "parted_constant" = some (.ref f)) (B : Blt mg) : CalG P w K mg base 1 "parted_constant" 2 (F_parted_constant) :=
  ⟨f, fd, ["word", "letter"], rfl, fnG_of (k := 0) F sc_parted_constant fun cdv A outer s H E Z hz hr hgd => (snB_cons (snS_if (snT_cmpE (opR_ne hr.units) (snE_ixE (ixR hr.units) (snE_ixV (ixR hr.units) (pv 0) (snV_E snE_int) (fun _ _ => rfl)) (snV_E snE_int) (fun _ _ => rfl)) (snV_var (pv 1)) (nomark _)) (snB_one (snS_ret (snE_tup (snA_cons snE_int (snA_cons (snE_ixE (ixR hr.units) (snE_ixV (ixR hr.units) (pv 0) (snV_E snE_int) (fun _ _ => rfl)) (snV_E snE_int) (fun _ _ => rfl)) snA_nil))))) snB_nil) (snB_one (snS_ret (snE_if (snT_cmpE opR_gt (snE_callB call_lenR (by rfl) B.len PyProof.Rows.Boot.«len» (snV_var (pv 0))) (snV_E snE_int) (nomark _)) (snE_tup (snA_cons (snE_ixE (ixR hr.units) (snE_ixV (ixR hr.units) (pv 0) (snV_E snE_int) (fun _ _ => rfl)) (snV_E snE_int) (fun _ _ => rfl)) (snA_cons (snE_ixE (ixR hr.units) (snE_ixV (ixR hr.units) (pv 0) (snV_E snE_int) (fun _ _ => rfl)) (snV_E snE_int) (fun _ _ => rfl)) snA_nil))) snE_non)))), hm, F.kp, (F.binds (ps := ["word", "letter"]) fun _ _ _ _ _ _ us hl => match us, hl with | [_, _], _ => rfl)⟩
abbrev s_parted_by_one : Stmt := topS 25
theorem sc_parted_by_one : FnScope ["one", "other", "found", "place", "letter"] ["one", "other"] (defScope s_parted_by_one) := ⟨rfl, rfl, rfl, by decide +kernel, rfl, by decide +kernel, by decide +kernel⟩
theorem g_parted_by_one {f : Addr} {fd : FuncData} (F : Fun K "parted_by_one" "parted_by_one" s_parted_by_one f fd) (hm : mg "parted_by_one" = some (.ref f)) (B : Blt mg) (G_parted_constant : CalG P w K mg base 1 "parted_constant" 2 F_parted_constant) : CalG P w K mg base 2 "parted_by_one" 2 (F_parted_by_one) :=
  ⟨f, fd, ["one", "other"], rfl, fnG_of (k := 1) F sc_parted_by_one fun cdv A outer s H E Z hz hr hgd => (snB_cons (snS_if (snT_cmpE (opR_eq hr.units) (snE_callB call_lenR (by rfl) B.len PyProof.Rows.Boot.«len» (snV_var (pv 1))) (snV_E snE_int) (nomark _)) (snB_cons (snS_set (i := 2) sc_parted_by_one.nd rfl (Or.inl rfl) (snE_cal G_parted_constant (hr.mono (by decide)) hgd (by rfl) (takes_of rfl rfl rfl rfl) (snA_cons (snE_var (pv 0)) (snA_cons (snE_ixE (ixR hr.units) (snE_ixV (ixR hr.units) (pv 1) (snV_E snE_int) (fun _ _ => rfl)) (snV_E snE_int) (fun _ _ => rfl)) snA_nil)))) (snB_one (snS_ret (snE_if (snT_cmpV opR_is (pv 2) (snV_E snE_non) (nomark _)) snE_non (snE_tup (snA_star (snE_var (pv 2)) (snA_cons (snE_ixE (ixR hr.units) (snE_ixV (ixR hr.units) (pv 1) (snV_E snE_int) (fun _ _ => rfl)) (snV_E snE_int) (fun _ _ => rfl)) snA_nil))))))) snB_nil) (snB_cons (snS_asg (snE_cal G_parted_constant (hr.mono (by decide)) hgd (by rfl) (takes_of rfl rfl rfl rfl) (snA_cons (snE_var (pv 1)) (snA_cons (snE_ixE (ixR hr.units) (snE_ixV (ixR hr.units) (pv 0) (snV_E snE_int) (fun _ _ => rfl)) (snV_E snE_int) (fun _ _ => rfl)) snA_nil))) (snG_tp rfl (snGs_cons (snG_nm (pg_name (i := 3) sc_parted_by_one.nd rfl (Or.inl rfl))) (snGs_cons (snG_nm (pg_name (i := 4) sc_parted_by_one.nd rfl (Or.inl rfl))) snGs_nil)))) (snB_one (snS_ret (snE_tup (snA_cons (snE_var (pv 3)) (snA_cons (snE_ixE (ixR hr.units) (snE_ixV (ixR hr.units) (pv 0) (snV_E snE_int) (fun _ _ => rfl)) (snV_E snE_int) (fun _ _ => rfl)) (snA_cons (snE_var (pv 4)) snA_nil)))))))), hm, F.kp, (F.binds (ps := ["one", "other"]) fun _ _ _ _ _ _ us hl => match us, hl with | [_, _], _ => rfl)⟩
abbrev s_endless_parted : Stmt := topS 24
theorem sc_endless_parted : FnScope ["one", "other", "place", "number", "ahead", "late", "begin", "more", "letter", "many", "there", "few"] ["one", "other"] (defScope s_endless_parted) := ⟨rfl, rfl, rfl, by decide +kernel, rfl, by decide +kernel, by decide +kernel⟩
theorem g_endless_parted {f : Addr} {fd : FuncData} (F : Fun K "endless_parted" "endless_parted" s_endless_parted f fd) (hm : mg "endless_parted" = some (.ref f)) (B : Blt mg) (G_parted_by_one : CalG P w K mg base 2 "parted_by_one" 2 F_parted_by_one) (G_endless_runs : CalG P w K mg base 1 "endless_runs" 1 F_endless_runs) (G_run_at : CalG P w K mg base 1 "run_at" 3 F_run_at) : CalG P w K mg base 3 "endless_parted" 2 (F_endless_parted) :=
  ⟨f, fd, ["one", "other"], rfl, fnG_of (k := 2) F sc_endless_parted fun cdv A outer s H E Z hz hr hgd => (snB_cons (snS_if (snT_W (snW_or (snT_cmpE (opR_eq hr.units) (snE_callB call_lenR (by rfl) B.len PyProof.Rows.Boot.«len» (snV_var (pv 0))) (snV_E snE_int) (nomark _)) (snW_or1 (snT_cmpE (opR_eq hr.units) (snE_callB call_lenR (by rfl) B.len PyProof.Rows.Boot.«len» (snV_var (pv 1))) (snV_E snE_int) (nomark _))))) (snB_one (snS_ret (snE_cal G_parted_by_one (hr.mono (by decide)) hgd (by rfl) (takes_of rfl rfl rfl rfl) (snA_cons (snE_var (pv 0)) (snA_cons (snE_var (pv 1)) snA_nil))))) snB_nil) (snB_cons (snS_asg (snE_tup (snA_cons (snE_cal G_endless_runs (hr.mono (by decide)) hgd (by rfl) (takes_of rfl rfl rfl rfl) (snA_cons (snE_var (pv 0)) snA_nil)) (snA_cons (snE_cal G_endless_runs (hr.mono (by decide)) hgd (by rfl) (takes_of rfl rfl rfl rfl) (snA_cons (snE_var (pv 1)) snA_nil)) snA_nil))) (snG_tp rfl (snGs_cons (snG_tp rfl (snGs_cons (snG_nm (pg_name (i := 4) sc_endless_parted.nd rfl (Or.inl rfl))) (snGs_cons (snG_nm (pg_name (i := 5) sc_endless_parted.nd rfl (Or.inl rfl))) snGs_nil))) (snGs_cons (snG_tp rfl (snGs_cons (snG_nm (pg_name (i := 6) sc_endless_parted.nd rfl (Or.inl rfl))) (snGs_cons (snG_nm (pg_name (i := 7) sc_endless_parted.nd rfl (Or.inl rfl))) snGs_nil))) snGs_nil)))) (snB_cons (snS_set (i := 2) sc_endless_parted.nd rfl (Or.inl rfl) snE_int) (snB_cons (snS_for (passes_of rfl) rfl (snI_rangeC1 (by rfl) B.range (snA_cons (snE_binE opR_add (snE_binE opR_add (snE_callB call_lenR (by rfl) B.len PyProof.Rows.Boot.«len» (snV_var (pv 5))) (snV_E (snE_callB call_lenR (by rfl) B.len PyProof.Rows.Boot.«len» (snV_var (pv 7))))) (snV_E snE_int)) snA_nil)) (snG_nm (pg_name (i := 3) sc_endless_parted.nd rfl (Or.inl rfl))) (snB_cons (snS_asg (snE_tup (snA_cons (snE_cal G_run_at (hr.mono (by decide)) hgd (by rfl) (takes_of rfl rfl rfl rfl) (snA_cons (snE_var (pv 4)) (snA_cons (snE_var (pv 5)) (snA_cons (snE_var (pv 3)) snA_nil)))) (snA_cons (snE_cal G_run_at (hr.mono (by decide)) hgd (by rfl) (takes_of rfl rfl rfl rfl) (snA_cons (snE_var (pv 6)) (snA_cons (snE_var (pv 7)) (snA_cons (snE_var (pv 3)) snA_nil)))) snA_nil))) (snG_tp rfl (snGs_cons (snG_tp rfl (snGs_cons (snG_nm (pg_name (i := 8) sc_endless_parted.nd rfl (Or.inl rfl))) (snGs_cons (snG_nm (pg_name (i := 9) sc_endless_parted.nd rfl (Or.inl rfl))) snGs_nil))) (snGs_cons (snG_tp rfl (snGs_cons (snG_nm (pg_name (i := 10) sc_endless_parted.nd rfl (Or.inl rfl))) (snGs_cons (snG_nm (pg_name (i := 11) sc_endless_parted.nd rfl (Or.inl rfl))) snGs_nil))) snGs_nil)))) (snB_cons (snS_if (snT_cmpV (opR_ne hr.units) (pv 8) (snV_var (pv 10)) (nomark _)) (snB_one (snS_ret (snE_tup (snA_cons (snE_var (pv 2)) (snA_cons (snE_var (pv 8)) (snA_cons (snE_var (pv 10)) snA_nil)))))) snB_nil) (snB_cons (snS_if (snT_cmpV opR_lt (pv 9) (snV_var (pv 11)) (nomark _)) (snB_one (snS_ret (snE_tup (snA_cons (snE_binV opR_add (pv 2) (snV_var (pv 9))) (snA_cons (snE_ixE (ixR hr.units) (snE_cal G_run_at (hr.mono (by decide)) hgd (by rfl) (takes_of rfl rfl rfl rfl) (snA_cons (snE_var (pv 4)) (snA_cons (snE_var (pv 5)) (snA_cons (snE_binV opR_add (pv 3) (snV_E snE_int)) snA_nil)))) (snV_E snE_int) (fun _ _ => rfl)) (snA_cons (snE_var (pv 10)) snA_nil)))))) snB_nil) (snB_cons (snS_if (snT_cmpV opR_lt (pv 11) (snV_var (pv 9)) (nomark _)) (snB_one (snS_ret (snE_tup (snA_cons (snE_binV opR_add (pv 2) (snV_var (pv 11))) (snA_cons (snE_var (pv 8)) (snA_cons (snE_ixE (ixR hr.units) (snE_cal G_run_at (hr.mono (by decide)) hgd (by rfl) (takes_of rfl rfl rfl rfl) (snA_cons (snE_var (pv 6)) (snA_cons (snE_var (pv 7)) (snA_cons (snE_binV opR_add (pv 3) (snV_E snE_int)) snA_nil)))) (snV_E snE_int) (fun _ _ => rfl)) snA_nil)))))) snB_nil) (snB_one (snS_aug (i := 2) opR_iaddI sc_endless_parted.nd rfl (Or.inl rfl) (snV_var (pv 9))))))))) (snB_one (snS_ret snE_non)))))), hm, F.kp, (F.binds (ps := ["one", "other"]) fun _ _ _ _ _ _ us hl => match us, hl with | [_, _], _ => rfl)⟩
abbrev s_let_word : Stmt := topS 26
theorem sc_let_word : FnScope ["word", "place"] ["word", "place"] (defScope s_let_word) := ⟨rfl, rfl, rfl, by decide +kernel, rfl, by decide +kernel, by decide +kernel⟩
theorem g_let_word {c_Refused : Addr} {f : Addr} {fd : FuncData} (F : Fun K "let_word" "let_word" s_let_word f fd) (hm : mg "let_word" = some (.ref f)) (B : Blt mg) (cn_NONE : ∃ u, mg "NONE" = some u ∧ RelV (vOf (.str "none")) u) {i_Refused : Addr} {q_Refused : Str} (er_Refused : ErC P K mg c_Refused i_Refused q_Refused ["word", "place"]) (mg_Refused : mg "Refused" = some (.ref c_Refused)) : CalG P w K mg base 1 "let_word" 2 (F_let_word c_Refused) :=
  ⟨f, fd, ["word", "place"], rfl, fnG_of (k := 0) F sc_let_word fun cdv A outer s H E Z hz hr hgd => (snB_one (snS_if (snT_cmpV (opR_eq hr.units) (pv 0) (snV_E (snE_tup snA_nil)) (nomark _)) (snB_one (snS_raise rfl er_Refused (hr.mono (Nat.zero_le _)) (takes_of rfl rfl rfl rfl) (snA_cons (snE_glob (by rfl) cn_NONE trivial) (snA_cons (snE_var (pv 1)) snA_nil)) (by rfl) mg_Refused)) snB_nil)), hm, F.kp, (F.binds (ps := ["word", "place"]) fun _ _ _ _ _ _ us hl => match us, hl with | [_, _], _ => rfl)⟩
abbrev s_order_told : Stmt := topS 27
theorem sc_order_told : FnScope ["one", "other", "found"] ["one", "other"] (defScope s_order_told) := ⟨rfl, rfl, rfl, by decide +kernel, rfl, by decide +kernel, by decide +kernel⟩
theorem g_order_told {c_Refused : Addr} {c_TooGreat : Addr} {f : Addr} {fd : FuncData} (F : Fun K "order_told" "order_told" s_order_told f fd) (hm : mg "order_told" = some (.ref f)) (B : Blt mg) (cn_ALIKE : ∃ u, mg "ALIKE" = some u ∧ RelV (vOf (.str "alike")) u) (cn_BEFORE : ∃ u, mg "BEFORE" = some u ∧ RelV (vOf (.str "before")) u) (cn_BEHIND : ∃ u, mg "BEHIND" = some u ∧ RelV (vOf (.str "behind")) u) (G_let_word : CalG P w K mg base 1 "let_word" 2 (F_let_word c_Refused)) (G_endless_parted : CalG P w K mg base 3 "endless_parted" 2 F_endless_parted) (G_not_long : CalG P w K mg base 1 "not_long" 1 (F_not_long c_TooGreat)) : CalG P w K mg base 4 "order_told" 2 (F_order_told c_Refused c_TooGreat) :=
  ⟨f, fd, ["one", "other"], rfl, fnG_of (k := 3) F sc_order_told fun cdv A outer s H E Z hz hr hgd => (snB_cons (snS_expr (snE_cal G_let_word (hr.mono (by decide)) hgd (by rfl) (takes_of rfl rfl rfl rfl) (snA_cons (snE_var (pv 0)) (snA_cons snE_int snA_nil)))) (snB_cons (snS_expr (snE_cal G_let_word (hr.mono (by decide)) hgd (by rfl) (takes_of rfl rfl rfl rfl) (snA_cons (snE_var (pv 1)) (snA_cons snE_int snA_nil)))) (snB_cons (snS_set (i := 2) sc_order_told.nd rfl (Or.inl rfl) (snE_cal G_endless_parted (hr.mono (by decide)) hgd (by rfl) (takes_of rfl rfl rfl rfl) (snA_cons (snE_var (pv 0)) (snA_cons (snE_var (pv 1)) snA_nil)))) (snB_cons (snS_if (snT_cmpV opR_is (pv 2) (snV_E snE_non) (nomark _)) (snB_one (snS_ret (snE_tup (snA_cons (snE_glob (by rfl) cn_ALIKE trivial) (snA_cons snE_non snA_nil))))) snB_nil) (snB_one (snS_ret (snE_tup (snA_cons (snE_if (snT_cmpE opR_lt (snE_ixV (ixR hr.units) (pv 2) (snV_E snE_int) (fun _ _ => rfl)) (snV_E (snE_ixV (ixR hr.units) (pv 2) (snV_E snE_int) (fun _ _ => rfl))) (nomark _)) (snE_glob (by rfl) cn_BEFORE trivial) (snE_glob (by rfl) cn_BEHIND trivial)) (snA_cons (snE_cal G_not_long (hr.mono (by decide)) hgd (by rfl) (takes_of rfl rfl rfl rfl) (snA_cons (snE_ixV (ixR hr.units) (pv 2) (snV_E snE_int) (fun _ _ => rfl)) snA_nil)) snA_nil))))))))), hm, F.kp, (F.binds (ps := ["one", "other"]) fun _ _ _ _ _ _ us hl => match us, hl with | [_, _], _ => rfl)⟩
abbrev s_ring_runs : Stmt := topS 28
theorem sc_ring_runs : FnScope ["word"] ["word"] (defScope s_ring_runs) := ⟨rfl, rfl, rfl, by decide +kernel, rfl, by decide +kernel, by decide +kernel⟩
theorem g_ring_runs {f : Addr} {fd : FuncData} (F : Fun K "ring_runs" "ring_runs" s_ring_runs f fd) (hm : mg "ring_runs" = some (.ref f)) (B : Blt mg) : CalG P w K mg base 1 "ring_runs" 1 (F_ring_runs) :=
  ⟨f, fd, ["word"], rfl, fnG_of (k := 0) F sc_ring_runs fun cdv A outer s H E Z hz hr hgd => (snB_cons (snS_if (snT_W (snW_and (snT_cmpE opR_gt (snE_callB call_lenR (by rfl) B.len PyProof.Rows.Boot.«len» (snV_var (pv 0))) (snV_E snE_int) (nomark _)) (snW_and1 (snT_cmpE (opR_eq hr.units) (snE_ixE (ixR hr.units) (snE_ixV (ixR hr.units) (pv 0) (snV_E snE_int) (fun _ _ => rfl)) (snV_E snE_int) (fun _ _ => rfl)) (snV_E (snE_ixE (ixR hr.units) (snE_ixV (ixR hr.units) (pv 0) (snV_E (snE_neg (snV_E snE_int))) (fun _ _ => rfl)) (snV_E snE_int) (fun _ _ => rfl))) (nomark _))))) (snB_one (snS_ret (snE_tup (snA_star (snE_slV2 (pv 0) (snV_E snE_int) (snV_E (snE_neg (snV_E snE_int)))) (snA_cons (snE_tup (snA_cons (snE_ixE (ixR hr.units) (snE_ixV (ixR hr.units) (pv 0) (snV_E snE_int) (fun _ _ => rfl)) (snV_E snE_int) (fun _ _ => rfl)) (snA_cons (snE_binE opR_add (snE_ixE (ixR hr.units) (snE_ixV (ixR hr.units) (pv 0) (snV_E (snE_neg (snV_E snE_int))) (fun _ _ => rfl)) (snV_E snE_int) (fun _ _ => rfl)) (snV_E (snE_ixE (ixR hr.units) (snE_ixV (ixR hr.units) (pv 0) (snV_E snE_int) (fun _ _ => rfl)) (snV_E snE_int) (fun _ _ => rfl)))) snA_nil))) snA_nil))))) snB_nil) (snB_one (snS_ret (snE_var (pv 0))))), hm, F.kp, (F.binds (ps := ["word"]) fun _ _ _ _ _ _ us hl => match us, hl with | [_], _ => rfl)⟩
abbrev s_runs_often : Stmt := topS 29
theorem sc_runs_often : FnScope ["runs", "sizes", "size"] ["runs"] (defScope s_runs_often) := ⟨rfl, rfl, rfl, by decide +kernel, rfl, by decide +kernel, by decide +kernel⟩
theorem g_runs_often {f : Addr} {fd : FuncData} (F : Fun K "runs_often" "runs_often" s_runs_often f fd) (hm : mg "runs_often" = some (.ref f)) (B : Blt mg) : CalG P w K mg base 1 "runs_often" 1 (F_runs_often) :=
  ⟨f, fd, ["runs"], rfl, fnG_of (k := 0) F sc_runs_often fun cdv A outer s H E Z hz hr hgd => (snB_cons (snS_setLc (i := 1) rfl sc_runs_often.nd rfl rfl (by rfl) (snI_rangeC2 (by rfl) B.range (snA_cons snE_int (snA_cons (snE_binE opR_add (snE_callB call_lenR (by rfl) B.len PyProof.Rows.Boot.«len» (snV_var (pv 0))) (snV_E snE_int)) snA_nil))) (own := [("size", 2)]) (blkOk_by (N := ["runs", "sizes", "size"]) (sc := defScope s_runs_often) (by decide +kernel)) (by decide) (fun _ _ _ _ _ => (snG_nm (pg_name (i := 2) sc_runs_often.nd rfl (by first | exact Or.inl rfl | exact Or.inr rfl)))) (fun _ _ _ _ _ => (snTs_one (snT_cmpE (opR_eq hr.units) (snE_binE opR_mod (snE_callB call_lenR (by rfl) B.len PyProof.Rows.Boot.«len» (snV_var (pv 0))) (snV_var (pv 2))) (snV_E snE_int) (nomark _)))) (fun _ _ _ _ _ => (snE_var (pv 2)))) (snB_one (snS_ret (snE_ixE (ixR hr.units) (snE_lc rfl sc_runs_often.nd (snI_any (snE_var (pv 1))) (own := [("size", 2)]) (blkOk_by (N := ["runs", "sizes", "size"]) (sc := defScope s_runs_often) (by decide +kernel)) (by decide) (fun _ _ _ _ _ => (snG_nm (pg_name (i := 2) sc_runs_often.nd rfl (by first | exact Or.inl rfl | exact Or.inr rfl)))) (fun _ _ _ _ _ => (snTs_one (snT_cmpE (opR_eq hr.units) (snE_binE opR_mul2 (snE_slV2 (pv 0) trivial (snV_var (pv 2))) (snV_E (snE_binE opR_fdiv (snE_callB call_lenR (by rfl) B.len PyProof.Rows.Boot.«len» (snV_var (pv 0))) (snV_var (pv 2))))) (snV_var (pv 0)) (nomark _)))) (fun _ _ _ _ _ => (snE_binE opR_fdiv (snE_callB call_lenR (by rfl) B.len PyProof.Rows.Boot.«len» (snV_var (pv 0))) (snV_var (pv 2))))) (snV_E snE_int) (fun _ _ => rfl))))), hm, F.kp, (F.binds (ps := ["runs"]) fun _ _ _ _ _ _ us hl => match us, hl with | [_], _ => rfl)⟩
abbrev s_word_upto : Stmt := topS 30
theorem sc_word_upto : FnScope ["word", "many", "found", "left", "letter", "often"] ["word", "many"] (defScope s_word_upto) := ⟨rfl, rfl, rfl, by decide +kernel, rfl, by decide +kernel, by decide +kernel⟩
theorem g_word_upto {f : Addr} {fd : FuncData} (F : Fun K "word_upto" "word_upto" s_word_upto f fd) (hm : mg "word_upto" = some (.ref f)) (B : Blt mg) (G_word_told : CalG P w K mg base 1 "word_told" 1 F_word_told) : CalG P w K mg base 2 "word_upto" 2 (F_word_upto) :=
  ⟨f, fd, ["word", "many"], rfl, fnG_of (k := 1) F sc_word_upto fun cdv A outer s H E Z hz hr hgd => (snB_cons (snS_par2 (i := 2) (j := 3) rfl sc_word_upto.nd rfl rfl (by decide) rfl rfl (snA_consR (snE_lst snA_nil) (snA_consR (snE_var (pv 1)) snA_nil)) rfl) (snB_cons (snS_for (passes_of rfl) rfl (snI_any (snE_var (pv 0))) (snG_tp rfl (snGs_cons (snG_nm (pg_name (i := 4) sc_word_upto.nd rfl (Or.inl rfl))) (snGs_cons (snG_nm (pg_name (i := 5) sc_word_upto.nd rfl (Or.inl rfl))) snGs_nil))) (snB_cons (snS_expr (snE_meth PySem.F.plainAttrs_list PySem.F.slot_list_append PySem.F.type_list_append mt_appendR (pv 2) (snA_cons (snE_tup (snA_cons (snE_var (pv 4)) (snA_cons (snE_callN (call_minN rfl) (by rfl) B.min PyProof.Rows.Boot.«min» (snA_cons (snE_var (pv 5)) (snA_cons (snE_var (pv 3)) snA_nil))) snA_nil))) snA_nil))) (snB_one (snS_aug (i := 3) opR_isub sc_word_upto.nd rfl (Or.inl rfl) (snV_E (snE_ixE (ixR hr.units) (snE_ixV (ixR hr.units) (pv 2) (snV_E (snE_neg (snV_E snE_int))) (fun _ _ => rfl)) (snV_E snE_int) (fun _ _ => rfl))))))) (snB_one (snS_ret (snE_cal G_word_told (hr.mono (by decide)) hgd (by rfl) (takes_of rfl rfl rfl rfl) (snA_cons (snE_var (pv 2)) snA_nil)))))), hm, F.kp, (F.binds (ps := ["word", "many"]) fun _ _ _ _ _ _ us hl => match us, hl with | [_, _], _ => rfl)⟩
abbrev s_word_from : Stmt := topS 31
theorem sc_word_from : FnScope ["word", "many", "found", "left", "letter", "often", "gone"] ["word", "many"] (defScope s_word_from) := ⟨rfl, rfl, rfl, by decide +kernel, rfl, by decide +kernel, by decide +kernel⟩
theorem g_word_from {f : Addr} {fd : FuncData} (F : Fun K "word_from" "word_from" s_word_from f fd) (hm : mg "word_from" = some (.ref f)) (B : Blt mg) (G_word_told : CalG P w K mg base 1 "word_told" 1 F_word_told) : CalG P w K mg base 2 "word_from" 2 (F_word_from) :=
  ⟨f, fd, ["word", "many"], rfl, fnG_of (k := 1) F sc_word_from fun cdv A outer s H E Z hz hr hgd => (snB_cons (snS_par2 (i := 2) (j := 3) rfl sc_word_from.nd rfl rfl (by decide) rfl rfl (snA_consR (snE_lst snA_nil) (snA_consR (snE_var (pv 1)) snA_nil)) rfl) (snB_cons (snS_for (passes_of rfl) rfl (snI_any (snE_var (pv 0))) (snG_tp rfl (snGs_cons (snG_nm (pg_name (i := 4) sc_word_from.nd rfl (Or.inl rfl))) (snGs_cons (snG_nm (pg_name (i := 5) sc_word_from.nd rfl (Or.inl rfl))) snGs_nil))) (snB_cons (snS_set (i := 6) sc_word_from.nd rfl (Or.inl rfl) (snE_callN (call_minN rfl) (by rfl) B.min PyProof.Rows.Boot.«min» (snA_cons (snE_var (pv 5)) (snA_cons (snE_var (pv 3)) snA_nil)))) (snB_cons (snS_expr (snE_meth PySem.F.plainAttrs_list PySem.F.slot_list_append PySem.F.type_list_append mt_appendR (pv 2) (snA_cons (snE_tup (snA_cons (snE_var (pv 4)) (snA_cons (snE_binV opR_sub (pv 5) (snV_var (pv 6))) snA_nil))) snA_nil))) (snB_one (snS_aug (i := 3) opR_isub sc_word_from.nd rfl (Or.inl rfl) (snV_var (pv 6))))))) (snB_one (snS_ret (snE_cal G_word_told (hr.mono (by decide)) hgd (by rfl) (takes_of rfl rfl rfl rfl) (snA_cons (snE_var (pv 2)) snA_nil)))))), hm, F.kp, (F.binds (ps := ["word", "many"]) fun _ _ _ _ _ _ us hl => match us, hl with | [_, _], _ => rfl)⟩
abbrev s_power_told : Stmt := topS 32
theorem sc_power_told : FnScope ["word", "runs", "often"] ["word"] (defScope s_power_told) := ⟨rfl, rfl, rfl, by decide +kernel, rfl, by decide +kernel, by decide +kernel⟩
theorem g_power_told {c_Refused : Addr} {f : Addr} {fd : FuncData} (F : Fun K "power_told" "power_told" s_power_told f fd) (hm : mg "power_told" = some (.ref f)) (B : Blt mg) (G_let_word : CalG P w K mg base 1 "let_word" 2 (F_let_word c_Refused)) (G_ring_runs : CalG P w K mg base 1 "ring_runs" 1 F_ring_runs) (G_runs_often : CalG P w K mg base 1 "runs_often" 1 F_runs_often) (G_word_upto : CalG P w K mg base 2 "word_upto" 2 F_word_upto) (G_word_long : CalG P w K mg base 1 "word_long" 1 F_word_long) : CalG P w K mg base 3 "power_told" 1 (F_power_told c_Refused) :=
  ⟨f, fd, ["word"], rfl, fnG_of (k := 2) F sc_power_told fun cdv A outer s H E Z hz hr hgd => (snB_cons (snS_expr (snE_cal G_let_word (hr.mono (by decide)) hgd (by rfl) (takes_of rfl rfl rfl rfl) (snA_cons (snE_var (pv 0)) (snA_cons snE_int snA_nil)))) (snB_cons (snS_set (i := 1) sc_power_told.nd rfl (Or.inl rfl) (snE_cal G_ring_runs (hr.mono (by decide)) hgd (by rfl) (takes_of rfl rfl rfl rfl) (snA_cons (snE_var (pv 0)) snA_nil))) (snB_cons (snS_set (i := 2) sc_power_told.nd rfl (Or.inl rfl) (snE_if (snT_cmpE (opR_eq hr.units) (snE_callB call_lenR (by rfl) B.len PyProof.Rows.Boot.«len» (snV_var (pv 1))) (snV_E snE_int) (nomark _)) (snE_ixE (ixR hr.units) (snE_ixV (ixR hr.units) (pv 1) (snV_E snE_int) (fun _ _ => rfl)) (snV_E snE_int) (fun _ _ => rfl)) (snE_cal G_runs_often (hr.mono (by decide)) hgd (by rfl) (takes_of rfl rfl rfl rfl) (snA_cons (snE_var (pv 1)) snA_nil)))) (snB_one (snS_ret (snE_tup (snA_cons (snE_cal G_word_upto (hr.mono (by decide)) hgd (by rfl) (takes_of rfl rfl rfl rfl) (snA_cons (snE_var (pv 0)) (snA_cons (snE_binE opR_fdiv (snE_cal G_word_long (hr.mono (by decide)) hgd (by rfl) (takes_of rfl rfl rfl rfl) (snA_cons (snE_var (pv 0)) snA_nil)) (snV_var (pv 2))) snA_nil))) (snA_cons (snE_var (pv 2)) snA_nil)))))))), hm, F.kp, (F.binds (ps := ["word"]) fun _ _ _ _ _ _ us hl => match us, hl with | [_], _ => rfl)⟩
abbrev s_word_turned : Stmt := topS 33
theorem sc_word_turned : FnScope ["word", "place"] ["word", "place"] (defScope s_word_turned) := ⟨rfl, rfl, rfl, by decide +kernel, rfl, by decide +kernel, by decide +kernel⟩
theorem g_word_turned {f : Addr} {fd : FuncData} (F : Fun K "word_turned" "word_turned" s_word_turned f fd) (hm : mg "word_turned" = some (.ref f)) (B : Blt mg) (G_word_told : CalG P w K mg base 1 "word_told" 1 F_word_told) (G_word_from : CalG P w K mg base 2 "word_from" 2 F_word_from) (G_word_upto : CalG P w K mg base 2 "word_upto" 2 F_word_upto) : CalG P w K mg base 3 "word_turned" 2 (F_word_turned) :=
  ⟨f, fd, ["word", "place"], rfl, fnG_of (k := 2) F sc_word_turned fun cdv A outer s H E Z hz hr hgd => (snB_one (snS_ret (snE_cal G_word_told (hr.mono (by decide)) hgd (by rfl) (takes_of rfl rfl rfl rfl) (snA_cons (snE_lst (snA_star (snE_cal G_word_from (hr.mono (by decide)) hgd (by rfl) (takes_of rfl rfl rfl rfl) (snA_cons (snE_var (pv 0)) (snA_cons (snE_var (pv 1)) snA_nil))) (snA_star (snE_cal G_word_upto (hr.mono (by decide)) hgd (by rfl) (takes_of rfl rfl rfl rfl) (snA_cons (snE_var (pv 0)) (snA_cons (snE_var (pv 1)) snA_nil))) snA_nil))) snA_nil)))), hm, F.kp, (F.binds (ps := ["word", "place"]) fun _ _ _ _ _ _ us hl => match us, hl with | [_, _], _ => rfl)⟩
abbrev s_letter_at : Stmt := topS 34
theorem sc_letter_at : FnScope ["word", "place"] ["word", "place"] (defScope s_letter_at) := ⟨rfl, rfl, rfl, by decide +kernel, rfl, by decide +kernel, by decide +kernel⟩
theorem g_letter_at {f : Addr} {fd : FuncData} (F : Fun K "letter_at" "letter_at" s_letter_at f fd) (hm : mg "letter_at" = some (.ref f)) (B : Blt mg) (G_word_from : CalG P w K mg base 2 "word_from" 2 F_word_from) (G_word_long : CalG P w K mg base 1 "word_long" 1 F_word_long) : CalG P w K mg base 3 "letter_at" 2 (F_letter_at) :=
  ⟨f, fd, ["word", "place"], rfl, fnG_of (k := 2) F sc_letter_at fun cdv A outer s H E Z hz hr hgd => (snB_one (snS_ret (snE_ixE (ixR hr.units) (snE_ixE (ixR hr.units) (snE_cal G_word_from (hr.mono (by decide)) hgd (by rfl) (takes_of rfl rfl rfl rfl) (snA_cons (snE_var (pv 0)) (snA_cons (snE_binV opR_mod (pv 1) (snV_E (snE_cal G_word_long (hr.mono (by decide)) hgd (by rfl) (takes_of rfl rfl rfl rfl) (snA_cons (snE_var (pv 0)) snA_nil)))) snA_nil))) (snV_E snE_int) (fun _ _ => rfl)) (snV_E snE_int) (fun _ _ => rfl)))), hm, F.kp, (F.binds (ps := ["word", "place"]) fun _ _ _ _ _ _ us hl => match us, hl with | [_, _], _ => rfl)⟩
abbrev s_endless_cut : Stmt := topS 35
theorem sc_endless_cut : FnScope ["word", "place", "many", "long", "late"] ["word", "place", "many"] (defScope s_endless_cut) := ⟨rfl, rfl, rfl, by decide +kernel, rfl, by decide +kernel, by decide +kernel⟩
theorem g_endless_cut {c_TooGreat : Addr} {f : Addr} {fd : FuncData} (F : Fun K "endless_cut" "endless_cut" s_endless_cut f fd) (hm : mg "endless_cut" = some (.ref f)) (B : Blt mg) (G_word_long : CalG P w K mg base 1 "word_long" 1 F_word_long) (G_word_turned : CalG P w K mg base 3 "word_turned" 2 F_word_turned) (G_word_then : CalG P w K mg base 3 "word_then" 2 (F_word_then c_TooGreat)) (G_word_times : CalG P w K mg base 3 "word_times" 2 (F_word_times c_TooGreat)) (G_word_upto : CalG P w K mg base 2 "word_upto" 2 F_word_upto) : CalG P w K mg base 4 "endless_cut" 3 (F_endless_cut c_TooGreat) :=
  ⟨f, fd, ["word", "place", "many"], rfl, fnG_of (k := 3) F sc_endless_cut fun cdv A outer s H E Z hz hr hgd => (snB_cons (snS_set (i := 3) sc_endless_cut.nd rfl (Or.inl rfl) (snE_cal G_word_long (hr.mono (by decide)) hgd (by rfl) (takes_of rfl rfl rfl rfl) (snA_cons (snE_var (pv 0)) snA_nil))) (snB_cons (snS_set (i := 4) sc_endless_cut.nd rfl (Or.inl rfl) (snE_cal G_word_turned (hr.mono (by decide)) hgd (by rfl) (takes_of rfl rfl rfl rfl) (snA_cons (snE_var (pv 0)) (snA_cons (snE_binV opR_mod (pv 1) (snV_var (pv 3))) snA_nil)))) (snB_one (snS_ret (snE_cal G_word_then (hr.mono (by decide)) hgd (by rfl) (takes_of rfl rfl rfl rfl) (snA_cons (snE_cal G_word_times (hr.mono (by decide)) hgd (by rfl) (takes_of rfl rfl rfl rfl) (snA_cons (snE_var (pv 4)) (snA_cons (snE_binV opR_fdiv (pv 2) (snV_var (pv 3))) snA_nil))) (snA_cons (snE_cal G_word_upto (hr.mono (by decide)) hgd (by rfl) (takes_of rfl rfl rfl rfl) (snA_cons (snE_var (pv 4)) (snA_cons (snE_binV opR_mod (pv 2) (snV_var (pv 3))) snA_nil))) snA_nil))))))), hm, F.kp, (F.binds (ps := ["word", "place", "many"]) fun _ _ _ _ _ _ us hl => match us, hl with | [_, _, _], _ => rfl)⟩
abbrev s_law_source : Stmt := topS 37
theorem sc_law_source : FnScope ["script", "mixed", "cell"] ["script"] (defScope s_law_source) := ⟨rfl, rfl, rfl, by decide +kernel, rfl, by decide +kernel, by decide +kernel⟩
theorem g_law_source {f : Addr} {fd : FuncData} (F : Fun K "_law_source" "_law_source" s_law_source f fd) (hm : mg "_law_source" = some (.ref f)) (B : Blt mg) : CalG P w K mg base 1 "_law_source" 1 (F_law_source) :=
  ⟨f, fd, ["script"], rfl, fnG_of (k := 0) F sc_law_source fun cdv A outer s H E Z hz hr hgd => (snB_cons (snS_set (i := 1) sc_law_source.nd rfl (Or.inl rfl) snE_int) (snB_cons (snS_for (passes_of rfl) rfl (snI_any (snE_var (pv 0))) (snG_nm (pg_name (i := 2) sc_law_source.nd rfl (Or.inl rfl))) (snB_one (snS_set (i := 1) sc_law_source.nd rfl (Or.inl rfl) (snE_binE opR_mod (snE_callTy call_intR (by rfl) B.int PyProof.Rows.Boot.«int» (snV_E (snE_binE opR_add (snE_binE opR_add (snE_binV opR_mul (pv 1) (snV_E snE_int)) (snV_E (snE_binV opR_mul (pv 2) (snV_E snE_int)))) (snV_E snE_int)))) (snV_E snE_int))))) (snB_one (snS_ret (snE_disp (.cons snE_str (snE_rev (snV_E (snE_lc rfl sc_law_source.nd (snI_any (snE_var (pv 0))) (own := [("cell", 2)]) (blkOk_by (N := ["script", "mixed", "cell"]) (sc := defScope s_law_source) (by decide +kernel)) (by decide) (fun _ _ _ _ _ => (snG_nm (pg_name (i := 2) sc_law_source.nd rfl (by first | exact Or.inl rfl | exact Or.inr rfl)))) (fun _ _ _ _ _ => snTs_nil) (fun _ _ _ _ _ => (snE_callB call_absR (by rfl) B.abs PyProof.Rows.Boot.«abs» (snV_var (pv 2))))))) (.cons snE_str snE_int (.cons snE_str (snE_var (pv 1)) (.cons snE_str snE_int .nil))))))))), hm, F.kp, (F.binds (ps := ["script"]) fun _ _ _ _ _ _ us hl => match us, hl with | [_], _ => rfl)⟩
abbrev s_law_pick : Stmt := topS 38
theorem sc_law_pick : FnScope ["source", "many", "left", "mixed"] ["source", "many"] (defScope s_law_pick) := ⟨rfl, rfl, rfl, by decide +kernel, rfl, by decide +kernel, by decide +kernel⟩
theorem g_law_pick {f : Addr} {fd : FuncData} (F : Fun K "_law_pick" "_law_pick" s_law_pick f fd) (hm : mg "_law_pick" = some (.ref f)) (B : Blt mg) : CalG P w K mg base 1 "_law_pick" 2 (F_law_pick) :=
  ⟨f, fd, ["source", "many"], rfl, fnG_of (k := 0) F sc_law_pick fun cdv A outer s H E Z hz hr hgd => (snB_cons (snS_while (passes_of rfl) (snT_W (snW_and (snT_cmpV opR_gt (pv 1) (snV_E snE_int) (nomark _)) (snW_and (snT_cmpE opR_lt (snE_srcG sel_left hr.units (pv 0) (fun _ _ => rfl)) (snV_E snE_int) (nomark _)) (snW_and1 (snT_cmpE opR_gt (snE_srcLen (pe_cells hr.units (pv 0) (fun _ _ => rfl)) (by rfl) B.len) (snV_E snE_int) (nomark _)))))) (snB_one (snS_srcSet put_left hr.units (pv 0) (snE_srcPop (pe_cells hr.units (pv 0) (fun _ _ => rfl)))))) (snB_cons (snS_set (i := 2) sc_law_pick.nd rfl (Or.inl rfl) (snE_srcG sel_left hr.units (pv 0) (fun _ _ => rfl))) (snB_cons (snS_if (snT_W (snW_or (snT_cmpV opR_lt (pv 1) (snV_E snE_int) (nomark _)) (snW_or1 (snT_cmpV opR_gt (pv 2) (snV_E snE_int) (nomark _))))) (snB_cons (snS_srcSet put_left hr.units (pv 0) (snE_binV opR_fdiv (pv 2) (snV_E (snE_callN (call_maxN rfl) (by rfl) B.max PyProof.Rows.Boot.«max» (snA_cons snE_int (snA_cons (snE_var (pv 1)) snA_nil)))))) (snB_one (snS_ret (snE_binE opR_mod (snE_callTy call_intR (by rfl) B.int PyProof.Rows.Boot.«int» (snV_var (pv 2))) (snV_E (snE_callN (call_maxN rfl) (by rfl) B.max PyProof.Rows.Boot.«max» (snA_cons snE_int (snA_cons (snE_var (pv 1)) snA_nil)))))))) snB_nil) (snB_cons (snS_srcSet put_turn hr.units (pv 0) (snE_binE opR_add (snE_srcG sel_turn hr.units (pv 0) (fun _ _ => rfl)) (snV_E snE_int))) (snB_cons (snS_set (i := 3) sc_law_pick.nd rfl (Or.inl rfl) (snE_binE opR_mod (snE_callTy call_intR (by rfl) B.int PyProof.Rows.Boot.«int» (snV_E (snE_binE opR_add (snE_srcG sel_mixed hr.units (pv 0) (fun _ _ => rfl)) (snV_E (snE_binE opR_mul (snE_srcG sel_turn hr.units (pv 0) (fun _ _ => rfl)) (snV_E snE_int)))))) (snV_E snE_int))) (snB_cons (snS_set (i := 3) sc_law_pick.nd rfl (Or.inl rfl) (snE_binE opR_mod (snE_callTy call_intR (by rfl) B.int PyProof.Rows.Boot.«int» (snV_E (snE_binE opR_add (snE_binV opR_mul (pv 3) (snV_var (pv 3))) (snV_E (snE_binE opR_mul (snE_srcG sel_turn hr.units (pv 0) (fun _ _ => rfl)) (snV_E snE_int)))))) (snV_E snE_int))) (snB_cons (snS_srcSet put_mixed hr.units (pv 0) (snE_var (pv 3))) (snB_one (snS_ret (snE_binE opR_mod (snE_callTy call_intR (by rfl) B.int PyProof.Rows.Boot.«int» (snV_E (snE_binV opR_fdiv (pv 3) (snV_E snE_int)))) (snV_var (pv 1)))))))))))), hm, F.kp, (F.binds (ps := ["source", "many"]) fun _ _ _ _ _ _ us hl => match us, hl with | [_, _], _ => rfl)⟩
abbrev s_law_of : Stmt := topS 39
theorem sc_law_of : FnScope ["source", "some"] ["source", "some"] (defScope s_law_of) := ⟨rfl, rfl, rfl, by decide +kernel, rfl, by decide +kernel, by decide +kernel⟩
theorem g_law_of {f : Addr} {fd : FuncData} (F : Fun K "_law_of" "_law_of" s_law_of f fd) (hm : mg "_law_of" = some (.ref f)) (B : Blt mg) (G_law_pick : CalG P w K mg base 1 "_law_pick" 2 F_law_pick) : CalG P w K mg base 2 "_law_of" 2 (F_law_of) :=
  ⟨f, fd, ["source", "some"], rfl, fnG_of (k := 1) F sc_law_of fun cdv A outer s H E Z hz hr hgd => (snB_one (snS_ret (snE_ixV (ixR hr.units) (pv 1) (snV_E (snE_cal G_law_pick (hr.mono (by decide)) hgd (by rfl) (takes_of rfl rfl rfl rfl) (snA_cons (snE_var (pv 0)) (snA_cons (snE_callB call_lenR (by rfl) B.len PyProof.Rows.Boot.«len» (snV_var (pv 1))) snA_nil)))) (fun _ _ => rfl)))), hm, F.kp, (F.binds (ps := ["source", "some"]) fun _ _ _ _ _ _ us hl => match us, hl with | [_, _], _ => rfl)⟩
abbrev s_law_runs : Stmt := topS 40
theorem sc_law_runs : FnScope ["letters", "found", "letter"] ["letters"] (defScope s_law_runs) := ⟨rfl, rfl, rfl, by decide +kernel, rfl, by decide +kernel, by decide +kernel⟩
theorem g_law_runs {f : Addr} {fd : FuncData} (F : Fun K "_law_runs" "_law_runs" s_law_runs f fd) (hm : mg "_law_runs" = some (.ref f)) (B : Blt mg) : CalG P w K mg base 1 "_law_runs" 1 (F_law_runs) :=
  ⟨f, fd, ["letters"], rfl, fnG_of (k := 0) F sc_law_runs fun cdv A outer s H E Z hz hr hgd => (snB_cons (snS_set (i := 1) sc_law_runs.nd rfl (Or.inl rfl) (snE_lst snA_nil)) (snB_cons (snS_for (passes_of rfl) rfl (snI_any (snE_var (pv 0))) (snG_nm (pg_name (i := 2) sc_law_runs.nd rfl (Or.inl rfl))) (snB_one (snS_if (snT_W (snW_and (snT_cmpV (opR_ne hr.units) (pv 1) (snV_E (snE_lst snA_nil)) (nomark _)) (snW_and1 (snT_cmpE (opR_eq hr.units) (snE_ixE (ixR hr.units) (snE_ixV (ixR hr.units) (pv 1) (snV_E (snE_neg (snV_E snE_int))) (fun _ _ => rfl)) (snV_E snE_int) (fun _ _ => rfl)) (snV_var (pv 2)) (nomark _))))) (snB_one (snS_setIx (i := 1) hr.units (pv 1) (snV_E (snE_neg (snV_E snE_int))) (snE_tup (snA_cons (snE_var (pv 2)) (snA_cons (snE_binE opR_add (snE_ixE (ixR hr.units) (snE_ixV (ixR hr.units) (pv 1) (snV_E (snE_neg (snV_E snE_int))) (fun _ _ => rfl)) (snV_E snE_int) (fun _ _ => rfl)) (snV_E snE_int)) snA_nil))))) (snB_one (snS_expr (snE_meth PySem.F.plainAttrs_list PySem.F.slot_list_append PySem.F.type_list_append mt_appendR (pv 1) (snA_cons (snE_tup (snA_cons (snE_var (pv 2)) (snA_cons snE_int snA_nil))) snA_nil))))))) (snB_one (snS_ret (snE_callTy call_tupleR (by rfl) B.tuple PyProof.Rows.Boot.«tuple» (snV_var (pv 1))))))), hm, F.kp, (F.binds (ps := ["letters"]) fun _ _ _ _ _ _ us hl => match us, hl with | [_], _ => rfl)⟩
abbrev s_law_word : Stmt := topS 41
theorem sc_law_word : FnScope ["source", "most", "some", "lap"] ["source", "most"] (defScope s_law_word) := ⟨rfl, rfl, rfl, by decide +kernel, rfl, by decide +kernel, by decide +kernel⟩
theorem g_law_word {f : Addr} {fd : FuncData} (F : Fun K "_law_word" "_law_word" s_law_word f fd) (hm : mg "_law_word" = some (.ref f)) (B : Blt mg) (G_law_of : CalG P w K mg base 2 "_law_of" 2 F_law_of) (G_law_pick : CalG P w K mg base 1 "_law_pick" 2 F_law_pick) : CalG P w K mg base 3 "_law_word" 2 (F_law_word) :=
  ⟨f, fd, ["source", "most"], rfl, fnG_of (k := 2) F sc_law_word fun cdv A outer s H E Z hz hr hgd => (snB_cons (snS_set (i := 2) sc_law_word.nd rfl (Or.inr rfl) (snE_cal G_law_of (hr.mono (by decide)) hgd (by rfl) (takes_of rfl rfl rfl rfl) (snA_cons (snE_var (pv 0)) (snA_cons (snE_lst (snA_cons (snE_lst (snA_cons snE_str (snA_cons snE_str snA_nil))) (snA_cons (snE_lst (snA_cons snE_str (snA_cons snE_str (snA_cons snE_str snA_nil)))) (snA_cons (snE_lst (snA_cons snE_str (snA_cons snE_str (snA_cons snE_str snA_nil)))) (snA_cons (snE_lst (snA_cons snE_str snA_nil)) snA_nil))))) snA_nil)))) (snB_one (snS_ret (snE_lc rfl sc_law_word.nd (snI_rangeC1 (by rfl) B.range (snA_cons (snE_binE opR_add snE_int (snV_E (snE_cal G_law_pick (hr.mono (by decide)) hgd (by rfl) (takes_of rfl rfl rfl rfl) (snA_cons (snE_var (pv 0)) (snA_cons (snE_var (pv 1)) snA_nil))))) snA_nil)) (own := [("lap", 3)]) (blkOk_by (N := ["source", "most", "some", "lap"]) (sc := defScope s_law_word) (by decide +kernel)) (by decide) (fun _ _ _ _ _ => (snG_nm (pg_name (i := 3) sc_law_word.nd rfl (by first | exact Or.inl rfl | exact Or.inr rfl)))) (fun _ _ _ _ _ => snTs_nil) (fun _ _ _ _ _ => (snE_cal G_law_of (hr.mono (by decide)) hgd (by rfl) takesW0 (snA_cons (snE_var (pv 0)) (snA_cons (snE_var (pv 2)) snA_nil)))))))), hm, F.kp, (F.binds (ps := ["source", "most"]) fun _ _ _ _ _ _ us hl => match us, hl with | [_, _], _ => rfl)⟩
abbrev s_law_other : Stmt := topS 42
theorem sc_law_other : FnScope ["source", "word", "way", "k"] ["source", "word"] (defScope s_law_other) := ⟨rfl, rfl, rfl, by decide +kernel, rfl, by decide +kernel, by decide +kernel⟩
theorem g_law_other {f : Addr} {fd : FuncData} (F : Fun K "_law_other" "_law_other" s_law_other f fd) (hm : mg "_law_other" = some (.ref f)) (B : Blt mg) (G_law_pick : CalG P w K mg base 1 "_law_pick" 2 F_law_pick) (G_law_of : CalG P w K mg base 2 "_law_of" 2 F_law_of) (G_law_word : CalG P w K mg base 3 "_law_word" 2 F_law_word) : CalG P w K mg base 4 "_law_other" 2 (F_law_other) :=
  ⟨f, fd, ["source", "word"], rfl, fnG_of (k := 3) F sc_law_other fun cdv A outer s H E Z hz hr hgd => (snB_cons (snS_par2 (i := 2) (j := 3) rfl sc_law_other.nd rfl rfl (by decide) rfl rfl (snA_consR (snE_cal G_law_pick (hr.mono (by decide)) hgd (by rfl) (takes_of rfl rfl rfl rfl) (snA_cons (snE_var (pv 0)) (snA_cons snE_int snA_nil))) (snA_consR (snE_cal G_law_pick (hr.mono (by decide)) hgd (by rfl) (takes_of rfl rfl rfl rfl) (snA_cons (snE_var (pv 0)) (snA_cons (snE_callB call_lenR (by rfl) B.len PyProof.Rows.Boot.«len» (snV_var (pv 1))) snA_nil))) snA_nil)) rfl) (snB_cons (snS_if (snT_cmpV (opR_eq hr.units) (pv 2) (snV_E snE_int) (nomark _)) (snB_one (snS_ret (snE_binV opR_mul2 (pv 1) (snV_E (snE_binE opR_add snE_int (snV_E (snE_cal G_law_pick (hr.mono (by decide)) hgd (by rfl) (takes_of rfl rfl rfl rfl) (snA_cons (snE_var (pv 0)) (snA_cons snE_int snA_nil))))))))) snB_nil) (snB_cons (snS_if (snT_cmpV (opR_eq hr.units) (pv 2) (snV_E snE_int) (nomark _)) (snB_one (snS_ret (snE_binE opR_add (snE_slV2 (pv 1) (snV_var (pv 3)) trivial) (snV_E (snE_slV2 (pv 1) trivial (snV_var (pv 3))))))) snB_nil) (snB_cons (snS_if (snT_cmpV (opR_eq hr.units) (pv 2) (snV_E snE_int) (nomark _)) (snB_one (snS_ret (snE_binE opR_add (snE_binE opR_add (snE_slV2 (pv 1) trivial (snV_var (pv 3))) (snV_E (snE_lst (snA_cons (snE_cal G_law_of (hr.mono (by decide)) hgd (by rfl) (takes_of rfl rfl rfl rfl) (snA_cons (snE_var (pv 0)) (snA_cons (snE_lst (snA_cons snE_str (snA_cons snE_str (snA_cons snE_str snA_nil)))) snA_nil))) snA_nil)))) (snV_E (snE_slV2 (pv 1) (snV_E (snE_binV opR_add (pv 3) (snV_E snE_int))) trivial))))) snB_nil) (snB_cons (snS_if (snT_cmpV (opR_eq hr.units) (pv 2) (snV_E snE_int) (nomark _)) (snB_one (snS_ret (snE_binE opR_add (snE_binV opR_mul2 (pv 1) (snV_E snE_int)) (snV_E (snE_slV2 (pv 1) trivial (snV_var (pv 3))))))) snB_nil) (snB_cons (snS_if (snT_cmpV (opR_eq hr.units) (pv 2) (snV_E snE_int) (nomark _)) (snB_one (snS_ret (snE_if (snT_cmpE opR_gt (snE_callB call_lenR (by rfl) B.len PyProof.Rows.Boot.«len» (snV_var (pv 1))) (snV_E snE_int) (nomark _)) (snE_binV opR_add (pv 1) (snV_E (snE_slV2 (pv 1) trivial (snV_E snE_int)))) (snE_var (pv 1))))) snB_nil) (snB_one (snS_ret (snE_cal G_law_word (hr.mono (by decide)) hgd (by rfl) (takes_of rfl rfl rfl rfl) (snA_cons (snE_var (pv 0)) (snA_cons snE_int snA_nil))))))))))), hm, F.kp, (F.binds (ps := ["source", "word"]) fun _ _ _ _ _ _ us hl => match us, hl with | [_, _], _ => rfl)⟩
abbrev s_law_parted : Stmt := topS 43
theorem sc_law_parted : FnScope ["one", "other", "place", "here", "there"] ["one", "other"] (defScope s_law_parted) := ⟨rfl, rfl, rfl, by decide +kernel, rfl, by decide +kernel, by decide +kernel⟩
theorem g_law_parted {f : Addr} {fd : FuncData} (F : Fun K "_law_parted" "_law_parted" s_law_parted f fd) (hm : mg "_law_parted" = some (.ref f)) (B : Blt mg) : CalG P w K mg base 1 "_law_parted" 2 (F_law_parted) :=
  ⟨f, fd, ["one", "other"], rfl, fnG_of (k := 0) F sc_law_parted fun cdv A outer s H E Z hz hr hgd => (snB_cons (snS_for (passes_of rfl) rfl (snI_rangeC1 (by rfl) B.range (snA_cons (snE_binE opR_add (snE_callB call_lenR (by rfl) B.len PyProof.Rows.Boot.«len» (snV_var (pv 0))) (snV_E (snE_callB call_lenR (by rfl) B.len PyProof.Rows.Boot.«len» (snV_var (pv 1))))) snA_nil)) (snG_nm (pg_name (i := 2) sc_law_parted.nd rfl (Or.inl rfl))) (snB_cons (snS_par2 (i := 3) (j := 4) rfl sc_law_parted.nd rfl rfl (by decide) rfl rfl (snA_consR (snE_ixV (ixR hr.units) (pv 0) (snV_E (snE_binV opR_mod (pv 2) (snV_E (snE_callB call_lenR (by rfl) B.len PyProof.Rows.Boot.«len» (snV_var (pv 0)))))) (fun _ _ => rfl)) (snA_consR (snE_ixV (ixR hr.units) (pv 1) (snV_E (snE_binV opR_mod (pv 2) (snV_E (snE_callB call_lenR (by rfl) B.len PyProof.Rows.Boot.«len» (snV_var (pv 1)))))) (fun _ _ => rfl)) snA_nil)) rfl) (snB_one (snS_if (snT_cmpV (opR_ne hr.units) (pv 3) (snV_var (pv 4)) (nomark _)) (snB_one (snS_ret (snE_tup (snA_cons (snE_var (pv 2)) (snA_cons (snE_var (pv 3)) (snA_cons (snE_var (pv 4)) snA_nil)))))) snB_nil)))) (snB_one (snS_ret snE_non))), hm, F.kp, (F.binds (ps := ["one", "other"]) fun _ _ _ _ _ _ us hl => match us, hl with | [_, _], _ => rfl)⟩
abbrev s_law_root : Stmt := topS 44
theorem sc_law_root : FnScope ["word", "size"] ["word"] (defScope s_law_root) := ⟨rfl, rfl, rfl, by decide +kernel, rfl, by decide +kernel, by decide +kernel⟩
theorem g_law_root {f : Addr} {fd : FuncData} (F : Fun K "_law_root" "_law_root" s_law_root f fd) (hm : mg "_law_root" = some (.ref f)) (B : Blt mg) : CalG P w K mg base 1 "_law_root" 1 (F_law_root) :=
  ⟨f, fd, ["word"], rfl, fnG_of (k := 0) F sc_law_root fun cdv A outer s H E Z hz hr hgd => (snB_cons (snS_for (passes_of rfl) rfl (snI_rangeC2 (by rfl) B.range (snA_cons snE_int (snA_cons (snE_binE opR_add (snE_callB call_lenR (by rfl) B.len PyProof.Rows.Boot.«len» (snV_var (pv 0))) (snV_E snE_int)) snA_nil))) (snG_nm (pg_name (i := 1) sc_law_root.nd rfl (Or.inl rfl))) (snB_one (snS_if (snT_cmpE (opR_eq hr.units) (snE_binE opR_mul2 (snE_slV2 (pv 0) trivial (snV_var (pv 1))) (snV_E (snE_binE opR_fdiv (snE_callB call_lenR (by rfl) B.len PyProof.Rows.Boot.«len» (snV_var (pv 0))) (snV_var (pv 1))))) (snV_var (pv 0)) (nomark _)) (snB_one (snS_ret (snE_tup (snA_cons (snE_slV2 (pv 0) trivial (snV_var (pv 1))) (snA_cons (snE_binE opR_fdiv (snE_callB call_lenR (by rfl) B.len PyProof.Rows.Boot.«len» (snV_var (pv 0))) (snV_var (pv 1))) snA_nil))))) snB_nil))) (snB_one (snS_ret (snE_tup (snA_cons (snE_var (pv 0)) (snA_cons snE_int snA_nil)))))), hm, F.kp, (F.binds (ps := ["word"]) fun _ _ _ _ _ _ us hl => match us, hl with | [_], _ => rfl)⟩
abbrev s_law_far : Stmt := topS 45
theorem sc_law_far : FnScope ["runs", "times", "letter", "many"] ["runs", "times"] (defScope s_law_far) := ⟨rfl, rfl, rfl, by decide +kernel, rfl, by decide +kernel, by decide +kernel⟩
theorem g_law_far {f : Addr} {fd : FuncData} (F : Fun K "_law_far" "_law_far" s_law_far f fd) (hm : mg "_law_far" = some (.ref f)) (B : Blt mg) : CalG P w K mg base 1 "_law_far" 2 (F_law_far) :=
  ⟨f, fd, ["runs", "times"], rfl, fnG_of (k := 0) F sc_law_far fun cdv A outer s H E Z hz hr hgd => (snB_one (snS_ret (snE_callTy call_tupleR (by rfl) B.tuple PyProof.Rows.Boot.«tuple» (snV_E (snE_lc rfl sc_law_far.nd (snI_any (snE_var (pv 0))) (own := [("letter", 2), ("many", 3)]) (blkOk_by (N := ["runs", "times", "letter", "many"]) (sc := defScope s_law_far) (by decide +kernel)) (by decide) (fun _ _ _ _ _ => (snG_tp rfl (snGs_cons (snG_nm (pg_name (i := 2) sc_law_far.nd rfl (by first | exact Or.inl rfl | exact Or.inr rfl))) (snGs_cons (snG_nm (pg_name (i := 3) sc_law_far.nd rfl (by first | exact Or.inl rfl | exact Or.inr rfl))) snGs_nil)))) (fun _ _ _ _ _ => snTs_nil) (fun _ _ _ _ _ => (snE_tup (snA_cons (snE_var (pv 2)) (snA_cons (snE_binV opR_mul2 (pv 3) (snV_var (pv 1))) snA_nil))))))))), hm, F.kp, (F.binds (ps := ["runs", "times"]) fun _ _ _ _ _ _ us hl => match us, hl with | [_, _], _ => rfl)⟩
abbrev s_law_refused : Stmt := topS 46
theorem sc_law_refused : FnScope ["call", "error"] ["call"] (defScope s_law_refused) := ⟨rfl, rfl, rfl, by decide +kernel, rfl, by decide +kernel, by decide +kernel⟩
theorem b_law_refused {c_Refused : Addr} (B : Blt mg) {i_Refused : Addr} {q_Refused : Str} (er_Refused : ErC P K mg c_Refused i_Refused q_Refused ["word", "place"]) (mg_Refused : mg "Refused" = some (.ref c_Refused)) (xf_Refused : XfC K c_Refused) (xn_Refused : ∀ f : Str, f ∈ [("word" : Str), ("place" : Str)] → PySem.W.findIn K (.ref c_Refused) f = some none) (ex_Refused : PySem.W.exmOne K (.ref c_Refused) (.ref c_Refused) = some true) (cdv : Value) (A : Around) (outer : List Env) (s : Shared) (H : Hp) (E : XK) {f : Addr} (Z : Zx) (th : Option Src → Res SV) (hz : Z.Xn = none) (hr : Room 1 (A.deeper (envOfC "_law_refused" (defScope s_law_refused) s.heap.objs.size f cdv))) (hgd : A.guards = some []) (hcall : ∀ (W : WX) (pn : List (Addr × Obj)) (xe : Value → Shared → Prop) (p1 p2 : Pos), Takes ((cxOf (L2.CX P w) P w K mg base ["call", "error"] "_law_refused" (defScope s_law_refused) f cdv A outer s H E).tr pn xe) W → SnE ((cxOf (L2.CX P w) P w K mg base ["call", "error"] "_law_refused" (defScope s_law_refused) f cdv A outer s H E).tr pn xe) Z W (.Call (.Name "call" p1) [] [] p2) (cThunk th)) : SnB (cxOf (L2.CX P w) P w K mg base ["call", "error"] "_law_refused" (defScope s_law_refused) f cdv A outer s H E) Z (fun cls d _ H => E cls d H) (defBody s_law_refused) (m_law_refused c_Refused th) :=
  (snB_cons (snS_try (i := 1) hz rfl rfl sc_law_refused.nd rfl rfl ⟨rfl, by decide, Or.inl mg_Refused⟩ ex_Refused (fun W pn xe tk po => (snB_one (snS_expr (hcall W pn xe _ _ tk)))) (fun a oe dd pn h1 h2 => (snB_one (snS_ret (snE_tup (snA_cons (snE_fld xf_Refused (xn_Refused "word" (by decide)) h1 h2 (pv 1)) (snA_cons (snE_fld xf_Refused (xn_Refused "place" (by decide)) h1 h2 (pv 1)) snA_nil))))))) (snB_one (snS_ret snE_non)))
abbrev s_law : Stmt := topS 47
theorem sc_law : FnScope ["script", "source", "words", "forms", "times", "j", "told", "spots", "far", "due", "k", "word", "root", "often", "place", "many", "side", "late", "spot", "letter", "<tab>"] ["script"] (defScope s_law) := ⟨rfl, rfl, rfl, by decide +kernel, rfl, by decide +kernel, by decide +kernel⟩
theorem d_law {c_Refused : Addr} {c_TooGreat : Addr} (B : Blt mg) {i_Refused : Addr} {q_Refused : Str} (er_Refused : ErC P K mg c_Refused i_Refused q_Refused ["word", "place"]) (mg_Refused : mg "Refused" = some (.ref c_Refused)) {gf_law_refused : Addr} {fd_law_refused : FuncData} (F_law_refused : Fun K "_law_refused" "_law_refused" s_law_refused gf_law_refused fd_law_refused) (mgf_law_refused : mg "_law_refused" = some (.ref gf_law_refused)) (xf_Refused : XfC K c_Refused) (xn_Refused : ∀ f : Str, f ∈ [("word" : Str), ("place" : Str)] → PySem.W.findIn K (.ref c_Refused) f = some none) (ex_Refused : PySem.W.exmOne K (.ref c_Refused) (.ref c_Refused) = some true) (G_law_word : CalG P w K mg base 3 "_law_word" 2 F_law_word) (G_law_other : CalG P w K mg base 4 "_law_other" 2 F_law_other) (G_law_runs : CalG P w K mg base 1 "_law_runs" 1 F_law_runs) (G_law_of : CalG P w K mg base 2 "_law_of" 2 F_law_of) (G_word_told : CalG P w K mg base 1 "word_told" 1 F_word_told) (G_word_long : CalG P w K mg base 1 "word_long" 1 F_word_long) (G_law_root : CalG P w K mg base 1 "_law_root" 1 F_law_root) (G_power_told : CalG P w K mg base 3 "power_told" 1 (F_power_told c_Refused)) (G_law_pick : CalG P w K mg base 1 "_law_pick" 2 F_law_pick) (G_letter_at : CalG P w K mg base 3 "letter_at" 2 F_letter_at) (G_endless_cut : CalG P w K mg base 4 "endless_cut" 3 (F_endless_cut c_TooGreat)) (G_word_turned : CalG P w K mg base 3 "word_turned" 2 F_word_turned) (G_law_parted : CalG P w K mg base 1 "_law_parted" 2 F_law_parted) (G_endless_parted : CalG P w K mg base 3 "endless_parted" 2 F_endless_parted) (G_order_told : CalG P w K mg base 4 "order_told" 2 (F_order_told c_Refused c_TooGreat)) (G_law_far : CalG P w K mg base 1 "_law_far" 2 F_law_far) {cd_law tt_law : Addr} (TB : LamX.TabB base mg cd_law tt_law) (A : Around) (outer : List Env) (s : Shared) (H : Hp) (E : XK) {f : Addr} (Z : Zx) (hz : Z.Xn = none) (hTb : Z.Tb = some (tt_law, lawN)) (hZ0 : ∀ b, Z.H0 b = none) (hZO : ∀ b, ¬ Z.Oc b) (hr : Room 6 (A.deeper (envOfC "law" (defScope s_law) s.heap.objs.size f (.ref cd_law)))) (hgd : A.guards = some []) : SnB (cxOf (L2.CX P w) P w K mg base ["script", "source", "words", "forms", "times", "j", "told", "spots", "far", "due", "k", "word", "root", "often", "place", "many", "side", "late", "spot", "letter", "<tab>"] "law" (defScope s_law) f (.ref cd_law) A outer s H E) Z (fun cls d _ H => E cls d H) ((defBody s_law).drop 1) (m_law c_Refused c_TooGreat) :=
  (snB_cons (snS_set (i := 2) sc_law.nd rfl (Or.inr rfl) (snE_lst (snA_cons (snE_cal G_law_word (hr.mono (by decide)) hgd (by rfl) (takes_of rfl rfl rfl rfl) (snA_cons (snE_var (pv 1)) (snA_cons snE_int snA_nil))) snA_nil))) (snB_cons (snS_set (i := 2) sc_law.nd rfl (Or.inr rfl) (snE_binV opR_add (pv 2) (snV_E (snE_lst (snA_cons (snE_cal G_law_other (hr.mono (by decide)) hgd (by rfl) (takes_of rfl rfl rfl rfl) (snA_cons (snE_var (pv 1)) (snA_cons (snE_ixV (ixR hr.units) (pv 2) (snV_E snE_int) (fun _ _ => rfl)) snA_nil))) (snA_cons (snE_cal G_law_other (hr.mono (by decide)) hgd (by rfl) (takes_of rfl rfl rfl rfl) (snA_cons (snE_var (pv 1)) (snA_cons (snE_ixV (ixR hr.units) (pv 2) (snV_E snE_int) (fun _ _ => rfl)) snA_nil))) snA_nil)))))) (snB_cons (snS_set (i := 3) sc_law.nd rfl (Or.inr rfl) (snE_lc rfl sc_law.nd (snI_any (snE_var (pv 2))) (own := [("word", 11)]) (blkOk_by (N := ["script", "source", "words", "forms", "times", "j", "told", "spots", "far", "due", "k", "word", "root", "often", "place", "many", "side", "late", "spot", "letter", "<tab>"]) (sc := defScope s_law) (by decide +kernel)) (by decide) (fun _ _ _ _ _ => (snG_nm (pg_name (i := 11) sc_law.nd rfl (by first | exact Or.inl rfl | exact Or.inr rfl)))) (fun _ _ _ _ _ => snTs_nil) (fun _ _ _ _ _ => (snE_cal G_law_runs (hr.mono (by decide)) hgd (by rfl) takesW0 (snA_cons (snE_var (pv 11)) snA_nil))))) (snB_cons (snS_set (i := 4) sc_law.nd rfl (Or.inl rfl) (snE_cal G_law_of (hr.mono (by decide)) hgd (by rfl) (takes_of rfl rfl rfl rfl) (snA_cons (snE_var (pv 1)) (snA_cons (snE_lst (snA_cons snE_int (snA_cons (snE_binE opR_pow snE_int (snV_E snE_int)) (snA_cons (snE_callTy call_intR (by rfl) B.int PyProof.Rows.Boot.«int» (snV_E (snE_binE opR_mul2 snE_str (snV_E snE_int)))) snA_nil)))) snA_nil)))) (snB_cons (snS_for (passes_of rfl) rfl (snI_rangeC1 (by rfl) B.range (snA_cons snE_int snA_nil)) (snG_nm (pg_name (i := 5) sc_law.nd rfl (Or.inl rfl))) (snB_cons (snS_if (snT_cmpE (opR_ne hr.units) (snE_callB (call_reprR hr.units hgd) (by rfl) B.repr PyProof.Rows.Boot.«repr» (snV_E (snE_cal G_word_told (hr.mono (by decide)) hgd (by rfl) (takes_of rfl rfl rfl rfl) (snA_cons (snE_lc rfl sc_law.nd (snI_any (snE_ixV (ixR hr.units) (pv 2) (snV_var (pv 5)) (fun _ _ => rfl))) (own := [("letter", 19)]) (blkOk_by (N := ["script", "source", "words", "forms", "times", "j", "told", "spots", "far", "due", "k", "word", "root", "often", "place", "many", "side", "late", "spot", "letter", "<tab>"]) (sc := defScope s_law) (by decide +kernel)) (by decide) (fun _ _ _ _ _ => (snG_nm (pg_name (i := 19) sc_law.nd rfl (by first | exact Or.inl rfl | exact Or.inr rfl)))) (fun _ _ _ _ _ => snTs_nil) (fun _ _ _ _ _ => (snE_tup (snA_cons (snE_var (pv 19)) (snA_cons snE_int snA_nil))))) snA_nil)))) (snV_E (snE_callB (call_reprR hr.units hgd) (by rfl) B.repr PyProof.Rows.Boot.«repr» (snV_E (snE_ixV (ixR hr.units) (pv 3) (snV_var (pv 5)) (fun _ _ => rfl))))) (nomark _)) (snB_one (snS_ret snE_bl)) snB_nil) (snB_cons (snS_if (snT_cmpE (opR_ne hr.units) (snE_cal G_word_long (hr.mono (by decide)) hgd (by rfl) (takes_of rfl rfl rfl rfl) (snA_cons (snE_ixV (ixR hr.units) (pv 3) (snV_var (pv 5)) (fun _ _ => rfl)) snA_nil)) (snV_E (snE_callB call_lenR (by rfl) B.len PyProof.Rows.Boot.«len» (snV_E (snE_ixV (ixR hr.units) (pv 2) (snV_var (pv 5)) (fun _ _ => rfl))))) (nomark _)) (snB_one (snS_ret snE_bl)) snB_nil) (snB_cons (snS_asg (snE_cal G_law_root (hr.mono (by decide)) hgd (by rfl) (takes_of rfl rfl rfl rfl) (snA_cons (snE_ixV (ixR hr.units) (pv 2) (snV_var (pv 5)) (fun _ _ => rfl)) snA_nil)) (snG_tp rfl (snGs_cons (snG_nm (pg_name (i := 12) sc_law.nd rfl (Or.inl rfl))) (snGs_cons (snG_nm (pg_name (i := 13) sc_law.nd rfl (Or.inl rfl))) snGs_nil)))) (snB_cons (snS_if (snT_cmpE (opR_ne hr.units) (snE_callB (call_reprR hr.units hgd) (by rfl) B.repr PyProof.Rows.Boot.«repr» (snV_E (snE_cal G_power_told (hr.mono (by decide)) hgd (by rfl) (takes_of rfl rfl rfl rfl) (snA_cons (snE_ixV (ixR hr.units) (pv 3) (snV_var (pv 5)) (fun _ _ => rfl)) snA_nil)))) (snV_E (snE_callB (call_reprR hr.units hgd) (by rfl) B.repr PyProof.Rows.Boot.«repr» (snV_E (snE_tup (snA_cons (snE_cal G_law_runs (hr.mono (by decide)) hgd (by rfl) (takes_of rfl rfl rfl rfl) (snA_cons (snE_var (pv 12)) snA_nil)) (snA_cons (snE_var (pv 13)) snA_nil)))))) (nomark _)) (snB_one (snS_ret snE_bl)) snB_nil) (snB_cons (snS_set (i := 8) sc_law.nd rfl (Or.inl rfl) (snE_cal G_law_pick (hr.mono (by decide)) hgd (by rfl) (takes_of rfl rfl rfl rfl) (snA_cons (snE_var (pv 1)) (snA_cons (snE_binE opR_pow snE_int (snV_E snE_int)) snA_nil)))) (snB_cons (snS_if (snT_cmpE (opR_ne hr.units) (snE_cal G_letter_at (hr.mono (by decide)) hgd (by rfl) (takes_of rfl rfl rfl rfl) (snA_cons (snE_ixV (ixR hr.units) (pv 3) (snV_var (pv 5)) (fun _ _ => rfl)) (snA_cons (snE_var (pv 8)) snA_nil))) (snV_E (snE_ixE (ixR hr.units) (snE_ixV (ixR hr.units) (pv 2) (snV_var (pv 5)) (fun _ _ => rfl)) (snV_E (snE_binE opR_mod (snE_callTy call_intR (by rfl) B.int PyProof.Rows.Boot.«int» (snV_var (pv 8))) (snV_E (snE_callB call_lenR (by rfl) B.len PyProof.Rows.Boot.«len» (snV_E (snE_ixV (ixR hr.units) (pv 2) (snV_var (pv 5)) (fun _ _ => rfl))))))) (fun _ _ => rfl))) (nomark _)) (snB_one (snS_ret snE_bl)) snB_nil) (snB_cons (snS_par2 (i := 14) (j := 15) rfl sc_law.nd rfl rfl (by decide) rfl rfl (snA_consR (snE_binE opR_mod (snE_callTy call_intR (by rfl) B.int PyProof.Rows.Boot.«int» (snV_var (pv 8))) (snV_E (snE_callB call_lenR (by rfl) B.len PyProof.Rows.Boot.«len» (snV_E (snE_ixV (ixR hr.units) (pv 2) (snV_var (pv 5)) (fun _ _ => rfl)))))) (snA_consR (snE_cal G_law_pick (hr.mono (by decide)) hgd (by rfl) (takes_of rfl rfl rfl rfl) (snA_cons (snE_var (pv 1)) (snA_cons snE_int snA_nil))) snA_nil)) rfl) (snB_cons (snS_set (i := 9) sc_law.nd rfl (Or.inl rfl) (snE_binE opR_mul2 (snE_binE opR_add (snE_slE2 (snE_ixV (ixR hr.units) (pv 2) (snV_var (pv 5)) (fun _ _ => rfl)) (snV_var (pv 14)) trivial) (snV_E (snE_slE2 (snE_ixV (ixR hr.units) (pv 2) (snV_var (pv 5)) (fun _ _ => rfl)) trivial (snV_var (pv 14))))) (snV_E (snE_binE opR_add (snE_binV opR_fdiv (pv 15) (snV_E (snE_callB call_lenR (by rfl) B.len PyProof.Rows.Boot.«len» (snV_E (snE_ixV (ixR hr.units) (pv 2) (snV_var (pv 5)) (fun _ _ => rfl)))))) (snV_E snE_int))))) (snB_cons (snS_if (snT_cmpE (opR_ne hr.units) (snE_callB (call_reprR hr.units hgd) (by rfl) B.repr PyProof.Rows.Boot.«repr» (snV_E (snE_cal G_endless_cut (hr.mono (by decide)) hgd (by rfl) (takes_of rfl rfl rfl rfl) (snA_cons (snE_ixV (ixR hr.units) (pv 3) (snV_var (pv 5)) (fun _ _ => rfl)) (snA_cons (snE_var (pv 8)) (snA_cons (snE_var (pv 15)) snA_nil)))))) (snV_E (snE_callB (call_reprR hr.units hgd) (by rfl) B.repr PyProof.Rows.Boot.«repr» (snV_E (snE_cal G_law_runs (hr.mono (by decide)) hgd (by rfl) (takes_of rfl rfl rfl rfl) (snA_cons (snE_slV2 (pv 9) trivial (snV_var (pv 15))) snA_nil))))) (nomark _)) (snB_one (snS_ret snE_bl)) snB_nil) (snB_cons (snS_if (snT_cmpE (opR_ne hr.units) (snE_callB (call_reprR hr.units hgd) (by rfl) B.repr PyProof.Rows.Boot.«repr» (snV_E (snE_cal G_word_turned (hr.mono (by decide)) hgd (by rfl) (takes_of rfl rfl rfl rfl) (snA_cons (snE_ixV (ixR hr.units) (pv 3) (snV_var (pv 5)) (fun _ _ => rfl)) (snA_cons (snE_var (pv 14)) snA_nil))))) (snV_E (snE_callB (call_reprR hr.units hgd) (by rfl) B.repr PyProof.Rows.Boot.«repr» (snV_E (snE_cal G_law_runs (hr.mono (by decide)) hgd (by rfl) (takes_of rfl rfl rfl rfl) (snA_cons (snE_binE opR_add (snE_slE2 (snE_ixV (ixR hr.units) (pv 2) (snV_var (pv 5)) (fun _ _ => rfl)) (snV_var (pv 14)) trivial) (snV_E (snE_slE2 (snE_ixV (ixR hr.units) (pv 2) (snV_var (pv 5)) (fun _ _ => rfl)) trivial (snV_var (pv 14))))) snA_nil))))) (nomark _)) (snB_one (snS_ret snE_bl)) snB_nil) (snB_one (snS_for (passes_of rfl) rfl (snI_rangeC1 (by rfl) B.range (snA_cons snE_int snA_nil)) (snG_nm (pg_name (i := 10) sc_law.nd rfl (Or.inl rfl))) (snB_cons (snS_set (i := 9) sc_law.nd rfl (Or.inl rfl) (snE_cal G_law_parted (hr.mono (by decide)) hgd (by rfl) (takes_of rfl rfl rfl rfl) (snA_cons (snE_ixV (ixR hr.units) (pv 2) (snV_var (pv 5)) (fun _ _ => rfl)) (snA_cons (snE_ixV (ixR hr.units) (pv 2) (snV_var (pv 10)) (fun _ _ => rfl)) snA_nil)))) (snB_cons (snS_if (snT_cmpE (opR_ne hr.units) (snE_callB (call_reprR hr.units hgd) (by rfl) B.repr PyProof.Rows.Boot.«repr» (snV_E (snE_cal G_endless_parted (hr.mono (by decide)) hgd (by rfl) (takes_of rfl rfl rfl rfl) (snA_cons (snE_ixV (ixR hr.units) (pv 3) (snV_var (pv 5)) (fun _ _ => rfl)) (snA_cons (snE_ixV (ixR hr.units) (pv 3) (snV_var (pv 10)) (fun _ _ => rfl)) snA_nil))))) (snV_E (snE_callB (call_reprR hr.units hgd) (by rfl) B.repr PyProof.Rows.Boot.«repr» (snV_var (pv 9)))) (nomark _)) (snB_one (snS_ret snE_bl)) snB_nil) (snB_cons (snS_if (snT_cmpE (opR_ne hr.units) (snE_cmpV opR_is (pv 9) (snV_E snE_non) (nomark _)) (snV_E (snE_cmpE (opR_eq hr.units) (snE_ixE (ixR hr.units) (snE_cal G_law_root (hr.mono (by decide)) hgd (by rfl) (takes_of rfl rfl rfl rfl) (snA_cons (snE_ixV (ixR hr.units) (pv 2) (snV_var (pv 5)) (fun _ _ => rfl)) snA_nil)) (snV_E snE_int) (fun _ _ => rfl)) (snV_E (snE_ixE (ixR hr.units) (snE_cal G_law_root (hr.mono (by decide)) hgd (by rfl) (takes_of rfl rfl rfl rfl) (snA_cons (snE_ixV (ixR hr.units) (pv 2) (snV_var (pv 10)) (fun _ _ => rfl)) snA_nil)) (snV_E snE_int) (fun _ _ => rfl))) (nomark _))) (nomark _)) (snB_one (snS_ret snE_bl)) snB_nil) (snB_cons (snS_set (i := 16) sc_law.nd rfl (Or.inl rfl) (snE_if (snT_cmpV opR_is (pv 9) (snV_E snE_non) (nomark _)) (snE_tup (snA_cons snE_str (snA_cons snE_non snA_nil))) (snE_tup (snA_cons (snE_if (snT_cmpE opR_lt (snE_ixV (ixR hr.units) (pv 9) (snV_E snE_int) (fun _ _ => rfl)) (snV_E (snE_ixV (ixR hr.units) (pv 9) (snV_E snE_int) (fun _ _ => rfl))) (nomark _)) snE_str snE_str) (snA_cons (snE_ixV (ixR hr.units) (pv 9) (snV_E snE_int) (fun _ _ => rfl)) snA_nil))))) (snB_cons (snS_if (snT_cmpE (opR_ne hr.units) (snE_callB (call_reprR hr.units hgd) (by rfl) B.repr PyProof.Rows.Boot.«repr» (snV_E (snE_cal G_order_told (hr.mono (by decide)) hgd (by rfl) (takes_of rfl rfl rfl rfl) (snA_cons (snE_ixV (ixR hr.units) (pv 3) (snV_var (pv 5)) (fun _ _ => rfl)) (snA_cons (snE_ixV (ixR hr.units) (pv 3) (snV_var (pv 10)) (fun _ _ => rfl)) snA_nil))))) (snV_E (snE_callB (call_reprR hr.units hgd) (by rfl) B.repr PyProof.Rows.Boot.«repr» (snV_var (pv 16)))) (nomark _)) (snB_one (snS_ret snE_bl)) snB_nil) (snB_cons (snS_set (i := 17) sc_law.nd rfl (Or.inl rfl) (snE_cal G_endless_parted (hr.mono (by decide)) hgd (by rfl) (takes_of rfl rfl rfl rfl) (snA_cons (snE_cal G_law_far (hr.mono (by decide)) hgd (by rfl) (takes_of rfl rfl rfl rfl) (snA_cons (snE_ixV (ixR hr.units) (pv 3) (snV_var (pv 5)) (fun _ _ => rfl)) (snA_cons (snE_var (pv 4)) snA_nil))) (snA_cons (snE_cal G_law_far (hr.mono (by decide)) hgd (by rfl) (takes_of rfl rfl rfl rfl) (snA_cons (snE_ixV (ixR hr.units) (pv 3) (snV_var (pv 10)) (fun _ _ => rfl)) (snA_cons (snE_var (pv 4)) snA_nil))) snA_nil)))) (snB_one (snS_if (snT_cmpE (opR_ne hr.units) (snE_callB (call_reprR hr.units hgd) (by rfl) B.repr PyProof.Rows.Boot.«repr» (snV_var (pv 17))) (snV_E (snE_callB (call_reprR hr.units hgd) (by rfl) B.repr PyProof.Rows.Boot.«repr» (snV_E (snE_if (snT_cmpV opR_isNot (pv 9) (snV_E snE_non) (nomark _)) (snE_tup (snA_cons (snE_binE opR_mul2 (snE_ixV (ixR hr.units) (pv 9) (snV_E snE_int) (fun _ _ => rfl)) (snV_var (pv 4))) (snA_cons (snE_ixV (ixR hr.units) (pv 9) (snV_E snE_int) (fun _ _ => rfl)) (snA_cons (snE_ixV (ixR hr.units) (pv 9) (snV_E snE_int) (fun _ _ => rfl)) snA_nil)))) snE_non)))) (nomark _)) (snB_one (snS_ret snE_bl)) snB_nil))))))))))))))))))))) (snB_cons (snS_setLc (i := 6) rfl sc_law.nd rfl rfl (by rfl) (snI_any (snE_tup (snA_cons (snE_tup (snA_cons snE_int (snA_cons snE_int snA_nil))) (snA_cons (snE_tup (snA_cons snE_int (snA_cons snE_int snA_nil))) (snA_cons (snE_tup (snA_cons snE_int (snA_cons snE_int snA_nil))) snA_nil))))) (own := [("j", 5), ("k", 10)]) (blkOk_by (N := ["script", "source", "words", "forms", "times", "j", "told", "spots", "far", "due", "k", "word", "root", "often", "place", "many", "side", "late", "spot", "letter", "<tab>"]) (sc := defScope s_law) (by decide +kernel)) (by decide) (fun _ _ _ _ _ => (snG_tp rfl (snGs_cons (snG_nm (pg_name (i := 5) sc_law.nd rfl (by first | exact Or.inl rfl | exact Or.inr rfl))) (snGs_cons (snG_nm (pg_name (i := 10) sc_law.nd rfl (by first | exact Or.inl rfl | exact Or.inr rfl))) snGs_nil)))) (fun _ _ _ _ _ => snTs_nil) (fun _ _ _ _ _ => (snE_ixE (ixR hr.units) (snE_cal G_order_told (hr.mono (by decide)) hgd (by rfl) takesW0 (snA_cons (snE_ixV (ixR hr.units) (pv 3) (snV_var (pv 5)) (fun _ _ => rfl)) (snA_cons (snE_ixV (ixR hr.units) (pv 3) (snV_var (pv 10)) (fun _ _ => rfl)) snA_nil))) (snV_E snE_int) (fun _ _ => rfl)))) (snB_cons (snS_if (snT_W (snW_and (snT_cmpE (opR_eq hr.units) (snE_ixV (ixR hr.units) (pv 6) (snV_E snE_int) (fun _ _ => rfl)) (snV_E (snE_ixV (ixR hr.units) (pv 6) (snV_E snE_int) (fun _ _ => rfl))) (nomark _)) (snW_and1 (snT_cmpE (opR_ne hr.units) (snE_ixV (ixR hr.units) (pv 6) (snV_E snE_int) (fun _ _ => rfl)) (snV_E (snE_ixV (ixR hr.units) (pv 6) (snV_E snE_int) (fun _ _ => rfl))) (nomark _))))) (snB_one (snS_ret snE_bl)) snB_nil) (snB_cons (snS_setLc (i := 7) rfl sc_law.nd rfl rfl (by rfl) (snI_any (snE_tup (snA_cons (snE_tup (snA_cons snE_int (snA_cons snE_int snA_nil))) (snA_cons (snE_tup (snA_cons snE_int (snA_cons snE_int snA_nil))) (snA_cons (snE_tup (snA_cons snE_int (snA_cons snE_int snA_nil))) snA_nil))))) (own := [("j", 5), ("k", 10)]) (blkOk_by (N := ["script", "source", "words", "forms", "times", "j", "told", "spots", "far", "due", "k", "word", "root", "often", "place", "many", "side", "late", "spot", "letter", "<tab>"]) (sc := defScope s_law) (by decide +kernel)) (by decide) (fun _ _ _ _ _ => (snG_tp rfl (snGs_cons (snG_nm (pg_name (i := 5) sc_law.nd rfl (by first | exact Or.inl rfl | exact Or.inr rfl))) (snGs_cons (snG_nm (pg_name (i := 10) sc_law.nd rfl (by first | exact Or.inl rfl | exact Or.inr rfl))) snGs_nil)))) (fun _ _ _ _ _ => snTs_nil) (fun _ _ _ _ _ => (snE_cal G_law_parted (hr.mono (by decide)) hgd (by rfl) takesW0 (snA_cons (snE_ixV (ixR hr.units) (pv 2) (snV_var (pv 5)) (fun _ _ => rfl)) (snA_cons (snE_ixV (ixR hr.units) (pv 2) (snV_var (pv 10)) (fun _ _ => rfl)) snA_nil))))) (snB_cons (snS_set (i := 8) sc_law.nd rfl (Or.inl rfl) (snE_callB call_sortedR (by rfl) B.sorted PyProof.Rows.Boot.«sorted» (snV_E (snE_lc rfl sc_law.nd (snI_any (snE_var (pv 7))) (own := [("spot", 18)]) (blkOk_by (N := ["script", "source", "words", "forms", "times", "j", "told", "spots", "far", "due", "k", "word", "root", "often", "place", "many", "side", "late", "spot", "letter", "<tab>"]) (sc := defScope s_law) (by decide +kernel)) (by decide) (fun _ _ _ _ _ => (snG_nm (pg_name (i := 18) sc_law.nd rfl (by first | exact Or.inl rfl | exact Or.inr rfl)))) (fun _ _ _ _ _ => snTs_nil) (fun _ _ _ _ _ => (snE_if (snT_cmpV opR_is (pv 18) (snV_E snE_non) (nomark _)) (snE_binE opR_pow snE_int (snV_E snE_int)) (snE_ixV (ixR hr.units) (pv 18) (snV_E snE_int) (fun _ _ => rfl)))))))) (snB_cons (snS_if (snT_cmpE (opR_ne hr.units) (snE_ixV (ixR hr.units) (pv 8) (snV_E snE_int) (fun _ _ => rfl)) (snV_E (snE_ixV (ixR hr.units) (pv 8) (snV_E snE_int) (fun _ _ => rfl))) (nomark _)) (snB_one (snS_ret snE_bl)) snB_nil) (snB_cons (snS_if (snT_cmpE (opR_ne hr.units) (snE_lam (gi := 20) (cs := [3]) (k := 4) F_law_refused sc_law_refused rfl (Or.inl rfl) (F_law_refused.binds (ps := ["call"]) fun _ _ _ _ _ _ us hl => match us, hl with | [_], _ => rfl) (by rfl) mgf_law_refused (fun cdv s H E Zc th hz hr hgd hcall => b_law_refused B er_Refused mg_Refused xf_Refused xn_Refused ex_Refused cdv _ _ s H E Zc th hz (hr.mono (by decide)) hgd hcall) TB rfl hTb hZ0 hZO (hr.mono (by decide)) hgd (LamX.lamS_by (sc := defScope s_law) (by decide +kernel)) rfl (fun _ _ _ _ _ => rfl) (fun A outer s H E f c0 Zl hz hr hgd => (snE_cal G_order_told (hr.mono (by decide)) hgd (by rfl) (takes_of rfl rfl rfl rfl) (snA_cons (snE_tup snA_nil) (snA_cons (snE_ixV (ixR hr.units) (pv 3) (snV_E snE_int) (fun _ _ => rfl)) snA_nil))))) (snV_E (snE_tup (snA_cons snE_str (snA_cons snE_int snA_nil)))) (nomark _)) (snB_one (snS_ret snE_bl)) snB_nil) (snB_one (snS_ret (snE_and (snE_cmpE (opR_eq hr.units) (snE_lam (gi := 20) (cs := [3]) (k := 4) F_law_refused sc_law_refused rfl (Or.inl rfl) (F_law_refused.binds (ps := ["call"]) fun _ _ _ _ _ _ us hl => match us, hl with | [_], _ => rfl) (by rfl) mgf_law_refused (fun cdv s H E Zc th hz hr hgd hcall => b_law_refused B er_Refused mg_Refused xf_Refused xn_Refused ex_Refused cdv _ _ s H E Zc th hz (hr.mono (by decide)) hgd hcall) TB rfl hTb hZ0 hZO (hr.mono (by decide)) hgd (LamX.lamS_by (sc := defScope s_law) (by decide +kernel)) rfl (fun _ _ _ _ _ => rfl) (fun A outer s H E f c0 Zl hz hr hgd => (snE_cal G_order_told (hr.mono (by decide)) hgd (by rfl) (takes_of rfl rfl rfl rfl) (snA_cons (snE_ixV (ixR hr.units) (pv 3) (snV_E snE_int) (fun _ _ => rfl)) (snA_cons (snE_tup snA_nil) snA_nil))))) (snV_E (snE_tup (snA_cons snE_str (snA_cons snE_int snA_nil)))) (nomark _)) (snE_one (snE_cmpE (opR_eq hr.units) (snE_lam (gi := 20) (cs := []) (k := 4) F_law_refused sc_law_refused rfl (Or.inl rfl) (F_law_refused.binds (ps := ["call"]) fun _ _ _ _ _ _ us hl => match us, hl with | [_], _ => rfl) (by rfl) mgf_law_refused (fun cdv s H E Zc th hz hr hgd hcall => b_law_refused B er_Refused mg_Refused xf_Refused xn_Refused ex_Refused cdv _ _ s H E Zc th hz (hr.mono (by decide)) hgd hcall) TB rfl hTb hZ0 hZO (hr.mono (by decide)) hgd (LamX.lamS_by (sc := defScope s_law) (by decide +kernel)) rfl (fun _ _ _ _ _ => rfl) (fun A outer s H E f c0 Zl hz hr hgd => (snE_cal G_power_told (hr.mono (by decide)) hgd (by rfl) (takes_of rfl rfl rfl rfl) (snA_cons (snE_tup snA_nil) snA_nil)))) (snV_E (snE_tup (snA_cons snE_str (snA_cons snE_int snA_nil)))) (nomark _)))))))))))))))))
end
end Law
end Pw
set_option Elab.async false
set_option linter.all false
set_option maxRecDepth 100000
namespace Pw
namespace Law
open PySem PySem.Spec PyProof.Rows L2 Pw.Wd
/-! ### words as data -/
abbrev Wr := RL Str
def rD (p : Str × Nat) : D := .tuple [.str p.1, .int (p.2 : Int)]
def wD (w : Wr) : D := .tuple (w.map rD)
def wL (w : Wr) : D := .list (w.map rD)
def lD (l : List Str) : D := .tuple (l.map .str)
theorem plain_w (w : Wr) : PyData.plainAll (w.map rD) = true := by
  induction w with
  | nil => rfl
  | cons p w ih => simp only [List.map_cons, PyData.plainAll, rD, PyData.plain, ih, Bool.and_self]
theorem depth_w (w : Wr) : PyData.depthAll (w.map rD) ≤ 1 := by
  induction w with
  | nil => exact Nat.zero_le _
  | cons p w ih =>
    simp only [List.map_cons, PyData.depthAll]
    exact Nat.max_le.mpr ⟨by simp [rD, PyData.depth, PyData.depthAll], ih⟩
theorem eqvAll_nil (xs : List D) : PyData.eqvAll xs [] = xs.isEmpty := by cases xs <;> rfl
theorem isEmpty_map {α β : Type} (f : α → β) (l : List α) : (l.map f).isEmpty = l.isEmpty := by cases l <;> rfl
theorem dNe_lnil (w : Wr) : dNe (.list (w.map rD)) (.list []) = some (.sh (.bool (!w.isEmpty))) := by
  unfold dNe eqOk
  have h := depth_w w
  simp only [PyData.plain, plain_w, PyData.plainAll, PyData.depth, PyData.eqv, eqvAll_nil, isEmpty_map, Bool.and_self, Bool.true_and, decide_eq_true_eq]
  rw [if_pos (by first | omega | exact decide_eq_true (by omega))]
theorem dNe_tnil (w : Wr) : dNe (wD w) (.tuple []) = some (.sh (.bool (!w.isEmpty))) := by
  unfold dNe eqOk wD
  have h := depth_w w
  simp only [PyData.plain, plain_w, PyData.plainAll, PyData.depth, PyData.eqv, eqvAll_nil, isEmpty_map, Bool.and_self, Bool.true_and, decide_eq_true_eq]
  rw [if_pos (by first | omega | exact decide_eq_true (by omega))]
theorem dEq_tnil (w : Wr) : dEq (wD w) (.tuple []) = some (.sh (.bool w.isEmpty)) := by
  unfold dEq eqOk wD
  have h := depth_w w
  simp only [PyData.plain, plain_w, PyData.plainAll, PyData.depth, PyData.eqv, eqvAll_nil, isEmpty_map, Bool.and_self, Bool.true_and, decide_eq_true_eq]
  rw [if_pos (by first | omega | exact decide_eq_true (by omega))]
theorem rD_fst (p : Str × Nat) : dIx (rD p) (.int 0) = some (.sh (.str p.1)) := ix_t0 _ _
theorem rD_snd (p : Str × Nat) : dIx (rD p) (.int 1) = some (.sh (.int (p.2 : Int))) := ix_t1 _ _ _
theorem wl_last (i : Wr) (q : Str × Nat) : dIx (.list ((i ++ [q]).map rD)) (.int (-1)) = some (.sh (rD q)) := by
  rw [List.map_append]
  exact ix_ll _ _
theorem wd_last (i : Wr) (q : Str × Nat) : dIx (wD (i ++ [q])) (.int (-1)) = some (.sh (rD q)) := by
  unfold wD
  rw [List.map_append]
  exact ix_tl _ _
theorem wd_first (q : Str × Nat) (i : Wr) : dIx (wD (q :: i)) (.int 0) = some (.sh (rD q)) := ix_t0 _ _
theorem wl_set (i : Wr) (q p : Str × Nat) : dSet (.list ((i ++ [q]).map rD)) (.int (-1)) (rD p) = some (.list ((i ++ [p]).map rD)) := by
  rw [List.map_append, List.map_append]
  exact set_ll _ _ _
theorem wl_app {i : Wr} (p : Str × Nat) (h : i.length < 1000000) : mAppend (.list (i.map rD)) [rD p] = some (.list ((i ++ [p]).map rD), .sh .none) := by
  rw [List.map_append]
  exact app_ok (by simpa using h)
theorem wl_set' (i : Wr) (q : Str × Nat) (x : D) : dSet (.list ((i ++ [q]).map rD)) (.int (-1)) x = some (.list (i.map rD ++ [x])) := by
  rw [List.map_append]
  exact set_ll _ _ _
theorem dNe_nn : dNe (.list []) (.list []) = some (.sh (.bool false)) := rfl
theorem dNe_snoc (i : Wr) (q : Str × Nat) : dNe (.list ((i ++ [q]).map rD)) (.list []) = some (.sh (.bool true)) := by
  rw [dNe_lnil]
  simp
/-! ### word_told -/
theorem told_step (o0 : Option SV) (src : Option Src) (acc : Wr) (p : Str × Nat) (h : acc.length < 1000000) : b_word_told_1 ⟨[o0, some (.own (.list (acc.map rD))), some (.sh (.str p.1)), some (.sh (.int (p.2 : Int)))], src⟩ = .ok .nx ⟨[o0, some (.own (.list ((addRun acc p).map rD))), some (.sh (.str p.1)), some (.sh (.int (p.2 : Int)))], src⟩ := by
  by_cases h0 : p.2 = 0
  · rw [addRun_zero h0]
    simp only [b_word_told_1, cSeq, cSkip, cAsg, cRet, cExpr, cIfS, cFor, cPar, cAug, cSetIx, cBinE, cBinV, cCall1, cCallN, cCall, cIt, cRangeC1, cRangeC2, cEnum, cZip, cTup, cLst, cNil, cCons, cConsR, cStar, cD, cVar, cVarV, vE, cT, cAnd, cOr, cNot, cAndV, cOrV, cNotV, cIf, cChain, cSlE2, cSlV2, bnd, cRev2, cNeg, cBits, cMeth, gNm, gTp, gsCons, gsNil, setMany, datAt, SV.dat, SV.settle, datas, fnsOf, cTupF, cFn, okA, tyD, bnd_ok, bnd_exc, opt_some, quiet_ok, shs_cons, shs_nil, itemsOf, Option.map_some, Option.bind_some, Option.map_none, Option.bind_none, padS, List.map_cons, List.map_nil, List.length_cons, List.length_nil, Nat.reduceAdd, Nat.reduceSub, List.replicate_succ, List.replicate_zero, List.cons_append, List.nil_append, List.getElem?_cons_zero, List.getElem?_cons_succ, List.set_cons_zero, List.set_cons_succ, if_true, if_false, Bool.false_eq_true, dGt, dLt, dLe2, dGe2, dOrd, dOrdI, dAddI, dSub, decide_eq_true_eq, Bool.not_eq_true', decide_eq_false_iff_not, sizeLine_eq, Nat.reduceLeDiff, Nat.zero_le, Nat.reduceLT, Nat.reducePow, beq_self_eq_true, id_eq, h0, Int.natCast_zero, Int.lt_irrefl, decide_false]
  · have hp : (0 : Int) < (p.2 : Int) := by omega
    rcases snoc_cases acc with rfl | ⟨i, q, rfl⟩
    · rw [addRun_nil h0]
      simp only [b_word_told_1, cSeq, cSkip, cAsg, cRet, cExpr, cIfS, cFor, cPar, cAug, cSetIx, cBinE, cBinV, cCall1, cCallN, cCall, cIt, cRangeC1, cRangeC2, cEnum, cZip, cTup, cLst, cNil, cCons, cConsR, cStar, cD, cVar, cVarV, vE, cT, cAnd, cOr, cNot, cAndV, cOrV, cNotV, cIf, cChain, cSlE2, cSlV2, bnd, cRev2, cNeg, cBits, cMeth, gNm, gTp, gsCons, gsNil, setMany, datAt, SV.dat, SV.settle, datas, fnsOf, cTupF, cFn, okA, tyD, bnd_ok, bnd_exc, opt_some, quiet_ok, shs_cons, shs_nil, itemsOf, Option.map_some, Option.bind_some, Option.map_none, Option.bind_none, padS, List.map_cons, List.map_nil, List.length_cons, List.length_nil, Nat.reduceAdd, Nat.reduceSub, List.replicate_succ, List.replicate_zero, List.cons_append, List.nil_append, List.getElem?_cons_zero, List.getElem?_cons_succ, List.set_cons_zero, List.set_cons_succ, if_true, if_false, Bool.false_eq_true, dGt, dLt, dLe2, dGe2, dOrd, dOrdI, dAddI, dSub, decide_eq_true_eq, Bool.not_eq_true', decide_eq_false_iff_not, sizeLine_eq, Nat.reduceLeDiff, Nat.zero_le, Nat.reduceLT, Nat.reducePow, beq_self_eq_true, id_eq, hp, decide_true, dNe_nn, app_ok (xs := []) (x := .tuple [.str p.1, .int (p.2 : Int)]) (by simp)]
      rfl
    · by_cases e : q.1 = p.1
      · rw [addRun_same h0 e]
        simp only [b_word_told_1, cSeq, cSkip, cAsg, cRet, cExpr, cIfS, cFor, cPar, cAug, cSetIx, cBinE, cBinV, cCall1, cCallN, cCall, cIt, cRangeC1, cRangeC2, cEnum, cZip, cTup, cLst, cNil, cCons, cConsR, cStar, cD, cVar, cVarV, vE, cT, cAnd, cOr, cNot, cAndV, cOrV, cNotV, cIf, cChain, cSlE2, cSlV2, bnd, cRev2, cNeg, cBits, cMeth, gNm, gTp, gsCons, gsNil, setMany, datAt, SV.dat, SV.settle, datas, fnsOf, cTupF, cFn, okA, tyD, bnd_ok, bnd_exc, opt_some, quiet_ok, shs_cons, shs_nil, itemsOf, Option.map_some, Option.bind_some, Option.map_none, Option.bind_none, padS, List.map_cons, List.map_nil, List.length_cons, List.length_nil, Nat.reduceAdd, Nat.reduceSub, List.replicate_succ, List.replicate_zero, List.cons_append, List.nil_append, List.getElem?_cons_zero, List.getElem?_cons_succ, List.set_cons_zero, List.set_cons_succ, if_true, if_false, Bool.false_eq_true, dGt, dLt, dLe2, dGe2, dOrd, dOrdI, dAddI, dSub, decide_eq_true_eq, Bool.not_eq_true', decide_eq_false_iff_not, sizeLine_eq, Nat.reduceLeDiff, Nat.zero_le, Nat.reduceLT, Nat.reducePow, beq_self_eq_true, id_eq, hp, decide_true, dNe_snoc, wl_last, rD_fst, rD_snd, dEq_str, e, add_int, wl_set']
        simp [rD]
      · rw [addRun_new h0 e]
        simp only [b_word_told_1, cSeq, cSkip, cAsg, cRet, cExpr, cIfS, cFor, cPar, cAug, cSetIx, cBinE, cBinV, cCall1, cCallN, cCall, cIt, cRangeC1, cRangeC2, cEnum, cZip, cTup, cLst, cNil, cCons, cConsR, cStar, cD, cVar, cVarV, vE, cT, cAnd, cOr, cNot, cAndV, cOrV, cNotV, cIf, cChain, cSlE2, cSlV2, bnd, cRev2, cNeg, cBits, cMeth, gNm, gTp, gsCons, gsNil, setMany, datAt, SV.dat, SV.settle, datas, fnsOf, cTupF, cFn, okA, tyD, bnd_ok, bnd_exc, opt_some, quiet_ok, shs_cons, shs_nil, itemsOf, Option.map_some, Option.bind_some, Option.map_none, Option.bind_none, padS, List.map_cons, List.map_nil, List.length_cons, List.length_nil, Nat.reduceAdd, Nat.reduceSub, List.replicate_succ, List.replicate_zero, List.cons_append, List.nil_append, List.getElem?_cons_zero, List.getElem?_cons_succ, List.set_cons_zero, List.set_cons_succ, if_true, if_false, Bool.false_eq_true, dGt, dLt, dLe2, dGe2, dOrd, dOrdI, dAddI, dSub, decide_eq_true_eq, Bool.not_eq_true', decide_eq_false_iff_not, sizeLine_eq, Nat.reduceLeDiff, Nat.zero_le, Nat.reduceLT, Nat.reducePow, beq_self_eq_true, id_eq, hp, decide_true, dNe_snoc, wl_last, rD_fst, rD_snd, dEq_str, e, decide_false, app_ok (xs := (i ++ [q]).map rD) (x := .tuple [.str p.1, .int (p.2 : Int)]) (by simpa using h)]
        simp [rD, bnd_ok]
theorem told_loop (o0 : Option SV) (src : Option Src) : ∀ (ps acc : Wr) (o2 o3 : Option SV), acc.length + ps.length < 1000000 → ∃ o2' o3', forL g_word_told_0 b_word_told_1 (shs (ps.map rD)) ⟨[o0, some (.own (.list (acc.map rD))), o2, o3], src⟩ = .ok .nx ⟨[o0, some (.own (.list ((ps.foldl addRun acc).map rD))), o2', o3'], src⟩
  | [], acc, o2, o3, _ => ⟨o2, o3, rfl⟩
  | p :: ps, acc, o2, o3, h => by
    have hl : (addRun acc p).length + ps.length < 1000000 := by
      have := addRun_len acc p
      simp at h
      omega
    obtain ⟨o2', o3', ih⟩ := told_loop o0 src ps (addRun acc p) (some (.sh (.str p.1))) (some (.sh (.int (p.2 : Int)))) hl
    exact ⟨o2', o3', (forL_step (by rfl) (told_step o0 src acc p (by simp at h; omega))).trans ih⟩
theorem told_ok (ps : Wr) (h : ps.length < 1000000) : Rets F_word_told [.sh (wL ps)] (.sh (wD (told ps))) := rets_of fun src => by
  obtain ⟨o2, o3, e⟩ := told_loop (some (.sh (wL ps))) src ps [] none none (by simpa using h)
  simp only [List.map_nil] at e
  simp only [m_word_told, cSeq, cSkip, cAsg, cRet, cExpr, cIfS, cFor, cPar, cAug, cSetIx, cBinE, cBinV, cCall1, cCallN, cCall, cIt, cRangeC1, cRangeC2, cEnum, cZip, cTup, cLst, cNil, cCons, cConsR, cStar, cD, cVar, cVarV, vE, cT, cAnd, cOr, cNot, cAndV, cOrV, cNotV, cIf, cChain, cSlE2, cSlV2, bnd, cRev2, cNeg, cBits, cMeth, gNm, gTp, gsCons, gsNil, setMany, datAt, SV.dat, SV.settle, datas, fnsOf, cTupF, cFn, okA, tyD, bnd_ok, bnd_exc, opt_some, quiet_ok, shs_cons, shs_nil, itemsOf, Option.map_some, Option.bind_some, Option.map_none, Option.bind_none, padS, List.map_cons, List.map_nil, List.length_cons, List.length_nil, Nat.reduceAdd, Nat.reduceSub, List.replicate_succ, List.replicate_zero, List.cons_append, List.nil_append, List.getElem?_cons_zero, List.getElem?_cons_succ, List.set_cons_zero, List.set_cons_succ, if_true, if_false, Bool.false_eq_true, dGt, dLt, dLe2, dGe2, dOrd, dOrdI, dAddI, dSub, decide_eq_true_eq, Bool.not_eq_true', decide_eq_false_iff_not, sizeLine_eq, Nat.reduceLeDiff, Nat.zero_le, Nat.reduceLT, Nat.reducePow, beq_self_eq_true, id_eq, wL] at e ⊢
  rw [e]
  simp only [cSeq, cSkip, cAsg, cRet, cExpr, cIfS, cFor, cPar, cAug, cSetIx, cBinE, cBinV, cCall1, cCallN, cCall, cIt, cRangeC1, cRangeC2, cEnum, cZip, cTup, cLst, cNil, cCons, cConsR, cStar, cD, cVar, cVarV, vE, cT, cAnd, cOr, cNot, cAndV, cOrV, cNotV, cIf, cChain, cSlE2, cSlV2, bnd, cRev2, cNeg, cBits, cMeth, gNm, gTp, gsCons, gsNil, setMany, datAt, SV.dat, SV.settle, datas, fnsOf, cTupF, cFn, okA, tyD, bnd_ok, bnd_exc, opt_some, quiet_ok, shs_cons, shs_nil, itemsOf, Option.map_some, Option.bind_some, Option.map_none, Option.bind_none, padS, List.map_cons, List.map_nil, List.length_cons, List.length_nil, Nat.reduceAdd, Nat.reduceSub, List.replicate_succ, List.replicate_zero, List.cons_append, List.nil_append, List.getElem?_cons_zero, List.getElem?_cons_succ, List.set_cons_zero, List.set_cons_succ, if_true, if_false, Bool.false_eq_true, dGt, dLt, dLe2, dGe2, dOrd, dOrdI, dAddI, dSub, decide_eq_true_eq, Bool.not_eq_true', decide_eq_false_iff_not, sizeLine_eq, Nat.reduceLeDiff, Nat.zero_le, Nat.reduceLT, Nat.reducePow, beq_self_eq_true, id_eq, tup_l]
  exact ⟨_, rfl⟩
theorem told_app (ps : Wr) (h : ps.length < 1000000) : App 1 F_word_told [.sh (wL ps)] (.sh (wD (told ps))) := (told_ok ps h).app
end Law
end Pw
set_option Elab.async false
set_option linter.all false
set_option maxRecDepth 100000
set_option exponentiation.threshold 10000
namespace Pw
namespace Law
open PySem PySem.Spec PyProof.Rows L2 Pw.Wd
/-! ### not_long, word_made -/
def far : Int := 10 ^ 300
theorem ten300 : (10 : Int) ^ 300 < 2 ^ 997 := by decide +kernel
theorem bits300 {n : Int} (h0 : 0 ≤ n) (h : n < 10 ^ 300) : Builtin.Int.intBits n ≤ 997 ∧ n.natAbs.log2 < 1920 := by
  have h2 : n.natAbs < 2 ^ 997 := by
    have : n < 2 ^ 997 := Int.lt_trans h ten300
    have e2 : ((2 ^ 997 : Nat) : Int) = 2 ^ 997 := by decide +kernel
    omega
  refine ⟨PyProof.Rows.intBits_le h2, ?_⟩
  by_cases hz : n.natAbs = 0
  · rw [hz]; decide
  · exact Nat.lt_trans ((Nat.log2_lt hz).mpr h2) (by decide)
theorem not_long_ok (a : Addr) {n : Int} (h0 : 0 ≤ n) (h : n < far) : Rets (F_not_long a) [.sh (.int n)] (.sh (.int n)) := rets_of fun src => by
  obtain ⟨hb, hl⟩ := bits300 h0 h
  have hs : (Str.ofString (toString n)).length ≤ 300 := PyProof.Rows.toString_length_le h0 (by decide) h
  have e1 : ¬ ((997 : Int) < ((Builtin.Int.intBits n : Nat) : Int)) := by omega
  have e2 : dAbs (.int n) = some (.sh (.int n)) := by simp only [dAbs, if_neg (show ¬ n < 0 by omega)]
  have e3 : dStr (.int n) = some (.sh (.str (Str.ofString (toString n)))) := by simp only [dStr, if_pos hl]
  have e4 : dLen (.str (Str.ofString (toString n))) = some (.sh (.int (Str.ofString (toString n)).length)) := by simp only [dLen, if_pos (int_text_fits hl)]
  have e5 : ¬ ((300 : Int) < ((Str.ofString (toString n)).length : Int)) := by omega
  simp only [m_not_long, cSeq, cSkip, cAsg, cRet, cExpr, cIfS, cFor, cPar, cAug, cSetIx, cBinE, cBinV, cCall1, cCallN, cCall, cIt, cRangeC1, cRangeC2, cEnum, cZip, cTup, cLst, cNil, cCons, cConsR, cStar, cD, cVar, cVarV, vE, cT, cAnd, cOr, cNot, cAndV, cOrV, cNotV, cIf, cChain, cSlE2, cSlV2, bnd, cRev2, cNeg, cBits, cMeth, gNm, gTp, gsCons, gsNil, setMany, datAt, SV.dat, SV.settle, datas, fnsOf, cTupF, cFn, okA, tyD, bnd_ok, bnd_exc, opt_some, quiet_ok, shs_cons, shs_nil, itemsOf, Option.map_some, Option.bind_some, Option.map_none, Option.bind_none, padS, List.map_cons, List.map_nil, List.length_cons, List.length_nil, Nat.reduceAdd, Nat.reduceSub, List.replicate_succ, List.replicate_zero, List.cons_append, List.nil_append, List.getElem?_cons_zero, List.getElem?_cons_succ, List.set_cons_zero, List.set_cons_succ, if_true, if_false, Bool.false_eq_true, dGt, dLt, dLe2, dGe2, dOrd, dOrdI, dAddI, dSub, decide_eq_true_eq, Bool.not_eq_true', decide_eq_false_iff_not, sizeLine_eq, Nat.reduceLeDiff, Nat.zero_le, Nat.reduceLT, Nat.reducePow, beq_self_eq_true, id_eq, e1, e2, e3, e4, e5, decide_false]
  exact ⟨_, rfl⟩
/-- no count is too long -/
def Sm300 (w : Wr) : Prop := ∀ p ∈ w, ((p.2 : Nat) : Int) < far
theorem made_step (a : Addr) (o0 o1 o2 : Option SV) (src : Option Src) (p : Str × Nat) (h : ((p.2 : Nat) : Int) < far) : b_word_made_1 a ⟨[o0, some (.sh (.str p.1)), some (.sh (.int (p.2 : Int)))], src⟩ = .ok .nx ⟨[o0, some (.sh (.str p.1)), some (.sh (.int (p.2 : Int)))], src⟩ := by
  have e := (not_long_ok a (n := (p.2 : Int)) (by omega) h).app (n := 1)
  simp only [App] at e
  simp only [b_word_made_1, cSeq, cSkip, cAsg, cRet, cExpr, cIfS, cFor, cPar, cAug, cSetIx, cBinE, cBinV, cCall1, cCallN, cCall, cIt, cRangeC1, cRangeC2, cEnum, cZip, cTup, cLst, cNil, cCons, cConsR, cStar, cD, cVar, cVarV, vE, cT, cAnd, cOr, cNot, cAndV, cOrV, cNotV, cIf, cChain, cSlE2, cSlV2, bnd, cRev2, cNeg, cBits, cMeth, gNm, gTp, gsCons, gsNil, setMany, datAt, SV.dat, SV.settle, datas, fnsOf, cTupF, cFn, okA, tyD, bnd_ok, bnd_exc, opt_some, quiet_ok, shs_cons, shs_nil, itemsOf, Option.map_some, Option.bind_some, Option.map_none, Option.bind_none, padS, List.map_cons, List.map_nil, List.length_cons, List.length_nil, Nat.reduceAdd, Nat.reduceSub, List.replicate_succ, List.replicate_zero, List.cons_append, List.nil_append, List.getElem?_cons_zero, List.getElem?_cons_succ, List.set_cons_zero, List.set_cons_succ, if_true, if_false, Bool.false_eq_true, dGt, dLt, dLe2, dGe2, dOrd, dOrdI, dAddI, dSub, decide_eq_true_eq, Bool.not_eq_true', decide_eq_false_iff_not, sizeLine_eq, Nat.reduceLeDiff, Nat.zero_le, Nat.reduceLT, Nat.reducePow, beq_self_eq_true, id_eq, e]
theorem made_loop (a : Addr) (o0 : Option SV) (src : Option Src) : ∀ (w : Wr) (o1 o2 : Option SV), Sm300 w → ∃ o1' o2', forL g_word_made_0 (b_word_made_1 a) (shs (w.map rD)) ⟨[o0, o1, o2], src⟩ = .ok .nx ⟨[o0, o1', o2'], src⟩
  | [], o1, o2, _ => ⟨o1, o2, rfl⟩
  | p :: w, o1, o2, h => by
    obtain ⟨o1', o2', ih⟩ := made_loop a o0 src w (some (.sh (.str p.1))) (some (.sh (.int (p.2 : Int)))) fun q hq => h q (List.mem_cons_of_mem _ hq)
    exact ⟨o1', o2', (forL_step (by rfl) (made_step a o0 none none src p (h p List.mem_cons_self))).trans ih⟩
theorem made_ok (a : Addr) {w : Wr} (hl : w.length ≤ 400) (h : Sm300 w) : Rets (F_word_made a) [.sh (wD w)] (.sh (wD w)) := rets_of fun src => by
  obtain ⟨o1, o2, e⟩ := made_loop a (some (.sh (wD w))) src w none none h
  have e1 : ¬ ((400 : Int) < (w.map rD).length) := by rw [List.length_map]; omega
  simp only [wD] at e
  simp only [m_word_made, cSeq, cSkip, cAsg, cRet, cExpr, cIfS, cFor, cPar, cAug, cSetIx, cBinE, cBinV, cCall1, cCallN, cCall, cIt, cRangeC1, cRangeC2, cEnum, cZip, cTup, cLst, cNil, cCons, cConsR, cStar, cD, cVar, cVarV, vE, cT, cAnd, cOr, cNot, cAndV, cOrV, cNotV, cIf, cChain, cSlE2, cSlV2, bnd, cRev2, cNeg, cBits, cMeth, gNm, gTp, gsCons, gsNil, setMany, datAt, SV.dat, SV.settle, datas, fnsOf, cTupF, cFn, okA, tyD, bnd_ok, bnd_exc, opt_some, quiet_ok, shs_cons, shs_nil, itemsOf, Option.map_some, Option.bind_some, Option.map_none, Option.bind_none, padS, List.map_cons, List.map_nil, List.length_cons, List.length_nil, Nat.reduceAdd, Nat.reduceSub, List.replicate_succ, List.replicate_zero, List.cons_append, List.nil_append, List.getElem?_cons_zero, List.getElem?_cons_succ, List.set_cons_zero, List.set_cons_succ, if_true, if_false, Bool.false_eq_true, dGt, dLt, dLe2, dGe2, dOrd, dOrdI, dAddI, dSub, decide_eq_true_eq, Bool.not_eq_true', decide_eq_false_iff_not, sizeLine_eq, Nat.reduceLeDiff, Nat.zero_le, Nat.reduceLT, Nat.reducePow, beq_self_eq_true, id_eq, wD, len_t, e1, decide_false, e]
  exact ⟨_, rfl⟩
/-! ### word_long -/
theorem sum_nat (w : Wr) : (w.map fun p => (p.2 : Int)).sum = (tot w : Int) := by
  induction w with
  | nil => rfl
  | cons p w ih => simp [tot_cons, ih]
theorem long_ok {w : Wr} (hl : w.length ≤ 1000000) : Rets F_word_long [.sh (wD w)] (.sh (.int (tot w : Int))) := rets_of fun src => by
  have hc := comp_map (g := g_word_long_0) (f := e_word_long_1) (vs := [1, 2]) (s := ⟨[some (.sh (wD w)), none, none], src⟩) (fun p : Str × Nat => .sh (rD p)) (fun p => .int (p.2 : Int)) w [] (fun p hp => ⟨_, _, _, by rfl, by rfl, by rfl, by rfl⟩) (by rw [sizeLine_eq]; simp; omega)
  have es : shs (w.map rD) = w.map fun p : Str × Nat => .sh (rD p) := by simp [shs]
  have e : dInts (w.map fun p => .int (p.2 : Int)) = some (w.map fun p => (p.2 : Int)) := by
    have := ints_map (w.map fun p => (p.2 : Int))
    rwa [List.map_map] at this
  rw [← es] at hc
  simp only [wD, List.nil_append] at hc
  simp only [m_word_long, cSeq, cSkip, cAsg, cRet, cExpr, cIfS, cFor, cPar, cAug, cSetIx, cBinE, cBinV, cCall1, cCallN, cCall, cIt, cRangeC1, cRangeC2, cEnum, cZip, cTup, cLst, cNil, cCons, cConsR, cStar, cD, cVar, cVarV, vE, cT, cAnd, cOr, cNot, cAndV, cOrV, cNotV, cIf, cChain, cSlE2, cSlV2, bnd, cRev2, cNeg, cBits, cMeth, gNm, gTp, gsCons, gsNil, setMany, datAt, SV.dat, SV.settle, datas, fnsOf, cTupF, cFn, okA, tyD, bnd_ok, bnd_exc, opt_some, quiet_ok, shs_cons, shs_nil, itemsOf, Option.map_some, Option.bind_some, Option.map_none, Option.bind_none, padS, List.map_cons, List.map_nil, List.length_cons, List.length_nil, Nat.reduceAdd, Nat.reduceSub, List.replicate_succ, List.replicate_zero, List.cons_append, List.nil_append, List.getElem?_cons_zero, List.getElem?_cons_succ, List.set_cons_zero, List.set_cons_succ, if_true, if_false, Bool.false_eq_true, dGt, dLt, dLe2, dGe2, dOrd, dOrdI, dAddI, dSub, decide_eq_true_eq, Bool.not_eq_true', decide_eq_false_iff_not, sizeLine_eq, Nat.reduceLeDiff, Nat.zero_le, Nat.reduceLT, Nat.reducePow, beq_self_eq_true, id_eq, cComp, wD, wipeS, hc, quiet_ok, backS, dSum, e, sum_nat]
  exact ⟨_, rfl⟩
/-! ### word_then -/
theorem star_t {f : Ev} {g : Ag} {s s1 s2 : S} {ds : List D} {rs : List SV} (h1 : f s = .ok (.sh (.tuple ds)) s1) (h2 : g s1 = .ok rs s2) : cStar f g s = .ok (ds.map .sh ++ rs) s2 := by
  unfold cStar
  rw [h1, bnd_ok]
  simp only [SV.settle]
  rw [h2, bnd_ok]
theorem datas_sh' : ∀ (ds : List D), datas (ds.map .sh) = some ds
  | [] => rfl
  | d :: ds => by simp [datas, datas_sh' ds]
theorem datas_two (a b : List D) : datas (a.map .sh ++ b.map .sh) = some (a ++ b) := by rw [← List.map_append, datas_sh']
theorem then_ok (a : Addr) {u v : Wr} (hl : u.length + v.length ≤ 1000) (h1 : (told (u ++ v)).length ≤ 400) (h2 : Sm300 (told (u ++ v))) : Rets (F_word_then a) [.sh (wD u), .sh (wD v)] (.sh (wD (told (u ++ v)))) := rets_of fun src => by
  have e1 := told_app (u ++ v) (by simp; omega)
  have e2 := (made_ok a h1 h2).app (n := 1)
  simp only [App, wL] at e1 e2
  have e3 : ((u ++ v).map rD).length ≤ 16777216 := by simp; omega
  have e4 : datas ((u.map rD).map .sh ++ ((v.map rD).map SV.sh ++ [])) = some ((u ++ v).map rD) := by rw [List.append_nil, datas_two, List.map_append]
  simp only [m_word_then, cSeq, cSkip, cAsg, cRet, cExpr, cIfS, cFor, cPar, cAug, cSetIx, cBinE, cBinV, cCall1, cCallN, cCall, cIt, cRangeC1, cRangeC2, cEnum, cZip, cTup, cLst, cNil, cCons, cConsR, cStar, cD, cVar, cVarV, vE, cT, cAnd, cOr, cNot, cAndV, cOrV, cNotV, cIf, cChain, cSlE2, cSlV2, bnd, cRev2, cNeg, cBits, cMeth, gNm, gTp, gsCons, gsNil, setMany, datAt, SV.dat, SV.settle, datas, fnsOf, cTupF, cFn, okA, tyD, bnd_ok, bnd_exc, opt_some, quiet_ok, shs_cons, shs_nil, itemsOf, Option.map_some, Option.bind_some, Option.map_none, Option.bind_none, padS, List.map_cons, List.map_nil, List.length_cons, List.length_nil, Nat.reduceAdd, Nat.reduceSub, List.replicate_succ, List.replicate_zero, List.cons_append, List.nil_append, List.getElem?_cons_zero, List.getElem?_cons_succ, List.set_cons_zero, List.set_cons_succ, if_true, if_false, Bool.false_eq_true, dGt, dLt, dLe2, dGe2, dOrd, dOrdI, dAddI, dSub, decide_eq_true_eq, Bool.not_eq_true', decide_eq_false_iff_not, sizeLine_eq, Nat.reduceLeDiff, Nat.zero_le, Nat.reduceLT, Nat.reducePow, beq_self_eq_true, id_eq, wD, e4, e3, e1]
  simp only [wD] at e2
  simp only [e2, bnd_ok]
  exact ⟨_, rfl⟩
end Law
end Pw
set_option Elab.async false
set_option linter.all false
set_option maxRecDepth 100000
set_option exponentiation.threshold 10000
namespace Pw
namespace Law
open PySem PySem.Spec PyProof.Rows L2 Pw.Wd
/-! ### slices -/
theorem sIx_nat {n d k : Nat} : HT.sIx n d (some (k : Int)) = min k n := by
  unfold HT.sIx
  dsimp only
  rw [if_neg (by omega), Int.toNat_natCast]
theorem sIx_m1 {n d : Nat} : HT.sIx n d (some (-1)) = n - 1 := by
  unfold HT.sIx
  dsimp only
  rw [if_pos (by decide)]
  omega
theorem cut_to (ds : List D) (k : Nat) : cutD ds none (some (k : Int)) = ds.take k := by
  unfold cutD
  rw [sIx_nat, show HT.sIx ds.length 0 none = 0 from rfl, List.drop_zero, Nat.sub_zero]
  by_cases h : k ≤ ds.length
  · rw [Nat.min_eq_left h]
  · rw [Nat.min_eq_right (by omega), List.take_of_length_le (Nat.le_refl _), List.take_of_length_le (by omega)]
theorem cut_from (ds : List D) (k : Nat) : cutD ds (some (k : Int)) none = ds.drop k := by
  unfold cutD
  rw [sIx_nat, show HT.sIx ds.length ds.length none = ds.length from rfl]
  by_cases h : k ≤ ds.length
  · rw [Nat.min_eq_left h, List.take_of_length_le (by simp)]
  · rw [Nat.min_eq_right (by omega), List.drop_of_length_le (Nat.le_refl _), List.drop_of_length_le (by omega), List.take_nil]
theorem cut_mid (p q : D) (mid : List D) : cutD (p :: (mid ++ [q])) (some 1) (some (-1)) = mid := by
  unfold cutD
  have e : HT.sIx (p :: (mid ++ [q])).length 0 (some 1) = 1 := by
    have := sIx_nat (n := (p :: (mid ++ [q])).length) (d := 0) (k := 1)
    rw [Int.natCast_one] at this
    rw [this]
    simp
  rw [e, sIx_m1]
  simp
theorem cut_one (p : D) (r : List D) : cutD (p :: r) none (some 1) = [p] := cut_to _ 1
theorem sl_to (ds : List D) (k : Nat) : dSl2 (.tuple ds) none (some (k : Int)) = some (.sh (.tuple (ds.take k))) := by unfold dSl2; dsimp only; rw [cut_to]
theorem sl_from (ds : List D) (k : Nat) : dSl2 (.tuple ds) (some (k : Int)) none = some (.sh (.tuple (ds.drop k))) := by unfold dSl2; dsimp only; rw [cut_from]
theorem sl_mid (p q : D) (mid : List D) : dSl2 (.tuple (p :: (mid ++ [q]))) (some 1) (some (-1)) = some (.sh (.tuple mid)) := by unfold dSl2; dsimp only; rw [cut_mid]
theorem sl_one (p : D) (r : List D) : dSl2 (.tuple (p :: r)) none (some 1) = some (.sh (.tuple [p])) := by unfold dSl2; dsimp only; rw [cut_one]
/-! ### times_runs, word_times, word_back -/
theorem rep_rep {α : Type} (a : α) (n k : Nat) : pw (List.replicate n a) k = List.replicate (n * k) a := by
  induction k with
  | zero => rfl
  | succ k ih =>
    unfold pw at ih ⊢
    rw [List.replicate_succ, List.flatten_cons, ih, List.replicate_append_replicate, Nat.mul_succ, Nat.add_comm]
theorem told_one (p : Str × Nat) {k : Nat} (hk : 0 < p.2 * k) : told (pw [p] k) = [(p.1, p.2 * k)] := by
  refine exp_inj (nrm_told _) (nrm_one hk) ?_
  rw [exp_told, exp_pw, exp_one, exp_one, rep_rep]
theorem map_pw (w : Wr) (k : Nat) : (List.replicate k (w.map rD)).flatten = (pw w k).map rD := by
  unfold pw
  rw [List.map_flatten, List.map_replicate]
theorem times_one (a : Addr) {p : Str × Nat} {k : Nat} (hp : 0 < p.2) (hk : 0 < k) (hk4 : k ≤ 400) (h2 : Sm300 [(p.1, p.2 * k)]) : Rets (F_word_times a) [.sh (wD [p]), .sh (.int (k : Int))] (.sh (wD [(p.1, p.2 * k)])) := rets_of fun src => by
  have m1 := (made_ok a (w := [(p.1, p.2 * k)]) (by simp) h2).app (n := 1)
  simp only [App] at m1
  have k0 : decide ((k : Int) = 0) = false := decide_eq_false (by omega)
  have mm : mulFits (p.2 : Int) (k : Int) = true := mulFits_r (by unfold smallI; simp only [Bool.and_eq_true, decide_eq_true_eq]; omega)
  have e1 : dEq (wD [p]) (.tuple []) = some (.sh (.bool false)) := dEq_tnil [p]
  simp only [wD, rD, List.map_cons, List.map_nil, Int.natCast_mul] at m1 e1 ⊢
  simp only [m_word_times, cSeq, cSkip, cAsg, cRet, cExpr, cIfS, cFor, cPar, cAug, cSetIx, cBinE, cBinV, cCall1, cCallN, cCall, cIt, cRangeC1, cRangeC2, cEnum, cZip, cTup, cLst, cNil, cCons, cConsR, cStar, cD, cVar, cVarV, vE, cT, cAnd, cOr, cNot, cAndV, cOrV, cNotV, cIf, cChain, cSlE2, cSlV2, bnd, cRev2, cNeg, cBits, cMeth, gNm, gTp, gsCons, gsNil, setMany, datAt, SV.dat, SV.settle, datas, fnsOf, cTupF, cFn, okA, tyD, bnd_ok, bnd_exc, opt_some, quiet_ok, shs_cons, shs_nil, itemsOf, Option.map_some, Option.bind_some, Option.map_none, Option.bind_none, padS, List.map_cons, List.map_nil, List.length_cons, List.length_nil, Nat.reduceAdd, Nat.reduceSub, List.replicate_succ, List.replicate_zero, List.cons_append, List.nil_append, List.getElem?_cons_zero, List.getElem?_cons_succ, List.set_cons_zero, List.set_cons_succ, if_true, if_false, Bool.false_eq_true, dGt, dLt, dLe2, dGe2, dOrd, dOrdI, dAddI, dSub, decide_eq_true_eq, Bool.not_eq_true', decide_eq_false_iff_not, sizeLine_eq, Nat.reduceLeDiff, Nat.zero_le, Nat.reduceLT, Nat.reducePow, beq_self_eq_true, id_eq, rD, dEq_int, k0, e1, len_t, decide_true, ix_t0, ix_t1, mulI mm, Int.natCast_one, m1]
  exact ⟨_, rfl⟩
theorem times_runs_ok {p q : Str × Nat} {mid : Wr} {k : Nat} (hk : k ≤ 400) : Rets F_times_runs [.sh (wD (p :: (mid ++ [q]))), .sh (.int (k : Int))] (.sh (.int ((((p :: (mid ++ [q])).map rD).length : Int) * k - if p.1 = q.1 then (k : Int) - 1 else 0))) := rets_of fun src => by
  have e2 : dNe (wD (p :: (mid ++ [q]))) (.tuple []) = some (.sh (.bool true)) := dNe_tnil _
  have e3 : dIx (wD (p :: (mid ++ [q]))) (.int 0) = some (.sh (rD p)) := wd_first _ _
  have e4 : dIx (wD (p :: (mid ++ [q]))) (.int (-1)) = some (.sh (rD q)) := wd_last (p :: mid) q
  have mm : mulFits (((p :: (mid ++ [q])).map rD).length : Int) (k : Int) = true := mulFits_r (by unfold smallI; simp only [Bool.and_eq_true, decide_eq_true_eq]; omega)
  generalize p :: (mid ++ [q]) = w at e2 e3 e4 mm
  simp only [wD] at e2 e3 e4 ⊢
  by_cases z : p.1 = q.1
  · simp only [m_times_runs, cSeq, cSkip, cAsg, cRet, cExpr, cIfS, cFor, cPar, cAug, cSetIx, cBinE, cBinV, cCall1, cCallN, cCall, cIt, cRangeC1, cRangeC2, cEnum, cZip, cTup, cLst, cNil, cCons, cConsR, cStar, cD, cVar, cVarV, vE, cT, cAnd, cOr, cNot, cAndV, cOrV, cNotV, cIf, cChain, cSlE2, cSlV2, bnd, cRev2, cNeg, cBits, cMeth, gNm, gTp, gsCons, gsNil, setMany, datAt, SV.dat, SV.settle, datas, fnsOf, cTupF, cFn, okA, tyD, bnd_ok, bnd_exc, opt_some, quiet_ok, shs_cons, shs_nil, itemsOf, Option.map_some, Option.bind_some, Option.map_none, Option.bind_none, padS, List.map_cons, List.map_nil, List.length_cons, List.length_nil, Nat.reduceAdd, Nat.reduceSub, List.replicate_succ, List.replicate_zero, List.cons_append, List.nil_append, List.getElem?_cons_zero, List.getElem?_cons_succ, List.set_cons_zero, List.set_cons_succ, if_true, if_false, Bool.false_eq_true, dGt, dLt, dLe2, dGe2, dOrd, dOrdI, dAddI, dSub, decide_eq_true_eq, Bool.not_eq_true', decide_eq_false_iff_not, sizeLine_eq, Nat.reduceLeDiff, Nat.zero_le, Nat.reduceLT, Nat.reducePow, beq_self_eq_true, id_eq, e2, e3, e4, rD_fst, dEq_str, z, decide_true, len_t, mulI mm]
    exact ⟨_, rfl⟩
  · simp only [m_times_runs, cSeq, cSkip, cAsg, cRet, cExpr, cIfS, cFor, cPar, cAug, cSetIx, cBinE, cBinV, cCall1, cCallN, cCall, cIt, cRangeC1, cRangeC2, cEnum, cZip, cTup, cLst, cNil, cCons, cConsR, cStar, cD, cVar, cVarV, vE, cT, cAnd, cOr, cNot, cAndV, cOrV, cNotV, cIf, cChain, cSlE2, cSlV2, bnd, cRev2, cNeg, cBits, cMeth, gNm, gTp, gsCons, gsNil, setMany, datAt, SV.dat, SV.settle, datas, fnsOf, cTupF, cFn, okA, tyD, bnd_ok, bnd_exc, opt_some, quiet_ok, shs_cons, shs_nil, itemsOf, Option.map_some, Option.bind_some, Option.map_none, Option.bind_none, padS, List.map_cons, List.map_nil, List.length_cons, List.length_nil, Nat.reduceAdd, Nat.reduceSub, List.replicate_succ, List.replicate_zero, List.cons_append, List.nil_append, List.getElem?_cons_zero, List.getElem?_cons_succ, List.set_cons_zero, List.set_cons_succ, if_true, if_false, Bool.false_eq_true, dGt, dLt, dLe2, dGe2, dOrd, dOrdI, dAddI, dSub, decide_eq_true_eq, Bool.not_eq_true', decide_eq_false_iff_not, sizeLine_eq, Nat.reduceLeDiff, Nat.zero_le, Nat.reduceLT, Nat.reducePow, beq_self_eq_true, id_eq, e2, e3, e4, rD_fst, dEq_str, z, decide_false, len_t, mulI mm]
    exact ⟨_, rfl⟩
theorem times_many (a : Addr) {p q : Str × Nat} {mid : Wr} {k : Nat} (hk : 0 < k) (hl : (mid.length + 2) * k ≤ 400) (h1 : (told (pw (p :: (mid ++ [q])) k)).length ≤ 400) (h2 : Sm300 (told (pw (p :: (mid ++ [q])) k))) : Rets (F_word_times a) [.sh (wD (p :: (mid ++ [q]))), .sh (.int (k : Int))] (.sh (wD (told (pw (p :: (mid ++ [q])) k)))) := rets_of fun src => by
  have hk4 : k ≤ 400 := Nat.le_trans (Nat.le_mul_of_pos_left k (by omega)) hl
  have m1 := (made_ok a h1 h2).app (n := 1)
  have t1 := (times_runs_ok (p := p) (q := q) (mid := mid) hk4).app (n := 2)
  have k0 : decide ((k : Int) = 0) = false := decide_eq_false (by omega)
  have e1 : dEq (wD (p :: (mid ++ [q]))) (.tuple []) = some (.sh (.bool false)) := dEq_tnil _
  have hlen : (p :: (mid ++ [q])).length = mid.length + 2 := by simp
  generalize p :: (mid ++ [q]) = w at m1 t1 e1 hlen
  have l1 : decide (((w.map rD).length : Int) = 1) = false := decide_eq_false (by rw [List.length_map]; omega)
  have few : decide ((400 : Int) < ((w.map rD).length : Int) * k - if p.1 = q.1 then (k : Int) - 1 else 0) = false := by
    have : ((w.map rD).length : Int) * k = (((mid.length + 2) * k : Nat) : Int) := by rw [List.length_map, hlen]; simp
    rw [this]
    refine decide_eq_false ?_
    split <;> omega
  have t2 := told_app (pw w k) (by rw [pw_len, hlen]; omega)
  have e5 : dMul2 (.list (w.map rD)) (.int (k : Int)) = some (.own (.list ((pw w k).map rD))) := by
    have hz : (w.map rD).length * (k : Int).toNat ≤ sizeLine := by rw [List.length_map, Int.toNat_natCast, hlen]; exact szl (by omega)
    rw [mulL ⟨by omega, by omega, hz⟩, Int.toNat_natCast, map_pw]
  have e6 : dList2 (.tuple (w.map rD)) = some (.own (.list (w.map rD))) := rfl
  simp only [App, wD, wL] at e1 t1 t2 m1 ⊢
  simp only [m_word_times, cSeq, cSkip, cAsg, cRet, cExpr, cIfS, cFor, cPar, cAug, cSetIx, cBinE, cBinV, cCall1, cCallN, cCall, cIt, cRangeC1, cRangeC2, cEnum, cZip, cTup, cLst, cNil, cCons, cConsR, cStar, cD, cVar, cVarV, vE, cT, cAnd, cOr, cNot, cAndV, cOrV, cNotV, cIf, cChain, cSlE2, cSlV2, bnd, cRev2, cNeg, cBits, cMeth, gNm, gTp, gsCons, gsNil, setMany, datAt, SV.dat, SV.settle, datas, fnsOf, cTupF, cFn, okA, tyD, bnd_ok, bnd_exc, opt_some, quiet_ok, shs_cons, shs_nil, itemsOf, Option.map_some, Option.bind_some, Option.map_none, Option.bind_none, padS, List.map_cons, List.map_nil, List.length_cons, List.length_nil, Nat.reduceAdd, Nat.reduceSub, List.replicate_succ, List.replicate_zero, List.cons_append, List.nil_append, List.getElem?_cons_zero, List.getElem?_cons_succ, List.set_cons_zero, List.set_cons_succ, if_true, if_false, Bool.false_eq_true, dGt, dLt, dLe2, dGe2, dOrd, dOrdI, dAddI, dSub, decide_eq_true_eq, Bool.not_eq_true', decide_eq_false_iff_not, sizeLine_eq, Nat.reduceLeDiff, Nat.zero_le, Nat.reduceLT, Nat.reducePow, beq_self_eq_true, id_eq, dEq_int, k0, e1, len_t, l1, t1, few, e6, e5, t2, m1]
  exact ⟨_, rfl⟩
theorem times_ok (a : Addr) {w : Wr} {k : Nat} (hn : Nrm w) (hk : 0 < k) (hw : w ≠ []) (hl : w.length * k ≤ 400) (h1 : (told (pw w k)).length ≤ 400) (h2 : Sm300 (told (pw w k))) : Rets (F_word_times a) [.sh (wD w), .sh (.int (k : Int))] (.sh (wD (told (pw w k)))) := by
  rcases ends_cases hw with ⟨p, rfl⟩ | ⟨p, mid, q, rfl⟩
  · have hp := hn.pos p (by simp)
    have e := told_one p (k := k) (Nat.mul_pos hp hk)
    rw [e] at h2 ⊢
    exact times_one a hp hk (by simpa using hl) h2
  · exact times_many a hk (by simpa using hl) h1 h2

/-! ### runs for ever -/
theorem er_two {p q : Str × Nat} {mid : Wr} (e : p.1 ≠ q.1) : Rets F_endless_runs [.sh (wD (p :: (mid ++ [q])))] (.sh (.tuple [wD [], wD (p :: (mid ++ [q]))])) := rets_of fun src => by
  have e3 := wd_first p (mid ++ [q])
  have e4 := wd_last (p :: mid) q
  have e5 : dNe (.str p.1) (.str q.1) = some (.sh (.bool true)) := by rw [dNe_str, decide_eq_false e]; rfl
  simp only [List.cons_append] at e4
  simp only [m_endless_runs, cSeq, cSkip, cAsg, cRet, cExpr, cIfS, cFor, cPar, cAug, cSetIx, cBinE, cBinV, cCall1, cCallN, cCall, cIt, cRangeC1, cRangeC2, cEnum, cZip, cTup, cLst, cNil, cCons, cConsR, cStar, cD, cVar, cVarV, vE, cT, cAnd, cOr, cNot, cAndV, cOrV, cNotV, cIf, cChain, cSlE2, cSlV2, bnd, cRev2, cNeg, cBits, cMeth, gNm, gTp, gsCons, gsNil, setMany, datAt, SV.dat, SV.settle, datas, fnsOf, cTupF, cFn, okA, tyD, bnd_ok, bnd_exc, opt_some, quiet_ok, shs_cons, shs_nil, itemsOf, Option.map_some, Option.bind_some, Option.map_none, Option.bind_none, padS, List.map_cons, List.map_nil, List.length_cons, List.length_nil, Nat.reduceAdd, Nat.reduceSub, List.replicate_succ, List.replicate_zero, List.cons_append, List.nil_append, List.getElem?_cons_zero, List.getElem?_cons_succ, List.set_cons_zero, List.set_cons_succ, if_true, if_false, Bool.false_eq_true, dGt, dLt, dLe2, dGe2, dOrd, dOrdI, dAddI, dSub, decide_eq_true_eq, Bool.not_eq_true', decide_eq_false_iff_not, sizeLine_eq, Nat.reduceLeDiff, Nat.zero_le, Nat.reduceLT, Nat.reducePow, beq_self_eq_true, id_eq, e3, e4, rD, e5]
  exact ⟨_, rfl⟩
theorem er_one {p q : Str × Nat} {mid : Wr} (e : p.1 = q.1) (hz : mid.length ≤ 1000) : Rets F_endless_runs [.sh (wD (p :: (mid ++ [q])))] (.sh (.tuple [wD [p], wD (mid ++ [(p.1, q.2 + p.2)])])) := rets_of fun src => by
  have e3 := wd_first p (mid ++ [q])
  have e4 := wd_last (p :: mid) q
  have e5 : dNe (.str p.1) (.str q.1) = some (.sh (.bool false)) := by rw [dNe_str, decide_eq_true e]; rfl
  have e6 : dSl2 (wD (p :: (mid ++ [q]))) none (some 1) = some (.sh (wD [p])) := sl_one _ _
  have e7 : dSl2 (wD (p :: (mid ++ [q]))) (some 1) (some (-1)) = some (.sh (.tuple (mid.map rD))) := by
    unfold wD
    rw [List.map_cons, List.map_append]
    exact sl_mid _ _ _
  have e8 : datas ((mid.map rD).map SV.sh ++ [.sh (.tuple [.str p.1, .int ((q.2 : Int) + (p.2 : Int))])]) = some (mid.map rD ++ [.tuple [.str p.1, .int ((q.2 : Int) + (p.2 : Int))]]) := datas_two (mid.map rD) [_]
  simp only [List.cons_append] at e4
  have hz : ((mid.map rD ++ [PyData.tuple [.str p.1, .int ((q.2 : Int) + (p.2 : Int))]]).length ≤ 16777216) := by simp; omega
  simp only [m_endless_runs, cSeq, cSkip, cAsg, cRet, cExpr, cIfS, cFor, cPar, cAug, cSetIx, cBinE, cBinV, cCall1, cCallN, cCall, cIt, cRangeC1, cRangeC2, cEnum, cZip, cTup, cLst, cNil, cCons, cConsR, cStar, cD, cVar, cVarV, vE, cT, cAnd, cOr, cNot, cAndV, cOrV, cNotV, cIf, cChain, cSlE2, cSlV2, bnd, cRev2, cNeg, cBits, cMeth, gNm, gTp, gsCons, gsNil, setMany, datAt, SV.dat, SV.settle, datas, fnsOf, cTupF, cFn, okA, tyD, bnd_ok, bnd_exc, opt_some, quiet_ok, shs_cons, shs_nil, itemsOf, Option.map_some, Option.bind_some, Option.map_none, Option.bind_none, padS, List.map_cons, List.map_nil, List.length_cons, List.length_nil, Nat.reduceAdd, Nat.reduceSub, List.replicate_succ, List.replicate_zero, List.cons_append, List.nil_append, List.getElem?_cons_zero, List.getElem?_cons_succ, List.set_cons_zero, List.set_cons_succ, if_true, if_false, Bool.false_eq_true, dGt, dLt, dLe2, dGe2, dOrd, dOrdI, dAddI, dSub, decide_eq_true_eq, Bool.not_eq_true', decide_eq_false_iff_not, sizeLine_eq, Nat.reduceLeDiff, Nat.zero_le, Nat.reduceLT, Nat.reducePow, beq_self_eq_true, id_eq, e3, e4, rD, e5, e6, e7, add_int, e8, hz]
  have : wD (mid ++ [(p.1, q.2 + p.2)]) = .tuple (mid.map rD ++ [.tuple [.str p.1, .int ((q.2 : Int) + (p.2 : Int))]]) := by simp [wD, rD]
  rw [this]
  exact ⟨_, rfl⟩
end Law
end Pw
set_option Elab.async false
set_option linter.all false
set_option maxRecDepth 100000
set_option exponentiation.threshold 10000
namespace Pw
namespace Law
open PySem PySem.Spec PyProof.Rows L2 Pw.Wd
/-! ### run_at -/
theorem wd_at {w : Wr} {k : Nat} (h : k < w.length) : dIx (wD w) (.int (k : Int)) = some (.sh (rD w[k])) := by
  unfold wD
  refine ix_t ?_
  rw [atI_nat (by simpa using h)]
  simp
theorem wd_ati {w : Wr} {i : Int} {k : Nat} (hi : i = (k : Int)) (h : k < w.length) : dIx (wD w) (.int i) = some (.sh (rD w[k])) := by
  subst hi
  exact wd_at h
theorem len_w (w : Wr) : dLen (wD w) = some (.sh (.int (w.length : Int))) := by
  unfold wD
  rw [len_t, List.length_map]
/-- the runs of a word without end: those ahead, those again and again -/
def runAt (ahead late : Wr) (h : late ≠ []) (k : Nat) : Str × Nat := if h2 : k < ahead.length then ahead[k] else cyc late h (k - ahead.length)
theorem run_at_ok {ahead late : Wr} (h : late ≠ []) (hl : late.length ≤ 10000) (k : Nat) : Rets F_run_at [.sh (wD ahead), .sh (wD late), .sh (.int (k : Int))] (.sh (rD (runAt ahead late h k))) := rets_of fun src => by
  have hp := List.length_pos_iff.mpr h
  unfold runAt
  by_cases hk : k < ahead.length
  · have e1 : ((k : Int) < (ahead.length : Int)) := by omega
    simp only [m_run_at, cSeq, cSkip, cAsg, cRet, cExpr, cIfS, cFor, cPar, cAug, cSetIx, cBinE, cBinV, cCall1, cCallN, cCall, cIt, cRangeC1, cRangeC2, cEnum, cZip, cTup, cLst, cNil, cCons, cConsR, cStar, cD, cVar, cVarV, vE, cT, cAnd, cOr, cNot, cAndV, cOrV, cNotV, cIf, cChain, cSlE2, cSlV2, bnd, cRev2, cNeg, cBits, cMeth, gNm, gTp, gsCons, gsNil, setMany, datAt, SV.dat, SV.settle, datas, fnsOf, cTupF, cFn, okA, tyD, bnd_ok, bnd_exc, opt_some, quiet_ok, shs_cons, shs_nil, itemsOf, Option.map_some, Option.bind_some, Option.map_none, Option.bind_none, padS, List.map_cons, List.map_nil, List.length_cons, List.length_nil, Nat.reduceAdd, Nat.reduceSub, List.replicate_succ, List.replicate_zero, List.cons_append, List.nil_append, List.getElem?_cons_zero, List.getElem?_cons_succ, List.set_cons_zero, List.set_cons_succ, if_true, if_false, Bool.false_eq_true, dGt, dLt, dLe2, dGe2, dOrd, dOrdI, dAddI, dSub, decide_eq_true_eq, Bool.not_eq_true', decide_eq_false_iff_not, sizeLine_eq, Nat.reduceLeDiff, Nat.zero_le, Nat.reduceLT, Nat.reducePow, beq_self_eq_true, id_eq, len_w, e1, decide_true, wd_at hk, hk, dite_true]
    exact ⟨_, rfl⟩
  · have e1 : ¬ ((k : Int) < (ahead.length : Int)) := by omega
    have hp2 : (0 : Int) < (late.length : Int) := by omega
    have e2 : dIx (wD late) (.int (((k : Int) - (ahead.length : Int)) % (late.length : Int))) = some (.sh (rD (cyc late h (k - ahead.length)))) := by
      refine wd_ati (k := (k - ahead.length) % late.length) ?_ (Nat.mod_lt _ hp)
      rw [Int.natCast_emod]
      congr 1
      omega
    simp only [m_run_at, cSeq, cSkip, cAsg, cRet, cExpr, cIfS, cFor, cPar, cAug, cSetIx, cBinE, cBinV, cCall1, cCallN, cCall, cIt, cRangeC1, cRangeC2, cEnum, cZip, cTup, cLst, cNil, cCons, cConsR, cStar, cD, cVar, cVarV, vE, cT, cAnd, cOr, cNot, cAndV, cOrV, cNotV, cIf, cChain, cSlE2, cSlV2, bnd, cRev2, cNeg, cBits, cMeth, gNm, gTp, gsCons, gsNil, setMany, datAt, SV.dat, SV.settle, datas, fnsOf, cTupF, cFn, okA, tyD, bnd_ok, bnd_exc, opt_some, quiet_ok, shs_cons, shs_nil, itemsOf, Option.map_some, Option.bind_some, Option.map_none, Option.bind_none, padS, List.map_cons, List.map_nil, List.length_cons, List.length_nil, Nat.reduceAdd, Nat.reduceSub, List.replicate_succ, List.replicate_zero, List.cons_append, List.nil_append, List.getElem?_cons_zero, List.getElem?_cons_succ, List.set_cons_zero, List.set_cons_succ, if_true, if_false, Bool.false_eq_true, dGt, dLt, dLe2, dGe2, dOrd, dOrdI, dAddI, dSub, decide_eq_true_eq, Bool.not_eq_true', decide_eq_false_iff_not, sizeLine_eq, Nat.reduceLeDiff, Nat.zero_le, Nat.reduceLT, Nat.reducePow, beq_self_eq_true, id_eq, len_w, e1, decide_false, modI hp2, e2, hk, dite_false]
    exact ⟨_, rfl⟩
/-! ### parted_constant, parted_by_one -/
def partD : Option (Nat × Str × Str) → D
  | none => .none
  | some (i, a, b) => .tuple [.int (i : Int), .str a, .str b]
def pc (w : Wr) (a : Str) : Option (Nat × Str) := match w with
  | [] => none
  | p :: r => if p.1 = a then match r with
    | [] => none
    | q :: _ => some (p.2, q.1)
    else some (0, p.1)
def pcD : Option (Nat × Str) → D
  | none => .none
  | some (i, a) => .tuple [.int (i : Int), .str a]
theorem pc_ok {w : Wr} (h : w ≠ []) (a : Str) : Rets F_parted_constant [.sh (wD w), .sh (.str a)] (.sh (pcD (pc w a))) := rets_of fun src => by
  cases w with
  | nil => exact absurd rfl h
  | cons p r =>
    have e0 := wd_first p r
    by_cases z : p.1 = a
    · subst z
      cases r with
      | nil =>
        have e2 := len_w [p]
        have e3 : pc [p] p.1 = none := by simp [pc]
        rw [e3]
        simp only [m_parted_constant, cSeq, cSkip, cAsg, cRet, cExpr, cIfS, cFor, cPar, cAug, cSetIx, cBinE, cBinV, cCall1, cCallN, cCall, cIt, cRangeC1, cRangeC2, cEnum, cZip, cTup, cLst, cNil, cCons, cConsR, cStar, cD, cVar, cVarV, vE, cT, cAnd, cOr, cNot, cAndV, cOrV, cNotV, cIf, cChain, cSlE2, cSlV2, bnd, cRev2, cNeg, cBits, cMeth, gNm, gTp, gsCons, gsNil, setMany, datAt, SV.dat, SV.settle, datas, fnsOf, cTupF, cFn, okA, tyD, bnd_ok, bnd_exc, opt_some, quiet_ok, shs_cons, shs_nil, itemsOf, Option.map_some, Option.bind_some, Option.map_none, Option.bind_none, padS, List.map_cons, List.map_nil, List.length_cons, List.length_nil, Nat.reduceAdd, Nat.reduceSub, List.replicate_succ, List.replicate_zero, List.cons_append, List.nil_append, List.getElem?_cons_zero, List.getElem?_cons_succ, List.set_cons_zero, List.set_cons_succ, if_true, if_false, Bool.false_eq_true, dGt, dLt, dLe2, dGe2, dOrd, dOrdI, dAddI, dSub, decide_eq_true_eq, Bool.not_eq_true', decide_eq_false_iff_not, sizeLine_eq, Nat.reduceLeDiff, Nat.zero_le, Nat.reduceLT, Nat.reducePow, beq_self_eq_true, id_eq, e0, rD_fst, dNe_self_str, e2, pcD]
        exact ⟨_, rfl⟩
      | cons q r =>
        have e2 := len_w (p :: q :: r)
        have e3 : dIx (wD (p :: q :: r)) (.int 1) = some (.sh (rD q)) := wd_at (k := 1) (by simp)
        have e4 : (1 : Int) < ((p :: q :: r).length : Int) := by simp; omega
        have e5 : pc (p :: q :: r) p.1 = some (p.2, q.1) := by simp [pc]
        rw [e5]
        generalize (p :: q :: r).length = n at e2 e4
        simp only [m_parted_constant, cSeq, cSkip, cAsg, cRet, cExpr, cIfS, cFor, cPar, cAug, cSetIx, cBinE, cBinV, cCall1, cCallN, cCall, cIt, cRangeC1, cRangeC2, cEnum, cZip, cTup, cLst, cNil, cCons, cConsR, cStar, cD, cVar, cVarV, vE, cT, cAnd, cOr, cNot, cAndV, cOrV, cNotV, cIf, cChain, cSlE2, cSlV2, bnd, cRev2, cNeg, cBits, cMeth, gNm, gTp, gsCons, gsNil, setMany, datAt, SV.dat, SV.settle, datas, fnsOf, cTupF, cFn, okA, tyD, bnd_ok, bnd_exc, opt_some, quiet_ok, shs_cons, shs_nil, itemsOf, Option.map_some, Option.bind_some, Option.map_none, Option.bind_none, padS, List.map_cons, List.map_nil, List.length_cons, List.length_nil, Nat.reduceAdd, Nat.reduceSub, List.replicate_succ, List.replicate_zero, List.cons_append, List.nil_append, List.getElem?_cons_zero, List.getElem?_cons_succ, List.set_cons_zero, List.set_cons_succ, if_true, if_false, Bool.false_eq_true, dGt, dLt, dLe2, dGe2, dOrd, dOrdI, dAddI, dSub, decide_eq_true_eq, Bool.not_eq_true', decide_eq_false_iff_not, sizeLine_eq, Nat.reduceLeDiff, Nat.zero_le, Nat.reduceLT, Nat.reducePow, beq_self_eq_true, id_eq, e0, rD_fst, rD_snd, dNe_self_str, e2, e4, e3, decide_true, pcD]
        exact ⟨_, rfl⟩
    · have e1 : dNe (.str p.1) (.str a) = some (.sh (.bool true)) := by rw [dNe_str, decide_eq_false z]; rfl
      have e5 : pc (p :: r) a = some (0, p.1) := by simp [pc, z]
      rw [e5]
      simp only [m_parted_constant, cSeq, cSkip, cAsg, cRet, cExpr, cIfS, cFor, cPar, cAug, cSetIx, cBinE, cBinV, cCall1, cCallN, cCall, cIt, cRangeC1, cRangeC2, cEnum, cZip, cTup, cLst, cNil, cCons, cConsR, cStar, cD, cVar, cVarV, vE, cT, cAnd, cOr, cNot, cAndV, cOrV, cNotV, cIf, cChain, cSlE2, cSlV2, bnd, cRev2, cNeg, cBits, cMeth, gNm, gTp, gsCons, gsNil, setMany, datAt, SV.dat, SV.settle, datas, fnsOf, cTupF, cFn, okA, tyD, bnd_ok, bnd_exc, opt_some, quiet_ok, shs_cons, shs_nil, itemsOf, Option.map_some, Option.bind_some, Option.map_none, Option.bind_none, padS, List.map_cons, List.map_nil, List.length_cons, List.length_nil, Nat.reduceAdd, Nat.reduceSub, List.replicate_succ, List.replicate_zero, List.cons_append, List.nil_append, List.getElem?_cons_zero, List.getElem?_cons_succ, List.set_cons_zero, List.set_cons_succ, if_true, if_false, Bool.false_eq_true, dGt, dLt, dLe2, dGe2, dOrd, dOrdI, dAddI, dSub, decide_eq_true_eq, Bool.not_eq_true', decide_eq_false_iff_not, sizeLine_eq, Nat.reduceLeDiff, Nat.zero_le, Nat.reduceLT, Nat.reducePow, beq_self_eq_true, id_eq, e0, rD_fst, e1, pcD]
      exact ⟨_, rfl⟩
def partR (f g : Nat → Option Str) : Option (Nat × Str × Str) → Prop
  | none => ∀ i, f i = g i
  | some (i, a, b) => FD f g i a b
theorem om_head {p : Str × Nat} {r : Wr} {j : Nat} (hj : j < p.2) : om (exp (p :: r)) j = some p.1 := by
  have hl : j < (exp (p :: r)).length := by rw [len_exp, tot_cons]; omega
  rw [om_lt hl, exp_cons, List.getElem?_append_left (by simpa using hj)]
  simp [hj]
theorem om_one {p : Str × Nat} (hp : 0 < p.2) (j : Nat) : om (exp [p]) j = some p.1 := by
  have hl : (exp [p]).length = p.2 := by rw [len_exp]; simp [tot]
  unfold om
  rw [hl]
  have := om_head (p := p) (r := []) (Nat.mod_lt j hp)
  unfold om at this
  rwa [hl, Nat.mod_mod] at this
theorem pc_spec {w : Wr} (hn : Nrm w) (h : w ≠ []) (a : Str) : match pc w a with
    | none => ∀ i, om (exp w) i = some a
    | some (i, b) => (∀ j, j < i → om (exp w) j = some a) ∧ om (exp w) i = some b ∧ b ≠ a := by
  cases w with
  | nil => exact absurd rfl h
  | cons p r =>
    have hp := hn.pos p (by simp)
    by_cases z : p.1 = a
    · cases r with
      | nil =>
        rw [show pc [p] a = none by simp [pc, z]]
        exact fun i => by rw [om_one hp, z]
      | cons q r =>
        rw [show pc (p :: q :: r) a = some (p.2, q.1) by simp [pc, z]]
        have hq := hn.pos q (by simp)
        refine ⟨fun j hj => by rw [om_head hj, z], ?_, fun y => hn.adj [] r p q rfl (by rw [z]; exact y.symm)⟩
        have hl : p.2 < (exp (p :: q :: r)).length := by rw [len_exp, tot_cons, tot_cons]; omega
        rw [om_lt hl, exp_cons, List.getElem?_append_right (by simp), exp_cons, List.getElem?_append_left (by simpa using hq)]
        simp [hq]
    · rw [show pc (p :: r) a = some (0, p.1) by simp [pc, z]]
      exact ⟨fun j hj => absurd hj (Nat.not_lt_zero _), om_head hp, z⟩
theorem by_one_ok {u v : Wr} (hu : Nrm u) (hv : Nrm v) (h : (∃ p, u = [p]) ∨ ∃ q, v = [q]) (hu0 : u ≠ []) (hv0 : v ≠ []) : ∃ r, partR (om (exp u)) (om (exp v)) r ∧ Rets F_parted_by_one [.sh (wD u), .sh (wD v)] (.sh (partD r)) := by
  by_cases h1 : ∃ q, v = [q]
  · obtain ⟨q, rfl⟩ := h1
    have hq := hv.pos q (by simp)
    have hs := pc_spec hu hu0 q.1
    have e0 := (pc_ok hu0 q.1).app (n := 2)
    have e1 := wd_first q []
    have e2 := len_w [q]
    cases e : pc u q.1 with
    | none =>
      rw [e] at hs e0
      refine ⟨none, fun i => by rw [hs i, om_one hq], rets_of fun src => ?_⟩
      simp only [App, pcD] at e0
      simp only [m_parted_by_one, cSeq, cSkip, cAsg, cRet, cExpr, cIfS, cFor, cPar, cAug, cSetIx, cBinE, cBinV, cCall1, cCallN, cCall, cIt, cRangeC1, cRangeC2, cEnum, cZip, cTup, cLst, cNil, cCons, cConsR, cStar, cD, cVar, cVarV, vE, cT, cAnd, cOr, cNot, cAndV, cOrV, cNotV, cIf, cChain, cSlE2, cSlV2, bnd, cRev2, cNeg, cBits, cMeth, gNm, gTp, gsCons, gsNil, setMany, datAt, SV.dat, SV.settle, datas, fnsOf, cTupF, cFn, okA, tyD, bnd_ok, bnd_exc, opt_some, quiet_ok, shs_cons, shs_nil, itemsOf, Option.map_some, Option.bind_some, Option.map_none, Option.bind_none, padS, List.map_cons, List.map_nil, List.length_cons, List.length_nil, Nat.reduceAdd, Nat.reduceSub, List.replicate_succ, List.replicate_zero, List.cons_append, List.nil_append, List.getElem?_cons_zero, List.getElem?_cons_succ, List.set_cons_zero, List.set_cons_succ, if_true, if_false, Bool.false_eq_true, dGt, dLt, dLe2, dGe2, dOrd, dOrdI, dAddI, dSub, decide_eq_true_eq, Bool.not_eq_true', decide_eq_false_iff_not, sizeLine_eq, Nat.reduceLeDiff, Nat.zero_le, Nat.reduceLT, Nat.reducePow, beq_self_eq_true, id_eq, e2, dEq_int, show decide (((0 + 1 : Nat) : Int) = 1) = true from rfl, e1, rD_fst, e0, dIs, isNone, Bool.false_xor, Nat.zero_add, Int.natCast_one, decide_true]
      exact ⟨_, rfl⟩
    | some x =>
      obtain ⟨i, b⟩ := x
      rw [e] at hs e0
      obtain ⟨s1, s2, s3⟩ := hs
      refine ⟨some (i, b, q.1), ⟨fun j hj => by rw [s1 j hj, om_one hq], s2, om_one hq i, s3⟩, rets_of fun src => ?_⟩
      simp only [App, pcD] at e0
      simp only [m_parted_by_one, cSeq, cSkip, cAsg, cRet, cExpr, cIfS, cFor, cPar, cAug, cSetIx, cBinE, cBinV, cCall1, cCallN, cCall, cIt, cRangeC1, cRangeC2, cEnum, cZip, cTup, cLst, cNil, cCons, cConsR, cStar, cD, cVar, cVarV, vE, cT, cAnd, cOr, cNot, cAndV, cOrV, cNotV, cIf, cChain, cSlE2, cSlV2, bnd, cRev2, cNeg, cBits, cMeth, gNm, gTp, gsCons, gsNil, setMany, datAt, SV.dat, SV.settle, datas, fnsOf, cTupF, cFn, okA, tyD, bnd_ok, bnd_exc, opt_some, quiet_ok, shs_cons, shs_nil, itemsOf, Option.map_some, Option.bind_some, Option.map_none, Option.bind_none, padS, List.map_cons, List.map_nil, List.length_cons, List.length_nil, Nat.reduceAdd, Nat.reduceSub, List.replicate_succ, List.replicate_zero, List.cons_append, List.nil_append, List.getElem?_cons_zero, List.getElem?_cons_succ, List.set_cons_zero, List.set_cons_succ, if_true, if_false, Bool.false_eq_true, dGt, dLt, dLe2, dGe2, dOrd, dOrdI, dAddI, dSub, decide_eq_true_eq, Bool.not_eq_true', decide_eq_false_iff_not, sizeLine_eq, Nat.reduceLeDiff, Nat.zero_le, Nat.reduceLT, Nat.reducePow, beq_self_eq_true, id_eq, e2, dEq_int, show decide (((0 + 1 : Nat) : Int) = 1) = true from rfl, e1, rD_fst, e0, dIs, isNone, Bool.false_xor, Nat.zero_add, Int.natCast_one, decide_true]
      exact ⟨_, rfl⟩
  · have h2 : ∃ p, u = [p] := h.elim id fun z => absurd z h1
    obtain ⟨p, rfl⟩ := h2
    have hp := hu.pos p (by simp)
    have hs := pc_spec hv hv0 p.1
    have e0 := (pc_ok hv0 p.1).app (n := 2)
    have e1 := wd_first p []
    have e2 := len_w v
    have e3 : decide ((v.length : Int) = 1) = false := decide_eq_false fun z => h1 (by
      have : v.length = 1 := by omega
      exact List.length_eq_one_iff.mp this)
    cases e : pc v p.1 with
    | none =>
      exfalso
      unfold pc at e
      cases v with
      | nil => exact hv0 rfl
      | cons q r =>
        dsimp only at e
        split at e
        · cases r with
          | nil => exact h1 ⟨q, rfl⟩
          | cons q' r => cases e
        · cases e
    | some x =>
      obtain ⟨i, b⟩ := x
      rw [e] at hs e0
      obtain ⟨s1, s2, s3⟩ := hs
      refine ⟨some (i, p.1, b), ⟨fun j hj => by rw [s1 j hj, om_one hp], om_one hp i, s2, Ne.symm s3⟩, rets_of fun src => ?_⟩
      simp only [App, pcD] at e0
      simp only [m_parted_by_one, cSeq, cSkip, cAsg, cRet, cExpr, cIfS, cFor, cPar, cAug, cSetIx, cBinE, cBinV, cCall1, cCallN, cCall, cIt, cRangeC1, cRangeC2, cEnum, cZip, cTup, cLst, cNil, cCons, cConsR, cStar, cD, cVar, cVarV, vE, cT, cAnd, cOr, cNot, cAndV, cOrV, cNotV, cIf, cChain, cSlE2, cSlV2, bnd, cRev2, cNeg, cBits, cMeth, gNm, gTp, gsCons, gsNil, setMany, datAt, SV.dat, SV.settle, datas, fnsOf, cTupF, cFn, okA, tyD, bnd_ok, bnd_exc, opt_some, quiet_ok, shs_cons, shs_nil, itemsOf, Option.map_some, Option.bind_some, Option.map_none, Option.bind_none, padS, List.map_cons, List.map_nil, List.length_cons, List.length_nil, Nat.reduceAdd, Nat.reduceSub, List.replicate_succ, List.replicate_zero, List.cons_append, List.nil_append, List.getElem?_cons_zero, List.getElem?_cons_succ, List.set_cons_zero, List.set_cons_succ, if_true, if_false, Bool.false_eq_true, dGt, dLt, dLe2, dGe2, dOrd, dOrdI, dAddI, dSub, decide_eq_true_eq, Bool.not_eq_true', decide_eq_false_iff_not, sizeLine_eq, Nat.reduceLeDiff, Nat.zero_le, Nat.reduceLT, Nat.reducePow, beq_self_eq_true, id_eq, e2, dEq_int, e3, e1, rD_fst, e0]
      exact ⟨_, rfl⟩
end Law
end Pw
set_option Elab.async false
set_option linter.all false
set_option maxRecDepth 100000
set_option exponentiation.threshold 10000
namespace Pw
namespace Law
open PySem PySem.Spec PyProof.Rows L2 Pw.Wd
/-! ### endless_parted -/
structure Er (u ahead late : Wr) (h : late ≠ []) : Prop where
  rets : Rets F_endless_runs [.sh (wD u)] (.sh (.tuple [wD ahead, wD late]))
  dec : Dec (om (exp u)) (runAt ahead late h)
  pd : ∀ k, runAt ahead late h (k + 1 + late.length) = runAt ahead late h (k + 1)
  few : late.length ≤ u.length
theorem cyc_pd (w : Wr) (h : w ≠ []) (k : Nat) : cyc w h (k + w.length) = cyc w h k := by
  unfold cyc
  simp only [Nat.add_mod_right]
theorem er_ex {p q : Str × Nat} {mid : Wr} (hn : Nrm (p :: (mid ++ [q]))) (hl : mid.length ≤ 1000) : ∃ ahead late h, Er (p :: (mid ++ [q])) ahead late h := by
  by_cases e : p.1 = q.1
  · have hc := ringR_cyc hn
    rw [ringR_two, if_pos e] at hc
    have hp := hn.pos p (by simp)
    have hne : mid ++ [(p.1, q.2 + p.2)] ≠ [] := by simp
    have ex : exp (mid ++ [(p.1, q.2 + p.2)]) = rot p.2 (exp (p :: (mid ++ [q]))) := by
      rw [exp_app, exp_one, exp_cons, exp_app, exp_one]
      unfold rot
      rw [List.drop_left' (by simp), List.take_left' (by simp), ← e, List.append_assoc, List.replicate_append_replicate]
    have rs : ∀ k, runAt [p] (mid ++ [(p.1, q.2 + p.2)]) hne (k + 1) = cyc (mid ++ [(p.1, q.2 + p.2)]) hne k := fun k => by
      unfold runAt
      rw [dif_neg (by simp)]
      rfl
    refine ⟨[p], _, hne, er_one e hl, ?_, fun k => ?_, by simp⟩
    · refine (cyc_dec hc).cons (a := p.1) (m := p.2) hp (fun i hi => om_head hi) (fun i => ?_) ?_ (by simp [runAt]) rs
      · rw [ex, rot_om (by rw [len_exp, tot_cons]; omega)]
      · obtain ⟨b, m, rfl, hb⟩ := mid_ne hn e
        unfold cyc
        simp only [Nat.zero_mod]
        exact hb
    · rw [show k + 1 + (mid ++ [(p.1, q.2 + p.2)]).length = k + (mid ++ [(p.1, q.2 + p.2)]).length + 1 by omega, rs, rs, cyc_pd]
  · have hc : Cyc (p :: (mid ++ [q])) := ⟨hn, p, mid, q, rfl, e⟩
    have rs : runAt [] (p :: (mid ++ [q])) hc.ne = cyc (p :: (mid ++ [q])) hc.ne := funext fun k => by simp [runAt]
    exact ⟨[], _, hc.ne, er_two e, by rw [rs]; exact cyc_dec hc, fun k => by rw [rs, cyc_pd], Nat.le_refl _⟩
abbrev epS (o0 o1 : Option SV) (P : Nat) (o3 : Option SV) (A L B M : D) (o8 o9 o10 o11 : Option SV) (src : Option Src) : S :=
  ⟨[o0, o1, some (.sh (.int (P : Int))), o3, some (.sh A), some (.sh L), some (.sh B), some (.sh M), o8, o9, o10, o11], src⟩
section
variable {A L B M : D} {r s : Nat → Str × Nat} {o0 o1 o8 o9 o10 o11 : Option SV} {src : Option Src}
theorem ep_ne (hr : ∀ k : Nat, App 3 F_run_at [.sh A, .sh L, .sh (.int (k : Int))] (.sh (rD (r k)))) (hs : ∀ k : Nat, App 3 F_run_at [.sh B, .sh M, .sh (.int (k : Int))] (.sh (rD (s k)))) (k P : Nat) (h1 : (r k).1 ≠ (s k).1) : ∃ sl, b_endless_parted_0 (epS o0 o1 P (some (.sh (.int (k : Int)))) A L B M o8 o9 o10 o11 src) = .ok (.ret (.sh (partD (some (P, (r k).1, (s k).1))))) ⟨sl, src⟩ := by
  have r0 := hr k
  have s0 := hs k
  have r1 := hr (k + 1)
  have s1 := hs (k + 1)
  simp only [App, Int.natCast_add, Int.natCast_one] at r0 s0 r1 s1
  have e1 : dNe (.str (r k).1) (.str (s k).1) = some (.sh (.bool true)) := by rw [dNe_str, decide_eq_false h1]; rfl
  simp only [b_endless_parted_0, cSeq, cSkip, cAsg, cRet, cExpr, cIfS, cFor, cPar, cAug, cSetIx, cBinE, cBinV, cCall1, cCallN, cCall, cIt, cRangeC1, cRangeC2, cEnum, cZip, cTup, cLst, cNil, cCons, cConsR, cStar, cD, cVar, cVarV, vE, cT, cAnd, cOr, cNot, cAndV, cOrV, cNotV, cIf, cChain, cSlE2, cSlV2, bnd, cRev2, cNeg, cBits, cMeth, gNm, gTp, gsCons, gsNil, setMany, datAt, SV.dat, SV.settle, datas, fnsOf, cTupF, cFn, okA, tyD, bnd_ok, bnd_exc, opt_some, quiet_ok, shs_cons, shs_nil, itemsOf, Option.map_some, Option.bind_some, Option.map_none, Option.bind_none, padS, List.map_cons, List.map_nil, List.length_cons, List.length_nil, Nat.reduceAdd, Nat.reduceSub, List.replicate_succ, List.replicate_zero, List.cons_append, List.nil_append, List.getElem?_cons_zero, List.getElem?_cons_succ, List.set_cons_zero, List.set_cons_succ, if_true, if_false, Bool.false_eq_true, dGt, dLt, dLe2, dGe2, dOrd, dOrdI, dAddI, dSub, decide_eq_true_eq, Bool.not_eq_true', decide_eq_false_iff_not, sizeLine_eq, Nat.reduceLeDiff, Nat.zero_le, Nat.reduceLT, Nat.reducePow, beq_self_eq_true, id_eq, r0, s0, rD, e1, partD]
  exact ⟨_, rfl⟩
theorem ep_lt (hr : ∀ k : Nat, App 3 F_run_at [.sh A, .sh L, .sh (.int (k : Int))] (.sh (rD (r k)))) (hs : ∀ k : Nat, App 3 F_run_at [.sh B, .sh M, .sh (.int (k : Int))] (.sh (rD (s k)))) (k P : Nat) (h1 : (r k).1 = (s k).1) (h2 : (r k).2 < (s k).2) : ∃ sl, b_endless_parted_0 (epS o0 o1 P (some (.sh (.int (k : Int)))) A L B M o8 o9 o10 o11 src) = .ok (.ret (.sh (partD (some (P + (r k).2, (r (k + 1)).1, (s k).1))))) ⟨sl, src⟩ := by
  have r0 := hr k
  have s0 := hs k
  have r1 := hr (k + 1)
  have s1 := hs (k + 1)
  simp only [App, Int.natCast_add, Int.natCast_one] at r0 s0 r1 s1
  have e1 : dNe (.str (r k).1) (.str (s k).1) = some (.sh (.bool false)) := by rw [dNe_str, decide_eq_true h1]; rfl
  have c2 : ((r k).2 : Int) < ((s k).2 : Int) := by omega
  simp only [b_endless_parted_0, cSeq, cSkip, cAsg, cRet, cExpr, cIfS, cFor, cPar, cAug, cSetIx, cBinE, cBinV, cCall1, cCallN, cCall, cIt, cRangeC1, cRangeC2, cEnum, cZip, cTup, cLst, cNil, cCons, cConsR, cStar, cD, cVar, cVarV, vE, cT, cAnd, cOr, cNot, cAndV, cOrV, cNotV, cIf, cChain, cSlE2, cSlV2, bnd, cRev2, cNeg, cBits, cMeth, gNm, gTp, gsCons, gsNil, setMany, datAt, SV.dat, SV.settle, datas, fnsOf, cTupF, cFn, okA, tyD, bnd_ok, bnd_exc, opt_some, quiet_ok, shs_cons, shs_nil, itemsOf, Option.map_some, Option.bind_some, Option.map_none, Option.bind_none, padS, List.map_cons, List.map_nil, List.length_cons, List.length_nil, Nat.reduceAdd, Nat.reduceSub, List.replicate_succ, List.replicate_zero, List.cons_append, List.nil_append, List.getElem?_cons_zero, List.getElem?_cons_succ, List.set_cons_zero, List.set_cons_succ, if_true, if_false, Bool.false_eq_true, dGt, dLt, dLe2, dGe2, dOrd, dOrdI, dAddI, dSub, decide_eq_true_eq, Bool.not_eq_true', decide_eq_false_iff_not, sizeLine_eq, Nat.reduceLeDiff, Nat.zero_le, Nat.reduceLT, Nat.reducePow, beq_self_eq_true, id_eq, r0, s0, r1, s1, rD, e1, c2, decide_true, add_int, ix_t0, partD, Int.natCast_add]
  exact ⟨_, rfl⟩
theorem ep_gt (hr : ∀ k : Nat, App 3 F_run_at [.sh A, .sh L, .sh (.int (k : Int))] (.sh (rD (r k)))) (hs : ∀ k : Nat, App 3 F_run_at [.sh B, .sh M, .sh (.int (k : Int))] (.sh (rD (s k)))) (k P : Nat) (h1 : (r k).1 = (s k).1) (h3 : (s k).2 < (r k).2) : ∃ sl, b_endless_parted_0 (epS o0 o1 P (some (.sh (.int (k : Int)))) A L B M o8 o9 o10 o11 src) = .ok (.ret (.sh (partD (some (P + (s k).2, (r k).1, (s (k + 1)).1))))) ⟨sl, src⟩ := by
  have r0 := hr k
  have s0 := hs k
  have r1 := hr (k + 1)
  have s1 := hs (k + 1)
  simp only [App, Int.natCast_add, Int.natCast_one] at r0 s0 r1 s1
  have e1 : dNe (.str (r k).1) (.str (s k).1) = some (.sh (.bool false)) := by rw [dNe_str, decide_eq_true h1]; rfl
  have c2 : ¬ ((r k).2 : Int) < ((s k).2 : Int) := by omega
  have c3 : ((s k).2 : Int) < ((r k).2 : Int) := by omega
  simp only [b_endless_parted_0, cSeq, cSkip, cAsg, cRet, cExpr, cIfS, cFor, cPar, cAug, cSetIx, cBinE, cBinV, cCall1, cCallN, cCall, cIt, cRangeC1, cRangeC2, cEnum, cZip, cTup, cLst, cNil, cCons, cConsR, cStar, cD, cVar, cVarV, vE, cT, cAnd, cOr, cNot, cAndV, cOrV, cNotV, cIf, cChain, cSlE2, cSlV2, bnd, cRev2, cNeg, cBits, cMeth, gNm, gTp, gsCons, gsNil, setMany, datAt, SV.dat, SV.settle, datas, fnsOf, cTupF, cFn, okA, tyD, bnd_ok, bnd_exc, opt_some, quiet_ok, shs_cons, shs_nil, itemsOf, Option.map_some, Option.bind_some, Option.map_none, Option.bind_none, padS, List.map_cons, List.map_nil, List.length_cons, List.length_nil, Nat.reduceAdd, Nat.reduceSub, List.replicate_succ, List.replicate_zero, List.cons_append, List.nil_append, List.getElem?_cons_zero, List.getElem?_cons_succ, List.set_cons_zero, List.set_cons_succ, if_true, if_false, Bool.false_eq_true, dGt, dLt, dLe2, dGe2, dOrd, dOrdI, dAddI, dSub, decide_eq_true_eq, Bool.not_eq_true', decide_eq_false_iff_not, sizeLine_eq, Nat.reduceLeDiff, Nat.zero_le, Nat.reduceLT, Nat.reducePow, beq_self_eq_true, id_eq, r0, s0, r1, s1, rD, e1, c2, c3, decide_true, decide_false, add_int, ix_t0, partD, Int.natCast_add]
  exact ⟨_, rfl⟩
theorem ep_eq (hr : ∀ k : Nat, App 3 F_run_at [.sh A, .sh L, .sh (.int (k : Int))] (.sh (rD (r k)))) (hs : ∀ k : Nat, App 3 F_run_at [.sh B, .sh M, .sh (.int (k : Int))] (.sh (rD (s k)))) (k P : Nat) (h1 : (r k).1 = (s k).1) (h2 : ¬ (r k).2 < (s k).2) (h3 : ¬ (s k).2 < (r k).2) : b_endless_parted_0 (epS o0 o1 P (some (.sh (.int (k : Int)))) A L B M o8 o9 o10 o11 src) = .ok .nx (epS o0 o1 (P + (r k).2) (some (.sh (.int (k : Int)))) A L B M (some (.sh (.str (r k).1))) (some (.sh (.int ((r k).2 : Int)))) (some (.sh (.str (s k).1))) (some (.sh (.int ((s k).2 : Int)))) src) := by
  have r0 := hr k
  have s0 := hs k
  have r1 := hr (k + 1)
  have s1 := hs (k + 1)
  simp only [App, Int.natCast_add, Int.natCast_one] at r0 s0 r1 s1
  have e1 : dNe (.str (r k).1) (.str (s k).1) = some (.sh (.bool false)) := by rw [dNe_str, decide_eq_true h1]; rfl
  have c2 : ¬ ((r k).2 : Int) < ((s k).2 : Int) := by omega
  have c3 : ¬ ((s k).2 : Int) < ((r k).2 : Int) := by omega
  simp only [b_endless_parted_0, cSeq, cSkip, cAsg, cRet, cExpr, cIfS, cFor, cPar, cAug, cSetIx, cBinE, cBinV, cCall1, cCallN, cCall, cIt, cRangeC1, cRangeC2, cEnum, cZip, cTup, cLst, cNil, cCons, cConsR, cStar, cD, cVar, cVarV, vE, cT, cAnd, cOr, cNot, cAndV, cOrV, cNotV, cIf, cChain, cSlE2, cSlV2, bnd, cRev2, cNeg, cBits, cMeth, gNm, gTp, gsCons, gsNil, setMany, datAt, SV.dat, SV.settle, datas, fnsOf, cTupF, cFn, okA, tyD, bnd_ok, bnd_exc, opt_some, quiet_ok, shs_cons, shs_nil, itemsOf, Option.map_some, Option.bind_some, Option.map_none, Option.bind_none, padS, List.map_cons, List.map_nil, List.length_cons, List.length_nil, Nat.reduceAdd, Nat.reduceSub, List.replicate_succ, List.replicate_zero, List.cons_append, List.nil_append, List.getElem?_cons_zero, List.getElem?_cons_succ, List.set_cons_zero, List.set_cons_succ, if_true, if_false, Bool.false_eq_true, dGt, dLt, dLe2, dGe2, dOrd, dOrdI, dAddI, dSub, decide_eq_true_eq, Bool.not_eq_true', decide_eq_false_iff_not, sizeLine_eq, Nat.reduceLeDiff, Nat.zero_le, Nat.reduceLT, Nat.reducePow, beq_self_eq_true, id_eq, r0, s0, rD, e1, c2, c3, decide_false, add_int, epS, Int.natCast_add]
theorem ep_loop (hr : ∀ k : Nat, App 3 F_run_at [.sh A, .sh L, .sh (.int (k : Int))] (.sh (rD (r k)))) (hs : ∀ k : Nat, App 3 F_run_at [.sh B, .sh M, .sh (.int (k : Int))] (.sh (rD (s k)))) :
    ∀ (n k P : Nat) (o3 o8 o9 o10 o11 : Option SV), ∃ sl, forL (gNm 3) b_endless_parted_0 (shs (rg k n)) (epS o0 o1 P o3 A L B M o8 o9 o10 o11 src) = match ploop r s n k P with
      | none => .ok .nx ⟨sl, src⟩
      | some x => .ok (.ret (.sh (partD (some x)))) ⟨sl, src⟩
  | 0, k, P, o3, o8, o9, o10, o11 => ⟨_, rfl⟩
  | n + 1, k, P, o3, o8, o9, o10, o11 => by
    rw [rg_succ, shs_cons]
    unfold ploop
    by_cases h1 : (r k).1 ≠ (s k).1
    · rw [if_pos h1]
      obtain ⟨sl, e⟩ := ep_ne (o0 := o0) (o1 := o1) (o8 := o8) (o9 := o9) (o10 := o10) (o11 := o11) (src := src) hr hs k P h1
      exact ⟨sl, forL_ret rfl e⟩
    · rw [if_neg h1]
      have h1 : (r k).1 = (s k).1 := Decidable.not_not.mp h1
      by_cases h2 : (r k).2 < (s k).2
      · rw [if_pos h2]
        obtain ⟨sl, e⟩ := ep_lt (o0 := o0) (o1 := o1) (o8 := o8) (o9 := o9) (o10 := o10) (o11 := o11) (src := src) hr hs k P h1 h2
        exact ⟨sl, forL_ret rfl e⟩
      · rw [if_neg h2]
        by_cases h3 : (s k).2 < (r k).2
        · rw [if_pos h3]
          obtain ⟨sl, e⟩ := ep_gt (o0 := o0) (o1 := o1) (o8 := o8) (o9 := o9) (o10 := o10) (o11 := o11) (src := src) hr hs k P h1 h3
          exact ⟨sl, forL_ret rfl e⟩
        · rw [if_neg h3]
          have e := ep_eq (o0 := o0) (o1 := o1) (o8 := o8) (o9 := o9) (o10 := o10) (o11 := o11) (src := src) hr hs k P h1 h2 h3
          obtain ⟨sl', e'⟩ := ep_loop hr hs n (k + 1) (P + (r k).2) (some (.sh (.int (k : Int)))) (some (.sh (.str (r k).1))) (some (.sh (.int ((r k).2 : Int)))) (some (.sh (.str (s k).1))) (some (.sh (.int ((s k).2 : Int))))
          exact ⟨sl', (forL_step rfl e).trans e'⟩
end
theorem parted_two {p q p' q' : Str × Nat} {mid mid' : Wr} (hu : Nrm (p :: (mid ++ [q]))) (hv : Nrm (p' :: (mid' ++ [q']))) (hl : mid.length ≤ 900) (hl' : mid'.length ≤ 900) : ∃ r, partR (om (exp (p :: (mid ++ [q])))) (om (exp (p' :: (mid' ++ [q'])))) r ∧ Rets F_endless_parted [.sh (wD (p :: (mid ++ [q]))), .sh (wD (p' :: (mid' ++ [q'])))] (.sh (partD r)) := by
  obtain ⟨a, l, h, E⟩ := er_ex hu (by omega)
  obtain ⟨b, m, h', E'⟩ := er_ex hv (by omega)
  have lu : (p :: (mid ++ [q])).length = mid.length + 2 := by simp
  have lv : (p' :: (mid' ++ [q'])).length = mid'.length + 2 := by simp
  generalize p :: (mid ++ [q]) = u at hu E lu
  generalize p' :: (mid' ++ [q']) = v at hv E' lv
  have f1 := E.few
  have f2 := E'.few
  have hsp := ploop_spec E.dec E'.dec (l.length + m.length + 1) 0 (fun j hj => absurd hj (Nat.not_lt_zero _))
  have e1 := E.rets.app (n := 1)
  have e2 := E'.rets.app (n := 1)
  have l1 := len_w u
  have l2 := len_w v
  have d1 : decide ((u.length : Int) = 1) = false := decide_eq_false (by omega)
  have d2 : decide ((v.length : Int) = 1) = false := decide_eq_false (by omega)
  have hN : ((l.length : Int) + (m.length : Int) + 1) = ((l.length + m.length + 1 : Nat) : Int) := by simp
  have fin : ∀ src, ∃ sl, m_endless_parted ⟨padS 12 [.sh (wD u), .sh (wD v)], src⟩ = .ok (.ret (.sh (partD (ploop (runAt a l h) (runAt b m h') (l.length + m.length + 1) 0 0)))) ⟨sl, src⟩ := fun src => by
    obtain ⟨sl, e⟩ := ep_loop (o0 := some (.sh (wD u))) (o1 := some (.sh (wD v))) (src := src) (r := runAt a l h) (s := runAt b m h') (A := wD a) (L := wD l) (B := wD b) (M := wD m) (fun k => (run_at_ok h (by omega) k).app) (fun k => (run_at_ok h' (by omega) k).app) (l.length + m.length + 1) 0 0 none none none none none
    simp only [App] at e1 e2
    simp only [epS, Int.natCast_zero] at e
    simp only [m_endless_parted, cSeq, cSkip, cAsg, cRet, cExpr, cIfS, cFor, cPar, cAug, cSetIx, cBinE, cBinV, cCall1, cCallN, cCall, cIt, cRangeC1, cRangeC2, cEnum, cZip, cTup, cLst, cNil, cCons, cConsR, cStar, cD, cVar, cVarV, vE, cT, cAnd, cOr, cNot, cAndV, cOrV, cNotV, cIf, cChain, cSlE2, cSlV2, bnd, cRev2, cNeg, cBits, cMeth, gNm, gTp, gsCons, gsNil, setMany, datAt, SV.dat, SV.settle, datas, fnsOf, cTupF, cFn, okA, tyD, bnd_ok, bnd_exc, opt_some, quiet_ok, shs_cons, shs_nil, itemsOf, Option.map_some, Option.bind_some, Option.map_none, Option.bind_none, padS, List.map_cons, List.map_nil, List.length_cons, List.length_nil, Nat.reduceAdd, Nat.reduceSub, List.replicate_succ, List.replicate_zero, List.cons_append, List.nil_append, List.getElem?_cons_zero, List.getElem?_cons_succ, List.set_cons_zero, List.set_cons_succ, if_true, if_false, Bool.false_eq_true, dGt, dLt, dLe2, dGe2, dOrd, dOrdI, dAddI, dSub, decide_eq_true_eq, Bool.not_eq_true', decide_eq_false_iff_not, sizeLine_eq, Nat.reduceLeDiff, Nat.zero_le, Nat.reduceLT, Nat.reducePow, beq_self_eq_true, id_eq, l1, l2, dEq_int, d1, d2, e1, e2, len_w, add_int, hN, ifc_pos (show -(2 ^ 62 : Int) ≤ ((l.length + m.length + 1 : Nat) : Int) ∧ ((l.length + m.length + 1 : Nat) : Int) < 2 ^ 62 by omega), Int.toNat_natCast, rgD_zero, e]
    cases ploop (runAt a l h) (runAt b m h') (l.length + m.length + 1) 0 0 with
    | none => exact ⟨_, rfl⟩
    | some x => exact ⟨_, rfl⟩
  refine ⟨_, ?_, rets_of fin⟩
  show partR _ _ (ploop (runAt a l h) (runAt b m h') (l.length + m.length + 1) 0 0)
  have e0 : Ps (runAt a l h) 0 = 0 := rfl
  rw [e0] at hsp
  cases e : ploop (runAt a l h) (runAt b m h') (l.length + m.length + 1) 0 0 with
  | none =>
    rw [e] at hsp
    have hs : ∀ k, runAt a l h k = runAt b m h' k := by
      have h1 := fw (f := fun k => runAt a l h (k + 1)) (g := fun k => runAt b m h' (k + 1)) (List.length_pos_iff.mpr h) (List.length_pos_iff.mpr h') (fun k => by
        have := E.pd k
        rwa [show k + 1 + l.length = k + l.length + 1 by omega] at this) (fun k => by
        have := E'.pd k
        rwa [show k + 1 + m.length = k + m.length + 1 by omega] at this) fun i hi => hsp (i + 1) (by omega)
      intro k
      cases k with
      | zero => exact hsp 0 (by omega)
      | succ k => exact h1 k
    exact E.dec.same E'.dec hs
  | some x =>
    obtain ⟨i, c, d⟩ := x
    rw [e] at hsp
    exact hsp
/-- WHERE TWO ENDLESS WORDS PART -/
theorem parted_ok {u v : Wr} (hu : Nrm u) (hv : Nrm v) (hu0 : u ≠ []) (hv0 : v ≠ []) (hl : u.length ≤ 900) (hl' : v.length ≤ 900) : ∃ r, partR (om (exp u)) (om (exp v)) r ∧ Rets F_endless_parted [.sh (wD u), .sh (wD v)] (.sh (partD r)) := by
  have one : ((∃ p, u = [p]) ∨ ∃ q, v = [q]) → ∃ r, partR (om (exp u)) (om (exp v)) r ∧ Rets F_endless_parted [.sh (wD u), .sh (wD v)] (.sh (partD r)) := fun h => by
    obtain ⟨r, h1, h2⟩ := by_one_ok hu hv h hu0 hv0
    refine ⟨r, h1, rets_of fun src => ?_⟩
    have e := h2.app (n := 2)
    simp only [App] at e
    have l1 := len_w u
    have l2 := len_w v
    rcases h with ⟨p, hp⟩ | ⟨q, hq⟩
    · have d1 : decide ((u.length : Int) = 1) = true := decide_eq_true (by rw [hp]; rfl)
      simp only [m_endless_parted, cSeq, cSkip, cAsg, cRet, cExpr, cIfS, cFor, cPar, cAug, cSetIx, cBinE, cBinV, cCall1, cCallN, cCall, cIt, cRangeC1, cRangeC2, cEnum, cZip, cTup, cLst, cNil, cCons, cConsR, cStar, cD, cVar, cVarV, vE, cT, cAnd, cOr, cNot, cAndV, cOrV, cNotV, cIf, cChain, cSlE2, cSlV2, bnd, cRev2, cNeg, cBits, cMeth, gNm, gTp, gsCons, gsNil, setMany, datAt, SV.dat, SV.settle, datas, fnsOf, cTupF, cFn, okA, tyD, bnd_ok, bnd_exc, opt_some, quiet_ok, shs_cons, shs_nil, itemsOf, Option.map_some, Option.bind_some, Option.map_none, Option.bind_none, padS, List.map_cons, List.map_nil, List.length_cons, List.length_nil, Nat.reduceAdd, Nat.reduceSub, List.replicate_succ, List.replicate_zero, List.cons_append, List.nil_append, List.getElem?_cons_zero, List.getElem?_cons_succ, List.set_cons_zero, List.set_cons_succ, if_true, if_false, Bool.false_eq_true, dGt, dLt, dLe2, dGe2, dOrd, dOrdI, dAddI, dSub, decide_eq_true_eq, Bool.not_eq_true', decide_eq_false_iff_not, sizeLine_eq, Nat.reduceLeDiff, Nat.zero_le, Nat.reduceLT, Nat.reducePow, beq_self_eq_true, id_eq, l1, dEq_int, d1, e]
      exact ⟨_, rfl⟩
    · have d2 : decide ((v.length : Int) = 1) = true := decide_eq_true (by rw [hq]; rfl)
      by_cases d1 : ((u.length : Int) = 1)
      · simp only [m_endless_parted, cSeq, cSkip, cAsg, cRet, cExpr, cIfS, cFor, cPar, cAug, cSetIx, cBinE, cBinV, cCall1, cCallN, cCall, cIt, cRangeC1, cRangeC2, cEnum, cZip, cTup, cLst, cNil, cCons, cConsR, cStar, cD, cVar, cVarV, vE, cT, cAnd, cOr, cNot, cAndV, cOrV, cNotV, cIf, cChain, cSlE2, cSlV2, bnd, cRev2, cNeg, cBits, cMeth, gNm, gTp, gsCons, gsNil, setMany, datAt, SV.dat, SV.settle, datas, fnsOf, cTupF, cFn, okA, tyD, bnd_ok, bnd_exc, opt_some, quiet_ok, shs_cons, shs_nil, itemsOf, Option.map_some, Option.bind_some, Option.map_none, Option.bind_none, padS, List.map_cons, List.map_nil, List.length_cons, List.length_nil, Nat.reduceAdd, Nat.reduceSub, List.replicate_succ, List.replicate_zero, List.cons_append, List.nil_append, List.getElem?_cons_zero, List.getElem?_cons_succ, List.set_cons_zero, List.set_cons_succ, if_true, if_false, Bool.false_eq_true, dGt, dLt, dLe2, dGe2, dOrd, dOrdI, dAddI, dSub, decide_eq_true_eq, Bool.not_eq_true', decide_eq_false_iff_not, sizeLine_eq, Nat.reduceLeDiff, Nat.zero_le, Nat.reduceLT, Nat.reducePow, beq_self_eq_true, id_eq, l1, l2, dEq_int, d1, decide_true, e]
        exact ⟨_, rfl⟩
      · simp only [m_endless_parted, cSeq, cSkip, cAsg, cRet, cExpr, cIfS, cFor, cPar, cAug, cSetIx, cBinE, cBinV, cCall1, cCallN, cCall, cIt, cRangeC1, cRangeC2, cEnum, cZip, cTup, cLst, cNil, cCons, cConsR, cStar, cD, cVar, cVarV, vE, cT, cAnd, cOr, cNot, cAndV, cOrV, cNotV, cIf, cChain, cSlE2, cSlV2, bnd, cRev2, cNeg, cBits, cMeth, gNm, gTp, gsCons, gsNil, setMany, datAt, SV.dat, SV.settle, datas, fnsOf, cTupF, cFn, okA, tyD, bnd_ok, bnd_exc, opt_some, quiet_ok, shs_cons, shs_nil, itemsOf, Option.map_some, Option.bind_some, Option.map_none, Option.bind_none, padS, List.map_cons, List.map_nil, List.length_cons, List.length_nil, Nat.reduceAdd, Nat.reduceSub, List.replicate_succ, List.replicate_zero, List.cons_append, List.nil_append, List.getElem?_cons_zero, List.getElem?_cons_succ, List.set_cons_zero, List.set_cons_succ, if_true, if_false, Bool.false_eq_true, dGt, dLt, dLe2, dGe2, dOrd, dOrdI, dAddI, dSub, decide_eq_true_eq, Bool.not_eq_true', decide_eq_false_iff_not, sizeLine_eq, Nat.reduceLeDiff, Nat.zero_le, Nat.reduceLT, Nat.reducePow, beq_self_eq_true, id_eq, l1, l2, dEq_int, d1, d2, decide_false, e]
        exact ⟨_, rfl⟩
  rcases ends_cases hu0 with ⟨p, e⟩ | ⟨p, mid, q, e⟩
  · exact one (.inl ⟨p, e⟩)
  · rcases ends_cases hv0 with ⟨p', e'⟩ | ⟨p', mid', q', e'⟩
    · exact one (.inr ⟨p', e'⟩)
    · subst e e'
      exact parted_two hu hv (by simp at hl; omega) (by simp at hl'; omega)
end Law
end Pw
set_option Elab.async false
set_option linter.all false
set_option maxRecDepth 100000
set_option exponentiation.threshold 10000
namespace Pw
namespace Law
open PySem PySem.Spec PyProof.Rows L2 Pw.Wd
/-! ### let_word -/
def noneX (c : Addr) (p : Int) : Ex := ⟨c, exFs ["word", "place"] [.str "none", .int p]⟩
theorem let_ok (c : Addr) {w : Wr} (h : w ≠ []) (p : Int) : Rets (F_let_word c) [.sh (wD w), .sh (.int p)] (.sh .none) := rets_nx fun src => by
  have e1 : dEq (wD w) (.tuple []) = some (.sh (.bool false)) := by rw [dEq_tnil]; cases w <;> simp_all
  simp only [m_let_word, cSeq, cSkip, cAsg, cRet, cExpr, cIfS, cFor, cPar, cAug, cSetIx, cBinE, cBinV, cCall1, cCallN, cCall, cIt, cRangeC1, cRangeC2, cEnum, cZip, cTup, cLst, cNil, cCons, cConsR, cStar, cD, cVar, cVarV, vE, cT, cAnd, cOr, cNot, cAndV, cOrV, cNotV, cIf, cChain, cSlE2, cSlV2, bnd, cRev2, cNeg, cBits, cMeth, gNm, gTp, gsCons, gsNil, setMany, datAt, SV.dat, SV.settle, datas, fnsOf, cTupF, cFn, okA, tyD, bnd_ok, bnd_exc, opt_some, quiet_ok, shs_cons, shs_nil, itemsOf, Option.map_some, Option.bind_some, Option.map_none, Option.bind_none, padS, List.map_cons, List.map_nil, List.length_cons, List.length_nil, Nat.reduceAdd, Nat.reduceSub, List.replicate_succ, List.replicate_zero, List.cons_append, List.nil_append, List.getElem?_cons_zero, List.getElem?_cons_succ, List.set_cons_zero, List.set_cons_succ, if_true, if_false, Bool.false_eq_true, dGt, dLt, dLe2, dGe2, dOrd, dOrdI, dAddI, dSub, decide_eq_true_eq, Bool.not_eq_true', decide_eq_false_iff_not, sizeLine_eq, Nat.reduceLeDiff, Nat.zero_le, Nat.reduceLT, Nat.reducePow, beq_self_eq_true, id_eq, e1]
  exact ⟨_, rfl⟩
theorem let_no (c : Addr) (p : Int) : Excs (F_let_word c) [.sh (.tuple []), .sh (.int p)] (noneX c p) := excs_of fun src => by
  have e1 : dEq (.tuple []) (.tuple []) = some (.sh (.bool true)) := rfl
  simp only [m_let_word, cSeq, cSkip, cAsg, cRet, cExpr, cIfS, cFor, cPar, cAug, cSetIx, cBinE, cBinV, cCall1, cCallN, cCall, cIt, cRangeC1, cRangeC2, cEnum, cZip, cTup, cLst, cNil, cCons, cConsR, cStar, cD, cVar, cVarV, vE, cT, cAnd, cOr, cNot, cAndV, cOrV, cNotV, cIf, cChain, cSlE2, cSlV2, bnd, cRev2, cNeg, cBits, cMeth, gNm, gTp, gsCons, gsNil, setMany, datAt, SV.dat, SV.settle, datas, fnsOf, cTupF, cFn, okA, tyD, bnd_ok, bnd_exc, opt_some, quiet_ok, shs_cons, shs_nil, itemsOf, Option.map_some, Option.bind_some, Option.map_none, Option.bind_none, padS, List.map_cons, List.map_nil, List.length_cons, List.length_nil, Nat.reduceAdd, Nat.reduceSub, List.replicate_succ, List.replicate_zero, List.cons_append, List.nil_append, List.getElem?_cons_zero, List.getElem?_cons_succ, List.set_cons_zero, List.set_cons_succ, if_true, if_false, Bool.false_eq_true, dGt, dLt, dLe2, dGe2, dOrd, dOrdI, dAddI, dSub, decide_eq_true_eq, Bool.not_eq_true', decide_eq_false_iff_not, sizeLine_eq, Nat.reduceLeDiff, Nat.zero_le, Nat.reduceLT, Nat.reducePow, beq_self_eq_true, id_eq, e1, cRaise]
  exact ⟨_, rfl⟩
/-! ### words alike -/
theorem eqvAll_w : ∀ (u v : Wr), PyData.eqvAll (u.map rD) (v.map rD) = decide (u = v)
  | [], [] => rfl
  | [], _ :: _ => rfl
  | _ :: _, [] => rfl
  | p :: u, q :: v => by
    have ih := eqvAll_w u v
    have e : PyData.eqv (rD p) (rD q) = decide (p = q) := by
      simp only [rD, PyData.eqv, PyData.eqvAll, Bool.and_true]
      obtain ⟨a, m⟩ := p
      obtain ⟨b, n⟩ := q
      by_cases h1 : a = b <;> by_cases h2 : m = n <;> simp [h1, h2] <;> omega
    simp only [List.map_cons, PyData.eqvAll, ih, e]
    by_cases h1 : p = q <;> by_cases h2 : u = v <;> simp [h1, h2]
theorem dEq_w (u v : Wr) : dEq (wD u) (wD v) = some (.sh (.bool (decide (u = v)))) := by
  unfold dEq eqOk wD
  have h := depth_w u
  simp only [PyData.plain, plain_w, PyData.depth, PyData.eqv, eqvAll_w, Bool.and_self, Bool.true_and]
  rw [if_pos (by first | omega | exact decide_eq_true (by omega))]
/-! ### ring_runs -/
theorem ring_runs_ok {w : Wr} (h : w ≠ []) (hl : w.length ≤ 1000) : Rets F_ring_runs [.sh (wD w)] (.sh (wD (ringR w))) := rets_of fun src => by
  rcases ends_cases h with ⟨p, rfl⟩ | ⟨p, mid, q, rfl⟩
  · have e1 := len_w [p]
    rw [ringR_one]
    simp only [m_ring_runs, cSeq, cSkip, cAsg, cRet, cExpr, cIfS, cFor, cPar, cAug, cSetIx, cBinE, cBinV, cCall1, cCallN, cCall, cIt, cRangeC1, cRangeC2, cEnum, cZip, cTup, cLst, cNil, cCons, cConsR, cStar, cD, cVar, cVarV, vE, cT, cAnd, cOr, cNot, cAndV, cOrV, cNotV, cIf, cChain, cSlE2, cSlV2, bnd, cRev2, cNeg, cBits, cMeth, gNm, gTp, gsCons, gsNil, setMany, datAt, SV.dat, SV.settle, datas, fnsOf, cTupF, cFn, okA, tyD, bnd_ok, bnd_exc, opt_some, quiet_ok, shs_cons, shs_nil, itemsOf, Option.map_some, Option.bind_some, Option.map_none, Option.bind_none, padS, List.map_cons, List.map_nil, List.length_cons, List.length_nil, Nat.reduceAdd, Nat.reduceSub, List.replicate_succ, List.replicate_zero, List.cons_append, List.nil_append, List.getElem?_cons_zero, List.getElem?_cons_succ, List.set_cons_zero, List.set_cons_succ, if_true, if_false, Bool.false_eq_true, dGt, dLt, dLe2, dGe2, dOrd, dOrdI, dAddI, dSub, decide_eq_true_eq, Bool.not_eq_true', decide_eq_false_iff_not, sizeLine_eq, Nat.reduceLeDiff, Nat.zero_le, Nat.reduceLT, Nat.reducePow, beq_self_eq_true, id_eq, e1]
    exact ⟨_, rfl⟩
  · have e1 := len_w (p :: (mid ++ [q]))
    have e2 : (1 : Int) < ((p :: (mid ++ [q])).length : Int) := by simp; omega
    have e3 := wd_first p (mid ++ [q])
    have e4 := wd_last (p :: mid) q
    have e7 : dSl2 (wD (p :: (mid ++ [q]))) (some 1) (some (-1)) = some (.sh (.tuple (mid.map rD))) := by
      unfold wD
      rw [List.map_cons, List.map_append]
      exact sl_mid _ _ _
    simp only [List.cons_append] at e4
    rw [ringR_two]
    by_cases z : p.1 = q.1
    · have e5 : dEq (.str p.1) (.str q.1) = some (.sh (.bool true)) := by rw [dEq_str, decide_eq_true z]
      have e8 : datas ((mid.map rD).map SV.sh ++ [.sh (.tuple [.str p.1, .int ((q.2 : Int) + (p.2 : Int))])]) = some (mid.map rD ++ [.tuple [.str p.1, .int ((q.2 : Int) + (p.2 : Int))]]) := datas_two (mid.map rD) [_]
      have hz : ((mid.map rD ++ [PyData.tuple [.str p.1, .int ((q.2 : Int) + (p.2 : Int))]]).length ≤ 16777216) := by simp at hl ⊢; omega
      have ew : wD (mid ++ [(p.1, q.2 + p.2)]) = .tuple (mid.map rD ++ [.tuple [.str p.1, .int ((q.2 : Int) + (p.2 : Int))]]) := by simp [wD, rD]
      rw [if_pos z, ew]
      generalize (p :: (mid ++ [q])).length = n at e1 e2
      simp only [m_ring_runs, cSeq, cSkip, cAsg, cRet, cExpr, cIfS, cFor, cPar, cAug, cSetIx, cBinE, cBinV, cCall1, cCallN, cCall, cIt, cRangeC1, cRangeC2, cEnum, cZip, cTup, cLst, cNil, cCons, cConsR, cStar, cD, cVar, cVarV, vE, cT, cAnd, cOr, cNot, cAndV, cOrV, cNotV, cIf, cChain, cSlE2, cSlV2, bnd, cRev2, cNeg, cBits, cMeth, gNm, gTp, gsCons, gsNil, setMany, datAt, SV.dat, SV.settle, datas, fnsOf, cTupF, cFn, okA, tyD, bnd_ok, bnd_exc, opt_some, quiet_ok, shs_cons, shs_nil, itemsOf, Option.map_some, Option.bind_some, Option.map_none, Option.bind_none, padS, List.map_cons, List.map_nil, List.length_cons, List.length_nil, Nat.reduceAdd, Nat.reduceSub, List.replicate_succ, List.replicate_zero, List.cons_append, List.nil_append, List.getElem?_cons_zero, List.getElem?_cons_succ, List.set_cons_zero, List.set_cons_succ, if_true, if_false, Bool.false_eq_true, dGt, dLt, dLe2, dGe2, dOrd, dOrdI, dAddI, dSub, decide_eq_true_eq, Bool.not_eq_true', decide_eq_false_iff_not, sizeLine_eq, Nat.reduceLeDiff, Nat.zero_le, Nat.reduceLT, Nat.reducePow, beq_self_eq_true, id_eq, e1, e2, e3, e4, e5, e7, rD_fst, rD_snd, add_int, e8, hz, decide_true]
      exact ⟨_, rfl⟩
    · have e5 : dEq (.str p.1) (.str q.1) = some (.sh (.bool false)) := by rw [dEq_str, decide_eq_false z]
      rw [if_neg z]
      generalize (p :: (mid ++ [q])).length = n at e1 e2
      simp only [m_ring_runs, cSeq, cSkip, cAsg, cRet, cExpr, cIfS, cFor, cPar, cAug, cSetIx, cBinE, cBinV, cCall1, cCallN, cCall, cIt, cRangeC1, cRangeC2, cEnum, cZip, cTup, cLst, cNil, cCons, cConsR, cStar, cD, cVar, cVarV, vE, cT, cAnd, cOr, cNot, cAndV, cOrV, cNotV, cIf, cChain, cSlE2, cSlV2, bnd, cRev2, cNeg, cBits, cMeth, gNm, gTp, gsCons, gsNil, setMany, datAt, SV.dat, SV.settle, datas, fnsOf, cTupF, cFn, okA, tyD, bnd_ok, bnd_exc, opt_some, quiet_ok, shs_cons, shs_nil, itemsOf, Option.map_some, Option.bind_some, Option.map_none, Option.bind_none, padS, List.map_cons, List.map_nil, List.length_cons, List.length_nil, Nat.reduceAdd, Nat.reduceSub, List.replicate_succ, List.replicate_zero, List.cons_append, List.nil_append, List.getElem?_cons_zero, List.getElem?_cons_succ, List.set_cons_zero, List.set_cons_succ, if_true, if_false, Bool.false_eq_true, dGt, dLt, dLe2, dGe2, dOrd, dOrdI, dAddI, dSub, decide_eq_true_eq, Bool.not_eq_true', decide_eq_false_iff_not, sizeLine_eq, Nat.reduceLeDiff, Nat.zero_le, Nat.reduceLT, Nat.reducePow, beq_self_eq_true, id_eq, e1, e2, e3, e4, e5, rD_fst, decide_true]
      exact ⟨_, rfl⟩
/-! ### runs_often -/
theorem emod_dec (n i : Nat) (hi : 0 < i) : decide ((n : Int) % (i : Int) = 0) = decide (i ∣ n) := by
  have : ((n : Int) % (i : Int) = 0) ↔ i ∣ n := by
    rw [← Int.natCast_emod, Nat.dvd_iff_mod_eq_zero]
    omega
  by_cases h : i ∣ n
  · rw [decide_eq_true h, decide_eq_true (this.mpr h)]
  · rw [decide_eq_false h, decide_eq_false (fun z => h (this.mp z))]
theorem ediv_nat (n i : Nat) : (n : Int) / (i : Int) = ((n / i : Nat) : Int) := (Int.natCast_ediv n i).symm
theorem tup_pw {w : Wr} {k : Nat} (h0 : w ≠ []) (hk : 0 < k) (hk2 : k ≤ 1000) (hx : w.length ≤ 1000) : dMul2 (wD w) (.int (k : Int)) = some (.sh (wD (pw w k))) := by
  unfold wD
  rw [mulT (by simpa using h0) hk hk2 (by simpa using hx), map_pw]
theorem wd_take (w : Wr) (k : Nat) : dSl2 (wD w) none (some (k : Int)) = some (.sh (wD (w.take k))) := by
  unfold wD
  rw [sl_to, List.map_take]
theorem wd_drop (w : Wr) (k : Nat) : dSl2 (wD w) (some (k : Int)) none = some (.sh (wD (w.drop k))) := by
  unfold wD
  rw [sl_from, List.map_drop]
theorem nat_log {k : Nat} (h : k ≤ 2 ^ 4000) : ((k : Int)).natAbs.log2 < 9000 := by
  rw [Int.natAbs_natCast]
  by_cases hz : k = 0
  · rw [hz]; decide
  · refine (Nat.log2_lt hz).mpr (Nat.lt_of_le_of_lt h ?_)
    exact Nat.pow_lt_pow_right (by decide) (by decide)
theorem rg_map (k n : Nat) : shs (rg k n) = (List.range' k n).map fun (i : Nat) => SV.sh (.int (i : Int)) := by simp [rg, shs]
theorem per_filter (w : Wr) : ((List.range' 1 w.length).filter fun s => decide (s ∣ w.length)).filter (fun s => decide (Per w s)) = (List.range' 1 w.length).filter fun s => decide (Per w s) := by
  rw [List.filter_filter]
  apply List.filter_congr
  intro s hs
  rw [List.mem_range'_1] at hs
  by_cases h : Per w s
  · have := h.dvd (by omega)
    simp [h, this]
  · simp [h]
theorem often_ok {w : Wr} (h : w ≠ []) (hl : w.length ≤ 1000) : Rets F_runs_often [.sh (wD w)] (.sh (.int (ofn w : Int))) := rets_of fun src => by
  have hp := List.length_pos_iff.mpr h
  have b1 : -(2 ^ 62 : Int) ≤ 1 ∧ (1 : Int) < 2 ^ 62 ∧ -(2 ^ 62 : Int) ≤ (w.length : Int) + 1 ∧ (w.length : Int) + 1 < 2 ^ 62 := by omega
  have b2 : ((w.length : Int) + 1 - 1).toNat = w.length := by omega
  have b3 : rgD 1 w.length = rg 1 w.length := rgD_rg 1 w.length
  have c1 := comp_filter (g := gNm 2) (c := c_runs_often_0) (f := e_runs_often_1) (vs := [2]) (s := ⟨[some (.sh (wD w)), none, none], src⟩) (fun (i : Nat) => SV.sh (.int (i : Int))) (fun i => decide (i ∣ w.length)) (fun i => .int (i : Int)) (List.range' 1 w.length) [] (fun i hi => by
    rw [List.mem_range'_1] at hi
    refine ⟨_, ⟨[some (.sh (wD w)), none, some (.sh (.int (i : Int)))], src⟩, rfl, ?_, fun _ => rfl, fun _ => ⟨_, _, rfl, rfl, rfl⟩⟩
    simp only [c_runs_often_0, cSeq, cSkip, cAsg, cRet, cExpr, cIfS, cFor, cPar, cAug, cSetIx, cBinE, cBinV, cCall1, cCallN, cCall, cIt, cRangeC1, cRangeC2, cEnum, cZip, cTup, cLst, cNil, cCons, cConsR, cStar, cD, cVar, cVarV, vE, cT, cAnd, cOr, cNot, cAndV, cOrV, cNotV, cIf, cChain, cSlE2, cSlV2, bnd, cRev2, cNeg, cBits, cMeth, gNm, gTp, gsCons, gsNil, setMany, datAt, SV.dat, SV.settle, datas, fnsOf, cTupF, cFn, okA, tyD, bnd_ok, bnd_exc, opt_some, quiet_ok, shs_cons, shs_nil, itemsOf, Option.map_some, Option.bind_some, Option.map_none, Option.bind_none, padS, List.map_cons, List.map_nil, List.length_cons, List.length_nil, Nat.reduceAdd, Nat.reduceSub, List.replicate_succ, List.replicate_zero, List.cons_append, List.nil_append, List.getElem?_cons_zero, List.getElem?_cons_succ, List.set_cons_zero, List.set_cons_succ, if_true, if_false, Bool.false_eq_true, dGt, dLt, dLe2, dGe2, dOrd, dOrdI, dAddI, dSub, decide_eq_true_eq, Bool.not_eq_true', decide_eq_false_iff_not, sizeLine_eq, Nat.reduceLeDiff, Nat.zero_le, Nat.reduceLT, Nat.reducePow, beq_self_eq_true, id_eq, len_w, modI (show (0 : Int) < (i : Int) by omega), dEq_int, emod_dec w.length i (by omega)]) (by rw [sizeLine_eq]; simp; omega)
  generalize hss : (List.range' 1 w.length).filter (fun i => decide (i ∣ w.length)) = ss at c1
  have hsm : ∀ i ∈ ss, 1 ≤ i ∧ i ≤ w.length ∧ i ∣ w.length := fun i hi => by
    rw [← hss, List.mem_filter, List.mem_range'_1] at hi
    have := of_decide_eq_true hi.2
    omega
  have hsl : ss.length ≤ w.length := by
    rw [← hss]
    have := List.length_filter_le (fun i => decide (i ∣ w.length)) (List.range' 1 w.length)
    simpa using this
  have c2 := comp_filter (g := gNm 2) (c := c_runs_often_2) (f := e_runs_often_3) (vs := [2]) (s := ⟨[some (.sh (wD w)), some (.sh (.list (ss.map fun (i : Nat) => .int (i : Int)))), none], src⟩) (fun (i : Nat) => SV.sh (.int (i : Int))) (fun i => decide (Per w i)) (fun i => .int ((w.length / i : Nat) : Int)) ss [] (fun i hi => by
    obtain ⟨i1, i2, i3⟩ := hsm i hi
    have q1 : 0 < w.length / i := div_pos' (by omega) i2
    have q2 : w.length / i ≤ 1000 := Nat.le_trans (Nat.div_le_self _ _) hl
    have f1 := fdivI (i := (w.length : Int)) (j := (i : Int)) (by omega) (nat_log (Nat.le_trans (Nat.le_trans i2 hl) (by decide +kernel)))
    rw [ediv_nat] at f1
    refine ⟨_, ⟨[some (.sh (wD w)), some (.sh (.list (ss.map fun (i : Nat) => .int (i : Int)))), some (.sh (.int (i : Int)))], src⟩, rfl, ?_, fun _ => rfl, fun _ => ⟨⟨[some (.sh (wD w)), some (.sh (.list (ss.map fun (i : Nat) => .int (i : Int)))), some (.sh (.int (i : Int)))], src⟩, .sh (.int ((w.length / i : Nat) : Int)), ?_, rfl, rfl⟩⟩
    · simp only [c_runs_often_2, cSeq, cSkip, cAsg, cRet, cExpr, cIfS, cFor, cPar, cAug, cSetIx, cBinE, cBinV, cCall1, cCallN, cCall, cIt, cRangeC1, cRangeC2, cEnum, cZip, cTup, cLst, cNil, cCons, cConsR, cStar, cD, cVar, cVarV, vE, cT, cAnd, cOr, cNot, cAndV, cOrV, cNotV, cIf, cChain, cSlE2, cSlV2, bnd, cRev2, cNeg, cBits, cMeth, gNm, gTp, gsCons, gsNil, setMany, datAt, SV.dat, SV.settle, datas, fnsOf, cTupF, cFn, okA, tyD, bnd_ok, bnd_exc, opt_some, quiet_ok, shs_cons, shs_nil, itemsOf, Option.map_some, Option.bind_some, Option.map_none, Option.bind_none, padS, List.map_cons, List.map_nil, List.length_cons, List.length_nil, Nat.reduceAdd, Nat.reduceSub, List.replicate_succ, List.replicate_zero, List.cons_append, List.nil_append, List.getElem?_cons_zero, List.getElem?_cons_succ, List.set_cons_zero, List.set_cons_succ, if_true, if_false, Bool.false_eq_true, dGt, dLt, dLe2, dGe2, dOrd, dOrdI, dAddI, dSub, decide_eq_true_eq, Bool.not_eq_true', decide_eq_false_iff_not, sizeLine_eq, Nat.reduceLeDiff, Nat.zero_le, Nat.reduceLT, Nat.reducePow, beq_self_eq_true, id_eq, wd_take, len_w, f1, tup_pw (w := w.take i) (take_ne (by omega) h) q1 q2 (by rw [List.length_take]; omega), dEq_w]
      rfl
    · simp only [e_runs_often_3, cSeq, cSkip, cAsg, cRet, cExpr, cIfS, cFor, cPar, cAug, cSetIx, cBinE, cBinV, cCall1, cCallN, cCall, cIt, cRangeC1, cRangeC2, cEnum, cZip, cTup, cLst, cNil, cCons, cConsR, cStar, cD, cVar, cVarV, vE, cT, cAnd, cOr, cNot, cAndV, cOrV, cNotV, cIf, cChain, cSlE2, cSlV2, bnd, cRev2, cNeg, cBits, cMeth, gNm, gTp, gsCons, gsNil, setMany, datAt, SV.dat, SV.settle, datas, fnsOf, cTupF, cFn, okA, tyD, bnd_ok, bnd_exc, opt_some, quiet_ok, shs_cons, shs_nil, itemsOf, Option.map_some, Option.bind_some, Option.map_none, Option.bind_none, padS, List.map_cons, List.map_nil, List.length_cons, List.length_nil, Nat.reduceAdd, Nat.reduceSub, List.replicate_succ, List.replicate_zero, List.cons_append, List.nil_append, List.getElem?_cons_zero, List.getElem?_cons_succ, List.set_cons_zero, List.set_cons_succ, if_true, if_false, Bool.false_eq_true, dGt, dLt, dLe2, dGe2, dOrd, dOrdI, dAddI, dSub, decide_eq_true_eq, Bool.not_eq_true', decide_eq_false_iff_not, sizeLine_eq, Nat.reduceLeDiff, Nat.zero_le, Nat.reduceLT, Nat.reducePow, beq_self_eq_true, id_eq, len_w, f1]) (by rw [sizeLine_eq]; simp; omega)
  rw [← hss, per_filter] at c2
  have hh : ((List.range' 1 w.length).filter fun s => decide (Per w s)).head? = some (rsz w) := by
    rw [List.head?_filter]
    have hs := rsz_spec h
    unfold rsz
    cases e : (List.range' 1 w.length).find? fun s => decide (Per w s) with
    | none =>
      have := List.find?_eq_none.mp e w.length (by rw [List.mem_range'_1]; omega)
      exact absurd (per_self w) (by simpa using this)
    | some s => rfl
  obtain ⟨rest, hr⟩ : ∃ rest, (List.range' 1 w.length).filter (fun s => decide (Per w s)) = rsz w :: rest := by
    cases e : (List.range' 1 w.length).filter (fun s => decide (Per w s)) with
    | nil => rw [e] at hh; cases hh
    | cons a r => rw [e] at hh; cases hh; exact ⟨r, rfl⟩
  rw [hr, hss] at c2
  have sm : shs (ss.map fun (i : Nat) => .int (i : Int)) = ss.map fun (i : Nat) => SV.sh (.int (i : Int)) := by simp [shs]
  have c1' : compL (gNm 2) c_runs_often_0 e_runs_often_1 [2] (shs (rg 1 w.length)) [] ⟨[some (.sh (wD w)), none, none], src⟩ = _ := (congrArg (fun l => compL (gNm 2) c_runs_often_0 e_runs_often_1 [2] l [] ⟨[some (.sh (wD w)), none, none], src⟩) (rg_map 1 w.length)).trans c1
  simp only [List.nil_append] at c1' c2
  simp only [m_runs_often, cSeq, cSkip, cAsg, cRet, cExpr, cIfS, cFor, cPar, cAug, cSetIx, cBinE, cBinV, cCall1, cCallN, cCall, cIt, cRangeC1, cRangeC2, cEnum, cZip, cTup, cLst, cNil, cCons, cConsR, cStar, cD, cVar, cVarV, vE, cT, cAnd, cOr, cNot, cAndV, cOrV, cNotV, cIf, cChain, cSlE2, cSlV2, bnd, cRev2, cNeg, cBits, cMeth, gNm, gTp, gsCons, gsNil, setMany, datAt, SV.dat, SV.settle, datas, fnsOf, cTupF, cFn, okA, tyD, bnd_ok, bnd_exc, opt_some, quiet_ok, shs_cons, shs_nil, itemsOf, Option.map_some, Option.bind_some, Option.map_none, Option.bind_none, padS, List.map_cons, List.map_nil, List.length_cons, List.length_nil, Nat.reduceAdd, Nat.reduceSub, List.replicate_succ, List.replicate_zero, List.cons_append, List.nil_append, List.getElem?_cons_zero, List.getElem?_cons_succ, List.set_cons_zero, List.set_cons_succ, if_true, if_false, Bool.false_eq_true, dGt, dLt, dLe2, dGe2, dOrd, dOrdI, dAddI, dSub, decide_eq_true_eq, Bool.not_eq_true', decide_eq_false_iff_not, sizeLine_eq, Nat.reduceLeDiff, Nat.zero_le, Nat.reduceLT, Nat.reducePow, beq_self_eq_true, id_eq, cComp, len_w, add_int, ifc_pos b1, b2, b3, wipeS, c1', backS, sm, c2, ix_l0, Option.join]
  exact ⟨_, rfl⟩
end Law
end Pw
set_option Elab.async false
set_option linter.all false
set_option maxRecDepth 100000
set_option exponentiation.threshold 10000
namespace Pw
namespace Law
open PySem PySem.Spec PyProof.Rows L2 Pw.Wd
/-! ### word_upto, word_from -/
def upR : Wr → Nat → Wr
  | [], _ => []
  | p :: w, k => (p.1, min p.2 k) :: upR w (k - min p.2 k)
def dnR : Wr → Nat → Wr
  | [], _ => []
  | p :: w, k => (p.1, p.2 - min p.2 k) :: dnR w (k - min p.2 k)
theorem exp_up : ∀ (w : Wr) (k : Nat), exp (upR w k) = (exp w).take k
  | [], k => by simp [upR, exp_nil]
  | p :: w, k => by
    rw [upR, exp_cons, exp_cons, exp_up w, List.take_append, List.take_replicate, List.length_replicate]
    congr 1
    · rw [Nat.min_comm]
    · congr 1
      omega
theorem exp_dn : ∀ (w : Wr) (k : Nat), exp (dnR w k) = (exp w).drop k
  | [], k => by simp [dnR, exp_nil]
  | p :: w, k => by
    rw [dnR, exp_cons, exp_cons, exp_dn w, List.drop_append, List.drop_replicate, List.length_replicate]
    congr 1
    · congr 1
      omega
    · congr 1
      omega
theorem up_len : ∀ (w : Wr) (k : Nat), (upR w k).length = w.length
  | [], _ => rfl
  | p :: w, k => by rw [upR, List.length_cons, up_len w]; rfl
theorem dn_len : ∀ (w : Wr) (k : Nat), (dnR w k).length = w.length
  | [], _ => rfl
  | p :: w, k => by rw [dnR, List.length_cons, dn_len w]; rfl
theorem min_nat (m k : Nat) : dMin2 [.int (m : Int), .int (k : Int)] = some (.sh (.int ((min m k : Nat) : Int))) := by
  unfold dMin2
  dsimp only
  congr 3
  split <;> omega
theorem upto_step (o0 o1 : Option SV) (src : Option Src) (acc : Wr) (k : Nat) (p : Str × Nat) (h : acc.length < 1000000) : b_word_upto_1 ⟨[o0, o1, some (.own (.list (acc.map rD))), some (.sh (.int (k : Int))), some (.sh (.str p.1)), some (.sh (.int (p.2 : Int)))], src⟩ = .ok .nx ⟨[o0, o1, some (.own (.list ((acc ++ [(p.1, min p.2 k)]).map rD))), some (.sh (.int ((k - min p.2 k : Nat) : Int))), some (.sh (.str p.1)), some (.sh (.int (p.2 : Int)))], src⟩ := by
  have e1 := app_ok (xs := acc.map rD) (x := .tuple [.str p.1, .int ((min p.2 k : Nat) : Int)]) (by simpa using h)
  have e2 := ix_ll (acc.map rD) (.tuple [.str p.1, .int ((min p.2 k : Nat) : Int)])
  have e3 : (k : Int) - ((min p.2 k : Nat) : Int) = ((k - min p.2 k : Nat) : Int) := by omega
  simp only [b_word_upto_1, cSeq, cSkip, cAsg, cRet, cExpr, cIfS, cFor, cPar, cAug, cSetIx, cBinE, cBinV, cCall1, cCallN, cCall, cIt, cRangeC1, cRangeC2, cEnum, cZip, cTup, cLst, cNil, cCons, cConsR, cStar, cD, cVar, cVarV, vE, cT, cAnd, cOr, cNot, cAndV, cOrV, cNotV, cIf, cChain, cSlE2, cSlV2, bnd, cRev2, cNeg, cBits, cMeth, gNm, gTp, gsCons, gsNil, setMany, datAt, SV.dat, SV.settle, datas, fnsOf, cTupF, cFn, okA, tyD, bnd_ok, bnd_exc, opt_some, quiet_ok, shs_cons, shs_nil, itemsOf, Option.map_some, Option.bind_some, Option.map_none, Option.bind_none, padS, List.map_cons, List.map_nil, List.length_cons, List.length_nil, Nat.reduceAdd, Nat.reduceSub, List.replicate_succ, List.replicate_zero, List.cons_append, List.nil_append, List.getElem?_cons_zero, List.getElem?_cons_succ, List.set_cons_zero, List.set_cons_succ, if_true, if_false, Bool.false_eq_true, dGt, dLt, dLe2, dGe2, dOrd, dOrdI, dAddI, dSub, decide_eq_true_eq, Bool.not_eq_true', decide_eq_false_iff_not, sizeLine_eq, Nat.reduceLeDiff, Nat.zero_le, Nat.reduceLT, Nat.reducePow, beq_self_eq_true, id_eq, min_nat, e1, e2, ix_t1, e3]
  simp [rD]
theorem upto_loop (o0 o1 : Option SV) (src : Option Src) : ∀ (w acc : Wr) (k : Nat) (o4 o5 : Option SV), acc.length + w.length < 1000000 → ∃ l o4' o5', forL g_word_upto_0 b_word_upto_1 (shs (w.map rD)) ⟨[o0, o1, some (.own (.list (acc.map rD))), some (.sh (.int (k : Int))), o4, o5], src⟩ = .ok .nx ⟨[o0, o1, some (.own (.list ((acc ++ upR w k).map rD))), some (.sh (.int (l : Int))), o4', o5'], src⟩
  | [], acc, k, o4, o5, _ => ⟨k, o4, o5, by rw [upR, List.append_nil]; rfl⟩
  | p :: w, acc, k, o4, o5, h => by
    obtain ⟨l, o4', o5', ih⟩ := upto_loop o0 o1 src w (acc ++ [(p.1, min p.2 k)]) (k - min p.2 k) (some (.sh (.str p.1))) (some (.sh (.int (p.2 : Int)))) (by simp at h ⊢; omega)
    rw [List.append_assoc] at ih
    exact ⟨l, o4', o5', (forL_step (by rfl) (upto_step o0 o1 src acc k p (by simp at h; omega))).trans ih⟩
theorem upto_ok {w : Wr} (k : Nat) (h : w.length < 1000000) : Rets F_word_upto [.sh (wD w), .sh (.int (k : Int))] (.sh (wD (rle ((exp w).take k)))) := rets_of fun src => by
  obtain ⟨l, o4, o5, e⟩ := upto_loop (some (.sh (wD w))) (some (.sh (.int (k : Int)))) src w [] k none none (by simpa using h)
  have e1 := told_app (upR w k) (by rw [up_len]; exact h)
  rw [told_eq, exp_up] at e1
  simp only [App, wL] at e1
  simp only [List.map_nil, List.nil_append, wD] at e
  simp only [wD] at e1 ⊢
  simp only [m_word_upto, cSeq, cSkip, cAsg, cRet, cExpr, cIfS, cFor, cPar, cAug, cSetIx, cBinE, cBinV, cCall1, cCallN, cCall, cIt, cRangeC1, cRangeC2, cEnum, cZip, cTup, cLst, cNil, cCons, cConsR, cStar, cD, cVar, cVarV, vE, cT, cAnd, cOr, cNot, cAndV, cOrV, cNotV, cIf, cChain, cSlE2, cSlV2, bnd, cRev2, cNeg, cBits, cMeth, gNm, gTp, gsCons, gsNil, setMany, datAt, SV.dat, SV.settle, datas, fnsOf, cTupF, cFn, okA, tyD, bnd_ok, bnd_exc, opt_some, quiet_ok, shs_cons, shs_nil, itemsOf, Option.map_some, Option.bind_some, Option.map_none, Option.bind_none, padS, List.map_cons, List.map_nil, List.length_cons, List.length_nil, Nat.reduceAdd, Nat.reduceSub, List.replicate_succ, List.replicate_zero, List.cons_append, List.nil_append, List.getElem?_cons_zero, List.getElem?_cons_succ, List.set_cons_zero, List.set_cons_succ, if_true, if_false, Bool.false_eq_true, dGt, dLt, dLe2, dGe2, dOrd, dOrdI, dAddI, dSub, decide_eq_true_eq, Bool.not_eq_true', decide_eq_false_iff_not, sizeLine_eq, Nat.reduceLeDiff, Nat.zero_le, Nat.reduceLT, Nat.reducePow, beq_self_eq_true, id_eq, e, e1]
  exact ⟨_, rfl⟩
theorem from_step (o0 o1 o6 : Option SV) (src : Option Src) (acc : Wr) (k : Nat) (p : Str × Nat) (h : acc.length < 1000000) : b_word_from_1 ⟨[o0, o1, some (.own (.list (acc.map rD))), some (.sh (.int (k : Int))), some (.sh (.str p.1)), some (.sh (.int (p.2 : Int))), o6], src⟩ = .ok .nx ⟨[o0, o1, some (.own (.list ((acc ++ [(p.1, p.2 - min p.2 k)]).map rD))), some (.sh (.int ((k - min p.2 k : Nat) : Int))), some (.sh (.str p.1)), some (.sh (.int (p.2 : Int))), some (.sh (.int ((min p.2 k : Nat) : Int)))], src⟩ := by
  have e3 : (k : Int) - ((min p.2 k : Nat) : Int) = ((k - min p.2 k : Nat) : Int) := by omega
  have e4 : (p.2 : Int) - ((min p.2 k : Nat) : Int) = ((p.2 - min p.2 k : Nat) : Int) := by omega
  have e1 := app_ok (xs := acc.map rD) (x := .tuple [.str p.1, .int ((p.2 - min p.2 k : Nat) : Int)]) (by simpa using h)
  simp only [b_word_from_1, cSeq, cSkip, cAsg, cRet, cExpr, cIfS, cFor, cPar, cAug, cSetIx, cBinE, cBinV, cCall1, cCallN, cCall, cIt, cRangeC1, cRangeC2, cEnum, cZip, cTup, cLst, cNil, cCons, cConsR, cStar, cD, cVar, cVarV, vE, cT, cAnd, cOr, cNot, cAndV, cOrV, cNotV, cIf, cChain, cSlE2, cSlV2, bnd, cRev2, cNeg, cBits, cMeth, gNm, gTp, gsCons, gsNil, setMany, datAt, SV.dat, SV.settle, datas, fnsOf, cTupF, cFn, okA, tyD, bnd_ok, bnd_exc, opt_some, quiet_ok, shs_cons, shs_nil, itemsOf, Option.map_some, Option.bind_some, Option.map_none, Option.bind_none, padS, List.map_cons, List.map_nil, List.length_cons, List.length_nil, Nat.reduceAdd, Nat.reduceSub, List.replicate_succ, List.replicate_zero, List.cons_append, List.nil_append, List.getElem?_cons_zero, List.getElem?_cons_succ, List.set_cons_zero, List.set_cons_succ, if_true, if_false, Bool.false_eq_true, dGt, dLt, dLe2, dGe2, dOrd, dOrdI, dAddI, dSub, decide_eq_true_eq, Bool.not_eq_true', decide_eq_false_iff_not, sizeLine_eq, Nat.reduceLeDiff, Nat.zero_le, Nat.reduceLT, Nat.reducePow, beq_self_eq_true, id_eq, min_nat, e4, e1, e3]
  simp [rD]
theorem from_loop (o0 o1 : Option SV) (src : Option Src) : ∀ (w acc : Wr) (k : Nat) (o4 o5 o6 : Option SV), acc.length + w.length < 1000000 → ∃ l o4' o5' o6', forL g_word_from_0 b_word_from_1 (shs (w.map rD)) ⟨[o0, o1, some (.own (.list (acc.map rD))), some (.sh (.int (k : Int))), o4, o5, o6], src⟩ = .ok .nx ⟨[o0, o1, some (.own (.list ((acc ++ dnR w k).map rD))), some (.sh (.int (l : Int))), o4', o5', o6'], src⟩
  | [], acc, k, o4, o5, o6, _ => ⟨k, o4, o5, o6, by rw [dnR, List.append_nil]; rfl⟩
  | p :: w, acc, k, o4, o5, o6, h => by
    obtain ⟨l, o4', o5', o6', ih⟩ := from_loop o0 o1 src w (acc ++ [(p.1, p.2 - min p.2 k)]) (k - min p.2 k) (some (.sh (.str p.1))) (some (.sh (.int (p.2 : Int)))) (some (.sh (.int ((min p.2 k : Nat) : Int)))) (by simp at h ⊢; omega)
    rw [List.append_assoc] at ih
    exact ⟨l, o4', o5', o6', (forL_step (by rfl) (from_step o0 o1 o6 src acc k p (by simp at h; omega))).trans ih⟩
theorem from_ok {w : Wr} (k : Nat) (h : w.length < 1000000) : Rets F_word_from [.sh (wD w), .sh (.int (k : Int))] (.sh (wD (rle ((exp w).drop k)))) := rets_of fun src => by
  obtain ⟨l, o4, o5, o6, e⟩ := from_loop (some (.sh (wD w))) (some (.sh (.int (k : Int)))) src w [] k none none none (by simpa using h)
  have e1 := told_app (dnR w k) (by rw [dn_len]; exact h)
  rw [told_eq, exp_dn] at e1
  simp only [App, wL] at e1
  simp only [List.map_nil, List.nil_append, wD] at e
  simp only [wD] at e1 ⊢
  simp only [m_word_from, cSeq, cSkip, cAsg, cRet, cExpr, cIfS, cFor, cPar, cAug, cSetIx, cBinE, cBinV, cCall1, cCallN, cCall, cIt, cRangeC1, cRangeC2, cEnum, cZip, cTup, cLst, cNil, cCons, cConsR, cStar, cD, cVar, cVarV, vE, cT, cAnd, cOr, cNot, cAndV, cOrV, cNotV, cIf, cChain, cSlE2, cSlV2, bnd, cRev2, cNeg, cBits, cMeth, gNm, gTp, gsCons, gsNil, setMany, datAt, SV.dat, SV.settle, datas, fnsOf, cTupF, cFn, okA, tyD, bnd_ok, bnd_exc, opt_some, quiet_ok, shs_cons, shs_nil, itemsOf, Option.map_some, Option.bind_some, Option.map_none, Option.bind_none, padS, List.map_cons, List.map_nil, List.length_cons, List.length_nil, Nat.reduceAdd, Nat.reduceSub, List.replicate_succ, List.replicate_zero, List.cons_append, List.nil_append, List.getElem?_cons_zero, List.getElem?_cons_succ, List.set_cons_zero, List.set_cons_succ, if_true, if_false, Bool.false_eq_true, dGt, dLt, dLe2, dGe2, dOrd, dOrdI, dAddI, dSub, decide_eq_true_eq, Bool.not_eq_true', decide_eq_false_iff_not, sizeLine_eq, Nat.reduceLeDiff, Nat.zero_le, Nat.reduceLT, Nat.reducePow, beq_self_eq_true, id_eq, e, e1]
  exact ⟨_, rfl⟩
/-! ### word_turned -/
theorem rle_app_len (a b : List Str) : (rle (a ++ b)).length ≤ (rle a).length + (rle b).length := by
  have : rle (a ++ b) = told (rle a ++ rle b) := by rw [told_eq, exp_app, exp_rle, exp_rle]
  rw [this]
  have := told_len (rle a ++ rle b)
  simpa using this
theorem up_few (w : Wr) (k : Nat) : (rle ((exp w).take k)).length ≤ w.length := by
  rw [← exp_up, ← told_eq]
  have := told_len (upR w k)
  rwa [up_len] at this
theorem dn_few (w : Wr) (k : Nat) : (rle ((exp w).drop k)).length ≤ w.length := by
  rw [← exp_dn, ← told_eq]
  have := told_len (dnR w k)
  rwa [dn_len] at this
theorem turned_ok {w : Wr} (k : Nat) (h : w.length < 1000) : Rets F_word_turned [.sh (wD w), .sh (.int (k : Int))] (.sh (wD (rle (rot k (exp w))))) := rets_of fun src => by
  have e1 := (from_ok (w := w) k (by omega)).app (n := 2)
  have e2 := (upto_ok (w := w) k (by omega)).app (n := 2)
  have f1 := dn_few w k
  have f2 := up_few w k
  have e3 := told_app (rle ((exp w).drop k) ++ rle ((exp w).take k)) (by simp; omega)
  rw [told_eq, exp_app, exp_rle, exp_rle] at e3
  simp only [App, wL] at e1 e2 e3
  have e4 : datas (((rle ((exp w).drop k)).map rD).map .sh ++ (((rle ((exp w).take k)).map rD).map SV.sh ++ [])) = some ((rle ((exp w).drop k) ++ rle ((exp w).take k)).map rD) := by rw [List.append_nil, datas_two, List.map_append]
  have e5 : ((rle ((exp w).drop k) ++ rle ((exp w).take k)).map rD).length ≤ 16777216 := by simp; omega
  unfold rot
  simp only [wD] at e1 e2 e3 ⊢
  simp only [m_word_turned, cSeq, cSkip, cAsg, cRet, cExpr, cIfS, cFor, cPar, cAug, cSetIx, cBinE, cBinV, cCall1, cCallN, cCall, cIt, cRangeC1, cRangeC2, cEnum, cZip, cTup, cLst, cNil, cCons, cConsR, cStar, cD, cVar, cVarV, vE, cT, cAnd, cOr, cNot, cAndV, cOrV, cNotV, cIf, cChain, cSlE2, cSlV2, bnd, cRev2, cNeg, cBits, cMeth, gNm, gTp, gsCons, gsNil, setMany, datAt, SV.dat, SV.settle, datas, fnsOf, cTupF, cFn, okA, tyD, bnd_ok, bnd_exc, opt_some, quiet_ok, shs_cons, shs_nil, itemsOf, Option.map_some, Option.bind_some, Option.map_none, Option.bind_none, padS, List.map_cons, List.map_nil, List.length_cons, List.length_nil, Nat.reduceAdd, Nat.reduceSub, List.replicate_succ, List.replicate_zero, List.cons_append, List.nil_append, List.getElem?_cons_zero, List.getElem?_cons_succ, List.set_cons_zero, List.set_cons_succ, if_true, if_false, Bool.false_eq_true, dGt, dLt, dLe2, dGe2, dOrd, dOrdI, dAddI, dSub, decide_eq_true_eq, Bool.not_eq_true', decide_eq_false_iff_not, sizeLine_eq, Nat.reduceLeDiff, Nat.zero_le, Nat.reduceLT, Nat.reducePow, beq_self_eq_true, id_eq, e1, e2, e4, e5, e3]
  exact ⟨_, rfl⟩
/-! ### power_told -/
theorem ofn_rep (a : Str) {n : Nat} (hn : 0 < n) : ofn (List.replicate n a) = n := by
  have e : List.replicate n a = pw [a] n := by
    have := rep_rep a 1 n
    simpa using this.symm
  rw [e, ofn_of_pw (by simp) hn]
  have h1 := rsz_le (l := [a]) (by simp)
  have h2 := rsz_pos (l := [a]) (by simp)
  have : rsz [a] = 1 := by simp at h1; omega
  unfold ofn
  rw [this]
  simp
theorem ring_len {w : Wr} : (ringR w).length ≤ w.length := by
  cases w with
  | nil => exact Nat.le_refl _
  | cons p r =>
    rcases snoc_cases r with rfl | ⟨i, q, rfl⟩
    · simp [ringR]
    · rw [ringR_two]
      split <;> simp
/-- how often, by the ring's runs -/
theorem ring_often {w : Wr} (hn : Nrm w) (h : w ≠ []) : ((ringR w).length = 1 → ∃ a, ringR w = [(a, ofn (exp w))]) ∧ ((ringR w).length ≠ 1 → ofn (ringR w) = ofn (exp w)) := by
  obtain ⟨k, hk, e, hr, hc⟩ := ringR_rot hn h
  rcases hc with ⟨p, e1, e2⟩ | hc
  · subst e2
    refine ⟨fun _ => ⟨p.1, ?_⟩, fun z => absurd (by rw [e1]; rfl) z⟩
    rw [e1, exp_one, ofn_rep _ (hn.pos p (by simp))]
  · have := hc.two
    refine ⟨fun z => by omega, fun _ => ?_⟩
    rw [← cyc_ofn hc, e, ofn_rot (exp_ne hn h) (by rw [len_exp]; exact hk)]
theorem power_ok (c : Addr) {w : Wr} (hn : Nrm w) (h : w ≠ []) (hl : w.length ≤ 1000) (hb : tot w < 2 ^ 4000) : Rets (F_power_told c) [.sh (wD w)] (.sh (.tuple [wD (rle (root (exp w))), .int (ofn (exp w) : Int)])) := rets_of fun src => by
  have hx := exp_ne hn h
  have e1 := (let_ok c h 0).app (n := 2)
  have e2 := (ring_runs_ok h hl).app (n := 1)
  have e3 := (long_ok (w := w) (by omega)).app (n := 1)
  have hp := ofn_pos hx
  have hdiv : tot w / ofn (exp w) = rsz (exp w) := by rw [← len_exp, div_rsz hx]
  have hle : ofn (exp w) ≤ tot w := by rw [← len_exp, ← rsz_ofn hx]; exact Nat.le_mul_of_pos_left _ (rsz_pos hx)
  have e4 := (upto_ok (w := w) (rsz (exp w)) (by omega)).app (n := 2)
  have f1 := fdivI (i := (tot w : Int)) (j := (ofn (exp w) : Int)) (by omega) (nat_log (by omega))
  rw [ediv_nat, hdiv] at f1
  obtain ⟨r1, r2⟩ := ring_often hn h
  have l1 := len_w (ringR w)
  simp only [App] at e1 e2 e3 e4
  unfold root
  by_cases z : (ringR w).length = 1
  · obtain ⟨a, ea⟩ := r1 z
    have d1 : decide (((ringR w).length : Int) = 1) = true := decide_eq_true (by omega)
    have g1 : dIx (wD (ringR w)) (.int 0) = some (.sh (rD (a, ofn (exp w)))) := by rw [ea]; exact wd_first _ _
    have g2 := rD_snd (a, ofn (exp w))
    simp only [m_power_told, cSeq, cSkip, cAsg, cRet, cExpr, cIfS, cFor, cPar, cAug, cSetIx, cBinE, cBinV, cCall1, cCallN, cCall, cIt, cRangeC1, cRangeC2, cEnum, cZip, cTup, cLst, cNil, cCons, cConsR, cStar, cD, cVar, cVarV, vE, cT, cAnd, cOr, cNot, cAndV, cOrV, cNotV, cIf, cChain, cSlE2, cSlV2, bnd, cRev2, cNeg, cBits, cMeth, gNm, gTp, gsCons, gsNil, setMany, datAt, SV.dat, SV.settle, datas, fnsOf, cTupF, cFn, okA, tyD, bnd_ok, bnd_exc, opt_some, quiet_ok, shs_cons, shs_nil, itemsOf, Option.map_some, Option.bind_some, Option.map_none, Option.bind_none, padS, List.map_cons, List.map_nil, List.length_cons, List.length_nil, Nat.reduceAdd, Nat.reduceSub, List.replicate_succ, List.replicate_zero, List.cons_append, List.nil_append, List.getElem?_cons_zero, List.getElem?_cons_succ, List.set_cons_zero, List.set_cons_succ, if_true, if_false, Bool.false_eq_true, dGt, dLt, dLe2, dGe2, dOrd, dOrdI, dAddI, dSub, decide_eq_true_eq, Bool.not_eq_true', decide_eq_false_iff_not, sizeLine_eq, Nat.reduceLeDiff, Nat.zero_le, Nat.reduceLT, Nat.reducePow, beq_self_eq_true, id_eq, e1, e2, l1, dEq_int, d1, g1, g2, e3, f1, e4]
    exact ⟨_, rfl⟩
  · have d1 : decide (((ringR w).length : Int) = 1) = false := decide_eq_false (by omega)
    have hr0 : ringR w ≠ [] := by
      obtain ⟨k, hk, e, hr, hc⟩ := ringR_rot hn h
      rcases hc with ⟨p, e1, _⟩ | hc
      · rw [e1]; simp
      · exact hc.ne
    have g1 := (often_ok hr0 (Nat.le_trans ring_len hl)).app (n := 1)
    rw [r2 z] at g1
    simp only [App] at g1
    simp only [m_power_told, cSeq, cSkip, cAsg, cRet, cExpr, cIfS, cFor, cPar, cAug, cSetIx, cBinE, cBinV, cCall1, cCallN, cCall, cIt, cRangeC1, cRangeC2, cEnum, cZip, cTup, cLst, cNil, cCons, cConsR, cStar, cD, cVar, cVarV, vE, cT, cAnd, cOr, cNot, cAndV, cOrV, cNotV, cIf, cChain, cSlE2, cSlV2, bnd, cRev2, cNeg, cBits, cMeth, gNm, gTp, gsCons, gsNil, setMany, datAt, SV.dat, SV.settle, datas, fnsOf, cTupF, cFn, okA, tyD, bnd_ok, bnd_exc, opt_some, quiet_ok, shs_cons, shs_nil, itemsOf, Option.map_some, Option.bind_some, Option.map_none, Option.bind_none, padS, List.map_cons, List.map_nil, List.length_cons, List.length_nil, Nat.reduceAdd, Nat.reduceSub, List.replicate_succ, List.replicate_zero, List.cons_append, List.nil_append, List.getElem?_cons_zero, List.getElem?_cons_succ, List.set_cons_zero, List.set_cons_succ, if_true, if_false, Bool.false_eq_true, dGt, dLt, dLe2, dGe2, dOrd, dOrdI, dAddI, dSub, decide_eq_true_eq, Bool.not_eq_true', decide_eq_false_iff_not, sizeLine_eq, Nat.reduceLeDiff, Nat.zero_le, Nat.reduceLT, Nat.reducePow, beq_self_eq_true, id_eq, e1, e2, l1, dEq_int, d1, g1, e3, f1, e4]
    exact ⟨_, rfl⟩
theorem power_no (c : Addr) : Excs (F_power_told c) [.sh (.tuple [])] (noneX c 0) := excs_of fun src => by
  have e1 := (let_no c 0).app (n := 2)
  simp only [AppX] at e1
  simp only [m_power_told, cSeq, cSkip, cAsg, cRet, cExpr, cIfS, cFor, cPar, cAug, cSetIx, cBinE, cBinV, cCall1, cCallN, cCall, cIt, cRangeC1, cRangeC2, cEnum, cZip, cTup, cLst, cNil, cCons, cConsR, cStar, cD, cVar, cVarV, vE, cT, cAnd, cOr, cNot, cAndV, cOrV, cNotV, cIf, cChain, cSlE2, cSlV2, bnd, cRev2, cNeg, cBits, cMeth, gNm, gTp, gsCons, gsNil, setMany, datAt, SV.dat, SV.settle, datas, fnsOf, cTupF, cFn, okA, tyD, bnd_ok, bnd_exc, opt_some, quiet_ok, shs_cons, shs_nil, itemsOf, Option.map_some, Option.bind_some, Option.map_none, Option.bind_none, padS, List.map_cons, List.map_nil, List.length_cons, List.length_nil, Nat.reduceAdd, Nat.reduceSub, List.replicate_succ, List.replicate_zero, List.cons_append, List.nil_append, List.getElem?_cons_zero, List.getElem?_cons_succ, List.set_cons_zero, List.set_cons_succ, if_true, if_false, Bool.false_eq_true, dGt, dLt, dLe2, dGe2, dOrd, dOrdI, dAddI, dSub, decide_eq_true_eq, Bool.not_eq_true', decide_eq_false_iff_not, sizeLine_eq, Nat.reduceLeDiff, Nat.zero_le, Nat.reduceLT, Nat.reducePow, beq_self_eq_true, id_eq, e1]
  exact ⟨_, rfl⟩
/-! ### order_told, is_ahead -/
def sLt (a b : Str) : Prop := strLt a b = true
def ordD : Option (Nat × Str × Str) → D
  | none => .tuple [.str "alike", .none]
  | some (i, a, b) => .tuple [.str (if strLt a b = true then "before" else "behind"), .int (i : Int)]
theorem order_ok (c t : Addr) {u v : Wr} (hu : Nrm u) (hv : Nrm v) (hu0 : u ≠ []) (hv0 : v ≠ []) (hl : u.length ≤ 900) (hl' : v.length ≤ 900) (hb : ((tot u + tot v : Nat) : Int) ≤ far) : ∃ r, partR (om (exp u)) (om (exp v)) r ∧ Rets F_endless_parted [.sh (wD u), .sh (wD v)] (.sh (partD r)) ∧ Rets (F_order_told c t) [.sh (wD u), .sh (wD v)] (.sh (ordD r)) := by
  obtain ⟨r, h1, h2⟩ := parted_ok hu hv hu0 hv0 hl hl'
  refine ⟨r, h1, h2, rets_of fun src => ?_⟩
  have e1 := (let_ok c hu0 0).app (n := 2)
  have e2 := (let_ok c hv0 1).app (n := 2)
  have e3 := h2.app (n := 2)
  simp only [App] at e1 e2 e3
  cases r with
  | none =>
    simp only [partD] at e3
    simp only [m_order_told, cSeq, cSkip, cAsg, cRet, cExpr, cIfS, cFor, cPar, cAug, cSetIx, cBinE, cBinV, cCall1, cCallN, cCall, cIt, cRangeC1, cRangeC2, cEnum, cZip, cTup, cLst, cNil, cCons, cConsR, cStar, cD, cVar, cVarV, vE, cT, cAnd, cOr, cNot, cAndV, cOrV, cNotV, cIf, cChain, cSlE2, cSlV2, bnd, cRev2, cNeg, cBits, cMeth, gNm, gTp, gsCons, gsNil, setMany, datAt, SV.dat, SV.settle, datas, fnsOf, cTupF, cFn, okA, tyD, bnd_ok, bnd_exc, opt_some, quiet_ok, shs_cons, shs_nil, itemsOf, Option.map_some, Option.bind_some, Option.map_none, Option.bind_none, padS, List.map_cons, List.map_nil, List.length_cons, List.length_nil, Nat.reduceAdd, Nat.reduceSub, List.replicate_succ, List.replicate_zero, List.cons_append, List.nil_append, List.getElem?_cons_zero, List.getElem?_cons_succ, List.set_cons_zero, List.set_cons_succ, if_true, if_false, Bool.false_eq_true, dGt, dLt, dLe2, dGe2, dOrd, dOrdI, dAddI, dSub, decide_eq_true_eq, Bool.not_eq_true', decide_eq_false_iff_not, sizeLine_eq, Nat.reduceLeDiff, Nat.zero_le, Nat.reduceLT, Nat.reducePow, beq_self_eq_true, id_eq, e1, e2, e3, dIs, isNone, Bool.false_xor, ordD]
    exact ⟨_, rfl⟩
  | some x =>
    obtain ⟨i, a, b⟩ := x
    have hi := FD.lt_sum (exp_ne hu hu0) (exp_ne hv hv0) h1
    rw [len_exp, len_exp] at hi
    have e4 := (not_long_ok t (n := (i : Int)) (by omega) (by omega)).app (n := 1)
    simp only [App] at e4
    simp only [partD] at e3
    by_cases z : strLt a b = true
    · simp only [m_order_told, cSeq, cSkip, cAsg, cRet, cExpr, cIfS, cFor, cPar, cAug, cSetIx, cBinE, cBinV, cCall1, cCallN, cCall, cIt, cRangeC1, cRangeC2, cEnum, cZip, cTup, cLst, cNil, cCons, cConsR, cStar, cD, cVar, cVarV, vE, cT, cAnd, cOr, cNot, cAndV, cOrV, cNotV, cIf, cChain, cSlE2, cSlV2, bnd, cRev2, cNeg, cBits, cMeth, gNm, gTp, gsCons, gsNil, setMany, datAt, SV.dat, SV.settle, datas, fnsOf, cTupF, cFn, okA, tyD, bnd_ok, bnd_exc, opt_some, quiet_ok, shs_cons, shs_nil, itemsOf, Option.map_some, Option.bind_some, Option.map_none, Option.bind_none, padS, List.map_cons, List.map_nil, List.length_cons, List.length_nil, Nat.reduceAdd, Nat.reduceSub, List.replicate_succ, List.replicate_zero, List.cons_append, List.nil_append, List.getElem?_cons_zero, List.getElem?_cons_succ, List.set_cons_zero, List.set_cons_succ, if_true, if_false, Bool.false_eq_true, dGt, dLt, dLe2, dGe2, dOrd, dOrdI, dAddI, dSub, decide_eq_true_eq, Bool.not_eq_true', decide_eq_false_iff_not, sizeLine_eq, Nat.reduceLeDiff, Nat.zero_le, Nat.reduceLT, Nat.reducePow, beq_self_eq_true, id_eq, e1, e2, e3, dIs, isNone, Bool.false_xor, ordD, ix_t0, ix_t1, ix_t2, z, e4]
      exact ⟨_, rfl⟩
    · have z : strLt a b = false := by simpa using z
      simp only [m_order_told, cSeq, cSkip, cAsg, cRet, cExpr, cIfS, cFor, cPar, cAug, cSetIx, cBinE, cBinV, cCall1, cCallN, cCall, cIt, cRangeC1, cRangeC2, cEnum, cZip, cTup, cLst, cNil, cCons, cConsR, cStar, cD, cVar, cVarV, vE, cT, cAnd, cOr, cNot, cAndV, cOrV, cNotV, cIf, cChain, cSlE2, cSlV2, bnd, cRev2, cNeg, cBits, cMeth, gNm, gTp, gsCons, gsNil, setMany, datAt, SV.dat, SV.settle, datas, fnsOf, cTupF, cFn, okA, tyD, bnd_ok, bnd_exc, opt_some, quiet_ok, shs_cons, shs_nil, itemsOf, Option.map_some, Option.bind_some, Option.map_none, Option.bind_none, padS, List.map_cons, List.map_nil, List.length_cons, List.length_nil, Nat.reduceAdd, Nat.reduceSub, List.replicate_succ, List.replicate_zero, List.cons_append, List.nil_append, List.getElem?_cons_zero, List.getElem?_cons_succ, List.set_cons_zero, List.set_cons_succ, if_true, if_false, Bool.false_eq_true, dGt, dLt, dLe2, dGe2, dOrd, dOrdI, dAddI, dSub, decide_eq_true_eq, Bool.not_eq_true', decide_eq_false_iff_not, sizeLine_eq, Nat.reduceLeDiff, Nat.zero_le, Nat.reduceLT, Nat.reducePow, beq_self_eq_true, id_eq, e1, e2, e3, dIs, isNone, Bool.false_xor, ordD, ix_t0, ix_t1, ix_t2, z, e4]
      exact ⟨_, rfl⟩
theorem sto_str : Sto sLt where
  irr a h := by
    unfold sLt strLt at h
    exact absurd (of_decide_eq_true h) (List.lt_irrefl _)
  tr a b c h1 h2 := by
    unfold sLt strLt at *
    exact decide_eq_true (List.lt_trans (of_decide_eq_true h1) (of_decide_eq_true h2))
  tri a b := by
    unfold sLt strLt
    simp only [decide_eq_true_eq]
    by_cases h1 : a.cps.toList < b.cps.toList
    · exact .inl h1
    · by_cases h2 : b.cps.toList < a.cps.toList
      · exact .inr (.inr h2)
      · exact .inr (.inl (PySem.W.str_of_cps (List.le_antisymm (List.not_lt.mp h2) (List.not_lt.mp h1))))
end Law
end Pw
set_option Elab.async false
set_option linter.all false
set_option maxRecDepth 100000
set_option exponentiation.threshold 10000
namespace Pw
namespace Law
open PySem PySem.Spec PyProof.Rows L2 Pw.Wd
/-! ### rows of letters, lists here -/
def LD (l : List Str) : D := .list (l.map .str)
theorem eqvAll_s : ∀ (u v : List Str), PyData.eqvAll (u.map .str) (v.map .str) = decide (u = v)
  | [], [] => rfl
  | [], _ :: _ => rfl
  | _ :: _, [] => rfl
  | p :: u, q :: v => by
    have ih := eqvAll_s u v
    simp only [List.map_cons, PyData.eqvAll, ih, PyData.eqv]
    by_cases h1 : p = q <;> by_cases h2 : u = v <;> simp [h1, h2]
theorem plain_s (w : List Str) : PyData.plainAll (w.map .str) = true := by
  induction w with
  | nil => rfl
  | cons p w ih => simp only [List.map_cons, PyData.plainAll, PyData.plain, ih, Bool.and_self]
theorem depth_s (w : List Str) : PyData.depthAll (w.map .str) = 0 := by
  induction w with
  | nil => rfl
  | cons p w ih => simp only [List.map_cons, PyData.depthAll, ih, PyData.depth, Nat.max_self]
theorem dEq_s (u v : List Str) : dEq (LD u) (LD v) = some (.sh (.bool (decide (u = v)))) := by
  unfold dEq eqOk LD
  simp only [PyData.plain, plain_s, PyData.depth, depth_s, PyData.eqv, eqvAll_s, Bool.and_self, Bool.true_and]
  rfl
theorem len_s (l : List Str) : dLen (LD l) = some (.sh (.int (l.length : Int))) := by
  unfold LD
  rw [len_l, List.length_map]
theorem lcut_to (xs : List D) (k : Nat) : dSl2 (.list xs) none (some (k : Int)) = some (.own (.list (xs.take k))) := by
  have h := sl_to xs k
  unfold dSl2 at h ⊢
  simp only [Option.some.injEq, SV.sh.injEq, PyData.tuple.injEq] at h
  simp only [h]
theorem lcut_from (xs : List D) (k : Nat) : dSl2 (.list xs) (some (k : Int)) none = some (.own (.list (xs.drop k))) := by
  have h := sl_from xs k
  unfold dSl2 at h ⊢
  simp only [Option.some.injEq, SV.sh.injEq, PyData.tuple.injEq] at h
  simp only [h]
theorem ls_take (w : List Str) (k : Nat) : dSl2 (LD w) none (some (k : Int)) = some (.own (LD (w.take k))) := by
  unfold LD
  rw [lcut_to, List.map_take]
theorem ls_drop (w : List Str) (k : Nat) : dSl2 (LD w) (some (k : Int)) none = some (.own (LD (w.drop k))) := by
  unfold LD
  rw [lcut_from, List.map_drop]
theorem map_pws (w : List Str) (k : Nat) : (List.replicate k (w.map PyData.str)).flatten = (pw w k).map .str := by
  unfold pw
  rw [List.map_flatten, List.map_replicate]
theorem ls_pw {w : List Str} {k : Nat} (hk2 : k ≤ 1000) (hx : w.length ≤ 1000) : dMul2 (LD w) (.int (k : Int)) = some (.own (LD (pw w k))) := by
  unfold LD
  have hz : (w.map PyData.str).length * (k : Int).toNat ≤ sizeLine := by
    rw [List.length_map, Int.toNat_natCast]
    exact szl (Nat.mul_le_mul hx hk2)
  rw [mulL ⟨by omega, by omega, hz⟩, Int.toNat_natCast, map_pws]
theorem ls_add {u v : List Str} (h : u.length + v.length ≤ 1000000) : dAdd (LD u) (LD v) = some (.own (LD (u ++ v))) := by
  unfold dAdd LD
  dsimp only
  rw [if_pos (by rw [sizeLine_eq]; simp; omega), List.map_append]
theorem ls_at {l : List Str} {k : Nat} (h : k < l.length) : dIx (LD l) (.int (k : Int)) = some (.sh (.str l[k])) := by
  unfold LD
  refine ix_l ?_
  rw [atI_nat (by simpa using h)]
  simp
/-! ### _law_runs -/
theorem lw_step (o0 : Option SV) (src : Option Src) (acc : Wr) (a : Str) (h : acc.length < 1000000) : b_law_runs_0 ⟨[o0, some (.own (.list (acc.map rD))), some (.sh (.str a))], src⟩ = .ok .nx ⟨[o0, some (.own (.list ((addRun acc (a, 1)).map rD))), some (.sh (.str a))], src⟩ := by
  rcases snoc_cases acc with rfl | ⟨i, q, rfl⟩
  · rw [addRun_nil (p := (a, 1)) (Nat.succ_ne_zero 0)]
    simp only [b_law_runs_0, cSeq, cSkip, cAsg, cRet, cExpr, cIfS, cFor, cPar, cAug, cSetIx, cBinE, cBinV, cCall1, cCallN, cCall, cIt, cRangeC1, cRangeC2, cEnum, cZip, cTup, cLst, cNil, cCons, cConsR, cStar, cD, cVar, cVarV, vE, cT, cAnd, cOr, cNot, cAndV, cOrV, cNotV, cIf, cChain, cSlE2, cSlV2, bnd, cRev2, cNeg, cBits, cMeth, gNm, gTp, gsCons, gsNil, setMany, datAt, SV.dat, SV.settle, datas, fnsOf, cTupF, cFn, okA, tyD, bnd_ok, bnd_exc, opt_some, quiet_ok, shs_cons, shs_nil, itemsOf, Option.map_some, Option.bind_some, Option.map_none, Option.bind_none, padS, List.map_cons, List.map_nil, List.length_cons, List.length_nil, Nat.reduceAdd, Nat.reduceSub, List.replicate_succ, List.replicate_zero, List.cons_append, List.nil_append, List.getElem?_cons_zero, List.getElem?_cons_succ, List.set_cons_zero, List.set_cons_succ, if_true, if_false, Bool.false_eq_true, dGt, dLt, dLe2, dGe2, dOrd, dOrdI, dAddI, dSub, decide_eq_true_eq, Bool.not_eq_true', decide_eq_false_iff_not, sizeLine_eq, Nat.reduceLeDiff, Nat.zero_le, Nat.reduceLT, Nat.reducePow, beq_self_eq_true, id_eq, dNe_nn, app_ok (xs := []) (x := .tuple [.str a, .int 1]) (by simp)]
    rfl
  · by_cases e : q.1 = a
    · rw [addRun_same (p := (a, 1)) (Nat.succ_ne_zero 0) e]
      simp only [b_law_runs_0, cSeq, cSkip, cAsg, cRet, cExpr, cIfS, cFor, cPar, cAug, cSetIx, cBinE, cBinV, cCall1, cCallN, cCall, cIt, cRangeC1, cRangeC2, cEnum, cZip, cTup, cLst, cNil, cCons, cConsR, cStar, cD, cVar, cVarV, vE, cT, cAnd, cOr, cNot, cAndV, cOrV, cNotV, cIf, cChain, cSlE2, cSlV2, bnd, cRev2, cNeg, cBits, cMeth, gNm, gTp, gsCons, gsNil, setMany, datAt, SV.dat, SV.settle, datas, fnsOf, cTupF, cFn, okA, tyD, bnd_ok, bnd_exc, opt_some, quiet_ok, shs_cons, shs_nil, itemsOf, Option.map_some, Option.bind_some, Option.map_none, Option.bind_none, padS, List.map_cons, List.map_nil, List.length_cons, List.length_nil, Nat.reduceAdd, Nat.reduceSub, List.replicate_succ, List.replicate_zero, List.cons_append, List.nil_append, List.getElem?_cons_zero, List.getElem?_cons_succ, List.set_cons_zero, List.set_cons_succ, if_true, if_false, Bool.false_eq_true, dGt, dLt, dLe2, dGe2, dOrd, dOrdI, dAddI, dSub, decide_eq_true_eq, Bool.not_eq_true', decide_eq_false_iff_not, sizeLine_eq, Nat.reduceLeDiff, Nat.zero_le, Nat.reduceLT, Nat.reducePow, beq_self_eq_true, id_eq, dNe_snoc, wl_last, rD_fst, rD_snd, dEq_str, e, decide_true, add_int, wl_set']
      simp [rD]
    · rw [addRun_new (p := (a, 1)) (Nat.succ_ne_zero 0) e]
      simp only [b_law_runs_0, cSeq, cSkip, cAsg, cRet, cExpr, cIfS, cFor, cPar, cAug, cSetIx, cBinE, cBinV, cCall1, cCallN, cCall, cIt, cRangeC1, cRangeC2, cEnum, cZip, cTup, cLst, cNil, cCons, cConsR, cStar, cD, cVar, cVarV, vE, cT, cAnd, cOr, cNot, cAndV, cOrV, cNotV, cIf, cChain, cSlE2, cSlV2, bnd, cRev2, cNeg, cBits, cMeth, gNm, gTp, gsCons, gsNil, setMany, datAt, SV.dat, SV.settle, datas, fnsOf, cTupF, cFn, okA, tyD, bnd_ok, bnd_exc, opt_some, quiet_ok, shs_cons, shs_nil, itemsOf, Option.map_some, Option.bind_some, Option.map_none, Option.bind_none, padS, List.map_cons, List.map_nil, List.length_cons, List.length_nil, Nat.reduceAdd, Nat.reduceSub, List.replicate_succ, List.replicate_zero, List.cons_append, List.nil_append, List.getElem?_cons_zero, List.getElem?_cons_succ, List.set_cons_zero, List.set_cons_succ, if_true, if_false, Bool.false_eq_true, dGt, dLt, dLe2, dGe2, dOrd, dOrdI, dAddI, dSub, decide_eq_true_eq, Bool.not_eq_true', decide_eq_false_iff_not, sizeLine_eq, Nat.reduceLeDiff, Nat.zero_le, Nat.reduceLT, Nat.reducePow, beq_self_eq_true, id_eq, dNe_snoc, wl_last, rD_fst, rD_snd, dEq_str, e, decide_false, app_ok (xs := (i ++ [q]).map rD) (x := .tuple [.str a, .int 1]) (by simpa using h)]
      simp [rD]
theorem lw_loop (o0 : Option SV) (src : Option Src) : ∀ (l : List Str) (acc : Wr) (o2 : Option SV), acc.length + l.length < 1000000 → ∃ o2', forL (gNm 2) b_law_runs_0 (shs (l.map .str)) ⟨[o0, some (.own (.list (acc.map rD))), o2], src⟩ = .ok .nx ⟨[o0, some (.own (.list (((sing l).foldl addRun acc).map rD))), o2'], src⟩
  | [], acc, o2, _ => ⟨o2, rfl⟩
  | a :: l, acc, o2, h => by
    have hl : (addRun acc (a, 1)).length + l.length < 1000000 := by
      have := addRun_len acc (a, 1)
      simp at h
      omega
    obtain ⟨o2', ih⟩ := lw_loop o0 src l (addRun acc (a, 1)) (some (.sh (.str a))) hl
    exact ⟨o2', (forL_step (by rfl) (lw_step o0 src acc a (by simp at h; omega))).trans ih⟩
theorem lw_ok (l : List Str) (h : l.length < 1000000) : Rets F_law_runs [.sh (LD l)] (.sh (wD (rle l))) := rets_of fun src => by
  obtain ⟨o2, e⟩ := lw_loop (some (.sh (LD l))) src l [] none (by simpa using h)
  simp only [List.map_nil] at e
  simp only [m_law_runs, cSeq, cSkip, cAsg, cRet, cExpr, cIfS, cFor, cPar, cAug, cSetIx, cBinE, cBinV, cCall1, cCallN, cCall, cIt, cRangeC1, cRangeC2, cEnum, cZip, cTup, cLst, cNil, cCons, cConsR, cStar, cD, cVar, cVarV, vE, cT, cAnd, cOr, cNot, cAndV, cOrV, cNotV, cIf, cChain, cSlE2, cSlV2, bnd, cRev2, cNeg, cBits, cMeth, gNm, gTp, gsCons, gsNil, setMany, datAt, SV.dat, SV.settle, datas, fnsOf, cTupF, cFn, okA, tyD, bnd_ok, bnd_exc, opt_some, quiet_ok, shs_cons, shs_nil, itemsOf, Option.map_some, Option.bind_some, Option.map_none, Option.bind_none, padS, List.map_cons, List.map_nil, List.length_cons, List.length_nil, Nat.reduceAdd, Nat.reduceSub, List.replicate_succ, List.replicate_zero, List.cons_append, List.nil_append, List.getElem?_cons_zero, List.getElem?_cons_succ, List.set_cons_zero, List.set_cons_succ, if_true, if_false, Bool.false_eq_true, dGt, dLt, dLe2, dGe2, dOrd, dOrdI, dAddI, dSub, decide_eq_true_eq, Bool.not_eq_true', decide_eq_false_iff_not, sizeLine_eq, Nat.reduceLeDiff, Nat.zero_le, Nat.reduceLT, Nat.reducePow, beq_self_eq_true, id_eq, LD] at e ⊢
  rw [e]
  simp only [cSeq, cSkip, cAsg, cRet, cExpr, cIfS, cFor, cPar, cAug, cSetIx, cBinE, cBinV, cCall1, cCallN, cCall, cIt, cRangeC1, cRangeC2, cEnum, cZip, cTup, cLst, cNil, cCons, cConsR, cStar, cD, cVar, cVarV, vE, cT, cAnd, cOr, cNot, cAndV, cOrV, cNotV, cIf, cChain, cSlE2, cSlV2, bnd, cRev2, cNeg, cBits, cMeth, gNm, gTp, gsCons, gsNil, setMany, datAt, SV.dat, SV.settle, datas, fnsOf, cTupF, cFn, okA, tyD, bnd_ok, bnd_exc, opt_some, quiet_ok, shs_cons, shs_nil, itemsOf, Option.map_some, Option.bind_some, Option.map_none, Option.bind_none, padS, List.map_cons, List.map_nil, List.length_cons, List.length_nil, Nat.reduceAdd, Nat.reduceSub, List.replicate_succ, List.replicate_zero, List.cons_append, List.nil_append, List.getElem?_cons_zero, List.getElem?_cons_succ, List.set_cons_zero, List.set_cons_succ, if_true, if_false, Bool.false_eq_true, dGt, dLt, dLe2, dGe2, dOrd, dOrdI, dAddI, dSub, decide_eq_true_eq, Bool.not_eq_true', decide_eq_false_iff_not, sizeLine_eq, Nat.reduceLeDiff, Nat.zero_le, Nat.reduceLT, Nat.reducePow, beq_self_eq_true, id_eq, tup_l]
  exact ⟨_, rfl⟩
/-! ### _law_root -/
def rootD (l : List Str) : D := .tuple [LD (root l), .int (ofn l : Int)]
theorem lr_step {l : List Str} (hl : l ≠ []) (h : l.length ≤ 1000) (src : Option Src) (k : Nat) (h0 : 0 < k) (hk : k ≤ l.length) : b_law_root_0 ⟨[some (.sh (LD l)), some (.sh (.int (k : Int)))], src⟩ = if Per l k then .ok (.ret (.sh (.tuple [LD (l.take k), .int ((l.length / k : Nat) : Int)]))) ⟨[some (.sh (LD l)), some (.sh (.int (k : Int)))], src⟩ else .ok .nx ⟨[some (.sh (LD l)), some (.sh (.int (k : Int)))], src⟩ := by
  have f1 := fdivI (i := (l.length : Int)) (j := (k : Int)) (by omega) (nat_log (Nat.le_trans (Nat.le_trans hk h) (by decide +kernel)))
  rw [ediv_nat] at f1
  have e1 := ls_pw (w := l.take k) (k := l.length / k) (Nat.le_trans (Nat.div_le_self _ _) h) (by rw [List.length_take]; omega)
  have e2 := dEq_s (pw (l.take k) (l.length / k)) l
  by_cases z : Per l k
  · have z' : pw (l.take k) (l.length / k) = l := z
    rw [z'] at e1 e2
    rw [if_pos z]
    simp only [b_law_root_0, cSeq, cSkip, cAsg, cRet, cExpr, cIfS, cFor, cPar, cAug, cSetIx, cBinE, cBinV, cCall1, cCallN, cCall, cIt, cRangeC1, cRangeC2, cEnum, cZip, cTup, cLst, cNil, cCons, cConsR, cStar, cD, cVar, cVarV, vE, cT, cAnd, cOr, cNot, cAndV, cOrV, cNotV, cIf, cChain, cSlE2, cSlV2, bnd, cRev2, cNeg, cBits, cMeth, gNm, gTp, gsCons, gsNil, setMany, datAt, SV.dat, SV.settle, datas, fnsOf, cTupF, cFn, okA, tyD, bnd_ok, bnd_exc, opt_some, quiet_ok, shs_cons, shs_nil, itemsOf, Option.map_some, Option.bind_some, Option.map_none, Option.bind_none, padS, List.map_cons, List.map_nil, List.length_cons, List.length_nil, Nat.reduceAdd, Nat.reduceSub, List.replicate_succ, List.replicate_zero, List.cons_append, List.nil_append, List.getElem?_cons_zero, List.getElem?_cons_succ, List.set_cons_zero, List.set_cons_succ, if_true, if_false, Bool.false_eq_true, dGt, dLt, dLe2, dGe2, dOrd, dOrdI, dAddI, dSub, decide_eq_true_eq, Bool.not_eq_true', decide_eq_false_iff_not, sizeLine_eq, Nat.reduceLeDiff, Nat.zero_le, Nat.reduceLT, Nat.reducePow, beq_self_eq_true, id_eq, ls_take, len_s, f1, e1, e2, decide_true, dis_tup]
  · have z' : ¬ pw (l.take k) (l.length / k) = l := z
    rw [decide_eq_false z'] at e2
    rw [if_neg z]
    simp only [b_law_root_0, cSeq, cSkip, cAsg, cRet, cExpr, cIfS, cFor, cPar, cAug, cSetIx, cBinE, cBinV, cCall1, cCallN, cCall, cIt, cRangeC1, cRangeC2, cEnum, cZip, cTup, cLst, cNil, cCons, cConsR, cStar, cD, cVar, cVarV, vE, cT, cAnd, cOr, cNot, cAndV, cOrV, cNotV, cIf, cChain, cSlE2, cSlV2, bnd, cRev2, cNeg, cBits, cMeth, gNm, gTp, gsCons, gsNil, setMany, datAt, SV.dat, SV.settle, datas, fnsOf, cTupF, cFn, okA, tyD, bnd_ok, bnd_exc, opt_some, quiet_ok, shs_cons, shs_nil, itemsOf, Option.map_some, Option.bind_some, Option.map_none, Option.bind_none, padS, List.map_cons, List.map_nil, List.length_cons, List.length_nil, Nat.reduceAdd, Nat.reduceSub, List.replicate_succ, List.replicate_zero, List.cons_append, List.nil_append, List.getElem?_cons_zero, List.getElem?_cons_succ, List.set_cons_zero, List.set_cons_succ, if_true, if_false, Bool.false_eq_true, dGt, dLt, dLe2, dGe2, dOrd, dOrdI, dAddI, dSub, decide_eq_true_eq, Bool.not_eq_true', decide_eq_false_iff_not, sizeLine_eq, Nat.reduceLeDiff, Nat.zero_le, Nat.reduceLT, Nat.reducePow, beq_self_eq_true, id_eq, ls_take, len_s, f1, e1, e2]
theorem lr_loop {l : List Str} (hl : l ≠ []) (h : l.length ≤ 1000) (src : Option Src) : ∀ (n k : Nat) (o1 : Option SV), 0 < k → k + n = l.length + 1 → (∀ s, 0 < s → s < k → ¬ Per l s) → ∃ sl, forL (gNm 1) b_law_root_0 (shs (rg k n)) ⟨[some (.sh (LD l)), o1], src⟩ = .ok (.ret (.sh (rootD l))) ⟨sl, src⟩
  | 0, k, o1, h0, hk, hp => absurd (per_self l) (hp _ (List.length_pos_iff.mpr hl) (by omega))
  | n + 1, k, o1, h0, hk, hp => by
    have e := lr_step hl h src k h0 (by omega)
    rw [rg_succ, shs_cons]
    by_cases z : Per l k
    · rw [if_pos z] at e
      have : rsz l = k := by
        have a := rsz_min hl h0 z
        apply Nat.le_antisymm a
        apply Nat.le_of_not_lt
        intro q
        exact hp _ (rsz_pos hl) q (rsz_per hl)
      unfold rootD root ofn
      rw [this]
      exact ⟨_, forL_ret rfl e⟩
    · rw [if_neg z] at e
      obtain ⟨sl, ih⟩ := lr_loop hl h src n (k + 1) (some (.sh (.int (k : Int)))) (by omega) (by omega) fun s s0 s1 => by
        by_cases q : s = k
        · rw [q]; exact z
        · exact hp s s0 (by omega)
      exact ⟨sl, (forL_step rfl e).trans ih⟩
theorem lr_ok {l : List Str} (hl : l ≠ []) (h : l.length ≤ 1000) : Rets F_law_root [.sh (LD l)] (.sh (rootD l)) := rets_of fun src => by
  obtain ⟨sl, e⟩ := lr_loop hl h src l.length 1 none (by decide) (by omega) (fun s a b => by omega)
  have b1 : -(2 ^ 62 : Int) ≤ 1 ∧ (1 : Int) < 2 ^ 62 ∧ -(2 ^ 62 : Int) ≤ (l.length : Int) + 1 ∧ (l.length : Int) + 1 < 2 ^ 62 := by omega
  have b2 : ((l.length : Int) + 1 - 1).toNat = l.length := by omega
  simp only [m_law_root, cSeq, cSkip, cAsg, cRet, cExpr, cIfS, cFor, cPar, cAug, cSetIx, cBinE, cBinV, cCall1, cCallN, cCall, cIt, cRangeC1, cRangeC2, cEnum, cZip, cTup, cLst, cNil, cCons, cConsR, cStar, cD, cVar, cVarV, vE, cT, cAnd, cOr, cNot, cAndV, cOrV, cNotV, cIf, cChain, cSlE2, cSlV2, bnd, cRev2, cNeg, cBits, cMeth, gNm, gTp, gsCons, gsNil, setMany, datAt, SV.dat, SV.settle, datas, fnsOf, cTupF, cFn, okA, tyD, bnd_ok, bnd_exc, opt_some, quiet_ok, shs_cons, shs_nil, itemsOf, Option.map_some, Option.bind_some, Option.map_none, Option.bind_none, padS, List.map_cons, List.map_nil, List.length_cons, List.length_nil, Nat.reduceAdd, Nat.reduceSub, List.replicate_succ, List.replicate_zero, List.cons_append, List.nil_append, List.getElem?_cons_zero, List.getElem?_cons_succ, List.set_cons_zero, List.set_cons_succ, if_true, if_false, Bool.false_eq_true, dGt, dLt, dLe2, dGe2, dOrd, dOrdI, dAddI, dSub, decide_eq_true_eq, Bool.not_eq_true', decide_eq_false_iff_not, sizeLine_eq, Nat.reduceLeDiff, Nat.zero_le, Nat.reduceLT, Nat.reducePow, beq_self_eq_true, id_eq, len_s, add_int, ifc_pos b1, b2, show rgD 1 l.length = rg 1 l.length from rgD_rg 1 _, e]
  exact ⟨_, rfl⟩
/-! ### _law_parted: the first place at which two endless words part -/
abbrev ptS (u v : List Str) (o2 o3 o4 : Option SV) (src : Option Src) : S := ⟨[some (.sh (LD u)), some (.sh (LD v)), o2, o3, o4], src⟩
def ptR (k : Nat) (a b : Str) : SV := .sh (.tuple [.int (k : Int), .str a, .str b])
theorem pt_step {u v : List Str} (hu : 0 < u.length) (hv : 0 < v.length) (o3 o4 : Option SV) (src : Option Src) (k : Nat) : b_law_parted_0 (ptS u v (some (.sh (.int (k : Int)))) o3 o4 src) =
    if u[k % u.length]'(Nat.mod_lt _ hu) = v[k % v.length]'(Nat.mod_lt _ hv) then .ok .nx (ptS u v (some (.sh (.int (k : Int)))) (some (.sh (.str (u[k % u.length]'(Nat.mod_lt _ hu))))) (some (.sh (.str (v[k % v.length]'(Nat.mod_lt _ hv))))) src)
    else .ok (.ret (ptR k (u[k % u.length]'(Nat.mod_lt _ hu)) (v[k % v.length]'(Nat.mod_lt _ hv)))) (ptS u v (some (.sh (.int (k : Int)))) (some (.sh (.str (u[k % u.length]'(Nat.mod_lt _ hu))))) (some (.sh (.str (v[k % v.length]'(Nat.mod_lt _ hv))))) src) := by
  have m1 := modI (i := (k : Int)) (j := (u.length : Int)) (by omega)
  have m2 := modI (i := (k : Int)) (j := (v.length : Int)) (by omega)
  have c1 : (k : Int) % (u.length : Int) = ((k % u.length : Nat) : Int) := by omega
  have c2 : (k : Int) % (v.length : Int) = ((k % v.length : Nat) : Int) := by omega
  rw [c1] at m1
  rw [c2] at m2
  have a1 := ls_at (l := u) (Nat.mod_lt k hu)
  have a2 := ls_at (l := v) (Nat.mod_lt k hv)
  generalize u[k % u.length]'(Nat.mod_lt _ hu) = a at *
  generalize v[k % v.length]'(Nat.mod_lt _ hv) = b at *
  have e1 := len_s u
  have e2 := len_s v
  have e3 := dNe_str a b
  by_cases z : a = b
  · rw [decide_eq_true z] at e3
    rw [if_pos z]
    simp only [b_law_parted_0, cSeq, cSkip, cAsg, cRet, cExpr, cIfS, cFor, cPar, cAug, cSetIx, cBinE, cBinV, cCall1, cCallN, cCall, cIt, cRangeC1, cRangeC2, cEnum, cZip, cTup, cLst, cNil, cCons, cConsR, cStar, cD, cVar, cVarV, vE, cT, cAnd, cOr, cNot, cAndV, cOrV, cNotV, cIf, cChain, cSlE2, cSlV2, bnd, cRev2, cNeg, cBits, cMeth, gNm, gTp, gsCons, gsNil, setMany, datAt, SV.dat, SV.settle, datas, fnsOf, cTupF, cFn, okA, tyD, bnd_ok, bnd_exc, opt_some, quiet_ok, shs_cons, shs_nil, itemsOf, Option.map_some, Option.bind_some, Option.map_none, Option.bind_none, padS, List.map_cons, List.map_nil, List.length_cons, List.length_nil, Nat.reduceAdd, Nat.reduceSub, List.replicate_succ, List.replicate_zero, List.cons_append, List.nil_append, List.getElem?_cons_zero, List.getElem?_cons_succ, List.set_cons_zero, List.set_cons_succ, if_true, if_false, Bool.false_eq_true, dGt, dLt, dLe2, dGe2, dOrd, dOrdI, dAddI, dSub, decide_eq_true_eq, Bool.not_eq_true', decide_eq_false_iff_not, sizeLine_eq, Nat.reduceLeDiff, Nat.zero_le, Nat.reduceLT, Nat.reducePow, beq_self_eq_true, id_eq, ptS, e1, e2, m1, m2, a1, a2, e3, Bool.not_true]
  · rw [decide_eq_false z] at e3
    rw [if_neg z]
    simp only [b_law_parted_0, cSeq, cSkip, cAsg, cRet, cExpr, cIfS, cFor, cPar, cAug, cSetIx, cBinE, cBinV, cCall1, cCallN, cCall, cIt, cRangeC1, cRangeC2, cEnum, cZip, cTup, cLst, cNil, cCons, cConsR, cStar, cD, cVar, cVarV, vE, cT, cAnd, cOr, cNot, cAndV, cOrV, cNotV, cIf, cChain, cSlE2, cSlV2, bnd, cRev2, cNeg, cBits, cMeth, gNm, gTp, gsCons, gsNil, setMany, datAt, SV.dat, SV.settle, datas, fnsOf, cTupF, cFn, okA, tyD, bnd_ok, bnd_exc, opt_some, quiet_ok, shs_cons, shs_nil, itemsOf, Option.map_some, Option.bind_some, Option.map_none, Option.bind_none, padS, List.map_cons, List.map_nil, List.length_cons, List.length_nil, Nat.reduceAdd, Nat.reduceSub, List.replicate_succ, List.replicate_zero, List.cons_append, List.nil_append, List.getElem?_cons_zero, List.getElem?_cons_succ, List.set_cons_zero, List.set_cons_succ, if_true, if_false, Bool.false_eq_true, dGt, dLt, dLe2, dGe2, dOrd, dOrdI, dAddI, dSub, decide_eq_true_eq, Bool.not_eq_true', decide_eq_false_iff_not, sizeLine_eq, Nat.reduceLeDiff, Nat.zero_le, Nat.reduceLT, Nat.reducePow, beq_self_eq_true, id_eq, ptS, e1, e2, m1, m2, a1, a2, e3, Bool.not_false, dis_tup, ptR]
end Law
end Pw
set_option Elab.async false
set_option linter.all false
set_option maxRecDepth 100000
set_option exponentiation.threshold 10000
namespace Pw
namespace Law
open PySem PySem.Spec PyProof.Rows L2 Pw.Wd
/-! ### _law_parted -/
theorem om_at {l : List Str} (h : 0 < l.length) (k : Nat) : om l k = some (l[k % l.length]'(Nat.mod_lt _ h)) := List.getElem?_eq_getElem _
theorem pt_same {u v : List Str} (hu : 0 < u.length) (hv : 0 < v.length) (src : Option Src) : ∀ (n k : Nat) (o2 o3 o4 : Option SV), (∀ j, k ≤ j → j < k + n → om u j = om v j) → ∃ o2' o3' o4', forL (gNm 2) b_law_parted_0 (shs (rg k n)) (ptS u v o2 o3 o4 src) = .ok .nx (ptS u v o2' o3' o4' src)
  | 0, k, o2, o3, o4, _ => ⟨o2, o3, o4, rfl⟩
  | n + 1, k, o2, o3, o4, h => by
    have e := pt_step hu hv o3 o4 src k
    have hk := h k (Nat.le_refl _) (by omega)
    rw [om_at hu, om_at hv] at hk
    rw [if_pos (Option.some.inj hk)] at e
    obtain ⟨a, b, c, ih⟩ := pt_same hu hv src n (k + 1) (some (.sh (.int (k : Int)))) (some (.sh (.str (u[k % u.length]'(Nat.mod_lt _ hu))))) (some (.sh (.str (v[k % v.length]'(Nat.mod_lt _ hv))))) fun j h1 h2 => h j (by omega) (by omega)
    rw [rg_succ, shs_cons]
    exact ⟨a, b, c, (forL_step (s1 := ptS u v (some (.sh (.int (k : Int)))) o3 o4 src) (by rfl) e).trans ih⟩
theorem pt_part {u v : List Str} (hu : 0 < u.length) (hv : 0 < v.length) (src : Option Src) {i : Nat} {a b : Str} (hF : FD (om u) (om v) i a b) : ∀ (n k : Nat) (o2 o3 o4 : Option SV), k ≤ i → i < k + n → ∃ sl, forL (gNm 2) b_law_parted_0 (shs (rg k n)) (ptS u v o2 o3 o4 src) = .ok (.ret (ptR i a b)) ⟨sl, src⟩
  | 0, k, o2, o3, o4, h1, h2 => by omega
  | n + 1, k, o2, o3, o4, h1, h2 => by
    have e := pt_step hu hv o3 o4 src k
    rw [rg_succ, shs_cons]
    by_cases z : k = i
    · subst z
      have q1 := hF.one
      have q2 := hF.two
      rw [om_at hu] at q1
      rw [om_at hv] at q2
      have q1 := Option.some.inj q1
      have q2 := Option.some.inj q2
      rw [q1, q2, if_neg hF.ne] at e
      exact ⟨_, forL_ret (s1 := ptS u v (some (.sh (.int (k : Int)))) o3 o4 src) (by rfl) e⟩
    · have hk := hF.ahead k (by omega)
      rw [om_at hu, om_at hv] at hk
      rw [if_pos (Option.some.inj hk)] at e
      obtain ⟨sl, ih⟩ := pt_part hu hv src hF n (k + 1) (some (.sh (.int (k : Int)))) (some (.sh (.str (u[k % u.length]'(Nat.mod_lt _ hu))))) (some (.sh (.str (v[k % v.length]'(Nat.mod_lt _ hv))))) (by omega) (by omega)
      exact ⟨sl, (forL_step (s1 := ptS u v (some (.sh (.int (k : Int)))) o3 o4 src) (by rfl) e).trans ih⟩
theorem lp_ok {u v : List Str} (hu : u ≠ []) (hv : v ≠ []) (h1 : u.length ≤ 1000) (h2 : v.length ≤ 1000) {r : Option (Nat × Str × Str)} (hr : partR (om u) (om v) r) : Rets F_law_parted [.sh (LD u), .sh (LD v)] (.sh (partD r)) := rets_of fun src => by
  have u0 := List.length_pos_iff.mpr hu
  have v0 := List.length_pos_iff.mpr hv
  have b1 : -(2 ^ 62 : Int) ≤ (u.length : Int) + (v.length : Int) ∧ (u.length : Int) + (v.length : Int) < 2 ^ 62 := by omega
  have b2 : ((u.length : Int) + (v.length : Int)).toNat = u.length + v.length := by omega
  cases r with
  | none =>
    obtain ⟨a, b, c, e⟩ := pt_same u0 v0 src (u.length + v.length) 0 none none none fun j _ _ => hr j
    refine ⟨(ptS u v a b c src).sl, ?_⟩
    simp only [ptS] at e ⊢
    simp only [m_law_parted, cSeq, cSkip, cAsg, cRet, cExpr, cIfS, cFor, cPar, cAug, cSetIx, cBinE, cBinV, cCall1, cCallN, cCall, cIt, cRangeC1, cRangeC2, cEnum, cZip, cTup, cLst, cNil, cCons, cConsR, cStar, cD, cVar, cVarV, vE, cT, cAnd, cOr, cNot, cAndV, cOrV, cNotV, cIf, cChain, cSlE2, cSlV2, bnd, cRev2, cNeg, cBits, cMeth, gNm, gTp, gsCons, gsNil, setMany, datAt, SV.dat, SV.settle, datas, fnsOf, cTupF, cFn, okA, tyD, bnd_ok, bnd_exc, opt_some, quiet_ok, shs_cons, shs_nil, itemsOf, Option.map_some, Option.bind_some, Option.map_none, Option.bind_none, padS, List.map_cons, List.map_nil, List.length_cons, List.length_nil, Nat.reduceAdd, Nat.reduceSub, List.replicate_succ, List.replicate_zero, List.cons_append, List.nil_append, List.getElem?_cons_zero, List.getElem?_cons_succ, List.set_cons_zero, List.set_cons_succ, if_true, if_false, Bool.false_eq_true, dGt, dLt, dLe2, dGe2, dOrd, dOrdI, dAddI, dSub, decide_eq_true_eq, Bool.not_eq_true', decide_eq_false_iff_not, sizeLine_eq, Nat.reduceLeDiff, Nat.zero_le, Nat.reduceLT, Nat.reducePow, beq_self_eq_true, id_eq, len_s, add_int, ifc_pos b1, b2, rgD_zero, e, partD]
  | some x =>
    obtain ⟨i, a, b⟩ := x
    obtain ⟨sl, e⟩ := pt_part u0 v0 src hr (u.length + v.length) 0 none none none (Nat.zero_le _) (by have := FD.lt_sum hu hv hr; omega)
    refine ⟨sl, ?_⟩
    simp only [ptS] at e
    simp only [m_law_parted, cSeq, cSkip, cAsg, cRet, cExpr, cIfS, cFor, cPar, cAug, cSetIx, cBinE, cBinV, cCall1, cCallN, cCall, cIt, cRangeC1, cRangeC2, cEnum, cZip, cTup, cLst, cNil, cCons, cConsR, cStar, cD, cVar, cVarV, vE, cT, cAnd, cOr, cNot, cAndV, cOrV, cNotV, cIf, cChain, cSlE2, cSlV2, bnd, cRev2, cNeg, cBits, cMeth, gNm, gTp, gsCons, gsNil, setMany, datAt, SV.dat, SV.settle, datas, fnsOf, cTupF, cFn, okA, tyD, bnd_ok, bnd_exc, opt_some, quiet_ok, shs_cons, shs_nil, itemsOf, Option.map_some, Option.bind_some, Option.map_none, Option.bind_none, padS, List.map_cons, List.map_nil, List.length_cons, List.length_nil, Nat.reduceAdd, Nat.reduceSub, List.replicate_succ, List.replicate_zero, List.cons_append, List.nil_append, List.getElem?_cons_zero, List.getElem?_cons_succ, List.set_cons_zero, List.set_cons_succ, if_true, if_false, Bool.false_eq_true, dGt, dLt, dLe2, dGe2, dOrd, dOrdI, dAddI, dSub, decide_eq_true_eq, Bool.not_eq_true', decide_eq_false_iff_not, sizeLine_eq, Nat.reduceLeDiff, Nat.zero_le, Nat.reduceLT, Nat.reducePow, beq_self_eq_true, id_eq, len_s, add_int, ifc_pos b1, b2, rgD_zero, e, partD]
    rfl
/-! ### letter_at, endless_cut -/
theorem emod_nat (a b : Nat) : (a : Int) % (b : Int) = ((a % b : Nat) : Int) := by omega
theorem letter_ok {w : Wr} (hn : Nrm w) (h : w ≠ []) (hl : w.length < 1000000) (k : Nat) {a : Str} (ha : om (exp w) k = some a) : Rets F_letter_at [.sh (wD w), .sh (.int (k : Int))] (.sh (.str a)) := rets_of fun src => by
  have hx := exp_ne hn h
  have h0 : 0 < tot w := by rw [← len_exp]; exact List.length_pos_iff.mpr hx
  have e1 := (long_ok (w := w) (by omega)).app (n := 1)
  have m1 := modI (i := (k : Int)) (j := (tot w : Int)) (by omega)
  rw [emod_nat] at m1
  have e2 := (from_ok (w := w) (k % tot w) hl).app (n := 2)
  have hk : k % (exp w).length < (exp w).length := Nat.mod_lt _ (List.length_pos_iff.mpr hx)
  have hd : (exp w).drop (k % tot w) = a :: (exp w).drop (k % tot w + 1) := by
    rw [← len_exp, List.drop_eq_getElem_cons hk]
    congr 1
    have : om (exp w) k = some ((exp w)[k % (exp w).length]) := List.getElem?_eq_getElem hk
    rw [this] at ha
    exact Option.some.inj ha
  rw [hd] at e2
  obtain ⟨n, t, er⟩ : ∃ n t, rle (a :: (exp w).drop (k % tot w + 1)) = (a, n) :: t := by
    cases e : rle (a :: (exp w).drop (k % tot w + 1)) with
    | nil => exact absurd e (rle_ne (by simp))
    | cons p t =>
      obtain ⟨b, n⟩ := p
      refine ⟨n, t, ?_⟩
      have hx := exp_rle (a :: (exp w).drop (k % tot w + 1))
      have hN := nrm_rle (a :: (exp w).drop (k % tot w + 1))
      rw [e] at hx hN
      have := om_head (p := (b, n)) (r := t) (hN.pos (b, n) (by simp))
      rw [hx] at this
      have h2 : om (a :: (exp w).drop (k % tot w + 1)) 0 = some a := rfl
      rw [h2] at this
      cases this
      rfl
  rw [er] at e2
  simp only [App] at e1 e2
  refine ⟨[some (.sh (wD w)), some (.sh (.int (k : Int)))], ?_⟩
  have e3 : dIx (wD ((a, n) :: t)) (.int 0) = some (.sh (rD (a, n))) := ix_t0 _ _
  have e4 : dIx (rD (a, n)) (.int 0) = some (.sh (.str a)) := ix_t0 _ _
  simp only [m_letter_at, cSeq, cSkip, cAsg, cRet, cExpr, cIfS, cFor, cPar, cAug, cSetIx, cBinE, cBinV, cCall1, cCallN, cCall, cIt, cRangeC1, cRangeC2, cEnum, cZip, cTup, cLst, cNil, cCons, cConsR, cStar, cD, cVar, cVarV, vE, cT, cAnd, cOr, cNot, cAndV, cOrV, cNotV, cIf, cChain, cSlE2, cSlV2, bnd, cRev2, cNeg, cBits, cMeth, gNm, gTp, gsCons, gsNil, setMany, datAt, SV.dat, SV.settle, datas, fnsOf, cTupF, cFn, okA, tyD, bnd_ok, bnd_exc, opt_some, quiet_ok, shs_cons, shs_nil, itemsOf, Option.map_some, Option.bind_some, Option.map_none, Option.bind_none, padS, List.map_cons, List.map_nil, List.length_cons, List.length_nil, Nat.reduceAdd, Nat.reduceSub, List.replicate_succ, List.replicate_zero, List.cons_append, List.nil_append, List.getElem?_cons_zero, List.getElem?_cons_succ, List.set_cons_zero, List.set_cons_succ, if_true, if_false, Bool.false_eq_true, dGt, dLt, dLe2, dGe2, dOrd, dOrdI, dAddI, dSub, decide_eq_true_eq, Bool.not_eq_true', decide_eq_false_iff_not, sizeLine_eq, Nat.reduceLeDiff, Nat.zero_le, Nat.reduceLT, Nat.reducePow, beq_self_eq_true, id_eq, e1, m1, e2, e3, e4]
end Law
end Pw
set_option Elab.async false
set_option linter.all false
set_option maxRecDepth 100000
set_option exponentiation.threshold 10000
namespace Pw
namespace Law
open PySem PySem.Spec PyProof.Rows L2 Pw.Wd
/-! ### what can be shown -/
def abcd : List Str := ["a", "b", "c"]
theorem nice_ab {a : Str} (h : a ∈ abcd) : Nice (.str a) 0 310 := .str (by
  have : ∀ n ∈ abcd, (PyData.shown (.str n)).length ≤ 310 := by decide +kernel
  exact this a h)
theorem nice_n {i : Nat} (h : (i : Int) < 10 ^ 310) : Nice (.int (i : Int)) 0 310 := Nice.int (by omega) h (by decide) (by decide)
theorem nice_r {p : Str × Nat} (h1 : p.1 ∈ abcd) (h2 : (p.2 : Int) < 10 ^ 310) : Nice (rD p) 1 700 := by
  refine (Nice.tuple (k := 0) (n := 310) fun d hd => ?_).mono (Nat.le_refl _) (by simp)
  simp only [List.mem_cons, List.not_mem_nil, or_false] at hd
  rcases hd with rfl | rfl
  · exact nice_ab h1
  · exact nice_n h2
structure NW (w : Wr) : Prop where
  abc : ∀ p ∈ w, p.1 ∈ abcd
  small : ∀ p ∈ w, (p.2 : Int) < 10 ^ 310
  few : w.length ≤ 400
theorem NW.nice {w : Wr} (h : NW w) : Nice (wD w) 2 300000 := by
  refine (Nice.tuple (k := 1) (n := 700) fun d hd => ?_).mono (Nat.le_refl _) ?_
  · obtain ⟨p, hp, rfl⟩ := List.mem_map.mp hd
    exact nice_r (h.abc p hp) (h.small p hp)
  · rw [List.length_map]
    have := h.few
    omega
theorem NW.pair {w : Wr} {n : Nat} (h : NW w) (hn : (n : Int) < 10 ^ 310) : Nice (.tuple [wD w, .int (n : Int)]) 3 1000000 := by
  refine (Nice.tuple (k := 2) (n := 300000) fun d hd => ?_).mono (Nat.le_refl _) (by simp)
  simp only [List.mem_cons, List.not_mem_nil, or_false] at hd
  rcases hd with rfl | rfl
  · exact h.nice
  · exact (nice_n hn).mono (by decide) (by decide)
/-- rows of letters as the law has them -/
structure Row (l : List Str) : Prop where
  ne : l ≠ []
  abc : ∀ a ∈ l, a ∈ abcd
  few : l.length ≤ 100
theorem nw_rle {l : List Str} (h : ∀ a ∈ l, a ∈ abcd) (hl : l.length ≤ 100) : NW (rle l) where
  abc p hp := h _ (rle_mem hp)
  small p hp := by
    have h1 := rle_count hp
    have h2 : ((100 : Int)) < 10 ^ 310 := by decide +kernel
    omega
  few := by have := rle_len l; omega
theorem Row.nw {l : List Str} (h : Row l) : NW (rle l) := nw_rle h.abc h.few
theorem mem_rot {l : List Str} {k : Nat} {a : Str} (h : a ∈ rot k l) : a ∈ l := by
  unfold rot at h
  rcases List.mem_append.mp h with z | z
  · exact List.mem_of_mem_drop z
  · exact List.mem_of_mem_take z
theorem Row.rot {l : List Str} (h : Row l) (k : Nat) : Row (Wd.rot k l) := ⟨rot_ne h.ne, fun a ha => h.abc a (mem_rot ha), by rw [rot_len]; exact h.few⟩
theorem Row.rev {l : List Str} (h : Row l) : Row l.reverse := ⟨by simpa using h.ne, fun a ha => h.abc a (List.mem_reverse.mp ha), by rw [List.length_reverse]; exact h.few⟩
theorem Row.root {l : List Str} (h : Row l) : Row (Wd.root l) := ⟨root_ne h.ne, fun a ha => h.abc a (List.mem_of_mem_take ha), by rw [root_len h.ne]; exact Nat.le_trans (rsz_le h.ne) h.few⟩
theorem ofn_small {l : List Str} (h : Row l) : (ofn l : Int) < 10 ^ 310 := by
  have h1 : ofn l ≤ l.length := Nat.div_le_self _ _
  have h2 := h.few
  have h3 : ((100 : Int)) < 10 ^ 310 := by decide +kernel
  omega
theorem pow_tot {l : List Str} (h : Row l) : tot (rle l) < 2 ^ 4000 := by
  rw [← len_exp, exp_rle]
  have := h.few
  have h3 : 100 < 2 ^ 4000 := by decide +kernel
  omega
theorem rle_few {l : List Str} (h : Row l) : (rle l).length ≤ 100 := Nat.le_trans (rle_len l) h.few
/-! ### the program's functions at rows -/
theorem power_row (c : Addr) {l : List Str} (h : Row l) : Rets (F_power_told c) [.sh (wD (rle l))] (.sh (.tuple [wD (rle (root l)), .int (ofn l : Int)])) := by
  have := power_ok c (nrm_rle l) (rle_ne h.ne) (by have := rle_few h; omega) (pow_tot h)
  rwa [exp_rle] at this
theorem turned_row {l : List Str} (h : Row l) (k : Nat) : Rets F_word_turned [.sh (wD (rle l)), .sh (.int (k : Int))] (.sh (wD (rle (rot k l)))) := by
  have := turned_ok (w := rle l) k (by have := rle_few h; omega)
  rwa [exp_rle] at this
theorem from_row {l : List Str} (h : Row l) (k : Nat) : Rets F_word_from [.sh (wD (rle l)), .sh (.int (k : Int))] (.sh (wD (rle (l.drop k)))) := by
  have := from_ok (w := rle l) k (by have := rle_few h; omega)
  rwa [exp_rle] at this
theorem far_big : (1000 : Int) < far := by unfold far; decide +kernel
theorem times_row (t : Addr) {l : List Str} (h : Row l) {k : Nat} (hk : 0 < k) (hl : l.length * k ≤ 400) : Rets (F_word_times t) [.sh (wD (rle l)), .sh (.int (k : Int))] (.sh (wD (rle (pw l k)))) := by
  have e : told (pw (rle l) k) = rle (pw l k) := by rw [told_eq, exp_pw, exp_rle]
  have h1 := Nat.mul_le_mul_right k (rle_len l)
  have := times_ok t (w := rle l) (k := k) (nrm_rle l) hk (rle_ne h.ne) (by omega) (by rw [e]; have := rle_len (pw l k); rw [pw_len] at this; omega) (fun p hp => by
    rw [e] at hp
    have := rle_count hp
    rw [pw_len] at this
    have := far_big
    omega)
  rwa [e] at this
theorem long_row {l : List Str} (h : Row l) : Rets F_word_long [.sh (wD (rle l))] (.sh (.int (l.length : Int))) := by
  have := long_ok (w := rle l) (by have := rle_few h; omega)
  rwa [← len_exp, exp_rle] at this
/-! ### _law_is_right -/
theorem root_row {l : List Str} (h : Row l) : Rets F_law_root [.sh (LD l)] (.sh (rootD l)) := lr_ok h.ne (by have := h.few; omega)
theorem runs_row {l : List Str} (h : l.length ≤ 1000) : Rets F_law_runs [.sh (LD l)] (.sh (wD (rle l))) := lw_ok l (by omega)
/-! ### endless_cut -/
theorem times_zero (t : Addr) (w : Wr) : Rets (F_word_times t) [.sh (wD w), .sh (.int 0)] (.sh (wD [])) := rets_of fun src => by
  have e1 : dEq (wD w) (.tuple []) = some (.sh (.bool w.isEmpty)) := dEq_tnil w
  have e2 : dEq (.int 0) (.int 0) = some (.sh (.bool true)) := by rw [dEq_int]; rfl
  refine ⟨[some (.sh (wD w)), some (.sh (.int 0))], ?_⟩
  simp only [wD] at e1 ⊢
  generalize List.isEmpty w = z at e1
  cases z
  · simp only [m_word_times, cSeq, cSkip, cAsg, cRet, cExpr, cIfS, cFor, cPar, cAug, cSetIx, cBinE, cBinV, cCall1, cCallN, cCall, cIt, cRangeC1, cRangeC2, cEnum, cZip, cTup, cLst, cNil, cCons, cConsR, cStar, cD, cVar, cVarV, vE, cT, cAnd, cOr, cNot, cAndV, cOrV, cNotV, cIf, cChain, cSlE2, cSlV2, bnd, cRev2, cNeg, cBits, cMeth, gNm, gTp, gsCons, gsNil, setMany, datAt, SV.dat, SV.settle, datas, fnsOf, cTupF, cFn, okA, tyD, bnd_ok, bnd_exc, opt_some, quiet_ok, shs_cons, shs_nil, itemsOf, Option.map_some, Option.bind_some, Option.map_none, Option.bind_none, padS, List.map_cons, List.map_nil, List.length_cons, List.length_nil, Nat.reduceAdd, Nat.reduceSub, List.replicate_succ, List.replicate_zero, List.cons_append, List.nil_append, List.getElem?_cons_zero, List.getElem?_cons_succ, List.set_cons_zero, List.set_cons_succ, if_true, if_false, Bool.false_eq_true, dGt, dLt, dLe2, dGe2, dOrd, dOrdI, dAddI, dSub, decide_eq_true_eq, Bool.not_eq_true', decide_eq_false_iff_not, sizeLine_eq, Nat.reduceLeDiff, Nat.zero_le, Nat.reduceLT, Nat.reducePow, beq_self_eq_true, id_eq, e1, e2]
  · simp only [m_word_times, cSeq, cSkip, cAsg, cRet, cExpr, cIfS, cFor, cPar, cAug, cSetIx, cBinE, cBinV, cCall1, cCallN, cCall, cIt, cRangeC1, cRangeC2, cEnum, cZip, cTup, cLst, cNil, cCons, cConsR, cStar, cD, cVar, cVarV, vE, cT, cAnd, cOr, cNot, cAndV, cOrV, cNotV, cIf, cChain, cSlE2, cSlV2, bnd, cRev2, cNeg, cBits, cMeth, gNm, gTp, gsCons, gsNil, setMany, datAt, SV.dat, SV.settle, datas, fnsOf, cTupF, cFn, okA, tyD, bnd_ok, bnd_exc, opt_some, quiet_ok, shs_cons, shs_nil, itemsOf, Option.map_some, Option.bind_some, Option.map_none, Option.bind_none, padS, List.map_cons, List.map_nil, List.length_cons, List.length_nil, Nat.reduceAdd, Nat.reduceSub, List.replicate_succ, List.replicate_zero, List.cons_append, List.nil_append, List.getElem?_cons_zero, List.getElem?_cons_succ, List.set_cons_zero, List.set_cons_succ, if_true, if_false, Bool.false_eq_true, dGt, dLt, dLe2, dGe2, dOrd, dOrdI, dAddI, dSub, decide_eq_true_eq, Bool.not_eq_true', decide_eq_false_iff_not, sizeLine_eq, Nat.reduceLeDiff, Nat.zero_le, Nat.reduceLT, Nat.reducePow, beq_self_eq_true, id_eq, e1]
theorem times_any (t : Addr) {l : List Str} (h : Row l) (k : Nat) (hl : l.length * k ≤ 400) : Rets (F_word_times t) [.sh (wD (rle l)), .sh (.int (k : Int))] (.sh (wD (rle (pw l k)))) := by
  cases k with
  | zero => exact times_zero t (rle l)
  | succ k => exact times_row t h (by omega) hl
theorem upto_row {l : List Str} (h : Row l) (k : Nat) : Rets F_word_upto [.sh (wD (rle l)), .sh (.int (k : Int))] (.sh (wD (rle (l.take k)))) := by
  have := upto_ok (w := rle l) k (by have := rle_few h; omega)
  rwa [exp_rle] at this
theorem take_pw (x : List Str) (q r : Nat) (hr : r ≤ x.length) : (pw x (q + 1)).take (x.length * q + r) = pw x q ++ x.take r := by
  have e : pw x (q + 1) = pw x q ++ x := by rw [pw_add, pw_one]
  rw [e, List.take_append, pw_len]
  have h1 : (pw x q).take (x.length * q + r) = pw x q := List.take_of_length_le (by rw [pw_len]; omega)
  have h2 : x.length * q + r - x.length * q = r := by omega
  rw [h1, h2]
theorem cut_row (t : Addr) {l : List Str} (h : Row l) (k m : Nat) (hm : m ≤ 100) : Rets (F_endless_cut t) [.sh (wD (rle l)), .sh (.int (k : Int)), .sh (.int (m : Int))] (.sh (wD (rle ((pw (rot (k % l.length) l) (m / l.length + 1)).take m)))) := rets_of fun src => by
  have h0 : 0 < l.length := List.length_pos_iff.mpr h.ne
  have hf := h.few
  have hR := h.rot (k % l.length)
  have hRl : (rot (k % l.length) l).length = l.length := rot_len _ _
  have e1 := (long_row h).app (n := 1)
  have m1 := modI (i := (k : Int)) (j := (l.length : Int)) (by omega)
  have m2 := modI (i := (m : Int)) (j := (l.length : Int)) (by omega)
  rw [emod_nat] at m1 m2
  have f1 := fdivI (i := (m : Int)) (j := (l.length : Int)) (by omega) (nat_log (Nat.le_trans (Nat.le_trans hf (by decide : 100 ≤ 1000)) (by decide +kernel)))
  rw [ediv_nat] at f1
  have e2 := (turned_row h (k % l.length)).app (n := 2)
  generalize hx : rot (k % l.length) l = x at *
  have hq : x.length * (m / l.length) ≤ 400 := by
    rw [hRl]
    have := Nat.mul_div_le m l.length
    omega
  have e3 := (times_any t hR (m / l.length) hq).app (n := 2)
  have e4 := (upto_row hR (m % l.length)).app (n := 2)
  have hmod : m % l.length ≤ x.length := by rw [hRl]; exact Nat.le_of_lt (Nat.mod_lt _ h0)
  have ek : x.length * (m / l.length) + m % l.length = m := by rw [hRl]; exact Nat.div_add_mod m l.length
  have et := take_pw x (m / l.length) (m % l.length) hmod
  rw [ek] at et
  have etold : told (rle (pw x (m / l.length)) ++ rle (x.take (m % l.length))) = rle ((pw x (m / l.length + 1)).take m) := by
    rw [told_eq, exp_app, exp_rle, exp_rle, et]
  have hlen : ((pw x (m / l.length + 1)).take m).length ≤ m := by rw [List.length_take]; omega
  have b1 := rle_len (pw x (m / l.length))
  have b2 := rle_len (x.take (m % l.length))
  have b3 := rle_len ((pw x (m / l.length + 1)).take m)
  rw [pw_len] at b1
  rw [List.length_take] at b2
  have e5 := (then_ok t (u := rle (pw x (m / l.length))) (v := rle (x.take (m % l.length))) (by omega) (by rw [etold]; omega) (fun p hp => by
    rw [etold] at hp
    have := rle_count hp
    have := far_big
    omega)).app (n := 2)
  rw [etold] at e5
  simp only [App] at e1 e2 e3 e4 e5
  refine ⟨[some (.sh (wD (rle l))), some (.sh (.int (k : Int))), some (.sh (.int (m : Int))), some (.sh (.int (l.length : Int))), some (.sh (wD (rle x)))], ?_⟩
  simp only [m_endless_cut, cSeq, cSkip, cAsg, cRet, cExpr, cIfS, cFor, cPar, cAug, cSetIx, cBinE, cBinV, cCall1, cCallN, cCall, cIt, cRangeC1, cRangeC2, cEnum, cZip, cTup, cLst, cNil, cCons, cConsR, cStar, cD, cVar, cVarV, vE, cT, cAnd, cOr, cNot, cAndV, cOrV, cNotV, cIf, cChain, cSlE2, cSlV2, bnd, cRev2, cNeg, cBits, cMeth, gNm, gTp, gsCons, gsNil, setMany, datAt, SV.dat, SV.settle, datas, fnsOf, cTupF, cFn, okA, tyD, bnd_ok, bnd_exc, opt_some, quiet_ok, shs_cons, shs_nil, itemsOf, Option.map_some, Option.bind_some, Option.map_none, Option.bind_none, padS, List.map_cons, List.map_nil, List.length_cons, List.length_nil, Nat.reduceAdd, Nat.reduceSub, List.replicate_succ, List.replicate_zero, List.cons_append, List.nil_append, List.getElem?_cons_zero, List.getElem?_cons_succ, List.set_cons_zero, List.set_cons_succ, if_true, if_false, Bool.false_eq_true, dGt, dLt, dLe2, dGe2, dOrd, dOrdI, dAddI, dSub, decide_eq_true_eq, Bool.not_eq_true', decide_eq_false_iff_not, sizeLine_eq, Nat.reduceLeDiff, Nat.zero_le, Nat.reduceLT, Nat.reducePow, beq_self_eq_true, id_eq, e1, m1, m2, f1, e2, e3, e4, e5]
end Law
end Pw
set_option Elab.async false
set_option linter.all false
set_option maxRecDepth 100000
set_option exponentiation.threshold 10000
namespace Pw
namespace Law
open PySem PySem.Spec PyProof.Rows L2 Pw.Wd
/-! ### each letter so often -/
def blow (t : Nat) (l : List Str) : List Str := l.flatMap fun a => List.replicate t a
theorem blow_len (t : Nat) : ∀ l : List Str, (blow t l).length = t * l.length
  | [] => rfl
  | a :: l => by
    unfold blow
    rw [List.flatMap_cons, List.length_append, List.length_replicate]
    have := blow_len t l
    unfold blow at this
    rw [this, List.length_cons, Nat.mul_succ]
    omega
theorem blow_get {t : Nat} (ht : 0 < t) : ∀ (l : List Str) (m : Nat), (blow t l)[m]? = l[m / t]?
  | [], m => by simp [blow]
  | a :: l, m => by
    have ih := blow_get ht l
    unfold blow at ih ⊢
    rw [List.flatMap_cons]
    by_cases h : m < t
    · rw [List.getElem?_append_left (by simpa using h), Nat.div_eq_of_lt h, List.getElem?_replicate, if_pos h]
      rfl
    · rw [List.getElem?_append_right (by simp; omega), List.length_replicate, ih]
      have e : m / t = (m - t) / t + 1 := by rw [Nat.div_eq, if_pos ⟨ht, by omega⟩]
      rw [e, List.getElem?_cons_succ]
theorem om_blow {t : Nat} (ht : 0 < t) (l : List Str) (n : Nat) : om (blow t l) n = om l (n / t) := by
  unfold om
  rw [blow_get ht, blow_len, Nat.mod_mul_right_div_self]
theorem part_blow {t : Nat} (ht : 0 < t) {u v : List Str} {r : Option (Nat × Str × Str)} (h : partR (om u) (om v) r) : partR (om (blow t u)) (om (blow t v)) (r.map fun x => (x.1 * t, x.2)) := by
  cases r with
  | none => intro i; rw [om_blow ht, om_blow ht]; exact h _
  | some x =>
    obtain ⟨i, a, b⟩ := x
    have h : FD (om u) (om v) i a b := h
    refine (show FD (om (blow t u)) (om (blow t v)) (i * t) a b from ⟨fun j hj => ?_, ?_, ?_, h.ne⟩)
    · rw [om_blow ht, om_blow ht]
      exact h.ahead _ (Nat.div_lt_of_lt_mul (by rwa [Nat.mul_comm] at hj))
    · rw [om_blow ht, Nat.mul_div_cancel _ ht]; exact h.one
    · rw [om_blow ht, Nat.mul_div_cancel _ ht]; exact h.two
def farW (w : Wr) (t : Nat) : Wr := w.map fun p => (p.1, p.2 * t)
theorem exp_far (t : Nat) : ∀ w : Wr, exp (farW w t) = blow t (exp w)
  | [] => rfl
  | p :: w => by
    have ih := exp_far t w
    have e1 : exp (p :: w) = List.replicate p.2 p.1 ++ exp w := exp_cons _ _
    have e2 : exp (farW (p :: w) t) = List.replicate (p.2 * t) p.1 ++ exp (farW w t) := exp_cons _ _
    rw [e1, e2, ih]
    unfold blow
    rw [List.flatMap_append]
    congr 1
    have : ∀ n : Nat, (List.replicate n p.1).flatMap (fun a => List.replicate t a) = List.replicate (n * t) p.1 := by
      intro n
      induction n with
      | zero => simp
      | succ n ih => rw [List.replicate_succ, List.flatMap_cons, ih, List.replicate_append_replicate, Nat.succ_mul, Nat.add_comm]
    rw [this]
theorem far_nrm {w : Wr} (h : Nrm w) {t : Nat} (ht : 0 < t) : Nrm (farW w t) where
  pos p hp := by
    obtain ⟨q, hq, rfl⟩ := List.mem_map.mp hp
    exact Nat.mul_pos (h.pos q hq) ht
  adj x y p q e := by
    unfold farW at e
    obtain ⟨x', r, rfl, hx, hr⟩ := List.map_eq_append_iff.mp e
    obtain ⟨p', r', rfl, hp, hr'⟩ := List.map_eq_cons_iff.mp hr
    obtain ⟨q', r'', rfl, hq, _⟩ := List.map_eq_cons_iff.mp hr'
    have := h.adj x' r'' p' q' rfl
    rw [← hp, ← hq]
    exact this
theorem far_ne {w : Wr} (h : w ≠ []) (t : Nat) : farW w t ≠ [] := by unfold farW; simpa using h
/-! ### _law_far -/
theorem far_ok {w : Wr} (hs : ∀ p ∈ w, p.2 < 1000) (hl : w.length ≤ 1000) (t : Nat) : Rets F_law_far [.sh (wD w), .sh (.int (t : Int))] (.sh (wD (farW w t))) := rets_of fun src => by
  have ec := comp_map (g := g_law_far_0) (f := e_law_far_1) (vs := [2, 3]) (s := ⟨[some (.sh (wD w)), some (.sh (.int (t : Int))), none, none], src⟩) (fun p => .sh (rD p)) (fun p => rD (p.1, p.2 * t)) w [] (fun p hp => by
    have h := hs p hp
    have mm : mulFits (p.2 : Int) (t : Int) = true := mulFits_l (by unfold smallI; simp only [Bool.and_eq_true, decide_eq_true_eq]; omega)
    have e1 := mulI mm
    refine ⟨⟨[some (.sh (wD w)), some (.sh (.int (t : Int))), some (.sh (.str p.1)), some (.sh (.int (p.2 : Int)))], src⟩, ⟨[some (.sh (wD w)), some (.sh (.int (t : Int))), some (.sh (.str p.1)), some (.sh (.int (p.2 : Int)))], src⟩, .sh (rD (p.1, p.2 * t)), rfl, ?_, rfl, rfl⟩
    simp only [e_law_far_1, cSeq, cSkip, cAsg, cRet, cExpr, cIfS, cFor, cPar, cAug, cSetIx, cBinE, cBinV, cCall1, cCallN, cCall, cIt, cRangeC1, cRangeC2, cEnum, cZip, cTup, cLst, cNil, cCons, cConsR, cStar, cD, cVar, cVarV, vE, cT, cAnd, cOr, cNot, cAndV, cOrV, cNotV, cIf, cChain, cSlE2, cSlV2, bnd, cRev2, cNeg, cBits, cMeth, gNm, gTp, gsCons, gsNil, setMany, datAt, SV.dat, SV.settle, datas, fnsOf, cTupF, cFn, okA, tyD, bnd_ok, bnd_exc, opt_some, quiet_ok, shs_cons, shs_nil, itemsOf, Option.map_some, Option.bind_some, Option.map_none, Option.bind_none, padS, List.map_cons, List.map_nil, List.length_cons, List.length_nil, Nat.reduceAdd, Nat.reduceSub, List.replicate_succ, List.replicate_zero, List.cons_append, List.nil_append, List.getElem?_cons_zero, List.getElem?_cons_succ, List.set_cons_zero, List.set_cons_succ, if_true, if_false, Bool.false_eq_true, dGt, dLt, dLe2, dGe2, dOrd, dOrdI, dAddI, dSub, decide_eq_true_eq, Bool.not_eq_true', decide_eq_false_iff_not, sizeLine_eq, Nat.reduceLeDiff, Nat.zero_le, Nat.reduceLT, Nat.reducePow, beq_self_eq_true, id_eq, e1, dis_tup, rD, Int.natCast_mul]) (szl (by simp; omega))
  have es : shs (w.map rD) = w.map fun p => SV.sh (rD p) := by unfold shs; rw [List.map_map]; rfl
  have ew : (w.map fun p => rD (p.1, p.2 * t)) = (farW w t).map rD := by unfold farW; rw [List.map_map]; rfl
  refine ⟨[some (.sh (wD w)), some (.sh (.int (t : Int))), none, none], ?_⟩
  simp only [List.nil_append, ew, wD] at ec
  simp only [wD]
  simp only [m_law_far, cSeq, cSkip, cAsg, cRet, cExpr, cIfS, cFor, cPar, cAug, cSetIx, cBinE, cBinV, cCall1, cCallN, cCall, cIt, cRangeC1, cRangeC2, cEnum, cZip, cTup, cLst, cNil, cCons, cConsR, cStar, cD, cVar, cVarV, vE, cT, cAnd, cOr, cNot, cAndV, cOrV, cNotV, cIf, cChain, cSlE2, cSlV2, bnd, cRev2, cNeg, cBits, cMeth, gNm, gTp, gsCons, gsNil, setMany, datAt, SV.dat, SV.settle, datas, fnsOf, cTupF, cFn, okA, tyD, bnd_ok, bnd_exc, opt_some, quiet_ok, shs_cons, shs_nil, itemsOf, Option.map_some, Option.bind_some, Option.map_none, Option.bind_none, padS, List.map_cons, List.map_nil, List.length_cons, List.length_nil, Nat.reduceAdd, Nat.reduceSub, List.replicate_succ, List.replicate_zero, List.cons_append, List.nil_append, List.getElem?_cons_zero, List.getElem?_cons_succ, List.set_cons_zero, List.set_cons_succ, if_true, if_false, Bool.false_eq_true, dGt, dLt, dLe2, dGe2, dOrd, dOrdI, dAddI, dSub, decide_eq_true_eq, Bool.not_eq_true', decide_eq_false_iff_not, sizeLine_eq, Nat.reduceLeDiff, Nat.zero_le, Nat.reduceLT, Nat.reducePow, beq_self_eq_true, id_eq, cComp, es, wipeS, ec, backS, tup_l]
  rfl
end Law
end Pw
set_option Elab.async false
set_option linter.all false
set_option maxRecDepth 100000
set_option exponentiation.threshold 10000
namespace Pw
namespace Law
open PySem PySem.Spec PyProof.Rows L2 Pw.Wd
/-! ### the words as drawn -/
theorem strs_of : ∀ (ds : List D) (L : List Str), (∀ d ∈ ds, ∃ a ∈ L, d = .str a) → ∃ l : List Str, ds = l.map .str ∧ ∀ a ∈ l, a ∈ L
  | [], L, _ => ⟨[], rfl, fun a h => (by simp at h)⟩
  | d :: ds, L, h => by
    obtain ⟨a, ha, rfl⟩ := h d (by simp)
    obtain ⟨l, e, hl⟩ := strs_of ds L fun d hd => h d (by simp [hd])
    refine ⟨a :: l, by rw [e]; rfl, fun b hb => ?_⟩
    rcases List.mem_cons.mp hb with rfl | hb
    · exact ha
    · exact hl b hb
structure Sh (l : List Str) (n : Nat) : Prop where
  ne : l ≠ []
  abc : ∀ a ∈ l, a ∈ abcd
  len : l.length ≤ n
theorem Sh.row {l : List Str} {n : Nat} (h : Sh l n) (hn : n ≤ 100) : Row l := ⟨h.ne, h.abc, Nat.le_trans h.len hn⟩
theorem word_draws {m : Nat} (hm : 1 < m) (hm2 : m ≤ 50) : Draws F_law_word [.src, .sh (.int (m : Int))] fun r => ∃ l, r = .own (LD l) ∧ Sh l m := fun sr hi => by
  obtain ⟨r1, sr1, e1, ⟨x, hx, rfl⟩, i1⟩ := (of_draws (xs := [.list [.str "a", .str "b"], .list [.str "a", .str "b", .str "a"], .list [.str "a", .str "b", .str "c"], .list [.str "a"]]) (by simp) (by simp)).app (n := 2) hi
  obtain ⟨L, hL0, hL1, hL2, rfl⟩ : ∃ L : List Str, L ≠ [] ∧ L.length ≤ 3 ∧ (∀ a ∈ L, a ∈ abcd) ∧ x = .list (L.map .str) := by
    simp only [List.mem_cons, List.not_mem_nil, or_false] at hx
    rcases hx with rfl | rfl | rfl | rfl
    · exact ⟨["a", "b"], by simp, by decide, by decide, rfl⟩
    · exact ⟨["a", "b", "a"], by simp, by decide, by decide, rfl⟩
    · exact ⟨["a", "b", "c"], by simp, by decide, by decide, rfl⟩
    · exact ⟨["a"], by simp, by decide, by decide, rfl⟩
  obtain ⟨r2, sr2, e2, ⟨v, rfl, pv⟩, i2⟩ := (pick_draws (many := (m : Int)) (by omega)).app (n := 2) i1
  obtain ⟨n, hn, hn1, hn7⟩ : ∃ n : Nat, 1 + v = (n : Int) ∧ 1 ≤ n ∧ n ≤ m := by
    obtain ⟨p0, p1⟩ := pv
    exact ⟨(1 + v).toNat, by omega, by omega, by omega⟩
  obtain ⟨ds, sr3, e3, hlen, hp, i3⟩ := comp_draw (g := gNm 3) (f := e_law_word_0) (vs := [3]) (sl := [some .src, some (.sh (.int (m : Int))), some (.sh (.list (L.map .str))), none]) (fun d => ∃ a ∈ L, d = .str a) (shs (rg 0 n)) [] sr2 (fun x hx sr hi => by
    obtain ⟨r, sr', e, ⟨y, hy, rfl⟩, i⟩ := (of_draws (xs := L.map .str) (by simpa using hL0) (by rw [List.length_map]; omega)).app (n := 2) hi
    obtain ⟨a, ha, rfl⟩ := List.mem_map.mp hy
    refine ⟨⟨[some .src, some (.sh (.int (m : Int))), some (.sh (.list (L.map .str))), some x], some sr⟩, ⟨[some .src, some (.sh (.int (m : Int))), some (.sh (.list (L.map .str))), some x], some sr'⟩, .sh (.str a), sr', .str a, rfl, ?_, rfl, ⟨a, ha, rfl⟩, i, rfl⟩
    simp only [e_law_word_0, cSeq, cSkip, cAsg, cRet, cExpr, cIfS, cFor, cPar, cAug, cSetIx, cBinE, cBinV, cCall1, cCallN, cCall, cIt, cRangeC1, cRangeC2, cEnum, cZip, cTup, cLst, cNil, cCons, cConsR, cStar, cD, cVar, cVarV, vE, cT, cAnd, cOr, cNot, cAndV, cOrV, cNotV, cIf, cChain, cSlE2, cSlV2, bnd, cRev2, cNeg, cBits, cMeth, gNm, gTp, gsCons, gsNil, setMany, datAt, SV.dat, SV.settle, datas, fnsOf, cTupF, cFn, okA, tyD, bnd_ok, bnd_exc, opt_some, quiet_ok, shs_cons, shs_nil, itemsOf, Option.map_some, Option.bind_some, Option.map_none, Option.bind_none, padS, List.map_cons, List.map_nil, List.length_cons, List.length_nil, Nat.reduceAdd, Nat.reduceSub, List.replicate_succ, List.replicate_zero, List.cons_append, List.nil_append, List.getElem?_cons_zero, List.getElem?_cons_succ, List.set_cons_zero, List.set_cons_succ, if_true, if_false, Bool.false_eq_true, dGt, dLt, dLe2, dGe2, dOrd, dOrdI, dAddI, dSub, decide_eq_true_eq, Bool.not_eq_true', decide_eq_false_iff_not, sizeLine_eq, Nat.reduceLeDiff, Nat.zero_le, Nat.reduceLT, Nat.reducePow, beq_self_eq_true, id_eq, e]) i2 (szl (by simp [shs, rg]; omega))
  obtain ⟨l, rfl, hl⟩ := strs_of ds L hp
  have hll : l.length = n := by
    have : (l.map PyData.str).length = n := by rw [hlen]; simp [rg, shs]
    simpa using this
  refine ⟨.own (LD l), sr3, [some .src, some (.sh (.int (m : Int))), some (.sh (.list (L.map .str))), none], ?_, ⟨l, rfl, fun z => by rw [z] at hll; simp at hll; omega, fun a ha => hL2 a (hl a ha), by omega⟩, i3⟩
  unfold F_law_word
  refine run_ret ?_
  have b1 : -(2 ^ 62 : Int) ≤ (n : Int) ∧ (n : Int) < 2 ^ 62 := by omega
  simp only [List.nil_append] at e3
  simp only [m_law_word, cSeq, cSkip, cAsg, cRet, cExpr, cIfS, cFor, cPar, cAug, cSetIx, cBinE, cBinV, cCall1, cCallN, cCall, cIt, cRangeC1, cRangeC2, cEnum, cZip, cTup, cLst, cNil, cCons, cConsR, cStar, cD, cVar, cVarV, vE, cT, cAnd, cOr, cNot, cAndV, cOrV, cNotV, cIf, cChain, cSlE2, cSlV2, bnd, cRev2, cNeg, cBits, cMeth, gNm, gTp, gsCons, gsNil, setMany, datAt, SV.dat, SV.settle, datas, fnsOf, cTupF, cFn, okA, tyD, bnd_ok, bnd_exc, opt_some, quiet_ok, shs_cons, shs_nil, itemsOf, Option.map_some, Option.bind_some, Option.map_none, Option.bind_none, padS, List.map_cons, List.map_nil, List.length_cons, List.length_nil, Nat.reduceAdd, Nat.reduceSub, List.replicate_succ, List.replicate_zero, List.cons_append, List.nil_append, List.getElem?_cons_zero, List.getElem?_cons_succ, List.set_cons_zero, List.set_cons_succ, if_true, if_false, Bool.false_eq_true, dGt, dLt, dLe2, dGe2, dOrd, dOrdI, dAddI, dSub, decide_eq_true_eq, Bool.not_eq_true', decide_eq_false_iff_not, sizeLine_eq, Nat.reduceLeDiff, Nat.zero_le, Nat.reduceLT, Nat.reducePow, beq_self_eq_true, id_eq, dis_lst, e1, cComp, e2, add_int, hn, ifc_pos b1, Int.toNat_natCast, rgD_zero, wipeS, e3, backS, Option.join, LD]
theorem sh_add {u v : List Str} {n m k : Nat} (hu : Sh u n) (hv : ∀ a ∈ v, a ∈ abcd) (hl : v.length ≤ m) (h : n + m ≤ k) : Sh (u ++ v) k := ⟨fun z => hu.ne (List.append_eq_nil_iff.mp z).1, fun a ha => (List.mem_append.mp ha).elim (hu.abc a) (hv a), by rw [List.length_append]; have := hu.len; omega⟩
theorem sh_pw {u : List Str} {n : Nat} (hu : Sh u n) {k m : Nat} (hk : 0 < k) (h : n * k ≤ m) : Sh (pw u k) m := ⟨pw_ne hu.ne hk, fun a ha => by
  unfold pw at ha
  rw [List.mem_flatten] at ha
  obtain ⟨x, hx, ha⟩ := ha
  rw [List.mem_replicate] at hx
  rw [hx.2] at ha
  exact hu.abc a ha, by rw [pw_len]; exact Nat.le_trans (Nat.mul_le_mul_right k hu.len) h⟩
theorem other_draws {l : List Str} (h : Sh l 12) : Draws F_law_other [.src, .sh (LD l)] fun r => ∃ l', (r = .own (LD l') ∨ r = .sh (LD l')) ∧ Sh l' 40 := fun sr hi => by
  have h0 : 0 < l.length := List.length_pos_iff.mpr h.ne
  have hln := h.len
  obtain ⟨r1, sr1, e1, ⟨v, rfl, p0, p1⟩, i1⟩ := (pick_draws (many := 6) (by decide)).app (n := 2) hi
  obtain ⟨r2, sr2, e2, ⟨v2, rfl, p2, p3⟩, i2⟩ := (pick_draws (many := (l.length : Int)) (by omega)).app (n := 2) i1
  obtain ⟨k, rfl⟩ : ∃ k : Nat, v2 = (k : Int) := ⟨v2.toNat, by omega⟩
  have hk : k < l.length := by omega
  have el := len_s l
  have t1 := ls_take l k
  have t2 := ls_drop l k
  have l1 : (l.take k).length ≤ 12 := by rw [List.length_take]; omega
  have l2 : (l.drop k).length ≤ 12 := by rw [List.length_drop]; omega
  have m1 : ∀ a ∈ l.take k, a ∈ abcd := fun a ha => h.abc a (List.mem_of_mem_take ha)
  have m2 : ∀ a ∈ l.drop k, a ∈ abcd := fun a ha => h.abc a (List.mem_of_mem_drop ha)
  have hp : cPar [2, 3] (cConsR (cCall 2 F_law_pick (cCons (cVar 0) (cCons (cD (.int 6)) cNil))) (cConsR (cCall 2 F_law_pick (cCons (cVar 0) (cCons (cCall1 dLen (cVarV 1)) cNil))) cNil)) ⟨[some .src, some (.sh (LD l)), none, none], some sr⟩ = .ok .nx ⟨[some .src, some (.sh (LD l)), some (.sh (.int v)), some (.sh (.int (k : Int)))], some sr2⟩ := by
    simp only [cSeq, cSkip, cAsg, cRet, cExpr, cIfS, cFor, cPar, cAug, cSetIx, cBinE, cBinV, cCall1, cCallN, cCall, cIt, cRangeC1, cRangeC2, cEnum, cZip, cTup, cLst, cNil, cCons, cConsR, cStar, cD, cVar, cVarV, vE, cT, cAnd, cOr, cNot, cAndV, cOrV, cNotV, cIf, cChain, cSlE2, cSlV2, bnd, cRev2, cNeg, cBits, cMeth, gNm, gTp, gsCons, gsNil, setMany, datAt, SV.dat, SV.settle, datas, fnsOf, cTupF, cFn, okA, tyD, bnd_ok, bnd_exc, opt_some, quiet_ok, shs_cons, shs_nil, itemsOf, Option.map_some, Option.bind_some, Option.map_none, Option.bind_none, padS, List.map_cons, List.map_nil, List.length_cons, List.length_nil, Nat.reduceAdd, Nat.reduceSub, List.replicate_succ, List.replicate_zero, List.cons_append, List.nil_append, List.getElem?_cons_zero, List.getElem?_cons_succ, List.set_cons_zero, List.set_cons_succ, if_true, if_false, Bool.false_eq_true, dGt, dLt, dLe2, dGe2, dOrd, dOrdI, dAddI, dSub, decide_eq_true_eq, Bool.not_eq_true', decide_eq_false_iff_not, sizeLine_eq, Nat.reduceLeDiff, Nat.zero_le, Nat.reduceLT, Nat.reducePow, beq_self_eq_true, id_eq, el, e1, e2]
  have q : ∀ i : Int, dEq (.int v) (.int i) = some (.sh (.bool (decide (v = i)))) := fun i => dEq_int v i
  unfold F_law_other
  by_cases z0 : v = 0
  · obtain ⟨r3, sr3, e3, ⟨v3, rfl, p4, p5⟩, i3⟩ := (pick_draws (many := 3) (by decide)).app (n := 2) i2
    obtain ⟨j, rfl⟩ : ∃ j : Nat, v3 = (j : Int) := ⟨v3.toNat, by omega⟩
    have ep := ls_pw (w := l) (k := 1 + j) (by omega) (by omega)
    rw [Int.natCast_add, Int.natCast_one] at ep
    refine ⟨.own (LD (pw l (1 + j))), sr3, [some .src, some (.sh (LD l)), some (.sh (.int v)), some (.sh (.int (k : Int)))], run_ret ?_, ⟨_, .inl rfl, sh_pw h (by omega) (by omega)⟩, i3⟩
    refine seq_nx hp ?_
    have q0 := q 0
    rw [decide_eq_true z0] at q0
    simp only [cSeq, cSkip, cAsg, cRet, cExpr, cIfS, cFor, cPar, cAug, cSetIx, cBinE, cBinV, cCall1, cCallN, cCall, cIt, cRangeC1, cRangeC2, cEnum, cZip, cTup, cLst, cNil, cCons, cConsR, cStar, cD, cVar, cVarV, vE, cT, cAnd, cOr, cNot, cAndV, cOrV, cNotV, cIf, cChain, cSlE2, cSlV2, bnd, cRev2, cNeg, cBits, cMeth, gNm, gTp, gsCons, gsNil, setMany, datAt, SV.dat, SV.settle, datas, fnsOf, cTupF, cFn, okA, tyD, bnd_ok, bnd_exc, opt_some, quiet_ok, shs_cons, shs_nil, itemsOf, Option.map_some, Option.bind_some, Option.map_none, Option.bind_none, padS, List.map_cons, List.map_nil, List.length_cons, List.length_nil, Nat.reduceAdd, Nat.reduceSub, List.replicate_succ, List.replicate_zero, List.cons_append, List.nil_append, List.getElem?_cons_zero, List.getElem?_cons_succ, List.set_cons_zero, List.set_cons_succ, if_true, if_false, Bool.false_eq_true, dGt, dLt, dLe2, dGe2, dOrd, dOrdI, dAddI, dSub, decide_eq_true_eq, Bool.not_eq_true', decide_eq_false_iff_not, sizeLine_eq, Nat.reduceLeDiff, Nat.zero_le, Nat.reduceLT, Nat.reducePow, beq_self_eq_true, id_eq, q0, e3, add_int, ep]
  · have q0 := q 0
    rw [decide_eq_false z0] at q0
    by_cases z1 : v = 1
    · have q1 := q 1
      rw [decide_eq_true z1] at q1
      have ea := ls_add (u := l.drop k) (v := l.take k) (by omega)
      refine ⟨.own (LD (l.drop k ++ l.take k)), sr2, [some .src, some (.sh (LD l)), some (.sh (.int v)), some (.sh (.int (k : Int)))], run_ret ?_, ⟨_, .inl rfl, sh_add ⟨fun z => by have := congrArg List.length z; simp at this; omega, m2, l2⟩ m1 l1 (by omega)⟩, i2⟩
      refine seq_nx hp ?_
      simp only [cSeq, cSkip, cAsg, cRet, cExpr, cIfS, cFor, cPar, cAug, cSetIx, cBinE, cBinV, cCall1, cCallN, cCall, cIt, cRangeC1, cRangeC2, cEnum, cZip, cTup, cLst, cNil, cCons, cConsR, cStar, cD, cVar, cVarV, vE, cT, cAnd, cOr, cNot, cAndV, cOrV, cNotV, cIf, cChain, cSlE2, cSlV2, bnd, cRev2, cNeg, cBits, cMeth, gNm, gTp, gsCons, gsNil, setMany, datAt, SV.dat, SV.settle, datas, fnsOf, cTupF, cFn, okA, tyD, bnd_ok, bnd_exc, opt_some, quiet_ok, shs_cons, shs_nil, itemsOf, Option.map_some, Option.bind_some, Option.map_none, Option.bind_none, padS, List.map_cons, List.map_nil, List.length_cons, List.length_nil, Nat.reduceAdd, Nat.reduceSub, List.replicate_succ, List.replicate_zero, List.cons_append, List.nil_append, List.getElem?_cons_zero, List.getElem?_cons_succ, List.set_cons_zero, List.set_cons_succ, if_true, if_false, Bool.false_eq_true, dGt, dLt, dLe2, dGe2, dOrd, dOrdI, dAddI, dSub, decide_eq_true_eq, Bool.not_eq_true', decide_eq_false_iff_not, sizeLine_eq, Nat.reduceLeDiff, Nat.zero_le, Nat.reduceLT, Nat.reducePow, beq_self_eq_true, id_eq, q0, q1, t1, t2, ea]
    · have q1 := q 1
      rw [decide_eq_false z1] at q1
      by_cases z2 : v = 2
      · have q2 := q 2
        rw [decide_eq_true z2] at q2
        obtain ⟨r3, sr3, e3, ⟨y, hy, rfl⟩, i3⟩ := (of_draws (xs := [.str "a", .str "b", .str "c"]) (by simp) (by simp)).app (n := 2) i2
        obtain ⟨x, hx, rfl⟩ : ∃ x ∈ abcd, y = .str x := by
          simp only [List.mem_cons, List.not_mem_nil, or_false] at hy
          rcases hy with rfl | rfl | rfl
          · exact ⟨"a", by decide, rfl⟩
          · exact ⟨"b", by decide, rfl⟩
          · exact ⟨"c", by decide, rfl⟩
        have t3 := ls_drop l (k + 1)
        rw [Int.natCast_add, Int.natCast_one] at t3
        have l3 : (l.drop (k + 1)).length ≤ 12 := by rw [List.length_drop]; omega
        have a1 : dAdd (LD (l.take k)) (.list [.str x]) = some (.own (LD (l.take k ++ [x]))) := ls_add (u := l.take k) (v := [x]) (by simp; omega)
        have a2 := ls_add (u := l.take k ++ [x]) (v := l.drop (k + 1)) (by simp; omega)
        refine ⟨.own (LD (l.take k ++ [x] ++ l.drop (k + 1))), sr3, [some .src, some (.sh (LD l)), some (.sh (.int v)), some (.sh (.int (k : Int)))], run_ret ?_, ⟨_, .inl rfl, ⟨by simp, fun a ha => ?_, by simp; omega⟩⟩, i3⟩
        · refine seq_nx hp ?_
          simp only [cSeq, cSkip, cAsg, cRet, cExpr, cIfS, cFor, cPar, cAug, cSetIx, cBinE, cBinV, cCall1, cCallN, cCall, cIt, cRangeC1, cRangeC2, cEnum, cZip, cTup, cLst, cNil, cCons, cConsR, cStar, cD, cVar, cVarV, vE, cT, cAnd, cOr, cNot, cAndV, cOrV, cNotV, cIf, cChain, cSlE2, cSlV2, bnd, cRev2, cNeg, cBits, cMeth, gNm, gTp, gsCons, gsNil, setMany, datAt, SV.dat, SV.settle, datas, fnsOf, cTupF, cFn, okA, tyD, bnd_ok, bnd_exc, opt_some, quiet_ok, shs_cons, shs_nil, itemsOf, Option.map_some, Option.bind_some, Option.map_none, Option.bind_none, padS, List.map_cons, List.map_nil, List.length_cons, List.length_nil, Nat.reduceAdd, Nat.reduceSub, List.replicate_succ, List.replicate_zero, List.cons_append, List.nil_append, List.getElem?_cons_zero, List.getElem?_cons_succ, List.set_cons_zero, List.set_cons_succ, if_true, if_false, Bool.false_eq_true, dGt, dLt, dLe2, dGe2, dOrd, dOrdI, dAddI, dSub, decide_eq_true_eq, Bool.not_eq_true', decide_eq_false_iff_not, sizeLine_eq, Nat.reduceLeDiff, Nat.zero_le, Nat.reduceLT, Nat.reducePow, beq_self_eq_true, id_eq, q0, q1, q2, t1, t3, dis_lst, e3, add_int, a1, a2]
        · simp only [List.mem_append, List.mem_cons, List.not_mem_nil, or_false] at ha
          rcases ha with (ha | rfl) | ha
          · exact m1 a ha
          · exact hx
          · exact h.abc a (List.mem_of_mem_drop ha)
      · have q2 := q 2
        rw [decide_eq_false z2] at q2
        by_cases z3 : v = 3
        · have q3 := q 3
          rw [decide_eq_true z3] at q3
          have ep : dMul2 (LD l) (.int 2) = some (.own (LD (pw l 2))) := ls_pw (w := l) (k := 2) (by omega) (by omega)
          have a1 := ls_add (u := pw l 2) (v := l.take k) (by rw [pw_len]; omega)
          refine ⟨.own (LD (pw l 2 ++ l.take k)), sr2, [some .src, some (.sh (LD l)), some (.sh (.int v)), some (.sh (.int (k : Int)))], run_ret ?_, ⟨_, .inl rfl, sh_add (sh_pw h (k := 2) (m := 24) (by omega) (by omega)) m1 l1 (by omega)⟩, i2⟩
          refine seq_nx hp ?_
          simp only [cSeq, cSkip, cAsg, cRet, cExpr, cIfS, cFor, cPar, cAug, cSetIx, cBinE, cBinV, cCall1, cCallN, cCall, cIt, cRangeC1, cRangeC2, cEnum, cZip, cTup, cLst, cNil, cCons, cConsR, cStar, cD, cVar, cVarV, vE, cT, cAnd, cOr, cNot, cAndV, cOrV, cNotV, cIf, cChain, cSlE2, cSlV2, bnd, cRev2, cNeg, cBits, cMeth, gNm, gTp, gsCons, gsNil, setMany, datAt, SV.dat, SV.settle, datas, fnsOf, cTupF, cFn, okA, tyD, bnd_ok, bnd_exc, opt_some, quiet_ok, shs_cons, shs_nil, itemsOf, Option.map_some, Option.bind_some, Option.map_none, Option.bind_none, padS, List.map_cons, List.map_nil, List.length_cons, List.length_nil, Nat.reduceAdd, Nat.reduceSub, List.replicate_succ, List.replicate_zero, List.cons_append, List.nil_append, List.getElem?_cons_zero, List.getElem?_cons_succ, List.set_cons_zero, List.set_cons_succ, if_true, if_false, Bool.false_eq_true, dGt, dLt, dLe2, dGe2, dOrd, dOrdI, dAddI, dSub, decide_eq_true_eq, Bool.not_eq_true', decide_eq_false_iff_not, sizeLine_eq, Nat.reduceLeDiff, Nat.zero_le, Nat.reduceLT, Nat.reducePow, beq_self_eq_true, id_eq, q0, q1, q2, q3, ep, t1, a1]
        · have q3 := q 3
          rw [decide_eq_false z3] at q3
          by_cases z4 : v = 4
          · have q4 := q 4
            rw [decide_eq_true z4] at q4
            by_cases z5 : 1 < l.length
            · have c1 : (1 : Int) < (l.length : Int) := by omega
              have t1' : dSl2 (LD l) none (some 1) = some (.own (LD (l.take 1))) := ls_take l 1
              have a1 := ls_add (u := l) (v := l.take 1) (by rw [List.length_take]; omega)
              refine ⟨.own (LD (l ++ l.take 1)), sr2, [some .src, some (.sh (LD l)), some (.sh (.int v)), some (.sh (.int (k : Int)))], run_ret ?_, ⟨_, .inl rfl, sh_add h (fun a ha => h.abc a (List.mem_of_mem_take ha)) (m := 12) (by rw [List.length_take]; omega) (by omega)⟩, i2⟩
              refine seq_nx hp ?_
              simp only [cSeq, cSkip, cAsg, cRet, cExpr, cIfS, cFor, cPar, cAug, cSetIx, cBinE, cBinV, cCall1, cCallN, cCall, cIt, cRangeC1, cRangeC2, cEnum, cZip, cTup, cLst, cNil, cCons, cConsR, cStar, cD, cVar, cVarV, vE, cT, cAnd, cOr, cNot, cAndV, cOrV, cNotV, cIf, cChain, cSlE2, cSlV2, bnd, cRev2, cNeg, cBits, cMeth, gNm, gTp, gsCons, gsNil, setMany, datAt, SV.dat, SV.settle, datas, fnsOf, cTupF, cFn, okA, tyD, bnd_ok, bnd_exc, opt_some, quiet_ok, shs_cons, shs_nil, itemsOf, Option.map_some, Option.bind_some, Option.map_none, Option.bind_none, padS, List.map_cons, List.map_nil, List.length_cons, List.length_nil, Nat.reduceAdd, Nat.reduceSub, List.replicate_succ, List.replicate_zero, List.cons_append, List.nil_append, List.getElem?_cons_zero, List.getElem?_cons_succ, List.set_cons_zero, List.set_cons_succ, if_true, if_false, Bool.false_eq_true, dGt, dLt, dLe2, dGe2, dOrd, dOrdI, dAddI, dSub, decide_eq_true_eq, Bool.not_eq_true', decide_eq_false_iff_not, sizeLine_eq, Nat.reduceLeDiff, Nat.zero_le, Nat.reduceLT, Nat.reducePow, beq_self_eq_true, id_eq, q0, q1, q2, q3, q4, el, c1, decide_true, t1', a1]
            · have c1 : ¬ (1 : Int) < (l.length : Int) := by omega
              refine ⟨.sh (LD l), sr2, [some .src, some (.sh (LD l)), some (.sh (.int v)), some (.sh (.int (k : Int)))], run_ret ?_, ⟨_, .inr rfl, ⟨h.ne, h.abc, by omega⟩⟩, i2⟩
              refine seq_nx hp ?_
              simp only [cSeq, cSkip, cAsg, cRet, cExpr, cIfS, cFor, cPar, cAug, cSetIx, cBinE, cBinV, cCall1, cCallN, cCall, cIt, cRangeC1, cRangeC2, cEnum, cZip, cTup, cLst, cNil, cCons, cConsR, cStar, cD, cVar, cVarV, vE, cT, cAnd, cOr, cNot, cAndV, cOrV, cNotV, cIf, cChain, cSlE2, cSlV2, bnd, cRev2, cNeg, cBits, cMeth, gNm, gTp, gsCons, gsNil, setMany, datAt, SV.dat, SV.settle, datas, fnsOf, cTupF, cFn, okA, tyD, bnd_ok, bnd_exc, opt_some, quiet_ok, shs_cons, shs_nil, itemsOf, Option.map_some, Option.bind_some, Option.map_none, Option.bind_none, padS, List.map_cons, List.map_nil, List.length_cons, List.length_nil, Nat.reduceAdd, Nat.reduceSub, List.replicate_succ, List.replicate_zero, List.cons_append, List.nil_append, List.getElem?_cons_zero, List.getElem?_cons_succ, List.set_cons_zero, List.set_cons_succ, if_true, if_false, Bool.false_eq_true, dGt, dLt, dLe2, dGe2, dOrd, dOrdI, dAddI, dSub, decide_eq_true_eq, Bool.not_eq_true', decide_eq_false_iff_not, sizeLine_eq, Nat.reduceLeDiff, Nat.zero_le, Nat.reduceLT, Nat.reducePow, beq_self_eq_true, id_eq, q0, q1, q2, q3, q4, el, c1, decide_false]
          · have q4 := q 4
            rw [decide_eq_false z4] at q4
            obtain ⟨r3, sr3, e3, ⟨l', rfl, hl'⟩, i3⟩ := (word_draws (m := 7) (by decide) (by decide)).app (n := 2) i2
            have e3' : ∀ (sl : List (Option SV)), appF 2 F_law_word [SV.src, SV.sh (PyData.int 7)] ⟨sl, some sr2⟩ = .ok (.own (LD l')) ⟨sl, some sr3⟩ := e3
            refine ⟨.own (LD l'), sr3, [some .src, some (.sh (LD l)), some (.sh (.int v)), some (.sh (.int (k : Int)))], run_ret ?_, ⟨_, .inl rfl, ⟨hl'.ne, hl'.abc, by have := hl'.len; omega⟩⟩, i3⟩
            refine seq_nx hp ?_
            simp only [cSeq, cSkip, cAsg, cRet, cExpr, cIfS, cFor, cPar, cAug, cSetIx, cBinE, cBinV, cCall1, cCallN, cCall, cIt, cRangeC1, cRangeC2, cEnum, cZip, cTup, cLst, cNil, cCons, cConsR, cStar, cD, cVar, cVarV, vE, cT, cAnd, cOr, cNot, cAndV, cOrV, cNotV, cIf, cChain, cSlE2, cSlV2, bnd, cRev2, cNeg, cBits, cMeth, gNm, gTp, gsCons, gsNil, setMany, datAt, SV.dat, SV.settle, datas, fnsOf, cTupF, cFn, okA, tyD, bnd_ok, bnd_exc, opt_some, quiet_ok, shs_cons, shs_nil, itemsOf, Option.map_some, Option.bind_some, Option.map_none, Option.bind_none, padS, List.map_cons, List.map_nil, List.length_cons, List.length_nil, Nat.reduceAdd, Nat.reduceSub, List.replicate_succ, List.replicate_zero, List.cons_append, List.nil_append, List.getElem?_cons_zero, List.getElem?_cons_succ, List.set_cons_zero, List.set_cons_succ, if_true, if_false, Bool.false_eq_true, dGt, dLt, dLe2, dGe2, dOrd, dOrdI, dAddI, dSub, decide_eq_true_eq, Bool.not_eq_true', decide_eq_false_iff_not, sizeLine_eq, Nat.reduceLeDiff, Nat.zero_le, Nat.reduceLT, Nat.reducePow, beq_self_eq_true, id_eq, q0, q1, q2, q3, q4, e3']
end Law
end Pw
set_option Elab.async false
set_option linter.all false
set_option maxRecDepth 100000
set_option exponentiation.threshold 10000
namespace Pw
namespace Law
open PySem PySem.Spec PyProof.Rows L2 Pw.Wd
abbrev qS (o2 o3 o4 o5 o6 o7 o8 o9 o10 o11 o12 o13 o14 o15 o16 o17 o18 o19 : Option SV) (src : Option Src) : S := ⟨[none, some .src, o2, o3, o4, o5, o6, o7, o8, o9, o10, o11, o12, o13, o14, o15, o16, o17, o18, o19, some .tb], src⟩
def wdD (As : List (List Str)) : D := .list (As.map LD)
def fmD (As : List (List Str)) : D := .list (As.map fun A => wD (rle A))
theorem wds_at {As : List (List Str)} {k : Nat} (h : k < As.length) : dIx (wdD As) (.int (k : Int)) = some (.sh (LD As[k])) := by
  unfold wdD
  refine ix_l ?_
  rw [atI_nat (by simpa using h)]
  simp
theorem fm_at {As : List (List Str)} {k : Nat} (h : k < As.length) : dIx (fmD As) (.int (k : Int)) = some (.sh (wD (rle As[k]))) := by
  unfold fmD
  refine ix_l ?_
  rw [atI_nat (by simpa using h)]
  simp
section
variable {c t : Addr} {o2 o3 o4 o5 o6 o7 o8 o9 o10 o11 o12 o13 o14 o15 o16 o17 o18 o19 : Option SV}
theorem la1 {sr : Src} (hi : SrcIn sr) : ∃ A sr', Sh A 12 ∧ SrcIn sr' ∧ cAsg (cLst (cCons (cCall 2 F_law_word (cCons (cVar 1) (cCons (cD (.int 12)) cNil))) cNil)) (gNm 2) (qS o2 o3 o4 o5 o6 o7 o8 o9 o10 o11 o12 o13 o14 o15 o16 o17 o18 o19 (some sr)) = .ok .nx (qS (some (.own (wdD [A]))) o3 o4 o5 o6 o7 o8 o9 o10 o11 o12 o13 o14 o15 o16 o17 o18 o19 (some sr')) := by
  obtain ⟨r, sr', e1, ⟨l, rfl, hl⟩, i1⟩ := (word_draws (m := 12) (by decide) (by decide)).app (n := 2) hi
  have e1' : ∀ (sl : List (Option SV)), appF 2 F_law_word [SV.src, SV.sh (PyData.int 12)] ⟨sl, some sr⟩ = .ok (.own (LD l)) ⟨sl, some sr'⟩ := e1
  refine ⟨l, sr', hl, i1, ?_⟩
  simp only [cSeq, cSkip, cAsg, cRet, cExpr, cIfS, cFor, cPar, cAug, cSetIx, cBinE, cBinV, cCall1, cCallN, cCall, cIt, cRangeC1, cRangeC2, cEnum, cZip, cTup, cLst, cNil, cCons, cConsR, cStar, cD, cVar, cVarV, vE, cT, cAnd, cOr, cNot, cAndV, cOrV, cNotV, cIf, cChain, cSlE2, cSlV2, bnd, cRev2, cNeg, cBits, cMeth, gNm, gTp, gsCons, gsNil, setMany, datAt, SV.dat, SV.settle, datas, fnsOf, cTupF, cFn, okA, tyD, bnd_ok, bnd_exc, opt_some, quiet_ok, shs_cons, shs_nil, itemsOf, Option.map_some, Option.bind_some, Option.map_none, Option.bind_none, padS, List.map_cons, List.map_nil, List.length_cons, List.length_nil, Nat.reduceAdd, Nat.reduceSub, List.replicate_succ, List.replicate_zero, List.cons_append, List.nil_append, List.getElem?_cons_zero, List.getElem?_cons_succ, List.set_cons_zero, List.set_cons_succ, if_true, if_false, Bool.false_eq_true, dGt, dLt, dLe2, dGe2, dOrd, dOrdI, dAddI, dSub, decide_eq_true_eq, Bool.not_eq_true', decide_eq_false_iff_not, sizeLine_eq, Nat.reduceLeDiff, Nat.zero_le, Nat.reduceLT, Nat.reducePow, beq_self_eq_true, id_eq, qS, e1', dis_lst, wdD]
theorem la2 {A : List Str} (hA : Sh A 12) {sr : Src} (hi : SrcIn sr) : ∃ B C sr', Sh B 40 ∧ Sh C 40 ∧ SrcIn sr' ∧ cAsg (cBinV dAdd 2 (vE (cLst (cCons (cCall 2 F_law_other (cCons (cVar 1) (cCons (cBinV dIx 2 (vE (cD (.int 0)))) cNil))) (cCons (cCall 2 F_law_other (cCons (cVar 1) (cCons (cBinV dIx 2 (vE (cD (.int 0)))) cNil))) cNil))))) (gNm 2) (qS (some (.own (wdD [A]))) o3 o4 o5 o6 o7 o8 o9 o10 o11 o12 o13 o14 o15 o16 o17 o18 o19 (some sr)) = .ok .nx (qS (some (.own (wdD [A, B, C]))) o3 o4 o5 o6 o7 o8 o9 o10 o11 o12 o13 o14 o15 o16 o17 o18 o19 (some sr')) := by
  obtain ⟨r1, sr1, e1, ⟨B, hB, hB2⟩, i1⟩ := (other_draws hA).app (n := 2) hi
  obtain ⟨r2, sr2, e2, ⟨C, hC, hC2⟩, i2⟩ := (other_draws hA).app (n := 2) i1
  have w0 : dIx (.list [LD A]) (.int 0) = some (.sh (LD A)) := ix_l0 _ _
  have ea : dAdd (.list [LD A]) (.list [LD B, LD C]) = some (.own (.list [LD A, LD B, LD C])) := by
    have : [LD A].length + [LD B, LD C].length ≤ sizeLine := szl (Nat.le_of_ble_eq_true rfl)
    unfold dAdd
    dsimp only
    rw [if_pos this]
    rfl
  refine ⟨B, C, sr2, hB2, hC2, i2, ?_⟩
  rcases hB with rfl | rfl <;> rcases hC with rfl | rfl <;> simp only [cSeq, cSkip, cAsg, cRet, cExpr, cIfS, cFor, cPar, cAug, cSetIx, cBinE, cBinV, cCall1, cCallN, cCall, cIt, cRangeC1, cRangeC2, cEnum, cZip, cTup, cLst, cNil, cCons, cConsR, cStar, cD, cVar, cVarV, vE, cT, cAnd, cOr, cNot, cAndV, cOrV, cNotV, cIf, cChain, cSlE2, cSlV2, bnd, cRev2, cNeg, cBits, cMeth, gNm, gTp, gsCons, gsNil, setMany, datAt, SV.dat, SV.settle, datas, fnsOf, cTupF, cFn, okA, tyD, bnd_ok, bnd_exc, opt_some, quiet_ok, shs_cons, shs_nil, itemsOf, Option.map_some, Option.bind_some, Option.map_none, Option.bind_none, padS, List.map_cons, List.map_nil, List.length_cons, List.length_nil, Nat.reduceAdd, Nat.reduceSub, List.replicate_succ, List.replicate_zero, List.cons_append, List.nil_append, List.getElem?_cons_zero, List.getElem?_cons_succ, List.set_cons_zero, List.set_cons_succ, if_true, if_false, Bool.false_eq_true, dGt, dLt, dLe2, dGe2, dOrd, dOrdI, dAddI, dSub, decide_eq_true_eq, Bool.not_eq_true', decide_eq_false_iff_not, sizeLine_eq, Nat.reduceLeDiff, Nat.zero_le, Nat.reduceLT, Nat.reducePow, beq_self_eq_true, id_eq, qS, wdD, w0, e1, e2, dis_lst, ea]
theorem la3 {As : List (List Str)} (h : ∀ A ∈ As, Row A) (hn : As.length ≤ 100) {src : Option Src} : cAsg (cComp (cIt (cVar 2)) g_law_0 cYes e_law_1 [11]) (gNm 3) (qS (some (.own (wdD As))) o3 o4 o5 o6 o7 o8 o9 o10 none o12 o13 o14 o15 o16 o17 o18 o19 src) = .ok .nx (qS (some (.sh (wdD As))) (some (.own (fmD As))) o4 o5 o6 o7 o8 o9 o10 none o12 o13 o14 o15 o16 o17 o18 o19 src) := by
  have ec := comp_map (g := g_law_0) (f := e_law_1) (vs := [11]) (s := qS (some (.sh (wdD As))) o3 o4 o5 o6 o7 o8 o9 o10 none o12 o13 o14 o15 o16 o17 o18 o19 src) (fun A => .sh (LD A)) (fun A => wD (rle A)) As [] (fun x hx => by
    have e1 := (runs_row (l := x) (by have := (h x hx).few; omega)).app (n := 1)
    simp only [App] at e1
    refine ⟨qS (some (.sh (wdD As))) o3 o4 o5 o6 o7 o8 o9 o10 (some (.sh (LD x))) o12 o13 o14 o15 o16 o17 o18 o19 src, qS (some (.sh (wdD As))) o3 o4 o5 o6 o7 o8 o9 o10 (some (.sh (LD x))) o12 o13 o14 o15 o16 o17 o18 o19 src, .sh (wD (rle x)), rfl, ?_, rfl, rfl⟩
    simp only [e_law_1, cSeq, cSkip, cAsg, cRet, cExpr, cIfS, cFor, cPar, cAug, cSetIx, cBinE, cBinV, cCall1, cCallN, cCall, cIt, cRangeC1, cRangeC2, cEnum, cZip, cTup, cLst, cNil, cCons, cConsR, cStar, cD, cVar, cVarV, vE, cT, cAnd, cOr, cNot, cAndV, cOrV, cNotV, cIf, cChain, cSlE2, cSlV2, bnd, cRev2, cNeg, cBits, cMeth, gNm, gTp, gsCons, gsNil, setMany, datAt, SV.dat, SV.settle, datas, fnsOf, cTupF, cFn, okA, tyD, bnd_ok, bnd_exc, opt_some, quiet_ok, shs_cons, shs_nil, itemsOf, Option.map_some, Option.bind_some, Option.map_none, Option.bind_none, padS, List.map_cons, List.map_nil, List.length_cons, List.length_nil, Nat.reduceAdd, Nat.reduceSub, List.replicate_succ, List.replicate_zero, List.cons_append, List.nil_append, List.getElem?_cons_zero, List.getElem?_cons_succ, List.set_cons_zero, List.set_cons_succ, if_true, if_false, Bool.false_eq_true, dGt, dLt, dLe2, dGe2, dOrd, dOrdI, dAddI, dSub, decide_eq_true_eq, Bool.not_eq_true', decide_eq_false_iff_not, sizeLine_eq, Nat.reduceLeDiff, Nat.zero_le, Nat.reduceLT, Nat.reducePow, beq_self_eq_true, id_eq, qS, e1]) (szl (by simp; omega))
  have es : shs (As.map LD) = As.map fun A => SV.sh (LD A) := by unfold shs; rw [List.map_map]; rfl
  simp only [List.nil_append, qS, wdD] at ec
  simp only [cSeq, cSkip, cAsg, cRet, cExpr, cIfS, cFor, cPar, cAug, cSetIx, cBinE, cBinV, cCall1, cCallN, cCall, cIt, cRangeC1, cRangeC2, cEnum, cZip, cTup, cLst, cNil, cCons, cConsR, cStar, cD, cVar, cVarV, vE, cT, cAnd, cOr, cNot, cAndV, cOrV, cNotV, cIf, cChain, cSlE2, cSlV2, bnd, cRev2, cNeg, cBits, cMeth, gNm, gTp, gsCons, gsNil, setMany, datAt, SV.dat, SV.settle, datas, fnsOf, cTupF, cFn, okA, tyD, bnd_ok, bnd_exc, opt_some, quiet_ok, shs_cons, shs_nil, itemsOf, Option.map_some, Option.bind_some, Option.map_none, Option.bind_none, padS, List.map_cons, List.map_nil, List.length_cons, List.length_nil, Nat.reduceAdd, Nat.reduceSub, List.replicate_succ, List.replicate_zero, List.cons_append, List.nil_append, List.getElem?_cons_zero, List.getElem?_cons_succ, List.set_cons_zero, List.set_cons_succ, if_true, if_false, Bool.false_eq_true, dGt, dLt, dLe2, dGe2, dOrd, dOrdI, dAddI, dSub, decide_eq_true_eq, Bool.not_eq_true', decide_eq_false_iff_not, sizeLine_eq, Nat.reduceLeDiff, Nat.zero_le, Nat.reduceLT, Nat.reducePow, beq_self_eq_true, id_eq, qS, wdD, fmD, cComp, es, wipeS, backS, ec]
  rfl
theorem p30 : dPow (.int 10) (.int 30) = some (.sh (.int ((10 ^ 30 : Nat) : Int))) := by
  have h : (0 : Int) ≤ 30 ∧ (30 : Int) ≤ 100000 ∧ (10 : Int).natAbs < 2 ^ 64 := by decide
  have e : (10 : Int) ^ (30 : Int).toNat = ((10 ^ 30 : Nat) : Int) := by decide +kernel
  unfold dPow
  dsimp only
  rw [if_pos h, e]
def T288 : Str := Txt.mul "7" 288
def N288 : Nat := 7 * (10 ^ 288 - 1) / 9
theorem s288 : dMul2 (.str "7") (.int 288) = some (.sh (.str T288)) := mulS ⟨by decide, by decide, by decide +kernel⟩
theorem r288 : dInt (.str T288) = some (.sh (.int (N288 : Int))) := by
  have h1 : T288.length ≤ 640 := by decide +kernel
  have h2 : PySem.intText? T288 = some (N288 : Int) := by decide +kernel
  unfold dInt
  dsimp only
  rw [if_pos h1, h2]
  rfl
def N30 : Nat := 10 ^ 30
theorem p30' : dPow (.int 10) (.int 30) = some (.sh (.int (N30 : Int))) := p30
structure Tm (t : Nat) : Prop where
  pos : 0 < t
  lt : t < 10 ^ 290
theorem la4 {sr : Src} (hi : SrcIn sr) : ∃ (t : Nat) (sr' : Src), Tm t ∧ SrcIn sr' ∧ cAsg (cCall 2 F_law_of (cCons (cVar 1) (cCons (cLst (cCons (cD (.int 2)) (cCons (cBinE dPow (cD (.int 10)) (vE (cD (.int 30)))) (cCons (cCall1 dInt (vE (cBinE dMul2 (cD (.str "7")) (vE (cD (.int 288)))))) cNil)))) cNil))) (gNm 4) (qS o2 o3 o4 o5 o6 o7 o8 o9 o10 o11 o12 o13 o14 o15 o16 o17 o18 o19 (some sr)) = .ok .nx (qS o2 o3 (some (.sh (.int (t : Int)))) o5 o6 o7 o8 o9 o10 o11 o12 o13 o14 o15 o16 o17 o18 o19 (some sr')) := by
  obtain ⟨r, sr', e1, ⟨y, hy, rfl⟩, i1⟩ := (of_draws (xs := [.int 2, .int (N30 : Int), .int (N288 : Int)]) (by simp) (by simp)).app (n := 2) hi
  obtain ⟨t, ht, rfl⟩ : ∃ t : Nat, Tm t ∧ y = .int (t : Int) := by
    simp only [List.mem_cons, List.not_mem_nil, or_false] at hy
    rcases hy with rfl | rfl | rfl
    · exact ⟨2, ⟨by decide, by decide +kernel⟩, rfl⟩
    · exact ⟨N30, ⟨by decide +kernel, by decide +kernel⟩, rfl⟩
    · exact ⟨N288, ⟨by decide +kernel, by decide +kernel⟩, rfl⟩
  refine ⟨t, sr', ht, i1, ?_⟩
  simp only [cSeq, cSkip, cAsg, cRet, cExpr, cIfS, cFor, cPar, cAug, cSetIx, cBinE, cBinV, cCall1, cCallN, cCall, cIt, cRangeC1, cRangeC2, cEnum, cZip, cTup, cLst, cNil, cCons, cConsR, cStar, cD, cVar, cVarV, vE, cT, cAnd, cOr, cNot, cAndV, cOrV, cNotV, cIf, cChain, cSlE2, cSlV2, bnd, cRev2, cNeg, cBits, cMeth, gNm, gTp, gsCons, gsNil, setMany, datAt, SV.dat, SV.settle, datas, fnsOf, cTupF, cFn, okA, tyD, bnd_ok, bnd_exc, opt_some, quiet_ok, shs_cons, shs_nil, itemsOf, Option.map_some, Option.bind_some, Option.map_none, Option.bind_none, padS, List.map_cons, List.map_nil, List.length_cons, List.length_nil, Nat.reduceAdd, Nat.reduceSub, List.replicate_succ, List.replicate_zero, List.cons_append, List.nil_append, List.getElem?_cons_zero, List.getElem?_cons_succ, List.set_cons_zero, List.set_cons_succ, if_true, if_false, Bool.false_eq_true, dGt, dLt, dLe2, dGe2, dOrd, dOrdI, dAddI, dSub, decide_eq_true_eq, Bool.not_eq_true', decide_eq_false_iff_not, sizeLine_eq, Nat.reduceLeDiff, Nat.zero_le, Nat.reduceLT, Nat.reducePow, beq_self_eq_true, id_eq, qS, p30', s288, r288, dis_lst, e1]
end
end Law
end Pw
set_option Elab.async false
set_option linter.all false
set_option maxRecDepth 100000
set_option exponentiation.threshold 10000
namespace Pw
namespace Law
open PySem PySem.Spec PyProof.Rows L2 Pw.Wd
theorem partR_uniq {f g : Nat → Option Str} {r s : Option (Nat × Str × Str)} (h : partR f g r) (k : partR f g s) : r = s := by
  cases r with
  | none =>
    cases s with
    | none => rfl
    | some y => exact absurd h (FD.not_same k)
  | some x =>
    cases s with
    | none => exact absurd k (FD.not_same h)
    | some y =>
      obtain ⟨i, a, b⟩ := x
      obtain ⟨j, c, d⟩ := y
      obtain ⟨rfl, rfl, rfl⟩ := FD.uniq h k
      rfl
theorem partR_iff {u v : List Str} (hu : u ≠ []) (hv : v ≠ []) {r : Option (Nat × Str × Str)} (h : partR (om u) (om v) r) : decide (r = none) = decide (root u = root v) := by
  cases r with
  | none =>
    have : root u = root v := root_eq hu hv h
    simp [this]
  | some x =>
    obtain ⟨i, a, b⟩ := x
    have : ¬ root u = root v := fun z => FD.not_same h ((root_iff hu hv).mp z)
    simp [this]
theorem om_abc {l : List Str} (h : ∀ a ∈ l, a ∈ abcd) {i : Nat} {a : Str} (e : om l i = some a) : a ∈ abcd := by
  unfold om at e
  exact h a (List.mem_of_getElem? e)
theorem nice_part {i : Nat} {a b : Str} (hi : (i : Int) < 10 ^ 310) (ha : a ∈ abcd) (hb : b ∈ abcd) : Nice (partD (some (i, a, b))) 3 10000 := by
  refine (Nice.tuple (k := 0) (n := 310) fun d hd => ?_).mono (by decide) (by simp)
  simp only [List.mem_cons, List.not_mem_nil, or_false] at hd
  rcases hd with rfl | rfl | rfl
  · exact nice_n hi
  · exact nice_ab ha
  · exact nice_ab hb
theorem nice_no : Nice (partD none) 3 10000 := ⟨rfl, rfl, rfl, Nat.zero_le _, by show (PyData.shown .none).length ≤ 10000; decide +kernel⟩
theorem nice_side {i : Nat} (b : Bool) (hi : (i : Int) < 10 ^ 310) : Nice (.tuple [.str (if b = true then "before" else "behind"), .int (i : Int)]) 3 10000 := by
  refine (Nice.tuple (k := 0) (n := 310) fun d hd => ?_).mono (by decide) (by simp)
  simp only [List.mem_cons, List.not_mem_nil, or_false] at hd
  rcases hd with rfl | rfl
  · exact Nice.str (by cases b <;> decide +kernel)
  · exact nice_n hi
theorem nice_alike : Nice (.tuple [.str "alike", .none]) 3 10000 := by
  refine (Nice.tuple (k := 0) (n := 310) fun d hd => ?_).mono (by decide) (by simp)
  simp only [List.mem_cons, List.not_mem_nil, or_false] at hd
  rcases hd with rfl | rfl
  · exact Nice.str (by decide +kernel)
  · exact ⟨rfl, rfl, rfl, Nat.le_refl _, by decide +kernel⟩
/-- what is known of two words -/
theorem pair_facts (c t : Addr) {U V : List Str} (hU : Row U) (hV : Row V) {q : Nat} (hq : Tm q) : ∃ r : Option (Nat × Str × Str), partR (om U) (om V) r ∧
    Rets F_law_parted [.sh (LD U), .sh (LD V)] (.sh (partD r)) ∧ Rets F_endless_parted [.sh (wD (rle U)), .sh (wD (rle V))] (.sh (partD r)) ∧ Rets (F_order_told c t) [.sh (wD (rle U)), .sh (wD (rle V))] (.sh (ordD r)) ∧
    Rets F_endless_parted [.sh (wD (farW (rle U) q)), .sh (wD (farW (rle V) q))] (.sh (partD (r.map fun x => (x.1 * q, x.2)))) := by
  have fu := hU.few
  have fv := hV.few
  have ru := rle_few hU
  have rv := rle_few hV
  obtain ⟨r, hr, p1, p2⟩ := order_ok c t (u := rle U) (v := rle V) (nrm_rle U) (nrm_rle V) (rle_ne hU.ne) (rle_ne hV.ne) (by omega) (by omega) (by
    have h3 : tot (rle U) = U.length := by rw [← len_exp, exp_rle]
    have h4 : tot (rle V) = V.length := by rw [← len_exp, exp_rle]
    have := far_big
    omega)
  rw [exp_rle, exp_rle] at hr
  obtain ⟨r', hr', p3⟩ := parted_ok (u := farW (rle U) q) (v := farW (rle V) q) (far_nrm (nrm_rle U) hq.pos) (far_nrm (nrm_rle V) hq.pos) (far_ne (rle_ne hU.ne) q) (far_ne (rle_ne hV.ne) q) (by unfold farW; rw [List.length_map]; omega) (by unfold farW; rw [List.length_map]; omega)
  rw [exp_far, exp_far, exp_rle, exp_rle] at hr'
  have e := partR_uniq hr' (part_blow hq.pos hr)
  subst e
  exact ⟨r, hr, lp_ok hU.ne hV.ne (by omega) (by omega) hr, p1, p2, p3⟩
section
variable {c t : Addr} {As : List (List Str)} {o6 o7 o8 o9 o11 o12 o13 o14 o15 o16 o17 o18 o19 : Option SV} {src : Option Src}
theorem pair_ok (h : ∀ A ∈ As, Row A) {q : Nat} (hq : Tm q) {j k : Nat} (hj : j < As.length) (hk : k < As.length) (o9 o16 o17 : Option SV) : ∃ o9' o16' o17', b_law_5 c t (qS (some (.sh (wdD As))) (some (.own (fmD As))) (some (.sh (.int (q : Int)))) (some (.sh (.int (j : Int)))) o6 o7 o8 o9 (some (.sh (.int (k : Int)))) o11 o12 o13 o14 o15 o16 o17 o18 o19 src) = .ok .nx (qS (some (.sh (wdD As))) (some (.own (fmD As))) (some (.sh (.int (q : Int)))) (some (.sh (.int (j : Int)))) o6 o7 o8 o9' (some (.sh (.int (k : Int)))) o11 o12 o13 o14 o15 o16' o17' o18 o19 src) := by
  have hU := h As[j] (List.getElem_mem hj)
  have hV := h As[k] (List.getElem_mem hk)
  have w1 := wds_at hj
  have w2 := wds_at hk
  have f1 := fm_at hj
  have f2 := fm_at hk
  generalize As[j] = U at *
  generalize As[k] = V at *
  generalize wdD As = wd at *
  generalize fmD As = fm at *
  obtain ⟨r, hr, p1, p2, p3, p4⟩ := pair_facts c t hU hV hq
  have hiff := partR_iff hU.ne hV.ne hr
  have fu := hU.few
  have fv := hV.few
  have sm : ∀ (l : List Str), l.length ≤ 100 → ∀ p ∈ rle l, p.2 < 1000 := fun l hl p hp => by have := rle_count hp; omega
  have g1 := (far_ok (sm U fu) (by have := rle_few hU; omega) q).app (n := 2)
  have g2 := (far_ok (sm V fv) (by have := rle_few hV; omega) q).app (n := 2)
  have t1 := (root_row hU).app (n := 1)
  have t2 := (root_row hV).app (n := 1)
  have i1 : dIx (rootD U) (.int 0) = some (.sh (LD (root U))) := ix_t0 _ _
  have i2 : dIx (rootD V) (.int 0) = some (.sh (LD (root V))) := ix_t0 _ _
  have de := dEq_s (root U) (root V)
  rw [← hiff] at de
  have p1 := p1.app (n := 2)
  have p2 := p2.app (n := 2)
  have p3 := p3.app (n := 2)
  have p4 := p4.app (n := 2)
  simp only [App] at p1 p2 p3 p4 g1 g2 t1 t2
  cases r with
  | none =>
    have hn := nice_no
    have n1 := hn.repr (by decide) (by decide)
    have n2 := ne_self (a := .str (partD none).shown) (b := .str (partD none).shown) (Nice.str (Nat.le_refl _)) (by decide) rfl
    have n3 := nice_alike.repr (by decide) (by decide)
    have n4 := ne_self (a := .str (PyData.tuple [.str "alike", .none]).shown) (b := .str (PyData.tuple [.str "alike", .none]).shown) (Nice.str (Nat.le_refl _)) (by decide) rfl
    have z1 : dNe (.bool true) (.bool true) = some (.sh (.bool false)) := rfl
    have z2 : dIs false (partD none) .none = some (.sh (.bool true)) := rfl
    have z3 : dIs true (partD none) .none = some (.sh (.bool false)) := rfl
    have z4 : ordD none = .tuple [.str "alike", .none] := rfl
    have n5 : dRepr .none = some (.sh (.str (partD none).shown)) := n1
    simp only [decide_true, Option.map_none, z4] at de p4 p3
    refine ⟨some (.sh (partD none)), some (.sh (.tuple [.str "alike", .none])), some (.sh (partD none)), ?_⟩
    generalize partD none = pn at *
    simp only [b_law_5, cSeq, cSkip, cAsg, cRet, cExpr, cIfS, cFor, cPar, cAug, cSetIx, cBinE, cBinV, cCall1, cCallN, cCall, cIt, cRangeC1, cRangeC2, cEnum, cZip, cTup, cLst, cNil, cCons, cConsR, cStar, cD, cVar, cVarV, vE, cT, cAnd, cOr, cNot, cAndV, cOrV, cNotV, cIf, cChain, cSlE2, cSlV2, bnd, cRev2, cNeg, cBits, cMeth, gNm, gTp, gsCons, gsNil, setMany, datAt, SV.dat, SV.settle, datas, fnsOf, cTupF, cFn, okA, tyD, bnd_ok, bnd_exc, opt_some, quiet_ok, shs_cons, shs_nil, itemsOf, Option.map_some, Option.bind_some, Option.map_none, Option.bind_none, padS, List.map_cons, List.map_nil, List.length_cons, List.length_nil, Nat.reduceAdd, Nat.reduceSub, List.replicate_succ, List.replicate_zero, List.cons_append, List.nil_append, List.getElem?_cons_zero, List.getElem?_cons_succ, List.set_cons_zero, List.set_cons_succ, if_true, if_false, Bool.false_eq_true, dGt, dLt, dLe2, dGe2, dOrd, dOrdI, dAddI, dSub, decide_eq_true_eq, Bool.not_eq_true', decide_eq_false_iff_not, sizeLine_eq, Nat.reduceLeDiff, Nat.zero_le, Nat.reduceLT, Nat.reducePow, beq_self_eq_true, id_eq, qS, w1, w2, f1, f2, p1, p2, n1, n2, t1, t2, i1, i2, de, z1, z2, z3, dis_tup, p3, n3, n4, g1, g2, p4, n5]
  | some x =>
    obtain ⟨i, a, b⟩ := x
    have hF : FD (om U) (om V) i a b := hr
    have ha := om_abc hU.abc hF.one
    have hb := om_abc hV.abc hF.two
    have hi : i < 200 := by have := FD.lt_sum hU.ne hV.ne hF; omega
    have hi2 : (i : Int) < 10 ^ 310 := Int.lt_trans (show (i : Int) < 200 by omega) (show (200 : Int) < 10 ^ 310 by decide +kernel)
    have hiq : ((i * q : Nat) : Int) < 10 ^ 310 := by
      have h1 : i * q < 200 * 10 ^ 290 := Nat.lt_of_le_of_lt (Nat.mul_le_mul_left i (Nat.le_of_lt hq.lt)) (Nat.mul_lt_mul_of_pos_right hi (by decide +kernel))
      have h2 : 200 * 10 ^ 290 < 10 ^ 310 := by decide +kernel
      have h3 : (10 ^ 310 : Int) = ((10 ^ 310 : Nat) : Int) := by decide +kernel
      rw [h3]
      exact Int.ofNat_lt.mpr (Nat.lt_trans h1 h2)
    have hn := nice_part hi2 ha hb
    have n1 := hn.repr (by decide) (by decide)
    have n2 := ne_self (a := .str (partD (some (i, a, b))).shown) (b := .str (partD (some (i, a, b))).shown) (Nice.str (Nat.le_refl _)) (by decide) rfl
    have hs := nice_side (i := i) (strLt a b) hi2
    have n3 := hs.repr (by decide) (by decide)
    generalize hside : (if strLt a b = true then ("before" : Str) else "behind") = side at *
    have n4 := ne_self (a := .str (PyData.tuple [.str side, .int (i : Int)]).shown) (b := .str (PyData.tuple [.str side, .int (i : Int)]).shown) (Nice.str (Nat.le_refl _)) (by decide) rfl
    have hf := nice_part hiq ha hb
    have n5 := hf.repr (by decide) (by decide)
    have n6 := ne_self (a := .str (partD (some (i * q, a, b))).shown) (b := .str (partD (some (i * q, a, b))).shown) (Nice.str (Nat.le_refl _)) (by decide) rfl
    have z0 : decide (some (i, a, b) = none) = false := rfl
    have z1 : dNe (.bool false) (.bool false) = some (.sh (.bool false)) := rfl
    have z2 : dIs false (partD (some (i, a, b))) .none = some (.sh (.bool false)) := rfl
    have z3 : dIs true (partD (some (i, a, b))) .none = some (.sh (.bool true)) := rfl
    have z4 : ordD (some (i, a, b)) = .tuple [.str side, .int (i : Int)] := by rw [← hside]; rfl
    have z5 : (Option.map (fun x : Nat × Str × Str => (x.1 * q, x.2)) (some (i, a, b))) = some (i * q, a, b) := rfl
    have x0 : dIx (partD (some (i, a, b))) (.int 0) = some (.sh (.int (i : Int))) := ix_t0 _ _
    have x1 : dIx (partD (some (i, a, b))) (.int 1) = some (.sh (.str a)) := ix_t1 _ _ _
    have x2 : dIx (partD (some (i, a, b))) (.int 2) = some (.sh (.str b)) := ix_t2 _ _ _ _
    have mm : mulFits (i : Int) (q : Int) = true := mulFits_l (by unfold smallI; simp only [Bool.and_eq_true, decide_eq_true_eq]; omega)
    have e1 := mulI mm
    have z6 : (PyData.tuple [.int ((i : Int) * (q : Int)), .str a, .str b]) = partD (some (i * q, a, b)) := by
      show _ = PyData.tuple [.int ((i * q : Nat) : Int), .str a, .str b]
      rw [Int.natCast_mul]
    rw [z0] at de
    rw [z4] at p3
    rw [z5] at p4
    refine ⟨some (.sh (partD (some (i, a, b)))), some (.sh (.tuple [.str side, .int (i : Int)])), some (.sh (partD (some (i * q, a, b)))), ?_⟩
    generalize partD (some (i, a, b)) = pd at *
    generalize partD (some (i * q, a, b)) = pf at *
    have lt : ∀ b' : Bool, strLt a b = b' → dLt (.str a) (.str b) = some (.sh (.bool b')) := fun b' e => by rw [← e]; rfl
    cases hlt : strLt a b with
    | true =>
      rw [hlt] at hside
      have hs : side = "before" := hside.symm
      subst hs
      have l1 := lt true hlt
      unfold dLt at l1
      simp only [b_law_5, cSeq, cSkip, cAsg, cRet, cExpr, cIfS, cFor, cPar, cAug, cSetIx, cBinE, cBinV, cCall1, cCallN, cCall, cIt, cRangeC1, cRangeC2, cEnum, cZip, cTup, cLst, cNil, cCons, cConsR, cStar, cD, cVar, cVarV, vE, cT, cAnd, cOr, cNot, cAndV, cOrV, cNotV, cIf, cChain, cSlE2, cSlV2, bnd, cRev2, cNeg, cBits, cMeth, gNm, gTp, gsCons, gsNil, setMany, datAt, SV.dat, SV.settle, datas, fnsOf, cTupF, cFn, okA, tyD, bnd_ok, bnd_exc, opt_some, quiet_ok, shs_cons, shs_nil, itemsOf, Option.map_some, Option.bind_some, Option.map_none, Option.bind_none, padS, List.map_cons, List.map_nil, List.length_cons, List.length_nil, Nat.reduceAdd, Nat.reduceSub, List.replicate_succ, List.replicate_zero, List.cons_append, List.nil_append, List.getElem?_cons_zero, List.getElem?_cons_succ, List.set_cons_zero, List.set_cons_succ, if_true, if_false, Bool.false_eq_true, dGt, dLt, dLe2, dGe2, dOrd, dOrdI, dAddI, dSub, decide_eq_true_eq, Bool.not_eq_true', decide_eq_false_iff_not, sizeLine_eq, Nat.reduceLeDiff, Nat.zero_le, Nat.reduceLT, Nat.reducePow, beq_self_eq_true, id_eq, qS, w1, w2, f1, f2, p1, p2, n1, n2, t1, t2, i1, i2, de, z1, z2, z3, x0, x1, x2, dLt, l1, hlt, eq_self, dis_tup, p3, n3, n4, g1, g2, p4, e1, z6, n5, n6]
    | false =>
      rw [hlt] at hside
      have hs : side = "behind" := hside.symm
      subst hs
      have l1 := lt false hlt
      unfold dLt at l1
      simp only [b_law_5, cSeq, cSkip, cAsg, cRet, cExpr, cIfS, cFor, cPar, cAug, cSetIx, cBinE, cBinV, cCall1, cCallN, cCall, cIt, cRangeC1, cRangeC2, cEnum, cZip, cTup, cLst, cNil, cCons, cConsR, cStar, cD, cVar, cVarV, vE, cT, cAnd, cOr, cNot, cAndV, cOrV, cNotV, cIf, cChain, cSlE2, cSlV2, bnd, cRev2, cNeg, cBits, cMeth, gNm, gTp, gsCons, gsNil, setMany, datAt, SV.dat, SV.settle, datas, fnsOf, cTupF, cFn, okA, tyD, bnd_ok, bnd_exc, opt_some, quiet_ok, shs_cons, shs_nil, itemsOf, Option.map_some, Option.bind_some, Option.map_none, Option.bind_none, padS, List.map_cons, List.map_nil, List.length_cons, List.length_nil, Nat.reduceAdd, Nat.reduceSub, List.replicate_succ, List.replicate_zero, List.cons_append, List.nil_append, List.getElem?_cons_zero, List.getElem?_cons_succ, List.set_cons_zero, List.set_cons_succ, if_true, if_false, Bool.false_eq_true, dGt, dLt, dLe2, dGe2, dOrd, dOrdI, dAddI, dSub, decide_eq_true_eq, Bool.not_eq_true', decide_eq_false_iff_not, sizeLine_eq, Nat.reduceLeDiff, Nat.zero_le, Nat.reduceLT, Nat.reducePow, beq_self_eq_true, id_eq, qS, w1, w2, f1, f2, p1, p2, n1, n2, t1, t2, i1, i2, de, z1, z2, z3, x0, x1, x2, dLt, l1, hlt, eq_self, dis_tup, p3, n3, n4, g1, g2, p4, e1, z6, n5, n6]
end
end Law
end Pw
set_option Elab.async false
set_option linter.all false
set_option maxRecDepth 100000
set_option exponentiation.threshold 10000
namespace Pw
namespace Law
open PySem PySem.Spec PyProof.Rows L2 Pw.Wd
section
variable {c t : Addr} {As : List (List Str)} {o6 o7 o8 o9 o10 o11 o12 o13 o14 o15 o16 o17 o18 : Option SV} {src : Option Src}
theorem pairs_loop {o19 : Option SV} (h : ∀ A ∈ As, Row A) {q : Nat} (hq : Tm q) {j : Nat} (hj : j < As.length) : ∀ (n k : Nat) (o9 o10 o16 o17 : Option SV), k + n ≤ As.length → ∃ o9' o10' o16' o17', forL g_law_4 (b_law_5 c t) (shs (rg k n)) (qS (some (.sh (wdD As))) (some (.own (fmD As))) (some (.sh (.int (q : Int)))) (some (.sh (.int (j : Int)))) o6 o7 o8 o9 o10 o11 o12 o13 o14 o15 o16 o17 o18 o19 src) = .ok .nx (qS (some (.sh (wdD As))) (some (.own (fmD As))) (some (.sh (.int (q : Int)))) (some (.sh (.int (j : Int)))) o6 o7 o8 o9' o10' o11 o12 o13 o14 o15 o16' o17' o18 o19 src)
  | 0, k, o9, o10, o16, o17, _ => ⟨o9, o10, o16, o17, rfl⟩
  | n + 1, k, o9, o10, o16, o17, hk => by
    obtain ⟨a, b, d, e⟩ := pair_ok (c := c) (t := t) (o6 := o6) (o7 := o7) (o8 := o8) (o11 := o11) (o12 := o12) (o13 := o13) (o14 := o14) (o15 := o15) (o18 := o18) (o19 := o19) (src := src) h hq hj (show k < As.length by omega) o9 o16 o17
    obtain ⟨a', b', c', d', ih⟩ := pairs_loop h hq hj n (k + 1) a (some (.sh (.int (k : Int)))) b d (by omega)
    rw [rg_succ, shs_cons]
    exact ⟨a', b', c', d', (forL_step (s1 := qS (some (.sh (wdD As))) (some (.own (fmD As))) (some (.sh (.int (q : Int)))) (some (.sh (.int (j : Int)))) o6 o7 o8 o9 (some (.sh (.int (k : Int)))) o11 o12 o13 o14 o15 o16 o17 o18 o19 src) (by rfl) e).trans ih⟩
/-! ### a word by itself -/
variable {wd fm : D} {U : List Str} {j : Nat} {o2 o3 o4 : Option SV}
abbrev jQ (wd fm : D) (o4 : Option SV) (j : Nat) (o6 o7 o8 o9 o10 o11 o12 o13 o14 o15 o16 o17 o18 : Option SV) (src : Option Src) : S := qS (some (.sh wd)) (some (.own fm)) o4 (some (.sh (.int (j : Int)))) o6 o7 o8 o9 o10 o11 o12 o13 o14 o15 o16 o17 o18 none src
theorem j2 (hU : Row U) (w1 : dIx wd (.int (j : Int)) = some (.sh (LD U))) (f1 : dIx fm (.int (j : Int)) = some (.sh (wD (rle U)))) : cIfS (cT (cBinE dNe (cCall 1 F_word_long (cCons (cBinV dIx 3 (cVarV 5)) cNil)) (vE (cCall1 dLen (vE (cBinV dIx 2 (cVarV 5))))))) (cRet (cD (.bool false))) cSkip (jQ wd fm o4 j o6 o7 o8 o9 o10 o11 o12 o13 o14 o15 o16 o17 o18 src) = .ok .nx (jQ wd fm o4 j o6 o7 o8 o9 o10 o11 o12 o13 o14 o15 o16 o17 o18 src) := by
  have e1 := (long_row hU).app (n := 1)
  have e2 := len_s U
  have e3 : dNe (.int (U.length : Int)) (.int (U.length : Int)) = some (.sh (.bool false)) := by rw [dNe_int, decide_eq_true rfl]; rfl
  simp only [App] at e1
  simp only [cSeq, cSkip, cAsg, cRet, cExpr, cIfS, cFor, cPar, cAug, cSetIx, cBinE, cBinV, cCall1, cCallN, cCall, cIt, cRangeC1, cRangeC2, cEnum, cZip, cTup, cLst, cNil, cCons, cConsR, cStar, cD, cVar, cVarV, vE, cT, cAnd, cOr, cNot, cAndV, cOrV, cNotV, cIf, cChain, cSlE2, cSlV2, bnd, cRev2, cNeg, cBits, cMeth, gNm, gTp, gsCons, gsNil, setMany, datAt, SV.dat, SV.settle, datas, fnsOf, cTupF, cFn, okA, tyD, bnd_ok, bnd_exc, opt_some, quiet_ok, shs_cons, shs_nil, itemsOf, Option.map_some, Option.bind_some, Option.map_none, Option.bind_none, padS, List.map_cons, List.map_nil, List.length_cons, List.length_nil, Nat.reduceAdd, Nat.reduceSub, List.replicate_succ, List.replicate_zero, List.cons_append, List.nil_append, List.getElem?_cons_zero, List.getElem?_cons_succ, List.set_cons_zero, List.set_cons_succ, if_true, if_false, Bool.false_eq_true, dGt, dLt, dLe2, dGe2, dOrd, dOrdI, dAddI, dSub, decide_eq_true_eq, Bool.not_eq_true', decide_eq_false_iff_not, sizeLine_eq, Nat.reduceLeDiff, Nat.zero_le, Nat.reduceLT, Nat.reducePow, beq_self_eq_true, id_eq, jQ, qS, w1, f1, e1, e2, e3]
theorem j3 (hU : Row U) (w1 : dIx wd (.int (j : Int)) = some (.sh (LD U))) : cAsg (cCall 1 F_law_root (cCons (cBinV dIx 2 (cVarV 5)) cNil)) (gTp (gsCons (gNm 12) (gsCons (gNm 13) gsNil))) (jQ wd fm o4 j o6 o7 o8 o9 o10 o11 o12 o13 o14 o15 o16 o17 o18 src) = .ok .nx (jQ wd fm o4 j o6 o7 o8 o9 o10 o11 (some (.sh (LD (root U)))) (some (.sh (.int (ofn U : Int)))) o14 o15 o16 o17 o18 src) := by
  have e1 := (root_row hU).app (n := 1)
  simp only [App, rootD] at e1
  simp only [cSeq, cSkip, cAsg, cRet, cExpr, cIfS, cFor, cPar, cAug, cSetIx, cBinE, cBinV, cCall1, cCallN, cCall, cIt, cRangeC1, cRangeC2, cEnum, cZip, cTup, cLst, cNil, cCons, cConsR, cStar, cD, cVar, cVarV, vE, cT, cAnd, cOr, cNot, cAndV, cOrV, cNotV, cIf, cChain, cSlE2, cSlV2, bnd, cRev2, cNeg, cBits, cMeth, gNm, gTp, gsCons, gsNil, setMany, datAt, SV.dat, SV.settle, datas, fnsOf, cTupF, cFn, okA, tyD, bnd_ok, bnd_exc, opt_some, quiet_ok, shs_cons, shs_nil, itemsOf, Option.map_some, Option.bind_some, Option.map_none, Option.bind_none, padS, List.map_cons, List.map_nil, List.length_cons, List.length_nil, Nat.reduceAdd, Nat.reduceSub, List.replicate_succ, List.replicate_zero, List.cons_append, List.nil_append, List.getElem?_cons_zero, List.getElem?_cons_succ, List.set_cons_zero, List.set_cons_succ, if_true, if_false, Bool.false_eq_true, dGt, dLt, dLe2, dGe2, dOrd, dOrdI, dAddI, dSub, decide_eq_true_eq, Bool.not_eq_true', decide_eq_false_iff_not, sizeLine_eq, Nat.reduceLeDiff, Nat.zero_le, Nat.reduceLT, Nat.reducePow, beq_self_eq_true, id_eq, jQ, qS, w1, e1]
theorem j4 (hU : Row U) (f1 : dIx fm (.int (j : Int)) = some (.sh (wD (rle U)))) : cIfS (cT (cBinE dNe (cCall1 dRepr (vE (cCall 1 (F_power_told c) (cCons (cBinV dIx 3 (cVarV 5)) cNil)))) (vE (cCall1 dRepr (vE (cTup (cCons (cCall 1 F_law_runs (cCons (cVar 12) cNil)) (cCons (cVar 13) cNil)))))))) (cRet (cD (.bool false))) cSkip (jQ wd fm o4 j o6 o7 o8 o9 o10 o11 (some (.sh (LD (root U)))) (some (.sh (.int (ofn U : Int)))) o14 o15 o16 o17 o18 src) = .ok .nx (jQ wd fm o4 j o6 o7 o8 o9 o10 o11 (some (.sh (LD (root U)))) (some (.sh (.int (ofn U : Int)))) o14 o15 o16 o17 o18 src) := by
  have e1 := (power_row c hU).app (n := 1)
  have e2 := (runs_row (l := root U) (by have := hU.root.few; omega)).app (n := 1)
  simp only [App] at e1 e2
  refine ifs_ff (s1 := jQ wd fm o4 j o6 o7 o8 o9 o10 o11 (some (.sh (LD (root U)))) (some (.sh (.int (ofn U : Int)))) o14 o15 o16 o17 o18 src) (reprs_ne (s1 := jQ wd fm o4 j o6 o7 o8 o9 o10 o11 (some (.sh (LD (root U)))) (some (.sh (.int (ofn U : Int)))) o14 o15 o16 o17 o18 src) (hU.root.nw.pair (n := ofn U) (ofn_small hU)) (by decide) (by decide) (Eq.refl _) ?_ ?_) (by rfl)
  · simp only [cSeq, cSkip, cAsg, cRet, cExpr, cIfS, cFor, cPar, cAug, cSetIx, cBinE, cBinV, cCall1, cCallN, cCall, cIt, cRangeC1, cRangeC2, cEnum, cZip, cTup, cLst, cNil, cCons, cConsR, cStar, cD, cVar, cVarV, vE, cT, cAnd, cOr, cNot, cAndV, cOrV, cNotV, cIf, cChain, cSlE2, cSlV2, bnd, cRev2, cNeg, cBits, cMeth, gNm, gTp, gsCons, gsNil, setMany, datAt, SV.dat, SV.settle, datas, fnsOf, cTupF, cFn, okA, tyD, bnd_ok, bnd_exc, opt_some, quiet_ok, shs_cons, shs_nil, itemsOf, Option.map_some, Option.bind_some, Option.map_none, Option.bind_none, padS, List.map_cons, List.map_nil, List.length_cons, List.length_nil, Nat.reduceAdd, Nat.reduceSub, List.replicate_succ, List.replicate_zero, List.cons_append, List.nil_append, List.getElem?_cons_zero, List.getElem?_cons_succ, List.set_cons_zero, List.set_cons_succ, if_true, if_false, Bool.false_eq_true, dGt, dLt, dLe2, dGe2, dOrd, dOrdI, dAddI, dSub, decide_eq_true_eq, Bool.not_eq_true', decide_eq_false_iff_not, sizeLine_eq, Nat.reduceLeDiff, Nat.zero_le, Nat.reduceLT, Nat.reducePow, beq_self_eq_true, id_eq, jQ, qS, f1, e1]
  · simp only [cSeq, cSkip, cAsg, cRet, cExpr, cIfS, cFor, cPar, cAug, cSetIx, cBinE, cBinV, cCall1, cCallN, cCall, cIt, cRangeC1, cRangeC2, cEnum, cZip, cTup, cLst, cNil, cCons, cConsR, cStar, cD, cVar, cVarV, vE, cT, cAnd, cOr, cNot, cAndV, cOrV, cNotV, cIf, cChain, cSlE2, cSlV2, bnd, cRev2, cNeg, cBits, cMeth, gNm, gTp, gsCons, gsNil, setMany, datAt, SV.dat, SV.settle, datas, fnsOf, cTupF, cFn, okA, tyD, bnd_ok, bnd_exc, opt_some, quiet_ok, shs_cons, shs_nil, itemsOf, Option.map_some, Option.bind_some, Option.map_none, Option.bind_none, padS, List.map_cons, List.map_nil, List.length_cons, List.length_nil, Nat.reduceAdd, Nat.reduceSub, List.replicate_succ, List.replicate_zero, List.cons_append, List.nil_append, List.getElem?_cons_zero, List.getElem?_cons_succ, List.set_cons_zero, List.set_cons_succ, if_true, if_false, Bool.false_eq_true, dGt, dLt, dLe2, dGe2, dOrd, dOrdI, dAddI, dSub, decide_eq_true_eq, Bool.not_eq_true', decide_eq_false_iff_not, sizeLine_eq, Nat.reduceLeDiff, Nat.zero_le, Nat.reduceLT, Nat.reducePow, beq_self_eq_true, id_eq, jQ, qS, e2, dis_tup]
end
end Law
end Pw
set_option Elab.async false
set_option linter.all false
set_option maxRecDepth 100000
set_option exponentiation.threshold 10000
namespace Pw
namespace Law
open PySem PySem.Spec PyProof.Rows L2 Pw.Wd
section
variable {c t : Addr} {As : List (List Str)} {o4 o6 o7 o8 o9 o10 o11 o12 o13 o14 o15 o16 o17 o18 : Option SV} {src : Option Src} {wd fm : D} {U : List Str} {j : Nat}
theorem j1 (hU : Row U) (w1 : dIx wd (.int (j : Int)) = some (.sh (LD U))) (f1 : dIx fm (.int (j : Int)) = some (.sh (wD (rle U)))) : cIfS (cT (cBinE dNe (cCall1 dRepr (vE (cCall 1 F_word_told (cCons (cComp (cIt (cBinV dIx 2 (cVarV 5))) g_law_2 cYes e_law_3 [19]) cNil)))) (vE (cCall1 dRepr (vE (cBinV dIx 3 (cVarV 5))))))) (cRet (cD (.bool false))) cSkip (jQ wd fm o4 j o6 o7 o8 o9 o10 o11 o12 o13 o14 o15 o16 o17 o18 src) = .ok .nx (jQ wd fm o4 j o6 o7 o8 o9 o10 o11 o12 o13 o14 o15 o16 o17 o18 src) := by
  have hc := comp_map (g := g_law_2) (f := e_law_3) (vs := [19]) (s := jQ wd fm o4 j o6 o7 o8 o9 o10 o11 o12 o13 o14 o15 o16 o17 o18 src) (fun a : Str => SV.sh (.str a)) (fun a => rD (a, 1)) U [] (fun a ha => ⟨qS (some (.sh wd)) (some (.own fm)) o4 (some (.sh (.int (j : Int)))) o6 o7 o8 o9 o10 o11 o12 o13 o14 o15 o16 o17 o18 (some (.sh (.str a))) src, qS (some (.sh wd)) (some (.own fm)) o4 (some (.sh (.int (j : Int)))) o6 o7 o8 o9 o10 o11 o12 o13 o14 o15 o16 o17 o18 (some (.sh (.str a))) src, .sh (rD (a, 1)), rfl, by simp only [e_law_3, cSeq, cSkip, cAsg, cRet, cExpr, cIfS, cFor, cPar, cAug, cSetIx, cBinE, cBinV, cCall1, cCallN, cCall, cIt, cRangeC1, cRangeC2, cEnum, cZip, cTup, cLst, cNil, cCons, cConsR, cStar, cD, cVar, cVarV, vE, cT, cAnd, cOr, cNot, cAndV, cOrV, cNotV, cIf, cChain, cSlE2, cSlV2, bnd, cRev2, cNeg, cBits, cMeth, gNm, gTp, gsCons, gsNil, setMany, datAt, SV.dat, SV.settle, datas, fnsOf, cTupF, cFn, okA, tyD, bnd_ok, bnd_exc, opt_some, quiet_ok, shs_cons, shs_nil, itemsOf, Option.map_some, Option.bind_some, Option.map_none, Option.bind_none, padS, List.map_cons, List.map_nil, List.length_cons, List.length_nil, Nat.reduceAdd, Nat.reduceSub, List.replicate_succ, List.replicate_zero, List.cons_append, List.nil_append, List.getElem?_cons_zero, List.getElem?_cons_succ, List.set_cons_zero, List.set_cons_succ, if_true, if_false, Bool.false_eq_true, dGt, dLt, dLe2, dGe2, dOrd, dOrdI, dAddI, dSub, decide_eq_true_eq, Bool.not_eq_true', decide_eq_false_iff_not, sizeLine_eq, Nat.reduceLeDiff, Nat.zero_le, Nat.reduceLT, Nat.reducePow, beq_self_eq_true, id_eq, qS, dis_tup]; rfl, rfl, rfl⟩) (by have := hU.few; rw [sizeLine_eq]; simp; omega)
  have e0 : shs (U.map .str) = U.map fun a : Str => SV.sh (.str a) := by simp [shs]
  have e1 := told_app (sing U) (by have := hU.few; simp [sing]; omega)
  have e3 : (sing U).map rD = U.map fun a => rD (a, 1) := by simp [sing]
  have e4 : told (sing U) = rle U := rfl
  rw [← e0] at hc
  rw [List.nil_append, ← e3] at hc
  rw [e4] at e1
  simp only [App, wL] at e1
  simp only [jQ, qS] at hc
  refine ifs_ff (s1 := jQ wd fm o4 j o6 o7 o8 o9 o10 o11 o12 o13 o14 o15 o16 o17 o18 src) (reprs_ne (s1 := jQ wd fm o4 j o6 o7 o8 o9 o10 o11 o12 o13 o14 o15 o16 o17 o18 src) (hU.nw.nice) (by decide) (by decide) (Eq.refl _) ?_ ?_) (by rfl)
  · simp only [LD] at w1
    simp only [cSeq, cSkip, cAsg, cRet, cExpr, cIfS, cFor, cPar, cAug, cSetIx, cBinE, cBinV, cCall1, cCallN, cCall, cIt, cRangeC1, cRangeC2, cEnum, cZip, cTup, cLst, cNil, cCons, cConsR, cStar, cD, cVar, cVarV, vE, cT, cAnd, cOr, cNot, cAndV, cOrV, cNotV, cIf, cChain, cSlE2, cSlV2, bnd, cRev2, cNeg, cBits, cMeth, gNm, gTp, gsCons, gsNil, setMany, datAt, SV.dat, SV.settle, datas, fnsOf, cTupF, cFn, okA, tyD, bnd_ok, bnd_exc, opt_some, quiet_ok, shs_cons, shs_nil, itemsOf, Option.map_some, Option.bind_some, Option.map_none, Option.bind_none, padS, List.map_cons, List.map_nil, List.length_cons, List.length_nil, Nat.reduceAdd, Nat.reduceSub, List.replicate_succ, List.replicate_zero, List.cons_append, List.nil_append, List.getElem?_cons_zero, List.getElem?_cons_succ, List.set_cons_zero, List.set_cons_succ, if_true, if_false, Bool.false_eq_true, dGt, dLt, dLe2, dGe2, dOrd, dOrdI, dAddI, dSub, decide_eq_true_eq, Bool.not_eq_true', decide_eq_false_iff_not, sizeLine_eq, Nat.reduceLeDiff, Nat.zero_le, Nat.reduceLT, Nat.reducePow, beq_self_eq_true, id_eq, cComp, jQ, qS, w1, wipeS, hc, backS, Option.join, e1]
  · simp only [cSeq, cSkip, cAsg, cRet, cExpr, cIfS, cFor, cPar, cAug, cSetIx, cBinE, cBinV, cCall1, cCallN, cCall, cIt, cRangeC1, cRangeC2, cEnum, cZip, cTup, cLst, cNil, cCons, cConsR, cStar, cD, cVar, cVarV, vE, cT, cAnd, cOr, cNot, cAndV, cOrV, cNotV, cIf, cChain, cSlE2, cSlV2, bnd, cRev2, cNeg, cBits, cMeth, gNm, gTp, gsCons, gsNil, setMany, datAt, SV.dat, SV.settle, datas, fnsOf, cTupF, cFn, okA, tyD, bnd_ok, bnd_exc, opt_some, quiet_ok, shs_cons, shs_nil, itemsOf, Option.map_some, Option.bind_some, Option.map_none, Option.bind_none, padS, List.map_cons, List.map_nil, List.length_cons, List.length_nil, Nat.reduceAdd, Nat.reduceSub, List.replicate_succ, List.replicate_zero, List.cons_append, List.nil_append, List.getElem?_cons_zero, List.getElem?_cons_succ, List.set_cons_zero, List.set_cons_succ, if_true, if_false, Bool.false_eq_true, dGt, dLt, dLe2, dGe2, dOrd, dOrdI, dAddI, dSub, decide_eq_true_eq, Bool.not_eq_true', decide_eq_false_iff_not, sizeLine_eq, Nat.reduceLeDiff, Nat.zero_le, Nat.reduceLT, Nat.reducePow, beq_self_eq_true, id_eq, jQ, qS, f1]
theorem p9 : dPow (.int 10) (.int 9) = some (.sh (.int 1000000000)) := by
  have h : (0 : Int) ≤ 9 ∧ (9 : Int) ≤ 100000 ∧ (10 : Int).natAbs < 2 ^ 64 := by decide
  unfold dPow
  dsimp only
  rw [if_pos h]
  rfl
theorem int_int (i : Int) : dInt (.int i) = some (.sh (.int i)) := rfl
theorem j5 {sr : Src} (hi : SrcIn sr) : ∃ (k : Nat) (sr' : Src), SrcIn sr' ∧ cAsg (cCall 2 F_law_pick (cCons (cVar 1) (cCons (cBinE dPow (cD (.int 10)) (vE (cD (.int 9)))) cNil))) (gNm 8) (jQ wd fm o4 j o6 o7 o8 o9 o10 o11 o12 o13 o14 o15 o16 o17 o18 (some sr)) = .ok .nx (jQ wd fm o4 j o6 o7 (some (.sh (.int (k : Int)))) o9 o10 o11 o12 o13 o14 o15 o16 o17 o18 (some sr')) := by
  obtain ⟨r, sr', e1, ⟨v, rfl, p0, p1⟩, i1⟩ := (pick_draws (many := 1000000000) (by decide)).app (n := 2) hi
  obtain ⟨k, rfl⟩ : ∃ k : Nat, v = (k : Int) := ⟨v.toNat, by omega⟩
  refine ⟨k, sr', i1, ?_⟩
  have p := p9
  simp only [cSeq, cSkip, cAsg, cRet, cExpr, cIfS, cFor, cPar, cAug, cSetIx, cBinE, cBinV, cCall1, cCallN, cCall, cIt, cRangeC1, cRangeC2, cEnum, cZip, cTup, cLst, cNil, cCons, cConsR, cStar, cD, cVar, cVarV, vE, cT, cAnd, cOr, cNot, cAndV, cOrV, cNotV, cIf, cChain, cSlE2, cSlV2, bnd, cRev2, cNeg, cBits, cMeth, gNm, gTp, gsCons, gsNil, setMany, datAt, SV.dat, SV.settle, datas, fnsOf, cTupF, cFn, okA, tyD, bnd_ok, bnd_exc, opt_some, quiet_ok, shs_cons, shs_nil, itemsOf, Option.map_some, Option.bind_some, Option.map_none, Option.bind_none, padS, List.map_cons, List.map_nil, List.length_cons, List.length_nil, Nat.reduceAdd, Nat.reduceSub, List.replicate_succ, List.replicate_zero, List.cons_append, List.nil_append, List.getElem?_cons_zero, List.getElem?_cons_succ, List.set_cons_zero, List.set_cons_succ, if_true, if_false, Bool.false_eq_true, dGt, dLt, dLe2, dGe2, dOrd, dOrdI, dAddI, dSub, decide_eq_true_eq, Bool.not_eq_true', decide_eq_false_iff_not, sizeLine_eq, Nat.reduceLeDiff, Nat.zero_le, Nat.reduceLT, Nat.reducePow, beq_self_eq_true, id_eq, jQ, qS, p, e1]
theorem j6 (hU : Row U) (w1 : dIx wd (.int (j : Int)) = some (.sh (LD U))) (f1 : dIx fm (.int (j : Int)) = some (.sh (wD (rle U)))) {k : Nat} : cIfS (cT (cBinE dNe (cCall 2 F_letter_at (cCons (cBinV dIx 3 (cVarV 5)) (cCons (cVar 8) cNil))) (vE (cBinE dIx (cBinV dIx 2 (cVarV 5)) (vE (cBinE dMod (cCall1 dInt (cVarV 8)) (vE (cCall1 dLen (vE (cBinV dIx 2 (cVarV 5))))))))))) (cRet (cD (.bool false))) cSkip (jQ wd fm o4 j o6 o7 (some (.sh (.int (k : Int)))) o9 o10 o11 o12 o13 o14 o15 o16 o17 o18 src) = .ok .nx (jQ wd fm o4 j o6 o7 (some (.sh (.int (k : Int)))) o9 o10 o11 o12 o13 o14 o15 o16 o17 o18 src) := by
  have h0 : 0 < U.length := List.length_pos_iff.mpr hU.ne
  have e1 := (letter_ok (w := rle U) (nrm_rle U) (rle_ne hU.ne) (by have := rle_few hU; omega) k (by rw [exp_rle]; exact om_at h0 k)).app (n := 2)
  have m1 := modI (i := (k : Int)) (j := (U.length : Int)) (by omega)
  rw [emod_nat] at m1
  have e2 := len_s U
  have e3 := ls_at (l := U) (Nat.mod_lt k h0)
  have e4 := dNe_self_str (U[k % U.length]'(Nat.mod_lt _ h0))
  have e5 := int_int (k : Int)
  simp only [App] at e1
  generalize U[k % U.length]'(Nat.mod_lt _ h0) = a at *
  simp only [cSeq, cSkip, cAsg, cRet, cExpr, cIfS, cFor, cPar, cAug, cSetIx, cBinE, cBinV, cCall1, cCallN, cCall, cIt, cRangeC1, cRangeC2, cEnum, cZip, cTup, cLst, cNil, cCons, cConsR, cStar, cD, cVar, cVarV, vE, cT, cAnd, cOr, cNot, cAndV, cOrV, cNotV, cIf, cChain, cSlE2, cSlV2, bnd, cRev2, cNeg, cBits, cMeth, gNm, gTp, gsCons, gsNil, setMany, datAt, SV.dat, SV.settle, datas, fnsOf, cTupF, cFn, okA, tyD, bnd_ok, bnd_exc, opt_some, quiet_ok, shs_cons, shs_nil, itemsOf, Option.map_some, Option.bind_some, Option.map_none, Option.bind_none, padS, List.map_cons, List.map_nil, List.length_cons, List.length_nil, Nat.reduceAdd, Nat.reduceSub, List.replicate_succ, List.replicate_zero, List.cons_append, List.nil_append, List.getElem?_cons_zero, List.getElem?_cons_succ, List.set_cons_zero, List.set_cons_succ, if_true, if_false, Bool.false_eq_true, dGt, dLt, dLe2, dGe2, dOrd, dOrdI, dAddI, dSub, decide_eq_true_eq, Bool.not_eq_true', decide_eq_false_iff_not, sizeLine_eq, Nat.reduceLeDiff, Nat.zero_le, Nat.reduceLT, Nat.reducePow, beq_self_eq_true, id_eq, jQ, qS, w1, f1, e1, e5, e2, m1, e3, e4]
theorem j7 (hU : Row U) (w1 : dIx wd (.int (j : Int)) = some (.sh (LD U))) {k : Nat} {sr : Src} (hi : SrcIn sr) : ∃ (m : Nat) (sr' : Src), m ≤ 60 ∧ SrcIn sr' ∧ cPar [14, 15] (cConsR (cBinE dMod (cCall1 dInt (cVarV 8)) (vE (cCall1 dLen (vE (cBinV dIx 2 (cVarV 5)))))) (cConsR (cCall 2 F_law_pick (cCons (cVar 1) (cCons (cD (.int 60)) cNil))) cNil)) (jQ wd fm o4 j o6 o7 (some (.sh (.int (k : Int)))) o9 o10 o11 o12 o13 o14 o15 o16 o17 o18 (some sr)) = .ok .nx (jQ wd fm o4 j o6 o7 (some (.sh (.int (k : Int)))) o9 o10 o11 o12 o13 (some (.sh (.int ((k % U.length : Nat) : Int)))) (some (.sh (.int (m : Int)))) o16 o17 o18 (some sr')) := by
  have h0 : 0 < U.length := List.length_pos_iff.mpr hU.ne
  obtain ⟨r, sr', e1, ⟨v, rfl, p0, p1⟩, i1⟩ := (pick_draws (many := 60) (by decide)).app (n := 2) hi
  obtain ⟨m, rfl⟩ : ∃ k : Nat, v = (k : Int) := ⟨v.toNat, by omega⟩
  have m1 := modI (i := (k : Int)) (j := (U.length : Int)) (by omega)
  rw [emod_nat] at m1
  have e2 := len_s U
  have e5 := int_int (k : Int)
  refine ⟨m, sr', by omega, i1, ?_⟩
  simp only [cSeq, cSkip, cAsg, cRet, cExpr, cIfS, cFor, cPar, cAug, cSetIx, cBinE, cBinV, cCall1, cCallN, cCall, cIt, cRangeC1, cRangeC2, cEnum, cZip, cTup, cLst, cNil, cCons, cConsR, cStar, cD, cVar, cVarV, vE, cT, cAnd, cOr, cNot, cAndV, cOrV, cNotV, cIf, cChain, cSlE2, cSlV2, bnd, cRev2, cNeg, cBits, cMeth, gNm, gTp, gsCons, gsNil, setMany, datAt, SV.dat, SV.settle, datas, fnsOf, cTupF, cFn, okA, tyD, bnd_ok, bnd_exc, opt_some, quiet_ok, shs_cons, shs_nil, itemsOf, Option.map_some, Option.bind_some, Option.map_none, Option.bind_none, padS, List.map_cons, List.map_nil, List.length_cons, List.length_nil, Nat.reduceAdd, Nat.reduceSub, List.replicate_succ, List.replicate_zero, List.cons_append, List.nil_append, List.getElem?_cons_zero, List.getElem?_cons_succ, List.set_cons_zero, List.set_cons_succ, if_true, if_false, Bool.false_eq_true, dGt, dLt, dLe2, dGe2, dOrd, dOrdI, dAddI, dSub, decide_eq_true_eq, Bool.not_eq_true', decide_eq_false_iff_not, sizeLine_eq, Nat.reduceLeDiff, Nat.zero_le, Nat.reduceLT, Nat.reducePow, beq_self_eq_true, id_eq, jQ, qS, w1, e5, e2, m1, e1]
end
end Law
end Pw
set_option Elab.async false
set_option linter.all false
set_option maxRecDepth 100000
set_option exponentiation.threshold 10000
namespace Pw
namespace Law
open PySem PySem.Spec PyProof.Rows L2 Pw.Wd
section
variable {c t : Addr} {As : List (List Str)} {o4 o6 o7 o8 o9 o10 o11 o12 o13 o14 o15 o16 o17 o18 : Option SV} {src : Option Src} {wd fm : D} {U : List Str} {j : Nat}
theorem pw_abc {l : List Str} (h : ∀ a ∈ l, a ∈ abcd) (k : Nat) : ∀ a ∈ pw l k, a ∈ abcd := fun a ha => by
  unfold pw at ha
  rw [List.mem_flatten] at ha
  obtain ⟨x, hx, ha⟩ := ha
  rw [List.mem_replicate] at hx
  rw [hx.2] at ha
  exact h a ha
theorem j8 (hU : Row U) (w1 : dIx wd (.int (j : Int)) = some (.sh (LD U))) {k m : Nat} (hm : m ≤ 60) : cAsg (cBinE dMul2 (cBinE dAdd (cSlE2 (cBinV dIx 2 (cVarV 5)) (some (cVarV 14)) none) (vE (cSlE2 (cBinV dIx 2 (cVarV 5)) none (some (cVarV 14))))) (vE (cBinE dAdd (cBinV dFdiv 15 (vE (cCall1 dLen (vE (cBinV dIx 2 (cVarV 5)))))) (vE (cD (.int 1)))))) (gNm 9) (jQ wd fm o4 j o6 o7 o8 o9 o10 o11 o12 o13 (some (.sh (.int (k : Int)))) (some (.sh (.int (m : Int)))) o16 o17 o18 src) = .ok .nx (jQ wd fm o4 j o6 o7 o8 (some (.own (LD (pw (rot k U) (m / U.length + 1))))) o10 o11 o12 o13 (some (.sh (.int (k : Int)))) (some (.sh (.int (m : Int)))) o16 o17 o18 src) := by
  have h0 : 0 < U.length := List.length_pos_iff.mpr hU.ne
  have hf := hU.few
  have t1 := ls_drop U k
  have t2 := ls_take U k
  have hR : (U.drop k ++ U.take k).length = U.length := rot_len k U
  have a1 := ls_add (u := U.drop k) (v := U.take k) (by rw [List.length_drop, List.length_take]; omega)
  have f1 := fdivI (i := (m : Int)) (j := (U.length : Int)) (by omega) (nat_log (Nat.le_trans (Nat.le_trans hf (by decide : 100 ≤ 1000)) (by decide +kernel)))
  rw [ediv_nat] at f1
  have e2 := len_s U
  have hd : m / U.length ≤ m := Nat.div_le_self _ _
  have e3 := ls_pw (w := U.drop k ++ U.take k) (k := m / U.length + 1) (by omega) (by rw [hR]; omega)
  rw [Int.natCast_add, Int.natCast_one] at e3
  have er : U.drop k ++ U.take k = rot k U := rfl
  rw [er] at a1 e3
  simp only [cSeq, cSkip, cAsg, cRet, cExpr, cIfS, cFor, cPar, cAug, cSetIx, cBinE, cBinV, cCall1, cCallN, cCall, cIt, cRangeC1, cRangeC2, cEnum, cZip, cTup, cLst, cNil, cCons, cConsR, cStar, cD, cVar, cVarV, vE, cT, cAnd, cOr, cNot, cAndV, cOrV, cNotV, cIf, cChain, cSlE2, cSlV2, bnd, cRev2, cNeg, cBits, cMeth, gNm, gTp, gsCons, gsNil, setMany, datAt, SV.dat, SV.settle, datas, fnsOf, cTupF, cFn, okA, tyD, bnd_ok, bnd_exc, opt_some, quiet_ok, shs_cons, shs_nil, itemsOf, Option.map_some, Option.bind_some, Option.map_none, Option.bind_none, padS, List.map_cons, List.map_nil, List.length_cons, List.length_nil, Nat.reduceAdd, Nat.reduceSub, List.replicate_succ, List.replicate_zero, List.cons_append, List.nil_append, List.getElem?_cons_zero, List.getElem?_cons_succ, List.set_cons_zero, List.set_cons_succ, if_true, if_false, Bool.false_eq_true, dGt, dLt, dLe2, dGe2, dOrd, dOrdI, dAddI, dSub, decide_eq_true_eq, Bool.not_eq_true', decide_eq_false_iff_not, sizeLine_eq, Nat.reduceLeDiff, Nat.zero_le, Nat.reduceLT, Nat.reducePow, beq_self_eq_true, id_eq, jQ, qS, w1, t1, t2, a1, f1, e2, add_int, e3]
theorem j9 (hU : Row U) (f1 : dIx fm (.int (j : Int)) = some (.sh (wD (rle U)))) {k m : Nat} (hm : m ≤ 60) : cIfS (cT (cBinE dNe (cCall1 dRepr (vE (cCall 3 (F_endless_cut t) (cCons (cBinV dIx 3 (cVarV 5)) (cCons (cVar 8) (cCons (cVar 15) cNil)))))) (vE (cCall1 dRepr (vE (cCall 1 F_law_runs (cCons (cSlV2 9 none (some (cVarV 15))) cNil))))))) (cRet (cD (.bool false))) cSkip (jQ wd fm o4 j o6 o7 (some (.sh (.int (k : Int)))) (some (.own (LD (pw (rot (k % U.length) U) (m / U.length + 1))))) o10 o11 o12 o13 o14 (some (.sh (.int (m : Int)))) o16 o17 o18 src) = .ok .nx (jQ wd fm o4 j o6 o7 (some (.sh (.int (k : Int)))) (some (.own (LD (pw (rot (k % U.length) U) (m / U.length + 1))))) o10 o11 o12 o13 o14 (some (.sh (.int (m : Int)))) o16 o17 o18 src) := by
  have e1 := (cut_row t hU k m (by omega)).app (n := 3)
  have hR := hU.rot (k % U.length)
  have t1 := ls_take (pw (rot (k % U.length) U) (m / U.length + 1)) m
  have habc : ∀ a ∈ (pw (rot (k % U.length) U) (m / U.length + 1)).take m, a ∈ abcd := fun a ha => pw_abc hR.abc _ a (List.mem_of_mem_take ha)
  have hlen : ((pw (rot (k % U.length) U) (m / U.length + 1)).take m).length ≤ 100 := by rw [List.length_take]; omega
  have e2 := (runs_row (l := (pw (rot (k % U.length) U) (m / U.length + 1)).take m) (by omega)).app (n := 1)
  have hN := nw_rle habc hlen
  simp only [App] at e1 e2
  generalize pw (rot (k % U.length) U) (m / U.length + 1) = P at *
  refine ifs_ff (s1 := jQ wd fm o4 j o6 o7 (some (.sh (.int (k : Int)))) (some (.own (LD P))) o10 o11 o12 o13 o14 (some (.sh (.int (m : Int)))) o16 o17 o18 src) (reprs_ne (s1 := jQ wd fm o4 j o6 o7 (some (.sh (.int (k : Int)))) (some (.own (LD P))) o10 o11 o12 o13 o14 (some (.sh (.int (m : Int)))) o16 o17 o18 src) hN.nice (by decide) (by decide) (Eq.refl _) ?_ ?_) (by rfl)
  · simp only [cSeq, cSkip, cAsg, cRet, cExpr, cIfS, cFor, cPar, cAug, cSetIx, cBinE, cBinV, cCall1, cCallN, cCall, cIt, cRangeC1, cRangeC2, cEnum, cZip, cTup, cLst, cNil, cCons, cConsR, cStar, cD, cVar, cVarV, vE, cT, cAnd, cOr, cNot, cAndV, cOrV, cNotV, cIf, cChain, cSlE2, cSlV2, bnd, cRev2, cNeg, cBits, cMeth, gNm, gTp, gsCons, gsNil, setMany, datAt, SV.dat, SV.settle, datas, fnsOf, cTupF, cFn, okA, tyD, bnd_ok, bnd_exc, opt_some, quiet_ok, shs_cons, shs_nil, itemsOf, Option.map_some, Option.bind_some, Option.map_none, Option.bind_none, padS, List.map_cons, List.map_nil, List.length_cons, List.length_nil, Nat.reduceAdd, Nat.reduceSub, List.replicate_succ, List.replicate_zero, List.cons_append, List.nil_append, List.getElem?_cons_zero, List.getElem?_cons_succ, List.set_cons_zero, List.set_cons_succ, if_true, if_false, Bool.false_eq_true, dGt, dLt, dLe2, dGe2, dOrd, dOrdI, dAddI, dSub, decide_eq_true_eq, Bool.not_eq_true', decide_eq_false_iff_not, sizeLine_eq, Nat.reduceLeDiff, Nat.zero_le, Nat.reduceLT, Nat.reducePow, beq_self_eq_true, id_eq, jQ, qS, f1, e1]
  · simp only [cSeq, cSkip, cAsg, cRet, cExpr, cIfS, cFor, cPar, cAug, cSetIx, cBinE, cBinV, cCall1, cCallN, cCall, cIt, cRangeC1, cRangeC2, cEnum, cZip, cTup, cLst, cNil, cCons, cConsR, cStar, cD, cVar, cVarV, vE, cT, cAnd, cOr, cNot, cAndV, cOrV, cNotV, cIf, cChain, cSlE2, cSlV2, bnd, cRev2, cNeg, cBits, cMeth, gNm, gTp, gsCons, gsNil, setMany, datAt, SV.dat, SV.settle, datas, fnsOf, cTupF, cFn, okA, tyD, bnd_ok, bnd_exc, opt_some, quiet_ok, shs_cons, shs_nil, itemsOf, Option.map_some, Option.bind_some, Option.map_none, Option.bind_none, padS, List.map_cons, List.map_nil, List.length_cons, List.length_nil, Nat.reduceAdd, Nat.reduceSub, List.replicate_succ, List.replicate_zero, List.cons_append, List.nil_append, List.getElem?_cons_zero, List.getElem?_cons_succ, List.set_cons_zero, List.set_cons_succ, if_true, if_false, Bool.false_eq_true, dGt, dLt, dLe2, dGe2, dOrd, dOrdI, dAddI, dSub, decide_eq_true_eq, Bool.not_eq_true', decide_eq_false_iff_not, sizeLine_eq, Nat.reduceLeDiff, Nat.zero_le, Nat.reduceLT, Nat.reducePow, beq_self_eq_true, id_eq, jQ, qS, t1, e2]
theorem j10 (hU : Row U) (w1 : dIx wd (.int (j : Int)) = some (.sh (LD U))) (f1 : dIx fm (.int (j : Int)) = some (.sh (wD (rle U)))) {k : Nat} : cIfS (cT (cBinE dNe (cCall1 dRepr (vE (cCall 2 F_word_turned (cCons (cBinV dIx 3 (cVarV 5)) (cCons (cVar 14) cNil))))) (vE (cCall1 dRepr (vE (cCall 1 F_law_runs (cCons (cBinE dAdd (cSlE2 (cBinV dIx 2 (cVarV 5)) (some (cVarV 14)) none) (vE (cSlE2 (cBinV dIx 2 (cVarV 5)) none (some (cVarV 14))))) cNil))))))) (cRet (cD (.bool false))) cSkip (jQ wd fm o4 j o6 o7 o8 o9 o10 o11 o12 o13 (some (.sh (.int (k : Int)))) o15 o16 o17 o18 src) = .ok .nx (jQ wd fm o4 j o6 o7 o8 o9 o10 o11 o12 o13 (some (.sh (.int (k : Int)))) o15 o16 o17 o18 src) := by
  have e1 := (turned_row hU k).app (n := 2)
  have hR := hU.rot k
  have t1 := ls_drop U k
  have t2 := ls_take U k
  have hf := hU.few
  have a1 := ls_add (u := U.drop k) (v := U.take k) (by rw [List.length_drop, List.length_take]; omega)
  have er : U.drop k ++ U.take k = rot k U := rfl
  rw [er] at a1
  have e2 := (runs_row (l := rot k U) (by have := hR.few; omega)).app (n := 1)
  simp only [App] at e1 e2
  refine ifs_ff (s1 := jQ wd fm o4 j o6 o7 o8 o9 o10 o11 o12 o13 (some (.sh (.int (k : Int)))) o15 o16 o17 o18 src) (reprs_ne (s1 := jQ wd fm o4 j o6 o7 o8 o9 o10 o11 o12 o13 (some (.sh (.int (k : Int)))) o15 o16 o17 o18 src) hR.nw.nice (by decide) (by decide) (Eq.refl _) ?_ ?_) (by rfl)
  · simp only [cSeq, cSkip, cAsg, cRet, cExpr, cIfS, cFor, cPar, cAug, cSetIx, cBinE, cBinV, cCall1, cCallN, cCall, cIt, cRangeC1, cRangeC2, cEnum, cZip, cTup, cLst, cNil, cCons, cConsR, cStar, cD, cVar, cVarV, vE, cT, cAnd, cOr, cNot, cAndV, cOrV, cNotV, cIf, cChain, cSlE2, cSlV2, bnd, cRev2, cNeg, cBits, cMeth, gNm, gTp, gsCons, gsNil, setMany, datAt, SV.dat, SV.settle, datas, fnsOf, cTupF, cFn, okA, tyD, bnd_ok, bnd_exc, opt_some, quiet_ok, shs_cons, shs_nil, itemsOf, Option.map_some, Option.bind_some, Option.map_none, Option.bind_none, padS, List.map_cons, List.map_nil, List.length_cons, List.length_nil, Nat.reduceAdd, Nat.reduceSub, List.replicate_succ, List.replicate_zero, List.cons_append, List.nil_append, List.getElem?_cons_zero, List.getElem?_cons_succ, List.set_cons_zero, List.set_cons_succ, if_true, if_false, Bool.false_eq_true, dGt, dLt, dLe2, dGe2, dOrd, dOrdI, dAddI, dSub, decide_eq_true_eq, Bool.not_eq_true', decide_eq_false_iff_not, sizeLine_eq, Nat.reduceLeDiff, Nat.zero_le, Nat.reduceLT, Nat.reducePow, beq_self_eq_true, id_eq, jQ, qS, f1, e1]
  · simp only [cSeq, cSkip, cAsg, cRet, cExpr, cIfS, cFor, cPar, cAug, cSetIx, cBinE, cBinV, cCall1, cCallN, cCall, cIt, cRangeC1, cRangeC2, cEnum, cZip, cTup, cLst, cNil, cCons, cConsR, cStar, cD, cVar, cVarV, vE, cT, cAnd, cOr, cNot, cAndV, cOrV, cNotV, cIf, cChain, cSlE2, cSlV2, bnd, cRev2, cNeg, cBits, cMeth, gNm, gTp, gsCons, gsNil, setMany, datAt, SV.dat, SV.settle, datas, fnsOf, cTupF, cFn, okA, tyD, bnd_ok, bnd_exc, opt_some, quiet_ok, shs_cons, shs_nil, itemsOf, Option.map_some, Option.bind_some, Option.map_none, Option.bind_none, padS, List.map_cons, List.map_nil, List.length_cons, List.length_nil, Nat.reduceAdd, Nat.reduceSub, List.replicate_succ, List.replicate_zero, List.cons_append, List.nil_append, List.getElem?_cons_zero, List.getElem?_cons_succ, List.set_cons_zero, List.set_cons_succ, if_true, if_false, Bool.false_eq_true, dGt, dLt, dLe2, dGe2, dOrd, dOrdI, dAddI, dSub, decide_eq_true_eq, Bool.not_eq_true', decide_eq_false_iff_not, sizeLine_eq, Nat.reduceLeDiff, Nat.zero_le, Nat.reduceLT, Nat.reducePow, beq_self_eq_true, id_eq, jQ, qS, w1, t1, t2, a1, e2]
end
section
variable {c t : Addr} {As : List (List Str)}
theorem word_step (h : ∀ A ∈ As, Row A) (h3 : As.length = 3) {q : Nat} (hq : Tm q) {j : Nat} (hj : j < As.length) (o6 o7 o8 o9 o10 o11 o12 o13 o14 o15 o16 o17 o18 : Option SV) {sr : Src} (hi : SrcIn sr) : ∃ o8' o9' o10' o12' o13' o14' o15' o16' o17' sr', SrcIn sr' ∧ b_law_6 c t (jQ (wdD As) (fmD As) (some (.sh (.int (q : Int)))) j o6 o7 o8 o9 o10 o11 o12 o13 o14 o15 o16 o17 o18 (some sr)) = .ok .nx (jQ (wdD As) (fmD As) (some (.sh (.int (q : Int)))) j o6 o7 o8' o9' o10' o11 o12' o13' o14' o15' o16' o17' o18 (some sr')) := by
  have hU := h As[j] (List.getElem_mem hj)
  have w1 := wds_at hj
  have f1 := fm_at hj
  generalize hUe : As[j] = U at *
  obtain ⟨k, sr1, i1, e5⟩ := j5 (wd := wdD As) (fm := fmD As) (j := j) (o4 := some (.sh (.int (q : Int)))) (o6 := o6) (o7 := o7) (o8 := o8) (o9 := o9) (o10 := o10) (o11 := o11) (o12 := some (.sh (LD (root U)))) (o13 := some (.sh (.int (ofn U : Int)))) (o14 := o14) (o15 := o15) (o16 := o16) (o17 := o17) (o18 := o18) hi
  obtain ⟨m, sr2, hm, i2, e7⟩ := j7 (wd := wdD As) (fm := fmD As) (j := j) (o4 := some (.sh (.int (q : Int)))) (o6 := o6) (o7 := o7) (o9 := o9) (o10 := o10) (o11 := o11) (o12 := some (.sh (LD (root U)))) (o13 := some (.sh (.int (ofn U : Int)))) (o14 := o14) (o15 := o15) (o16 := o16) (o17 := o17) (o18 := o18) hU w1 (k := k) i1
  obtain ⟨a, b, d, e, ep⟩ := pairs_loop (c := c) (t := t) (o6 := o6) (o7 := o7) (o8 := some (.sh (.int (k : Int)))) (o11 := o11) (o12 := some (.sh (LD (root U)))) (o13 := some (.sh (.int (ofn U : Int)))) (o14 := some (.sh (.int ((k % U.length : Nat) : Int)))) (o15 := some (.sh (.int (m : Int)))) (o18 := o18) (o19 := none) (src := some sr2) h hq hj 3 0 (some (.own (LD (pw (rot (k % U.length) U) (m / U.length + 1))))) o10 o16 o17 (by omega)
  have b1 : -(2 ^ 62 : Int) ≤ 3 ∧ (3 : Int) < 2 ^ 62 := by decide
  have e3 : rgD 0 (Int.toNat 3) = rg 0 3 := rgD_rg 0 3
  refine ⟨some (.sh (.int (k : Int))), a, b, some (.sh (LD (root U))), some (.sh (.int (ofn U : Int))), some (.sh (.int ((k % U.length : Nat) : Int))), some (.sh (.int (m : Int))), d, e, sr2, i2, ?_⟩
  unfold b_law_6
  refine seq_nx (j1 hU w1 f1) <| seq_nx (j2 hU w1 f1) <| seq_nx (j3 hU w1) <| seq_nx (j4 hU f1) <| seq_nx e5 <| seq_nx (j6 hU w1 f1) <| seq_nx e7 <| seq_nx (j8 hU w1 hm) <| seq_nx (j9 hU f1 hm) <| seq_nx (j10 hU w1 f1) ?_
  simp only [qS] at ep
  simp only [cSeq, cSkip, cAsg, cRet, cExpr, cIfS, cFor, cPar, cAug, cSetIx, cBinE, cBinV, cCall1, cCallN, cCall, cIt, cRangeC1, cRangeC2, cEnum, cZip, cTup, cLst, cNil, cCons, cConsR, cStar, cD, cVar, cVarV, vE, cT, cAnd, cOr, cNot, cAndV, cOrV, cNotV, cIf, cChain, cSlE2, cSlV2, bnd, cRev2, cNeg, cBits, cMeth, gNm, gTp, gsCons, gsNil, setMany, datAt, SV.dat, SV.settle, datas, fnsOf, cTupF, cFn, okA, tyD, bnd_ok, bnd_exc, opt_some, quiet_ok, shs_cons, shs_nil, itemsOf, Option.map_some, Option.bind_some, Option.map_none, Option.bind_none, padS, List.map_cons, List.map_nil, List.length_cons, List.length_nil, Nat.reduceAdd, Nat.reduceSub, List.replicate_succ, List.replicate_zero, List.cons_append, List.nil_append, List.getElem?_cons_zero, List.getElem?_cons_succ, List.set_cons_zero, List.set_cons_succ, if_true, if_false, Bool.false_eq_true, dGt, dLt, dLe2, dGe2, dOrd, dOrdI, dAddI, dSub, decide_eq_true_eq, Bool.not_eq_true', decide_eq_false_iff_not, sizeLine_eq, Nat.reduceLeDiff, Nat.zero_le, Nat.reduceLT, Nat.reducePow, beq_self_eq_true, id_eq, jQ, qS, ifc_pos b1, e3, ep]
end
end Law
end Pw
set_option Elab.async false
set_option linter.all false
set_option maxRecDepth 100000
set_option exponentiation.threshold 10000
namespace Pw
namespace Law
open PySem PySem.Spec PyProof.Rows L2 Pw.Wd
section
variable {c t : Addr} {As : List (List Str)}
theorem words_loop (h : ∀ A ∈ As, Row A) (h3 : As.length = 3) {q : Nat} (hq : Tm q) (o6 o7 o11 o18 : Option SV) : ∀ (n j : Nat) (o5 o8 o9 o10 o12 o13 o14 o15 o16 o17 : Option SV) (sr : Src), SrcIn sr → j + n ≤ 3 → ∃ o5' o8' o9' o10' o12' o13' o14' o15' o16' o17' sr', SrcIn sr' ∧
    forL (gNm 5) (b_law_6 c t) (shs (rg j n)) (qS (some (.sh (wdD As))) (some (.own (fmD As))) (some (.sh (.int (q : Int)))) o5 o6 o7 o8 o9 o10 o11 o12 o13 o14 o15 o16 o17 o18 none (some sr)) = .ok .nx (qS (some (.sh (wdD As))) (some (.own (fmD As))) (some (.sh (.int (q : Int)))) o5' o6 o7 o8' o9' o10' o11 o12' o13' o14' o15' o16' o17' o18 none (some sr'))
  | 0, j, o5, o8, o9, o10, o12, o13, o14, o15, o16, o17, sr, hi, _ => ⟨o5, o8, o9, o10, o12, o13, o14, o15, o16, o17, sr, hi, rfl⟩
  | n + 1, j, o5, o8, o9, o10, o12, o13, o14, o15, o16, o17, sr, hi, hj => by
    obtain ⟨a8, a9, a10, a12, a13, a14, a15, a16, a17, sr1, i1, e1⟩ := word_step (c := c) (t := t) h h3 hq (show j < As.length by omega) o6 o7 o8 o9 o10 o11 o12 o13 o14 o15 o16 o17 o18 hi
    obtain ⟨b5, b8, b9, b10, b12, b13, b14, b15, b16, b17, sr2, i2, e2⟩ := words_loop h h3 hq o6 o7 o11 o18 n (j + 1) (some (.sh (.int (j : Int)))) a8 a9 a10 a12 a13 a14 a15 a16 a17 sr1 i1 (by omega)
    rw [rg_succ, shs_cons]
    exact ⟨b5, b8, b9, b10, b12, b13, b14, b15, b16, b17, sr2, i2, (forL_step (s1 := jQ (wdD As) (fmD As) (some (.sh (.int (q : Int)))) j o6 o7 o8 o9 o10 o11 o12 o13 o14 o15 o16 o17 o18 (some sr)) (by rfl) e1).trans e2⟩
/-! ### three words -/
def spot : Option (Nat × Str × Str) → Nat
  | none => 1000000000
  | some (i, _, _) => i
theorem part_swap {f g : Nat → Option Str} {r : Option (Nat × Str × Str)} (h : partR f g r) : partR g f (r.map fun x => (x.1, x.2.2, x.2.1)) := by
  cases r with
  | none => exact fun i => (h i).symm
  | some x => obtain ⟨i, a, b⟩ := x; exact FD.swap h
theorem agree {f g : Nat → Option Str} {r : Option (Nat × Str × Str)} (p : partR f g r) {n : Nat} (h : n < spot r) : f n = g n := by
  cases r with
  | none => exact p n
  | some x => obtain ⟨i, a, b⟩ := x; exact FD.ahead p n h
/-- of three spots none is less than both others -/
theorem spot_tri {f g h : Nat → Option Str} {r s u : Option (Nat × Str × Str)} (p : partR f g r) (q : partR g h s) (k : partR f h u) (b : spot r ≤ 1000000000) : min (spot r) (spot s) ≤ spot u := by
  cases u with
  | none => exact Nat.le_trans (Nat.min_le_left _ _) b
  | some x =>
    obtain ⟨n, a, c⟩ := x
    have hF : FD f h n a c := k
    apply Nat.le_of_not_lt
    intro z
    have z : n < min (spot r) (spot s) := z
    have e1 := agree p (n := n) (by omega)
    have e2 := agree q (n := n) (by omega)
    have h1 := hF.one
    have h2 := hF.two
    rw [e1, e2, h2] at h1
    exact hF.ne (Option.some.inj h1).symm
end
end Law
end Pw
set_option Elab.async false
set_option linter.all false
set_option maxRecDepth 100000
set_option exponentiation.threshold 10000
namespace Pw
namespace Law
open PySem PySem.Spec PyProof.Rows L2 Pw.Wd
/-! ### refused words -/
theorem order_no0 (c t : Addr) (w : Wr) : Excs (F_order_told c t) [.sh (.tuple []), .sh (wD w)] (noneX c 0) := excs_of fun src => by
  have e1 := (let_no c 0).app (n := 2)
  simp only [AppX] at e1
  refine ⟨[some (.sh (.tuple [])), some (.sh (wD w)), none], ?_⟩
  simp only [m_order_told, cSeq, cSkip, cAsg, cRet, cExpr, cIfS, cFor, cPar, cAug, cSetIx, cBinE, cBinV, cCall1, cCallN, cCall, cIt, cRangeC1, cRangeC2, cEnum, cZip, cTup, cLst, cNil, cCons, cConsR, cStar, cD, cVar, cVarV, vE, cT, cAnd, cOr, cNot, cAndV, cOrV, cNotV, cIf, cChain, cSlE2, cSlV2, bnd, cRev2, cNeg, cBits, cMeth, gNm, gTp, gsCons, gsNil, setMany, datAt, SV.dat, SV.settle, datas, fnsOf, cTupF, cFn, okA, tyD, bnd_ok, bnd_exc, opt_some, quiet_ok, shs_cons, shs_nil, itemsOf, Option.map_some, Option.bind_some, Option.map_none, Option.bind_none, padS, List.map_cons, List.map_nil, List.length_cons, List.length_nil, Nat.reduceAdd, Nat.reduceSub, List.replicate_succ, List.replicate_zero, List.cons_append, List.nil_append, List.getElem?_cons_zero, List.getElem?_cons_succ, List.set_cons_zero, List.set_cons_succ, if_true, if_false, Bool.false_eq_true, dGt, dLt, dLe2, dGe2, dOrd, dOrdI, dAddI, dSub, decide_eq_true_eq, Bool.not_eq_true', decide_eq_false_iff_not, sizeLine_eq, Nat.reduceLeDiff, Nat.zero_le, Nat.reduceLT, Nat.reducePow, beq_self_eq_true, id_eq, e1]
theorem order_no1 (c t : Addr) {w : Wr} (h : w ≠ []) : Excs (F_order_told c t) [.sh (wD w), .sh (.tuple [])] (noneX c 1) := excs_of fun src => by
  have e0 := (let_ok c h 0).app (n := 2)
  have e1 := (let_no c 1).app (n := 2)
  simp only [App, AppX] at e0 e1
  refine ⟨[some (.sh (wD w)), some (.sh (.tuple [])), none], ?_⟩
  simp only [m_order_told, cSeq, cSkip, cAsg, cRet, cExpr, cIfS, cFor, cPar, cAug, cSetIx, cBinE, cBinV, cCall1, cCallN, cCall, cIt, cRangeC1, cRangeC2, cEnum, cZip, cTup, cLst, cNil, cCons, cConsR, cStar, cD, cVar, cVarV, vE, cT, cAnd, cOr, cNot, cAndV, cOrV, cNotV, cIf, cChain, cSlE2, cSlV2, bnd, cRev2, cNeg, cBits, cMeth, gNm, gTp, gsCons, gsNil, setMany, datAt, SV.dat, SV.settle, datas, fnsOf, cTupF, cFn, okA, tyD, bnd_ok, bnd_exc, opt_some, quiet_ok, shs_cons, shs_nil, itemsOf, Option.map_some, Option.bind_some, Option.map_none, Option.bind_none, padS, List.map_cons, List.map_nil, List.length_cons, List.length_nil, Nat.reduceAdd, Nat.reduceSub, List.replicate_succ, List.replicate_zero, List.cons_append, List.nil_append, List.getElem?_cons_zero, List.getElem?_cons_succ, List.set_cons_zero, List.set_cons_succ, if_true, if_false, Bool.false_eq_true, dGt, dLt, dLe2, dGe2, dOrd, dOrdI, dAddI, dSub, decide_eq_true_eq, Bool.not_eq_true', decide_eq_false_iff_not, sizeLine_eq, Nat.reduceLeDiff, Nat.zero_le, Nat.reduceLT, Nat.reducePow, beq_self_eq_true, id_eq, e0, e1]
/-- _law_refused of what raises so -/
theorem ref_ok {c : Addr} {p : Int} {th : Option Src → Res SV} {src : Option Src} {sl : List (Option SV)} (h : th src = .exc (noneX c p) ⟨sl, src⟩) : m_law_refused c th ⟨[some .lm, none], src⟩ = .ok (.ret (.sh (.tuple [.str "none", .int p]))) ⟨[some .lm, none], src⟩ := by
  have h1 : cExpr (cThunk th) ⟨[some .lm, none], src⟩ = .exc (noneX c p) ⟨[some .lm, none], src⟩ := by
    simp only [cExpr, cThunk, List.getElem?_cons_zero, h, bnd_exc]
  have h4 : cRet (cTup (cCons (cFld 1 "word") (cCons (cFld 1 "place") cNil))) ⟨[some .lm, some (.exn (noneX c p).fs)], src⟩ = .ok (.ret (.sh (.tuple [.str "none", .int p]))) ⟨[some .lm, some (.exn (noneX c p).fs)], src⟩ := by
    have w1 : cFld 1 "word" ⟨[some .lm, some (.exn (noneX c p).fs)], src⟩ = .ok (.sh (.str "none")) ⟨[some .lm, some (.exn (noneX c p).fs)], src⟩ := by rfl
    have w2 : cFld 1 "place" ⟨[some .lm, some (.exn (noneX c p).fs)], src⟩ = .ok (.sh (.int p)) ⟨[some .lm, some (.exn (noneX c p).fs)], src⟩ := by rfl
    exact ret_ok (tup_ok (cons_ok w1 (cons_ok w2 (show cNil _ = .ok [] _ from rfl))) rfl (Nat.le_of_ble_eq_true rfl))
  exact seq_ret (try_exc (i := 1) h1 rfl h4)
theorem lam_ok {c : Addr} {p : Int} {cs : List Nat} {body : Ev} {s0 : S} (hg : s0.sl[20]? = some (some .tb)) {sl : List (Option SV)} (h : body ⟨maskL cs 0 (settleS cs s0).sl, (settleS cs s0).src⟩ = .exc (noneX c p) ⟨sl, (settleS cs s0).src⟩) : cLam 20 2 cs (m_law_refused c) body s0 = .ok (.sh (.tuple [.str "none", .int p])) (settleS cs s0) := by
  have e := ref_ok (th := fun src => body ⟨maskL cs 0 (settleS cs s0).sl, src⟩) (src := (settleS cs s0).src) (sl := sl) h
  have e' : m_law_refused c (fun src => body ⟨maskL cs 0 (settleS cs s0).sl, src⟩) ⟨some SV.lm :: List.replicate (2 - 1) none, (settleS cs s0).src⟩ = .ok (.ret (.sh (.tuple [.str "none", .int p]))) ⟨[some .lm, none], (settleS cs s0).src⟩ := e
  unfold cLam
  rw [hg]
  dsimp only
  rw [e']
end Law
end Pw
set_option Elab.async false
set_option linter.all false
set_option maxRecDepth 100000
set_option exponentiation.threshold 10000
namespace Pw
namespace Law
open PySem PySem.Spec PyProof.Rows L2 Pw.Wd
def sd : Option (Nat × Str × Str) → Str
  | none => "alike"
  | some (_, a, b) => if strLt a b = true then "before" else "behind"
theorem sd_ord (r : Option (Nat × Str × Str)) : dIx (ordD r) (.int 0) = some (.sh (.str (sd r))) := by
  cases r with
  | none => exact ix_t0 _ _
  | some x => obtain ⟨i, a, b⟩ := x; exact ix_t0 _ _
theorem s_ne1 : ("alike" : Str) ≠ "before" := by decide +kernel
theorem s_ne2 : ("alike" : Str) ≠ "behind" := by decide +kernel
theorem s_ne3 : ("before" : Str) ≠ "behind" := by decide +kernel
/-- what is told, by the order of endless words -/
theorem sd_cases {f g : Nat → Option Str} {r : Option (Nat × Str × Str)} (p : partR f g r) : (sd r = "alike" ∧ ∀ i, f i = g i) ∨ (sd r = "before" ∧ AH sLt f g) ∨ (sd r = "behind" ∧ AH sLt g f) := by
  cases r with
  | none => exact .inl ⟨rfl, p⟩
  | some x =>
    obtain ⟨i, a, b⟩ := x
    have hF : FD f g i a b := p
    cases h : strLt a b with
    | true => exact .inr (.inl ⟨by simp [sd, h], i, a, b, hF, h⟩)
    | false =>
      refine .inr (.inr ⟨by simp [sd, h], i, b, a, FD.swap hF, ?_⟩)
      rcases sto_str.tri a b with z | z | z
      · have z : strLt a b = true := z
        rw [h] at z; cases z
      · exact absurd z hF.ne
      · exact z
theorem sd_tr {f g h : Nat → Option Str} {r s u : Option (Nat × Str × Str)} (p : partR f g r) (q : partR g h s) (k : partR f h u) (e : sd r = sd s) : sd u = sd r := by
  have irr : ∀ {f g : Nat → Option Str}, AH sLt f g → (∀ i, f i = g i) → False := fun ⟨i, a, b, h, _⟩ z => FD.not_same h z
  rcases sd_cases p with ⟨e1, p⟩ | ⟨e1, p⟩ | ⟨e1, p⟩ <;> rcases sd_cases q with ⟨e2, q⟩ | ⟨e2, q⟩ | ⟨e2, q⟩ <;> rw [e1, e2] at e
  · rcases sd_cases k with ⟨e3, k⟩ | ⟨e3, k⟩ | ⟨e3, k⟩
    · rw [e1, e3]
    · exact (irr k fun i => (p i).trans (q i)).elim
    · exact (irr k fun i => ((p i).trans (q i)).symm).elim
  · exact absurd e s_ne1
  · exact absurd e s_ne2
  · exact absurd e.symm s_ne1
  · have w := AH.tr sto_str p q
    rcases sd_cases k with ⟨e3, k⟩ | ⟨e3, k⟩ | ⟨e3, k⟩
    · exact (irr w k).elim
    · rw [e1, e3]
    · exact (AH.irr sto_str (AH.tr sto_str w k)).elim
  · exact absurd e s_ne3
  · exact absurd e.symm s_ne2
  · exact absurd e.symm s_ne3
  · have w := AH.tr sto_str q p
    rcases sd_cases k with ⟨e3, k⟩ | ⟨e3, k⟩ | ⟨e3, k⟩
    · exact (irr w fun i => (k i).symm).elim
    · exact (AH.irr sto_str (AH.tr sto_str w k)).elim
    · rw [e1, e3]
end Law
end Pw
set_option Elab.async false
set_option linter.all false
set_option maxRecDepth 100000
set_option exponentiation.threshold 10000
namespace Pw
namespace Law
open PySem PySem.Spec PyProof.Rows L2 Pw.Wd
theorem sort3 {x y z : Int} (h1 : min x y ≤ z) (h2 : min y z ≤ x) (h3 : min x z ≤ y) : ∃ p r, sortI [x, y, z] = [p, p, r] := by
  have fin : ∀ p r : Int, p ≤ r → [p, p, r].Perm [x, y, z] → ∃ p r, sortI [x, y, z] = [p, p, r] := fun p r hl hp => ⟨p, r, (sortI_eq hp (by simp; omega)).symm⟩
  by_cases c1 : x ≤ y ∧ x ≤ z
  · by_cases e : y = x
    · subst e; exact fin y z c1.2 (List.Perm.refl _)
    · have e2 : z = x := by omega
      subst e2; exact fin z y c1.1 ((List.Perm.swap y z []).cons z)
  · by_cases c2 : y ≤ x ∧ y ≤ z
    · have e2 : z = y := by omega
      subst e2; exact fin z x c2.1 (List.perm_append_comm (l₁ := [z, z]) (l₂ := [x]))
    · by_cases e : x = z
      · subst e; exact fin x y (by omega) ((List.Perm.swap y x []).cons x)
      · have e2 : y = z := by omega
        subst e2; exact fin y x (by omega) (List.perm_append_comm (l₁ := [y, y]) (l₂ := [x]))
abbrev TR := (Nat × Nat) × Option (Nat × Str × Str)
def trD (x : TR) : D := .tuple [.int (x.1.1 : Int), .int (x.1.2 : Int)]
structure TF (c t : Addr) (wd fm : D) (x : TR) : Prop where
  ex : ∃ U V : List Str, dIx wd (.int (x.1.1 : Int)) = some (.sh (LD U)) ∧ dIx wd (.int (x.1.2 : Int)) = some (.sh (LD V)) ∧ dIx fm (.int (x.1.1 : Int)) = some (.sh (wD (rle U))) ∧ dIx fm (.int (x.1.2 : Int)) = some (.sh (wD (rle V))) ∧ Rets (F_order_told c t) [.sh (wD (rle U)), .sh (wD (rle V))] (.sh (ordD x.2)) ∧ Rets F_law_parted [.sh (LD U), .sh (LD V)] (.sh (partD x.2))
section
variable {c t : Addr} {wd fm : D} {o4 o5 o6 o7 o8 o9 o10 o11 o12 o13 o14 o15 o16 o17 o18 : Option SV} {src : Option Src} {r s u : Option (Nat × Str × Str)}
abbrev zS (wd fm : D) (o4 o5 o6 o7 o8 o9 o10 o11 o12 o13 o14 o15 o16 o17 : Option SV) (src : Option Src) : S := qS (some (.sh wd)) (some (.own fm)) o4 o5 o6 o7 o8 o9 o10 o11 o12 o13 o14 o15 o16 o17 none none src
theorem ld6 (h : ∀ x ∈ [(((0, 1), r) : TR), ((1, 2), s), ((0, 2), u)], TF c t wd fm x) : cAsg (cComp (cIt (cTup (cCons (cTup (cCons (cD (.int 0)) (cCons (cD (.int 1)) cNil))) (cCons (cTup (cCons (cD (.int 1)) (cCons (cD (.int 2)) cNil))) (cCons (cTup (cCons (cD (.int 0)) (cCons (cD (.int 2)) cNil))) cNil))))) g_law_7 cYes (e_law_8 c t) [5, 10]) (gNm 6) (zS wd fm o4 o5 o6 o7 o8 o9 o10 o11 o12 o13 o14 o15 o16 o17 src) = .ok .nx (zS wd fm o4 o5 (some (.own (.list [.str (sd r), .str (sd s), .str (sd u)]))) o7 o8 o9 o10 o11 o12 o13 o14 o15 o16 o17 src) := by
  have ec := comp_map (g := g_law_7) (f := e_law_8 c t) (vs := [5, 10]) (s := zS wd fm o4 none o6 o7 o8 o9 none o11 o12 o13 o14 o15 o16 o17 src) (fun x : TR => .sh (trD x)) (fun x => .str (sd x.2)) [((0, 1), r), ((1, 2), s), ((0, 2), u)] [] (fun x hx => by
    obtain ⟨U, V, w1, w2, f1, f2, p1, p2⟩ := (h x hx).ex
    have p1 := p1.app (n := 2)
    have e2 := sd_ord x.2
    simp only [App] at p1
    refine ⟨zS wd fm o4 (some (.sh (.int (x.1.1 : Int)))) o6 o7 o8 o9 (some (.sh (.int (x.1.2 : Int)))) o11 o12 o13 o14 o15 o16 o17 src, zS wd fm o4 (some (.sh (.int (x.1.1 : Int)))) o6 o7 o8 o9 (some (.sh (.int (x.1.2 : Int)))) o11 o12 o13 o14 o15 o16 o17 src, .sh (.str (sd x.2)), rfl, ?_, rfl, rfl⟩
    simp only [e_law_8, cSeq, cSkip, cAsg, cRet, cExpr, cIfS, cFor, cPar, cAug, cSetIx, cBinE, cBinV, cCall1, cCallN, cCall, cIt, cRangeC1, cRangeC2, cEnum, cZip, cTup, cLst, cNil, cCons, cConsR, cStar, cD, cVar, cVarV, vE, cT, cAnd, cOr, cNot, cAndV, cOrV, cNotV, cIf, cChain, cSlE2, cSlV2, bnd, cRev2, cNeg, cBits, cMeth, gNm, gTp, gsCons, gsNil, setMany, datAt, SV.dat, SV.settle, datas, fnsOf, cTupF, cFn, okA, tyD, bnd_ok, bnd_exc, opt_some, quiet_ok, shs_cons, shs_nil, itemsOf, Option.map_some, Option.bind_some, Option.map_none, Option.bind_none, padS, List.map_cons, List.map_nil, List.length_cons, List.length_nil, Nat.reduceAdd, Nat.reduceSub, List.replicate_succ, List.replicate_zero, List.cons_append, List.nil_append, List.getElem?_cons_zero, List.getElem?_cons_succ, List.set_cons_zero, List.set_cons_succ, if_true, if_false, Bool.false_eq_true, dGt, dLt, dLe2, dGe2, dOrd, dOrdI, dAddI, dSub, decide_eq_true_eq, Bool.not_eq_true', decide_eq_false_iff_not, sizeLine_eq, Nat.reduceLeDiff, Nat.zero_le, Nat.reduceLT, Nat.reducePow, beq_self_eq_true, id_eq, zS, qS, f1, f2, p1, e2]) (szl (by simp))
  simp only [List.map_cons, List.map_nil, List.nil_append, trD, zS, qS, Int.natCast_zero, Int.natCast_one, Int.cast_ofNat_Int] at ec
  simp only [cSeq, cSkip, cAsg, cRet, cExpr, cIfS, cFor, cPar, cAug, cSetIx, cBinE, cBinV, cCall1, cCallN, cCall, cIt, cRangeC1, cRangeC2, cEnum, cZip, cTup, cLst, cNil, cCons, cConsR, cStar, cD, cVar, cVarV, vE, cT, cAnd, cOr, cNot, cAndV, cOrV, cNotV, cIf, cChain, cSlE2, cSlV2, bnd, cRev2, cNeg, cBits, cMeth, gNm, gTp, gsCons, gsNil, setMany, datAt, SV.dat, SV.settle, datas, fnsOf, cTupF, cFn, okA, tyD, bnd_ok, bnd_exc, opt_some, quiet_ok, shs_cons, shs_nil, itemsOf, Option.map_some, Option.bind_some, Option.map_none, Option.bind_none, padS, List.map_cons, List.map_nil, List.length_cons, List.length_nil, Nat.reduceAdd, Nat.reduceSub, List.replicate_succ, List.replicate_zero, List.cons_append, List.nil_append, List.getElem?_cons_zero, List.getElem?_cons_succ, List.set_cons_zero, List.set_cons_succ, if_true, if_false, Bool.false_eq_true, dGt, dLt, dLe2, dGe2, dOrd, dOrdI, dAddI, dSub, decide_eq_true_eq, Bool.not_eq_true', decide_eq_false_iff_not, sizeLine_eq, Nat.reduceLeDiff, Nat.zero_le, Nat.reduceLT, Nat.reducePow, beq_self_eq_true, id_eq, zS, qS, cComp, dis_tup, wipeS, backS, Option.join, ec]
theorem ld7 (e : sd r = sd s → sd u = sd r) : cIfS (cAnd (cT (cBinE dEq (cBinV dIx 6 (vE (cD (.int 0)))) (vE (cBinV dIx 6 (vE (cD (.int 1))))))) (cT (cBinE dNe (cBinV dIx 6 (vE (cD (.int 2)))) (vE (cBinV dIx 6 (vE (cD (.int 0)))))))) (cRet (cD (.bool false))) cSkip (zS wd fm o4 o5 (some (.own (.list [.str (sd r), .str (sd s), .str (sd u)]))) o7 o8 o9 o10 o11 o12 o13 o14 o15 o16 o17 src) = .ok .nx (zS wd fm o4 o5 (some (.own (.list [.str (sd r), .str (sd s), .str (sd u)]))) o7 o8 o9 o10 o11 o12 o13 o14 o15 o16 o17 src) := by
  have i0 := ix_l0 (.str (sd r)) [.str (sd s), .str (sd u)]
  have i1 := ix_l1 (.str (sd r)) (.str (sd s)) [.str (sd u)]
  have i2 := ix_l2 (.str (sd r)) (.str (sd s)) (.str (sd u)) []
  have e1 := dEq_str (sd r) (sd s)
  have e2 := dNe_str (sd u) (sd r)
  by_cases z : sd r = sd s
  · rw [decide_eq_true z] at e1
    rw [decide_eq_true (e z)] at e2
    simp only [cSeq, cSkip, cAsg, cRet, cExpr, cIfS, cFor, cPar, cAug, cSetIx, cBinE, cBinV, cCall1, cCallN, cCall, cIt, cRangeC1, cRangeC2, cEnum, cZip, cTup, cLst, cNil, cCons, cConsR, cStar, cD, cVar, cVarV, vE, cT, cAnd, cOr, cNot, cAndV, cOrV, cNotV, cIf, cChain, cSlE2, cSlV2, bnd, cRev2, cNeg, cBits, cMeth, gNm, gTp, gsCons, gsNil, setMany, datAt, SV.dat, SV.settle, datas, fnsOf, cTupF, cFn, okA, tyD, bnd_ok, bnd_exc, opt_some, quiet_ok, shs_cons, shs_nil, itemsOf, Option.map_some, Option.bind_some, Option.map_none, Option.bind_none, padS, List.map_cons, List.map_nil, List.length_cons, List.length_nil, Nat.reduceAdd, Nat.reduceSub, List.replicate_succ, List.replicate_zero, List.cons_append, List.nil_append, List.getElem?_cons_zero, List.getElem?_cons_succ, List.set_cons_zero, List.set_cons_succ, if_true, if_false, Bool.false_eq_true, dGt, dLt, dLe2, dGe2, dOrd, dOrdI, dAddI, dSub, decide_eq_true_eq, Bool.not_eq_true', decide_eq_false_iff_not, sizeLine_eq, Nat.reduceLeDiff, Nat.zero_le, Nat.reduceLT, Nat.reducePow, beq_self_eq_true, id_eq, zS, qS, i0, i1, i2, e1, e2, Bool.not_true]
  · rw [decide_eq_false z] at e1
    simp only [cSeq, cSkip, cAsg, cRet, cExpr, cIfS, cFor, cPar, cAug, cSetIx, cBinE, cBinV, cCall1, cCallN, cCall, cIt, cRangeC1, cRangeC2, cEnum, cZip, cTup, cLst, cNil, cCons, cConsR, cStar, cD, cVar, cVarV, vE, cT, cAnd, cOr, cNot, cAndV, cOrV, cNotV, cIf, cChain, cSlE2, cSlV2, bnd, cRev2, cNeg, cBits, cMeth, gNm, gTp, gsCons, gsNil, setMany, datAt, SV.dat, SV.settle, datas, fnsOf, cTupF, cFn, okA, tyD, bnd_ok, bnd_exc, opt_some, quiet_ok, shs_cons, shs_nil, itemsOf, Option.map_some, Option.bind_some, Option.map_none, Option.bind_none, padS, List.map_cons, List.map_nil, List.length_cons, List.length_nil, Nat.reduceAdd, Nat.reduceSub, List.replicate_succ, List.replicate_zero, List.cons_append, List.nil_append, List.getElem?_cons_zero, List.getElem?_cons_succ, List.set_cons_zero, List.set_cons_succ, if_true, if_false, Bool.false_eq_true, dGt, dLt, dLe2, dGe2, dOrd, dOrdI, dAddI, dSub, decide_eq_true_eq, Bool.not_eq_true', decide_eq_false_iff_not, sizeLine_eq, Nat.reduceLeDiff, Nat.zero_le, Nat.reduceLT, Nat.reducePow, beq_self_eq_true, id_eq, zS, qS, i0, i1, i2, e1]
theorem ld8 (h : ∀ x ∈ [(((0, 1), r) : TR), ((1, 2), s), ((0, 2), u)], TF c t wd fm x) : cAsg (cComp (cIt (cTup (cCons (cTup (cCons (cD (.int 0)) (cCons (cD (.int 1)) cNil))) (cCons (cTup (cCons (cD (.int 1)) (cCons (cD (.int 2)) cNil))) (cCons (cTup (cCons (cD (.int 0)) (cCons (cD (.int 2)) cNil))) cNil))))) g_law_9 cYes e_law_10 [5, 10]) (gNm 7) (zS wd fm o4 o5 o6 o7 o8 o9 o10 o11 o12 o13 o14 o15 o16 o17 src) = .ok .nx (zS wd fm o4 o5 o6 (some (.own (.list [partD r, partD s, partD u]))) o8 o9 o10 o11 o12 o13 o14 o15 o16 o17 src) := by
  have ec := comp_map (g := g_law_9) (f := e_law_10) (vs := [5, 10]) (s := zS wd fm o4 none o6 o7 o8 o9 none o11 o12 o13 o14 o15 o16 o17 src) (fun x : TR => .sh (trD x)) (fun x => partD x.2) [((0, 1), r), ((1, 2), s), ((0, 2), u)] [] (fun x hx => by
    obtain ⟨U, V, w1, w2, f1, f2, p1, p2⟩ := (h x hx).ex
    have p2 := p2.app (n := 2)
    simp only [App] at p2
    refine ⟨zS wd fm o4 (some (.sh (.int (x.1.1 : Int)))) o6 o7 o8 o9 (some (.sh (.int (x.1.2 : Int)))) o11 o12 o13 o14 o15 o16 o17 src, zS wd fm o4 (some (.sh (.int (x.1.1 : Int)))) o6 o7 o8 o9 (some (.sh (.int (x.1.2 : Int)))) o11 o12 o13 o14 o15 o16 o17 src, .sh (partD x.2), rfl, ?_, rfl, rfl⟩
    simp only [e_law_10, cSeq, cSkip, cAsg, cRet, cExpr, cIfS, cFor, cPar, cAug, cSetIx, cBinE, cBinV, cCall1, cCallN, cCall, cIt, cRangeC1, cRangeC2, cEnum, cZip, cTup, cLst, cNil, cCons, cConsR, cStar, cD, cVar, cVarV, vE, cT, cAnd, cOr, cNot, cAndV, cOrV, cNotV, cIf, cChain, cSlE2, cSlV2, bnd, cRev2, cNeg, cBits, cMeth, gNm, gTp, gsCons, gsNil, setMany, datAt, SV.dat, SV.settle, datas, fnsOf, cTupF, cFn, okA, tyD, bnd_ok, bnd_exc, opt_some, quiet_ok, shs_cons, shs_nil, itemsOf, Option.map_some, Option.bind_some, Option.map_none, Option.bind_none, padS, List.map_cons, List.map_nil, List.length_cons, List.length_nil, Nat.reduceAdd, Nat.reduceSub, List.replicate_succ, List.replicate_zero, List.cons_append, List.nil_append, List.getElem?_cons_zero, List.getElem?_cons_succ, List.set_cons_zero, List.set_cons_succ, if_true, if_false, Bool.false_eq_true, dGt, dLt, dLe2, dGe2, dOrd, dOrdI, dAddI, dSub, decide_eq_true_eq, Bool.not_eq_true', decide_eq_false_iff_not, sizeLine_eq, Nat.reduceLeDiff, Nat.zero_le, Nat.reduceLT, Nat.reducePow, beq_self_eq_true, id_eq, zS, qS, w1, w2, p2]) (szl (by simp))
  simp only [List.map_cons, List.map_nil, List.nil_append, trD, zS, qS, Int.natCast_zero, Int.natCast_one, Int.cast_ofNat_Int] at ec
  simp only [cSeq, cSkip, cAsg, cRet, cExpr, cIfS, cFor, cPar, cAug, cSetIx, cBinE, cBinV, cCall1, cCallN, cCall, cIt, cRangeC1, cRangeC2, cEnum, cZip, cTup, cLst, cNil, cCons, cConsR, cStar, cD, cVar, cVarV, vE, cT, cAnd, cOr, cNot, cAndV, cOrV, cNotV, cIf, cChain, cSlE2, cSlV2, bnd, cRev2, cNeg, cBits, cMeth, gNm, gTp, gsCons, gsNil, setMany, datAt, SV.dat, SV.settle, datas, fnsOf, cTupF, cFn, okA, tyD, bnd_ok, bnd_exc, opt_some, quiet_ok, shs_cons, shs_nil, itemsOf, Option.map_some, Option.bind_some, Option.map_none, Option.bind_none, padS, List.map_cons, List.map_nil, List.length_cons, List.length_nil, Nat.reduceAdd, Nat.reduceSub, List.replicate_succ, List.replicate_zero, List.cons_append, List.nil_append, List.getElem?_cons_zero, List.getElem?_cons_succ, List.set_cons_zero, List.set_cons_succ, if_true, if_false, Bool.false_eq_true, dGt, dLt, dLe2, dGe2, dOrd, dOrdI, dAddI, dSub, decide_eq_true_eq, Bool.not_eq_true', decide_eq_false_iff_not, sizeLine_eq, Nat.reduceLeDiff, Nat.zero_le, Nat.reduceLT, Nat.reducePow, beq_self_eq_true, id_eq, zS, qS, cComp, dis_tup, wipeS, backS, Option.join, ec]
theorem ld9 : cAsg (cCall1 dSorted (vE (cComp (cIt (cVar 7)) g_law_11 cYes e_law_12 [18]))) (gNm 8) (zS wd fm o4 o5 o6 (some (.own (.list [partD r, partD s, partD u]))) o8 o9 o10 o11 o12 o13 o14 o15 o16 o17 src) = .ok .nx (zS wd fm o4 o5 o6 (some (.sh (.list [partD r, partD s, partD u]))) (some (.own (.list ((sortI [(spot r : Int), (spot s : Int), (spot u : Int)]).map .int)))) o9 o10 o11 o12 o13 o14 o15 o16 o17 src) := by
  have ec := comp_map (g := g_law_11) (f := e_law_12) (vs := [18]) (s := zS wd fm o4 o5 o6 (some (.sh (.list [partD r, partD s, partD u]))) o8 o9 o10 o11 o12 o13 o14 o15 o16 o17 src) (fun x : Option (Nat × Str × Str) => .sh (partD x)) (fun x => .int (spot x : Int)) [r, s, u] [] (fun x hx => by
    refine ⟨qS (some (.sh wd)) (some (.own fm)) o4 o5 o6 (some (.sh (.list [partD r, partD s, partD u]))) o8 o9 o10 o11 o12 o13 o14 o15 o16 o17 (some (.sh (partD x))) none src, qS (some (.sh wd)) (some (.own fm)) o4 o5 o6 (some (.sh (.list [partD r, partD s, partD u]))) o8 o9 o10 o11 o12 o13 o14 o15 o16 o17 (some (.sh (partD x))) none src, .sh (.int (spot x : Int)), rfl, ?_, rfl, rfl⟩
    have p := p9
    cases x with
    | none =>
      have z : dIs false (partD none) .none = some (.sh (.bool true)) := rfl
      simp only [e_law_12, cSeq, cSkip, cAsg, cRet, cExpr, cIfS, cFor, cPar, cAug, cSetIx, cBinE, cBinV, cCall1, cCallN, cCall, cIt, cRangeC1, cRangeC2, cEnum, cZip, cTup, cLst, cNil, cCons, cConsR, cStar, cD, cVar, cVarV, vE, cT, cAnd, cOr, cNot, cAndV, cOrV, cNotV, cIf, cChain, cSlE2, cSlV2, bnd, cRev2, cNeg, cBits, cMeth, gNm, gTp, gsCons, gsNil, setMany, datAt, SV.dat, SV.settle, datas, fnsOf, cTupF, cFn, okA, tyD, bnd_ok, bnd_exc, opt_some, quiet_ok, shs_cons, shs_nil, itemsOf, Option.map_some, Option.bind_some, Option.map_none, Option.bind_none, padS, List.map_cons, List.map_nil, List.length_cons, List.length_nil, Nat.reduceAdd, Nat.reduceSub, List.replicate_succ, List.replicate_zero, List.cons_append, List.nil_append, List.getElem?_cons_zero, List.getElem?_cons_succ, List.set_cons_zero, List.set_cons_succ, if_true, if_false, Bool.false_eq_true, dGt, dLt, dLe2, dGe2, dOrd, dOrdI, dAddI, dSub, decide_eq_true_eq, Bool.not_eq_true', decide_eq_false_iff_not, sizeLine_eq, Nat.reduceLeDiff, Nat.zero_le, Nat.reduceLT, Nat.reducePow, beq_self_eq_true, id_eq, qS, z, p, spot]
      rfl
    | some y =>
      obtain ⟨i, a, b⟩ := y
      have z : dIs false (partD (some (i, a, b))) .none = some (.sh (.bool false)) := rfl
      have x0 : dIx (partD (some (i, a, b))) (.int 0) = some (.sh (.int (i : Int))) := ix_t0 _ _
      simp only [e_law_12, cSeq, cSkip, cAsg, cRet, cExpr, cIfS, cFor, cPar, cAug, cSetIx, cBinE, cBinV, cCall1, cCallN, cCall, cIt, cRangeC1, cRangeC2, cEnum, cZip, cTup, cLst, cNil, cCons, cConsR, cStar, cD, cVar, cVarV, vE, cT, cAnd, cOr, cNot, cAndV, cOrV, cNotV, cIf, cChain, cSlE2, cSlV2, bnd, cRev2, cNeg, cBits, cMeth, gNm, gTp, gsCons, gsNil, setMany, datAt, SV.dat, SV.settle, datas, fnsOf, cTupF, cFn, okA, tyD, bnd_ok, bnd_exc, opt_some, quiet_ok, shs_cons, shs_nil, itemsOf, Option.map_some, Option.bind_some, Option.map_none, Option.bind_none, padS, List.map_cons, List.map_nil, List.length_cons, List.length_nil, Nat.reduceAdd, Nat.reduceSub, List.replicate_succ, List.replicate_zero, List.cons_append, List.nil_append, List.getElem?_cons_zero, List.getElem?_cons_succ, List.set_cons_zero, List.set_cons_succ, if_true, if_false, Bool.false_eq_true, dGt, dLt, dLe2, dGe2, dOrd, dOrdI, dAddI, dSub, decide_eq_true_eq, Bool.not_eq_true', decide_eq_false_iff_not, sizeLine_eq, Nat.reduceLeDiff, Nat.zero_le, Nat.reduceLT, Nat.reducePow, beq_self_eq_true, id_eq, qS, z, x0, spot]) (szl (by simp))
  have es : dSorted (.list [.int (spot r : Int), .int (spot s : Int), .int (spot u : Int)]) = some (.own (.list ((sortI [(spot r : Int), (spot s : Int), (spot u : Int)]).map .int))) := rfl
  simp only [List.map_cons, List.map_nil, List.nil_append, zS, qS] at ec
  simp only [cSeq, cSkip, cAsg, cRet, cExpr, cIfS, cFor, cPar, cAug, cSetIx, cBinE, cBinV, cCall1, cCallN, cCall, cIt, cRangeC1, cRangeC2, cEnum, cZip, cTup, cLst, cNil, cCons, cConsR, cStar, cD, cVar, cVarV, vE, cT, cAnd, cOr, cNot, cAndV, cOrV, cNotV, cIf, cChain, cSlE2, cSlV2, bnd, cRev2, cNeg, cBits, cMeth, gNm, gTp, gsCons, gsNil, setMany, datAt, SV.dat, SV.settle, datas, fnsOf, cTupF, cFn, okA, tyD, bnd_ok, bnd_exc, opt_some, quiet_ok, shs_cons, shs_nil, itemsOf, Option.map_some, Option.bind_some, Option.map_none, Option.bind_none, padS, List.map_cons, List.map_nil, List.length_cons, List.length_nil, Nat.reduceAdd, Nat.reduceSub, List.replicate_succ, List.replicate_zero, List.cons_append, List.nil_append, List.getElem?_cons_zero, List.getElem?_cons_succ, List.set_cons_zero, List.set_cons_succ, if_true, if_false, Bool.false_eq_true, dGt, dLt, dLe2, dGe2, dOrd, dOrdI, dAddI, dSub, decide_eq_true_eq, Bool.not_eq_true', decide_eq_false_iff_not, sizeLine_eq, Nat.reduceLeDiff, Nat.zero_le, Nat.reduceLT, Nat.reducePow, beq_self_eq_true, id_eq, zS, qS, cComp, wipeS, backS, Option.join, ec, es]
theorem ld10 {p q : Int} : cIfS (cT (cBinE dNe (cBinV dIx 8 (vE (cD (.int 0)))) (vE (cBinV dIx 8 (vE (cD (.int 1))))))) (cRet (cD (.bool false))) cSkip (zS wd fm o4 o5 o6 o7 (some (.own (.list [.int p, .int p, .int q]))) o9 o10 o11 o12 o13 o14 o15 o16 o17 src) = .ok .nx (zS wd fm o4 o5 o6 o7 (some (.own (.list [.int p, .int p, .int q]))) o9 o10 o11 o12 o13 o14 o15 o16 o17 src) := by
  have i0 := ix_l0 (.int p) [.int p, .int q]
  have i1 := ix_l1 (.int p) (.int p) [.int q]
  have e : dNe (.int p) (.int p) = some (.sh (.bool false)) := by rw [dNe_int, decide_eq_true rfl]; rfl
  simp only [cSeq, cSkip, cAsg, cRet, cExpr, cIfS, cFor, cPar, cAug, cSetIx, cBinE, cBinV, cCall1, cCallN, cCall, cIt, cRangeC1, cRangeC2, cEnum, cZip, cTup, cLst, cNil, cCons, cConsR, cStar, cD, cVar, cVarV, vE, cT, cAnd, cOr, cNot, cAndV, cOrV, cNotV, cIf, cChain, cSlE2, cSlV2, bnd, cRev2, cNeg, cBits, cMeth, gNm, gTp, gsCons, gsNil, setMany, datAt, SV.dat, SV.settle, datas, fnsOf, cTupF, cFn, okA, tyD, bnd_ok, bnd_exc, opt_some, quiet_ok, shs_cons, shs_nil, itemsOf, Option.map_some, Option.bind_some, Option.map_none, Option.bind_none, padS, List.map_cons, List.map_nil, List.length_cons, List.length_nil, Nat.reduceAdd, Nat.reduceSub, List.replicate_succ, List.replicate_zero, List.cons_append, List.nil_append, List.getElem?_cons_zero, List.getElem?_cons_succ, List.set_cons_zero, List.set_cons_succ, if_true, if_false, Bool.false_eq_true, dGt, dLt, dLe2, dGe2, dOrd, dOrdI, dAddI, dSub, decide_eq_true_eq, Bool.not_eq_true', decide_eq_false_iff_not, sizeLine_eq, Nat.reduceLeDiff, Nat.zero_le, Nat.reduceLT, Nat.reducePow, beq_self_eq_true, id_eq, zS, qS, i0, i1, e]
end
end Law
end Pw
set_option Elab.async false
set_option linter.all false
set_option maxRecDepth 100000
set_option exponentiation.threshold 10000
namespace Pw
namespace Law
open PySem PySem.Spec PyProof.Rows L2 Pw.Wd
section
variable {c t : Addr} {wd fm : D} {A : List Str} {o4 o5 o6 o7 o8 o9 o10 o11 o12 o13 o14 o15 o16 o17 : Option SV} {src : Option Src}
abbrev yS (wd fm : D) (o4 o5 o6 o7 o8 o9 o10 o11 o12 o13 o14 o15 o16 o17 : Option SV) (src : Option Src) : S := ⟨[none, some .src, some (.sh wd), some (.sh fm), o4, o5, o6, o7, o8, o9, o10, o11, o12, o13, o14, o15, o16, o17, none, none, some .tb], src⟩
abbrev mk3 (fm : D) (a b : Option SV) (n : Nat) : List (Option SV) := none :: a :: b :: some (.sh fm) :: List.replicate n none
theorem eq_none (p : Int) : dNe (.tuple [.str "none", .int p]) (.tuple [.str "none", .int p]) = some (.sh (.bool false)) ∧ dEq (.tuple [.str "none", .int p]) (.tuple [.str "none", .int p]) = some (.sh (.bool true)) := by
  have h : PyData.eqv (.tuple [.str "none", .int p]) (.tuple [.str "none", .int p]) = true := PySem.SeqAt.eqv_refl_plain _ rfl
  have h1 : eqOk (.tuple [.str "none", .int p]) (.tuple [.str "none", .int p]) = true := rfl
  constructor
  · unfold dNe; rw [if_pos h1, h]; rfl
  · unfold dEq; rw [if_pos h1, h]
theorem ld11 (hA : A ≠ []) (f0 : dIx fm (.int 0) = some (.sh (wD (rle A)))) : cIfS (cT (cBinE dNe (cLam 20 2 [3] (m_law_refused c) (cCall 2 (F_order_told c t) (cCons (cTup cNil) (cCons (cBinV dIx 3 (vE (cD (.int 0)))) cNil)))) (vE (cTup (cCons (cD (.str "none")) (cCons (cD (.int 0)) cNil)))))) (cRet (cD (.bool false))) cSkip (zS wd fm o4 o5 o6 o7 o8 o9 o10 o11 o12 o13 o14 o15 o16 o17 src) = .ok .nx (yS wd fm o4 o5 o6 o7 o8 o9 o10 o11 o12 o13 o14 o15 o16 o17 src) := by
  have e1 := (order_no0 c t (rle A)).app (n := 2)
  simp only [AppX] at e1
  have em : maskL [3] 0 (settleS [3] (zS wd fm o4 o5 o6 o7 o8 o9 o10 o11 o12 o13 o14 o15 o16 o17 src)).sl = mk3 fm none none 17 := rfl
  have ee := lam_ok (c := c) (p := 0) (cs := [3]) (body := cCall 2 (F_order_told c t) (cCons (cTup cNil) (cCons (cBinV dIx 3 (vE (cD (.int 0)))) cNil))) (s0 := zS wd fm o4 o5 o6 o7 o8 o9 o10 o11 o12 o13 o14 o15 o16 o17 src) rfl (sl := mk3 fm none none 17) (by
    rw [em]
    simp only [cSeq, cSkip, cAsg, cRet, cExpr, cIfS, cFor, cPar, cAug, cSetIx, cBinE, cBinV, cCall1, cCallN, cCall, cIt, cRangeC1, cRangeC2, cEnum, cZip, cTup, cLst, cNil, cCons, cConsR, cStar, cD, cVar, cVarV, vE, cT, cAnd, cOr, cNot, cAndV, cOrV, cNotV, cIf, cChain, cSlE2, cSlV2, bnd, cRev2, cNeg, cBits, cMeth, gNm, gTp, gsCons, gsNil, setMany, datAt, SV.dat, SV.settle, datas, fnsOf, cTupF, cFn, okA, tyD, bnd_ok, bnd_exc, opt_some, quiet_ok, shs_cons, shs_nil, itemsOf, Option.map_some, Option.bind_some, Option.map_none, Option.bind_none, padS, List.map_cons, List.map_nil, List.length_cons, List.length_nil, Nat.reduceAdd, Nat.reduceSub, List.replicate_succ, List.replicate_zero, List.cons_append, List.nil_append, List.getElem?_cons_zero, List.getElem?_cons_succ, List.set_cons_zero, List.set_cons_succ, if_true, if_false, Bool.false_eq_true, dGt, dLt, dLe2, dGe2, dOrd, dOrdI, dAddI, dSub, decide_eq_true_eq, Bool.not_eq_true', decide_eq_false_iff_not, sizeLine_eq, Nat.reduceLeDiff, Nat.zero_le, Nat.reduceLT, Nat.reducePow, beq_self_eq_true, id_eq, mk3, dis_tup, f0, e1])
  have es : settleS [3] (zS wd fm o4 o5 o6 o7 o8 o9 o10 o11 o12 o13 o14 o15 o16 o17 src) = yS wd fm o4 o5 o6 o7 o8 o9 o10 o11 o12 o13 o14 o15 o16 o17 src := rfl
  rw [es] at ee
  have e2 := (eq_none 0).1
  simp only [zS, qS] at ee
  simp only [cSeq, cSkip, cAsg, cRet, cExpr, cIfS, cFor, cPar, cAug, cSetIx, cBinE, cBinV, cCall1, cCallN, cCall, cIt, cRangeC1, cRangeC2, cEnum, cZip, cTup, cLst, cNil, cCons, cConsR, cStar, cD, cVar, cVarV, vE, cT, cAnd, cOr, cNot, cAndV, cOrV, cNotV, cIf, cChain, cSlE2, cSlV2, bnd, cRev2, cNeg, cBits, cMeth, gNm, gTp, gsCons, gsNil, setMany, datAt, SV.dat, SV.settle, datas, fnsOf, cTupF, cFn, okA, tyD, bnd_ok, bnd_exc, opt_some, quiet_ok, shs_cons, shs_nil, itemsOf, Option.map_some, Option.bind_some, Option.map_none, Option.bind_none, padS, List.map_cons, List.map_nil, List.length_cons, List.length_nil, Nat.reduceAdd, Nat.reduceSub, List.replicate_succ, List.replicate_zero, List.cons_append, List.nil_append, List.getElem?_cons_zero, List.getElem?_cons_succ, List.set_cons_zero, List.set_cons_succ, if_true, if_false, Bool.false_eq_true, dGt, dLt, dLe2, dGe2, dOrd, dOrdI, dAddI, dSub, decide_eq_true_eq, Bool.not_eq_true', decide_eq_false_iff_not, sizeLine_eq, Nat.reduceLeDiff, Nat.zero_le, Nat.reduceLT, Nat.reducePow, beq_self_eq_true, id_eq, zS, qS, yS, ee, dis_tup, e2]
theorem ld12 (hA : A ≠ []) (f0 : dIx fm (.int 0) = some (.sh (wD (rle A)))) : cRet (cAndV (cBinE dEq (cLam 20 2 [3] (m_law_refused c) (cCall 2 (F_order_told c t) (cCons (cBinV dIx 3 (vE (cD (.int 0)))) (cCons (cTup cNil) cNil)))) (vE (cTup (cCons (cD (.str "none")) (cCons (cD (.int 1)) cNil))))) (cBinE dEq (cLam 20 2 [] (m_law_refused c) (cCall 1 (F_power_told c) (cCons (cTup cNil) cNil))) (vE (cTup (cCons (cD (.str "none")) (cCons (cD (.int 0)) cNil)))))) (yS wd fm o4 o5 o6 o7 o8 o9 o10 o11 o12 o13 o14 o15 o16 o17 src) = .ok (.ret (.sh (.bool true))) (yS wd fm o4 o5 o6 o7 o8 o9 o10 o11 o12 o13 o14 o15 o16 o17 src) := by
  have e1 := (order_no1 c t (rle_ne hA)).app (n := 2)
  have e3 := (power_no c).app (n := 1)
  simp only [AppX] at e1 e3
  have em : maskL [3] 0 (settleS [3] (yS wd fm o4 o5 o6 o7 o8 o9 o10 o11 o12 o13 o14 o15 o16 o17 src)).sl = mk3 fm none none 17 := rfl
  have em2 : maskL [] 0 (settleS [] (yS wd fm o4 o5 o6 o7 o8 o9 o10 o11 o12 o13 o14 o15 o16 o17 src)).sl = List.replicate 21 none := rfl
  have ee := lam_ok (c := c) (p := 1) (cs := [3]) (body := cCall 2 (F_order_told c t) (cCons (cBinV dIx 3 (vE (cD (.int 0)))) (cCons (cTup cNil) cNil))) (s0 := yS wd fm o4 o5 o6 o7 o8 o9 o10 o11 o12 o13 o14 o15 o16 o17 src) rfl (sl := mk3 fm none none 17) (by
    rw [em]
    simp only [cSeq, cSkip, cAsg, cRet, cExpr, cIfS, cFor, cPar, cAug, cSetIx, cBinE, cBinV, cCall1, cCallN, cCall, cIt, cRangeC1, cRangeC2, cEnum, cZip, cTup, cLst, cNil, cCons, cConsR, cStar, cD, cVar, cVarV, vE, cT, cAnd, cOr, cNot, cAndV, cOrV, cNotV, cIf, cChain, cSlE2, cSlV2, bnd, cRev2, cNeg, cBits, cMeth, gNm, gTp, gsCons, gsNil, setMany, datAt, SV.dat, SV.settle, datas, fnsOf, cTupF, cFn, okA, tyD, bnd_ok, bnd_exc, opt_some, quiet_ok, shs_cons, shs_nil, itemsOf, Option.map_some, Option.bind_some, Option.map_none, Option.bind_none, padS, List.map_cons, List.map_nil, List.length_cons, List.length_nil, Nat.reduceAdd, Nat.reduceSub, List.replicate_succ, List.replicate_zero, List.cons_append, List.nil_append, List.getElem?_cons_zero, List.getElem?_cons_succ, List.set_cons_zero, List.set_cons_succ, if_true, if_false, Bool.false_eq_true, dGt, dLt, dLe2, dGe2, dOrd, dOrdI, dAddI, dSub, decide_eq_true_eq, Bool.not_eq_true', decide_eq_false_iff_not, sizeLine_eq, Nat.reduceLeDiff, Nat.zero_le, Nat.reduceLT, Nat.reducePow, beq_self_eq_true, id_eq, mk3, dis_tup, f0, e1])
  have ef := lam_ok (c := c) (p := 0) (cs := []) (body := cCall 1 (F_power_told c) (cCons (cTup cNil) cNil)) (s0 := yS wd fm o4 o5 o6 o7 o8 o9 o10 o11 o12 o13 o14 o15 o16 o17 src) rfl (sl := List.replicate 21 none) (by
    rw [em2]
    simp only [cSeq, cSkip, cAsg, cRet, cExpr, cIfS, cFor, cPar, cAug, cSetIx, cBinE, cBinV, cCall1, cCallN, cCall, cIt, cRangeC1, cRangeC2, cEnum, cZip, cTup, cLst, cNil, cCons, cConsR, cStar, cD, cVar, cVarV, vE, cT, cAnd, cOr, cNot, cAndV, cOrV, cNotV, cIf, cChain, cSlE2, cSlV2, bnd, cRev2, cNeg, cBits, cMeth, gNm, gTp, gsCons, gsNil, setMany, datAt, SV.dat, SV.settle, datas, fnsOf, cTupF, cFn, okA, tyD, bnd_ok, bnd_exc, opt_some, quiet_ok, shs_cons, shs_nil, itemsOf, Option.map_some, Option.bind_some, Option.map_none, Option.bind_none, padS, List.map_cons, List.map_nil, List.length_cons, List.length_nil, Nat.reduceAdd, Nat.reduceSub, List.replicate_succ, List.replicate_zero, List.cons_append, List.nil_append, List.getElem?_cons_zero, List.getElem?_cons_succ, List.set_cons_zero, List.set_cons_succ, if_true, if_false, Bool.false_eq_true, dGt, dLt, dLe2, dGe2, dOrd, dOrdI, dAddI, dSub, decide_eq_true_eq, Bool.not_eq_true', decide_eq_false_iff_not, sizeLine_eq, Nat.reduceLeDiff, Nat.zero_le, Nat.reduceLT, Nat.reducePow, beq_self_eq_true, id_eq, dis_tup, e3])
  have es : settleS [3] (yS wd fm o4 o5 o6 o7 o8 o9 o10 o11 o12 o13 o14 o15 o16 o17 src) = yS wd fm o4 o5 o6 o7 o8 o9 o10 o11 o12 o13 o14 o15 o16 o17 src := rfl
  have es2 : settleS [] (yS wd fm o4 o5 o6 o7 o8 o9 o10 o11 o12 o13 o14 o15 o16 o17 src) = yS wd fm o4 o5 o6 o7 o8 o9 o10 o11 o12 o13 o14 o15 o16 o17 src := rfl
  rw [es] at ee
  rw [es2] at ef
  have e2 := (eq_none 1).2
  have e4 := (eq_none 0).2
  simp only [yS] at ee ef
  simp only [cSeq, cSkip, cAsg, cRet, cExpr, cIfS, cFor, cPar, cAug, cSetIx, cBinE, cBinV, cCall1, cCallN, cCall, cIt, cRangeC1, cRangeC2, cEnum, cZip, cTup, cLst, cNil, cCons, cConsR, cStar, cD, cVar, cVarV, vE, cT, cAnd, cOr, cNot, cAndV, cOrV, cNotV, cIf, cChain, cSlE2, cSlV2, bnd, cRev2, cNeg, cBits, cMeth, gNm, gTp, gsCons, gsNil, setMany, datAt, SV.dat, SV.settle, datas, fnsOf, cTupF, cFn, okA, tyD, bnd_ok, bnd_exc, opt_some, quiet_ok, shs_cons, shs_nil, itemsOf, Option.map_some, Option.bind_some, Option.map_none, Option.bind_none, padS, List.map_cons, List.map_nil, List.length_cons, List.length_nil, Nat.reduceAdd, Nat.reduceSub, List.replicate_succ, List.replicate_zero, List.cons_append, List.nil_append, List.getElem?_cons_zero, List.getElem?_cons_succ, List.set_cons_zero, List.set_cons_succ, if_true, if_false, Bool.false_eq_true, dGt, dLt, dLe2, dGe2, dOrd, dOrdI, dAddI, dSub, decide_eq_true_eq, Bool.not_eq_true', decide_eq_false_iff_not, sizeLine_eq, Nat.reduceLeDiff, Nat.zero_le, Nat.reduceLT, Nat.reducePow, beq_self_eq_true, id_eq, yS, ee, ef, dis_tup, e2, e4]
end
end Law
end Pw
set_option Elab.async false
set_option linter.all false
set_option maxRecDepth 100000
set_option exponentiation.threshold 10000
namespace Pw
namespace Law
open PySem PySem.Spec PyProof.Rows L2 Pw.Wd
theorem spot_le {U V : List Str} (hU : Row U) (hV : Row V) {r : Option (Nat × Str × Str)} (p : partR (om U) (om V) r) : spot r ≤ 1000000000 := by
  cases r with
  | none => exact Nat.le_refl _
  | some x =>
    obtain ⟨i, a, b⟩ := x
    have := FD.lt_sum hU.ne hV.ne p
    have := hU.few
    have := hV.few
    show i ≤ _
    omega
theorem law_ok (c t : Addr) (sr : Src) (hsr : SrcIn sr) : (m_law c t (lawT 21 18 sr)).sat (fun fl _ => fl = .ret (.sh (.bool true))) fun _ _ => False := by
  suffices h : ∃ s, m_law c t (lawT 21 18 sr) = .ok (.ret (.sh (.bool true))) s by
    obtain ⟨s, h⟩ := h
    rw [h]
    exact rfl
  have e0 : lawT 21 18 sr = qS none none none none none none none none none none none none none none none none none none (some sr) := rfl
  rw [e0]
  obtain ⟨A, sr1, hA, i1, e1⟩ := la1 (o2 := none) (o3 := none) (o4 := none) (o5 := none) (o6 := none) (o7 := none) (o8 := none) (o9 := none) (o10 := none) (o11 := none) (o12 := none) (o13 := none) (o14 := none) (o15 := none) (o16 := none) (o17 := none) (o18 := none) (o19 := none) hsr
  obtain ⟨B, C, sr2, hB, hC, i2, e2⟩ := la2 (o3 := none) (o4 := none) (o5 := none) (o6 := none) (o7 := none) (o8 := none) (o9 := none) (o10 := none) (o11 := none) (o12 := none) (o13 := none) (o14 := none) (o15 := none) (o16 := none) (o17 := none) (o18 := none) (o19 := none) hA i1
  have rA := hA.row (by decide)
  have rB := hB.row (by decide)
  have rC := hC.row (by decide)
  have hrow : ∀ x ∈ [A, B, C], Row x := fun x hx => by
    simp only [List.mem_cons, List.not_mem_nil, or_false] at hx
    rcases hx with rfl | rfl | rfl
    · exact rA
    · exact rB
    · exact rC
  obtain ⟨q, sr3, hq, i3, e4⟩ := la4 (o2 := some (.sh (wdD [A, B, C]))) (o3 := some (.own (fmD [A, B, C]))) (o4 := none) (o5 := none) (o6 := none) (o7 := none) (o8 := none) (o9 := none) (o10 := none) (o11 := none) (o12 := none) (o13 := none) (o14 := none) (o15 := none) (o16 := none) (o17 := none) (o18 := none) (o19 := none) i2
  obtain ⟨a5, a8, a9, a10, a12, a13, a14, a15, a16, a17, sr4, i4, e5⟩ := words_loop (c := c) (t := t) hrow rfl hq none none none none 3 0 none none none none none none none none none none sr3 i3 (by omega)
  have b1 : -(2 ^ 62 : Int) ≤ 3 ∧ (3 : Int) < 2 ^ 62 := by decide
  have b3 : rgD 0 (Int.toNat 3) = rg 0 3 := rgD_rg 0 3
  have e5' : cFor (cRangeC1 (cCons (cD (.int 3)) cNil)) (gNm 5) (b_law_6 c t) (qS (some (.sh (wdD [A, B, C]))) (some (.own (fmD [A, B, C]))) (some (.sh (.int (q : Int)))) none none none none none none none none none none none none none none none (some sr3)) = .ok .nx (zS (wdD [A, B, C]) (fmD [A, B, C]) (some (.sh (.int (q : Int)))) a5 none none a8 a9 a10 none a12 a13 a14 a15 a16 a17 (some sr4)) := by
    simp only [gNm, qS] at e5
    simp only [cSeq, cSkip, cAsg, cRet, cExpr, cIfS, cFor, cPar, cAug, cSetIx, cBinE, cBinV, cCall1, cCallN, cCall, cIt, cRangeC1, cRangeC2, cEnum, cZip, cTup, cLst, cNil, cCons, cConsR, cStar, cD, cVar, cVarV, vE, cT, cAnd, cOr, cNot, cAndV, cOrV, cNotV, cIf, cChain, cSlE2, cSlV2, bnd, cRev2, cNeg, cBits, cMeth, gNm, gTp, gsCons, gsNil, setMany, datAt, SV.dat, SV.settle, datas, fnsOf, cTupF, cFn, okA, tyD, bnd_ok, bnd_exc, opt_some, quiet_ok, shs_cons, shs_nil, itemsOf, Option.map_some, Option.bind_some, Option.map_none, Option.bind_none, padS, List.map_cons, List.map_nil, List.length_cons, List.length_nil, Nat.reduceAdd, Nat.reduceSub, List.replicate_succ, List.replicate_zero, List.cons_append, List.nil_append, List.getElem?_cons_zero, List.getElem?_cons_succ, List.set_cons_zero, List.set_cons_succ, if_true, if_false, Bool.false_eq_true, dGt, dLt, dLe2, dGe2, dOrd, dOrdI, dAddI, dSub, decide_eq_true_eq, Bool.not_eq_true', decide_eq_false_iff_not, sizeLine_eq, Nat.reduceLeDiff, Nat.zero_le, Nat.reduceLT, Nat.reducePow, beq_self_eq_true, id_eq, qS, zS, ifc_pos b1, b3, e5]
  obtain ⟨r, hr, p1, _, p3, _⟩ := pair_facts c t rA rB hq
  obtain ⟨s, hs, q1, _, q3, _⟩ := pair_facts c t rB rC hq
  obtain ⟨u, hu, k1, _, k3, _⟩ := pair_facts c t rA rC hq
  have w : ∀ x ∈ [(((0, 1), r) : TR), ((1, 2), s), ((0, 2), u)], TF c t (wdD [A, B, C]) (fmD [A, B, C]) x := fun x hx => by
    simp only [List.mem_cons, List.not_mem_nil, or_false] at hx
    rcases hx with rfl | rfl | rfl
    · exact ⟨A, B, wds_at (As := [A, B, C]) (k := 0) (by simp), wds_at (As := [A, B, C]) (k := 1) (by simp), fm_at (As := [A, B, C]) (k := 0) (by simp), fm_at (As := [A, B, C]) (k := 1) (by simp), p3, p1⟩
    · exact ⟨B, C, wds_at (As := [A, B, C]) (k := 1) (by simp), wds_at (As := [A, B, C]) (k := 2) (by simp), fm_at (As := [A, B, C]) (k := 1) (by simp), fm_at (As := [A, B, C]) (k := 2) (by simp), q3, q1⟩
    · exact ⟨A, C, wds_at (As := [A, B, C]) (k := 0) (by simp), wds_at (As := [A, B, C]) (k := 2) (by simp), fm_at (As := [A, B, C]) (k := 0) (by simp), fm_at (As := [A, B, C]) (k := 2) (by simp), k3, k1⟩
  have f0 : dIx (fmD [A, B, C]) (.int 0) = some (.sh (wD (rle A))) := fm_at (As := [A, B, C]) (k := 0) (by simp)
  have lr := spot_le rA rB hr
  have ls := spot_le rB rC hs
  have lu := spot_le rA rC hu
  have spw : ∀ x : Option (Nat × Str × Str), spot (x.map fun x => (x.1, x.2.2, x.2.1)) = spot x := fun x => by cases x <;> rfl
  have m1 := spot_tri hr hs hu lr
  have m2 := spot_tri (part_swap hr) hu hs (by rw [spw]; exact lr)
  rw [spw] at m2
  have m3 := spot_tri hu (part_swap hs) hr lu
  rw [spw] at m3
  obtain ⟨p, z, ez⟩ := sort3 (x := (spot r : Int)) (y := (spot s : Int)) (z := (spot u : Int)) (by omega) (by omega) (by omega)
  have e9 := ld9 (wd := wdD [A, B, C]) (fm := fmD [A, B, C]) (o4 := some (.sh (.int (q : Int)))) (o5 := a5) (o6 := some (.own (.list [.str (sd r), .str (sd s), .str (sd u)]))) (o8 := a8) (o9 := a9) (o10 := a10) (o11 := none) (o12 := a12) (o13 := a13) (o14 := a14) (o15 := a15) (o16 := a16) (o17 := a17) (src := some sr4) (r := r) (s := s) (u := u)
  rw [ez] at e9
  refine ⟨yS (wdD [A, B, C]) (fmD [A, B, C]) (some (.sh (.int (q : Int)))) a5 (some (.own (.list [.str (sd r), .str (sd s), .str (sd u)]))) (some (.sh (.list [partD r, partD s, partD u]))) (some (.own (.list [.int p, .int p, .int z]))) a9 a10 none a12 a13 a14 a15 a16 a17 (some sr4), ?_⟩
  unfold m_law
  exact seq_nx e1 <| seq_nx e2 <| seq_nx (la3 hrow (by simp)) <| seq_nx e4 <| seq_nx e5' <| seq_nx (ld6 w) <| seq_nx (ld7 (sd_tr hr hs hu)) <| seq_nx (ld8 w) <| seq_nx e9 <| seq_nx ld10 <| seq_nx (ld11 rA.ne f0) (ld12 rA.ne f0)
end Law
end Pw
set_option Elab.async false
set_option linter.all false
set_option maxRecDepth 100000
set_option maxHeartbeats 4000000
namespace Pw
namespace Law
open PySem PySem.Spec PyProof.Rows L2
abbrev sI_Refused : Stmt := clsDef (topS 3)
abbrev sI_TooGreat : Stmt := clsDef (topS 2)
theorem all_mk {P : Program} {w : World} {K : PySem.W.Frag} {h : Heap} {mg : Str → Option Value} {fa : Addr} (X : K.In h) (G : h.Ns mainGlobals mg) (hfa : mg "law" = some (.ref fa))
    {f_not_long f_word_told f_word_made f_word_long f_word_then f_times_runs f_word_times f_endless_runs f_run_at f_parted_constant f_parted_by_one f_endless_parted f_let_word f_order_told f_ring_runs f_runs_often f_word_upto f_word_from f_power_told f_word_turned f_letter_at f_endless_cut f_law_source f_law_pick f_law_of f_law_runs f_law_word f_law_other f_law_parted f_law_root f_law_far f_law_refused f_law c_Refused i_Refused cd_Refused cl_Refused c_TooGreat i_TooGreat cd_TooGreat cl_TooGreat ce_Refused ce_TooGreat : Addr}
    {cd_law tt_law : Addr}
    {od_not_long an_not_long : Option Addr} {sl_not_long : Array (Option Value)} {oc_not_long kv_not_long dc_not_long pm_not_long cv_not_long ct_not_long : Value}
    {od_word_told an_word_told : Option Addr} {sl_word_told : Array (Option Value)} {oc_word_told kv_word_told dc_word_told pm_word_told cv_word_told ct_word_told : Value}
    {od_word_made an_word_made : Option Addr} {sl_word_made : Array (Option Value)} {oc_word_made kv_word_made dc_word_made pm_word_made cv_word_made ct_word_made : Value}
    {od_word_long an_word_long : Option Addr} {sl_word_long : Array (Option Value)} {oc_word_long kv_word_long dc_word_long pm_word_long cv_word_long ct_word_long : Value}
    {od_word_then an_word_then : Option Addr} {sl_word_then : Array (Option Value)} {oc_word_then kv_word_then dc_word_then pm_word_then cv_word_then ct_word_then : Value}
    {od_times_runs an_times_runs : Option Addr} {sl_times_runs : Array (Option Value)} {oc_times_runs kv_times_runs dc_times_runs pm_times_runs cv_times_runs ct_times_runs : Value}
    {od_word_times an_word_times : Option Addr} {sl_word_times : Array (Option Value)} {oc_word_times kv_word_times dc_word_times pm_word_times cv_word_times ct_word_times : Value}
    {od_endless_runs an_endless_runs : Option Addr} {sl_endless_runs : Array (Option Value)} {oc_endless_runs kv_endless_runs dc_endless_runs pm_endless_runs cv_endless_runs ct_endless_runs : Value}
    {od_run_at an_run_at : Option Addr} {sl_run_at : Array (Option Value)} {oc_run_at kv_run_at dc_run_at pm_run_at cv_run_at ct_run_at : Value}
    {od_parted_constant an_parted_constant : Option Addr} {sl_parted_constant : Array (Option Value)} {oc_parted_constant kv_parted_constant dc_parted_constant pm_parted_constant cv_parted_constant ct_parted_constant : Value}
    {od_parted_by_one an_parted_by_one : Option Addr} {sl_parted_by_one : Array (Option Value)} {oc_parted_by_one kv_parted_by_one dc_parted_by_one pm_parted_by_one cv_parted_by_one ct_parted_by_one : Value}
    {od_endless_parted an_endless_parted : Option Addr} {sl_endless_parted : Array (Option Value)} {oc_endless_parted kv_endless_parted dc_endless_parted pm_endless_parted cv_endless_parted ct_endless_parted : Value}
    {od_let_word an_let_word : Option Addr} {sl_let_word : Array (Option Value)} {oc_let_word kv_let_word dc_let_word pm_let_word cv_let_word ct_let_word : Value}
    {od_order_told an_order_told : Option Addr} {sl_order_told : Array (Option Value)} {oc_order_told kv_order_told dc_order_told pm_order_told cv_order_told ct_order_told : Value}
    {od_ring_runs an_ring_runs : Option Addr} {sl_ring_runs : Array (Option Value)} {oc_ring_runs kv_ring_runs dc_ring_runs pm_ring_runs cv_ring_runs ct_ring_runs : Value}
    {od_runs_often an_runs_often : Option Addr} {sl_runs_often : Array (Option Value)} {oc_runs_often kv_runs_often dc_runs_often pm_runs_often cv_runs_often ct_runs_often : Value}
    {od_word_upto an_word_upto : Option Addr} {sl_word_upto : Array (Option Value)} {oc_word_upto kv_word_upto dc_word_upto pm_word_upto cv_word_upto ct_word_upto : Value}
    {od_word_from an_word_from : Option Addr} {sl_word_from : Array (Option Value)} {oc_word_from kv_word_from dc_word_from pm_word_from cv_word_from ct_word_from : Value}
    {od_power_told an_power_told : Option Addr} {sl_power_told : Array (Option Value)} {oc_power_told kv_power_told dc_power_told pm_power_told cv_power_told ct_power_told : Value}
    {od_word_turned an_word_turned : Option Addr} {sl_word_turned : Array (Option Value)} {oc_word_turned kv_word_turned dc_word_turned pm_word_turned cv_word_turned ct_word_turned : Value}
    {od_letter_at an_letter_at : Option Addr} {sl_letter_at : Array (Option Value)} {oc_letter_at kv_letter_at dc_letter_at pm_letter_at cv_letter_at ct_letter_at : Value}
    {od_endless_cut an_endless_cut : Option Addr} {sl_endless_cut : Array (Option Value)} {oc_endless_cut kv_endless_cut dc_endless_cut pm_endless_cut cv_endless_cut ct_endless_cut : Value}
    {od_law_source an_law_source : Option Addr} {sl_law_source : Array (Option Value)} {oc_law_source kv_law_source dc_law_source pm_law_source cv_law_source ct_law_source : Value}
    {od_law_pick an_law_pick : Option Addr} {sl_law_pick : Array (Option Value)} {oc_law_pick kv_law_pick dc_law_pick pm_law_pick cv_law_pick ct_law_pick : Value}
    {od_law_of an_law_of : Option Addr} {sl_law_of : Array (Option Value)} {oc_law_of kv_law_of dc_law_of pm_law_of cv_law_of ct_law_of : Value}
    {od_law_runs an_law_runs : Option Addr} {sl_law_runs : Array (Option Value)} {oc_law_runs kv_law_runs dc_law_runs pm_law_runs cv_law_runs ct_law_runs : Value}
    {od_law_word an_law_word : Option Addr} {sl_law_word : Array (Option Value)} {oc_law_word kv_law_word dc_law_word pm_law_word cv_law_word ct_law_word : Value}
    {od_law_other an_law_other : Option Addr} {sl_law_other : Array (Option Value)} {oc_law_other kv_law_other dc_law_other pm_law_other cv_law_other ct_law_other : Value}
    {od_law_parted an_law_parted : Option Addr} {sl_law_parted : Array (Option Value)} {oc_law_parted kv_law_parted dc_law_parted pm_law_parted cv_law_parted ct_law_parted : Value}
    {od_law_root an_law_root : Option Addr} {sl_law_root : Array (Option Value)} {oc_law_root kv_law_root dc_law_root pm_law_root cv_law_root ct_law_root : Value}
    {od_law_far an_law_far : Option Addr} {sl_law_far : Array (Option Value)} {oc_law_far kv_law_far dc_law_far pm_law_far cv_law_far ct_law_far : Value}
    {od_law_refused an_law_refused : Option Addr} {sl_law_refused : Array (Option Value)} {oc_law_refused kv_law_refused dc_law_refused pm_law_refused cv_law_refused ct_law_refused : Value}
    {od_law an_law : Option Addr} {sl_law : Array (Option Value)} {oc_law kv_law dc_law pm_law ct_law : Value}
    {t_ALIKE : Tok}
    {t_BEFORE : Tok}
    {t_BEHIND : Tok}
    {t_FIGURES : Tok}
    {t_MOST_FIGURES : Tok}
    {t_MOST_RUNS : Tok}
    {t_NONE : Tok}
    {t_RUNS : Tok}
    {t_SURE_BITS : Tok}
    {nm_Refused qn_Refused : Str} {ns_Refused : Addr} {bs_Refused : List Value} {sn_Refused : List Str} {sub_Refused : List Value} {ab_Refused : Bool} {co_Refused : Option Bool} {dd_Refused : Option Addr} {m0_Refused m1_Refused m2_Refused m3_Refused m5_Refused : Option Value} {io_Refused ik_Refused id_Refused ip_Refused it_Refused ccl_Refused ccv_Refused : Value} {iod_Refused ian_Refused cdd_Refused ccd_Refused : Option Addr} {isl_Refused ccs_Refused csl_Refused : Array (Option Value)} {cvs_Refused : Array Value} {fi_Refused : Str} {tf_Refused : Tok}
    {nm_TooGreat qn_TooGreat : Str} {ns_TooGreat : Addr} {bs_TooGreat : List Value} {sn_TooGreat : List Str} {sub_TooGreat : List Value} {ab_TooGreat : Bool} {co_TooGreat : Option Bool} {dd_TooGreat : Option Addr} {m0_TooGreat m1_TooGreat m2_TooGreat m3_TooGreat m5_TooGreat : Option Value} {io_TooGreat ik_TooGreat id_TooGreat ip_TooGreat it_TooGreat ccl_TooGreat ccv_TooGreat : Value} {iod_TooGreat ian_TooGreat cdd_TooGreat ccd_TooGreat : Option Addr} {isl_TooGreat ccs_TooGreat csl_TooGreat : Array (Option Value)} {cvs_TooGreat : Array Value} {fi_TooGreat : Str} {tf_TooGreat : Tok}
    (a_not_long : PySem.W.nsIn K mainGlobals "not_long" = some (some (.ref f_not_long)))
    (l_not_long : K.lookup f_not_long = some ⟨oc_not_long, od_not_long, .func (PySem.W.fnOf "not_long" "not_long" (defArgs s_not_long) (defBody s_not_long) (defScope s_not_long) .none kv_not_long dc_not_long pm_not_long an_not_long cv_not_long ct_not_long), sl_not_long⟩)
    (cc_not_long : PySem.W.codeIn K cv_not_long "not_long" = true)
    (kp_not_long : PySem.W.keepIn K (.ref f_not_long) = true)
    (a_word_told : PySem.W.nsIn K mainGlobals "word_told" = some (some (.ref f_word_told)))
    (l_word_told : K.lookup f_word_told = some ⟨oc_word_told, od_word_told, .func (PySem.W.fnOf "word_told" "word_told" (defArgs s_word_told) (defBody s_word_told) (defScope s_word_told) .none kv_word_told dc_word_told pm_word_told an_word_told cv_word_told ct_word_told), sl_word_told⟩)
    (cc_word_told : PySem.W.codeIn K cv_word_told "word_told" = true)
    (kp_word_told : PySem.W.keepIn K (.ref f_word_told) = true)
    (a_word_made : PySem.W.nsIn K mainGlobals "word_made" = some (some (.ref f_word_made)))
    (l_word_made : K.lookup f_word_made = some ⟨oc_word_made, od_word_made, .func (PySem.W.fnOf "word_made" "word_made" (defArgs s_word_made) (defBody s_word_made) (defScope s_word_made) .none kv_word_made dc_word_made pm_word_made an_word_made cv_word_made ct_word_made), sl_word_made⟩)
    (cc_word_made : PySem.W.codeIn K cv_word_made "word_made" = true)
    (kp_word_made : PySem.W.keepIn K (.ref f_word_made) = true)
    (a_word_long : PySem.W.nsIn K mainGlobals "word_long" = some (some (.ref f_word_long)))
    (l_word_long : K.lookup f_word_long = some ⟨oc_word_long, od_word_long, .func (PySem.W.fnOf "word_long" "word_long" (defArgs s_word_long) (defBody s_word_long) (defScope s_word_long) .none kv_word_long dc_word_long pm_word_long an_word_long cv_word_long ct_word_long), sl_word_long⟩)
    (cc_word_long : PySem.W.codeIn K cv_word_long "word_long" = true)
    (kp_word_long : PySem.W.keepIn K (.ref f_word_long) = true)
    (a_word_then : PySem.W.nsIn K mainGlobals "word_then" = some (some (.ref f_word_then)))
    (l_word_then : K.lookup f_word_then = some ⟨oc_word_then, od_word_then, .func (PySem.W.fnOf "word_then" "word_then" (defArgs s_word_then) (defBody s_word_then) (defScope s_word_then) .none kv_word_then dc_word_then pm_word_then an_word_then cv_word_then ct_word_then), sl_word_then⟩)
    (cc_word_then : PySem.W.codeIn K cv_word_then "word_then" = true)
    (kp_word_then : PySem.W.keepIn K (.ref f_word_then) = true)
    (a_times_runs : PySem.W.nsIn K mainGlobals "times_runs" = some (some (.ref f_times_runs)))
    (l_times_runs : K.lookup f_times_runs = some ⟨oc_times_runs, od_times_runs, .func (PySem.W.fnOf "times_runs" "times_runs" (defArgs s_times_runs) (defBody s_times_runs) (defScope s_times_runs) .none kv_times_runs dc_times_runs pm_times_runs an_times_runs cv_times_runs ct_times_runs), sl_times_runs⟩)
    (cc_times_runs : PySem.W.codeIn K cv_times_runs "times_runs" = true)
    (kp_times_runs : PySem.W.keepIn K (.ref f_times_runs) = true)
    (a_word_times : PySem.W.nsIn K mainGlobals "word_times" = some (some (.ref f_word_times)))
    (l_word_times : K.lookup f_word_times = some ⟨oc_word_times, od_word_times, .func (PySem.W.fnOf "word_times" "word_times" (defArgs s_word_times) (defBody s_word_times) (defScope s_word_times) .none kv_word_times dc_word_times pm_word_times an_word_times cv_word_times ct_word_times), sl_word_times⟩)
    (cc_word_times : PySem.W.codeIn K cv_word_times "word_times" = true)
    (kp_word_times : PySem.W.keepIn K (.ref f_word_times) = true)
    (a_endless_runs : PySem.W.nsIn K mainGlobals "endless_runs" = some (some (.ref f_endless_runs)))
    (l_endless_runs : K.lookup f_endless_runs = some ⟨oc_endless_runs, od_endless_runs, .func (PySem.W.fnOf "endless_runs" "endless_runs" (defArgs s_endless_runs) (defBody s_endless_runs) (defScope s_endless_runs) .none kv_endless_runs dc_endless_runs pm_endless_runs an_endless_runs cv_endless_runs ct_endless_runs), sl_endless_runs⟩)
    (cc_endless_runs : PySem.W.codeIn K cv_endless_runs "endless_runs" = true)
    (kp_endless_runs : PySem.W.keepIn K (.ref f_endless_runs) = true)
    (a_run_at : PySem.W.nsIn K mainGlobals "run_at" = some (some (.ref f_run_at)))
    (l_run_at : K.lookup f_run_at = some ⟨oc_run_at, od_run_at, .func (PySem.W.fnOf "run_at" "run_at" (defArgs s_run_at) (defBody s_run_at) (defScope s_run_at) .none kv_run_at dc_run_at pm_run_at an_run_at cv_run_at ct_run_at), sl_run_at⟩)
    (cc_run_at : PySem.W.codeIn K cv_run_at "run_at" = true)
    (kp_run_at : PySem.W.keepIn K (.ref f_run_at) = true)
    (a_parted_constant : PySem.W.nsIn K mainGlobals "parted_constant" = some (some (.ref f_parted_constant)))
    (l_parted_constant : K.lookup f_parted_constant = some ⟨oc_parted_constant, od_parted_constant, .func (PySem.W.fnOf "parted_constant" "parted_constant" (defArgs s_parted_constant) (defBody s_parted_constant) (defScope s_parted_constant) .none kv_parted_constant dc_parted_constant pm_parted_constant an_parted_constant cv_parted_constant ct_parted_constant), sl_parted_constant⟩)
    (cc_parted_constant : PySem.W.codeIn K cv_parted_constant "parted_constant" = true)
    (kp_parted_constant : PySem.W.keepIn K (.ref f_parted_constant) = true)
    (a_parted_by_one : PySem.W.nsIn K mainGlobals "parted_by_one" = some (some (.ref f_parted_by_one)))
    (l_parted_by_one : K.lookup f_parted_by_one = some ⟨oc_parted_by_one, od_parted_by_one, .func (PySem.W.fnOf "parted_by_one" "parted_by_one" (defArgs s_parted_by_one) (defBody s_parted_by_one) (defScope s_parted_by_one) .none kv_parted_by_one dc_parted_by_one pm_parted_by_one an_parted_by_one cv_parted_by_one ct_parted_by_one), sl_parted_by_one⟩)
    (cc_parted_by_one : PySem.W.codeIn K cv_parted_by_one "parted_by_one" = true)
    (kp_parted_by_one : PySem.W.keepIn K (.ref f_parted_by_one) = true)
    (a_endless_parted : PySem.W.nsIn K mainGlobals "endless_parted" = some (some (.ref f_endless_parted)))
    (l_endless_parted : K.lookup f_endless_parted = some ⟨oc_endless_parted, od_endless_parted, .func (PySem.W.fnOf "endless_parted" "endless_parted" (defArgs s_endless_parted) (defBody s_endless_parted) (defScope s_endless_parted) .none kv_endless_parted dc_endless_parted pm_endless_parted an_endless_parted cv_endless_parted ct_endless_parted), sl_endless_parted⟩)
    (cc_endless_parted : PySem.W.codeIn K cv_endless_parted "endless_parted" = true)
    (kp_endless_parted : PySem.W.keepIn K (.ref f_endless_parted) = true)
    (a_let_word : PySem.W.nsIn K mainGlobals "let_word" = some (some (.ref f_let_word)))
    (l_let_word : K.lookup f_let_word = some ⟨oc_let_word, od_let_word, .func (PySem.W.fnOf "let_word" "let_word" (defArgs s_let_word) (defBody s_let_word) (defScope s_let_word) .none kv_let_word dc_let_word pm_let_word an_let_word cv_let_word ct_let_word), sl_let_word⟩)
    (cc_let_word : PySem.W.codeIn K cv_let_word "let_word" = true)
    (kp_let_word : PySem.W.keepIn K (.ref f_let_word) = true)
    (a_order_told : PySem.W.nsIn K mainGlobals "order_told" = some (some (.ref f_order_told)))
    (l_order_told : K.lookup f_order_told = some ⟨oc_order_told, od_order_told, .func (PySem.W.fnOf "order_told" "order_told" (defArgs s_order_told) (defBody s_order_told) (defScope s_order_told) .none kv_order_told dc_order_told pm_order_told an_order_told cv_order_told ct_order_told), sl_order_told⟩)
    (cc_order_told : PySem.W.codeIn K cv_order_told "order_told" = true)
    (kp_order_told : PySem.W.keepIn K (.ref f_order_told) = true)
    (a_ring_runs : PySem.W.nsIn K mainGlobals "ring_runs" = some (some (.ref f_ring_runs)))
    (l_ring_runs : K.lookup f_ring_runs = some ⟨oc_ring_runs, od_ring_runs, .func (PySem.W.fnOf "ring_runs" "ring_runs" (defArgs s_ring_runs) (defBody s_ring_runs) (defScope s_ring_runs) .none kv_ring_runs dc_ring_runs pm_ring_runs an_ring_runs cv_ring_runs ct_ring_runs), sl_ring_runs⟩)
    (cc_ring_runs : PySem.W.codeIn K cv_ring_runs "ring_runs" = true)
    (kp_ring_runs : PySem.W.keepIn K (.ref f_ring_runs) = true)
    (a_runs_often : PySem.W.nsIn K mainGlobals "runs_often" = some (some (.ref f_runs_often)))
    (l_runs_often : K.lookup f_runs_often = some ⟨oc_runs_often, od_runs_often, .func (PySem.W.fnOf "runs_often" "runs_often" (defArgs s_runs_often) (defBody s_runs_often) (defScope s_runs_often) .none kv_runs_often dc_runs_often pm_runs_often an_runs_often cv_runs_often ct_runs_often), sl_runs_often⟩)
    (cc_runs_often : PySem.W.codeIn K cv_runs_often "runs_often" = true)
    (kp_runs_often : PySem.W.keepIn K (.ref f_runs_often) = true)
    (a_word_upto : PySem.W.nsIn K mainGlobals "word_upto" = some (some (.ref f_word_upto)))
    (l_word_upto : K.lookup f_word_upto = some ⟨oc_word_upto, od_word_upto, .func (PySem.W.fnOf "word_upto" "word_upto" (defArgs s_word_upto) (defBody s_word_upto) (defScope s_word_upto) .none kv_word_upto dc_word_upto pm_word_upto an_word_upto cv_word_upto ct_word_upto), sl_word_upto⟩)
    (cc_word_upto : PySem.W.codeIn K cv_word_upto "word_upto" = true)
    (kp_word_upto : PySem.W.keepIn K (.ref f_word_upto) = true)
    (a_word_from : PySem.W.nsIn K mainGlobals "word_from" = some (some (.ref f_word_from)))
    (l_word_from : K.lookup f_word_from = some ⟨oc_word_from, od_word_from, .func (PySem.W.fnOf "word_from" "word_from" (defArgs s_word_from) (defBody s_word_from) (defScope s_word_from) .none kv_word_from dc_word_from pm_word_from an_word_from cv_word_from ct_word_from), sl_word_from⟩)
    (cc_word_from : PySem.W.codeIn K cv_word_from "word_from" = true)
    (kp_word_from : PySem.W.keepIn K (.ref f_word_from) = true)
    (a_power_told : PySem.W.nsIn K mainGlobals "power_told" = some (some (.ref f_power_told)))
    (l_power_told : K.lookup f_power_told = some ⟨oc_power_told, od_power_told, .func (PySem.W.fnOf "power_told" "power_told" (defArgs s_power_told) (defBody s_power_told) (defScope s_power_told) .none kv_power_told dc_power_told pm_power_told an_power_told cv_power_told ct_power_told), sl_power_told⟩)
    (cc_power_told : PySem.W.codeIn K cv_power_told "power_told" = true)
    (kp_power_told : PySem.W.keepIn K (.ref f_power_told) = true)
    (a_word_turned : PySem.W.nsIn K mainGlobals "word_turned" = some (some (.ref f_word_turned)))
    (l_word_turned : K.lookup f_word_turned = some ⟨oc_word_turned, od_word_turned, .func (PySem.W.fnOf "word_turned" "word_turned" (defArgs s_word_turned) (defBody s_word_turned) (defScope s_word_turned) .none kv_word_turned dc_word_turned pm_word_turned an_word_turned cv_word_turned ct_word_turned), sl_word_turned⟩)
    (cc_word_turned : PySem.W.codeIn K cv_word_turned "word_turned" = true)
    (kp_word_turned : PySem.W.keepIn K (.ref f_word_turned) = true)
    (a_letter_at : PySem.W.nsIn K mainGlobals "letter_at" = some (some (.ref f_letter_at)))
    (l_letter_at : K.lookup f_letter_at = some ⟨oc_letter_at, od_letter_at, .func (PySem.W.fnOf "letter_at" "letter_at" (defArgs s_letter_at) (defBody s_letter_at) (defScope s_letter_at) .none kv_letter_at dc_letter_at pm_letter_at an_letter_at cv_letter_at ct_letter_at), sl_letter_at⟩)
    (cc_letter_at : PySem.W.codeIn K cv_letter_at "letter_at" = true)
    (kp_letter_at : PySem.W.keepIn K (.ref f_letter_at) = true)
    (a_endless_cut : PySem.W.nsIn K mainGlobals "endless_cut" = some (some (.ref f_endless_cut)))
    (l_endless_cut : K.lookup f_endless_cut = some ⟨oc_endless_cut, od_endless_cut, .func (PySem.W.fnOf "endless_cut" "endless_cut" (defArgs s_endless_cut) (defBody s_endless_cut) (defScope s_endless_cut) .none kv_endless_cut dc_endless_cut pm_endless_cut an_endless_cut cv_endless_cut ct_endless_cut), sl_endless_cut⟩)
    (cc_endless_cut : PySem.W.codeIn K cv_endless_cut "endless_cut" = true)
    (kp_endless_cut : PySem.W.keepIn K (.ref f_endless_cut) = true)
    (a_law_source : PySem.W.nsIn K mainGlobals "_law_source" = some (some (.ref f_law_source)))
    (l_law_source : K.lookup f_law_source = some ⟨oc_law_source, od_law_source, .func (PySem.W.fnOf "_law_source" "_law_source" (defArgs s_law_source) (defBody s_law_source) (defScope s_law_source) .none kv_law_source dc_law_source pm_law_source an_law_source cv_law_source ct_law_source), sl_law_source⟩)
    (cc_law_source : PySem.W.codeIn K cv_law_source "_law_source" = true)
    (kp_law_source : PySem.W.keepIn K (.ref f_law_source) = true)
    (a_law_pick : PySem.W.nsIn K mainGlobals "_law_pick" = some (some (.ref f_law_pick)))
    (l_law_pick : K.lookup f_law_pick = some ⟨oc_law_pick, od_law_pick, .func (PySem.W.fnOf "_law_pick" "_law_pick" (defArgs s_law_pick) (defBody s_law_pick) (defScope s_law_pick) .none kv_law_pick dc_law_pick pm_law_pick an_law_pick cv_law_pick ct_law_pick), sl_law_pick⟩)
    (cc_law_pick : PySem.W.codeIn K cv_law_pick "_law_pick" = true)
    (kp_law_pick : PySem.W.keepIn K (.ref f_law_pick) = true)
    (a_law_of : PySem.W.nsIn K mainGlobals "_law_of" = some (some (.ref f_law_of)))
    (l_law_of : K.lookup f_law_of = some ⟨oc_law_of, od_law_of, .func (PySem.W.fnOf "_law_of" "_law_of" (defArgs s_law_of) (defBody s_law_of) (defScope s_law_of) .none kv_law_of dc_law_of pm_law_of an_law_of cv_law_of ct_law_of), sl_law_of⟩)
    (cc_law_of : PySem.W.codeIn K cv_law_of "_law_of" = true)
    (kp_law_of : PySem.W.keepIn K (.ref f_law_of) = true)
    (a_law_runs : PySem.W.nsIn K mainGlobals "_law_runs" = some (some (.ref f_law_runs)))
    (l_law_runs : K.lookup f_law_runs = some ⟨oc_law_runs, od_law_runs, .func (PySem.W.fnOf "_law_runs" "_law_runs" (defArgs s_law_runs) (defBody s_law_runs) (defScope s_law_runs) .none kv_law_runs dc_law_runs pm_law_runs an_law_runs cv_law_runs ct_law_runs), sl_law_runs⟩)
    (cc_law_runs : PySem.W.codeIn K cv_law_runs "_law_runs" = true)
    (kp_law_runs : PySem.W.keepIn K (.ref f_law_runs) = true)
    (a_law_word : PySem.W.nsIn K mainGlobals "_law_word" = some (some (.ref f_law_word)))
    (l_law_word : K.lookup f_law_word = some ⟨oc_law_word, od_law_word, .func (PySem.W.fnOf "_law_word" "_law_word" (defArgs s_law_word) (defBody s_law_word) (defScope s_law_word) .none kv_law_word dc_law_word pm_law_word an_law_word cv_law_word ct_law_word), sl_law_word⟩)
    (cc_law_word : PySem.W.codeIn K cv_law_word "_law_word" = true)
    (kp_law_word : PySem.W.keepIn K (.ref f_law_word) = true)
    (a_law_other : PySem.W.nsIn K mainGlobals "_law_other" = some (some (.ref f_law_other)))
    (l_law_other : K.lookup f_law_other = some ⟨oc_law_other, od_law_other, .func (PySem.W.fnOf "_law_other" "_law_other" (defArgs s_law_other) (defBody s_law_other) (defScope s_law_other) .none kv_law_other dc_law_other pm_law_other an_law_other cv_law_other ct_law_other), sl_law_other⟩)
    (cc_law_other : PySem.W.codeIn K cv_law_other "_law_other" = true)
    (kp_law_other : PySem.W.keepIn K (.ref f_law_other) = true)
    (a_law_parted : PySem.W.nsIn K mainGlobals "_law_parted" = some (some (.ref f_law_parted)))
    (l_law_parted : K.lookup f_law_parted = some ⟨oc_law_parted, od_law_parted, .func (PySem.W.fnOf "_law_parted" "_law_parted" (defArgs s_law_parted) (defBody s_law_parted) (defScope s_law_parted) .none kv_law_parted dc_law_parted pm_law_parted an_law_parted cv_law_parted ct_law_parted), sl_law_parted⟩)
    (cc_law_parted : PySem.W.codeIn K cv_law_parted "_law_parted" = true)
    (kp_law_parted : PySem.W.keepIn K (.ref f_law_parted) = true)
    (a_law_root : PySem.W.nsIn K mainGlobals "_law_root" = some (some (.ref f_law_root)))
    (l_law_root : K.lookup f_law_root = some ⟨oc_law_root, od_law_root, .func (PySem.W.fnOf "_law_root" "_law_root" (defArgs s_law_root) (defBody s_law_root) (defScope s_law_root) .none kv_law_root dc_law_root pm_law_root an_law_root cv_law_root ct_law_root), sl_law_root⟩)
    (cc_law_root : PySem.W.codeIn K cv_law_root "_law_root" = true)
    (kp_law_root : PySem.W.keepIn K (.ref f_law_root) = true)
    (a_law_far : PySem.W.nsIn K mainGlobals "_law_far" = some (some (.ref f_law_far)))
    (l_law_far : K.lookup f_law_far = some ⟨oc_law_far, od_law_far, .func (PySem.W.fnOf "_law_far" "_law_far" (defArgs s_law_far) (defBody s_law_far) (defScope s_law_far) .none kv_law_far dc_law_far pm_law_far an_law_far cv_law_far ct_law_far), sl_law_far⟩)
    (cc_law_far : PySem.W.codeIn K cv_law_far "_law_far" = true)
    (kp_law_far : PySem.W.keepIn K (.ref f_law_far) = true)
    (a_law_refused : PySem.W.nsIn K mainGlobals "_law_refused" = some (some (.ref f_law_refused)))
    (l_law_refused : K.lookup f_law_refused = some ⟨oc_law_refused, od_law_refused, .func (PySem.W.fnOf "_law_refused" "_law_refused" (defArgs s_law_refused) (defBody s_law_refused) (defScope s_law_refused) .none kv_law_refused dc_law_refused pm_law_refused an_law_refused cv_law_refused ct_law_refused), sl_law_refused⟩)
    (cc_law_refused : PySem.W.codeIn K cv_law_refused "_law_refused" = true)
    (kp_law_refused : PySem.W.keepIn K (.ref f_law_refused) = true)
    (a_law : PySem.W.nsIn K mainGlobals "law" = some (some (.ref f_law)))
    (l_law : K.lookup f_law = some ⟨oc_law, od_law, .func (PySem.W.fnOf "law" "law" (defArgs s_law) (defBody s_law) (defScope s_law) .none kv_law dc_law pm_law an_law (.ref cd_law) ct_law), sl_law⟩)
    (cc_law : PySem.W.codeIn K (.ref cd_law) "law" = true)
    (kp_law : PySem.W.keepIn K (.ref f_law) = true)
    (z_abs : PySem.W.nsIn K mainGlobals "abs" = some none)
    (z_all : PySem.W.nsIn K mainGlobals "all" = some none)
    (z_any : PySem.W.nsIn K mainGlobals "any" = some none)
    (z_dict : PySem.W.nsIn K mainGlobals "dict" = some none)
    (z_enumerate : PySem.W.nsIn K mainGlobals "enumerate" = some none)
    (z_int : PySem.W.nsIn K mainGlobals "int" = some none)
    (z_isinstance : PySem.W.nsIn K mainGlobals "isinstance" = some none)
    (z_len : PySem.W.nsIn K mainGlobals "len" = some none)
    (z_list : PySem.W.nsIn K mainGlobals "list" = some none)
    (z_max : PySem.W.nsIn K mainGlobals "max" = some none)
    (z_min : PySem.W.nsIn K mainGlobals "min" = some none)
    (z_range : PySem.W.nsIn K mainGlobals "range" = some none)
    (z_repr : PySem.W.nsIn K mainGlobals "repr" = some none)
    (z_sorted : PySem.W.nsIn K mainGlobals "sorted" = some none)
    (z_str : PySem.W.nsIn K mainGlobals "str" = some none)
    (z_sum : PySem.W.nsIn K mainGlobals "sum" = some none)
    (z_super : PySem.W.nsIn K mainGlobals "super" = some none)
    (z_tuple : PySem.W.nsIn K mainGlobals "tuple" = some none)
    (z_zip : PySem.W.nsIn K mainGlobals "zip" = some none)
    (v_ALIKE : PySem.W.nsIn K mainGlobals "ALIKE" = some (some (.str "alike" t_ALIKE)))
    (v_BEFORE : PySem.W.nsIn K mainGlobals "BEFORE" = some (some (.str "before" t_BEFORE)))
    (v_BEHIND : PySem.W.nsIn K mainGlobals "BEHIND" = some (some (.str "behind" t_BEHIND)))
    (v_FIGURES : PySem.W.nsIn K mainGlobals "FIGURES" = some (some (.int 0 t_FIGURES)))
    (v_MOST_FIGURES : PySem.W.nsIn K mainGlobals "MOST_FIGURES" = some (some (.int 300 t_MOST_FIGURES)))
    (v_MOST_RUNS : PySem.W.nsIn K mainGlobals "MOST_RUNS" = some (some (.int 400 t_MOST_RUNS)))
    (v_NONE : PySem.W.nsIn K mainGlobals "NONE" = some (some (.str "none" t_NONE)))
    (v_RUNS : PySem.W.nsIn K mainGlobals "RUNS" = some (some (.int 1 t_RUNS)))
    (v_SURE_BITS : PySem.W.nsIn K mainGlobals "SURE_BITS" = some (some (.int 997 t_SURE_BITS)))
    (aX_Refused : PySem.W.nsIn K mainGlobals "Refused" = some (some (.ref c_Refused)))
    (x1_Refused : K.lookup c_Refused = some (PySem.excClassObj nm_Refused qn_Refused c_Refused ns_Refused bs_Refused [.ref ce_Refused, .type "ValueError", .type "Exception", .type "BaseException", .type "object"] true sn_Refused sub_Refused ab_Refused co_Refused dd_Refused m0_Refused m1_Refused m2_Refused m3_Refused m5_Refused "ValueError.__new__"))
    (x2_Refused : PySem.W.findIn K (.ref c_Refused) "__setattr__" = some (some (.builtin "object.__setattr__")))
    (n_Refused_word : PySem.W.findIn K (.ref c_Refused) "word" = some none)
    (n_Refused_place : PySem.W.findIn K (.ref c_Refused) "place" = some none)
    (x3_Refused : PySem.W.findIn K (.ref c_Refused) "__init__" = some (some (.ref i_Refused)))
    (x4_Refused : PySem.W.typeIn K (.ref i_Refused) = some (.type "function"))
    (x5_Refused : PySem.W.keepIn K (.ref c_Refused) = true)
    (x6_Refused : PySem.W.subIn K (.ref c_Refused) (.type "BaseException") = some true)
    (x7_Refused : PySem.W.subIn K (.ref c_Refused) (.type "ValueError") = some true)
    (x8_Refused : PySem.W.typeIn K (.ref c_Refused) = some (.type "type"))
    (x9_Refused : PySem.W.ks_superIn K c_Refused c_Refused "__init__" = some (some (.builtin "ValueError.__init__")))
    (xa_Refused : PySem.W.nsIn K PySem.cStatics "thirdparty.any" = some none)
    (xb_Refused : (P.main.scope.names.lookup ("super" : Str)).isSome = false)
    (xc_Refused : K.lookup i_Refused = some ⟨io_Refused, iod_Refused, .func (PySem.W.ksFn "__init__" "Refused.__init__" (defArgs sI_Refused) (defBody sI_Refused) (defScope sI_Refused) .none ik_Refused id_Refused ip_Refused ian_Refused (.ref cd_Refused) it_Refused cl_Refused), isl_Refused⟩)
    (xd_Refused : PySem.W.codeIn K (.ref cd_Refused) "Refused.__init__" = true)
    (xe_Refused : K.lookup cd_Refused = some ⟨ccl_Refused, cdd_Refused, .fields cvs_Refused, ccs_Refused⟩)
    (xf_Refused : cvs_Refused[2]? = some (.str fi_Refused tf_Refused))
    (xg_Refused : ((P.main.file : Str) == fi_Refused) = true)
    (xh_Refused : K.lookup cl_Refused = some ⟨ccv_Refused, ccd_Refused, .cell (some (.ref c_Refused)), csl_Refused⟩)
    (xi_Refused : PySem.W.findIn K (.ref c_Refused) "__getattribute__" = some (some (.builtin "BaseException.__getattribute__")))
    (xj_Refused : PySem.W.findIn K (.ref c_Refused) "__getattr__" = some none)
    (xk_Refused : PySem.W.hasDictIn K c_Refused = true)
    (xl_Refused : PySem.W.isClsIn K c_Refused = true)
    (xm_Refused : PySem.W.subIn K (.ref c_Refused) (.ref c_Refused) = some true)
    (aX_TooGreat : PySem.W.nsIn K mainGlobals "TooGreat" = some (some (.ref c_TooGreat)))
    (x1_TooGreat : K.lookup c_TooGreat = some (PySem.excClassObj nm_TooGreat qn_TooGreat c_TooGreat ns_TooGreat bs_TooGreat [.ref ce_TooGreat, .type "ValueError", .type "Exception", .type "BaseException", .type "object"] true sn_TooGreat sub_TooGreat ab_TooGreat co_TooGreat dd_TooGreat m0_TooGreat m1_TooGreat m2_TooGreat m3_TooGreat m5_TooGreat "ValueError.__new__"))
    (x2_TooGreat : PySem.W.findIn K (.ref c_TooGreat) "__setattr__" = some (some (.builtin "object.__setattr__")))
    (n_TooGreat_number : PySem.W.findIn K (.ref c_TooGreat) "number" = some none)
    (x3_TooGreat : PySem.W.findIn K (.ref c_TooGreat) "__init__" = some (some (.ref i_TooGreat)))
    (x4_TooGreat : PySem.W.typeIn K (.ref i_TooGreat) = some (.type "function"))
    (x5_TooGreat : PySem.W.keepIn K (.ref c_TooGreat) = true)
    (x6_TooGreat : PySem.W.subIn K (.ref c_TooGreat) (.type "BaseException") = some true)
    (x7_TooGreat : PySem.W.subIn K (.ref c_TooGreat) (.type "ValueError") = some true)
    (x8_TooGreat : PySem.W.typeIn K (.ref c_TooGreat) = some (.type "type"))
    (x9_TooGreat : PySem.W.ks_superIn K c_TooGreat c_TooGreat "__init__" = some (some (.builtin "ValueError.__init__")))
    (xa_TooGreat : PySem.W.nsIn K PySem.cStatics "thirdparty.any" = some none)
    (xb_TooGreat : (P.main.scope.names.lookup ("super" : Str)).isSome = false)
    (xc_TooGreat : K.lookup i_TooGreat = some ⟨io_TooGreat, iod_TooGreat, .func (PySem.W.ksFn "__init__" "TooGreat.__init__" (defArgs sI_TooGreat) (defBody sI_TooGreat) (defScope sI_TooGreat) .none ik_TooGreat id_TooGreat ip_TooGreat ian_TooGreat (.ref cd_TooGreat) it_TooGreat cl_TooGreat), isl_TooGreat⟩)
    (xd_TooGreat : PySem.W.codeIn K (.ref cd_TooGreat) "TooGreat.__init__" = true)
    (xe_TooGreat : K.lookup cd_TooGreat = some ⟨ccl_TooGreat, cdd_TooGreat, .fields cvs_TooGreat, ccs_TooGreat⟩)
    (xf_TooGreat : cvs_TooGreat[2]? = some (.str fi_TooGreat tf_TooGreat))
    (xg_TooGreat : ((P.main.file : Str) == fi_TooGreat) = true)
    (xh_TooGreat : K.lookup cl_TooGreat = some ⟨ccv_TooGreat, ccd_TooGreat, .cell (some (.ref c_TooGreat)), csl_TooGreat⟩)
    (xi_TooGreat : PySem.W.findIn K (.ref c_TooGreat) "__getattribute__" = some (some (.builtin "BaseException.__getattribute__")))
    (xj_TooGreat : PySem.W.findIn K (.ref c_TooGreat) "__getattr__" = some none)
    (xk_TooGreat : PySem.W.hasDictIn K c_TooGreat = true)
    (xl_TooGreat : PySem.W.isClsIn K c_TooGreat = true)
    (xm_TooGreat : PySem.W.subIn K (.ref c_TooGreat) (.ref c_TooGreat) = some true)
    : ∃ fd : FuncData, (∀ (s : Shared) (u : Value), BindsTo s fd ⟨[u], []⟩ [("script", u)]) ∧ ∀ base : Heap, K.In base → base.Ns mainGlobals mg → LamX.TabB base mg cd_law tt_law → FnG P w K mg base 7 fa fd ["script"] (spLawT K tt_law lawN) := by
  have efa := hfa.symm.trans (PySem.W.mg_of X G a_law)
  cases efa
  have B : Blt mg := ⟨PySem.W.mg_none_of X G z_abs, PySem.W.mg_none_of X G z_all, PySem.W.mg_none_of X G z_any, PySem.W.mg_none_of X G z_dict, PySem.W.mg_none_of X G z_enumerate, PySem.W.mg_none_of X G z_int, PySem.W.mg_none_of X G z_isinstance, PySem.W.mg_none_of X G z_len, PySem.W.mg_none_of X G z_list, PySem.W.mg_none_of X G z_max, PySem.W.mg_none_of X G z_min, PySem.W.mg_none_of X G z_range, PySem.W.mg_none_of X G z_repr, PySem.W.mg_none_of X G z_sorted, PySem.W.mg_none_of X G z_str, PySem.W.mg_none_of X G z_sum, PySem.W.mg_none_of X G z_super, PySem.W.mg_none_of X G z_tuple, PySem.W.mg_none_of X G z_zip⟩
  have cn_ALIKE : ∃ u, mg "ALIKE" = some u ∧ RelV (vOf (.str "alike")) u := ⟨_, PySem.W.mg_of X G v_ALIKE, _, rfl⟩
  have cn_BEFORE : ∃ u, mg "BEFORE" = some u ∧ RelV (vOf (.str "before")) u := ⟨_, PySem.W.mg_of X G v_BEFORE, _, rfl⟩
  have cn_BEHIND : ∃ u, mg "BEHIND" = some u ∧ RelV (vOf (.str "behind")) u := ⟨_, PySem.W.mg_of X G v_BEHIND, _, rfl⟩
  have cn_FIGURES : ∃ u, mg "FIGURES" = some u ∧ RelV (vOf (.int 0)) u := ⟨_, PySem.W.mg_of X G v_FIGURES, _, rfl⟩
  have cn_MOST_FIGURES : ∃ u, mg "MOST_FIGURES" = some u ∧ RelV (vOf (.int 300)) u := ⟨_, PySem.W.mg_of X G v_MOST_FIGURES, _, rfl⟩
  have cn_MOST_RUNS : ∃ u, mg "MOST_RUNS" = some u ∧ RelV (vOf (.int 400)) u := ⟨_, PySem.W.mg_of X G v_MOST_RUNS, _, rfl⟩
  have cn_NONE : ∃ u, mg "NONE" = some u ∧ RelV (vOf (.str "none")) u := ⟨_, PySem.W.mg_of X G v_NONE, _, rfl⟩
  have cn_RUNS : ∃ u, mg "RUNS" = some u ∧ RelV (vOf (.int 1)) u := ⟨_, PySem.W.mg_of X G v_RUNS, _, rfl⟩
  have cn_SURE_BITS : ∃ u, mg "SURE_BITS" = some u ∧ RelV (vOf (.int 997)) u := ⟨_, PySem.W.mg_of X G v_SURE_BITS, _, rfl⟩
  have mg_Refused := PySem.W.mg_of X G aX_Refused
  have xn_Refused : ∀ f : Str, f ∈ ([("word" : Str), ("place" : Str)] : List Str) → PySem.W.findIn K (.ref c_Refused) f = some none := fun f hf => by
    simp only [List.mem_cons, List.not_mem_nil, or_false] at hf
    rcases hf with rfl | rfl
    all_goals first | exact n_Refused_word | exact n_Refused_place
  have er_Refused : ErC P K mg c_Refused i_Refused "Refused.__init__" [("word" : Str), ("place" : Str)] := {
    cls := ⟨_, _, _, _, _, _, _, _, _, _, _, _, _, _, _, x1_Refused, rfl⟩, sa := x2_Refused, no := xn_Refused, iC := x3_Refused, tC := x4_Refused, kC := x5_Refused, exC := x6_Refused, veC := x7_Refused, tyC := x8_Refused, sup := x9_Refused, opq := xa_Refused, mgS := B.super, top := xb_Refused,
    fn := ⟨_, _, sI_Refused, _, _, _, _, _, _, _, _, _, _, _, _, _, _, _, _, _, _, _, _, _, _, _, _, xc_Refused, xd_Refused, xe_Refused, xf_Refused, xg_Refused, xh_Refused, rfl, (.cons (.cons .nil)), (.cons (.cons .nil)), fun env => ⟨_, rfl⟩, fun env => rfl, ⟨_, rfl, rfl⟩, ⟨_, _, rfl⟩, rfl, fun f hf => by
      simp only [List.mem_cons, List.not_mem_nil, or_false] at hf
      rcases hf with rfl | rfl <;> exact ⟨rfl, by decide, by decide⟩, rfl, rfl, by decide +kernel, fun x us hl => match us, hl with | [_, _], _ => rfl⟩,
    ne := by decide, nd := by decide, few := by decide }
  have xfc_Refused : XfC K c_Refused := ⟨xi_Refused, xj_Refused, x6_Refused, xk_Refused⟩
  have ex_Refused := exm_own x6_Refused xl_Refused x8_Refused xm_Refused
  have mg_TooGreat := PySem.W.mg_of X G aX_TooGreat
  have xn_TooGreat : ∀ f : Str, f ∈ ([("number" : Str)] : List Str) → PySem.W.findIn K (.ref c_TooGreat) f = some none := fun f hf => by
    simp only [List.mem_cons, List.not_mem_nil, or_false] at hf
    subst hf
    exact n_TooGreat_number
  have er_TooGreat : ErC P K mg c_TooGreat i_TooGreat "TooGreat.__init__" [("number" : Str)] := {
    cls := ⟨_, _, _, _, _, _, _, _, _, _, _, _, _, _, _, x1_TooGreat, rfl⟩, sa := x2_TooGreat, no := xn_TooGreat, iC := x3_TooGreat, tC := x4_TooGreat, kC := x5_TooGreat, exC := x6_TooGreat, veC := x7_TooGreat, tyC := x8_TooGreat, sup := x9_TooGreat, opq := xa_TooGreat, mgS := B.super, top := xb_TooGreat,
    fn := ⟨_, _, sI_TooGreat, _, _, _, _, _, _, _, _, _, _, _, _, _, _, _, _, _, _, _, _, _, _, _, _, xc_TooGreat, xd_TooGreat, xe_TooGreat, xf_TooGreat, xg_TooGreat, xh_TooGreat, rfl, (.cons .nil), (.cons .nil), fun env => ⟨_, rfl⟩, fun env => rfl, ⟨_, rfl, rfl⟩, ⟨_, _, rfl⟩, rfl, fun f hf => by
      simp only [List.mem_cons, List.not_mem_nil, or_false] at hf
      subst hf
      exact ⟨rfl, by decide, by decide⟩, rfl, rfl, by decide +kernel, fun x us hl => match us, hl with | [_], _ => rfl⟩,
    ne := by decide, nd := by decide, few := by decide }
  have xfc_TooGreat : XfC K c_TooGreat := ⟨xi_TooGreat, xj_TooGreat, x6_TooGreat, xk_TooGreat⟩
  have ex_TooGreat := exm_own x6_TooGreat xl_TooGreat x8_TooGreat xm_TooGreat
  have F_not_long := fun_mk (st := s_not_long) l_not_long cc_not_long kp_not_long
  have m_not_long := PySem.W.mg_of X G a_not_long
  have F_word_told := fun_mk (st := s_word_told) l_word_told cc_word_told kp_word_told
  have m_word_told := PySem.W.mg_of X G a_word_told
  have F_word_made := fun_mk (st := s_word_made) l_word_made cc_word_made kp_word_made
  have m_word_made := PySem.W.mg_of X G a_word_made
  have F_word_long := fun_mk (st := s_word_long) l_word_long cc_word_long kp_word_long
  have m_word_long := PySem.W.mg_of X G a_word_long
  have F_word_then := fun_mk (st := s_word_then) l_word_then cc_word_then kp_word_then
  have m_word_then := PySem.W.mg_of X G a_word_then
  have F_times_runs := fun_mk (st := s_times_runs) l_times_runs cc_times_runs kp_times_runs
  have m_times_runs := PySem.W.mg_of X G a_times_runs
  have F_word_times := fun_mk (st := s_word_times) l_word_times cc_word_times kp_word_times
  have m_word_times := PySem.W.mg_of X G a_word_times
  have F_endless_runs := fun_mk (st := s_endless_runs) l_endless_runs cc_endless_runs kp_endless_runs
  have m_endless_runs := PySem.W.mg_of X G a_endless_runs
  have F_run_at := fun_mk (st := s_run_at) l_run_at cc_run_at kp_run_at
  have m_run_at := PySem.W.mg_of X G a_run_at
  have F_parted_constant := fun_mk (st := s_parted_constant) l_parted_constant cc_parted_constant kp_parted_constant
  have m_parted_constant := PySem.W.mg_of X G a_parted_constant
  have F_parted_by_one := fun_mk (st := s_parted_by_one) l_parted_by_one cc_parted_by_one kp_parted_by_one
  have m_parted_by_one := PySem.W.mg_of X G a_parted_by_one
  have F_endless_parted := fun_mk (st := s_endless_parted) l_endless_parted cc_endless_parted kp_endless_parted
  have m_endless_parted := PySem.W.mg_of X G a_endless_parted
  have F_let_word := fun_mk (st := s_let_word) l_let_word cc_let_word kp_let_word
  have m_let_word := PySem.W.mg_of X G a_let_word
  have F_order_told := fun_mk (st := s_order_told) l_order_told cc_order_told kp_order_told
  have m_order_told := PySem.W.mg_of X G a_order_told
  have F_ring_runs := fun_mk (st := s_ring_runs) l_ring_runs cc_ring_runs kp_ring_runs
  have m_ring_runs := PySem.W.mg_of X G a_ring_runs
  have F_runs_often := fun_mk (st := s_runs_often) l_runs_often cc_runs_often kp_runs_often
  have m_runs_often := PySem.W.mg_of X G a_runs_often
  have F_word_upto := fun_mk (st := s_word_upto) l_word_upto cc_word_upto kp_word_upto
  have m_word_upto := PySem.W.mg_of X G a_word_upto
  have F_word_from := fun_mk (st := s_word_from) l_word_from cc_word_from kp_word_from
  have m_word_from := PySem.W.mg_of X G a_word_from
  have F_power_told := fun_mk (st := s_power_told) l_power_told cc_power_told kp_power_told
  have m_power_told := PySem.W.mg_of X G a_power_told
  have F_word_turned := fun_mk (st := s_word_turned) l_word_turned cc_word_turned kp_word_turned
  have m_word_turned := PySem.W.mg_of X G a_word_turned
  have F_letter_at := fun_mk (st := s_letter_at) l_letter_at cc_letter_at kp_letter_at
  have m_letter_at := PySem.W.mg_of X G a_letter_at
  have F_endless_cut := fun_mk (st := s_endless_cut) l_endless_cut cc_endless_cut kp_endless_cut
  have m_endless_cut := PySem.W.mg_of X G a_endless_cut
  have F_law_source := fun_mk (st := s_law_source) l_law_source cc_law_source kp_law_source
  have m_law_source := PySem.W.mg_of X G a_law_source
  have F_law_pick := fun_mk (st := s_law_pick) l_law_pick cc_law_pick kp_law_pick
  have m_law_pick := PySem.W.mg_of X G a_law_pick
  have F_law_of := fun_mk (st := s_law_of) l_law_of cc_law_of kp_law_of
  have m_law_of := PySem.W.mg_of X G a_law_of
  have F_law_runs := fun_mk (st := s_law_runs) l_law_runs cc_law_runs kp_law_runs
  have m_law_runs := PySem.W.mg_of X G a_law_runs
  have F_law_word := fun_mk (st := s_law_word) l_law_word cc_law_word kp_law_word
  have m_law_word := PySem.W.mg_of X G a_law_word
  have F_law_other := fun_mk (st := s_law_other) l_law_other cc_law_other kp_law_other
  have m_law_other := PySem.W.mg_of X G a_law_other
  have F_law_parted := fun_mk (st := s_law_parted) l_law_parted cc_law_parted kp_law_parted
  have m_law_parted := PySem.W.mg_of X G a_law_parted
  have F_law_root := fun_mk (st := s_law_root) l_law_root cc_law_root kp_law_root
  have m_law_root := PySem.W.mg_of X G a_law_root
  have F_law_far := fun_mk (st := s_law_far) l_law_far cc_law_far kp_law_far
  have m_law_far := PySem.W.mg_of X G a_law_far
  have F_law_refused := fun_mk (st := s_law_refused) l_law_refused cc_law_refused kp_law_refused
  have m_law_refused := PySem.W.mg_of X G a_law_refused
  have F_law := fun_mk (st := s_law) l_law cc_law kp_law
  refine ⟨PySem.W.fnOf "law" "law" (defArgs s_law) (defBody s_law) (defScope s_law) .none kv_law dc_law pm_law an_law (.ref cd_law) ct_law, fun s u => .of_eq rfl, fun base _ _ TB => ?_⟩
  have G_not_long := g_not_long (P := P) (w := w) (base := base) F_not_long m_not_long B cn_FIGURES cn_MOST_FIGURES cn_SURE_BITS er_TooGreat mg_TooGreat
  have G_word_told := g_word_told (P := P) (w := w) (base := base) F_word_told m_word_told B 
  have G_word_made := g_word_made (P := P) (w := w) (base := base) F_word_made m_word_made B cn_MOST_RUNS cn_RUNS er_TooGreat mg_TooGreat G_not_long
  have G_word_long := g_word_long (P := P) (w := w) (base := base) F_word_long m_word_long B 
  have G_word_then := g_word_then (P := P) (w := w) (base := base) F_word_then m_word_then B G_word_made G_word_told
  have G_times_runs := g_times_runs (P := P) (w := w) (base := base) F_times_runs m_times_runs B 
  have G_word_times := g_word_times (P := P) (w := w) (base := base) F_word_times m_word_times B cn_MOST_RUNS cn_RUNS er_TooGreat mg_TooGreat G_word_made G_times_runs G_word_told
  have G_endless_runs := g_endless_runs (P := P) (w := w) (base := base) F_endless_runs m_endless_runs B 
  have G_run_at := g_run_at (P := P) (w := w) (base := base) F_run_at m_run_at B 
  have G_parted_constant := g_parted_constant (P := P) (w := w) (base := base) F_parted_constant m_parted_constant B 
  have G_parted_by_one := g_parted_by_one (P := P) (w := w) (base := base) F_parted_by_one m_parted_by_one B G_parted_constant
  have G_endless_parted := g_endless_parted (P := P) (w := w) (base := base) F_endless_parted m_endless_parted B G_parted_by_one G_endless_runs G_run_at
  have G_let_word := g_let_word (P := P) (w := w) (base := base) F_let_word m_let_word B cn_NONE er_Refused mg_Refused
  have G_order_told := g_order_told (P := P) (w := w) (base := base) F_order_told m_order_told B cn_ALIKE cn_BEFORE cn_BEHIND G_let_word G_endless_parted G_not_long
  have G_ring_runs := g_ring_runs (P := P) (w := w) (base := base) F_ring_runs m_ring_runs B 
  have G_runs_often := g_runs_often (P := P) (w := w) (base := base) F_runs_often m_runs_often B 
  have G_word_upto := g_word_upto (P := P) (w := w) (base := base) F_word_upto m_word_upto B G_word_told
  have G_word_from := g_word_from (P := P) (w := w) (base := base) F_word_from m_word_from B G_word_told
  have G_power_told := g_power_told (P := P) (w := w) (base := base) F_power_told m_power_told B G_let_word G_ring_runs G_runs_often G_word_upto G_word_long
  have G_word_turned := g_word_turned (P := P) (w := w) (base := base) F_word_turned m_word_turned B G_word_told G_word_from G_word_upto
  have G_letter_at := g_letter_at (P := P) (w := w) (base := base) F_letter_at m_letter_at B G_word_from G_word_long
  have G_endless_cut := g_endless_cut (P := P) (w := w) (base := base) F_endless_cut m_endless_cut B G_word_long G_word_turned G_word_then G_word_times G_word_upto
  have G_law_source := g_law_source (P := P) (w := w) (base := base) F_law_source m_law_source B 
  have G_law_pick := g_law_pick (P := P) (w := w) (base := base) F_law_pick m_law_pick B 
  have G_law_of := g_law_of (P := P) (w := w) (base := base) F_law_of m_law_of B G_law_pick
  have G_law_runs := g_law_runs (P := P) (w := w) (base := base) F_law_runs m_law_runs B 
  have G_law_word := g_law_word (P := P) (w := w) (base := base) F_law_word m_law_word B G_law_of G_law_pick
  have G_law_other := g_law_other (P := P) (w := w) (base := base) F_law_other m_law_other B G_law_pick G_law_of G_law_word
  have G_law_parted := g_law_parted (P := P) (w := w) (base := base) F_law_parted m_law_parted B 
  have G_law_root := g_law_root (P := P) (w := w) (base := base) F_law_root m_law_root B 
  have G_law_far := g_law_far (P := P) (w := w) (base := base) F_law_far m_law_far B 
  exact law_ofT (g := 18) F_law (fun _ _ _ _ _ _ e => by cases e; rfl) sc_law rfl G_law_source (by decide) law_source_ok rfl (by first | exact Or.inl rfl | exact Or.inr rfl) (by first | exact Or.inl rfl | exact Or.inr (Or.inl rfl)) rfl (fun z => by rcases z with z | z | z <;> exact absurd z (by decide +kernel)) (fun A outer s H E Z hz hTb hZ0 hZO hr hgd => d_law B er_Refused mg_Refused F_law_refused m_law_refused xfc_Refused xn_Refused ex_Refused G_law_word G_law_other G_law_runs G_law_of G_word_told G_word_long G_law_root G_power_told G_law_pick G_letter_at G_endless_cut G_word_turned G_law_parted G_endless_parted G_order_told G_law_far TB A outer s H E Z hz hTb hZ0 hZO hr hgd) (fun sr hsr => Law.law_ok c_Refused c_TooGreat sr hsr) (fun _ => rfl)
end Law
end Pw
open PySem PySem.W PyProof.Rows
set_option maxRecDepth 100000 in
set_option maxHeartbeats 0 in
theorem PySem.Challenge.cw_codeddeals_k09_whole_endless_words_in_or_holds : PySem.Challenge.rw_codeddeals_k09_whole_endless_words_in_or.Holds := by
  w_on; o_law; k_head; (case hw => w_witness2)
  k_fill
  refine Pw.walkT (l := PySem.Challenge.rw_codeddeals_k09_whole_endless_words_in_or) (n := 63) (k := 7) (x := "script") (sp := fun K t q => Pw.spLawT K t q) 287 285 Pw.lawN rfl (by decide) rfl ⟨rfl, by decide, by decide⟩ (fun w h Y => PySem.W.km_in_of Y) (fun w h Y => PySem.W.km_tabs_of Y 285 (by simp)) (fun w => by first | rfl | decide +kernel) (fun w => by first | rfl | decide +kernel) ?F (fun _ H a ns hl hO hT hS => ⟨a, ns, rfl, hl, hS, hT, fun _ => rfl⟩)
  case F =>
    intro w mg fa h KX G hmg
    refine' Pw.Law.all_mk KX G hmg ?a_not_long ?l_not_long ?cc_not_long ?kp_not_long ?a_word_told ?l_word_told ?cc_word_told ?kp_word_told ?a_word_made ?l_word_made ?cc_word_made ?kp_word_made ?a_word_long ?l_word_long ?cc_word_long ?kp_word_long ?a_word_then ?l_word_then ?cc_word_then ?kp_word_then ?a_times_runs ?l_times_runs ?cc_times_runs ?kp_times_runs ?a_word_times ?l_word_times ?cc_word_times ?kp_word_times ?a_endless_runs ?l_endless_runs ?cc_endless_runs ?kp_endless_runs ?a_run_at ?l_run_at ?cc_run_at ?kp_run_at ?a_parted_constant ?l_parted_constant ?cc_parted_constant ?kp_parted_constant ?a_parted_by_one ?l_parted_by_one ?cc_parted_by_one ?kp_parted_by_one ?a_endless_parted ?l_endless_parted ?cc_endless_parted ?kp_endless_parted ?a_let_word ?l_let_word ?cc_let_word ?kp_let_word ?a_order_told ?l_order_told ?cc_order_told ?kp_order_told ?a_ring_runs ?l_ring_runs ?cc_ring_runs ?kp_ring_runs ?a_runs_often ?l_runs_often ?cc_runs_often ?kp_runs_often ?a_word_upto ?l_word_upto ?cc_word_upto ?kp_word_upto ?a_word_from ?l_word_from ?cc_word_from ?kp_word_from ?a_power_told ?l_power_told ?cc_power_told ?kp_power_told ?a_word_turned ?l_word_turned ?cc_word_turned ?kp_word_turned ?a_letter_at ?l_letter_at ?cc_letter_at ?kp_letter_at ?a_endless_cut ?l_endless_cut ?cc_endless_cut ?kp_endless_cut ?a_law_source ?l_law_source ?cc_law_source ?kp_law_source ?a_law_pick ?l_law_pick ?cc_law_pick ?kp_law_pick ?a_law_of ?l_law_of ?cc_law_of ?kp_law_of ?a_law_runs ?l_law_runs ?cc_law_runs ?kp_law_runs ?a_law_word ?l_law_word ?cc_law_word ?kp_law_word ?a_law_other ?l_law_other ?cc_law_other ?kp_law_other ?a_law_parted ?l_law_parted ?cc_law_parted ?kp_law_parted ?a_law_root ?l_law_root ?cc_law_root ?kp_law_root ?a_law_far ?l_law_far ?cc_law_far ?kp_law_far ?a_law_refused ?l_law_refused ?cc_law_refused ?kp_law_refused ?a_law ?l_law ?cc_law ?kp_law ?z_abs ?z_all ?z_any ?z_dict ?z_enumerate ?z_int ?z_isinstance ?z_len ?z_list ?z_max ?z_min ?z_range ?z_repr ?z_sorted ?z_str ?z_sum ?z_super ?z_tuple ?z_zip ?v_ALIKE ?v_BEFORE ?v_BEHIND ?v_FIGURES ?v_MOST_FIGURES ?v_MOST_RUNS ?v_NONE ?v_RUNS ?v_SURE_BITS ?aX_Refused ?x1_Refused ?x2_Refused ?n_Refused_word ?n_Refused_place ?x3_Refused ?x4_Refused ?x5_Refused ?x6_Refused ?x7_Refused ?x8_Refused ?x9_Refused ?xa_Refused ?xb_Refused ?xc_Refused ?xd_Refused ?xe_Refused ?xf_Refused ?xg_Refused ?xh_Refused ?xi_Refused ?xj_Refused ?xk_Refused ?xl_Refused ?xm_Refused ?aX_TooGreat ?x1_TooGreat ?x2_TooGreat ?n_TooGreat_number ?x3_TooGreat ?x4_TooGreat ?x5_TooGreat ?x6_TooGreat ?x7_TooGreat ?x8_TooGreat ?x9_TooGreat ?xa_TooGreat ?xb_TooGreat ?xc_TooGreat ?xd_TooGreat ?xe_TooGreat ?xf_TooGreat ?xg_TooGreat ?xh_TooGreat ?xi_TooGreat ?xj_TooGreat ?xk_TooGreat ?xl_TooGreat ?xm_TooGreat
    (case a_not_long => k_is)
    (case l_not_long => k_is)
    (case cc_not_long => k_is)
    (case kp_not_long => k_is)
    (case a_word_told => k_is)
    (case l_word_told => k_is)
    (case cc_word_told => k_is)
    (case kp_word_told => k_is)
    (case a_word_made => k_is)
    (case l_word_made => k_is)
    (case cc_word_made => k_is)
    (case kp_word_made => k_is)
    (case a_word_long => k_is)
    (case l_word_long => k_is)
    (case cc_word_long => k_is)
    (case kp_word_long => k_is)
    (case a_word_then => k_is)
    (case l_word_then => k_is)
    (case cc_word_then => k_is)
    (case kp_word_then => k_is)
    (case a_times_runs => k_is)
    (case l_times_runs => k_is)
    (case cc_times_runs => k_is)
    (case kp_times_runs => k_is)
    (case a_word_times => k_is)
    (case l_word_times => k_is)
    (case cc_word_times => k_is)
    (case kp_word_times => k_is)
    (case a_endless_runs => k_is)
    (case l_endless_runs => k_is)
    (case cc_endless_runs => k_is)
    (case kp_endless_runs => k_is)
    (case a_run_at => k_is)
    (case l_run_at => k_is)
    (case cc_run_at => k_is)
    (case kp_run_at => k_is)
    (case a_parted_constant => k_is)
    (case l_parted_constant => k_is)
    (case cc_parted_constant => k_is)
    (case kp_parted_constant => k_is)
    (case a_parted_by_one => k_is)
    (case l_parted_by_one => k_is)
    (case cc_parted_by_one => k_is)
    (case kp_parted_by_one => k_is)
    (case a_endless_parted => k_is)
    (case l_endless_parted => k_is)
    (case cc_endless_parted => k_is)
    (case kp_endless_parted => k_is)
    (case a_let_word => k_is)
    (case l_let_word => k_is)
    (case cc_let_word => k_is)
    (case kp_let_word => k_is)
    (case a_order_told => k_is)
    (case l_order_told => k_is)
    (case cc_order_told => k_is)
    (case kp_order_told => k_is)
    (case a_ring_runs => k_is)
    (case l_ring_runs => k_is)
    (case cc_ring_runs => k_is)
    (case kp_ring_runs => k_is)
    (case a_runs_often => k_is)
    (case l_runs_often => k_is)
    (case cc_runs_often => k_is)
    (case kp_runs_often => k_is)
    (case a_word_upto => k_is)
    (case l_word_upto => k_is)
    (case cc_word_upto => k_is)
    (case kp_word_upto => k_is)
    (case a_word_from => k_is)
    (case l_word_from => k_is)
    (case cc_word_from => k_is)
    (case kp_word_from => k_is)
    (case a_power_told => k_is)
    (case l_power_told => k_is)
    (case cc_power_told => k_is)
    (case kp_power_told => k_is)
    (case a_word_turned => k_is)
    (case l_word_turned => k_is)
    (case cc_word_turned => k_is)
    (case kp_word_turned => k_is)
    (case a_letter_at => k_is)
    (case l_letter_at => k_is)
    (case cc_letter_at => k_is)
    (case kp_letter_at => k_is)
    (case a_endless_cut => k_is)
    (case l_endless_cut => k_is)
    (case cc_endless_cut => k_is)
    (case kp_endless_cut => k_is)
    (case a_law_source => k_is)
    (case l_law_source => k_is)
    (case cc_law_source => k_is)
    (case kp_law_source => k_is)
    (case a_law_pick => k_is)
    (case l_law_pick => k_is)
    (case cc_law_pick => k_is)
    (case kp_law_pick => k_is)
    (case a_law_of => k_is)
    (case l_law_of => k_is)
    (case cc_law_of => k_is)
    (case kp_law_of => k_is)
    (case a_law_runs => k_is)
    (case l_law_runs => k_is)
    (case cc_law_runs => k_is)
    (case kp_law_runs => k_is)
    (case a_law_word => k_is)
    (case l_law_word => k_is)
    (case cc_law_word => k_is)
    (case kp_law_word => k_is)
    (case a_law_other => k_is)
    (case l_law_other => k_is)
    (case cc_law_other => k_is)
    (case kp_law_other => k_is)
    (case a_law_parted => k_is)
    (case l_law_parted => k_is)
    (case cc_law_parted => k_is)
    (case kp_law_parted => k_is)
    (case a_law_root => k_is)
    (case l_law_root => k_is)
    (case cc_law_root => k_is)
    (case kp_law_root => k_is)
    (case a_law_far => k_is)
    (case l_law_far => k_is)
    (case cc_law_far => k_is)
    (case kp_law_far => k_is)
    (case a_law_refused => k_is)
    (case l_law_refused => k_is)
    (case cc_law_refused => k_is)
    (case kp_law_refused => k_is)
    (case a_law => k_is)
    (case l_law => k_is)
    (case cc_law => k_is)
    (case kp_law => k_is)
    (case z_abs => k_is)
    (case z_all => k_is)
    (case z_any => k_is)
    (case z_dict => k_is)
    (case z_enumerate => k_is)
    (case z_int => k_is)
    (case z_isinstance => k_is)
    (case z_len => k_is)
    (case z_list => k_is)
    (case z_max => k_is)
    (case z_min => k_is)
    (case z_range => k_is)
    (case z_repr => k_is)
    (case z_sorted => k_is)
    (case z_str => k_is)
    (case z_sum => k_is)
    (case z_super => k_is)
    (case z_tuple => k_is)
    (case z_zip => k_is)
    (case v_ALIKE => k_is)
    (case v_BEFORE => k_is)
    (case v_BEHIND => k_is)
    (case v_FIGURES => k_is)
    (case v_MOST_FIGURES => k_is)
    (case v_MOST_RUNS => k_is)
    (case v_NONE => k_is)
    (case v_RUNS => k_is)
    (case v_SURE_BITS => k_is)
    (case aX_Refused => k_is)
    (case x1_Refused => k_is)
    (case x2_Refused => k_is)
    (case n_Refused_word => k_is)
    (case n_Refused_place => k_is)
    (case x3_Refused => k_is)
    (case x4_Refused => k_is)
    (case x5_Refused => k_is)
    (case x6_Refused => k_is)
    (case x7_Refused => k_is)
    (case x8_Refused => k_is)
    (case x9_Refused => ks_is)
    (case xa_Refused => k_is)
    (case xb_Refused => first | rfl | decide +kernel)
    (case xc_Refused => k_is)
    (case xd_Refused => k_is)
    (case xe_Refused => k_is)
    (case xf_Refused => rfl)
    (case xg_Refused => first | rfl | decide +kernel)
    (case xh_Refused => k_is)
    (case xi_Refused => k_is)
    (case xj_Refused => k_is)
    (case xk_Refused => k_is)
    (case xl_Refused => k_is)
    (case xm_Refused => first | rfl | k_is)
    (case aX_TooGreat => k_is)
    (case x1_TooGreat => k_is)
    (case x2_TooGreat => k_is)
    (case n_TooGreat_number => k_is)
    (case x3_TooGreat => k_is)
    (case x4_TooGreat => k_is)
    (case x5_TooGreat => k_is)
    (case x6_TooGreat => k_is)
    (case x7_TooGreat => k_is)
    (case x8_TooGreat => k_is)
    (case x9_TooGreat => ks_is)
    (case xa_TooGreat => k_is)
    (case xb_TooGreat => first | rfl | decide +kernel)
    (case xc_TooGreat => k_is)
    (case xd_TooGreat => k_is)
    (case xe_TooGreat => k_is)
    (case xf_TooGreat => rfl)
    (case xg_TooGreat => first | rfl | decide +kernel)
    (case xh_TooGreat => k_is)
    (case xi_TooGreat => k_is)
    (case xj_TooGreat => k_is)
    (case xk_TooGreat => k_is)
    (case xl_TooGreat => k_is)
    (case xm_TooGreat => first | rfl | k_is)
