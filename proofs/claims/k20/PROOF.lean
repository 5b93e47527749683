import PyProof.Rows.All
import Wide.All
import OpenK.AllK
import Wide.FinOn
import HandS.ForMost
import HandS.Deep
import HandS.HeadHook2
import HandS.TupAny
import HandS.Flow
import HandS.ForDict
import HandS.Head2
import HandS.HeadEnd
import PySem.Challenge.RW_notetrail_k20_what_can_happen
set_option Elab.async false
set_option linter.all false
set_option maxRecDepth 100000
set_option maxHeartbeats 0
namespace Oz
open PySem PySem.Spec PyProof.Rows L2

abbrev D := PyData
/-- a guard that no reduction opens -/
theorem gd_ex (b : Bool) : ∃ x : Bool, x = b := ⟨b, rfl⟩
noncomputable def gd (b : Bool) : Bool := Classical.choose (gd_ex b)
theorem gd_eq (b : Bool) : gd b = b := Classical.choose_spec (gd_ex b)
theorem gd_el {b : Bool} (h : gd b = true) : b = true := (gd_eq b).symm.trans h
theorem gd_dec {c : Prop} [Decidable c] : (gd (decide c) = true) = c := by rw [gd_eq, decide_eq_true_eq]
/-! ### data: what is a value of its own, what holds no list or dict -/
def isVal : D → Bool
  | .list _ => false
  | .dict _ => false
  | _ => true
mutual
def lf : D → Bool
  | .list _ => false
  | .dict _ => false
  | .tuple xs => lfs xs
  | .none => true
  | .bool _ => true
  | .int _ => true
  | .str _ => true
def lfs : List D → Bool
  | [] => true
  | x :: xs => lf x && lfs xs
end
theorem lf_val : ∀ {d : D}, lf d = true → isVal d = true
  | .none, _ => rfl
  | .bool _, _ => rfl
  | .int _, _ => rfl
  | .str _, _ => rfl
  | .tuple _, _ => rfl
  | .list _, h => by simp [lf] at h
  | .dict _, h => by simp [lf] at h
/-- a key as data -/
def kd : Key → D
  | .inl i => .int i
  | .inr x => .str x
/-- the script; an object of the class c with its attributes, as data -/
def scrD (ds : List D) : D := .dict [(.none, .list ds)]
def objD (c : Str) (fs : List (D × D)) : D := .dict ((.none, .str c) :: fs)

/-! ### data in a heap -/
/-- a list that lasts -/
def SqF (K : PySem.W.Frag) (C : Hp) (a : Addr) (xs : List V) : Prop := (∃ o, C a = some (.frz o (.lst xs))) ∨
  ∃ (o : Obj) (its : Array Value) (n : Nat), K.lookup a = some o ∧ o.cls = .type "list" ∧ o.dict = none ∧ o.data = .seq its n ∧ its.size ≤ sizeLine ∧ Vals xs its.toList
theorem SqF.sqL {K : PySem.W.Frag} {C : Hp} {a : Addr} {xs : List V} (h : SqF K C a xs) : SqL K C a xs := h.elim (fun h => .inl (.inr h)) .inr
theorem SqF.mono {K : PySem.W.Frag} {C C' : Hp} {a : Addr} {xs : List V} (e : Same C C') (h : SqF K C a xs) : SqF K C' a xs := h.elim (fun ⟨o, h⟩ => .inl ⟨o, e _ _ h⟩) .inr
mutual
inductive Rep (K : PySem.W.Frag) (C : Hp) : V → D → Prop
  | non : Rep K C .non .none
  | bl (b : Bool) : Rep K C (.bl b) (.bool b)
  | int (i : Int) : Rep K C (.int i) (.int i)
  | str (x : Str) : Rep K C (.str x) (.str x)
  | lst {a : Addr} {xs : List V} {ds : List D} : C a = some (.lst xs) → Reps K C xs ds → Rep K C (.ref a) (.list ds)
  | scr {a : Addr} {xs : List V} {ds : List D} : SqF K C a xs → Reps K C xs ds → Rep K C (.ref a) (scrD ds)
  | tup {a : Addr} {xs : List V} {ds : List D} : SqT K C a xs → Reps K C xs ds → Rep K C (.ref a) (.tuple ds)
  | dct {a : Addr} {kvs : List (Key × V)} {es : List (D × D)} : C a = some (.dK kvs) → es.map (·.1) = kvs.map (fun p => kd p.1) → Reps K C (kvs.map (·.2)) (es.map (·.2)) → Rep K C (.ref a) (.dict es)
  | obj {a Cl dx : Addr} {c : Str} {fs : List (Str × V)} {es : List (D × D)} : C a = some (.ins Cl dx fs) → Cl = He.ga K c → es.map (·.1) = fs.map (fun p => PyData.str p.1) → Reps K C (fs.map (·.2)) (es.map (·.2)) → Rep K C (.ref a) (objD c es)
inductive Reps (K : PySem.W.Frag) (C : Hp) : List V → List D → Prop
  | nil : Reps K C [] []
  | cons {v : V} {vs : List V} {d : D} {ds : List D} : Rep K C v d → Reps K C vs ds → Reps K C (v :: vs) (d :: ds)
end
theorem Same.seqT {K : PySem.W.Frag} {H H' : Hp} {a : Addr} {xs : List V} (e : Same H H') (h : SqT K H a xs) : SqT K H' a xs := by
  rcases h with (h | ⟨o, h⟩) | h
  · exact .inl (.inl (e _ _ h))
  · exact .inl (.inr ⟨o, e _ _ h⟩)
  · exact .inr h
section
variable {K : PySem.W.Frag} {C C' : Hp}
mutual
theorem Rep.mono (e : Same C C') : ∀ {v : V} {d : D}, Rep K C v d → Rep K C' v d
  | _, _, .non => .non
  | _, _, .bl b => .bl b
  | _, _, .int i => .int i
  | _, _, .str x => .str x
  | _, _, .lst h r => .lst (e _ _ h) (Reps.mono e r)
  | _, _, .scr h r => .scr (h.mono e) (Reps.mono e r)
  | _, _, .tup h r => .tup (Same.seqT e h) (Reps.mono e r)
  | _, _, .dct h k r => .dct (e _ _ h) k (Reps.mono e r)
  | _, _, .obj h c k r => .obj (e _ _ h) c k (Reps.mono e r)
theorem Reps.mono (e : Same C C') : ∀ {vs : List V} {ds : List D}, Reps K C vs ds → Reps K C' vs ds
  | _, _, .nil => .nil
  | _, _, .cons h r => .cons (Rep.mono e h) (Reps.mono e r)
end
theorem Reps.length : ∀ {vs : List V} {ds : List D}, Reps K C vs ds → vs.length = ds.length
  | _, _, .nil => rfl
  | _, _, .cons _ r => congrArg (· + 1) (Reps.length r)
theorem Reps.get : ∀ {vs : List V} {ds : List D} {i : Nat} {d : D}, Reps K C vs ds → ds[i]? = some d → ∃ v, vs[i]? = some v ∧ Rep K C v d
  | _, _, _, _, .nil, h => by simp at h
  | _, _, 0, _, .cons h _, e => ⟨_, rfl, by simp at e; exact e ▸ h⟩
  | _, _, i + 1, _, .cons _ r, e => by
    obtain ⟨v, h1, h2⟩ := Reps.get (i := i) r (by simpa using e)
    exact ⟨v, by simpa using h1, h2⟩
theorem Reps.getV : ∀ {vs : List V} {ds : List D} {i : Nat} {v : V}, Reps K C vs ds → vs[i]? = some v → ∃ d, ds[i]? = some d ∧ Rep K C v d
  | _, _, _, _, .nil, h => by simp at h
  | _, _, 0, _, .cons h _, e => ⟨_, rfl, by simp at e; exact e ▸ h⟩
  | _, _, i + 1, _, .cons _ r, e => by
    obtain ⟨v, h1, h2⟩ := Reps.getV (i := i) r (by simpa using e)
    exact ⟨v, by simpa using h1, h2⟩
theorem Reps.append : ∀ {vs ws : List V} {ds es : List D}, Reps K C vs ds → Reps K C ws es → Reps K C (vs ++ ws) (ds ++ es)
  | _, _, _, _, .nil, s => s
  | _, _, _, _, .cons h r, s => .cons h (Reps.append r s)
theorem Reps.take : ∀ {vs : List V} {ds : List D} (n : Nat), Reps K C vs ds → Reps K C (vs.take n) (ds.take n)
  | _, _, 0, _ => .nil
  | _, _, _ + 1, .nil => .nil
  | _, _, n + 1, .cons h r => .cons h (Reps.take n r)
theorem Reps.drop : ∀ {vs : List V} {ds : List D} (n : Nat), Reps K C vs ds → Reps K C (vs.drop n) (ds.drop n)
  | _, _, 0, r => r
  | _, _, _ + 1, .nil => .nil
  | _, _, n + 1, .cons _ r => Reps.drop n r
/-! data of the kind of the library -/
mutual
def pl : D → Bool
  | .list xs => pls xs
  | .tuple xs => pls xs
  | .dict _ => false
  | .none => true
  | .bool _ => true
  | .int _ => true
  | .str _ => true
def pls : List D → Bool
  | [] => true
  | x :: xs => pl x && pls xs
end
mutual
theorem Rep.dp : ∀ {v : V} {d : D}, Rep K C v d → pl d = true → Dp K C v d
  | _, _, .non, _ => .non
  | _, _, .bl b, _ => .bl b
  | _, _, .int i, _ => .int i
  | _, _, .str x, _ => .str x
  | _, _, .lst h r, p => .lst (.inl (.inl h)) (Reps.dp r (by simpa [pl] using p))
  | _, _, .scr _ _, p => by simp [pl, scrD] at p
  | _, _, .tup h r, p => .tup h (Reps.dp r (by simpa [pl] using p))
  | _, _, .dct _ _ _, p => by simp [pl] at p
  | _, _, .obj _ _ _ _, p => by simp [pl, objD] at p
theorem Reps.dp : ∀ {vs : List V} {ds : List D}, Reps K C vs ds → pls ds = true → DpAll K C vs ds
  | _, _, .nil, _ => .nil
  | _, _, .cons h r, p => by
    have q : (_ && _) = true := p
    obtain ⟨q1, q2⟩ := Bool.and_eq_true_iff.mp q
    exact .cons (Rep.dp h q1) (Reps.dp r q2)
end
end
/-- an object that never changes -/
def fzn : HO → Bool
  | .tup _ => true
  | .frz _ (.tup _) => true
  | .frz _ (.lst _) => true
  | _ => false
section
variable {K : PySem.W.Frag} {Z H : Hp}
theorem tup_in (tz : ∀ a o, H a = some o → fzn o = true → Z a = some o) {a : Addr} {xs : List V} (h : SqT K H a xs) : SqT K Z a xs := by
  rcases h with (h | ⟨o, h⟩) | h
  · exact .inl (.inl (tz _ _ h rfl))
  · exact .inl (.inr ⟨o, tz _ _ h rfl⟩)
  · exact .inr h
mutual
theorem Rep.up (tz : ∀ a o, H a = some o → fzn o = true → Z a = some o) : ∀ {v : V} {d : D}, Rep K H v d → lf d = true → Rep K Z v d
  | _, _, .non, _ => .non
  | _, _, .bl b, _ => .bl b
  | _, _, .int i, _ => .int i
  | _, _, .str x, _ => .str x
  | _, _, .lst h r, p => by simp [lf] at p
  | _, _, .scr _ _, p => by simp [lf, scrD] at p
  | _, _, .tup h r, p => .tup (tup_in tz h) (Reps.up tz r (by simpa [lf] using p))
  | _, _, .dct _ _ _, p => by simp [lf] at p
  | _, _, .obj _ _ _ _, p => by simp [lf, objD] at p
theorem Reps.up (tz : ∀ a o, H a = some o → fzn o = true → Z a = some o) : ∀ {vs : List V} {ds : List D}, Reps K H vs ds → lfs ds = true → Reps K Z vs ds
  | _, _, .nil, _ => .nil
  | _, _, .cons h r, p => by
    have q : (_ && _) = true := p
    obtain ⟨q1, q2⟩ := Bool.and_eq_true_iff.mp q
    exact .cons (Rep.up tz h q1) (Reps.up tz r q2)
end
end

/-! ### data that one owns: F its cells -/
mutual
inductive Own (K : PySem.W.Frag) (Z H : Hp) : V → D → List Addr → Prop
  | imm {v : V} {d : D} : Rep K Z v d → isVal d = true → Own K Z H v d []
  | lst {a : Addr} {xs : List V} {ds : List D} {F : List Addr} : H a = some (.lst xs) → Owns K Z H xs ds F → Own K Z H (.ref a) (.list ds) (a :: F)
  | dct {a : Addr} {kvs : List (Key × V)} {es : List (D × D)} {F : List Addr} : H a = some (.dK kvs) → es.map (·.1) = kvs.map (fun p => kd p.1) → Owns K Z H (kvs.map (·.2)) (es.map (·.2)) F → Own K Z H (.ref a) (.dict es) (a :: F)
  | obj {a Cl dx : Addr} {c : Str} {fs : List (Str × V)} {es : List (D × D)} {F : List Addr} : H a = some (.ins Cl dx fs) → H dx = some (.own a) → Cl = He.ga K c → es.map (·.1) = fs.map (fun p => PyData.str p.1) →
      Owns K Z H (fs.map (·.2)) (es.map (·.2)) F → Own K Z H (.ref a) (objD c es) (a :: dx :: F)
inductive Owns (K : PySem.W.Frag) (Z H : Hp) : List V → List D → List Addr → Prop
  | nil : Owns K Z H [] [] []
  | cons {v : V} {vs : List V} {d : D} {ds : List D} {F G : List Addr} : Own K Z H v d F → Owns K Z H vs ds G → Owns K Z H (v :: vs) (d :: ds) (F ++ G)
end
section
variable {K : PySem.W.Frag} {Z Z' H H' : Hp}
mutual
/-- the cells of F stand as they stood -/
theorem Own.mono (ez : Same Z Z') : ∀ {v : V} {d : D} {F : List Addr}, (∀ a ∈ F, ∀ o, H a = some o → H' a = some o) → Own K Z H v d F → Own K Z' H' v d F
  | _, _, _, _, .imm r p => .imm (r.mono ez) p
  | _, _, _, k, .lst h r => .lst (k _ List.mem_cons_self _ h) (Owns.mono ez (fun a ha => k a (List.mem_cons_of_mem _ ha)) r)
  | _, _, _, k, .dct h e r => .dct (k _ List.mem_cons_self _ h) e (Owns.mono ez (fun a ha => k a (List.mem_cons_of_mem _ ha)) r)
  | _, _, _, k, .obj h h2 c e r => .obj (k _ List.mem_cons_self _ h) (k _ (List.mem_cons_of_mem _ List.mem_cons_self) _ h2) c e (Owns.mono ez (fun a ha => k a (List.mem_cons_of_mem _ (List.mem_cons_of_mem _ ha))) r)
theorem Owns.mono (ez : Same Z Z') : ∀ {vs : List V} {ds : List D} {F : List Addr}, (∀ a ∈ F, ∀ o, H a = some o → H' a = some o) → Owns K Z H vs ds F → Owns K Z' H' vs ds F
  | _, _, _, _, .nil => .nil
  | _, _, _, k, .cons h r => .cons (Own.mono ez (fun a ha => k a (List.mem_append_left _ ha)) h) (Owns.mono ez (fun a ha => k a (List.mem_append_right _ ha)) r)
end
mutual
theorem Own.live : ∀ {v : V} {d : D} {F : List Addr}, Own K Z H v d F → ∀ a ∈ F, ∃ o, H a = some o ∧ fzn o = false
  | _, _, _, .imm _ _, _, h => by cases h
  | _, _, _, .lst h r, a, m => by
    rcases List.mem_cons.mp m with e | m
    · exact ⟨_, e ▸ h, rfl⟩
    · exact Owns.live r a m
  | _, _, _, .dct h _ r, a, m => by
    rcases List.mem_cons.mp m with e | m
    · exact ⟨_, e ▸ h, rfl⟩
    · exact Owns.live r a m
  | _, _, _, .obj h h2 _ _ r, a, m => by
    rcases List.mem_cons.mp m with e | m
    · exact ⟨_, e ▸ h, rfl⟩
    · rcases List.mem_cons.mp m with e | m
      · exact ⟨_, e ▸ h2, rfl⟩
      · exact Owns.live r a m
theorem Owns.live : ∀ {vs : List V} {ds : List D} {F : List Addr}, Owns K Z H vs ds F → ∀ a ∈ F, ∃ o, H a = some o ∧ fzn o = false
  | _, _, _, .nil, _, h => by cases h
  | _, _, _, .cons h r, a, m => (List.mem_append.mp m).elim (Own.live h a) (Owns.live r a)
end
mutual
/-- what one owns may be looked at -/
theorem Own.rep (zh : Same Z H) : ∀ {v : V} {d : D} {F : List Addr}, Own K Z H v d F → Rep K H v d
  | _, _, _, .imm r _ => r.mono zh
  | _, _, _, .lst h r => .lst h (Owns.rep zh r)
  | _, _, _, .dct h e r => .dct h e (Owns.rep zh r)
  | _, _, _, .obj h _ c e r => .obj h c e (Owns.rep zh r)
theorem Owns.rep (zh : Same Z H) : ∀ {vs : List V} {ds : List D} {F : List Addr}, Owns K Z H vs ds F → Reps K H vs ds
  | _, _, _, .nil => .nil
  | _, _, _, .cons h r => .cons (Own.rep zh h) (Owns.rep zh r)
end
theorem Owns.length : ∀ {vs : List V} {ds : List D} {F : List Addr}, Owns K Z H vs ds F → vs.length = ds.length
  | _, _, _, .nil => rfl
  | _, _, _, .cons _ r => congrArg (· + 1) (Owns.length r)
theorem Owns.append : ∀ {vs ws : List V} {ds es : List D} {F G : List Addr}, Owns K Z H vs ds F → Owns K Z H ws es G → Owns K Z H (vs ++ ws) (ds ++ es) (F ++ G)
  | _, _, _, _, _, _, .nil, s => s
  | _, _, _, _, _, _, .cons h r, s => by
    rw [List.append_assoc]
    exact .cons h (Owns.append r s)
theorem Owns.one {v : V} {d : D} {F : List Addr} (h : Own K Z H v d F) : Owns K Z H [v] [d] F := by
  have := Owns.cons h Owns.nil
  rwa [List.append_nil] at this
theorem Owns.of_reps : ∀ {vs : List V} {ds : List D}, Reps K Z vs ds → ds.all isVal = true → Owns K Z H vs ds []
  | _, _, .nil, _ => .nil
  | _, _, .cons h r, p => by
    rw [List.all_cons] at p
    obtain ⟨q1, q2⟩ := Bool.and_eq_true_iff.mp p
    exact .cons (F := []) (.imm h q1) (Owns.of_reps r q2)
end
end Oz

namespace Oz
open PySem PySem.Spec PyProof.Rows L2

/-! ### results, frames -/
inductive Sx where
  | imm | out | view | own | brw
  deriving DecidableEq
structure R where
  s : Sx
  d : D
abbrev Ev := List (Option R)
inductive Res (α : Type) where
  | bad
  | ok (a : α)
  | exc (c : Str) (fs : List (Str × D))
def Res.bind {α β : Type} : Res α → (α → Res β) → Res β
  | .bad, _ => .bad
  | .ok a, f => f a
  | .exc c fs, _ => .exc c fs
theorem Res.bind_ok {α β : Type} (a : α) (f : α → Res β) : (Res.ok a).bind f = f a := rfl
theorem Res.bind_bad {α β : Type} (f : α → Res β) : (Res.bad : Res α).bind f = .bad := rfl
theorem Res.bind_exc {α β : Type} (c : Str) (fs : List (Str × D)) (f : α → Res β) : (Res.exc c fs : Res α).bind f = .exc c fs := rfl
abbrev Px := Ev → Res R
abbrev Tx := Ev → Res Bool

/-! ### heaps within heaps -/
structure Good (Z O H : Hp) : Prop where
  zo : Same Z O
  oh : Same O H
  tz : ∀ a o, H a = some o → fzn o = true → Z a = some o
theorem Good.zh {Z O H : Hp} (g : Good Z O H) : Same Z H := g.zo.trans g.oh
/-- nothing but new things, and what stood in W -/
structure Ext (W : List Addr) (Z O H Z' O' H' : Hp) : Prop where
  h : Same H H'
  z : Same Z Z'
  o : Same O O'
  zn : ∀ a, Z' a ≠ none → Z a ≠ none ∨ H a = none ∨ a ∈ W
  on : ∀ a, O' a ≠ none → O a ≠ none ∨ H a = none ∨ a ∈ W
theorem Ext.refl (W : List Addr) (Z O H : Hp) : Ext W Z O H Z O H := ⟨Same.refl _, Same.refl _, Same.refl _, fun _ h => .inl h, fun _ h => .inl h⟩
/-- first W0, then W whose cells are new -/
theorem Ext.trans {W0 W : List Addr} {Z O H Z1 O1 H1 Z2 O2 H2 : Hp} (a : Ext W0 Z O H Z1 O1 H1) (b : Ext W Z1 O1 H1 Z2 O2 H2) (w : ∀ c ∈ W, H c = none ∨ c ∈ W0) : Ext W0 Z O H Z2 O2 H2 :=
  ⟨a.h.trans b.h, a.z.trans b.z, a.o.trans b.o,
    fun c h => (b.zn c h).elim (a.zn c) (fun q => q.elim (fun q => .inr (.inl (a.h.free q))) fun q => .inr (w c q)),
    fun c h => (b.on c h).elim (a.on c) (fun q => q.elim (fun q => .inr (.inl (a.h.free q))) fun q => .inr (w c q))⟩
theorem Ext.trans0 {Z O H Z1 O1 H1 Z2 O2 H2 : Hp} (a : Ext [] Z O H Z1 O1 H1) (b : Ext [] Z1 O1 H1 Z2 O2 H2) : Ext [] Z O H Z2 O2 H2 := a.trans b fun _ h => by cases h
theorem Ext.mono {W W' : List Addr} {Z O H Z' O' H' : Hp} (a : Ext W Z O H Z' O' H') (w : ∀ c ∈ W, c ∈ W') : Ext W' Z O H Z' O' H' :=
  ⟨a.h, a.z, a.o, fun c h => (a.zn c h).imp id fun q => q.imp id (w c), fun c h => (a.on c h).imp id fun q => q.imp id (w c)⟩
theorem same_new {H : Hp} {p : Addr} {o : HO} (h : H p = none) : Same H (upd H p o) := fun b x e => by
  rw [upd_ne (ne_of_none e h)]
  exact e
theorem upd_some {H : Hp} {p a : Addr} {o : HO} (h : upd H p o a ≠ none) : H a ≠ none ∨ a = p := by
  by_cases e : a = p
  · exact .inr e
  · rw [upd_ne e] at h
    exact .inl h
theorem none_of {Z H : Hp} (z : Same Z H) {p : Addr} (h : H p = none) : Z p = none := z.free h
/-- a new object that never changes -/
theorem ext_frz {Z O H : Hp} (g : Good Z O H) {p : Addr} {o : HO} (np : H p = none) : Ext [] Z O H (upd Z p o) (upd O p o) (upd H p o) ∧ Good (upd Z p o) (upd O p o) (upd H p o) := by
  have zp := none_of g.zh np
  have op := none_of g.oh np
  refine ⟨⟨same_new np, same_new zp, same_new op, fun a h => ?_, fun a h => ?_⟩, ⟨fun a x h => ?_, fun a x h => ?_, fun a x h f => ?_⟩⟩
  · exact (upd_some h).imp id fun (e : a = p) => .inl (e ▸ np)
  · exact (upd_some h).imp id fun (e : a = p) => .inl (e ▸ np)
  · by_cases e : a = p
    · subst e; rw [upd_same] at h ⊢; exact h
    · rw [upd_ne e] at h ⊢; exact g.zo _ _ h
  · by_cases e : a = p
    · subst e; rw [upd_same] at h ⊢; exact h
    · rw [upd_ne e] at h ⊢; exact g.oh _ _ h
  · by_cases e : a = p
    · subst e; rw [upd_same] at h ⊢; exact h
    · rw [upd_ne e] at h ⊢; exact g.tz _ _ h f
/-- a new object of one's own -/
theorem ext_new {Z O H : Hp} (g : Good Z O H) {p : Addr} {o : HO} (np : H p = none) (f : fzn o = false) : Ext [] Z O H Z O (upd H p o) ∧ Good Z O (upd H p o) := by
  refine ⟨⟨same_new np, Same.refl _, Same.refl _, fun a h => .inl h, fun a h => .inl h⟩, ⟨g.zo, g.oh.trans (same_new np), fun a x h q => ?_⟩⟩
  by_cases e : a = p
  · subst e; rw [upd_same] at h; cases h; rw [f] at q; cases q
  · rw [upd_ne e] at h; exact g.tz _ _ h q

/-! ### what a result stands for -/
def RepR (K : PySem.W.Frag) (Z O H : Hp) (v : V) (r : R) (F : List Addr) : Prop := match r.s with
  | .imm => Rep K Z v r.d ∧ F = []
  | .out => Rep K O v r.d ∧ F = []
  | .view => Rep K H v r.d ∧ F = []
  | .own => Own K Z H v r.d F
  | .brw => Own K Z H v r.d F
section
variable {K : PySem.W.Frag} {Z O H Z' O' H' : Hp}
theorem RepR.live {v : V} {r : R} {F : List Addr} (h : RepR K Z O H v r F) : ∀ a ∈ F, ∃ o, H a = some o ∧ fzn o = false := by
  obtain ⟨s, d⟩ := r
  cases s with
  | imm => obtain ⟨_, rfl⟩ := h; intro a ha; cases ha
  | out => obtain ⟨_, rfl⟩ := h; intro a ha; cases ha
  | view => obtain ⟨_, rfl⟩ := h; intro a ha; cases ha
  | own => exact Own.live h
  | brw => exact Own.live h
theorem RepR.sameM {v : V} {r : R} {F : List Addr} (ez : Same Z Z') (eo : Same O O') (eh : Same H H') (h : RepR K Z O H v r F) : RepR K Z' O' H' v r F := by
  obtain ⟨s, d⟩ := r
  cases s with
  | imm => exact ⟨h.1.mono ez, h.2⟩
  | out => exact ⟨h.1.mono eo, h.2⟩
  | view => exact ⟨h.1.mono eh, h.2⟩
  | own => exact Own.mono ez (fun a _ o q => eh a o q) h
  | brw => exact Own.mono ez (fun a _ o q => eh a o q) h
theorem RepR.ext {v : V} {r : R} {F : List Addr} (h : RepR K Z O H v r F) {W : List Addr} (e : Ext W Z O H Z' O' H') : RepR K Z' O' H' v r F := by
  obtain ⟨s, d⟩ := r
  cases s with
  | imm => exact ⟨h.1.mono e.z, h.2⟩
  | out => exact ⟨h.1.mono e.o, h.2⟩
  | view => exact ⟨h.1.mono e.h, h.2⟩
  | own => exact Own.mono e.z (fun a _ o q => e.h a o q) h
  | brw => exact Own.mono e.z (fun a _ o q => e.h a o q) h
/-- the cells of others changed: no view stays -/
theorem RepR.keep {v : V} {r : R} {F : List Addr} (h : RepR K Z O H v r F) (hv : r.s ≠ .view) (ez : Same Z Z') (eo : Same O O') (eh : ∀ a ∈ F, ∀ o, H a = some o → H' a = some o) : RepR K Z' O' H' v r F := by
  obtain ⟨s, d⟩ := r
  cases s with
  | imm => exact ⟨h.1.mono ez, h.2⟩
  | out => exact ⟨h.1.mono eo, h.2⟩
  | view => exact absurd rfl hv
  | own => exact Own.mono ez eh h
  | brw => exact Own.mono ez eh h
/-- anything may be looked at -/
theorem RepR.look {v : V} {r : R} {F : List Addr} (g : Good Z O H) (h : RepR K Z O H v r F) : Rep K H v r.d := by
  obtain ⟨s, d⟩ := r
  cases s with
  | imm => exact h.1.mono g.zh
  | out => exact h.1.mono g.oh
  | view => exact h.1
  | own => exact Own.rep g.zh h
  | brw => exact Own.rep g.zh h
end

inductive Slots (K : PySem.W.Frag) (Z O H : Hp) : List (Option V) → Ev → List Addr → Prop
  | nil : Slots K Z O H [] [] []
  | non {x : Option V} {σ : List (Option V)} {ρ : Ev} {F : List Addr} : Slots K Z O H σ ρ F → Slots K Z O H (x :: σ) (none :: ρ) F
  | val {v : V} {r : R} {σ : List (Option V)} {ρ : Ev} {F G : List Addr} : RepR K Z O H v r F → Slots K Z O H σ ρ G → Slots K Z O H (some v :: σ) (some r :: ρ) (F ++ G)
/-- no view among them -/
def nov (ρ : Ev) : Bool := ρ.all fun x => match x with
  | some ⟨.view, _⟩ => false
  | _ => true
section
variable {K : PySem.W.Frag} {Z O H Z' O' H' : Hp}
theorem Slots.length : ∀ {σ : List (Option V)} {ρ : Ev} {F : List Addr}, Slots K Z O H σ ρ F → σ.length = ρ.length
  | _, _, _, .nil => rfl
  | _, _, _, .non s => congrArg (· + 1) s.length
  | _, _, _, .val _ s => congrArg (· + 1) s.length
theorem Slots.live : ∀ {σ : List (Option V)} {ρ : Ev} {F : List Addr}, Slots K Z O H σ ρ F → ∀ a ∈ F, ∃ o, H a = some o ∧ fzn o = false
  | _, _, _, .nil, _, h => by cases h
  | _, _, _, .non s, a, h => s.live a h
  | _, _, _, .val r s, a, h => (List.mem_append.mp h).elim (r.live a) (s.live a)
theorem Slots.sameM (ez : Same Z Z') (eo : Same O O') (eh : Same H H') : ∀ {σ : List (Option V)} {ρ : Ev} {F : List Addr}, Slots K Z O H σ ρ F → Slots K Z' O' H' σ ρ F
  | _, _, _, .nil => .nil
  | _, _, _, .non s => .non (Slots.sameM ez eo eh s)
  | _, _, _, .val r s => .val (r.sameM ez eo eh) (Slots.sameM ez eo eh s)
theorem Slots.ext {W : List Addr} (e : Ext W Z O H Z' O' H') : ∀ {σ : List (Option V)} {ρ : Ev} {F : List Addr}, Slots K Z O H σ ρ F → Slots K Z' O' H' σ ρ F
  | _, _, _, .nil => .nil
  | _, _, _, .non s => .non (Slots.ext e s)
  | _, _, _, .val r s => .val (r.ext e) (Slots.ext e s)
theorem Slots.keep (ez : Same Z Z') (eo : Same O O') : ∀ {σ : List (Option V)} {ρ : Ev} {F : List Addr}, Slots K Z O H σ ρ F → nov ρ = true → (∀ a ∈ F, ∀ o, H a = some o → H' a = some o) → Slots K Z' O' H' σ ρ F
  | _, _, _, .nil, _, _ => .nil
  | _, _, _, .non s, n, k => .non (Slots.keep ez eo s (by simpa [nov] using n) k)
  | _, _, _, .val (r := r) q s, n, k => by
    have n1 : (_ && _) = true := n
    obtain ⟨n2, n3⟩ := Bool.and_eq_true_iff.mp n1
    refine .val (q.keep (fun e => ?_) ez eo fun a ha => k a (List.mem_append_left _ ha)) (Slots.keep ez eo s n3 fun a ha => k a (List.mem_append_right _ ha))
    obtain ⟨s, d⟩ := r
    cases e
    cases n2
/-- a slot by itself -/
def SlotR (K : PySem.W.Frag) (Z O H : Hp) : Option V → Option R → List Addr → Prop
  | _, none, F => F = []
  | some v, some r, F => RepR K Z O H v r F
  | none, some _, _ => False
theorem Slots.get : ∀ {σ : List (Option V)} {ρ : Ev} {F : List Addr} {i : Nat} {r : R}, Slots K Z O H σ ρ F → ρ[i]? = some (some r) → ∃ v, σ[i]? = some (some v) ∧ ∃ G, RepR K Z O H v r G
  | _, _, _, _, _, .nil, h => by simp at h
  | _, _, _, 0, _, .non s, h => by simp at h
  | _, _, _, i + 1, _, .non s, h => by
    obtain ⟨v, h1, h2⟩ := Slots.get (i := i) s (by simpa using h)
    exact ⟨v, by simpa using h1, h2⟩
  | _, _, _, 0, _, .val r s, h => by
    simp at h
    subst h
    exact ⟨_, rfl, _, r⟩
  | _, _, _, i + 1, _, .val r s, h => by
    obtain ⟨v, h1, h2⟩ := Slots.get (i := i) s (by simpa using h)
    exact ⟨v, by simpa using h1, h2⟩
/-- one slot taken out, the others kept -/
theorem Slots.focus : ∀ {σ : List (Option V)} {ρ : Ev} {F : List Addr} {i : Nat}, Slots K Z O H σ ρ F → i < ρ.length →
    ∃ (x : Option V) (y : Option R) (F1 G F2 : List Addr), σ[i]? = some x ∧ ρ[i]? = some y ∧ F = F1 ++ (G ++ F2) ∧ SlotR K Z O H x y G ∧
      (∀ (x' : Option V) (y' : Option R) (G' : List Addr) (Z' O' H' : Hp), Same Z Z' → Same O O' → (Same H H' ∨ nov ρ = true) → (∀ a ∈ F1 ++ F2, ∀ o, H a = some o → H' a = some o) → SlotR K Z' O' H' x' y' G' → Slots K Z' O' H' (σ.set i x') (ρ.set i y') (F1 ++ (G' ++ F2)))
  | _, _, _, _, .nil, h => by simp at h
  | x :: σ, _ :: ρ, F, 0, .non s, h => by
    refine ⟨x, none, [], [], F, rfl, rfl, rfl, rfl, fun x' y' G' Z' O' H' ez eo eh k q => ?_⟩
    have s' : Slots K Z' O' H' σ ρ F := by
      rcases eh with eh | n
      · exact Slots.sameM ez eo eh s
      · exact Slots.keep ez eo s (by simpa [nov] using n) (by simpa using k)
    cases y' with
    | none => have e : G' = [] := q; subst e; exact .non s'
    | some r => cases x' with
      | none => cases q
      | some v =>
        have z := Slots.val q s'
        exact z
  | some _ :: σ, some _ :: ρ, _, 0, .val (r := r) (F := F) (G := G) q s, h => by
    refine ⟨_, some r, [], F, G, rfl, rfl, rfl, q, fun x' y' G' Z' O' H' ez eo eh k q => ?_⟩
    have s' : Slots K Z' O' H' σ ρ G := by
      rcases eh with eh | n
      · exact Slots.sameM ez eo eh s
      · exact Slots.keep ez eo s (by have n1 : (_ && _) = true := n; exact (Bool.and_eq_true_iff.mp n1).2) (by simpa using k)
    cases y' with
    | none => have e : G' = [] := q; subst e; exact .non s'
    | some r => cases x' with
      | none => cases q
      | some v =>
        have z := Slots.val q s'
        exact z
  | x :: σ, _ :: ρ, F, i + 1, .non s, h => by
    obtain ⟨x1, y1, F1, G, F2, h1, h2, h3, h4, h5⟩ := Slots.focus (i := i) s (by simpa using h)
    refine ⟨x1, y1, F1, G, F2, by simpa using h1, by simpa using h2, h3, h4, fun x' y' G' Z' O' H' ez eo eh k q => ?_⟩
    exact .non (h5 x' y' G' Z' O' H' ez eo (eh.imp id fun n => by simpa [nov] using n) k q)
  | some _ :: σ, some _ :: ρ, _, i + 1, .val (r := r) (F := F0) (G := G0) q0 s, h => by
    obtain ⟨x1, y1, F1, G, F2, h1, h2, h3, h4, h5⟩ := Slots.focus (i := i) s (by simpa using h)
    refine ⟨x1, y1, F0 ++ F1, G, F2, by simpa using h1, by simpa using h2, by rw [h3, List.append_assoc], h4, fun x' y' G' Z' O' H' ez eo eh k q => ?_⟩
    rw [List.append_assoc]
    refine .val ?_ (h5 x' y' G' Z' O' H' ez eo (eh.imp id fun n => by have n1 : (_ && _) = true := n; exact (Bool.and_eq_true_iff.mp n1).2) (fun a ha => k a ?_) q)
    · rcases eh with eh | n
      · exact RepR.sameM ez eo eh q0
      · refine q0.keep (fun e => ?_) ez eo fun a ha => k a (List.mem_append_left _ (List.mem_append_left _ ha))
        have n1 : (_ && _) = true := n
        obtain ⟨n2, _⟩ := Bool.and_eq_true_iff.mp n1
        obtain ⟨s, d⟩ := r
        cases e
        cases n2
    · rcases List.mem_append.mp ha with ha | ha
      · exact List.mem_append_left _ (List.mem_append_right _ ha)
      · exact List.mem_append_right _ ha
end
end Oz

namespace Oz
open PySem PySem.Spec L2
open PyProof.Rows hiding St

structure Rel (K : PySem.W.Frag) (Z O H : Hp) (σ : St) (ρ : Ev) (F : List Addr) : Prop where
  g : Good Z O H
  nd : F.Nodup
  fo : ∀ a ∈ F, O a = none
  sl : Slots K Z O H σ ρ F
section
variable {K : PySem.W.Frag} {Z O H Z' O' H' : Hp} {σ : St} {ρ : Ev} {F : List Addr}
theorem Rel.ext (r : Rel K Z O H σ ρ F) (e : Ext [] Z O H Z' O' H') (g : Good Z' O' H') : Rel K Z' O' H' σ ρ F :=
  ⟨g, r.nd, (fun a h => by
    obtain ⟨o, q, _⟩ := r.sl.live a h
    cases w : O' a with
    | none => rfl
    | some x =>
      rcases e.on a (by rw [w]; simp) with z | z | z
      · exact absurd (r.fo a h) z
      · rw [q] at z; cases z
      · cases z), r.sl.ext e⟩
end
/-- an exception of the class c with its attributes -/
def ExcK (K : PySem.W.Frag) (E : XK) (Z O H : Hp) (c : Str) (fs : List (Str × D)) : Prop :=
  ∀ (H' Z' O' : Hp) (d : Addr) (xs : List (Str × V)), Ext [] Z O H Z' O' H' → Good Z' O' H' → H' d = some (.xd xs) → xs.map (·.1) = fs.map (·.1) → Reps K Z' (xs.map (·.2)) (fs.map (·.2)) → E (.ref (He.ga K c)) (some d) H'
/-- a result; W: the temporary things that may be in it -/
def OkK (K : PySem.W.Frag) (W : List Addr) (Z O H : Hp) (r : R) (Q : VK) : Prop :=
  ∀ v H' Z' O' G, Ext W Z O H Z' O' H' → Good Z' O' H' → RepR K Z' O' H' v r G → G.Nodup → (∀ a ∈ G, (H a = none ∨ a ∈ W) ∧ O' a = none) → Q v H'
def ResK (K : PySem.W.Frag) (E : XK) (W : List Addr) (Z O H : Hp) (r : Res R) (Q : VK) : Prop := match r with
  | .bad => False
  | .ok r => OkK K W Z O H r Q
  | .exc c fs => ExcK K E Z O H c fs
section
variable {K : PySem.W.Frag} {E : XK} {Z O H Z1 O1 H1 : Hp} {Q : VK} {W : List Addr}
theorem OkK.ext {r : R} (h : OkK K [] Z O H r Q) (e : Ext [] Z O H Z1 O1 H1) (w : ∀ a ∈ W, H a = none) : OkK K W Z1 O1 H1 r Q := fun v H' Z' O' G e' g' q nd f =>
  h v H' Z' O' G (e.trans e' fun c hc => .inl (w c hc)) g' q nd fun a ha => ⟨.inl ((f a ha).1.elim (fun z => e.h.free z) (w a)), (f a ha).2⟩
theorem ExcK.ext {c : Str} {fs : List (Str × D)} (h : ExcK K E Z O H c fs) (e : Ext [] Z O H Z1 O1 H1) : ExcK K E Z1 O1 H1 c fs := fun H' Z' O' d xs e' g' q a b =>
  h H' Z' O' d xs (e.trans0 e') g' q a b
theorem ResK.ext {r : Res R} (h : ResK K E [] Z O H r Q) (e : Ext [] Z O H Z1 O1 H1) (w : ∀ a ∈ W, H a = none) : ResK K E W Z1 O1 H1 r Q := by
  cases r with
  | bad => exact h
  | ok r => exact OkK.ext h e w
  | exc c fs => exact ExcK.ext h e
end

/-! ### the readings -/
def tP (K : PySem.W.Frag) (E : XK) (p : Px) : TE := fun σ H Q => ∃ Z O ρ F, Rel K Z O H σ ρ F ∧ ResK K E [] Z O H (p ρ) Q
def tT (K : PySem.W.Frag) (E : XK) (t : Tx) : TT := fun σ H Q => ∃ Z O ρ F, Rel K Z O H σ ρ F ∧ match t ρ with
  | .bad => False
  | .ok b => ∀ H' Z' O', Ext [] Z O H Z' O' H' → Good Z' O' H' → Q b H'
  | .exc c fs => ExcK K E Z O H c fs
inductive RepRs (K : PySem.W.Frag) (Z O H : Hp) : List V → List R → List Addr → Prop
  | nil : RepRs K Z O H [] [] []
  | cons {v : V} {vs : List V} {r : R} {rs : List R} {F G : List Addr} : RepR K Z O H v r F → RepRs K Z O H vs rs G → RepRs K Z O H (v :: vs) (r :: rs) (F ++ G)
def evs : List Px → Ev → Res (List R)
  | [], _ => .ok []
  | p :: ps, ρ => (p ρ).bind fun r => (evs ps ρ).bind fun rs => .ok (r :: rs)
def OksK (K : PySem.W.Frag) (Z O H : Hp) (rs : List R) (Q : List V → Hp → Prop) : Prop :=
  ∀ vs H' Z' O' G, Ext [] Z O H Z' O' H' → Good Z' O' H' → RepRs K Z' O' H' vs rs G → G.Nodup → (∀ a ∈ G, H a = none ∧ O' a = none) → Q vs H'
def tA (K : PySem.W.Frag) (E : XK) (ps : List Px) : TA := fun σ H Q => ∃ Z O ρ F, Rel K Z O H σ ρ F ∧ match evs ps ρ with
  | .bad => False
  | .ok rs => OksK K Z O H rs Q
  | .exc c fs => ExcK K E Z O H c fs
section
variable {X : Cx}
theorem _root_.L2.PE.imp {e : Expr} {t t' : TE} (h : PE X e t) (i : ∀ σ H Q, t' σ H Q → t σ H Q) : PE X e t' := ⟨fun pins s σ H Q I q => h.run pins s σ H Q I (i σ H Q q)⟩
theorem _root_.L2.PT.imp {e : Expr} {t t' : TT} (h : PT X e t) (i : ∀ σ H Q, t' σ H Q → t σ H Q) : PT X e t' := ⟨fun pins s σ H Q I q => h.run pins s σ H Q I (i σ H Q q)⟩
theorem _root_.L2.PW.imp {e : Expr} {t t' : TT} (h : PW X e t) (i : ∀ σ H Q, t' σ H Q → t σ H Q) : PW X e t' := ⟨fun w pins s σ H Q I q => h.run w pins s σ H Q I (i σ H Q q)⟩
theorem _root_.L2.PA.imp {es : List Expr} {t t' : TA} (h : PA X es t) (i : ∀ σ H Q, t' σ H Q → t σ H Q) : PA X es t' := ⟨fun pos pins s σ H Q I q => h.run pos pins s σ H Q I (i σ H Q q)⟩
theorem _root_.L2.PS.imp {st : Stmt} {t t' : TS} (h : PS X st t) (i : ∀ D σ H, t' D σ H → t D σ H) : PS X st t' := ⟨fun pins s σ H D I q => h.run pins s σ H D I (i D σ H q)⟩
theorem _root_.L2.PSs.imp {st : List Stmt} {t t' : TS} (h : PSs X st t) (i : ∀ D σ H, t' D σ H → t D σ H) : PSs X st t' := ⟨fun pins s σ H D I q => h.run pins s σ H D I (i D σ H q)⟩
end
section
variable {K : PySem.W.Frag} {Z O H Z' O' H' : Hp}
theorem RepRs.ext {W : List Addr} (e : Ext W Z O H Z' O' H') : ∀ {vs : List V} {rs : List R} {F : List Addr}, RepRs K Z O H vs rs F → RepRs K Z' O' H' vs rs F
  | _, _, _, .nil => .nil
  | _, _, _, .cons r s => .cons (r.ext e) (RepRs.ext e s)
theorem RepRs.live : ∀ {vs : List V} {rs : List R} {F : List Addr}, RepRs K Z O H vs rs F → ∀ a ∈ F, ∃ o, H a = some o ∧ fzn o = false
  | _, _, _, .nil, _, h => by cases h
  | _, _, _, .cons r s, a, h => (List.mem_append.mp h).elim (r.live a) (s.live a)
theorem RepRs.length : ∀ {vs : List V} {rs : List R} {F : List Addr}, RepRs K Z O H vs rs F → vs.length = rs.length
  | _, _, _, .nil => rfl
  | _, _, _, .cons _ s => congrArg (· + 1) s.length
theorem RepRs.look (g : Good Z O H) : ∀ {vs : List V} {rs : List R} {F : List Addr}, RepRs K Z O H vs rs F → Reps K H vs (rs.map (·.d))
  | _, _, _, .nil => .nil
  | _, _, _, .cons r s => .cons (r.look g) (RepRs.look g s)
/-- new cells beside live ones -/
theorem nodup_fresh {F G : List Addr} (nF : F.Nodup) (nG : G.Nodup) (lv : ∀ a ∈ F, ∃ o, H a = some o) (fr : ∀ a ∈ G, H a = none) : (F ++ G).Nodup := by
  rw [List.nodup_append]
  refine ⟨nF, nG, fun a ha b hb e => ?_⟩
  subst e
  obtain ⟨o, h⟩ := lv a ha
  rw [fr a hb] at h
  cases h
end

/-! ### names, constants -/
def vw (r : R) : R := if lf r.d then ⟨.imm, r.d⟩ else match r.s with
  | .own => ⟨.view, r.d⟩
  | .brw => ⟨.view, r.d⟩
  | s => ⟨s, r.d⟩
theorem RepR.vw {K : PySem.W.Frag} {Z O H : Hp} {v : V} {r : R} {F : List Addr} (g : Good Z O H) (h : RepR K Z O H v r F) : RepR K Z O H v (Oz.vw r) [] := by
  have lk := h.look g
  unfold Oz.vw
  split
  · exact ⟨lk.up g.tz ‹_›, rfl⟩
  · obtain ⟨s, d⟩ := r
    cases s with
    | imm => exact ⟨h.1, rfl⟩
    | out => exact ⟨h.1, rfl⟩
    | view => exact ⟨h.1, rfl⟩
    | own => exact ⟨lk, rfl⟩
    | brw => exact ⟨lk, rfl⟩
def pVar (i : Nat) : Px := fun ρ => match ρ[i]? with
  | some (some r) => .ok (vw r)
  | _ => .bad
def pC (d : D) : Px := fun _ => .ok ⟨.imm, d⟩
section
variable {X : Cx} {E : XK}
theorem s_var (i : Nat) {x : Str} {pos : Pos} (hN : X.N[i]? = some x := by rfl) (hv : Vis X.env.scope x := by first | exact Or.inl rfl | exact Or.inr (Or.inl rfl) | exact Or.inr (Or.inr rfl)) (hd : (x == ("__debug__" : Str)) = false := by decide)
    (hcd : (x == ("__classdict__" : Str)) = false := by decide) : PE X (.Name x pos) (tP X.K E (pVar i)) := by
  refine (pe_var hN hv hd hcd).imp fun σ H Q ⟨Z, O, ρ, F, r, q⟩ => ?_
  unfold pVar at q
  cases e : ρ[i]? with
  | none => rw [e] at q; exact q.elim
  | some y =>
    cases y with
    | none => rw [e] at q; exact q.elim
    | some y =>
      rw [e] at q
      obtain ⟨v, h1, G, h2⟩ := r.sl.get e
      exact ⟨v, h1, q v H Z O [] (Ext.refl _ _ _ _) r.g (h2.vw r.g) List.nodup_nil fun a ha => by cases ha⟩
theorem okC {K : PySem.W.Frag} {d : D} {v : V} {σ : St} {H : Hp} {Q : VK} (rep : ∀ C, Rep K C v d) (h : tP K E (pC d) σ H Q) : Q v H := by
  obtain ⟨Z, O, ρ, F, r, q⟩ := h
  exact q v H Z O [] (Ext.refl _ _ _ _) r.g ⟨rep Z, rfl⟩ List.nodup_nil fun a ha => by cases ha
theorem s_int {i j pos} : PE X (.Constant (.int i) j pos) (tP X.K E (pC (.int i))) := pe_int.imp fun σ H Q h => okC (fun _ => .int i) h
theorem s_bl {b j pos} : PE X (.Constant (.bool b) j pos) (tP X.K E (pC (.bool b))) := pe_bl.imp fun σ H Q h => okC (fun _ => .bl b) h
theorem s_non {j pos} : PE X (.Constant .none j pos) (tP X.K E (pC .none)) := pe_non.imp fun σ H Q h => okC (fun _ => .non) h
theorem s_str {x j pos} : PE X (.Constant (.str x) j pos) (tP X.K E (pC (.str x))) := pe_str.imp fun σ H Q h => okC (fun _ => .str x) h
/-- a constant of the module: an int, a tuple of such -/
theorem s_glob {x : Str} {v : V} {u : Value} {d : D} {pos : Pos} (hg : Gl X x) (hm : X.mg x = some u) (r : RelV v u) (rep : ∀ C, Rep X.K C v d) (hd : (x == ("__debug__" : Str)) = false := by decide) : PE X (.Name x pos) (tP X.K E (pC d)) :=
  (pe_glob hg hm r hd).imp fun σ H Q h => okC rep h
end

/-! ### two in a row -/
def Op2 (K : PySem.W.Frag) (T : R2) (f : R → R → Res R) : Prop := ∀ (E : XK) (Z O H : Hp) (x y : V) (a b : R) (F G : List Addr) (Q : VK), Good Z O H → RepR K Z O H x a F → RepR K Z O H y b G → (F ++ G).Nodup → (∀ c ∈ F ++ G, O c = none) →
  ResK K E (F ++ G) Z O H (f a b) Q → T x y H Q
def p2 (f : R → R → Res R) (p q : Px) : Px := fun ρ => (p ρ).bind fun a => (q ρ).bind fun b => f a b
section
variable {K : PySem.W.Frag} {E : XK} {p q : Px}
/-- a first one, then the rest -/
theorem tP_bind {k : R → Ev → Res R} {σ : St} {H : Hp} {Q : VK} (h : tP K E (fun ρ => (p ρ).bind fun a => k a ρ) σ H Q) {T : V → Hp → Prop}
    (next : ∀ (Z O H1 Z1 O1 : Hp) (ρ : Ev) (F G : List Addr) (v : V) (a : R), Rel K Z O H σ ρ F → Ext [] Z O H Z1 O1 H1 → Rel K Z1 O1 H1 σ ρ F → RepR K Z1 O1 H1 v a G → G.Nodup → (∀ c ∈ G, H c = none ∧ O1 c = none) → ResK K E [] Z O H (k a ρ) Q → T v H1) :
    tP K E p σ H T := by
  obtain ⟨Z, O, ρ, F, r, h⟩ := h
  refine ⟨Z, O, ρ, F, r, ?_⟩
  have h2 : ResK K E [] Z O H ((p ρ).bind fun a => k a ρ) Q := h
  cases e : p ρ with
  | bad => rw [e] at h2; exact h2.elim
  | exc c fs => rw [e] at h2; exact h2
  | ok a =>
    rw [e] at h2
    intro v H1 Z1 O1 G x1 g1 r1 nd f
    exact next Z O H1 Z1 O1 ρ F G v a r x1 (r.ext x1 g1) r1 nd (fun c hc => ⟨(f c hc).1.elim id (fun z => by cases z), (f c hc).2⟩) h2
theorem tP_op2 {T : R2} {f : R → R → Res R} (hf : Op2 K T f) {σ : St} {H : Hp} {Q : VK} (h : tP K E (p2 f p q) σ H Q) : tOp T (tP K E p) (tP K E q) σ H Q := by
  refine tP_bind (k := fun a ρ => (q ρ).bind fun b => f a b) h fun Z O H1 Z1 O1 ρ F G v a r x1 r1 q1 nd fr h2 => ?_
  refine ⟨Z1, O1, ρ, F, r1, ?_⟩
  cases e : q ρ with
  | bad => rw [e] at h2; exact h2.elim
  | exc c fs => rw [e] at h2; exact ExcK.ext h2 x1
  | ok b =>
    rw [e] at h2
    intro w H2 Z2 O2 G2 x2 g2 q2 nd2 fr2
    have h3 : ResK K E [] Z O H (f a b) Q := h2
    have n12 : (G ++ G2).Nodup := nodup_fresh nd nd2 (fun c hc => let ⟨o, z, _⟩ := q1.live c hc; ⟨o, z⟩) (fun c hc => (fr2 c hc).1.elim id fun z => by cases z)
    refine hf E Z2 O2 H2 v w a b G G2 Q g2 (q1.ext x2) q2 n12 (fun c hc => ?_) (h3.ext (x1.trans0 x2) fun c hc => ?_)
    · rcases List.mem_append.mp hc with hc | hc
      · cases z : O2 c with
        | none => rfl
        | some o =>
          obtain ⟨o1, w1, _⟩ := q1.live c hc
          rcases x2.on c (by rw [z]; simp) with y | y | y
          · exact absurd (fr c hc).2 y
          · rw [w1] at y; cases y
          · cases y
      · exact (fr2 c hc).2
    · rcases List.mem_append.mp hc with hc | hc
      · exact (fr c hc).1
      · exact x1.h.free ((fr2 c hc).1.elim id fun z => by cases z)
end
section
variable {X : Cx} {E : XK} {a b : Expr} {p q : Px} {pos : Pos}
theorem s_op {op : Operator} {T : R2} {f : R → R → Res R} (ho : OpR X (binaryOp op) T) (hf : Op2 X.K T f) (ha : PE X a (tP X.K E p)) (hb : PE X b (tP X.K E q)) : PE X (.BinOp a op b pos) (tP X.K E (p2 f p q)) :=
  (pe_op ho ha hb).imp fun σ H Q h => tP_op2 hf h
theorem s_cmp {op : CmpOp} {T : R2} {f : R → R → Res R} (ho : OpR X (compareOp op) T) (hf : Op2 X.K T f) (ha : PE X a (tP X.K E p)) (hb : PE X b (tP X.K E q)) (hm : behindInMarks op b = false) : PE X (.Compare a [op] [b] pos) (tP X.K E (p2 f p q)) :=
  (pe_cmpR ho ha hb hm).imp fun σ H Q h => tP_op2 hf h
theorem s_ix {T : R2} {f : R → R → Res R} (ho : IxR X T) (hf : Op2 X.K T f) (ha : PE X a (tP X.K E p)) (hb : PE X b (tP X.K E q)) (hs : PlainIx b := by exact fun _ _ => rfl) : PE X (.Subscript a b pos) (tP X.K E (p2 f p q)) :=
  (pe_ix ho ha hb hs).imp fun σ H Q h => tP_op2 hf h
/-- a bool as a test -/
def tVal (p : Px) : Tx := fun ρ => (p ρ).bind fun r => match r.d with
  | .bool b => .ok b
  | _ => .bad
theorem tT_val {K : PySem.W.Frag} {σ : St} {H : Hp} {Q : Bool → Hp → Prop} (h : tT K E (tVal p) σ H Q) : tP K E p σ H fun x H' => ∃ k, x = .bl k ∧ Q k H' := by
  obtain ⟨Z, O, ρ, F, r, h⟩ := h
  refine ⟨Z, O, ρ, F, r, ?_⟩
  unfold tVal at h
  cases e : p ρ with
  | bad => rw [e] at h; exact h.elim
  | exc c fs => rw [e] at h; exact h
  | ok a =>
    rw [e] at h
    obtain ⟨s, d⟩ := a
    cases d with
    | bool k =>
      intro v H' Z' O' G x g q nd f
      have lk := q.look g
      cases lk
      exact ⟨k, rfl, h H' Z' O' x g⟩
    | _ => exact h.elim
theorem s_tcmp {op : CmpOp} {T : R2} {f : R → R → Res R} (ho : OpR X (compareOp op) T) (hf : Op2 X.K T f) (ha : PE X a (tP X.K E p)) (hb : PE X b (tP X.K E q)) (hm : behindInMarks op b = false) : PT X (.Compare a [op] [b] pos) (tT X.K E (tVal (p2 f p q))) :=
  (pt_cmpR ho ha hb hm).imp fun σ H Q h => tP_op2 hf (tT_val h)
/-- truth -/
def truth : D → Option Bool
  | .none => some false
  | .bool b => some b
  | .int i => some (i != 0)
  | .str x => if x.length ≤ sizeLine then some ((x.length : Int) != 0) else none
  | .list xs => some (!xs.isEmpty)
  | .tuple xs => some (!xs.isEmpty)
  | .dict [] => some false
  | .dict ((.int _, _) :: _) => some true
  | .dict ((.str _, _) :: _) => some true
  | .dict _ => none
def tTru (p : Px) : Tx := fun ρ => (p ρ).bind fun r => match truth r.d with
  | some b => .ok b
  | none => .bad
theorem Reps.isEmpty {K : PySem.W.Frag} {C : Hp} {vs : List V} {ds : List D} (h : Reps K C vs ds) : (!vs.isEmpty) = !ds.isEmpty := by
  cases h <;> rfl
theorem truth_ok {K : PySem.W.Frag} {H : Hp} {v : V} {d : D} {b : Bool} (h : Rep K H v d) (e : truth d = some b) : TruV K v H b := by
  cases h with
  | non => exact (Option.some.inj e).symm
  | bl _ => exact (Option.some.inj e).symm
  | int _ => exact (Option.some.inj e).symm
  | str x =>
    have e2 : (if x.length ≤ sizeLine then some ((x.length : Int) != 0) else none) = some b := e
    by_cases h : x.length ≤ sizeLine
    · rw [if_pos h] at e2
      exact ⟨h, (Option.some.inj e2).symm⟩
    · rw [if_neg h] at e2
      cases e2
  | lst h r => exact .inl ⟨_, .inl (.inl h), by rw [r.isEmpty]; exact (Option.some.inj e).symm⟩
  | scr h r => cases e
  | tup h r => exact .inr (.inl ⟨_, h, by rw [r.isEmpty]; exact (Option.some.inj e).symm⟩)
  | dct h k r =>
    rename_i a kvs es
    refine .inr (.inr ⟨_, h, ?_⟩)
    cases kvs with
    | nil =>
      cases es with
      | nil => exact (Option.some.inj e).symm
      | cons x xs => simp at k
    | cons y ys =>
      cases es with
      | nil => simp at k
      | cons x xs =>
        obtain ⟨k1, k2⟩ := x
        simp only [List.map_cons, List.cons.injEq] at k
        obtain ⟨k0, _⟩ := k
        obtain ⟨y1, y2⟩ := y
        subst k0
        cases y1 with
        | inl i => exact (Option.some.inj e).symm
        | inr x => exact (Option.some.inj e).symm
  | obj h c k r => cases e
theorem s_tru (ha : PE X a (tP X.K E p)) (he : ∀ whole, isTrue a X.env whole = (do let v ← whole; standAt a.pos; holding [v] (truthy v)) := by exact fun _ => rfl) : PT X a (tT X.K E (tTru p)) := by
  refine (pt_truth ha he).imp fun σ H Q h => ?_
  obtain ⟨Z, O, ρ, F, r, h⟩ := h
  refine ⟨Z, O, ρ, F, r, ?_⟩
  unfold tTru at h
  cases e : p ρ with
  | bad => rw [e] at h; exact h.elim
  | exc c fs => rw [e] at h; exact h
  | ok a =>
    rw [e] at h
    intro v H' Z' O' G x g q nd f
    have h2 : (match (match truth a.d with | some b => (Res.ok b : Res Bool) | none => .bad) with
      | .bad => False
      | .ok b => ∀ H' Z' O', Ext [] Z O H Z' O' H' → Good Z' O' H' → Q b H'
      | .exc c fs => ExcK X.K E Z O H c fs) := h
    cases z : truth a.d with
    | none => rw [z] at h2; exact h2.elim
    | some b =>
      rw [z] at h2
      exact ⟨b, truth_ok (q.look g) z, h2 H' Z' O' x g⟩
end
end Oz

namespace Oz
open PySem PySem.Spec L2
open PyProof.Rows hiding St

/-! ### operations whose result is a plain value -/
def at2 (f : D → D → Option D) (a b : R) : Res R := match f a.d b.d with
  | some d => .ok ⟨.imm, d⟩
  | none => .bad
section
variable {K : PySem.W.Frag} {E : XK} {Z O H : Hp} {Q : VK} {W : List Addr}
theorem OkK.imm {d : D} (g : Good Z O H) (h : OkK K W Z O H ⟨.imm, d⟩ Q) {v : V} (r : Rep K Z v d) : Q v H := h v H Z O [] (Ext.refl _ _ _ _) g ⟨r, rfl⟩ List.nodup_nil fun a ha => by cases ha
theorem op2_at {T : R2} {f : D → D → Option D} (h : ∀ (H : Hp) (x y : V) (a b d : D) (Q : VK), Rep K H x a → Rep K H y b → f a b = some d → (∀ v, (∀ C, Rep K C v d) → Q v H) → T x y H Q) : Op2 K T (at2 f) := by
  intro E Z O H x y a b F G Q g ra rb nd fo q
  unfold at2 at q
  cases e : f a.d b.d with
  | none => rw [e] at q; exact q.elim
  | some d =>
    rw [e] at q
    exact h H x y a.d b.d d Q (ra.look g) (rb.look g) e fun v r => OkK.imm g q (r Z)
end
def i2 (f : Int → Int → Option D) : D → D → Option D := fun a b => match a, b with
  | .int i, .int j => f i j
  | _, _ => none
theorem i2_some {f : Int → Int → Option D} {a b d : D} (h : i2 f a b = some d) : ∃ i j, a = .int i ∧ b = .int j ∧ f i j = some d := by
  cases a with
  | int i => cases b with
    | int j => exact ⟨i, j, rfl, rfl, h⟩
    | _ => cases h
  | _ => cases h
abbrev fSub := i2 fun i j => some (.int (i - j))
noncomputable abbrev fMul := i2 fun i j => if gd (decide ((-(2 ^ 64) < i ∧ i < 2 ^ 64) ∨ (-(2 ^ 64) < j ∧ j < 2 ^ 64))) = true then some (.int (i * j)) else none
noncomputable abbrev fDiv := i2 fun i j => if gd (decide (0 < j ∧ j < 1073741824)) = true then some (.int (i / j)) else none
noncomputable abbrev fMod := i2 fun i j => if gd (decide (0 < j)) = true then some (.int (i % j)) else none
noncomputable abbrev fPow := i2 fun i j => if gd (decide (0 ≤ j ∧ j ≤ 1000000 ∧ i.natAbs < 2 ^ 64)) = true then some (.int (i ^ j.toNat)) else none
abbrev fLt := i2 fun i j => some (.bool (decide (i < j)))
abbrev fLe := i2 fun i j => some (.bool (decide (i ≤ j)))
abbrev fGt := i2 fun i j => some (.bool (decide (j < i)))
abbrev fGe := i2 fun i j => some (.bool (decide (j ≤ i)))
section
variable {K : PySem.W.Frag}
theorem op2_i {C : Int → Int → Prop} {g : Int → Int → V} {f : Int → Int → Option D} (h : ∀ i j d, f i j = some d → C i j ∧ ∀ X, Rep K X (g i j) d) : Op2 K (rI C g) (at2 (i2 f)) :=
  op2_at fun H x y a b d Q ra rb e q => by
    obtain ⟨i, j, rfl, rfl, e2⟩ := i2_some e
    cases ra
    cases rb
    obtain ⟨h1, h2⟩ := h i j d e2
    exact ⟨i, j, rfl, rfl, h1, q _ h2⟩
theorem op2_i0 {g : Int → Int → V} {f : Int → Int → Option D} (h : ∀ i j d, f i j = some d → ∀ X, Rep K X (g i j) d) : Op2 K (rI0 g) (at2 (i2 f)) :=
  op2_at fun H x y a b d Q ra rb e q => by
    obtain ⟨i, j, rfl, rfl, e2⟩ := i2_some e
    cases ra
    cases rb
    exact ⟨i, j, rfl, rfl, q _ (h i j d e2)⟩
theorem ite_some {c : Prop} [Decidable c] {x y : D} (h : (if c then some x else none) = some y) : c ∧ x = y := by
  by_cases e : c
  · rw [if_pos e] at h; exact ⟨e, Option.some.inj h⟩
  · rw [if_neg e] at h; cases h
theorem o_sub : Op2 K (rI0 fun i j => .int (i - j)) (at2 fSub) := op2_i0 fun i j d e X => Option.some.inj e ▸ .int _
theorem o_mul : Op2 K (rI CMul fun i j => .int (i * j)) (at2 fMul) := op2_i fun i j d e => ⟨by have h := gd_el (ite_some e).1; simpa [CMul, CDiv, CPow] using h, fun X => (ite_some e).2 ▸ .int _⟩
theorem o_div : Op2 K (rI CDiv fun i j => .int (i / j)) (at2 fDiv) := op2_i fun i j d e => ⟨by have h := gd_el (ite_some e).1; simpa [CMul, CDiv, CPow] using h, fun X => (ite_some e).2 ▸ .int _⟩
theorem o_mod : Op2 K (rI (fun _ j => 0 < j) fun i j => .int (i % j)) (at2 fMod) := op2_i fun i j d e => ⟨by have h := gd_el (ite_some e).1; simpa [CMul, CDiv, CPow] using h, fun X => (ite_some e).2 ▸ .int _⟩
theorem o_pow : Op2 K (rI CPow fun i j => .int (i ^ j.toNat)) (at2 fPow) := op2_i fun i j d e => ⟨by have h := gd_el (ite_some e).1; simpa [CMul, CDiv, CPow] using h, fun X => (ite_some e).2 ▸ .int _⟩
theorem o_lt : Op2 K (rI0 fun i j => .bl (decide (i < j))) (at2 fLt) := op2_i0 fun i j d e X => Option.some.inj e ▸ .bl _
theorem o_le : Op2 K (rI0 fun i j => .bl (decide (i ≤ j))) (at2 fLe) := op2_i0 fun i j d e X => Option.some.inj e ▸ .bl _
theorem o_gt : Op2 K (rI0 fun i j => .bl (decide (j < i))) (at2 fGt) := op2_i0 fun i j d e X => Option.some.inj e ▸ .bl _
theorem o_ge : Op2 K (rI0 fun i j => .bl (decide (j ≤ i))) (at2 fGe) := op2_i0 fun i j d e X => Option.some.inj e ▸ .bl _
end

/-! ### new things -/
section
variable {K : PySem.W.Frag} {E : XK} {Z O H : Hp} {Q : VK} {W : List Addr}
/-- a new tuple of lasting things -/
theorem OkK.tup {ds : List D} {vs : List V} (g : Good Z O H) (h : OkK K W Z O H ⟨.imm, .tuple ds⟩ Q) (r : Reps K Z vs ds) {p : Addr} (np : H p = none) : Q (.ref p) (upd H p (.tup vs)) := by
  obtain ⟨e, g'⟩ := ext_frz (o := .tup vs) g np
  exact h _ _ _ _ [] (e.mono fun _ z => by cases z) g' ⟨.tup (.inl (.inl upd_same)) (r.mono e.z), rfl⟩ List.nodup_nil fun a ha => by cases ha
/-- a new list of lasting things, that lasts -/
theorem OkK.lstF {ds : List D} {vs : List V} (g : Good Z O H) (h : OkK K W Z O H ⟨.imm, .list ds⟩ Q) (r : Reps K Z vs ds) {p : Addr} (np : H p = none) : Q (.ref p) (upd H p (.lst vs)) := by
  obtain ⟨e, g'⟩ := ext_frz (o := .lst vs) g np
  exact h _ _ _ _ [] (e.mono fun _ z => by cases z) g' ⟨.lst upd_same (r.mono e.z), rfl⟩ List.nodup_nil fun a ha => by cases ha
/-- a new list of one's own, its items' cells at G -/
theorem OkK.lstO {ds : List D} {vs : List V} {G : List Addr} (g : Good Z O H) (h : OkK K W Z O H ⟨.own, .list ds⟩ Q) (r : Owns K Z H vs ds G) (nd : G.Nodup) (gw : ∀ a ∈ G, (H a = none ∨ a ∈ W) ∧ O a = none) {p : Addr} (np : H p = none) : Q (.ref p) (upd H p (.lst vs)) := by
  obtain ⟨e, g'⟩ := ext_new (o := .lst vs) g np rfl
  have pG : p ∉ G := fun z => by
    obtain ⟨o, q, _⟩ := r.live p z
    rw [np] at q
    cases q
  refine h _ _ _ _ (p :: G) (e.mono fun _ z => by cases z) g' (.lst upd_same (Owns.mono (Same.refl _) (fun a _ o q => e.h a o q) r)) (List.nodup_cons.mpr ⟨pG, nd⟩) fun a ha => ?_
  rcases List.mem_cons.mp ha with z | z
  · rw [z]; exact ⟨.inl np, none_of g.oh np⟩
  · exact gw a z
/-- all lists are one's own or lasting -/
def dnew (s : Sx) (ds : List D) : Res R := if lfs ds = true then .ok ⟨.own, .list ds⟩ else if s = .imm then .ok ⟨.imm, .list ds⟩ else .bad
theorem lfs_val : ∀ {ds : List D}, lfs ds = true → ds.all isVal = true
  | [], _ => rfl
  | x :: xs, h => by
    have q : (_ && _) = true := h
    obtain ⟨q1, q2⟩ := Bool.and_eq_true_iff.mp q
    rw [List.all_cons, lf_val q1, lfs_val q2]
    rfl
theorem lfs_append : ∀ (xs ys : List D), lfs (xs ++ ys) = (lfs xs && lfs ys)
  | [], ys => by simp [lfs]
  | x :: xs, ys => by simp only [List.cons_append, lfs, lfs_append xs ys, Bool.and_assoc]
theorem Reps.upD {vs : List V} {ds : List D} (g : Good Z O H) (r : Reps K H vs ds) (l : lfs ds = true) : Reps K Z vs ds := r.up g.tz l
theorem dnew_ok {s : Sx} {ds : List D} {vs : List V} (g : Good Z O H) (q : ResK K E W Z O H (dnew s ds) Q) (r : Reps K H vs ds) (rz : s = .imm → Reps K Z vs ds) {p : Addr} (np : H p = none) : Q (.ref p) (upd H p (.lst vs)) := by
  unfold dnew at q
  by_cases l : lfs ds = true
  · rw [if_pos l] at q
    exact OkK.lstO g q (.of_reps (r.upD g l) (lfs_val l)) List.nodup_nil (fun a ha => by cases ha) np
  · rw [if_neg l] at q
    by_cases e : s = .imm
    · rw [if_pos e] at q
      exact OkK.lstF g q (rz e) np
    · rw [if_neg e] at q
      exact q.elim
def tnew (s : Sx) (ds : List D) : Res R := if lfs ds = true ∨ s = .imm then .ok ⟨.imm, .tuple ds⟩ else .bad
theorem tnew_z {s : Sx} {ds : List D} {vs : List V} (g : Good Z O H) (q : ResK K E W Z O H (tnew s ds) Q) (r : Reps K H vs ds) (rz : s = .imm → Reps K Z vs ds) : Reps K Z vs ds ∧ OkK K W Z O H ⟨.imm, .tuple ds⟩ Q := by
  unfold tnew at q
  by_cases l : lfs ds = true ∨ s = .imm
  · rw [if_pos l] at q
    exact ⟨l.elim (fun l => r.upD g l) rz, q⟩
  · rw [if_neg l] at q
    exact q.elim
theorem tnew_ok {s : Sx} {ds : List D} {vs : List V} (g : Good Z O H) (q : ResK K E W Z O H (tnew s ds) Q) (r : Reps K H vs ds) (rz : s = .imm → Reps K Z vs ds) {p : Addr} (np : H p = none) : Q (.ref p) (upd H p (.tup vs)) := by
  obtain ⟨h1, h2⟩ := tnew_z g q r rz
  exact OkK.tup g h2 h1 np
/-- the place of two -/
def both (s t : Sx) : Sx := if s = .imm ∧ t = .imm then .imm else .view
theorem both_imm {s t : Sx} (h : both s t = .imm) : s = .imm ∧ t = .imm := by
  unfold both at h
  by_cases e : s = .imm ∧ t = .imm
  · exact e
  · rw [if_neg e] at h; cases h
end

/-! ### + -/
def addR (a b : R) : Res R := match a.d, b.d with
  | .int i, .int j => .ok ⟨.imm, .int (i + j)⟩
  | .str x, .str y => if x.length + y.length ≤ sizeLine then .ok ⟨.imm, .str (x ++ y)⟩ else .bad
  | .list xs, .list ys => if xs.length + ys.length ≤ sizeLine then dnew (both a.s b.s) (xs ++ ys) else .bad
  | .tuple xs, .tuple ys => if xs.length + ys.length ≤ sizeLine then tnew (both a.s b.s) (xs ++ ys) else .bad
  | _, _ => .bad
def rAdd4 (K : PySem.W.Frag) : R2 := fun x y H Q => rI0 (fun i j => .int (i + j)) x y H Q ∨ (∃ i j, x = .str i ∧ y = .str j ∧ i.length + j.length ≤ sizeLine ∧ Q (.str (i ++ j)) H) ∨ rCat x y H Q ∨ rCatA K x y H Q
theorem op_add4 {X : Cx} : OpR X (binaryOp .Add) (rAdd4 X.K) := OpR.or op_add (OpR.or op_add_str (OpR.or op_cat op_catA))
section
variable {K : PySem.W.Frag} {Z O H : Hp}
theorem RepR.zlist {v : V} {s : Sx} {ds : List D} {F : List Addr} (h : RepR K Z O H v ⟨s, .list ds⟩ F) (e : s = .imm) : ∃ p vs, v = .ref p ∧ Z p = some (.lst vs) ∧ Reps K Z vs ds := by
  subst e
  obtain ⟨h, _⟩ := h
  have h1 : Rep K Z v (.list ds) := h
  cases h1 with
  | lst hz r => exact ⟨_, _, rfl, hz, r⟩
theorem RepR.ztup {v : V} {s : Sx} {ds : List D} {F : List Addr} (h : RepR K Z O H v ⟨s, .tuple ds⟩ F) (e : s = .imm) : ∃ p vs, v = .ref p ∧ SqT K Z p vs ∧ Reps K Z vs ds := by
  subst e
  obtain ⟨h, _⟩ := h
  have h1 : Rep K Z v (.tuple ds) := h
  cases h1 with
  | tup hz r => exact ⟨_, _, rfl, hz, r⟩
end
/-- what a tuple's place holds is one thing, if the two heaps are of one state -/
def TupInj (K : PySem.W.Frag) (H : Hp) : Prop := ∀ a xs ys, SqT K H a xs → SqT K H a ys → xs = ys
theorem o_add {K : PySem.W.Frag} : Op2 K (rAdd4 K) addR := by
  intro E Z O H x y a b F G Q g ra rb nd fo q
  obtain ⟨s, a⟩ := a
  obtain ⟨t, b⟩ := b
  have la := ra.look g
  have lb := rb.look g
  cases a with
  | int i => cases b with
    | int j =>
      cases la
      cases lb
      exact .inl ⟨i, j, rfl, rfl, OkK.imm g q (.int _)⟩
    | _ => exact q.elim
  | str i => cases b with
    | str j =>
      cases la
      cases lb
      have q2 : ResK K E (F ++ G) Z O H (if i.length + j.length ≤ sizeLine then .ok ⟨.imm, .str (i ++ j)⟩ else .bad) Q := q
      by_cases h : i.length + j.length ≤ sizeLine
      · rw [if_pos h] at q2
        exact .inr (.inl ⟨i, j, rfl, rfl, h, OkK.imm g q2 (.str _)⟩)
      · rw [if_neg h] at q2
        exact q2.elim
    | _ => exact q.elim
  | list xs => cases b with
    | list ys =>
      have q2 : ResK K E (F ++ G) Z O H (if xs.length + ys.length ≤ sizeLine then dnew (both s t) (xs ++ ys) else .bad) Q := q
      by_cases h : xs.length + ys.length ≤ sizeLine
      · rw [if_pos h] at q2
        cases la with
        | lst ha r1 => cases lb with
          | lst hb r2 =>
            refine .inr (.inr (.inl ⟨_, _, _, _, rfl, rfl, ha, hb, by rw [r1.length, r2.length]; exact h, fun p np => dnew_ok g q2 (r1.append r2) (fun e => ?_) np⟩))
            obtain ⟨e1, e2⟩ := both_imm e
            obtain ⟨p1, v1, z1, z2, z3⟩ := ra.zlist e1
            obtain ⟨p2, v2, w1, w2, w3⟩ := rb.zlist e2
            cases z1
            cases w1
            have u1 := g.zh _ _ z2
            have u2 := g.zh _ _ w2
            rw [ha] at u1
            rw [hb] at u2
            cases u1
            cases u2
            exact z3.append w3
      · rw [if_neg h] at q2
        exact q2.elim
    | _ => exact q.elim
  | tuple xs => cases b with
    | tuple ys =>
      have q2 : ResK K E (F ++ G) Z O H (if xs.length + ys.length ≤ sizeLine then tnew (both s t) (xs ++ ys) else .bad) Q := q
      by_cases h : xs.length + ys.length ≤ sizeLine
      · rw [if_pos h] at q2
        -- the two as lasting ones
        have key : ∃ p1 p2 v1 v2, x = .ref p1 ∧ y = .ref p2 ∧ SqT K Z p1 v1 ∧ SqT K Z p2 v2 ∧ Reps K Z v1 xs ∧ Reps K Z v2 ys ∧ OkK K (F ++ G) Z O H ⟨.imm, .tuple (xs ++ ys)⟩ Q := by
          unfold tnew at q2
          by_cases l : lfs (xs ++ ys) = true ∨ both s t = .imm
          · rw [if_pos l] at q2
            rcases l with l | l
            · rw [lfs_append] at l
              obtain ⟨l1, l2⟩ := Bool.and_eq_true_iff.mp l
              cases la with
              | tup ha r1 => cases lb with
                | tup hb r2 => exact ⟨_, _, _, _, rfl, rfl, tup_in g.tz ha, tup_in g.tz hb, r1.upD g l1, r2.upD g l2, q2⟩
            · obtain ⟨e1, e2⟩ := both_imm l
              obtain ⟨p1, v1, z1, z2, z3⟩ := ra.ztup e1
              obtain ⟨p2, v2, w1, w2, w3⟩ := rb.ztup e2
              exact ⟨_, _, _, _, z1, w1, z2, w2, z3, w3, q2⟩
          · rw [if_neg l] at q2
            exact q2.elim
        obtain ⟨p1, p2, v1, v2, rfl, rfl, h1, h2, r1, r2, q3⟩ := key
        refine .inr (.inr (.inr ⟨p1, p2, v1, v2, rfl, rfl, Same.seqT g.zh h1, Same.seqT g.zh h2, by rw [r1.length, r2.length]; exact h, fun e => ?_, fun _ e => ?_, fun _ _ p np => OkK.tup g q3 (r1.append r2) np⟩))
        · subst e
          cases r1
          exact OkK.imm g q3 (.tup h2 r2)
        · subst e
          cases r2
          rw [List.append_nil] at q3
          exact OkK.imm g q3 (.tup h1 r1)
      · rw [if_neg h] at q2
        exact q2.elim
    | _ => exact q.elim
  | _ => exact q.elim

/-! ### items -/
def sub (s : Sx) (d : D) : R := if lf d = true then ⟨.imm, d⟩ else match s with
  | .own => ⟨.view, d⟩
  | .brw => ⟨.view, d⟩
  | s => ⟨s, d⟩
def ixR (a b : R) : Res R := match b.d with
  | .int i => (match a.d with
    | .list ds => (match atI ds i with
      | some d => .ok (sub a.s d)
      | none => .bad)
    | .tuple ds => (match atI ds i with
      | some d => .ok (sub a.s d)
      | none => .bad)
    | .dict [(.none, .list ds)] => (match atI ds i with
      | some d => .ok (sub .view d)
      | none => .bad)
    | _ => .bad)
  | _ => .bad
section
variable {K : PySem.W.Frag} {E : XK} {Z O H : Hp} {Q : VK} {W : List Addr}
theorem Reps.at {C : Hp} {vs : List V} {ds : List D} {i : Int} {d : D} (h : Reps K C vs ds) (e : atI ds i = some d) : ∃ v, atI vs i = some v ∧ Rep K C v d := by
  unfold atI at e ⊢
  rw [h.length]
  cases q : ixN ds.length i with
  | none => rw [q] at e; cases e
  | some j =>
    rw [q] at e
    exact h.get e
theorem OkK.sub {s : Sx} {d : D} {v : V} (g : Good Z O H) (h : OkK K W Z O H (Oz.sub s d) Q) (rv : Rep K H v d) (ri : s = .imm → Rep K Z v d) (ro : s = .out → Rep K O v d) : Q v H := by
  unfold Oz.sub at h
  by_cases l : lf d = true
  · rw [if_pos l] at h
    exact OkK.imm g h (rv.up g.tz l)
  · rw [if_neg l] at h
    cases s with
    | imm => exact OkK.imm g h (ri rfl)
    | out => exact h v H Z O [] (Ext.refl _ _ _ _) g ⟨ro rfl, rfl⟩ List.nodup_nil fun a ha => by cases ha
    | view => exact h v H Z O [] (Ext.refl _ _ _ _) g ⟨rv, rfl⟩ List.nodup_nil fun a ha => by cases ha
    | own => exact h v H Z O [] (Ext.refl _ _ _ _) g ⟨rv, rfl⟩ List.nodup_nil fun a ha => by cases ha
    | brw => exact h v H Z O [] (Ext.refl _ _ _ _) g ⟨rv, rfl⟩ List.nodup_nil fun a ha => by cases ha
theorem o_ix : Op2 K (rIx K) ixR := by
  intro E Z O H x y a b F G Q g ra rb nd fo q
  obtain ⟨s, a⟩ := a
  obtain ⟨t, b⟩ := b
  have la := ra.look g
  have lb := rb.look g
  cases b with
  | int i =>
    cases lb
    cases la with
    | lst h r =>
      rename_i p xs ds
      have q2 : ResK K E (F ++ G) Z O H (match atI ds i with | some d => .ok (sub s d) | none => .bad) Q := q
      cases e : atI ds i with
      | none => rw [e] at q2; exact q2.elim
      | some d =>
        rw [e] at q2
        obtain ⟨v, hv, rv⟩ := r.at e
        refine .inl ⟨_, xs, i, v, rfl, rfl, .inl (.inl h), hv, OkK.sub g q2 rv (fun es => ?_) fun es => ?_⟩
        · obtain ⟨p1, v1, z1, z2, z3⟩ := ra.zlist es
          cases z1
          have u := g.zh _ _ z2
          rw [h] at u
          cases u
          obtain ⟨v', hv', rv'⟩ := z3.at e
          rw [hv] at hv'
          cases hv'
          exact rv'
        · subst es
          obtain ⟨h1, _⟩ := ra
          have h2 : Rep K O (.ref p) (.list ds) := h1
          cases h2 with
          | lst ho ro =>
            have u := g.oh _ _ ho
            rw [h] at u
            cases u
            obtain ⟨v', hv', rv'⟩ := ro.at e
            rw [hv] at hv'
            cases hv'
            exact rv'
    | scr h r =>
      rename_i p xs ds
      have q2 : ResK K E (F ++ G) Z O H (match atI ds i with | some d => .ok (sub .view d) | none => .bad) Q := q
      cases e : atI ds i with
      | none => rw [e] at q2; exact q2.elim
      | some d =>
        rw [e] at q2
        obtain ⟨v, hv, rv⟩ := r.at e
        exact .inl ⟨_, xs, i, v, rfl, rfl, h.sqL, hv, OkK.sub g q2 rv (fun es => by cases es) fun es => by cases es⟩
    | tup h r =>
      rename_i p xs ds
      have q2 : ResK K E (F ++ G) Z O H (match atI ds i with | some d => .ok (sub s d) | none => .bad) Q := q
      cases e : atI ds i with
      | none => rw [e] at q2; exact q2.elim
      | some d =>
        rw [e] at q2
        -- by the kind of place
        have key : ∃ xs' v, SqT K H p xs' ∧ atI xs' i = some v ∧ Rep K H v d ∧ (s = .imm → Rep K Z v d) ∧ (s = .out → Rep K O v d) := by
          by_cases es : s = .imm
          · obtain ⟨p1, v1, z1, z2, z3⟩ := ra.ztup es
            cases z1
            obtain ⟨v', hv', rv'⟩ := z3.at e
            exact ⟨v1, v', Same.seqT g.zh z2, hv', rv'.mono g.zh, fun _ => rv', fun e2 => by rw [es] at e2; cases e2⟩
          · by_cases eo : s = .out
            · subst eo
              obtain ⟨h1, _⟩ := ra
              have h2 : Rep K O (.ref p) (.tuple ds) := h1
              cases h2 with
              | tup ho ro =>
                obtain ⟨v', hv', rv'⟩ := ro.at e
                exact ⟨_, v', Same.seqT g.oh ho, hv', rv'.mono g.oh, (fun e2 => by cases e2), fun _ => rv'⟩
            · obtain ⟨v, hv, rv⟩ := r.at e
              exact ⟨xs, v, h, hv, rv, fun e2 => absurd e2 es, fun e2 => absurd e2 eo⟩
        obtain ⟨xs', v, h1, h2, h3, h4, h5⟩ := key
        exact .inr (.inl ⟨_, xs', i, v, rfl, rfl, h1, h2, OkK.sub g q2 h3 h4 h5⟩)
    | non => exact q.elim
    | bl _ => exact q.elim
    | int _ => exact q.elim
    | str _ => exact q.elim
    | dct h k r =>
      rename_i p kvs es
      cases es with
      | nil => exact q.elim
      | cons e0 es =>
        obtain ⟨k1, v1⟩ := e0
        cases kvs with
        | nil => simp at k
        | cons y ys =>
          simp only [List.map_cons, List.cons.injEq] at k
          obtain ⟨k0, _⟩ := k
          obtain ⟨y1, y2⟩ := y
          subst k0
          cases y1 with
          | inl i => exact q.elim
          | inr z => exact q.elim
    | obj h c k r => exact q.elim
  | _ => exact q.elim
end
end Oz

namespace Oz
open PySem PySem.Spec L2
open PyProof.Rows hiding St

/-! ### == and in -/
def atomD : D → Bool
  | .none => true
  | .bool _ => true
  | .int _ => true
  | .str _ => true
  | _ => false
mutual
theorem canLay_pl : ∀ {d : D}, d.canLay0 = true → pl d = true
  | .none, _ => rfl
  | .bool _, _ => rfl
  | .int _, _ => rfl
  | .str _, _ => rfl
  | .list xs, h => by
    simp only [PyData.canLay0] at h
    simp only [pl]
    exact canLay_pls h
  | .tuple xs, h => by
    simp only [PyData.canLay0] at h
    simp only [pl]
    exact canLay_pls h
  | .dict _, h => by simp [PyData.canLay0] at h
theorem canLay_pls : ∀ {ds : List D}, PyData.canLayAll0 ds = true → pls ds = true
  | [], _ => rfl
  | x :: xs, h => by
    simp only [PyData.canLayAll0, Bool.and_eq_true] at h
    simp only [pls, Bool.and_eq_true]
    exact ⟨canLay_pl h.1, canLay_pls h.2⟩
end
def fEq (a b : D) : Option Bool := match a, b with
  | .int i, .int j => some (i == j)
  | .str x, .str y => some (x == y)
  | .str _, .none => some false
  | .none, .str _ => some false
  | .int _, .none => some false
  | .none, .int _ => some false
  | .int _, .str _ => some false
  | .str _, .int _ => some false
  | a, b => if SeqAt.shaped a = true ∧ SeqAt.shaped b = true then some (PyData.eqv a b) else none
def dBool (o : Option Bool) : Option D := o.map .bool
def dNot (o : Option Bool) : Option D := o.map fun b => .bool (!b)
abbrev eqF : D → D → Option D := fun a b => dBool (fEq a b)
abbrev neF : D → D → Option D := fun a b => dNot (fEq a b)
def rEq2 (K : PySem.W.Frag) : R2 := fun x y H Q => rEq x y H Q ∨ rEqD K x y H Q
def rNe2 (K : PySem.W.Frag) : R2 := fun x y H Q => rNe x y H Q ∨ rNeD K x y H Q
theorem op_eq2 {X : Cx} (hu : X.A.units + 64 < cLine) : OpR X (compareOp .Eq) (rEq2 X.K) := OpR.or op_eq (op_eqD hu)
theorem op_ne2 {X : Cx} (hu : X.A.units + 64 < cLine) : OpR X (compareOp .NotEq) (rNe2 X.K) := OpR.or op_ne (op_neD hu)
theorem shaped_pl {d : D} (h : SeqAt.shaped d = true) : pl d = true := canLay_pl (SeqAt.canLay_of_shaped h)
/-- what == answers: of flat values, or of data -/
theorem fEq_ok {K : PySem.W.Frag} {H : Hp} {x y : V} {a b : D} {k : Bool} (ra : Rep K H x a) (rb : Rep K H y b) (e : fEq a b = some k) :
    (scal x y = true ∧ decide (x = y) = k) ∨ (Dp K H x a ∧ Dp K H y b ∧ SeqAt.shaped a = true ∧ SeqAt.shaped b = true ∧ PyData.eqv a b = k) := by
  have deep : (if SeqAt.shaped a = true ∧ SeqAt.shaped b = true then some (PyData.eqv a b) else none) = some k → (Dp K H x a ∧ Dp K H y b ∧ SeqAt.shaped a = true ∧ SeqAt.shaped b = true ∧ PyData.eqv a b = k) := fun e => by
    by_cases h : SeqAt.shaped a = true ∧ SeqAt.shaped b = true
    · rw [if_pos h] at e
      exact ⟨ra.dp (shaped_pl h.1), rb.dp (shaped_pl h.2), h.1, h.2, Option.some.inj e⟩
    · rw [if_neg h] at e
      cases e
  cases ra with
  | int i => cases rb with
    | int j => exact .inl ⟨rfl, by rw [dec_int]; exact Option.some.inj e⟩
    | str j => exact .inl ⟨rfl, by rw [decide_eq_false (by intro h; cases h)]; exact Option.some.inj e⟩
    | non => exact .inl ⟨rfl, by rw [decide_eq_false (by intro h; cases h)]; exact Option.some.inj e⟩
    | _ => exact .inr (deep e)
  | str i => cases rb with
    | str j => exact .inl ⟨rfl, by rw [dec_str]; exact Option.some.inj e⟩
    | int j => exact .inl ⟨rfl, by rw [decide_eq_false (by intro h; cases h)]; exact Option.some.inj e⟩
    | non => exact .inl ⟨rfl, by rw [decide_eq_false (by intro h; cases h)]; exact Option.some.inj e⟩
    | _ => exact .inr (deep e)
  | non => cases rb with
    | int j => exact .inl ⟨rfl, by rw [decide_eq_false (by intro h; cases h)]; exact Option.some.inj e⟩
    | str j => exact .inl ⟨rfl, by rw [decide_eq_false (by intro h; cases h)]; exact Option.some.inj e⟩
    | _ => exact .inr (deep e)
  | _ => exact .inr (deep (by cases rb <;> exact e))
section
variable {K : PySem.W.Frag}
theorem o_eq : Op2 K (rEq2 K) (at2 eqF) := op2_at fun H x y a b d Q ra rb e q => by
  cases h : fEq a b with
  | none => simp [eqF, dBool, h] at e
  | some k =>
    have e2 : PyData.bool k = d := by simpa [eqF, dBool, h] using e
    subst e2
    rcases fEq_ok ra rb h with ⟨h1, h2⟩ | ⟨h1, h2, h3, h4, h5⟩
    · exact .inl ⟨h1, by rw [h2]; exact q _ fun _ => .bl _⟩
    · exact .inr ⟨a, b, h1, h2, h3, h4, by rw [h5]; exact q _ fun _ => .bl _⟩
theorem o_ne : Op2 K (rNe2 K) (at2 neF) := op2_at fun H x y a b d Q ra rb e q => by
  cases h : fEq a b with
  | none => simp [neF, dNot, h] at e
  | some k =>
    have e2 : PyData.bool (!k) = d := by simpa [neF, dNot, h] using e
    subst e2
    rcases fEq_ok ra rb h with ⟨h1, h2⟩ | ⟨h1, h2, h3, h4, h5⟩
    · exact .inl ⟨h1, by rw [h2]; exact q _ fun _ => .bl _⟩
    · exact .inr ⟨a, b, h1, h2, h3, h4, by rw [h5]; exact q _ fun _ => .bl _⟩
end
/-- items of a row -/
def itemsD : D → Option (List D)
  | .list ds => some ds
  | .tuple ds => some ds
  | _ => none
def fIn (a b : D) : Option Bool := match itemsD b with
  | some ds => if atomD a = true ∧ ds.all atomD = true then some (ds.any fun z => PyData.eqv z a) else if SeqAt.shaped a = true ∧ SeqAt.shaped b = true then some (ds.any fun z => PyData.eqv z a) else none
  | none => none
abbrev inF : D → D → Option D := fun a b => dBool (fIn a b)
abbrev ninF : D → D → Option D := fun a b => dNot (fIn a b)
def rInT (K : PySem.W.Frag) (neg : Bool) : R2 := fun x y H Q => ∃ d ds, Dp K H x d ∧ Dp K H y (.tuple ds) ∧ SeqAt.shaped d = true ∧ SeqAt.shaped (.tuple ds) = true ∧ Q (.bl (if neg then !(ds.any fun z => PyData.eqv z d) else ds.any fun z => PyData.eqv z d)) H
section
variable {X : Cx}
theorem op_inT (hu : X.A.units + 65 < cLine) : OpR X (compareOp .In) (rInT X.K false) := by
  intro pins s σ H x y v u Q I rx ry h
  obtain ⟨d, ds, hd, he, sd, se, q⟩ := h
  obtain ⟨as, r1⟩ := Dp.reads I d x v hd rx
  obtain ⟨bs, r2⟩ := Dp.reads I (.tuple ds) y u he ry
  exact SeqAt.in_tuple_reads r2 r1 (SeqAt.canLay_of_shaped se) (SeqAt.canLay_of_shaped sd) (room_in_shaped (xs := ds) sd hu) ⟨.bl _, H, I, rfl, q⟩
theorem op_notInT (hu : X.A.units + 65 < cLine) : OpR X (compareOp .NotIn) (rInT X.K true) := by
  intro pins s σ H x y v u Q I rx ry h
  obtain ⟨d, ds, hd, he, sd, se, q⟩ := h
  obtain ⟨as, r1⟩ := Dp.reads I d x v hd rx
  obtain ⟨bs, r2⟩ := Dp.reads I (.tuple ds) y u he ry
  exact SeqAt.notIn_tuple_reads r2 r1 (SeqAt.canLay_of_shaped se) (SeqAt.canLay_of_shaped sd) (room_in_shaped (xs := ds) sd hu) ⟨.bl _, H, I, rfl, q⟩
end
def rIn3 (K : PySem.W.Frag) : R2 := fun x y H Q => rIn K false x y H Q ∨ rInD K x y H Q ∨ rInT K false x y H Q
def rNin3 (K : PySem.W.Frag) : R2 := fun x y H Q => rIn K true x y H Q ∨ rNotInD K x y H Q ∨ rInT K true x y H Q
theorem op_in3 {X : Cx} (hu : X.A.units + 65 < cLine) : OpR X (compareOp .In) (rIn3 X.K) := OpR.or op_in_seq (OpR.or (op_inD hu) (op_inT hu))
theorem op_nin3 {X : Cx} (hu : X.A.units + 65 < cLine) : OpR X (compareOp .NotIn) (rNin3 X.K) := OpR.or op_notIn_seq (OpR.or (op_notInD hu) (op_notInT hu))
section
variable {K : PySem.W.Frag} {H : Hp}
theorem atom_flat {v : V} {d : D} (r : Rep K H v d) (h : atomD d = true) : flatV v = true := by
  cases r <;> first | rfl | cases h
theorem atom_eqv {v w : V} {d e : D} (r : Rep K H v d) (r2 : Rep K H w e) (h : atomD d = true) (h2 : atomD e = true) : eqV v w = PyData.eqv d e := by
  cases r <;> first | (cases h; done) | (cases r2 <;> first | (cases h2; done) | simp [eqV, PyData.eqv])
theorem atoms_in {x : V} {a : D} (rx : Rep K H x a) (hx : atomD a = true) : ∀ {vs : List V} {ds : List D}, Reps K H vs ds → ds.all atomD = true → vs.all flatV = true ∧ inV x vs = ds.any fun z => PyData.eqv z a
  | _, _, .nil, _ => ⟨rfl, rfl⟩
  | _, _, .cons r s, h => by
    rw [List.all_cons] at h
    obtain ⟨h1, h2⟩ := Bool.and_eq_true_iff.mp h
    obtain ⟨i1, i2⟩ := atoms_in rx hx s h2
    refine ⟨by rw [List.all_cons, atom_flat r h1, i1]; rfl, ?_⟩
    unfold inV at i2 ⊢
    rw [List.any_cons, List.any_cons, i2, atom_eqv r rx h1 hx]
theorem items_ok {y : V} {b : D} {ds : List D} (r : Rep K H y b) (e : itemsD b = some ds) : ∃ p vs, y = .ref p ∧ (SqL K H p vs ∨ SqT K H p vs) ∧ Reps K H vs ds := by
  cases r with
  | lst h r => cases e; exact ⟨_, _, rfl, .inl (.inl (.inl h)), r⟩
  | tup h r => cases e; exact ⟨_, _, rfl, .inr h, r⟩
  | _ => cases e
theorem items_kind {b : D} {ds : List D} (e : itemsD b = some ds) : b = .list ds ∨ b = .tuple ds := by
  cases b with
  | list xs => cases e; exact .inl rfl
  | tuple xs => cases e; exact .inr rfl
  | _ => cases e
theorem fIn_ok {x y : V} {a b : D} {k : Bool} (ra : Rep K H x a) (rb : Rep K H y b) (e : fIn a b = some k) :
    (∃ p xs, y = .ref p ∧ (SqL K H p xs ∨ SqT K H p xs) ∧ flatV x = true ∧ xs.all flatV = true ∧ inV x xs = k) ∨
      (∃ ds, Dp K H x a ∧ Dp K H y b ∧ (b = .list ds ∨ b = .tuple ds) ∧ SeqAt.shaped a = true ∧ SeqAt.shaped b = true ∧ (ds.any fun z => PyData.eqv z a) = k) := by
  unfold fIn at e
  cases h : itemsD b with
  | none => rw [h] at e; cases e
  | some ds =>
    rw [h] at e
    have e2 : (if atomD a = true ∧ ds.all atomD = true then some (ds.any fun z => PyData.eqv z a) else if SeqAt.shaped a = true ∧ SeqAt.shaped b = true then some (ds.any fun z => PyData.eqv z a) else none) = some k := e
    by_cases h1 : atomD a = true ∧ ds.all atomD = true
    · rw [if_pos h1] at e2
      obtain ⟨p, vs, h3, h4, h5⟩ := items_ok rb h
      obtain ⟨i1, i2⟩ := atoms_in ra h1.1 h5 h1.2
      exact .inl ⟨p, vs, h3, h4, atom_flat ra h1.1, i1, i2.trans (Option.some.inj e2)⟩
    · rw [if_neg h1] at e2
      by_cases h2 : SeqAt.shaped a = true ∧ SeqAt.shaped b = true
      · rw [if_pos h2] at e2
        exact .inr ⟨ds, ra.dp (shaped_pl h2.1), rb.dp (shaped_pl h2.2), items_kind h, h2.1, h2.2, Option.some.inj e2⟩
      · rw [if_neg h2] at e2
        cases e2
theorem o_in : Op2 K (rIn3 K) (at2 inF) := op2_at fun H x y a b d Q ra rb e q => by
  cases h : fIn a b with
  | none => simp [inF, dBool, h] at e
  | some k =>
    have e2 : PyData.bool k = d := by simpa [inF, dBool, h] using e
    subst e2
    rcases fIn_ok ra rb h with ⟨p, xs, h1, h2, h3, h4, h5⟩ | ⟨ds, h1, h2, h3, h4, h5, h6⟩
    · exact .inl ⟨p, xs, h1, h2, h3, h4, by rw [if_neg Bool.false_ne_true, h5]; exact q _ fun _ => .bl _⟩
    · rcases h3 with rfl | rfl
      · exact .inr (.inl ⟨a, ds, h1, h2, h4, h5, by rw [h6]; exact q _ fun _ => .bl _⟩)
      · exact .inr (.inr ⟨a, ds, h1, h2, h4, h5, by rw [if_neg Bool.false_ne_true, h6]; exact q _ fun _ => .bl _⟩)
theorem o_nin : Op2 K (rNin3 K) (at2 ninF) := op2_at fun H x y a b d Q ra rb e q => by
  cases h : fIn a b with
  | none => simp [ninF, dNot, h] at e
  | some k =>
    have e2 : PyData.bool (!k) = d := by simpa [ninF, dNot, h] using e
    subst e2
    rcases fIn_ok ra rb h with ⟨p, xs, h1, h2, h3, h4, h5⟩ | ⟨ds, h1, h2, h3, h4, h5, h6⟩
    · exact .inl ⟨p, xs, h1, h2, h3, h4, by rw [if_pos rfl, h5]; exact q _ fun _ => .bl _⟩
    · rcases h3 with rfl | rfl
      · exact .inr (.inl ⟨a, ds, h1, h2, h4, h5, by rw [h6]; exact q _ fun _ => .bl _⟩)
      · exact .inr (.inr ⟨a, ds, h1, h2, h4, h5, by rw [if_pos rfl, h6]; exact q _ fun _ => .bl _⟩)
end
/-- is None -/
def isNon : D → Bool
  | .none => true
  | _ => false
def isF (a b : D) : Option D := match b with
  | .none => some (.bool (isNon a))
  | _ => none
def isnF (a b : D) : Option D := match b with
  | .none => some (.bool (!isNon a))
  | _ => none
theorem isNon_ok {K : PySem.W.Frag} {H : Hp} {x : V} {a : D} (r : Rep K H x a) : decide (x = .non) = isNon a := by
  cases r <;> first | rfl | exact decide_eq_false (by intro h; cases h)
theorem o_is {K : PySem.W.Frag} : Op2 K (fun x y H Q => y = .non ∧ Q (.bl (decide (x = .non))) H) (at2 isF) := op2_at fun H x y a b d Q ra rb e q => by
  cases rb with
  | non => cases e; exact ⟨rfl, by rw [isNon_ok ra]; exact q _ fun _ => .bl _⟩
  | _ => cases e
theorem o_isn {K : PySem.W.Frag} : Op2 K (fun x y H Q => y = .non ∧ Q (.bl (!decide (x = .non))) H) (at2 isnF) := op2_at fun H x y a b d Q ra rb e q => by
  cases rb with
  | non => cases e; exact ⟨rfl, by rw [isNon_ok ra]; exact q _ fun _ => .bl _⟩
  | _ => cases e

/-! ### and, or, not, if -/
def pAnd (p q : Px) : Px := fun ρ => (p ρ).bind fun r => match truth r.d with
  | some true => q ρ
  | some false => .ok r
  | none => .bad
def pOr (p q : Px) : Px := fun ρ => (p ρ).bind fun r => match truth r.d with
  | some true => .ok r
  | some false => q ρ
  | none => .bad
def pNot (p : Px) : Px := fun ρ => (p ρ).bind fun r => match truth r.d with
  | some b => .ok ⟨.imm, .bool (!b)⟩
  | none => .bad
def pIf (t : Tx) (p q : Px) : Px := fun ρ => (t ρ).bind fun b => if b = true then p ρ else q ρ
def tAndD (t u : Tx) : Tx := fun ρ => (t ρ).bind fun b => if b = true then u ρ else .ok false
def tOrD (t u : Tx) : Tx := fun ρ => (t ρ).bind fun b => if b = true then .ok true else u ρ
def tNotD (t : Tx) : Tx := fun ρ => (t ρ).bind fun b => .ok (!b)
section
variable {K : PySem.W.Frag} {E : XK} {Z O H Z1 O1 H1 : Hp} {σ : St} {ρ : Ev} {F : List Addr} {Q : VK}
/-- go on in the state behind -/
theorem tP_go {p : Px} (r : Rel K Z O H σ ρ F) (e : Ext [] Z O H Z1 O1 H1) (r1 : Rel K Z1 O1 H1 σ ρ F) (q : ResK K E [] Z O H (p ρ) Q) : tP K E p σ H1 Q :=
  ⟨Z1, O1, ρ, F, r1, q.ext e fun a ha => by cases ha⟩
theorem pAnd_ok {p q : Px} (h : tP K E (pAnd p q) σ H Q) : tAndT K (tP K E p) (tP K E q) σ H Q := by
  refine tP_bind (k := fun r ρ => match truth r.d with | some true => q ρ | some false => .ok r | none => .bad) h fun Z O H1 Z1 O1 ρ F G v a r x1 r1 q1 nd fr h2 => ?_
  cases e : truth a.d with
  | none => rw [e] at h2; exact h2.elim
  | some b =>
    refine ⟨b, truth_ok (q1.look r1.g) e, ?_⟩
    rw [e] at h2
    cases b with
    | true => exact tP_go r x1 r1 h2
    | false => exact h2 v H1 Z1 O1 G x1 r1.g q1 nd fun c hc => ⟨.inl (fr c hc).1, (fr c hc).2⟩
theorem pOr_ok {p q : Px} (h : tP K E (pOr p q) σ H Q) : tOrT K (tP K E p) (tP K E q) σ H Q := by
  refine tP_bind (k := fun r ρ => match truth r.d with | some true => .ok r | some false => q ρ | none => .bad) h fun Z O H1 Z1 O1 ρ F G v a r x1 r1 q1 nd fr h2 => ?_
  cases e : truth a.d with
  | none => rw [e] at h2; exact h2.elim
  | some b =>
    refine ⟨b, truth_ok (q1.look r1.g) e, ?_⟩
    rw [e] at h2
    cases b with
    | false => exact tP_go r x1 r1 h2
    | true => exact h2 v H1 Z1 O1 G x1 r1.g q1 nd fun c hc => ⟨.inl (fr c hc).1, (fr c hc).2⟩
theorem pNot_ok {p : Px} (h : tP K E (pNot p) σ H Q) : tNotT K (tP K E p) σ H Q := by
  refine tP_bind (k := fun r ρ => match truth r.d with | some b => .ok ⟨.imm, .bool (!b)⟩ | none => .bad) h fun Z O H1 Z1 O1 ρ F G v a r x1 r1 q1 nd fr h2 => ?_
  cases e : truth a.d with
  | none => rw [e] at h2; exact h2.elim
  | some b =>
    refine ⟨b, truth_ok (q1.look r1.g) e, ?_⟩
    rw [e] at h2
    exact h2 _ H1 Z1 O1 [] x1 r1.g ⟨.bl _, rfl⟩ List.nodup_nil fun c hc => by cases hc
theorem tT_bind {t : Tx} {Q : Prop} {k : Bool → Ev → Prop} {σ : St} {H : Hp} {T : Bool → Hp → Prop} (h : ∃ Z O ρ F, Rel K Z O H σ ρ F ∧ match t ρ with
      | .bad => False
      | .ok b => ∀ H' Z' O', Ext [] Z O H Z' O' H' → Good Z' O' H' → T b H'
      | .exc c fs => ExcK K E Z O H c fs) : tT K E t σ H T := h
theorem pIf_ok {t : Tx} {p q : Px} (h : tP K E (pIf t p q) σ H Q) : tIf (tT K E t) (tP K E p) (tP K E q) σ H Q := by
  obtain ⟨Z, O, ρ, F, r, h⟩ := h
  refine ⟨Z, O, ρ, F, r, ?_⟩
  unfold pIf at h
  cases e : t ρ with
  | bad => rw [e] at h; exact h.elim
  | exc c fs => rw [e] at h; exact h
  | ok b =>
    rw [e] at h
    intro H1 Z1 O1 x1 g1
    cases b with
    | true =>
      have h2 : ResK K E [] Z O H (p ρ) Q := h
      exact tP_go r x1 (r.ext x1 g1) h2
    | false =>
      have h2 : ResK K E [] Z O H (q ρ) Q := h
      exact tP_go r x1 (r.ext x1 g1) h2
theorem tT_go {t : Tx} {Q : Bool → Hp → Prop} (e : Ext [] Z O H Z1 O1 H1) (r1 : Rel K Z1 O1 H1 σ ρ F) (q : match t ρ with
      | .bad => False
      | .ok b => ∀ H' Z' O', Ext [] Z O H Z' O' H' → Good Z' O' H' → Q b H'
      | .exc c fs => ExcK K E Z O H c fs) : tT K E t σ H1 Q := by
  refine ⟨Z1, O1, ρ, F, r1, ?_⟩
  cases z : t ρ with
  | bad => rw [z] at q; exact q.elim
  | exc c fs => rw [z] at q; exact ExcK.ext q e
  | ok b => rw [z] at q; exact fun H' Z' O' x g => q H' Z' O' (e.trans0 x) g
theorem tAnd_ok {t u : Tx} {Q : Bool → Hp → Prop} (h : tT K E (tAndD t u) σ H Q) : tAnd (tT K E t) (tT K E u) σ H Q := by
  obtain ⟨Z, O, ρ, F, r, h⟩ := h
  refine ⟨Z, O, ρ, F, r, ?_⟩
  unfold tAndD at h
  cases e : t ρ with
  | bad => rw [e] at h; exact h.elim
  | exc c fs => rw [e] at h; exact h
  | ok b =>
    rw [e] at h
    intro H1 Z1 O1 x1 g1
    cases b with
    | true => exact tT_go x1 (r.ext x1 g1) h
    | false => exact h H1 Z1 O1 x1 g1
theorem tOr_ok {t u : Tx} {Q : Bool → Hp → Prop} (h : tT K E (tOrD t u) σ H Q) : tOr (tT K E t) (tT K E u) σ H Q := by
  obtain ⟨Z, O, ρ, F, r, h⟩ := h
  refine ⟨Z, O, ρ, F, r, ?_⟩
  unfold tOrD at h
  cases e : t ρ with
  | bad => rw [e] at h; exact h.elim
  | exc c fs => rw [e] at h; exact h
  | ok b =>
    rw [e] at h
    intro H1 Z1 O1 x1 g1
    cases b with
    | false => exact tT_go x1 (r.ext x1 g1) h
    | true => exact h H1 Z1 O1 x1 g1
theorem tNot_ok {t : Tx} {Q : Bool → Hp → Prop} (h : tT K E (tNotD t) σ H Q) : tNot (tT K E t) σ H Q := by
  obtain ⟨Z, O, ρ, F, r, h⟩ := h
  refine ⟨Z, O, ρ, F, r, ?_⟩
  unfold tNotD at h
  cases e : t ρ with
  | bad => rw [e] at h; exact h.elim
  | exc c fs => rw [e] at h; exact h
  | ok b =>
    rw [e] at h
    exact fun H1 Z1 O1 x1 g1 => h H1 Z1 O1 x1 g1
end
section
variable {X : Cx} {E : XK} {a b c : Expr} {rest : List Expr} {p q : Px} {t u : Tx} {pos : Pos}
theorem s_one {op} (h : PE X a (tP X.K E p)) : PE X (.BoolOp op [a] pos) (tP X.K E p) := pe_one h
theorem s_and (ha : PE X a (tP X.K E p)) (hb : PE X (.BoolOp .And (b :: rest) pos) (tP X.K E q)) : PE X (.BoolOp .And (a :: b :: rest) pos) (tP X.K E (pAnd p q)) := (pe_andT ha hb).imp fun _ _ _ h => pAnd_ok h
theorem s_or (ha : PE X a (tP X.K E p)) (hb : PE X (.BoolOp .Or (b :: rest) pos) (tP X.K E q)) : PE X (.BoolOp .Or (a :: b :: rest) pos) (tP X.K E (pOr p q)) := (pe_orT ha hb).imp fun _ _ _ h => pOr_ok h
theorem s_not (ha : PE X a (tP X.K E p)) : PE X (.UnaryOp .Not a pos) (tP X.K E (pNot p)) := (pe_notT ha).imp fun _ _ _ h => pNot_ok h
theorem s_if (hc : PT X c (tT X.K E t)) (ha : PE X a (tP X.K E p)) (hb : PE X b (tP X.K E q)) : PE X (.IfExp c a b pos) (tP X.K E (pIf t p q)) := (pe_ifExp hc ha hb).imp fun _ _ _ h => pIf_ok h
theorem s_tand1 (ha : PT X a (tT X.K E t)) : PW X (.BoolOp .And [a] pos) (tT X.K E t) := pw_and1 ha
theorem s_tor1 (ha : PT X a (tT X.K E t)) : PW X (.BoolOp .Or [a] pos) (tT X.K E t) := pw_or1 ha
theorem s_tand (ha : PT X a (tT X.K E t)) (hb : PW X (.BoolOp .And (b :: rest) pos) (tT X.K E u)) : PW X (.BoolOp .And (a :: b :: rest) pos) (tT X.K E (tAndD t u)) := (pw_and ha hb).imp fun _ _ _ h => tAnd_ok h
theorem s_tor (ha : PT X a (tT X.K E t)) (hb : PW X (.BoolOp .Or (b :: rest) pos) (tT X.K E u)) : PW X (.BoolOp .Or (a :: b :: rest) pos) (tT X.K E (tOrD t u)) := (pw_or ha hb).imp fun _ _ _ h => tOr_ok h
theorem s_tnot (ha : PT X a (tT X.K E t)) : PT X (.UnaryOp .Not a pos) (tT X.K E (tNotD t)) := (pt_not ha).imp fun _ _ _ h => tNot_ok h
end

/-! ### arguments, displays -/
section
variable {X : Cx} {E : XK} {e : Expr} {es : List Expr} {p : Px} {ps : List Px} {pos : Pos}
theorem s_anil : PA X [] (tA X.K E []) := by
  refine pa_nil.imp fun σ H Q h => ?_
  obtain ⟨Z, O, ρ, F, r, h⟩ := h
  have h2 : OksK X.K Z O H [] Q := h
  exact h2 [] H Z O [] (Ext.refl _ _ _ _) r.g .nil List.nodup_nil fun a ha => by cases ha
theorem s_acons (ha : PE X e (tP X.K E p)) (hr : PA X es (tA X.K E ps)) (hs : starEach (e :: es) X.env = (false, eval e X.env) :: starEach es X.env := by rfl) : PA X (e :: es) (tA X.K E (p :: ps)) := by
  refine (pa_cons ha hr hs).imp fun σ H Q h => ?_
  obtain ⟨Z, O, ρ, F, r, h⟩ := h
  refine ⟨Z, O, ρ, F, r, ?_⟩
  have h1 : match ((p ρ).bind fun r => (evs ps ρ).bind fun rs => (Res.ok (r :: rs) : Res (List R))) with
    | .bad => False
    | .ok rs => OksK X.K Z O H rs Q
    | .exc c fs => ExcK X.K E Z O H c fs := h
  cases z : p ρ with
  | bad => rw [z] at h1; exact h1.elim
  | exc c fs => rw [z] at h1; exact h1
  | ok a =>
    rw [z] at h1
    intro v H1 Z1 O1 G x1 g1 q1 nd fr
    refine ⟨Z1, O1, ρ, F, r.ext x1 g1, ?_⟩
    cases y : evs ps ρ with
    | bad => rw [y] at h1; exact h1.elim
    | exc c fs => rw [y] at h1; exact ExcK.ext h1 x1
    | ok rs =>
      rw [y] at h1
      intro vs H2 Z2 O2 G2 x2 g2 q2 nd2 fr2
      have h2 : OksK X.K Z O H (a :: rs) Q := h1
      refine h2 (v :: vs) H2 Z2 O2 (G ++ G2) (x1.trans0 x2) g2 (.cons (q1.ext x2) q2) (nodup_fresh nd nd2 (fun c hc => let ⟨o, z, _⟩ := q1.live c hc; ⟨o, z⟩) fun c hc => (fr2 c hc).1) fun c hc => ?_
      rcases List.mem_append.mp hc with hc | hc
      · refine ⟨(fr c hc).1.elim id (fun z => by cases z), ?_⟩
        cases z : O2 c with
        | none => rfl
        | some o =>
          obtain ⟨o1, w1, _⟩ := q1.live c hc
          rcases x2.on c (by rw [z]; simp) with y | y | y
          · exact absurd (fr c hc).2 y
          · rw [w1] at y; cases y
          · cases y
      · exact ⟨x1.h.free (fr2 c hc).1, (fr2 c hc).2⟩
end
/-- the items of a tuple's display: lasting; of one's own, they last from now on -/
def frzR (r : R) : Option D := match r.s with
  | .imm => some r.d
  | _ => if lf r.d = true then some r.d else none
def frzs : List R → Option (List D)
  | [] => some []
  | r :: rs => match frzR r, frzs rs with
    | some d, some ds => some (d :: ds)
    | _, _ => none
section
variable {K : PySem.W.Frag} {Z O H : Hp}
theorem frzR_ok {v : V} {r : R} {G : List Addr} {d : D} (g : Good Z O H) (q : RepR K Z O H v r G) (e : frzR r = some d) : Rep K Z v d := by
  obtain ⟨s, x⟩ := r
  have lk := q.look g
  cases s with
  | imm => cases e; exact q.1
  | out => obtain ⟨l, rfl⟩ := ite_some (c := lf x = true) e; exact lk.up g.tz l
  | view => obtain ⟨l, rfl⟩ := ite_some (c := lf x = true) e; exact lk.up g.tz l
  | own => obtain ⟨l, rfl⟩ := ite_some (c := lf x = true) e; exact lk.up g.tz l
  | brw => obtain ⟨l, rfl⟩ := ite_some (c := lf x = true) e; exact lk.up g.tz l
theorem frzs_ok (g : Good Z O H) : ∀ {vs : List V} {rs : List R} {G : List Addr} {ds : List D}, RepRs K Z O H vs rs G → frzs rs = some ds → Reps K Z vs ds
  | _, _, _, _, .nil, e => by cases e; exact .nil
  | _, _, _, ds, .cons (r := r) (rs := rs) q s, e => by
    unfold frzs at e
    cases h1 : frzR r with
    | none => rw [h1] at e; cases e
    | some d =>
      rw [h1] at e
      cases h2 : frzs rs with
      | none => rw [h2] at e; cases e
      | some ds' =>
        rw [h2] at e
        cases e
        exact .cons (frzR_ok g q h1) (frzs_ok g s h2)
/-- the items of a list of one's own -/
def ownR (r : R) : Option D := match r.s with
  | .own => some r.d
  | _ => if lf r.d = true then some r.d else if r.s = .imm ∧ isVal r.d = true then some r.d else none
def owns : List R → Option (List D)
  | [] => some []
  | r :: rs => match ownR r, owns rs with
    | some d, some ds => some (d :: ds)
    | _, _ => none
theorem ownR_ok {v : V} {r : R} {G : List Addr} {d : D} (g : Good Z O H) (q : RepR K Z O H v r G) (e : ownR r = some d) : ∃ G', Own K Z H v d G' ∧ (G' = G ∨ G' = []) := by
  obtain ⟨s, x⟩ := r
  have lk := q.look g
  have easy : ∀ {y : Option D}, (if lf x = true then some x else if s = .imm ∧ isVal x = true then some x else none) = some d → ∃ G', Own K Z H v d G' ∧ (G' = G ∨ G' = []) := fun h => by
    by_cases l : lf x = true
    · rw [if_pos l] at h
      cases h
      exact ⟨[], .imm (lk.up g.tz l) (lf_val l), .inr rfl⟩
    · rw [if_neg l] at h
      by_cases l2 : s = .imm ∧ isVal x = true
      · rw [if_pos l2] at h
        cases h
        obtain ⟨e1, e2⟩ := l2
        subst e1
        exact ⟨[], .imm q.1 e2, .inr rfl⟩
      · rw [if_neg l2] at h
        cases h
  cases s with
  | own => cases e; exact ⟨G, q, .inl rfl⟩
  | imm => exact easy (y := none) e
  | out => exact easy (y := none) e
  | view => exact easy (y := none) e
  | brw => exact easy (y := none) e
theorem owns_ok (g : Good Z O H) : ∀ {vs : List V} {rs : List R} {G : List Addr} {ds : List D}, RepRs K Z O H vs rs G → owns rs = some ds → G.Nodup → ∃ G', Owns K Z H vs ds G' ∧ G'.Nodup ∧ ∀ a ∈ G', a ∈ G
  | _, _, _, _, .nil, e, _ => by cases e; exact ⟨[], .nil, List.nodup_nil, fun _ h => h⟩
  | _, _, _, ds, .cons (r := r) (rs := rs) (F := F) (G := G) q s, e, nd => by
    unfold owns at e
    cases h1 : ownR r with
    | none => rw [h1] at e; cases e
    | some d =>
      rw [h1] at e
      cases h2 : owns rs with
      | none => rw [h2] at e; cases e
      | some ds' =>
        rw [h2] at e
        cases e
        obtain ⟨n1, n2, n3⟩ := List.nodup_append.mp nd
        obtain ⟨F', o1, c1⟩ := ownR_ok g q h1
        obtain ⟨G', o2, m2, s2⟩ := owns_ok g s h2 n2
        have sF : ∀ a ∈ F', a ∈ F := fun a ha => by
          rcases c1 with e | e
          · rw [e] at ha; exact ha
          · rw [e] at ha; cases ha
        refine ⟨F' ++ G', .cons o1 o2, ?_, fun a ha => ?_⟩
        · refine List.nodup_append.mpr ⟨?_, m2, fun a ha b hb => n3 a (sF a ha) b (s2 b hb)⟩
          rcases c1 with e | e
          · rw [e]; exact n1
          · rw [e]; exact List.nodup_nil
        · rcases List.mem_append.mp ha with ha | ha
          · exact List.mem_append_left _ (sF a ha)
          · exact List.mem_append_right _ (s2 a ha)
end
def pTup (ps : List Px) : Px := fun ρ => (evs ps ρ).bind fun rs => match frzs rs with
  | some ds => if ds.length ≤ sizeLine then .ok ⟨.imm, .tuple ds⟩ else .bad
  | none => .bad
def pLst (ps : List Px) : Px := fun ρ => (evs ps ρ).bind fun rs => match owns rs with
  | some ds => if ds.length ≤ sizeLine then .ok ⟨.own, .list ds⟩ else .bad
  | none => .bad
section
variable {X : Cx} {E : XK} {es : List Expr} {ps : List Px} {pos : Pos}
theorem tA_bind {K : PySem.W.Frag} {E : XK} {ps : List Px} {k : List R → Res R} {σ : St} {H : Hp} {Q : VK} {T : List V → Hp → Prop} (h : tP K E (fun ρ => (evs ps ρ).bind k) σ H Q)
    (next : ∀ (Z O H1 : Hp) (G : List Addr) (vs : List V) (rs : List R), Good Z O H1 → RepRs K Z O H1 vs rs G → G.Nodup → (∀ c ∈ G, O c = none) → ResK K E G Z O H1 (k rs) Q → T vs H1) : tA K E ps σ H T := by
  obtain ⟨Z, O, ρ, F, r, h⟩ := h
  refine ⟨Z, O, ρ, F, r, ?_⟩
  have h1 : ResK K E [] Z O H ((evs ps ρ).bind k) Q := h
  cases e : evs ps ρ with
  | bad => rw [e] at h1; exact h1.elim
  | exc c fs => rw [e] at h1; exact h1
  | ok rs =>
    rw [e] at h1
    intro vs H1 Z1 O1 G x1 g1 q1 nd fr
    exact next Z1 O1 H1 G vs rs g1 q1 nd (fun c hc => (fr c hc).2) (ResK.ext h1 x1 fun c hc => (fr c hc).1)
theorem s_tup {x1} (h : PA X es (tA X.K E ps)) : PE X (.Tuple es x1 pos) (tP X.K E (pTup ps)) := by
  refine (pe_tup h).imp fun σ H Q h => ?_
  refine tA_bind h fun Z O H1 G vs rs g q nd fo h2 => ?_
  cases e : frzs rs with
  | none => rw [e] at h2; exact h2.elim
  | some ds =>
    rw [e] at h2
    have h3 : ResK X.K E G Z O H1 (if ds.length ≤ sizeLine then .ok ⟨.imm, .tuple ds⟩ else .bad) Q := h2
    have rz := frzs_ok g q e
    by_cases l : ds.length ≤ sizeLine
    · rw [if_pos l] at h3
      exact ⟨by rw [rz.length]; exact l, fun p np => OkK.tup g h3 rz np⟩
    · rw [if_neg l] at h3
      exact h3.elim
theorem s_lst (h : PA X es (tA X.K E ps)) : PE X (.List es pos) (tP X.K E (pLst ps)) := by
  refine (pe_lst h).imp fun σ H Q h => ?_
  refine tA_bind h fun Z O H1 G vs rs g q nd fo h2 => ?_
  cases e : owns rs with
  | none => rw [e] at h2; exact h2.elim
  | some ds =>
    rw [e] at h2
    have h3 : ResK X.K E G Z O H1 (if ds.length ≤ sizeLine then .ok ⟨.own, .list ds⟩ else .bad) Q := h2
    obtain ⟨G', ro, n', s'⟩ := owns_ok g q e nd
    by_cases l : ds.length ≤ sizeLine
    · rw [if_pos l] at h3
      exact ⟨by rw [ro.length]; exact l, fun p np => OkK.lstO g h3 ro n' (fun a ha => ⟨.inr (s' a ha), fo a (s' a ha)⟩) np⟩
    · rw [if_neg l] at h3
      exact h3.elim
end
end Oz

namespace Oz
open PySem PySem.Spec L2
open PyProof.Rows hiding St

/-! ### what a def promises -/
inductive Md where
  | i | v | m
  deriving DecidableEq
inductive FR where
  | bad
  | ok (r : R) (ms : List D)
  | exc (c : Str) (fs : List (Str × D)) (ms : List D)
abbrev Fn := List D → FR
def without (H : Hp) (F : List Addr) : Hp := fun a => if a ∈ F then none else H a
theorem without_nil (H : Hp) : without H [] = H := by
  funext a
  unfold without
  rw [if_neg (by simp)]
theorem without_some {H : Hp} {F : List Addr} {a : Addr} {o : HO} (h : without H F a = some o) : H a = some o ∧ a ∉ F := by
  unfold without at h
  by_cases e : a ∈ F
  · rw [if_pos e] at h; cases h
  · rw [if_neg e] at h; exact ⟨h, e⟩
inductive Args (K : PySem.W.Frag) (Z Hv H : Hp) : List Md → List V → List D → List Addr → Prop
  | nil : Args K Z Hv H [] [] [] []
  | i {md : List Md} {v : V} {vs : List V} {d : D} {ds : List D} {F : List Addr} : Rep K Z v d → Args K Z Hv H md vs ds F → Args K Z Hv H (.i :: md) (v :: vs) (d :: ds) F
  | v {md : List Md} {v : V} {vs : List V} {d : D} {ds : List D} {F : List Addr} : Rep K Hv v d → Args K Z Hv H md vs ds F → Args K Z Hv H (.v :: md) (v :: vs) (d :: ds) F
  | m {md : List Md} {v : V} {vs : List V} {d : D} {ds : List D} {F G : List Addr} : Own K Z H v d F → Args K Z Hv H md vs ds G → Args K Z Hv H (.m :: md) (v :: vs) (d :: ds) (F ++ G)
inductive Outs (K : PySem.W.Frag) (Z H : Hp) : List Md → List V → List D → List Addr → Prop
  | nil : Outs K Z H [] [] [] []
  | i {md : List Md} {v : V} {vs : List V} {ds : List D} {F : List Addr} : Outs K Z H md vs ds F → Outs K Z H (.i :: md) (v :: vs) ds F
  | v {md : List Md} {v : V} {vs : List V} {ds : List D} {F : List Addr} : Outs K Z H md vs ds F → Outs K Z H (.v :: md) (v :: vs) ds F
  | m {md : List Md} {v : V} {vs : List V} {d : D} {ds : List D} {F G : List Addr} : Own K Z H v d F → Outs K Z H md vs ds G → Outs K Z H (.m :: md) (v :: vs) (d :: ds) (F ++ G)
/-- from one state to another: what does not belong to F stays, F' belongs to F or is new -/
structure Tr (Z H : Hp) (F : List Addr) (Z' H' : Hp) (F' : List Addr) : Prop where
  z : Same Z Z'
  keep : ∀ a o, H a = some o → a ∉ F → H' a = some o
  zn : ∀ a, Z' a ≠ none → Z a ≠ none ∨ a ∈ F ∨ H a = none
  fn : ∀ a ∈ F', a ∈ F ∨ H a = none
theorem Tr.refl (Z H : Hp) (F : List Addr) : Tr Z H F Z H F := ⟨Same.refl _, fun _ _ h _ => h, fun _ h => .inl h, fun _ h => .inl h⟩
theorem Tr.free {Z H : Hp} {F : List Addr} {Z' H' : Hp} {F' : List Addr} (a : Tr Z H F Z' H' F') {c : Addr} (h : H' c = none) : c ∈ F ∨ H c = none := by
  by_cases q : c ∈ F
  · exact .inl q
  · cases w : H c with
    | none => exact .inr rfl
    | some o => rw [a.keep c o w q] at h; cases h
theorem Tr.trans {Z H Z1 H1 Z2 H2 : Hp} {F F1 F2 : List Addr} (a : Tr Z H F Z1 H1 F1) (b : Tr Z1 H1 F1 Z2 H2 F2) : Tr Z H F Z2 H2 F2 where
  z := a.z.trans b.z
  keep := fun c o h n => b.keep c o (a.keep c o h n) fun q => (a.fn c q).elim n fun z => by rw [h] at z; cases z
  zn := fun c h => (b.zn c h).elim (a.zn c) fun q => q.elim (fun q => .inr (a.fn c q)) fun q => .inr (a.free q)
  fn := fun c h => (b.fn c h).elim (a.fn c) fun q => a.free q
theorem Ext.tr {Z O H Z' O' H' : Hp} {F G : List Addr} (e : Ext [] Z O H Z' O' H') (n : ∀ a ∈ G, H a = none) : Tr Z H F Z' H' (F ++ G) :=
  ⟨e.z, fun a o h _ => e.h a o h, (fun a h => (e.zn a h).imp id fun q => q.elim (fun q => .inr q) (fun q => by cases q)), fun a h => (List.mem_append.mp h).imp id (n a)⟩
/-- behind a call -/
structure After (K : PySem.W.Frag) (md : List Md) (vs : List V) (Z H : Hp) (Fm : List Addr) (ms : List D) (Z' H' : Hp) (Fm' G : List Addr) : Prop where
  tr : Tr Z H Fm Z' H' (Fm' ++ G)
  zh : Same Z' H'
  tz : ∀ a o, H' a = some o → fzn o = true → Z' a = some o
  nd : (Fm' ++ G).Nodup
  zf : ∀ a ∈ Fm' ++ G, Z' a = none
  outs : Outs K Z' H' md vs ms Fm'
def RetR (r : R) : Prop := r.s = .imm ∨ r.s = .own
def PostF (K : PySem.W.Frag) (md : List Md) (vs : List V) (Z H : Hp) (Fm : List Addr) (Q : VK) (E : XK) : FR → Prop
  | .bad => False
  | .ok r ms => ∀ v H' Z' Fm' G, After K md vs Z H Fm ms Z' H' Fm' G → RetR r → RepR K Z' Z' H' v r G → Q v H'
  | .exc c fs ms => ∀ H' Z' Fm' d xs, After K md vs Z H Fm ms Z' H' Fm' [] → H' d = some (.xd xs) → xs.map (·.1) = fs.map (·.1) → Reps K Z' (xs.map (·.2)) (fs.map (·.2)) → E (.ref (He.ga K c)) (some d) H'
def spF (K : PySem.W.Frag) (md : List Md) (f : Fn) : Sp := fun vs H Q E => vs.length = md.length ∧ ∃ Z ds Fm, Same Z H ∧ (∀ a o, H a = some o → fzn o = true → Z a = some o) ∧ Args K Z (without H Fm) H md vs ds Fm ∧ Fm.Nodup ∧ (∀ a ∈ Fm, Z a = none) ∧
  PostF K md vs Z H Fm Q E (f ds)

/-! ### a call that changes nothing -/
def pargs : List Md → List R → Option (List D)
  | [], [] => some []
  | .i :: md, r :: rs => match frzR r, pargs md rs with
    | some d, some ds => some (d :: ds)
    | _, _ => none
  | .v :: md, r :: rs => match pargs md rs with
    | some ds => some (r.d :: ds)
    | none => none
  | _, _ => none
def pCall (f : Fn) (md : List Md) (ps : List Px) : Px := fun ρ => (evs ps ρ).bind fun rs => match pargs md rs with
  | some ds => (match f ds with
    | .ok r [] => .ok r
    | .exc c fs [] => .exc c fs
    | _ => .bad)
  | none => .bad
section
variable {K : PySem.W.Frag} {E : XK} {Z O H : Hp} {Q : VK} {W : List Addr}
theorem pargs_ok (g : Good Z O H) : ∀ {md : List Md} {rs : List R} {vs : List V} {G : List Addr} {ds : List D}, RepRs K Z O H vs rs G → pargs md rs = some ds → Args K Z H H md vs ds [] ∧ vs.length = md.length ∧ (∀ Z' H' ms F, Outs K Z' H' md vs ms F → F = [] ∧ ms = []) ∧ (∀ Z' H', Outs K Z' H' md vs [] [])
  | [], [], _, _, _, .nil, e => by
    cases e
    refine ⟨.nil, rfl, fun _ _ _ _ h => ?_, fun _ _ => .nil⟩
    cases h
    exact ⟨rfl, rfl⟩
  | .i :: md, r :: rs, _, _, ds, .cons q s, e => by
    unfold pargs at e
    cases h1 : frzR r with
    | none => rw [h1] at e; cases e
    | some d =>
      rw [h1] at e
      cases h2 : pargs md rs with
      | none => rw [h2] at e; cases e
      | some ds' =>
        rw [h2] at e
        cases e
        obtain ⟨i1, i2, i3, i4⟩ := pargs_ok g s h2
        refine ⟨.i (frzR_ok g q h1) i1, congrArg (· + 1) i2, fun _ _ _ _ h => ?_, fun _ _ => .i (i4 _ _)⟩
        cases h with
        | i h => exact i3 _ _ _ _ h
  | .v :: md, r :: rs, _, _, ds, .cons q s, e => by
    unfold pargs at e
    cases h2 : pargs md rs with
    | none => rw [h2] at e; cases e
    | some ds' =>
      rw [h2] at e
      cases e
      obtain ⟨i1, i2, i3, i4⟩ := pargs_ok g s h2
      refine ⟨.v (q.look g) i1, congrArg (· + 1) i2, fun _ _ _ _ h => ?_, fun _ _ => .v (i4 _ _)⟩
      cases h with
      | v h => exact i3 _ _ _ _ h
  | [], _ :: _, _, _, _, _, e => by cases e
  | .m :: _, _, _, _, _, _, e => by cases e
  | .i :: _, [], _, _, _, _, e => by cases e
  | .v :: _, [], _, _, _, _, e => by cases e
/-- the outer heap behind -/
def oNew (O Z' : Hp) : Hp := fun a => match O a with
  | some o => some o
  | none => Z' a
theorem oNew_some {O Z' : Hp} {a : Addr} {o : HO} (h : O a = some o) : oNew O Z' a = some o := by unfold oNew; rw [h]
theorem oNew_none {O Z' : Hp} {a : Addr} (h : O a = none) : oNew O Z' a = Z' a := by unfold oNew; rw [h]
theorem oNew_good {O Z' H' : Hp} (oh : Same O H') (zh : Same Z' H') (tz : ∀ a o, H' a = some o → fzn o = true → Z' a = some o) : Good Z' (oNew O Z') H' := by
  refine ⟨fun a o h => ?_, fun a o h => ?_, tz⟩
  · cases e : O a with
    | none => rw [oNew_none e]; exact h
    | some x =>
      rw [oNew_some e]
      have := oh a x e
      rw [zh a o h] at this
      exact this.symm
  · cases e : O a with
    | none => rw [oNew_none e] at h; exact zh a o h
    | some x => rw [oNew_some e] at h; exact oh a o (e.trans h)
theorem oNew_same {O Z' : Hp} : Same O (oNew O Z') := fun a o h => oNew_some h
theorem RetR.move {K : PySem.W.Frag} {v : V} {r : R} {G : List Addr} {Z O O' H : Hp} (h : RepR K Z O H v r G) (t : RetR r) : RepR K Z O' H v r G := by
  obtain ⟨s, d⟩ := r
  rcases t with t | t
  · cases t; exact h
  · cases t; exact h
theorem call_ok {md : List Md} {f : Fn} {rs : List R} {vs : List V} {G : List Addr} (g : Good Z O H) (q : RepRs K Z O H vs rs G)
    (h : ResK K E W Z O H (match pargs md rs with
      | some ds => (match f ds with
        | .ok r [] => .ok r
        | .exc c fs [] => .exc c fs
        | _ => .bad)
      | none => .bad) Q) : spF K md f vs H Q E := by
  cases e : pargs md rs with
  | none => rw [e] at h; exact h.elim
  | some ds =>
    rw [e] at h
    obtain ⟨i1, i2, i3, i4⟩ := pargs_ok g q e
    refine ⟨i2, Z, ds, [], g.zh, g.tz, by rw [without_nil]; exact i1, List.nodup_nil, (fun a ha => by cases ha), ?_⟩
    have h2 : ResK K E W Z O H (match f ds with
        | .ok r [] => .ok r
        | .exc c fs [] => .exc c fs
        | _ => .bad) Q := h
    cases e2 : f ds with
    | bad => rw [e2] at h2; exact h2.elim
    | ok r ms =>
      rw [e2] at h2
      cases ms with
      | cons _ _ => exact h2.elim
      | nil =>
        intro v H' Z' Fm' G' A t r1
        obtain ⟨rfl, _⟩ := i3 _ _ _ _ A.outs
        have sh : Same H H' := fun a o q => A.tr.keep a o q (by simp)
        refine h2 v H' Z' (oNew O Z') G' ⟨sh, A.tr.z, oNew_same, (fun a q => (A.tr.zn a q).imp id fun q => q.elim (fun q => by cases q) .inl), fun a q => ?_⟩ (oNew_good (g.oh.trans sh) A.zh A.tz) (RetR.move r1 t) A.nd fun a ha => ?_
        · cases w : O a with
          | some x => exact .inl (by simp)
          | none =>
            rw [oNew_none w] at q
            rcases A.tr.zn a q with q | q | q
            · exact absurd (g.zo.free w) q
            · cases q
            · exact .inr (.inl q)
        · have hn : H a = none := (A.tr.fn a ha).elim (fun q => by cases q) id
          exact ⟨.inl hn, by rw [oNew_none (none_of g.oh hn)]; exact A.zf a ha⟩
    | exc c fs ms =>
      rw [e2] at h2
      cases ms with
      | cons _ _ => exact h2.elim
      | nil =>
        intro H' Z' Fm' d xs A hd ek rk
        obtain ⟨rfl, _⟩ := i3 _ _ _ _ A.outs
        have sh : Same H H' := fun a o q => A.tr.keep a o q (by simp)
        refine h2 H' Z' (oNew O Z') d xs ⟨sh, A.tr.z, oNew_same, (fun a q => (A.tr.zn a q).imp id fun q => q.elim (fun q => by cases q) .inl), fun a q => ?_⟩ (oNew_good (g.oh.trans sh) A.zh A.tz) hd ek rk
        cases w : O a with
        | some x => exact .inl (by simp)
        | none =>
          rw [oNew_none w] at q
          rcases A.tr.zn a q with q | q | q
          · exact absurd (g.zo.free w) q
          · cases q
          · exact .inr (.inl q)
end
section
variable {X : Cx} {E : XK} {CX : CXT} {k : Nat} {f : Addr} {fd : FuncData} {ps : List Str} {md : List Md} {fn : Fn} {x : Str} {p pos : Pos} {e : Expr} {es : List Expr} {qs : List Px}
theorem tP_call {K : PySem.W.Frag} {σ : St} {H : Hp} {Q : VK} (h : tP K E (pCall fn md qs) σ H Q) : tCall (spF K md fn) [] E (tA K E qs) σ H Q := by
  refine tA_bind h fun Z O H1 G vs rs g q nd fo h2 => ?_
  rw [List.append_nil]
  exact call_ok g q h2
theorem s_call (F : FnOk X.prog X.w X.K X.mg X.base CX k f fd ps (spF X.K md fn)) (hr : Room k X.A) (hg : Gl X x) (hm : X.mg x = some (.ref f)) (hk : PySem.W.keepIn X.K (.ref f) = true) (hb : Binds X.K fd ps []) (hx : Passes CX X E)
    (ha : PA X (e :: es) (tA X.K E qs)) (hdb : (x == ("__debug__" : Str)) = false := by decide) (he : starEach (e :: es) X.env = (false, eval e X.env) :: starEach es X.env := by rfl) (hpl : (backTo pos (starEach es X.env)).any (·.1) = false := by rfl) :
    PE X (.Call (.Name x p) (e :: es) [] pos) (tP X.K E (pCall fn md qs)) :=
  (pe_call F hr hg hm hk hb .nil hx ha hdb he hpl).imp fun _ _ _ h => tP_call h
end

/-! ### statements -/
inductive SR where
  | bad
  | next (ρ : Ev)
  | ret (r : R) (ρ : Ev)
  | exc (c : Str) (fs : List (Str × D)) (ρ : Ev)
abbrev Stx := Ev → SR
/-- from a state to another, the frame too -/
structure TrS (Z O H : Hp) (σ : St) (ρ : Ev) (F : List Addr) (Z' O' H' : Hp) (σ' : St) (ρ' : Ev) (F' : List Addr) : Prop where
  tr : Tr Z H F Z' H' F'
  o : Same O O'
  len : σ'.length = σ.length
  brw : ∀ (j : Nat) (d : D), ρ[j]? = some (some (R.mk .brw d)) → σ'[j]? = σ[j]? ∧ ∃ d', ρ'[j]? = some (some (R.mk .brw d'))
theorem TrS.refl (Z O H : Hp) (σ : St) (ρ : Ev) (F : List Addr) : TrS Z O H σ ρ F Z O H σ ρ F := ⟨Tr.refl _ _ _, Same.refl _, rfl, fun _ d h => ⟨rfl, d, h⟩⟩
theorem TrS.trans {Z O H Z1 O1 H1 Z2 O2 H2 : Hp} {σ σ1 σ2 : St} {ρ ρ1 ρ2 : Ev} {F F1 F2 : List Addr} (a : TrS Z O H σ ρ F Z1 O1 H1 σ1 ρ1 F1) (b : TrS Z1 O1 H1 σ1 ρ1 F1 Z2 O2 H2 σ2 ρ2 F2) : TrS Z O H σ ρ F Z2 O2 H2 σ2 ρ2 F2 :=
  ⟨a.tr.trans b.tr, a.o.trans b.o, b.len.trans a.len, fun j d h => by
    obtain ⟨e1, d1, h1⟩ := a.brw j d h
    obtain ⟨e2, d2, h2⟩ := b.brw j d1 h1
    exact ⟨e2.trans e1, d2, h2⟩⟩
def SRK (K : PySem.W.Frag) (E : XK) (Z O H : Hp) (σ : St) (ρ : Ev) (F : List Addr) (nx : St → Hp → Prop) (rt : VK) : SR → Prop
  | .bad => False
  | .next ρ' => ∀ σ' H' Z' O' F', Rel K Z' O' H' σ' ρ' F' → nov ρ' = true → TrS Z O H σ ρ F Z' O' H' σ' ρ' F' → nx σ' H'
  | .ret r ρ' => ∀ v σ' H' Z' O' F' G, Rel K Z' O' H' σ' ρ' F' → RepR K Z' O' H' v r G → (F' ++ G).Nodup → (∀ a ∈ G, O' a = none) → Tr Z H F Z' H' (F' ++ G) → TrS Z O H σ ρ F Z' O' H' σ' ρ' F' → rt v H'
  | .exc c fs ρ' => ∀ σ' H' Z' O' F' d xs, Rel K Z' O' H' σ' ρ' F' → TrS Z O H σ ρ F Z' O' H' σ' ρ' F' → H' d = some (.xd xs) → xs.map (·.1) = fs.map (·.1) → Reps K Z' (xs.map (·.2)) (fs.map (·.2)) → E (.ref (He.ga K c)) (some d) H'
def tS (K : PySem.W.Frag) (E : XK) (s : Stx) : TS := fun D σ H => ∃ Z O ρ F, Rel K Z O H σ ρ F ∧ nov ρ = true ∧ SRK K E Z O H σ ρ F D.nx D.rt (s ρ)
section
variable {K : PySem.W.Frag} {E : XK} {Z O H Z1 O1 H1 : Hp} {σ σ1 : St} {ρ ρ1 : Ev} {F F1 : List Addr} {nx : St → Hp → Prop} {rt : VK}
theorem SRK.from {r : SR} (h : SRK K E Z O H σ ρ F nx rt r) (t : TrS Z O H σ ρ F Z1 O1 H1 σ1 ρ1 F1) : SRK K E Z1 O1 H1 σ1 ρ1 F1 nx rt r := by
  cases r with
  | bad => exact h
  | next ρ' => exact fun σ' H' Z' O' F' q n u => h σ' H' Z' O' F' q n (t.trans u)
  | ret r ρ' => exact fun v σ' H' Z' O' F' G q w nd fo u u2 => h v σ' H' Z' O' F' G q w nd fo (t.tr.trans u) (t.trans u2)
  | exc c fs ρ' => exact fun σ' H' Z' O' F' d xs q u hd e1 e2 => h σ' H' Z' O' F' d xs q (t.trans u) hd e1 e2
end
end Oz

namespace Oz
open PySem PySem.Spec L2
open PyProof.Rows hiding St

/-! ### storing -/
def storable (r : R) : Bool := match r.s with
  | .imm => true
  | .out => true
  | .own => true
  | _ => false
def setS (i : Nat) (r : R) (ρ : Ev) : Option Ev := match ρ[i]? with
  | none => none
  | some (some ⟨.brw, _⟩) => none
  | some _ => if storable r = true then some (ρ.set i (some r)) else none
section
variable {K : PySem.W.Frag} {E : XK} {Z O H Z1 O1 H1 : Hp} {σ : St} {ρ ρ' : Ev} {F G : List Addr} {v : V} {r : R} {i : Nat}
theorem setS_some (h : setS i r ρ = some ρ') : i < ρ.length ∧ (∀ d, ρ[i]? ≠ some (some ⟨.brw, d⟩)) ∧ storable r = true ∧ ρ' = ρ.set i (some r) := by
  unfold setS at h
  cases e : ρ[i]? with
  | none => rw [e] at h; cases h
  | some y =>
    obtain ⟨hl, _⟩ := List.getElem?_eq_some_iff.mp e
    rw [e] at h
    have fin : (if storable r = true then some (ρ.set i (some r)) else none) = some ρ' → storable r = true ∧ ρ' = ρ.set i (some r) := fun h => by
      by_cases c : storable r = true
      · rw [if_pos c] at h; exact ⟨c, (Option.some.inj h).symm⟩
      · rw [if_neg c] at h; cases h
    cases y with
    | none =>
      obtain ⟨h1, h2⟩ := fin h
      exact ⟨hl, (fun d q => by cases q), h1, h2⟩
    | some q =>
      obtain ⟨s, d⟩ := q
      cases s with
      | brw => cases h
      | imm => obtain ⟨h1, h2⟩ := fin h; exact ⟨hl, (fun d q => by cases q), h1, h2⟩
      | out => obtain ⟨h1, h2⟩ := fin h; exact ⟨hl, (fun d q => by cases q), h1, h2⟩
      | view => obtain ⟨h1, h2⟩ := fin h; exact ⟨hl, (fun d q => by cases q), h1, h2⟩
      | own => obtain ⟨h1, h2⟩ := fin h; exact ⟨hl, (fun d q => by cases q), h1, h2⟩
theorem nov_set {i : Nat} {y : Option R} (n : nov ρ = true) (hy : ∀ d, y ≠ some ⟨.view, d⟩) : nov (ρ.set i y) = true := by
  unfold nov at n ⊢
  rw [List.all_eq_true] at n ⊢
  intro x hx
  rcases List.mem_or_eq_of_mem_set hx with h | h
  · exact n x h
  · subst h
    cases x with
    | none => rfl
    | some r =>
      obtain ⟨s, d⟩ := r
      cases s with
      | view => exact absurd rfl (hy d)
      | _ => rfl
/-- the frame with a new thing at i -/
theorem Rel.set (rl : Rel K Z O H σ ρ F) (n : nov ρ = true) (q : RepR K Z O H v r G) (nd : G.Nodup) (dj : ∀ a ∈ G, a ∉ F) (fo : ∀ a ∈ G, O a = none) (h : setS i r ρ = some ρ') :
    ∃ F', Rel K Z O H (σ.set i (some v)) ρ' F' ∧ nov ρ' = true ∧ (∀ a ∈ F', a ∈ F ∨ a ∈ G) ∧ (σ.set i (some v)).length = σ.length ∧
      ∀ (j : Nat) (d : D), ρ[j]? = some (some (R.mk .brw d)) → (σ.set i (some v))[j]? = σ[j]? ∧ ∃ d', ρ'[j]? = some (some (R.mk .brw d')) := by
  obtain ⟨hl, nb, st, rfl⟩ := setS_some h
  obtain ⟨x, y, F1, G0, F2, h1, h2, h3, h4, h5⟩ := rl.sl.focus hl
  subst h3
  have sl := h5 (some v) (some r) G Z O H (Same.refl _) (Same.refl _) (.inl (Same.refl _)) (fun a _ o q => q) q
  refine ⟨_, ⟨rl.g, ?_, fun a ha => ?_, sl⟩, nov_set n (fun d e => ?_), fun a ha => ?_, by simp, fun j d hj => ?_⟩
  · have nF := rl.nd
    rw [List.nodup_append] at nF
    obtain ⟨n1, n2, n3⟩ := nF
    rw [List.nodup_append] at n2
    obtain ⟨n4, n5, n6⟩ := n2
    rw [List.nodup_append]
    refine ⟨n1, ?_, fun a ha b hb => ?_⟩
    · rw [List.nodup_append]
      exact ⟨nd, n5, fun a ha b hb e => dj a ha (by rw [e]; simp [hb])⟩
    · rcases List.mem_append.mp hb with hb | hb
      · exact fun e => dj b hb (by rw [← e]; simp [ha])
      · exact n3 a ha b (List.mem_append_right _ hb)
  · rcases List.mem_append.mp ha with ha | ha
    · exact rl.fo a (by simp [ha])
    · rcases List.mem_append.mp ha with ha | ha
      · exact fo a ha
      · exact rl.fo a (by simp [ha])
  · cases e
    cases st
  · rcases List.mem_append.mp ha with ha | ha
    · exact .inl (by simp [ha])
    · rcases List.mem_append.mp ha with ha | ha
      · exact .inr ha
      · exact .inl (by simp [ha])
  · have ne : i ≠ j := fun e => nb d (by rw [e]; exact hj)
    exact ⟨List.getElem?_set_ne ne, d, by rw [List.getElem?_set_ne ne]; exact hj⟩
end

/-! ### the statements that do not nest -/
def sAsg (i : Nat) (p : Px) : Stx := fun ρ => match p ρ with
  | .bad => .bad
  | .exc c fs => .exc c fs ρ
  | .ok r => (match setS i r ρ with
    | some ρ' => .next ρ'
    | none => .bad)
def sRet (p : Px) : Stx := fun ρ => match p ρ with
  | .bad => .bad
  | .exc c fs => .exc c fs ρ
  | .ok r => if storable r = true then .ret r ρ else .bad
/-- return of a name: what is one's own is handed on -/
def sRetV (i : Nat) : Stx := fun ρ => match ρ[i]? with
  | some (some ⟨.own, d⟩) => .ret ⟨.own, d⟩ (ρ.set i none)
  | _ => sRet (pVar i) ρ
def sDrop (p : Px) : Stx := fun ρ => match p ρ with
  | .bad => .bad
  | .exc c fs => .exc c fs ρ
  | .ok _ => .next ρ
def sNext : Stx := fun ρ => .next ρ
def sSeq (s t : Stx) : Stx := fun ρ => match s ρ with
  | .next ρ' => t ρ'
  | r => r
def sIf (c : Tx) (s t : Stx) : Stx := fun ρ => match c ρ with
  | .bad => .bad
  | .exc x fs => .exc x fs ρ
  | .ok b => if b = true then s ρ else t ρ
section
variable {K : PySem.W.Frag} {E : XK} {Z O H Z1 O1 H1 : Hp} {σ : St} {ρ ρ' : Ev} {F G : List Addr} {nx : St → Hp → Prop} {rt : VK}
theorem TrS.ext (e : Ext [] Z O H Z1 O1 H1) : TrS Z O H σ ρ F Z1 O1 H1 σ ρ F := ⟨by have := e.tr (F := F) (G := []) (fun a h => by cases h); rwa [List.append_nil] at this, e.o, rfl, fun _ d h => ⟨rfl, d, h⟩⟩
theorem SRK.exc {c : Str} {fs : List (Str × D)} (rl : Rel K Z O H σ ρ F) (h : SRK K E Z O H σ ρ F nx rt (.exc c fs ρ)) : ExcK K E Z O H c fs := fun H' Z' O' d xs e g q a b =>
  h σ H' Z' O' F d xs (rl.ext e g) (TrS.ext e) q a b
/-- an expression ahead -/
theorem tS_expr {p : Px} {s : R → Ev → SR} {D : Ends} (h : tS K E (fun ρ => match p ρ with
      | .bad => .bad
      | .exc c fs => .exc c fs ρ
      | .ok r => s r ρ) D σ H) {T : V → Hp → Prop}
    (next : ∀ (Z0 O0 Z O H1 : Hp) (ρ : Ev) (F G : List Addr) (v : V) (r : R), Rel K Z O H1 σ ρ F → nov ρ = true → RepR K Z O H1 v r G → G.Nodup → (∀ a ∈ G, a ∉ F) → (∀ a ∈ G, O a = none) → (∀ a ∈ G, H a = none) → TrS Z0 O0 H σ ρ F Z O H1 σ ρ F → SRK K E Z0 O0 H σ ρ F D.nx D.rt (s r ρ) → T v H1) : tP K E p σ H T := by
  obtain ⟨Z, O, ρ, F, rl, n, h⟩ := h
  refine ⟨Z, O, ρ, F, rl, ?_⟩
  have h1 : SRK K E Z O H σ ρ F D.nx D.rt (match p ρ with
      | .bad => .bad
      | .exc c fs => .exc c fs ρ
      | .ok r => s r ρ) := h
  cases e : p ρ with
  | bad => rw [e] at h1; exact h1.elim
  | exc c fs => rw [e] at h1; exact SRK.exc rl h1
  | ok r =>
    rw [e] at h1
    intro v H1 Z1 O1 G x1 g1 q nd fr
    have hn : ∀ a ∈ G, H a = none := fun a ha => (fr a ha).1.elim id fun z => by cases z
    refine next Z O Z1 O1 H1 ρ F G v r (rl.ext x1 g1) n q nd (fun a ha z => ?_) (fun a ha => (fr a ha).2) hn (TrS.ext x1) h1
    obtain ⟨o, w, _⟩ := rl.sl.live a z
    rw [hn a ha] at w
    cases w
end
section
variable {X : Cx} {E : XK} {e c : Expr} {p : Px} {t : Tx} {a b : List Stmt} {st : Stmt} {rest : List Stmt} {s u : Stx} {pos pos' : Pos} {x : Str}
theorem s_asg (i : Nat) (hN : X.N.Nodup) (he : PE X e (tP X.K E p)) (hi : X.N[i]? = some x := by rfl) (hx : Loc X.env.scope x := by first | exact Or.inl rfl | exact Or.inr rfl) (hs : swapsWith e (some (.Name x pos')) pos.line X.env = pure false := by rfl)
    (hf : X.fn x = true ∨ X.env.scope.names.lookup x = some .local := by first | exact .inl rfl | exact .inr rfl | assumption) : PS X (.Assign [.Name x pos'] e pos) (tS X.K E (sAsg i p)) := by
  refine (ps_set hN hi hx he hs hf).imp fun D σ H h => ?_
  refine tS_expr (s := fun r ρ => match setS i r ρ with | some ρ' => .next ρ' | none => .bad) h fun Z0 O0 Z O H1 ρ F G v r rl n q nd dj fo fh tr h2 => ?_
  cases z : setS i r ρ with
  | none => rw [z] at h2; exact h2.elim
  | some ρ' =>
    rw [z] at h2
    obtain ⟨F', rl', n', sub, ln, bw⟩ := rl.set n q nd dj fo z
    refine h2 _ H1 Z O F' rl' n' ⟨⟨tr.tr.z, tr.tr.keep, tr.tr.zn, fun a ha => ?_⟩, tr.o, ln, bw⟩
    exact (sub a ha).imp id (fh a)
theorem s_ret (he : PE X e (tP X.K E p)) : PS X (.Return (some e) pos) (tS X.K E (sRet p)) := by
  refine (ps_ret he).imp fun D σ H h => ?_
  refine tS_expr (s := fun r ρ => if storable r = true then .ret r ρ else .bad) h fun Z0 O0 Z O H1 ρ F G v r rl n q nd dj fo fh tr h2 => ?_
  by_cases c : storable r = true
  · rw [if_pos c] at h2
    refine h2 v σ H1 Z O F G rl q ?_ fo ⟨tr.tr.z, tr.tr.keep, tr.tr.zn, fun a ha => ?_⟩ tr
    · rw [List.nodup_append]
      exact ⟨rl.nd, nd, fun a ha b hb e => dj b hb (e ▸ ha)⟩
    · rcases List.mem_append.mp ha with ha | ha
      · exact tr.tr.fn a ha
      · exact .inr (fh a ha)
  · rw [if_neg c] at h2
    exact h2.elim
theorem s_retV (i : Nat) (hN : X.N[i]? = some x := by rfl) (hv : Vis X.env.scope x := by first | exact Or.inl rfl | exact Or.inr (Or.inl rfl) | exact Or.inr (Or.inr rfl)) (hd : (x == ("__debug__" : Str)) = false := by decide)
    (hcd : (x == ("__classdict__" : Str)) = false := by decide) : PS X (.Return (some (.Name x pos')) pos) (tS X.K E (sRetV i)) := by
  refine (ps_ret (pe_var hN hv hd hcd)).imp fun D σ H h => ?_
  obtain ⟨Z, O, ρ, F, rl, n, h⟩ := h
  have plain : SRK X.K E Z O H σ ρ F D.nx D.rt (sRet (pVar i) ρ) → tVar i σ H D.rt := fun h => by
    unfold sRet pVar at h
    cases e : ρ[i]? with
    | none => rw [e] at h; exact h.elim
    | some y =>
      cases y with
      | none => rw [e] at h; exact h.elim
      | some r =>
        rw [e] at h
        obtain ⟨v, h1, G, h2⟩ := rl.sl.get e
        refine ⟨v, h1, ?_⟩
        have h3 : SRK X.K E Z O H σ ρ F D.nx D.rt (if storable (vw r) = true then .ret (vw r) ρ else .bad) := h
        by_cases c : storable (vw r) = true
        · rw [if_pos c] at h3
          refine h3 v σ H Z O F [] rl (h2.vw rl.g) (by rw [List.append_nil]; exact rl.nd) (fun a ha => by cases ha) ?_ (TrS.refl _ _ _ _ _ _)
          rw [List.append_nil]
          exact Tr.refl _ _ _
        · rw [if_neg c] at h3
          exact h3.elim
  unfold sRetV at h
  cases e : ρ[i]? with
  | none => rw [e] at h; exact plain h
  | some y =>
    cases y with
    | none => rw [e] at h; exact plain h
    | some r =>
      obtain ⟨s, d⟩ := r
      cases s with
      | imm => rw [e] at h; exact plain h
      | out => rw [e] at h; exact plain h
      | view => rw [e] at h; exact plain h
      | brw => rw [e] at h; exact plain h
      | own =>
        rw [e] at h
        obtain ⟨hl, _⟩ := List.getElem?_eq_some_iff.mp e
        obtain ⟨x1, y1, F1, G, F2, h1, h2, h3, h4, h5⟩ := rl.sl.focus hl
        rw [e] at h2
        cases h2
        cases x1 with
        | none => exact h4.elim
        | some v =>
          refine ⟨v, h1, ?_⟩
          have q : RepR X.K Z O H v ⟨.own, d⟩ G := h4
          have sl := h5 (some v) none [] Z O H (Same.refl _) (Same.refl _) (.inl (Same.refl _)) (fun a _ o q => q) rfl
          have es : σ.set i (some v) = σ := by
            apply List.ext_getElem?
            intro j
            by_cases ij : i = j
            · subst ij
              obtain ⟨hl2, _⟩ := List.getElem?_eq_some_iff.mp h1
              rw [List.getElem?_set_self hl2, h1]
            · rw [List.getElem?_set_ne ij]
          rw [es] at sl
          subst h3
          have nF := rl.nd
          have pm : ((F1 ++ ([] ++ F2)) ++ G).Perm (F1 ++ (G ++ F2)) := by
            rw [List.nil_append, List.append_assoc]
            exact List.Perm.append_left F1 (List.perm_append_comm)
          have nd2 : ((F1 ++ ([] ++ F2)) ++ G).Nodup := pm.nodup_iff.mpr nF
          have inn : ∀ a, a ∈ (F1 ++ ([] ++ F2)) ++ G → a ∈ F1 ++ (G ++ F2) := fun a ha => pm.mem_iff.mp ha
          have rl' : Rel X.K Z O H σ (ρ.set i none) (F1 ++ ([] ++ F2)) := ⟨rl.g, (List.nodup_append.mp nd2).1, fun a ha => rl.fo a (inn a (List.mem_append_left _ ha)), sl⟩
          refine h v σ H Z O _ G rl' q nd2 (fun a ha => rl.fo a (inn a (List.mem_append_right _ ha))) ⟨Same.refl _, fun a o q _ => q, fun a q => .inl q, fun a ha => .inl (inn a ha)⟩
            ⟨⟨Same.refl _, fun a o q _ => q, fun a q => .inl q, fun a ha => .inl (inn a (List.mem_append_left _ ha))⟩, Same.refl _, rfl, fun j d' hj => ⟨rfl, d', ?_⟩⟩
          have ne : i ≠ j := fun z => by rw [z] at e; rw [e] at hj; cases hj
          rw [List.getElem?_set_ne ne]
          exact hj
theorem s_drop (he : PE X e (tP X.K E p)) (hs : swapsWith e none pos.line X.env = pure false := by rfl) : PS X (.Expr e pos) (tS X.K E (sDrop p)) := by
  refine (ps_expr he hs).imp fun D σ H h => ?_
  refine tS_expr (s := fun r ρ => .next ρ) h fun Z0 O0 Z O H1 ρ F G v r rl n q nd dj fo fh tr h2 => ?_
  exact h2 σ H1 Z O F rl n tr
theorem s_doc {z j} : PS X (.Expr (.Constant (.str z) j pos) pos') (tS X.K E sNext) := ps_doc.imp fun D σ H h => by
  obtain ⟨Z, O, ρ, F, rl, n, h⟩ := h
  exact h σ H Z O F rl n (TrS.refl _ _ _ _ _ _)
theorem s_pass : PS X (.Pass pos) (tS X.K E sNext) := ps_pass.imp fun D σ H h => by
  obtain ⟨Z, O, ρ, F, rl, n, h⟩ := h
  exact h σ H Z O F rl n (TrS.refl _ _ _ _ _ _)
theorem s_nil : PSs X [] (tS X.K E sNext) := pss_nil.imp fun D σ H h => by
  obtain ⟨Z, O, ρ, F, rl, n, h⟩ := h
  exact h σ H Z O F rl n (TrS.refl _ _ _ _ _ _)
theorem s_last (h : PS X st (tS X.K E s)) : PSs X [st] (tS X.K E s) := pss_one h
theorem s_cons (h1 : PS X st (tS X.K E s)) (h2 : PSs X rest (tS X.K E u)) : PSs X (st :: rest) (tS X.K E (sSeq s u)) := by
  refine (pss_cons h1 h2).imp fun D σ H h => ?_
  obtain ⟨Z, O, ρ, F, rl, n, h⟩ := h
  refine ⟨Z, O, ρ, F, rl, n, ?_⟩
  unfold sSeq at h
  cases e : s ρ with
  | bad => rw [e] at h; exact h
  | ret r ρ' => rw [e] at h; exact h
  | exc c fs ρ' => rw [e] at h; exact h
  | next ρ' =>
    rw [e] at h
    have h2 : SRK X.K E Z O H σ ρ F D.nx D.rt (u ρ') := h
    exact fun σ' H' Z' O' F' rl' n' tr => ⟨Z', O', ρ', F', rl', n', SRK.from h2 tr⟩
theorem s_ifS (hc : PT X c (tT X.K E t)) (ha : PSs X a (tS X.K E s)) (hb : PSs X b (tS X.K E u)) : PS X (.If c a b pos) (tS X.K E (sIf t s u)) := by
  refine (ps_if hc ha hb).imp fun D σ H h => ?_
  obtain ⟨Z, O, ρ, F, rl, n, h⟩ := h
  refine ⟨Z, O, ρ, F, rl, ?_⟩
  unfold sIf at h
  cases e : t ρ with
  | bad => rw [e] at h; exact h.elim
  | exc c fs => rw [e] at h; exact SRK.exc rl h
  | ok k =>
    rw [e] at h
    intro H1 Z1 O1 x1 g1
    have h2 : SRK X.K E Z O H σ ρ F D.nx D.rt (if k = true then s ρ else u ρ) := h
    cases k with
    | true => exact ⟨Z1, O1, ρ, F, rl.ext x1 g1, n, SRK.from h2 (TrS.ext x1)⟩
    | false => exact ⟨Z1, O1, ρ, F, rl.ext x1 g1, n, SRK.from h2 (TrS.ext x1)⟩
end

/-! ### a def by its body -/
def entR : Md → D → R
  | .i, d => ⟨.imm, d⟩
  | .v, d => if lf d = true then ⟨.imm, d⟩ else ⟨.out, d⟩
  | .m, d => ⟨.brw, d⟩
theorem entR_t {d : D} (l : lf d = true) : entR .v d = ⟨.imm, d⟩ := if_pos l
theorem entR_f {d : D} (l : ¬ lf d = true) : entR .v d = ⟨.out, d⟩ := if_neg l
def entE : List Md → List D → Nat → Ev
  | m :: md, d :: ds, n => some (entR m d) :: entE md ds (n - 1)
  | _, _, n => List.replicate n none
def outsE : List Md → Ev → Option (List D)
  | [], _ => some []
  | .m :: md, some ⟨.brw, d⟩ :: ρ => (match outsE md ρ with
    | some ds => some (d :: ds)
    | none => none)
  | .m :: _, _ => none
  | .i :: md, _ :: ρ => outsE md ρ
  | .v :: md, _ :: ρ => outsE md ρ
  | _ :: _, [] => none
def exitE (md : List Md) (r : R) (ρ : Ev) : FR := if r.s = .imm ∨ r.s = .own then (match outsE md ρ with
  | some ms => .ok r ms
  | none => .bad) else .bad
def fnD (n : Nat) (md : List Md) (b : Stx) : Fn := fun ds => match b (entE md ds n) with
  | .bad => .bad
  | .next ρ => exitE md ⟨.imm, .none⟩ ρ
  | .ret r ρ => exitE md r ρ
  | .exc c fs ρ => (match outsE md ρ with
    | some ms => .exc c fs ms
    | none => .bad)
section
variable {K : PySem.W.Frag} {Z H : Hp}
theorem slots_none : ∀ n : Nat, Slots K Z O H (List.replicate n none) (List.replicate n none) []
  | 0 => .nil
  | n + 1 => by rw [List.replicate_succ, List.replicate_succ]; exact .non (slots_none n)
theorem ent_slots {Fm : List Addr} (tz : ∀ a o, H a = some o → fzn o = true → Z a = some o) : ∀ {md : List Md} {vs : List V} {ds : List D} {F : List Addr} (n : Nat), Args K Z (without H Fm) H md vs ds F → vs.length ≤ n → Slots K Z (without H Fm) H (vs.map some ++ List.replicate (n - vs.length) none) (entE md ds n) F
  | [], [], [], _, n, .nil, _ => by
    show Slots K Z (without H Fm) H ([] ++ List.replicate (n - 0) none) (List.replicate n none) []
    rw [List.nil_append, Nat.sub_zero]
    exact slots_none n
  | .i :: md, v :: vs, d :: ds, F, n + 1, .i r a, h => by
    have ih := ent_slots tz n a (by simpa using h)
    have e : n + 1 - (v :: vs).length = n - vs.length := by simp
    rw [e]
    exact .val (F := []) ⟨r, rfl⟩ ih
  | .v :: md, v :: vs, d :: ds, F, n + 1, .v r a, h => by
    have ih := ent_slots tz n a (by simpa using h)
    have e : n + 1 - (v :: vs).length = n - vs.length := by simp
    rw [e]
    refine .val (F := []) (r := entR .v d) ?_ ih
    by_cases l : lf d = true
    · rw [entR_t l]
      exact ⟨(r.mono (fun a o q => (without_some q).1)).up tz l, rfl⟩
    · rw [entR_f l]
      exact ⟨r, rfl⟩
  | .m :: md, v :: vs, d :: ds, _, n + 1, .m r a, h => by
    have ih := ent_slots tz n a (by simpa using h)
    have e : n + 1 - (v :: vs).length = n - vs.length := by simp
    rw [e]
    exact .val (r := entR .m d) r ih
  | .i :: _, _ :: _, _ :: _, _, 0, .i _ _, h => by simp at h
  | .v :: _, _ :: _, _ :: _, _, 0, .v _ _, h => by simp at h
  | .m :: _, _ :: _, _ :: _, _, 0, .m _ _, h => by simp at h
theorem ent_nov : ∀ (md : List Md) (ds : List D) (n : Nat), nov (entE md ds n) = true
  | m :: md, d :: ds, n => by
    show (_ && nov (entE md ds (n - 1))) = true
    rw [ent_nov md ds (n - 1), Bool.and_true]
    cases m with
    | i => rfl
    | m => rfl
    | v =>
      by_cases l : lf d = true
      · rw [entR_t l]
      · rw [entR_f l]
  | [], _, n => by
    unfold entE nov
    rw [List.all_replicate]
    by_cases h : n = 0
    · simp [h]
    · simp [h]
  | _ :: _, [], n => by
    unfold entE nov
    rw [List.all_replicate]
    by_cases h : n = 0
    · simp [h]
    · simp [h]
theorem ent_brw : ∀ {md : List Md} {ds : List D} {n : Nat} {j : Nat}, md[j]? = some .m → j < ds.length → ∃ d, (entE md ds n)[j]? = some (some (R.mk .brw d))
  | m :: md, d :: ds, n, 0, h, _ => by
    simp at h
    subst h
    exact ⟨d, rfl⟩
  | m :: md, d :: ds, n, j + 1, h, hl => by
    obtain ⟨d', h'⟩ := ent_brw (md := md) (ds := ds) (n := n - 1) (j := j) (by simpa using h) (by simpa using hl)
    exact ⟨d', by simpa [entE] using h'⟩
  | [], _, _, _, h, _ => by simp at h
  | _ :: _, [], _, _, _, hl => by simp at hl
theorem Args.lens : ∀ {Hv : Hp} {md : List Md} {vs : List V} {ds : List D} {F : List Addr}, Args K Z Hv H md vs ds F → ds.length = md.length ∧ vs.length = md.length
  | _, _, _, _, _, .nil => ⟨rfl, rfl⟩
  | _, _, _, _, _, .i _ a => ⟨congrArg (· + 1) a.lens.1, congrArg (· + 1) a.lens.2⟩
  | _, _, _, _, _, .v _ a => ⟨congrArg (· + 1) a.lens.1, congrArg (· + 1) a.lens.2⟩
  | _, _, _, _, _, .m _ a => ⟨congrArg (· + 1) a.lens.1, congrArg (· + 1) a.lens.2⟩
theorem outs_of {O : Hp} : ∀ {md : List Md} {vs : List V} {σ : List (Option V)} {ρ : Ev} {F : List Addr} {ms : List D}, Slots K Z O H σ ρ F → vs.length = md.length → (∀ (j : Nat) (v : V), md[j]? = some Md.m → vs[j]? = some v → σ[j]? = some (some v)) → outsE md ρ = some ms →
    ∃ Fm, Outs K Z H md vs ms Fm ∧ Fm.Sublist F
  | [], [], σ, ρ, F, ms, _, _, _, e => by
    cases e
    exact ⟨[], .nil, List.nil_sublist _⟩
  | .i :: md, v :: vs, _, _, F, ms, .non s, hl, h, e => by
    obtain ⟨Fm, o, sb⟩ := outs_of (md := md) (vs := vs) s (by simpa using hl) (fun j w h1 h2 => by simpa using h (j + 1) w (by simpa using h1) (by simpa using h2)) e
    exact ⟨Fm, .i o, sb⟩
  | .i :: md, v :: vs, _, _, _, ms, .val r s, hl, h, e => by
    obtain ⟨Fm, o, sb⟩ := outs_of (md := md) (vs := vs) s (by simpa using hl) (fun j w h1 h2 => by simpa using h (j + 1) w (by simpa using h1) (by simpa using h2)) e
    exact ⟨Fm, .i o, sb.trans (List.sublist_append_right _ _)⟩
  | .v :: md, v :: vs, _, _, F, ms, .non s, hl, h, e => by
    obtain ⟨Fm, o, sb⟩ := outs_of (md := md) (vs := vs) s (by simpa using hl) (fun j w h1 h2 => by simpa using h (j + 1) w (by simpa using h1) (by simpa using h2)) e
    exact ⟨Fm, .v o, sb⟩
  | .v :: md, v :: vs, _, _, _, ms, .val r s, hl, h, e => by
    obtain ⟨Fm, o, sb⟩ := outs_of (md := md) (vs := vs) s (by simpa using hl) (fun j w h1 h2 => by simpa using h (j + 1) w (by simpa using h1) (by simpa using h2)) e
    exact ⟨Fm, .v o, sb.trans (List.sublist_append_right _ _)⟩
  | .m :: md, v :: vs, _, _, F, ms, .non s, hl, h, e => by cases e
  | .m :: md, v :: vs, some x :: σ, some ⟨sx, d⟩ :: ρ, _, ms, .val r s, hl, h, e => by
    cases sx with
    | brw =>
      unfold outsE at e
      cases e2 : outsE md ρ with
      | none => rw [e2] at e; cases e
      | some ds =>
        rw [e2] at e
        cases e
        obtain ⟨Fm, o, sb⟩ := outs_of (md := md) (vs := vs) s (by simpa using hl) (fun j w h1 h2 => by simpa using h (j + 1) w (by simpa using h1) (by simpa using h2)) e2
        have hx : x = v := by
          have := h 0 v rfl rfl
          simpa using this
        subst hx
        exact ⟨_, .m r o, List.Sublist.append (List.Sublist.refl _) sb⟩
    | _ => cases e
  | .i :: _, _ :: _, [], [], _, _, .nil, _, _, e => by cases e
  | .v :: _, _ :: _, [], [], _, _, .nil, _, _, e => by cases e
  | .m :: _, _ :: _, [], [], _, _, .nil, _, _, e => by cases e
  | [], _ :: _, _, _, _, _, _, hl, _, _ => by simp at hl
  | _ :: _, [], _, _, _, _, _, hl, _, _ => by simp at hl
end
section
variable {P : Program} {w : World} {K : PySem.W.Frag} {mg : Str → Option Value} {base : Heap} {x qual : Str} {params : Arguments} {body : List Stmt} {scope : Scope} {f : Addr} {fd : FuncData}
theorem fn_body {CX : CXT} {N ps : List Str} {k : Nat} {md : List Md} {b : Stx} (F : FunD K x qual params body scope [] [] f fd) (S : FnScope N ps scope) (hl : md.length = ps.length) (hN : md.length ≤ N.length)
    (B : ∀ (cdv : Value) (A : Around) (outer : List Env) (s : Shared) (H : Hp) (E : XK), Room k (A.deeper (envOfC qual scope s.heap.objs.size f cdv)) → PSs (cxOf CX P w K mg base N qual scope f cdv A outer s H E) body (tS K E b)) :
    FnOk P w K mg base CX (k + 1) f fd ps (spF K md (fnD N.length md b)) := by
  refine F.ok S (fun vs H Q E h => h.1.trans hl) fun cdv A outer s H vs Q E hr h => ⟨_, B cdv A outer s H E hr, ?_⟩
  obtain ⟨lv, Z, ds, Fm, zh, tz, ar, nd, zf, post⟩ := h
  have rl : Rel K Z (without H Fm) H (start N vs) (entE md ds N.length) Fm := by
    refine ⟨⟨fun a o h => ?_, fun a o h => (without_some h).1, tz⟩, nd, fun a ha => ?_, ent_slots tz N.length ar (by rw [lv]; exact hN)⟩
    · unfold without
      rw [if_neg (fun q => by rw [zf a q] at h; cases h)]
      exact zh a o h
    · unfold without
      rw [if_pos ha]
  refine ⟨Z, without H Fm, _, Fm, rl, ent_nov _ _ _, ?_⟩
  have post2 : PostF K md vs Z H Fm Q E (match b (entE md ds N.length) with
    | .bad => .bad
    | .next ρ => exitE md ⟨.imm, .none⟩ ρ
    | .ret r ρ => exitE md r ρ
    | .exc c fs ρ => (match outsE md ρ with
      | some ms => .exc c fs ms
      | none => .bad)) := post
  -- the borrowed ones, behind
  have outs : ∀ {σ' : St} {ρ' : Ev} {H' Z' O' : Hp} {F' : List Addr} {ms : List D}, Rel K Z' O' H' σ' ρ' F' → TrS Z (without H Fm) H (start N vs) (entE md ds N.length) Fm Z' O' H' σ' ρ' F' → outsE md ρ' = some ms → ∃ F2, Outs K Z' H' md vs ms F2 ∧ F2.Sublist F' := fun {σ' ρ' H' Z' O' F' ms} rl' tr e => by
    refine outs_of rl'.sl lv (fun j v h1 h2 => ?_) e
    obtain ⟨hj, _⟩ := List.getElem?_eq_some_iff.mp h1
    obtain ⟨d, h3⟩ := ent_brw (ds := ds) (n := N.length) h1 (by rw [ar.lens.1]; exact hj)
    rw [(tr.brw j d h3).1]
    unfold L2.start
    rw [List.getElem?_append_left (by rw [List.length_map]; exact (List.getElem?_eq_some_iff.mp h2).1), List.getElem?_map, h2]
    rfl
  have exit : ∀ {r : R} {ρ' : Ev} {v : V} {σ' : St} {H' Z' O' : Hp} {F' G : List Addr}, PostF K md vs Z H Fm Q E (exitE md r ρ') → Rel K Z' O' H' σ' ρ' F' → RepR K Z' O' H' v r G → (F' ++ G).Nodup → (∀ a ∈ G, O' a = none) → Tr Z H Fm Z' H' (F' ++ G) →
      TrS Z (without H Fm) H (start N vs) (entE md ds N.length) Fm Z' O' H' σ' ρ' F' → Q v H' := fun {r ρ' v σ' H' Z' O' F' G} p rl' q nd' fo t tr => by
    unfold exitE at p
    by_cases c : r.s = .imm ∨ r.s = .own
    · rw [if_pos c] at p
      cases e : outsE md ρ' with
      | none => rw [e] at p; exact p.elim
      | some ms =>
        rw [e] at p
        obtain ⟨F2, o, sb⟩ := outs rl' tr e
        have sb2 : (F2 ++ G).Sublist (F' ++ G) := List.Sublist.append sb (List.Sublist.refl _)
        refine p v H' Z' F2 G ⟨⟨t.z, t.keep, t.zn, fun a ha => t.fn a (sb2.subset ha)⟩, rl'.g.zh, rl'.g.tz, nd'.sublist sb2, fun a ha => ?_, o⟩ c (RetR.move q c)
        rcases List.mem_append.mp ha with ha | ha
        · exact rl'.g.zo.free (rl'.fo a (sb.subset ha))
        · exact rl'.g.zo.free (fo a ha)
    · rw [if_neg c] at p
      exact p.elim
  cases e : b (entE md ds N.length) with
  | bad => rw [e] at post2; exact post2.elim
  | next ρ' =>
    rw [e] at post2
    intro σ' H' Z' O' F' rl' n' tr
    refine exit post2 rl' (G := []) ⟨.non, rfl⟩ (by rw [List.append_nil]; exact rl'.nd) (fun a ha => by cases ha) ?_ tr
    rw [List.append_nil]
    exact tr.tr
  | ret r ρ' =>
    rw [e] at post2
    intro v σ' H' Z' O' F' G rl' q nd' fo t tr
    exact exit post2 rl' q nd' fo t tr
  | exc c fs ρ' =>
    rw [e] at post2
    intro σ' H' Z' O' F' d xs rl' tr hd e1 e2
    have p2 : PostF K md vs Z H Fm Q E (match outsE md ρ' with
      | some ms => .exc c fs ms
      | none => .bad) := post2
    cases eo : outsE md ρ' with
    | none => rw [eo] at p2; exact p2.elim
    | some ms =>
      rw [eo] at p2
      obtain ⟨F2, o, sb⟩ := outs rl' tr eo
      refine p2 H' Z' F2 d xs ⟨⟨tr.tr.z, tr.tr.keep, tr.tr.zn, fun a ha => ?_⟩, rl'.g.zh, rl'.g.tz, ?_, fun a ha => ?_, o⟩ hd e1 e2
      · rw [List.append_nil] at ha
        exact tr.tr.fn a (sb.subset ha)
      · rw [List.append_nil]
        exact rl'.nd.sublist sb
      · rw [List.append_nil] at ha
        exact rl'.g.zo.free (rl'.fo a (sb.subset ha))
end
end Oz

namespace Oz
open PySem PySem.Spec L2
open PyProof.Rows hiding St

/-! ### what is walked -/
/-- J walks the results rs from this state on, whatever happens to F0 -/
def Wlk (K : PySem.W.Frag) (J : It) (rs : List R) (Z0 O0 H0 : Hp) (F0 : List Addr) : Prop := ∀ Z O H, Good Z O H → Same Z0 Z → Same O0 O → (∀ a o, H0 a = some o → a ∉ F0 → H a = some o) → ∀ i, i ≤ rs.length →
  (i = rs.length → J.stop i H) ∧ ∀ r, rs[i]? = some r → J.go i H ∧ ∀ x H', J.yld i H x H' → ∃ Z' O', Ext [] Z O H Z' O' H' ∧ Good Z' O' H' ∧ RepR K Z' O' H' x r []
abbrev Src := Ev → Res (List R)
/-- sg: a source whose items are to outlast what the body does -/
def IOk (K : PySem.W.Frag) (E : XK) (w : TI) (src : Src) : Prop := ∀ (σ : St) (H : Hp) (R : It → Hp → Prop), (∃ Z O ρ F, Rel K Z O H σ ρ F ∧ match src ρ with
  | .bad => False
  | .exc c fs => ExcK K E Z O H c fs
  | .ok rs => ∀ J H' Z' O', Ext [] Z O H Z' O' H' → Good Z' O' H' → Wlk K J rs Z' O' H' F → R J H') → w σ H R
/-- for a comprehension: nothing changes meanwhile -/
def IOc (K : PySem.W.Frag) (E : XK) (w : TI) (src : Src) : Prop := ∀ (σ : St) (H : Hp) (R : It → Hp → Prop), (∃ Z O ρ F, Rel K Z O H σ ρ F ∧ match src ρ with
  | .bad => False
  | .exc c fs => ExcK K E Z O H c fs
  | .ok rs => ∀ J H' Z' O', Ext [] Z O H Z' O' H' → Good Z' O' H' → Wlk K J rs Z' O' H' [] → R J H') → w σ H R
theorem Wlk.less {K : PySem.W.Frag} {J : It} {rs : List R} {Z O H : Hp} {F : List Addr} (h : Wlk K J rs Z O H F) : Wlk K J rs Z O H [] := fun Z1 O1 H1 g ez eo k i hi => h Z1 O1 H1 g ez eo (fun a o q _ => k a o q (by simp)) i hi
theorem IOk.c {K : PySem.W.Frag} {E : XK} {w : TI} {src : Src} (h : IOk K E w src) : IOc K E w src := fun σ H R q => by
  obtain ⟨Z, O, ρ, F, rl, q⟩ := q
  refine h σ H R ⟨Z, O, ρ, F, rl, ?_⟩
  cases e : src ρ with
  | bad => rw [e] at q; exact q
  | exc c fs => rw [e] at q; exact q
  | ok rs => rw [e] at q; exact fun J H' Z' O' x g w => q J H' Z' O' x g w.less

/-! ### lists and tuples -/
def iSeq (K : PySem.W.Frag) (tl : TE) : TI := fun σ H R => tl σ H fun x H1 => ∃ a, x = .ref a ∧ (((∃ xs, SqL K H1 a xs) ∧ R (Itl K a) H1) ∨ ((∃ xs, SqT K H1 a xs) ∧ R (Itt K a) H1))
theorem pi_seq {X : Cx} {tg l : Expr} {tl : TE} (hl : PE X l tl) : PI X tg l (iSeq X.K tl) := by
  refine ⟨fun pins s σ H R I h => ?_⟩
  refine thn (hl.run pins s σ H _ I h) fun v s1 ⟨x, H1, I1, r1, q1⟩ => ?_
  obtain ⟨a, e, q1⟩ := q1
  subst e
  cases r1
  rcases q1 with ⟨⟨xs, hq⟩, q⟩ | ⟨⟨xs, hq⟩, q⟩
  · obtain ⟨its, rv, p, hz⟩ := I1.list hq
    refine wpAny_pyIter_list p.isList ?_
    refine ⟨s1.heap.objs.size, [s1.heap.objs.size], _, _, H1, rfl, I1.kept (t' := s1.toks) fun b o e => Heap.get?_push_of_some _ e, turn_list a _, ⟨_, Heap.get?_push_size _ rfl, rfl, rfl⟩, fun b hb => ?_, q⟩
    have e : b = s1.heap.objs.size := by simpa using hb
    subst e
    exact I1.fpOk (Nat.le_refl _) (I1.hok.fresh (Nat.le_refl _))
  · obtain ⟨its, rv, p, hz⟩ := I1.tuple hq
    refine wpAny_pyIter_tuple (show s1.heap.IsTuple a its.toArray from p) ?_
    refine ⟨s1.heap.objs.size, [s1.heap.objs.size], _, _, H1, rfl, I1.kept (t' := s1.toks) fun b o e => Heap.get?_push_of_some _ e, turn_tuple a _, ⟨_, Heap.get?_push_size _ rfl, rfl, rfl⟩, fun b hb => ?_, q⟩
    have e : b = s1.heap.objs.size := by simpa using hb
    subst e
    exact I1.fpOk (Nat.le_refl _) (I1.hok.fresh (Nat.le_refl _))
def srcR (r : R) : Res (List R) := match itemsD r.d with
  | some ds => .ok (ds.map (sub r.s))
  | none => .bad
/-- for a for: what one looks at only may change -/
def srcS (p : Px) : Src := fun ρ => (p ρ).bind fun r => if r.s = .view then .bad else srcR r
def srcC (p : Px) : Src := fun ρ => (p ρ).bind srcR
section
variable {K : PySem.W.Frag} {E : XK} {Z O H Z' O' H' : Hp} {F G : List Addr}
/-- a result stands while others change -/
theorem RepR.stay {v : V} {r : R} (h : RepR K Z O H v r G) (ez : Same Z Z') (eo : Same O O') (k : ∀ a o, H a = some o → a ∉ F → H' a = some o) (dj : ∀ a ∈ G, a ∉ F) (nv : r.s = .view → F = []) : RepR K Z' O' H' v r G := by
  by_cases e : r.s = .view
  · have ef := nv e
    subst ef
    exact h.sameM ez eo fun a o q => k a o q (by simp)
  · exact h.keep e ez eo fun a ha o q => k a o q (dj a ha)
theorem sub_rep {s : Sx} {d : D} {v : V} (g : Good Z O H) (rv : Rep K H v d) (ri : s = .imm → Rep K Z v d) (ro : s = .out → Rep K O v d) : RepR K Z O H v (Oz.sub s d) [] := by
  unfold Oz.sub
  by_cases l : lf d = true
  · rw [if_pos l]
    exact ⟨rv.up g.tz l, rfl⟩
  · rw [if_neg l]
    cases s with
    | imm => exact ⟨ri rfl, rfl⟩
    | out => exact ⟨ro rfl, rfl⟩
    | view => exact ⟨rv, rfl⟩
    | own => exact ⟨rv, rfl⟩
    | brw => exact ⟨rv, rfl⟩
/-- the items of a row -/
theorem RepR.items {v : V} {r : R} {ds : List D} (g : Good Z O H) (h : RepR K Z O H v r G) (e : itemsD r.d = some ds) :
    ∃ a xs, v = .ref a ∧ ((r.d = .list ds ∧ H a = some (.lst xs)) ∨ (r.d = .tuple ds ∧ SqT K H a xs)) ∧ xs.length = ds.length ∧
      ∀ (i : Nat) (d : D), ds[i]? = some d → ∃ x, xs[i]? = some x ∧ RepR K Z O H x (Oz.sub r.s d) [] := by
  obtain ⟨s, d⟩ := r
  have lk := h.look g
  rcases items_kind e with e1 | e1
  · have e2 : d = .list ds := e1
    subst e2
    cases lk with
    | lst hh rr =>
      refine ⟨_, _, rfl, .inl ⟨rfl, hh⟩, rr.length, fun i d hd => ?_⟩
      obtain ⟨x, hx, rx⟩ := rr.get hd
      refine ⟨x, hx, sub_rep g rx (fun es => ?_) fun es => ?_⟩
      · obtain ⟨p1, v1, z1, z2, z3⟩ := h.zlist es
        cases z1
        have u := g.zh _ _ z2
        rw [hh] at u
        cases u
        obtain ⟨x', hx', rx'⟩ := z3.get hd
        rw [hx] at hx'
        cases hx'
        exact rx'
      · subst es
        obtain ⟨h1, _⟩ := h
        have h2 : Rep K O _ (.list ds) := h1
        cases h2 with
        | lst ho ro =>
          have u := g.oh _ _ ho
          rw [hh] at u
          cases u
          obtain ⟨x', hx', rx'⟩ := ro.get hd
          rw [hx] at hx'
          cases hx'
          exact rx'
  · have e2 : d = .tuple ds := e1
    subst e2
    by_cases es : s = .imm
    · obtain ⟨p1, v1, z1, z2, z3⟩ := h.ztup es
      refine ⟨p1, v1, z1, .inr ⟨rfl, Same.seqT g.zh z2⟩, z3.length, fun i d hd => ?_⟩
      obtain ⟨x, hx, rx⟩ := z3.get hd
      exact ⟨x, hx, sub_rep g (rx.mono g.zh) (fun _ => rx) fun e2 => by rw [es] at e2; cases e2⟩
    · by_cases eo : s = .out
      · subst eo
        obtain ⟨h1, _⟩ := h
        have h2 : Rep K O v (.tuple ds) := h1
        cases h2 with
        | tup ho ro =>
          refine ⟨_, _, rfl, .inr ⟨rfl, Same.seqT g.oh ho⟩, ro.length, fun i d hd => ?_⟩
          obtain ⟨x, hx, rx⟩ := ro.get hd
          exact ⟨x, hx, sub_rep g (rx.mono g.oh) (fun e2 => by cases e2) fun _ => rx⟩
      · cases lk with
        | tup hh rr =>
          refine ⟨_, _, rfl, .inr ⟨rfl, hh⟩, rr.length, fun i d hd => ?_⟩
          obtain ⟨x, hx, rx⟩ := rr.get hd
          exact ⟨x, hx, sub_rep g rx (fun e2 => absurd e2 es) fun e2 => absurd e2 eo⟩
theorem wlk_list {a : Addr} {r : R} {ds : List D} (h : RepR K Z O H (.ref a) r G) (e : r.d = .list ds) (dj : ∀ c ∈ G, c ∉ F) (nv : r.s = .view → F = []) : Wlk K (Itl K a) (ds.map (Oz.sub r.s)) Z O H F := by
  intro Z1 O1 H1 g ez eo k i hi
  have h1 := h.stay ez eo k dj nv
  obtain ⟨b, xs, eb, hk, hl, it⟩ := h1.items g (show itemsD r.d = some ds by rw [e]; rfl)
  cases eb
  rcases hk with ⟨_, hx⟩ | ⟨z, _⟩
  · refine ⟨fun ei => ⟨xs, .inl (.inl hx), by rw [hl, ei, List.length_map]; exact Nat.le_refl _⟩, fun rr hr => ?_⟩
    rw [List.getElem?_map] at hr
    cases hd : ds[i]? with
    | none => rw [hd] at hr; cases hr
    | some d =>
      rw [hd] at hr
      cases hr
      obtain ⟨x, h2, h3⟩ := it i d hd
      refine ⟨⟨xs, x, .inl (.inl hx), h2⟩, fun y H' hy => ?_⟩
      obtain ⟨rfl, hy⟩ := hy
      have := hy xs (.inl (.inl hx))
      rw [h2] at this
      cases this
      exact ⟨Z1, O1, Ext.refl _ _ _ _, g, h3⟩
  · rw [e] at z; cases z
theorem wlk_tup {a : Addr} {r : R} {ds : List D} (h : RepR K Z O H (.ref a) r G) (e : r.d = .tuple ds) (dj : ∀ c ∈ G, c ∉ F) (nv : r.s = .view → F = []) : Wlk K (Itt K a) (ds.map (Oz.sub r.s)) Z O H F := by
  intro Z1 O1 H1 g ez eo k i hi
  have h1 := h.stay ez eo k dj nv
  obtain ⟨b, xs, eb, hk, hl, it⟩ := h1.items g (show itemsD r.d = some ds by rw [e]; rfl)
  cases eb
  rcases hk with ⟨z, _⟩ | ⟨_, hx⟩
  · rw [e] at z; cases z
  · refine ⟨fun ei => ⟨xs, hx, by rw [hl, ei, List.length_map]; exact Nat.le_refl _⟩, fun rr hr => ?_⟩
    rw [List.getElem?_map] at hr
    cases hd : ds[i]? with
    | none => rw [hd] at hr; cases hr
    | some d =>
      rw [hd] at hr
      cases hr
      obtain ⟨x, h2, h3⟩ := it i d hd
      refine ⟨⟨xs, x, hx, h2⟩, fun y H' hy => ?_⟩
      obtain ⟨rfl, hy⟩ := hy
      have := hy xs hx
      rw [h2] at this
      cases this
      exact ⟨Z1, O1, Ext.refl _ _ _ _, g, h3⟩
/-- the walk of a row, from where it stands -/
theorem seq_walk {v : V} {r : R} {ds : List D} (g : Good Z O H) (h : RepR K Z O H v r G) (e : itemsD r.d = some ds) (dj : ∀ c ∈ G, c ∉ F) (nv : r.s = .view → F = []) {R : It → Hp → Prop} (q : ∀ J, Wlk K J (ds.map (Oz.sub r.s)) Z O H F → R J H) :
    ∃ a, v = .ref a ∧ (((∃ xs, SqL K H a xs) ∧ R (Itl K a) H) ∨ ((∃ xs, SqT K H a xs) ∧ R (Itt K a) H)) := by
  obtain ⟨a, xs, ea, hk, hl, it⟩ := h.items g e
  subst ea
  rcases hk with ⟨e1, hx⟩ | ⟨e1, hx⟩
  · exact ⟨a, rfl, .inl ⟨⟨xs, .inl (.inl hx)⟩, q _ (wlk_list h e1 dj nv)⟩⟩
  · exact ⟨a, rfl, .inr ⟨⟨xs, hx⟩, q _ (wlk_tup h e1 dj nv)⟩⟩
end
theorem srcR_some {r : R} {rs : List R} (h : srcR r = .ok rs) : ∃ ds, itemsD r.d = some ds ∧ rs = ds.map (sub r.s) := by
  unfold srcR at h
  cases e : itemsD r.d with
  | none => rw [e] at h; cases h
  | some ds => rw [e] at h; cases h; exact ⟨ds, rfl, rfl⟩
section
variable {K : PySem.W.Frag} {E : XK}
theorem srcS_ok {p : Px} : IOk K E (iSeq K (tP K E p)) (srcS p) := fun σ H R q => by
  obtain ⟨Z, O, ρ, F, rl, q⟩ := q
  refine ⟨Z, O, ρ, F, rl, ?_⟩
  unfold srcS at q
  cases e : p ρ with
  | bad => rw [e] at q; exact q.elim
  | exc c fs => rw [e] at q; exact q
  | ok r =>
    rw [e] at q
    have q2 : match (if r.s = .view then (.bad : Res (List Oz.R)) else srcR r) with
      | .bad => False
      | .exc c fs => ExcK K E Z O H c fs
      | .ok rs => ∀ J H' Z' O', Ext [] Z O H Z' O' H' → Good Z' O' H' → Wlk K J rs Z' O' H' F → R J H' := q
    by_cases c : r.s = .view
    · rw [if_pos c] at q2; exact q2.elim
    · rw [if_neg c] at q2
      intro v H1 Z1 O1 G x g w nd fr
      cases e2 : srcR r with
      | bad => rw [e2] at q2; exact q2.elim
      | exc c fs => unfold srcR at e2; cases e3 : itemsD r.d <;> rw [e3] at e2 <;> cases e2
      | ok rs =>
        rw [e2] at q2
        obtain ⟨ds, e3, rfl⟩ := srcR_some e2
        refine seq_walk (F := F) g w e3 (fun a ha z => ?_) (fun z => absurd z c) fun J wl => q2 J H1 Z1 O1 x g wl
        obtain ⟨o, y, _⟩ := rl.sl.live a z
        rw [(fr a ha).1.elim id fun z => by cases z] at y
        cases y
theorem srcC_ok {p : Px} : IOc K E (iSeq K (tP K E p)) (srcC p) := fun σ H R q => by
  obtain ⟨Z, O, ρ, F, rl, q⟩ := q
  refine ⟨Z, O, ρ, F, rl, ?_⟩
  unfold srcC at q
  cases e : p ρ with
  | bad => rw [e] at q; exact q.elim
  | exc c fs => rw [e] at q; exact q
  | ok r =>
    rw [e] at q
    have q2 : match srcR r with
      | .bad => False
      | .exc c fs => ExcK K E Z O H c fs
      | .ok rs => ∀ J H' Z' O', Ext [] Z O H Z' O' H' → Good Z' O' H' → Wlk K J rs Z' O' H' [] → R J H' := q
    intro v H1 Z1 O1 G x g w nd fr
    cases e2 : srcR r with
    | bad => rw [e2] at q2; exact q2.elim
    | exc c fs => unfold srcR at e2; cases e3 : itemsD r.d <;> rw [e3] at e2 <;> cases e2
    | ok rs =>
      rw [e2] at q2
      obtain ⟨ds, e3, rfl⟩ := srcR_some e2
      exact seq_walk (F := []) g w e3 (fun a ha z => by cases z) (fun z => rfl) fun J wl => q2 J H1 Z1 O1 x g wl

/-! ### ranges -/
def irng (lo : Int) (n : Nat) : List R := (List.range n).map fun (k : Nat) => ⟨.imm, .int (lo + (k : Int))⟩
theorem wlk_range {Z O H : Hp} {F : List Addr} {lo : Int} {n : Nat} : Wlk K (Itr lo n) (irng lo n) Z O H F := by
  intro Z1 O1 H1 g ez eo k i hi
  have hl : (irng lo n).length = n := by unfold irng; simp
  refine ⟨fun ei => by show n ≤ i; omega, fun r hr => ?_⟩
  obtain ⟨hi2, er⟩ := List.getElem?_eq_some_iff.mp hr
  refine ⟨by show i < n; omega, fun x H' hy => ?_⟩
  obtain ⟨rfl, rfl⟩ := hy
  refine ⟨Z1, O1, Ext.refl _ _ _ _, g, ?_⟩
  have e : r = ⟨.imm, .int (lo + (i : Int))⟩ := by
    unfold irng at hr
    rw [List.getElem?_map, List.getElem?_range (by omega)] at hr
    exact (Option.some.inj hr).symm
  rw [e]
  exact ⟨.int _, rfl⟩
noncomputable def inR (i : Int) : Bool := gd (decide (-(2 ^ 62) ≤ i) && decide (i < 2 ^ 62))
theorem inR_eq {i : Int} : inR i = (decide (-(2 ^ 62) ≤ i) && decide (i < 2 ^ 62)) := gd_eq _
noncomputable def srcR1 (p : Px) : Src := fun ρ => (p ρ).bind fun r => match r.d with
  | .int j => if inR j = true then .ok (irng 0 j.toNat) else .bad
  | _ => .bad
noncomputable def srcR2 (p q : Px) : Src := fun ρ => (p ρ).bind fun a => (q ρ).bind fun b => match a.d, b.d with
  | .int i, .int j => if inR i = true ∧ inR j = true then .ok (irng i (j - i).toNat) else .bad
  | _, _ => .bad
theorem inR_ok {i : Int} (h : inR i = true) : -(2 ^ 62) ≤ i ∧ i < 2 ^ 62 := by
  rw [inR_eq] at h
  obtain ⟨h1, h2⟩ := Bool.and_eq_true_iff.mp h
  exact ⟨of_decide_eq_true h1, of_decide_eq_true h2⟩
theorem srcR1_ok {p : Px} : IOk K E (iRng1 (tA K E [p])) (srcR1 p) := fun σ H R q => by
  obtain ⟨Z, O, ρ, F, rl, q⟩ := q
  refine ⟨Z, O, ρ, F, rl, ?_⟩
  unfold srcR1 at q
  have ev : evs [p] ρ = (p ρ).bind fun r => .ok [r] := rfl
  rw [ev]
  cases e : p ρ with
  | bad => rw [e] at q; exact q.elim
  | exc c fs => rw [e] at q; exact q
  | ok r =>
    rw [e] at q
    obtain ⟨s, d⟩ := r
    cases d with
    | int j =>
      have q2 : match (if inR j = true then (.ok (irng 0 j.toNat) : Res (List Oz.R)) else .bad) with
        | .bad => False
        | .exc c fs => ExcK K E Z O H c fs
        | .ok rs => ∀ J H' Z' O', Ext [] Z O H Z' O' H' → Good Z' O' H' → Wlk K J rs Z' O' H' F → R J H' := q
      by_cases c : inR j = true
      · rw [if_pos c] at q2
        intro vs H1 Z1 O1 G x g w nd fr
        cases w with
        | cons w1 w2 =>
          cases w2
          have lk := w1.look g
          cases lk
          obtain ⟨h1, h2⟩ := inR_ok c
          exact ⟨j, rfl, h1, h2, q2 _ H1 Z1 O1 x g wlk_range⟩
      · rw [if_neg c] at q2; exact q2.elim
    | _ => exact q.elim
theorem srcR2_ok {p p' : Px} : IOk K E (iRng2 (tA K E [p, p'])) (srcR2 p p') := fun σ H R q => by
  obtain ⟨Z, O, ρ, F, rl, q⟩ := q
  refine ⟨Z, O, ρ, F, rl, ?_⟩
  unfold srcR2 at q
  have ev : evs [p, p'] ρ = (p ρ).bind fun r => (p' ρ).bind fun r' => .ok [r, r'] := by
    show ((p ρ).bind fun r => (((p' ρ).bind fun r' => (Res.ok [r'] : Res (List Oz.R))).bind fun rs => .ok (r :: rs))) = _
    congr 1
    funext r
    cases p' ρ <;> rfl
  rw [ev]
  cases e : p ρ with
  | bad => rw [e] at q; exact q.elim
  | exc c fs => rw [e] at q; exact q
  | ok r =>
    rw [e] at q
    show match (p' ρ).bind fun r' => (Res.ok [r, r'] : Res (List Oz.R)) with
      | .bad => False
      | .ok rs => OksK K Z O H rs _
      | .exc c fs => ExcK K E Z O H c fs
    cases e' : p' ρ with
    | bad => rw [e'] at q; exact q.elim
    | exc c fs => rw [e'] at q; exact q
    | ok r' =>
      rw [e'] at q
      obtain ⟨s, d⟩ := r
      obtain ⟨s', d'⟩ := r'
      cases d with
      | int i => cases d' with
        | int j =>
          have q2 : match (if inR i = true ∧ inR j = true then (.ok (irng i (j - i).toNat) : Res (List Oz.R)) else .bad) with
            | .bad => False
            | .exc c fs => ExcK K E Z O H c fs
            | .ok rs => ∀ J H' Z' O', Ext [] Z O H Z' O' H' → Good Z' O' H' → Wlk K J rs Z' O' H' F → R J H' := q
          by_cases c : inR i = true ∧ inR j = true
          · rw [if_pos c] at q2
            intro vs H1 Z1 O1 G x g w nd fr
            cases w with
            | cons w1 w2 =>
              cases w2 with
              | cons w2 w3 =>
                cases w3
                have lk := w1.look g
                have lk2 := w2.look g
                cases lk
                cases lk2
                obtain ⟨h1, h2⟩ := inR_ok c.1
                obtain ⟨h3, h4⟩ := inR_ok c.2
                exact ⟨i, j, rfl, ⟨h1, h2, h3, h4⟩, q2 _ H1 Z1 O1 x g wlk_range⟩
          · rw [if_neg c] at q2; exact q2.elim
        | _ => exact q.elim
      | _ => cases d' <;> exact q.elim
end
end Oz

namespace Oz
open PySem PySem.Spec L2
open PyProof.Rows hiding St

/-! ### targets -/
abbrev Tgx := R → Ev → Option Ev
abbrev Tgxs := List R → Ev → Option Ev
/-- the frame behind a store -/
structure Stored (K : PySem.W.Frag) (Z O H : Hp) (σ : St) (ρ : Ev) (F G : List Addr) (σ' : St) (ρ' : Ev) (F' : List Addr) : Prop where
  rl : Rel K Z O H σ' ρ' F'
  nv : nov ρ' = true
  sub : ∀ a ∈ F', a ∈ F ∨ a ∈ G
  len : σ'.length = σ.length
  brw : ∀ (j : Nat) (d : D), ρ[j]? = some (some (R.mk .brw d)) → σ'[j]? = σ[j]? ∧ ∃ d', ρ'[j]? = some (some (R.mk .brw d'))
inductive Its0 (K : PySem.W.Frag) (Z O H : Hp) : List V → List R → Prop
  | nil : Its0 K Z O H [] []
  | cons {v : V} {vs : List V} {r : R} {rs : List R} : RepR K Z O H v r [] → Its0 K Z O H vs rs → Its0 K Z O H (v :: vs) (r :: rs)
def GOk (K : PySem.W.Frag) (t : TG) (tg : Tgx) : Prop := ∀ Z O H σ ρ F v r G ρ', Rel K Z O H σ ρ F → nov ρ = true → RepR K Z O H v r G → G.Nodup → (∀ a ∈ G, a ∉ F) → (∀ a ∈ G, O a = none) → tg r ρ = some ρ' →
  ∀ Q : St → Hp → Prop, (∀ σ' F', Stored K Z O H σ ρ F G σ' ρ' F' → Q σ' H) → t v σ H Q
def GsOk (K : PySem.W.Frag) (t : TGs) (tg : Tgxs) : Prop := ∀ Z O H σ ρ F vs rs ρ', Rel K Z O H σ ρ F → nov ρ = true → Its0 K Z O H vs rs → tg rs ρ = some ρ' →
  ∀ Q : St → Hp → Prop, (∀ σ' F', Stored K Z O H σ ρ F [] σ' ρ' F' → Q σ' H) → t vs σ H Q
def gN (i : Nat) : Tgx := fun r ρ => setS i r ρ
def gsN : Tgxs := fun rs ρ => match rs with
  | [] => some ρ
  | _ => none
def gsC (t : Tgx) (u : Tgxs) : Tgxs := fun rs ρ => match rs with
  | [] => none
  | r :: rs => (match t r ρ with
    | some ρ' => u rs ρ'
    | none => none)
def gT (n : Nat) (t : Tgxs) : Tgx := fun r ρ => match r.d with
  | .tuple ds => if ds.length = n then t (ds.map (sub r.s)) ρ else none
  | _ => none
section
variable {K : PySem.W.Frag}
theorem g_name {i : Nat} : GOk K (gName i) (gN i) := fun Z O H σ ρ F v r G ρ' rl n q nd dj fo e Q k => by
  obtain ⟨F', rl', n', sub, ln, bw⟩ := rl.set n q nd dj fo e
  exact k _ F' ⟨rl', n', sub, ln, bw⟩
theorem gs_nil : GsOk K gNil gsN := fun Z O H σ ρ F vs rs ρ' rl n q e Q k => by
  cases q with
  | nil => cases e; exact ⟨rfl, k σ F ⟨rl, n, fun a h => .inl h, rfl, fun j d h => ⟨rfl, d, h⟩⟩⟩
  | cons _ _ => cases e
theorem Stored.trans {Z O H : Hp} {σ σ1 σ2 : St} {ρ ρ1 ρ2 : Ev} {F F1 F2 : List Addr} (a : Stored K Z O H σ ρ F [] σ1 ρ1 F1) (b : Stored K Z O H σ1 ρ1 F1 [] σ2 ρ2 F2) : Stored K Z O H σ ρ F [] σ2 ρ2 F2 :=
  ⟨b.rl, b.nv, fun c h => (b.sub c h).elim (a.sub c) .inr, b.len.trans a.len, fun j d h => by
    obtain ⟨e1, d1, h1⟩ := a.brw j d h
    obtain ⟨e2, d2, h2⟩ := b.brw j d1 h1
    exact ⟨e2.trans e1, d2, h2⟩⟩
theorem gs_cons {t : TG} {u : TGs} {tg : Tgx} {ug : Tgxs} (h1 : GOk K t tg) (h2 : GsOk K u ug) : GsOk K (gCons t u) (gsC tg ug) := fun Z O H σ ρ F vs rs ρ' rl n q e Q k => by
  cases q with
  | nil => cases e
  | cons q1 q2 =>
    rename_i v vs r rs
    unfold gsC at e
    cases z : tg r ρ with
    | none => simp only [z] at e; cases e
    | some ρ1 =>
      simp only [z] at e
      exact ⟨v, vs, rfl, h1 Z O H σ ρ F v r [] ρ1 rl n q1 List.nodup_nil (fun a h => by cases h) (fun a h => by cases h) z _ fun σ1 F1 s1 =>
        h2 Z O H σ1 ρ1 F1 vs rs ρ' s1.rl s1.nv q2 e _ fun σ2 F2 s2 => k σ2 F2 (s1.trans s2)⟩
theorem RepR.unpack {Z O H : Hp} {v : V} {r : R} {G : List Addr} {ds : List D} (g : Good Z O H) (h : RepR K Z O H v r G) (e : r.d = .tuple ds) : ∃ a xs, v = .ref a ∧ SqT K H a xs ∧ xs.length = ds.length ∧ Its0 K Z O H xs (ds.map (Oz.sub r.s)) := by
  obtain ⟨a, xs, ea, hk, hl, it⟩ := h.items g (show itemsD r.d = some ds by rw [e]; rfl)
  rcases hk with ⟨z, _⟩ | ⟨-, hx⟩
  · rw [e] at z; cases z
  · refine ⟨a, xs, ea, hx, hl, ?_⟩
    clear hx e
    induction ds generalizing xs with
    | nil =>
      cases xs with
      | nil => exact .nil
      | cons _ _ => simp at hl
    | cons d ds ih =>
      cases xs with
      | nil => simp at hl
      | cons x xs =>
        obtain ⟨y, hy, ry⟩ := it 0 d rfl
        have ex : x = y := by simpa using hy
        subst ex
        exact .cons ry (ih xs (by simpa using hl) fun i d' h => by simpa using it (i + 1) d' (by simpa using h))
theorem g_tup {n : Nat} {t : TGs} {tg : Tgxs} (h : GsOk K t tg) : GOk K (gTup K n t) (gT n tg) := fun Z O H σ ρ F v r G ρ' rl nv q nd dj fo e Q k => by
  unfold gT at e
  obtain ⟨s, d⟩ := r
  cases d with
  | tuple ds =>
    have e2 : (if ds.length = n then tg (ds.map (Oz.sub s)) ρ else none) = some ρ' := e
    by_cases c : ds.length = n
    · rw [if_pos c] at e2
      obtain ⟨a, xs, ea, hx, hl, it⟩ := q.unpack rl.g rfl
      exact ⟨a, xs, ea, hx, hl.trans c, h Z O H σ ρ F xs _ ρ' rl nv it e2 Q fun σ' F' s' => k σ' F' ⟨s'.rl, s'.nv, (fun a ha => (s'.sub a ha).imp id fun z => by cases z), s'.len, s'.brw⟩⟩
    · rw [if_neg c] at e2; cases e2
  | _ => cases e
end
/-- a, b = e -/
def sAsgT (g : Tgx) (p : Px) : Stx := fun ρ => match p ρ with
  | .bad => .bad
  | .exc c fs => .exc c fs ρ
  | .ok r => (match g r ρ with
    | some ρ' => .next ρ'
    | none => .bad)
theorem s_asgT {X : Cx} {E : XK} {tg e : Expr} {p : Px} {t : TG} {g : Tgx} {pos : Pos} (he : PE X e (tP X.K E p)) (hg : PG X tg t) (gk : GOk X.K t g) (hs : swapsWithSole [tg] e pos.line X.env = pure false := by rfl) (hw : swappedStores [tg] e X.env = pure none := by rfl)
    (h1 : (assignEach [tg] X.env).map (·.2) = [assign tg X.env] := by rfl) : PS X (.Assign [tg] e pos) (tS X.K E (sAsgT g p)) := by
  refine (ps_asg he hg hs hw h1).imp fun D σ H h => ?_
  refine tS_expr (s := fun r ρ => match g r ρ with | some ρ' => .next ρ' | none => .bad) h fun Z0 O0 Z O H1 ρ F G v r rl n q nd dj fo fh tr h2 => ?_
  cases z : g r ρ with
  | none => rw [z] at h2; exact h2.elim
  | some ρ' =>
    rw [z] at h2
    refine gk Z O H1 σ ρ F v r G ρ' rl n q nd dj fo z _ fun σ' F' st => ?_
    exact h2 _ H1 Z O F' st.rl st.nv ⟨⟨tr.tr.z, tr.tr.keep, tr.tr.zn, fun a ha => (st.sub a ha).imp id (fh a)⟩, tr.o, st.len, st.brw⟩

/-! ### for -/
def loopS (g : Tgx) (b : Stx) : List R → Ev → SR
  | [], ρ => .next ρ
  | r :: rs, ρ => (match g r ρ with
    | none => .bad
    | some ρ1 => (match b ρ1 with
      | .next ρ2 => loopS g b rs ρ2
      | x => x))
def sFor (src : Src) (g : Tgx) (b : Stx) : Stx := fun ρ => match src ρ with
  | .bad => .bad
  | .exc c fs => .exc c fs ρ
  | .ok rs => loopS g b rs ρ
theorem s_for {X : Cx} {E : XK} {tg iter : Expr} {body : List Stmt} {w : TI} {src : Src} {t : TG} {g : Tgx} {b : Stx} {pos : Pos} (hp : PassesOwn (model X.prog X.w) X.A X.env X.xe) (hc : X.calm = true) (hi : PI X tg iter w) (ik : IOk X.K E w src) (hg : PG X tg t) (gk : GOk X.K t g)
    (hb : PSs X body (tS X.K E b)) (hs : ∀ x, foldedSetIterable iter X.env x = pure x := by exact fun _ => rfl) : PS X (.For tg iter body [] pos) (tS X.K E (sFor src g b)) := by
  refine (ps_for hp hc hi hg hb hs).imp fun D σ H h => ?_
  obtain ⟨Z, O, ρ, F, rl, n, h⟩ := h
  refine ik σ H _ ⟨Z, O, ρ, F, rl, ?_⟩
  unfold sFor at h
  cases e : src ρ with
  | bad => rw [e] at h; exact h.elim
  | exc c fs => rw [e] at h; exact SRK.exc rl h
  | ok rs =>
    rw [e] at h
    have h1 : SRK X.K E Z O H σ ρ F D.nx D.rt (loopS g b rs ρ) := h
    intro J H1 Z1 O1 x1 g1 wl
    -- what holds ahead of each turn
    refine ⟨fun i m σ' H' => m = rs.length - i ∧ i ≤ rs.length ∧ ∃ Z' O' ρ' F', Rel X.K Z' O' H' σ' ρ' F' ∧ nov ρ' = true ∧ TrS Z1 O1 H1 σ ρ F Z' O' H' σ' ρ' F' ∧ SRK X.K E Z' O' H' σ' ρ' F' D.nx D.rt (loopS g b (rs.drop i) ρ'),
      ⟨rs.length, by simp, Nat.zero_le _, Z1, O1, ρ, F, rl.ext x1 g1, n, TrS.refl _ _ _ _ _ _, SRK.from h1 (TrS.ext x1)⟩, ?_⟩
    rintro i m σ' H' ⟨em, hi', Z', O', ρ', F', rl', n', tr, sk⟩
    obtain ⟨w1, w2⟩ := wl Z' O' H' rl'.g tr.tr.z tr.o tr.tr.keep i hi'
    by_cases hlt : i < rs.length
    · obtain ⟨go, yl⟩ := w2 rs[i] (List.getElem?_eq_getElem hlt)
      have ed : rs.drop i = rs[i] :: rs.drop (i + 1) := List.drop_eq_getElem_cons hlt
      rw [ed] at sk
      refine .inr ⟨go, fun σ2 H2 => ∃ Z2 O2 ρ2 F2, Rel X.K Z2 O2 H2 σ2 ρ2 F2 ∧ nov ρ2 = true ∧ TrS Z1 O1 H1 σ ρ F Z2 O2 H2 σ2 ρ2 F2 ∧ SRK X.K E Z2 O2 H2 σ2 ρ2 F2 D.nx D.rt (loopS g b (rs.drop (i + 1)) ρ2),
        fun σ2 H2 ⟨Z2, O2, ρ2, F2, q1, q2, q3, q4⟩ => ⟨rs.length - (i + 1), by omega, rfl, hlt, Z2, O2, ρ2, F2, q1, q2, q3, q4⟩, fun x H2 hy => ?_⟩
      obtain ⟨Z2, O2, x2, g2, r2⟩ := yl x H2 hy
      have rl2 := rl'.ext x2 g2
      have tr2 := tr.trans (TrS.ext (σ := σ') (ρ := ρ') (F := F') x2)
      have sk2 := SRK.from sk (TrS.ext (σ := σ') (ρ := ρ') (F := F') x2)
      unfold loopS at sk2
      cases z : g rs[i] ρ' with
      | none => simp only [z] at sk2; exact sk2.elim
      | some ρ3 =>
        simp only [z] at sk2
        refine gk Z2 O2 H2 σ' ρ' F' x rs[i] [] ρ3 rl2 n' r2 List.nodup_nil (fun a h => by cases h) (fun a h => by cases h) z _ fun σ3 F3 st => ?_
        have ts : TrS Z2 O2 H2 σ' ρ' F' Z2 O2 H2 σ3 ρ3 F3 := ⟨⟨Same.refl _, fun a o q _ => q, fun a q => .inl q, fun a ha => (st.sub a ha).imp id fun z => by cases z⟩, Same.refl _, st.len, st.brw⟩
        refine ⟨Z2, O2, ρ3, F3, st.rl, st.nv, ?_⟩
        have sk3 := SRK.from sk2 ts
        have tr3 := tr2.trans ts
        cases y : b ρ3 with
        | bad => simp only [y] at sk3; exact sk3.elim
        | ret r ρ4 => simp only [y] at sk3; exact sk3
        | exc c fs ρ4 => simp only [y] at sk3; exact sk3
        | next ρ4 =>
          simp only [y] at sk3
          exact fun σ4 H4 Z4 O4 F4 rl4 n4 tr4 => ⟨Z4, O4, ρ4, F4, rl4, n4, tr3.trans tr4, SRK.from sk3 tr4⟩
    · have ei : i = rs.length := by omega
      refine .inl ⟨w1 ei, ?_⟩
      have ed : rs.drop i = [] := List.drop_eq_nil_of_le (by omega)
      rw [ed] at sk
      exact sk σ' H' Z' O' F' rl' n' (TrS.refl _ _ _ _ _ _)
end Oz

namespace Oz
open PySem PySem.Spec L2
open PyProof.Rows hiding St

/-! ### the comprehension's own names -/
def wipeE (ρ : Ev) : List Nat → Ev
  | [] => ρ
  | v :: vs => (wipeE ρ vs).set v none
theorem wipe_in {σ : St} {i : Nat} : ∀ {vs : List Nat}, i ∈ vs → i < σ.length → (wipe σ vs)[i]? = some none
  | [], h, _ => by cases h
  | v :: vs, h, hl => by
    unfold wipe
    by_cases e : v = i
    · subst e
      rw [List.getElem?_set_self (by rw [wipe_length]; exact hl)]
    · rw [List.getElem?_set_ne e]
      rcases List.mem_cons.mp h with z | z
      · exact absurd z.symm e
      · exact wipe_in z hl
theorem wipe_set {σ : St} {i : Nat} {x : Option V} {vs : List Nat} (h : i ∈ vs) : wipe (σ.set i x) vs = wipe σ vs := by
  apply List.ext_getElem?
  intro j
  by_cases hj : j ∈ vs
  · by_cases hl : j < σ.length
    · rw [wipe_in hj hl, wipe_in hj (by rw [List.length_set]; exact hl)]
    · rw [List.getElem?_eq_none (by rw [wipe_length, List.length_set]; omega), List.getElem?_eq_none (by rw [wipe_length]; omega)]
  · rw [wipe_out hj, wipe_out hj, List.getElem?_set_ne (fun (e : i = j) => hj (e ▸ h))]
section
variable {K : PySem.W.Frag} {Z O H : Hp} {σ : St} {ρ : Ev} {F : List Addr}
theorem Rel.drop (rl : Rel K Z O H σ ρ F) (v : Nat) : ∃ F', Rel K Z O H (σ.set v none) (ρ.set v none) F' ∧ F'.Sublist F := by
  by_cases hl : v < ρ.length
  · obtain ⟨x, y, F1, G, F2, h1, h2, h3, h4, h5⟩ := rl.sl.focus hl
    have sl := h5 none none [] Z O H (Same.refl _) (Same.refl _) (.inl (Same.refl _)) (fun a _ o q => q) rfl
    have sb : (F1 ++ ([] ++ F2)).Sublist F := by
      rw [h3, List.nil_append]
      exact List.Sublist.append (List.Sublist.refl _) (List.sublist_append_right _ _)
    exact ⟨_, ⟨rl.g, rl.nd.sublist sb, fun a ha => rl.fo a (sb.subset ha), sl⟩, sb⟩
  · have e1 : ρ.set v none = ρ := List.set_eq_of_length_le (by omega)
    have e2 : σ.set v none = σ := List.set_eq_of_length_le (by rw [rl.sl.length]; omega)
    rw [e1, e2]
    exact ⟨F, rl, List.Sublist.refl _⟩
theorem Rel.wipe (rl : Rel K Z O H σ ρ F) : ∀ vs : List Nat, ∃ F', Rel K Z O H (L2.wipe σ vs) (wipeE ρ vs) F' ∧ F'.Sublist F
  | [] => ⟨F, rl, List.Sublist.refl _⟩
  | v :: vs => by
    obtain ⟨F1, r1, s1⟩ := rl.wipe vs
    obtain ⟨F2, r2, s2⟩ := r1.drop v
    exact ⟨F2, r2, s2.trans s1⟩
end
theorem nov_wipe {ρ : Ev} (n : nov ρ = true) : ∀ vs : List Nat, nov (wipeE ρ vs) = true
  | [] => n
  | v :: vs => nov_set (nov_wipe n vs) fun d h => by cases h

/-! ### its targets -/
def setC (i : Nat) (r : R) (ρ : Ev) : Option Ev := match ρ[i]? with
  | none => none
  | some (some ⟨.brw, _⟩) => none
  | some _ => if r.s = .own ∨ r.s = .brw then none else some (ρ.set i (some r))
def GOc (K : PySem.W.Frag) (is : List Nat) (t : TG) (tg : Tgx) : Prop := ∀ Z O H σ ρ F v r ρ', Rel K Z O H σ ρ F → RepR K Z O H v r [] → tg r ρ = some ρ' →
  ∀ Q : St → Hp → Prop, (∀ σ' F', Rel K Z O H σ' ρ' F' → F'.Sublist F → (∀ vs, (∀ i ∈ is, i ∈ vs) → wipe σ' vs = wipe σ vs) → Q σ' H) → t v σ H Q
def GsOc (K : PySem.W.Frag) (is : List Nat) (t : TGs) (tg : Tgxs) : Prop := ∀ Z O H σ ρ F vs rs ρ', Rel K Z O H σ ρ F → Its0 K Z O H vs rs → tg rs ρ = some ρ' →
  ∀ Q : St → Hp → Prop, (∀ σ' F', Rel K Z O H σ' ρ' F' → F'.Sublist F → (∀ vs, (∀ i ∈ is, i ∈ vs) → wipe σ' vs = wipe σ vs) → Q σ' H) → t vs σ H Q
def cN (i : Nat) : Tgx := fun r ρ => setC i r ρ
section
variable {K : PySem.W.Frag}
theorem c_name {i : Nat} : GOc K [i] (gName i) (cN i) := fun Z O H σ ρ F v r ρ' rl q e Q k => by
  unfold cN setC at e
  cases z : ρ[i]? with
  | none => rw [z] at e; cases e
  | some y =>
    rw [z] at e
    have fin : (if r.s = .own ∨ r.s = .brw then none else some (ρ.set i (some r))) = some ρ' → ρ' = ρ.set i (some r) := fun h => by
      by_cases c : r.s = .own ∨ r.s = .brw
      · rw [if_pos c] at h; cases h
      · rw [if_neg c] at h; exact (Option.some.inj h).symm
    have e2 : ρ' = ρ.set i (some r) := by
      cases y with
      | none => exact fin e
      | some q =>
        obtain ⟨s, d⟩ := q
        cases s with
        | brw => cases e
        | _ => exact fin e
    subst e2
    obtain ⟨hl, _⟩ := List.getElem?_eq_some_iff.mp z
    obtain ⟨x, y', F1, G, F2, h1, h2, h3, h4, h5⟩ := rl.sl.focus hl
    have sl := h5 (some v) (some r) [] Z O H (Same.refl _) (Same.refl _) (.inl (Same.refl _)) (fun a _ o q => q) q
    have sb : (F1 ++ ([] ++ F2)).Sublist F := by
      rw [h3, List.nil_append]
      exact List.Sublist.append (List.Sublist.refl _) (List.sublist_append_right _ _)
    exact k _ _ ⟨rl.g, rl.nd.sublist sb, fun a ha => rl.fo a (sb.subset ha), sl⟩ sb fun vs h => wipe_set (h i (by simp))
theorem cs_nil : GsOc K [] gNil gsN := fun Z O H σ ρ F vs rs ρ' rl q e Q k => by
  cases q with
  | nil => cases e; exact ⟨rfl, k σ F rl (List.Sublist.refl _) fun _ _ => rfl⟩
  | cons _ _ => cases e
theorem cs_cons {is js : List Nat} {t : TG} {u : TGs} {tg : Tgx} {ug : Tgxs} (h1 : GOc K is t tg) (h2 : GsOc K js u ug) : GsOc K (is ++ js) (gCons t u) (gsC tg ug) := fun Z O H σ ρ F vs rs ρ' rl q e Q k => by
  cases q with
  | nil => cases e
  | cons q1 q2 =>
    rename_i v vs r rs
    unfold gsC at e
    cases z : tg r ρ with
    | none => simp only [z] at e; cases e
    | some ρ1 =>
      simp only [z] at e
      exact ⟨v, vs, rfl, h1 Z O H σ ρ F v r ρ1 rl q1 z _ fun σ1 F1 r1 s1 w1 =>
        h2 Z O H σ1 ρ1 F1 vs rs ρ' r1 q2 e _ fun σ2 F2 r2 s2 w2 => k σ2 F2 r2 (s2.trans s1) fun vs h => (w2 vs fun i hi => h i (List.mem_append_right _ hi)).trans (w1 vs fun i hi => h i (List.mem_append_left _ hi))⟩
theorem c_tup {is : List Nat} {n : Nat} {t : TGs} {tg : Tgxs} (h : GsOc K is t tg) : GOc K is (gTup K n t) (gT n tg) := fun Z O H σ ρ F v r ρ' rl q e Q k => by
  unfold gT at e
  obtain ⟨s, d⟩ := r
  cases d with
  | tuple ds =>
    have e2 : (if ds.length = n then tg (ds.map (Oz.sub s)) ρ else none) = some ρ' := e
    by_cases c : ds.length = n
    · rw [if_pos c] at e2
      obtain ⟨a, xs, ea, hx, hl, it⟩ := q.unpack rl.g rfl
      exact ⟨a, xs, ea, hx, hl.trans c, h Z O H σ ρ F xs _ ρ' rl it e2 Q k⟩
    · rw [if_neg c] at e2; cases e2
  | _ => cases e
end

/-! ### [e for x in xs if t] -/
def compE (g : Tgx) (t : Tx) (p : Px) (ρ0 : Ev) : List R → Option (List R)
  | [] => some []
  | r :: rs => (match g r ρ0 with
    | none => none
    | some ρ1 => (match t ρ1 with
      | .ok b => if b = true then (match p ρ1 with
        | .ok y => (match compE g t p ρ0 rs with
          | some ys => some (y :: ys)
          | none => none)
        | _ => none) else compE g t p ρ0 rs
      | _ => none))
def compR (rs : List R) : Res R := if rs.length ≤ sizeLine then (match owns rs with
  | some ds => .ok ⟨.own, .list ds⟩
  | none => (match frzs rs with
    | some ds => .ok ⟨.imm, .list ds⟩
    | none => .bad)) else .bad
def pComp (vs : List Nat) (src : Src) (g : Tgx) (t : Tx) (p : Px) : Px := fun ρ => if nov ρ = true then (src ρ).bind fun rs => match compE g t p (wipeE ρ vs) rs with
  | some ys => compR ys
  | none => .bad else .bad
def tYesD : Tx := fun _ => .ok true
theorem s_ifs0 {X : Cx} {E : XK} : PTs X [] (tT X.K E tYesD) := ⟨fun pins s σ H Q I h => by
  obtain ⟨Z, O, ρ, F, rl, h⟩ := h
  exact pts_nil.run pins s σ H Q I (h H Z O (Ext.refl _ _ _ _) rl.g)⟩
theorem s_ifs1 {X : Cx} {E : XK} {c : Expr} {t : Tx} (h : PT X c (tT X.K E t)) : PTs X [c] (tT X.K E t) := pts_one h
theorem owns_append : ∀ {xs ys : List R} {ds : List D}, owns (xs ++ ys) = some ds → ∃ d1 d2, owns xs = some d1 ∧ owns ys = some d2 ∧ ds = d1 ++ d2
  | [], ys, ds, h => ⟨[], ds, rfl, h, rfl⟩
  | x :: xs, ys, ds, h => by
    rw [List.cons_append] at h
    unfold owns at h
    cases h1 : ownR x with
    | none => simp only [h1] at h; cases h
    | some d =>
      cases h2 : owns (xs ++ ys) with
      | none => simp only [h1, h2] at h; cases h
      | some ds' =>
        simp only [h1, h2] at h
        cases h
        obtain ⟨d1, d2, e1, e2, e3⟩ := owns_append h2
        exact ⟨d :: d1, d2, by unfold owns; simp only [h1, e1], e2, by rw [e3]; rfl⟩
theorem frzs_append : ∀ {xs ys : List R} {ds : List D}, frzs (xs ++ ys) = some ds → ∃ d1 d2, frzs xs = some d1 ∧ frzs ys = some d2 ∧ ds = d1 ++ d2
  | [], ys, ds, h => ⟨[], ds, rfl, h, rfl⟩
  | x :: xs, ys, ds, h => by
    rw [List.cons_append] at h
    unfold frzs at h
    cases h1 : frzR x with
    | none => simp only [h1] at h; cases h
    | some d =>
      cases h2 : frzs (xs ++ ys) with
      | none => simp only [h1, h2] at h; cases h
      | some ds' =>
        simp only [h1, h2] at h
        cases h
        obtain ⟨d1, d2, e1, e2, e3⟩ := frzs_append h2
        exact ⟨d :: d1, d2, by unfold frzs; simp only [h1, e1], e2, by rw [e3]; rfl⟩
/-- the list so far -/
structure Acc (K : PySem.W.Frag) (Hs Z O H : Hp) (L : Addr) (own : Bool) (acc : List V) (ds : List D) (G : List Addr) : Prop where
  at_ : H L = some (.lst acc)
  zl : Z L = none
  ol : O L = none
  it : if own = true then Owns K Z H acc ds G else Reps K Z acc ds ∧ G = []
  nd : G.Nodup
  ng : L ∉ G
  fr : ∀ a ∈ G, Hs a = none ∧ O a = none
section
variable {K : PySem.W.Frag} {E : XK} {Hs Z O H Z' O' H' : Hp} {L : Addr} {own : Bool} {acc : List V} {ds : List D} {G : List Addr}
theorem Acc.ext (a : Acc K Hs Z O H L own acc ds G) (e : Ext [] Z O H Z' O' H') : Acc K Hs Z' O' H' L own acc ds G := by
  have nn : ∀ {C C' : Hp}, (∀ c, C' c ≠ none → C c ≠ none ∨ H c = none ∨ c ∈ ([] : List Addr)) → ∀ {c : Addr}, C c = none → (∃ o, H c = some o) → C' c = none := fun {C C'} h {c} h1 h2 => by
    cases w : C' c with
    | none => rfl
    | some x =>
      obtain ⟨o, h3⟩ := h2
      rcases h c (by rw [w]; simp) with z | z | z
      · exact absurd h1 z
      · rw [h3] at z; cases z
      · cases z
  refine ⟨e.h _ _ a.at_, nn e.zn a.zl ⟨_, a.at_⟩, nn e.on a.ol ⟨_, a.at_⟩, ?_, a.nd, a.ng, fun c hc => ⟨(a.fr c hc).1, ?_⟩⟩
  · have := a.it
    cases own with
    | true => exact Owns.mono e.z (fun c _ o q => e.h c o q) this
    | false => exact ⟨Reps.mono e.z this.1, this.2⟩
  · cases own with
    | true =>
      have it : Owns K Z H acc ds G := a.it
      obtain ⟨o, h1, _⟩ := it.live c hc
      exact nn e.on (a.fr c hc).2 ⟨o, h1⟩
    | false =>
      obtain ⟨_, h⟩ : Reps K Z acc ds ∧ G = [] := a.it
      subst h
      cases hc
/-- one more -/
theorem Acc.push {v : V} {r : R} {G' : List Addr} {d : D} (g : Good Z O H) (a : Acc K Hs Z O H L own acc ds G) (q : RepR K Z O H v r G') (nd : G'.Nodup) (fr : ∀ c ∈ G', Hs c = none ∧ O c = none) (dj : ∀ c ∈ G', c ∉ G ∧ c ≠ L)
    (e : (if own = true then ownR r else frzR r) = some d) (hsL : Hs L = none) :
    Good Z O (upd H L (.lst (acc ++ [v]))) ∧ ∃ G2, Acc K Hs Z O (upd H L (.lst (acc ++ [v]))) L own (acc ++ [v]) (ds ++ [d]) G2 := by
  have gd : Good Z O (upd H L (.lst (acc ++ [v]))) := by
    refine ⟨g.zo, fun c o h => ?_, fun c o h f => ?_⟩
    · have ne : c ≠ L := fun z => by rw [z, a.ol] at h; cases h
      rw [upd_ne ne]
      exact g.oh c o h
    · by_cases z : c = L
      · rw [z, upd_same] at h; cases h; cases f
      · rw [upd_ne z] at h; exact g.tz c o h f
  refine ⟨gd, ?_⟩
  cases own with
  | true =>
    have it : Owns K Z H acc ds G := a.it
    obtain ⟨G1, o1, c1⟩ := ownR_ok g q e
    have s1 : ∀ c ∈ G1, c ∈ G' := fun c hc => by
      rcases c1 with z | z
      · rw [z] at hc; exact hc
      · rw [z] at hc; cases hc
    have n1 : G1.Nodup := by
      rcases c1 with z | z
      · rw [z]; exact nd
      · rw [z]; exact List.nodup_nil
    have keep : ∀ {F : List Addr}, L ∉ F → ∀ c ∈ F, ∀ o, H c = some o → upd H L (.lst (acc ++ [v])) c = some o := fun {F} n c hc o h => by
      rw [upd_ne (fun (z : c = L) => n (z ▸ hc))]; exact h
    refine ⟨G ++ G1, upd_same, a.zl, a.ol, ?_, ?_, fun z => ?_, fun c hc => ?_⟩
    · show Owns K Z _ (acc ++ [v]) (ds ++ [d]) (G ++ G1)
      exact (Owns.mono (Same.refl _) (keep a.ng) it).append (Owns.one (Own.mono (Same.refl _) (keep fun z => (dj L (s1 L z)).2 rfl) o1))
    · rw [List.nodup_append]
      exact ⟨a.nd, n1, fun x hx y hy z => (dj y (s1 y hy)).1 (z ▸ hx)⟩
    · rcases List.mem_append.mp z with z | z
      · exact a.ng z
      · exact (dj L (s1 L z)).2 rfl
    · rcases List.mem_append.mp hc with hc | hc
      · exact a.fr c hc
      · exact fr c (s1 c hc)
  | false =>
    obtain ⟨it, eg⟩ : Reps K Z acc ds ∧ G = [] := a.it
    subst eg
    exact ⟨[], upd_same, a.zl, a.ol, ⟨it.append (.cons (frzR_ok g q e) .nil), rfl⟩, List.nodup_nil, (fun z => by cases z), fun c hc => by cases hc⟩
end
section
variable {K : PySem.W.Frag} {E : XK}
theorem comp_ok {vs : List Nat} {is : List Nat} {w : TI} {src : Src} {t : TG} {g : Tgx} {tt : Tx} {p : Px} {σ : St} {H : Hp} {Q : VK} (ik : IOc K E w src) (gk : GOc K is t g) (hv : ∀ i ∈ is, i ∈ vs) (h : tP K E (pComp vs src g tt p) σ H Q) :
    tLc w t (tT K E tt) (tP K E p) vs σ H Q := by
  obtain ⟨Z, O, ρ, F, rl, h⟩ := h
  refine ik σ H _ ⟨Z, O, ρ, F, rl, ?_⟩
  unfold pComp at h
  by_cases nv : nov ρ = true
  · rw [if_pos nv] at h
    cases e : src ρ with
    | bad => rw [e] at h; exact h.elim
    | exc c fs => rw [e] at h; exact h
    | ok rs =>
      rw [e] at h
      have h1 : ResK K E [] Z O H (match compE g tt p (wipeE ρ vs) rs with
        | some ys => compR ys
        | none => .bad) Q := h
      intro J H1 Z1 O1 x1 g1 wl L nL
      -- how the whole ends
      have zL : Z1 L = none := none_of g1.zh nL
      have oL : O1 L = none := none_of g1.oh nL
      have end_ : ∀ {own : Bool} {acc : List V} {ds : List D} {G : List Addr} {Z2 O2 H2 : Hp} {r : R}, Good Z2 O2 H2 → Ext [] Z1 O1 H1 Z2 O2 H2 → Acc K H1 Z2 O2 H2 L own acc ds G → r = (if own = true then ⟨.own, .list ds⟩ else ⟨.imm, .list ds⟩) → OkK K [] Z O H r Q → Q (.ref L) H2 := fun {own acc ds G Z2 O2 H2 r} g2 x2 a er q => by
        cases own with
        | true =>
          subst er
          have it : Owns K Z2 H2 acc ds G := a.it
          refine q _ H2 Z2 O2 (L :: G) (x1.trans0 x2) g2 (.lst a.at_ it) (List.nodup_cons.mpr ⟨a.ng, a.nd⟩) fun c hc => ?_
          rcases List.mem_cons.mp hc with z | z
          · rw [z]; exact ⟨.inl (x1.h.free nL), a.ol⟩
          · exact ⟨.inl (x1.h.free (a.fr c z).1), (a.fr c z).2⟩
        | false =>
          subst er
          obtain ⟨it, eg⟩ : Reps K Z2 acc ds ∧ G = [] := a.it
          have sz : Same Z2 (upd Z2 L (.lst acc)) := same_new a.zl
          have so : Same O2 (upd O2 L (.lst acc)) := same_new a.ol
          have g3 : Good (upd Z2 L (.lst acc)) (upd O2 L (.lst acc)) H2 := by
            refine ⟨fun c o h => ?_, fun c o h => ?_, fun c o h f => ?_⟩
            · by_cases z : c = L
              · subst z; rw [upd_same] at h ⊢; exact h
              · rw [upd_ne z] at h ⊢; exact g2.zo _ _ h
            · by_cases z : c = L
              · subst z; rw [upd_same] at h; rw [← h]; exact a.at_
              · rw [upd_ne z] at h; exact g2.oh _ _ h
            · by_cases z : c = L
              · subst z; rw [a.at_] at h; cases h; cases f
              · rw [upd_ne z]; exact g2.tz _ _ h f
          refine q _ H2 _ _ [] ⟨x1.h.trans x2.h, (x1.z.trans x2.z).trans sz, (x1.o.trans x2.o).trans so, fun c h => ?_, fun c h => ?_⟩ g3 ⟨.lst upd_same (it.mono sz), rfl⟩ List.nodup_nil fun c hc => by cases hc
          · rcases upd_some h with z | z
            · exact (x1.trans0 x2).zn c z
            · rw [z]; exact .inr (.inl (x1.h.free nL))
          · rcases upd_some h with z | z
            · exact (x1.trans0 x2).on c z
            · rw [z]; exact .inr (.inl (x1.h.free nL))
      -- what holds ahead of each turn
      have rl1 := rl.ext x1 g1
      obtain ⟨Fw, rlw, sbw⟩ := rl1.wipe vs
      have nw := nov_wipe nv vs
      -- the rest of the walk, with what is made so far
      let After := fun (i : Nat) (Z2 O2 H2 : Hp) => ∃ (own : Bool) (acc : List V) (ds : List D) (G : List Addr) (ys : List Oz.R) (ds2 : List D), Acc K H1 Z2 O2 H2 L own acc ds G ∧ compE g tt p (wipeE ρ vs) (rs.drop i) = some ys ∧ acc.length + ys.length ≤ sizeLine ∧
        (if own = true then owns ys else frzs ys) = some ds2 ∧ OkK K [] Z O H (if own = true then ⟨.own, .list (ds ++ ds2)⟩ else ⟨.imm, .list (ds ++ ds2)⟩) Q
      refine ⟨fun i m H' => m = rs.length - i ∧ i ≤ rs.length ∧ ∃ Z2 O2 F2, Good Z2 O2 H' ∧ Ext [] Z1 O1 H1 Z2 O2 H' ∧ Rel K Z2 O2 H' (L2.wipe σ vs) (wipeE ρ vs) F2 ∧ L ∉ F2 ∧ (∀ c ∈ F2, ∃ o, H1 c = some o) ∧ After i Z2 O2 H', ⟨rs.length, by simp, Nat.zero_le _, ?_⟩, ?_⟩
      · obtain ⟨x2, g2⟩ := ext_new (o := .lst []) g1 nL rfl
        have lv : ∀ c ∈ Fw, ∃ o, H1 c = some o := fun c hc => let ⟨o, h, _⟩ := rlw.sl.live c hc; ⟨o, h⟩
        have nF : L ∉ Fw := fun z => by
          obtain ⟨o, h⟩ := lv L z
          rw [nL] at h
          cases h
        refine ⟨Z1, O1, Fw, g2, x2, rlw.ext x2 g2, nF, lv, ?_⟩
        show ∃ (own : Bool) (acc : List V) (ds : List D) (G : List Addr) (ys : List Oz.R) (ds2 : List D), _
        cases e2 : compE g tt p (wipeE ρ vs) rs with
        | none => rw [e2] at h1; exact h1.elim
        | some ys =>
          rw [e2] at h1
          have h2 : ResK K E [] Z O H (if ys.length ≤ sizeLine then (match owns ys with
            | some ds => .ok ⟨.own, .list ds⟩
            | none => (match frzs ys with
              | some ds => .ok ⟨.imm, .list ds⟩
              | none => .bad)) else .bad) Q := h1
          by_cases ll : ys.length ≤ sizeLine
          · rw [if_pos ll] at h2
            cases e3 : owns ys with
            | some ds =>
              rw [e3] at h2
              exact ⟨true, [], [], [], ys, ds, ⟨upd_same, zL, oL, .nil, List.nodup_nil, (fun z => by cases z), fun c hc => by cases hc⟩, by rw [List.drop_zero, e2], by simpa using ll, e3, h2⟩
            | none =>
              rw [e3] at h2
              have h3 : ResK K E [] Z O H (match frzs ys with
                | some ds => .ok ⟨.imm, .list ds⟩
                | none => .bad) Q := h2
              cases e4 : frzs ys with
              | none => rw [e4] at h3; exact h3.elim
              | some ds =>
                rw [e4] at h3
                exact ⟨false, [], [], [], ys, ds, ⟨upd_same, zL, oL, ⟨.nil, rfl⟩, List.nodup_nil, (fun z => by cases z), fun c hc => by cases hc⟩, by rw [List.drop_zero, e2], by simpa using ll, e4, h3⟩
          · rw [if_neg ll] at h2
            exact h2.elim
      · rintro i m H' ⟨em, hi, Z2, O2, F2, g2, x2, rl2, nF2, lv2, own, acc, ds, G, ys, ds2, ac, hm, la, ho, hq⟩
        obtain ⟨w1, w2⟩ := wl Z2 O2 H' g2 x2.z x2.o (fun a o q _ => x2.h a o q) i hi
        by_cases hlt : i < rs.length
        · obtain ⟨go, yl⟩ := w2 rs[i] (List.getElem?_eq_getElem hlt)
          have ed : rs.drop i = rs[i] :: rs.drop (i + 1) := List.drop_eq_getElem_cons hlt
          rw [ed] at hm
          refine .inr ⟨go, fun H4 => ∃ Z4 O4 F4, Good Z4 O4 H4 ∧ Ext [] Z1 O1 H1 Z4 O4 H4 ∧ Rel K Z4 O4 H4 (L2.wipe σ vs) (wipeE ρ vs) F4 ∧ L ∉ F4 ∧ (∀ c ∈ F4, ∃ o, H1 c = some o) ∧ After (i + 1) Z4 O4 H4,
            fun H4 ⟨Z4, O4, F4, q1, q2, q3, q4, q5, q6⟩ => ⟨rs.length - (i + 1), by omega, rfl, hlt, Z4, O4, F4, q1, q2, q3, q4, q5, q6⟩, fun x H3 hy => ?_⟩
          obtain ⟨Z3, O3, x3, g3, r3⟩ := yl x H3 hy
          have rl3 := rl2.ext x3 g3
          have ac3 := ac.ext x3
          unfold compE at hm
          cases z : g rs[i] (wipeE ρ vs) with
          | none => simp only [z] at hm; cases hm
          | some ρ1 =>
            simp only [z] at hm
            refine gk Z3 O3 H3 (L2.wipe σ vs) (wipeE ρ vs) F2 x rs[i] ρ1 rl3 r3 z _ fun σ1 F5 rl5 sb5 wp5 => ?_
            have ww : L2.wipe (L2.wipe σ vs) vs = L2.wipe σ vs := by
              apply List.ext_getElem?
              intro j
              by_cases hj : j ∈ vs
              · by_cases hl : j < σ.length
                · rw [wipe_in hj hl, wipe_in hj (by rw [wipe_length]; exact hl)]
                · rw [List.getElem?_eq_none (by rw [wipe_length, wipe_length]; omega), List.getElem?_eq_none (by rw [wipe_length]; omega)]
              · rw [wipe_out hj]
            refine ⟨(wp5 vs hv).trans ww, Z3, O3, ρ1, F5, rl5, ?_⟩
            cases et : tt ρ1 with
            | bad => simp only [et] at hm; cases hm
            | exc c fs => simp only [et] at hm; cases hm
            | ok b =>
              simp only [et] at hm
              intro H6 Z6 O6 x6 g6
              have rlw6 := (rl3.ext x6 g6)
              have ac6 := ac3.ext x6
              have x16 := (x2.trans0 x3).trans0 x6
              cases b with
              | false =>
                simp only [Bool.false_eq_true, if_false] at hm
                rw [if_neg Bool.false_ne_true]
                exact ⟨Z6, O6, F2, g6, x16, rlw6, nF2, lv2, own, acc, ds, G, ys, ds2, ac6, hm, la, ho, hq⟩
              | true =>
                simp only [if_true] at hm
                rw [if_pos rfl]
                refine ⟨Z6, O6, ρ1, F5, rl5.ext x6 g6, ?_⟩
                cases ep : p ρ1 with
                | bad => simp only [ep] at hm; cases hm
                | exc c fs => simp only [ep] at hm; cases hm
                | ok y =>
                  simp only [ep] at hm
                  cases er : compE g tt p (wipeE ρ vs) (rs.drop (i + 1)) with
                  | none => simp only [er] at hm; cases hm
                  | some ys' =>
                    simp only [er] at hm
                    have ey : y :: ys' = ys := Option.some.inj hm
                    subst ey
                    intro v H7 Z7 O7 G7 x7 g7 q7 n7 f7
                    have ac7 := ac6.ext x7
                    rw [List.length_cons] at la
                    refine ⟨acc, ac7.at_, by omega, ?_⟩
                    -- the new item
                    have hd : ∃ d ds3, (if own = true then ownR y else frzR y) = some d ∧ (if own = true then owns ys' else frzs ys') = some ds3 ∧ ds2 = d :: ds3 := by
                      cases own with
                      | true =>
                        obtain ⟨d1, d2, e1, e2, e3⟩ := owns_append (xs := [y]) (ys := ys') ho
                        unfold owns at e1
                        cases eo : ownR y with
                        | none => simp only [eo] at e1; cases e1
                        | some d =>
                          simp only [eo, owns] at e1
                          cases e1
                          exact ⟨d, d2, rfl, e2, e3⟩
                      | false =>
                        obtain ⟨d1, d2, e1, e2, e3⟩ := frzs_append (xs := [y]) (ys := ys') ho
                        unfold frzs at e1
                        cases eo : frzR y with
                        | none => simp only [eo] at e1; cases e1
                        | some d =>
                          simp only [eo, frzs] at e1
                          cases e1
                          exact ⟨d, d2, rfl, e2, e3⟩
                    obtain ⟨d, ds3, hd1, hd2, hd3⟩ := hd
                    have f7' : ∀ c ∈ G7, H6 c = none := fun c hc => (f7 c hc).1.elim id fun z => by cases z
                    have dj7 : ∀ c ∈ G7, c ∉ G ∧ c ≠ L := fun c hc => by
                      refine ⟨fun z => ?_, fun z => ?_⟩
                      · cases own with
                        | true =>
                          have it : Owns K Z6 H6 acc ds G := ac6.it
                          obtain ⟨o, h, _⟩ := it.live c z
                          rw [f7' c hc] at h
                          cases h
                        | false =>
                          obtain ⟨_, eg⟩ : Reps K Z6 acc ds ∧ G = [] := ac6.it
                          subst eg
                          cases z
                      · have := f7' c hc
                        rw [z, ac6.at_] at this
                        cases this
                    obtain ⟨g8, G8, ac8⟩ := ac7.push g7 q7 n7 (fun c hc => ⟨x16.h.free (f7' c hc), (f7 c hc).2⟩) dj7 hd1 nL
                    refine ⟨Z7, O7, F2, g8, ?_, ?_, nF2, lv2, own, _, _, G8, ys', ds3, ac8, er, by rw [List.length_append, List.length_singleton]; omega, hd2, ?_⟩
                    · have x17 := x16.trans0 x7
                      refine ⟨fun a o h => ?_, x17.z, x17.o, x17.zn, x17.on⟩
                      have ne : a ≠ L := fun z => by rw [z, nL] at h; cases h
                      rw [upd_ne ne]
                      exact x17.h a o h
                    · have rl7 := rlw6.ext x7 g7
                      exact ⟨g8, rl7.nd, rl7.fo, rl7.sl.keep (Same.refl _) (Same.refl _) nw fun a ha o h => by rw [upd_ne (fun (z : a = L) => nF2 (z ▸ ha))]; exact h⟩
                    · have e9 : (ds ++ [d]) ++ ds3 = ds ++ ds2 := by rw [hd3, List.append_assoc]; rfl
                      rw [e9]
                      exact hq
        · have ei : i = rs.length := by omega
          refine .inl ⟨w1 ei, ?_⟩
          have ed : rs.drop i = [] := List.drop_eq_nil_of_le (by omega)
          rw [ed] at hm
          have ey : ys = [] := by
            unfold compE at hm
            exact (Option.some.inj hm).symm
          subst ey
          have e3 : ds2 = [] := by
            cases own with
            | true => exact (Option.some.inj ho).symm
            | false => exact (Option.some.inj ho).symm
          subst e3
          rw [List.append_nil] at hq
          exact end_ g2 x2 ac rfl hq
  · rw [if_neg nv] at h
    exact h.elim
end
end Oz

namespace Oz
open PySem PySem.Spec L2
open PyProof.Rows hiding St

/-! ### comprehensions as rules -/
section
variable {X : Cx} {E : XK} {elt tg iter : Expr} {ifs : List Expr} {scope : Scope} {own : List (Str × Nat)} {pos : Pos} {is : List Nat} {w : TI} {src : Src} {t : TG} {g : Tgx} {tt : Tx} {p : Px}
theorem s_comp (hc : X.calm = true) (hN : X.N.Nodup) (hi : PI X tg iter w) (ik : IOc X.K E w src) (ok : BlkOk X.N X.env.scope scope own) (gk : GOc X.K is t g) (hv : ∀ i ∈ is, i ∈ own.map (·.2))
    (hg : ∀ (s : Shared) (H : Hp) (C : Addr) (cl : List (Str × Addr)) (fp : List Addr), PG (X.blk s H scope (compEnvC scope cl C X.env) fp) tg t)
    (ht : ∀ (s : Shared) (H : Hp) (C : Addr) (cl : List (Str × Addr)) (fp : List Addr), PTs (X.blk s H scope (compEnvC scope cl C X.env) fp) ifs (tT X.K E tt))
    (he : ∀ (s : Shared) (H : Hp) (C : Addr) (cl : List (Str × Addr)) (fp : List Addr), PE (X.blk s H scope (compEnvC scope cl C X.env) fp) elt (tP X.K E p)) (hs : ∀ x, foldedSetIterable iter X.env x = pure x := by exact fun _ => rfl) :
    PE X (.ListComp elt [⟨tg, iter, ifs, 0⟩] scope pos) (tP X.K E (pComp (own.map (·.2)) src g tt p)) := (pe_lc hc hN hi ok hg ht he hs).imp fun σ H Q h => comp_ok ik gk hv h
theorem s_asgComp (i : Nat) {y : Str} {py spos : Pos} (hc : X.calm = true) (hN : X.N.Nodup) (hy : X.N[i]? = some y) (hyl : X.env.scope.names.lookup y = some .local)
    (hsw : swapsWith (.ListComp elt [⟨tg, iter, ifs, 0⟩] scope pos) (some (.Name y py)) spos.line X.env = pure true) (hi : PI X tg iter w) (ik : IOc X.K E w src) (ok : BlkOk X.N X.env.scope scope own) (gk : GOc X.K is t g) (hv : ∀ i ∈ is, i ∈ own.map (·.2))
    (hg : ∀ (s : Shared) (H : Hp) (C : Addr) (cl : List (Str × Addr)) (fp : List Addr), PG (X.blk s H scope (compEnvC scope cl C X.env) fp) tg t)
    (ht : ∀ (s : Shared) (H : Hp) (C : Addr) (cl : List (Str × Addr)) (fp : List Addr), PTs (X.blk s H scope (compEnvC scope cl C X.env) fp) ifs (tT X.K E tt))
    (he : ∀ (s : Shared) (H : Hp) (C : Addr) (cl : List (Str × Addr)) (fp : List Addr), PE (X.blk s H scope (compEnvC scope cl C X.env) fp) elt (tP X.K E p)) (hs : ∀ x, foldedSetIterable iter X.env x = pure x := by exact fun _ => rfl) :
    PS X (.Assign [.Name y py] (.ListComp elt [⟨tg, iter, ifs, 0⟩] scope pos) spos) (tS X.K E (sAsg i (pComp (own.map (·.2)) src g tt p))) := by
  refine (ps_setLc hc hN hy hyl hsw hi ok hg ht he hs).imp fun D σ H h => ?_
  refine comp_ok (E := E) ik gk hv ?_
  refine tS_expr (s := fun r ρ => match setS i r ρ with | some ρ' => .next ρ' | none => .bad) h fun Z0 O0 Z O H1 ρ F G v r rl n q nd dj fo fh tr h2 => ?_
  cases z : setS i r ρ with
  | none => rw [z] at h2; exact h2.elim
  | some ρ' =>
    rw [z] at h2
    obtain ⟨F', rl', n', sub, ln, bw⟩ := rl.set n q nd dj fo z
    exact h2 _ H1 Z O F' rl' n' ⟨⟨tr.tr.z, tr.tr.keep, tr.tr.zn, fun a ha => (sub a ha).imp id (fh a)⟩, tr.o, ln, bw⟩
end

/-! ### built-ins -/
def BOk (K : PySem.W.Frag) (T : List V → Hp → VK → Prop) (f : List R → Res R) : Prop := ∀ (E : XK) (Z O H : Hp) (vs : List V) (rs : List R) (G : List Addr) (Q : VK), Good Z O H → RepRs K Z O H vs rs G → G.Nodup → (∀ c ∈ G, O c = none) →
  ResK K E G Z O H (f rs) Q → T vs H Q
def pB (f : List R → Res R) (ps : List Px) : Px := fun ρ => (evs ps ρ).bind f
section
variable {X : Cx} {E : XK} {x T : Str} {p pos : Pos} {e : Expr} {es : List Expr} {qs : List Px} {f : List R → Res R} {r : List V → Hp → VK → Prop}
theorem s_callB {id : String} (bk : BOk X.K r f) (hc : CallR X (.builtin id) r) (hg : Gl X x) (hm : X.mg x = none) (hv : bootBuiltins x = some (.builtin id)) (ha : PA X (e :: es) (tA X.K E qs)) (hn : x ≠ "__name__" := by decide) (hdb : (x == ("__debug__" : Str)) = false := by decide)
    (he : starEach (e :: es) X.env = (false, eval e X.env) :: starEach es X.env := by rfl) (hpl : (backTo pos (starEach es X.env)).any (·.1) = false := by rfl) : PE X (.Call (.Name x p) (e :: es) [] pos) (tP X.K E (pB f qs)) :=
  (pe_callB hc hg hm hv ha hn hdb he hpl).imp fun σ H Q h => tA_bind h fun Z O H1 G vs rs g q nd fo h2 => bk E Z O H1 vs rs G Q g q nd fo h2
theorem s_callTy {id : String} (bk : BOk X.K r f) (hc : CallR X (.type id) r) (hg : Gl X x) (hm : X.mg x = none) (hv : bootBuiltins x = some (.type id)) (ha : PA X (e :: es) (tA X.K E qs)) (hn : x ≠ "__name__" := by decide) (hdb : (x == ("__debug__" : Str)) = false := by decide)
    (he : starEach (e :: es) X.env = (false, eval e X.env) :: starEach es X.env := by rfl) (hpl : (backTo pos (starEach es X.env)).any (·.1) = false := by rfl) : PE X (.Call (.Name x p) (e :: es) [] pos) (tP X.K E (pB f qs)) :=
  (pe_callTy hc hg hm hv ha hn hdb he hpl).imp fun σ H Q h => tA_bind h fun Z O H1 G vs rs g q nd fo h2 => bk E Z O H1 vs rs G Q g q nd fo h2
end
section
variable {K : PySem.W.Frag}
theorem RepRs.one {Z O H : Hp} {vs : List V} {r : R} {G : List Addr} (h : RepRs K Z O H vs [r] G) : ∃ v, vs = [v] ∧ RepR K Z O H v r G := by
  cases h with
  | cons q s => cases s; rw [List.append_nil]; exact ⟨_, rfl, q⟩
theorem RepRs.two {Z O H : Hp} {vs : List V} {r r' : R} {G : List Addr} (h : RepRs K Z O H vs [r, r'] G) : ∃ v v' G1 G2, vs = [v, v'] ∧ RepR K Z O H v r G1 ∧ RepR K Z O H v' r' G2 ∧ G = G1 ++ G2 := by
  cases h with
  | cons q s =>
    obtain ⟨v', e, q2⟩ := s.one
    subst e
    exact ⟨_, v', _, _, rfl, q, q2, rfl⟩
/-- one argument, an answer of its own -/
def b1 (f : D → Option D) : List R → Res R := fun rs => match rs with
  | [r] => (match f r.d with
    | some d => .ok ⟨.imm, d⟩
    | none => .bad)
  | _ => .bad
theorem bok1 {T : List V → Hp → VK → Prop} {f : D → Option D} (h : ∀ (H : Hp) (x : V) (a d : D) (Q : VK), Rep K H x a → f a = some d → (∀ v, (∀ C, Rep K C v d) → Q v H) → T [x] H Q) : BOk K T (b1 f) := fun E Z O H vs rs G Q g q nd fo k => by
  cases rs with
  | nil => exact k.elim
  | cons r rs => cases rs with
    | cons _ _ => exact k.elim
    | nil =>
      obtain ⟨v, rfl, qr⟩ := q.one
      have k2 : ResK K E G Z O H (match f r.d with | some d => .ok ⟨.imm, d⟩ | none => .bad) Q := k
      cases e : f r.d with
      | none => rw [e] at k2; exact k2.elim
      | some d =>
        rw [e] at k2
        exact h H v r.d d Q (qr.look g) e fun v' r' => OkK.imm g k2 (r' Z)
/-- len -/
def fLen : D → Option D
  | .list ds => some (.int (ds.length : Int))
  | .tuple ds => some (.int (ds.length : Int))
  | .str x => if x.length ≤ sizeLine then some (.int (x.length : Int)) else none
  | .dict [(.none, .list ds)] => some (.int (ds.length : Int))
  | .dict ((.none, _) :: _) => none
  | .dict es => some (.int (es.length : Int))
  | _ => none
def rLenA (K : PySem.W.Frag) : List V → Hp → VK → Prop := fun xs H Q => (∃ p ys, xs = [.ref p] ∧ (SqL K H p ys ∨ SqT K H p ys) ∧ Q (.int ys.length) H) ∨ (∃ a kvs, xs = [V.ref a] ∧ H a = some (.dK kvs) ∧ Q (.int kvs.length) H) ∨ (∃ z, xs = [.str z] ∧ z.length ≤ sizeLine ∧ Q (.int z.length) H)
theorem call_lenA {X : Cx} : CallR X (.builtin "len") (rLenA X.K) := CallR.or call_len_seq (CallR.or call_lenD call_len_str)
theorem b_len : BOk K (rLenA K) (b1 fLen) := bok1 fun H x a d Q r e q => by
  cases r with
  | lst h r => cases e; exact .inl ⟨_, _, rfl, .inl (.inl (.inl h)), by rw [r.length]; exact q _ fun _ => .int _⟩
  | scr h r => cases e; exact .inl ⟨_, _, rfl, .inl h.sqL, by rw [r.length]; exact q _ fun _ => .int _⟩
  | tup h r => cases e; exact .inl ⟨_, _, rfl, .inr h, by rw [r.length]; exact q _ fun _ => .int _⟩
  | str x =>
    obtain ⟨h, rfl⟩ := ite_some (c := x.length ≤ sizeLine) e
    exact .inr (.inr ⟨x, rfl, h, q _ fun _ => .int _⟩)
  | dct h k r =>
    rename_i p kvs es
    have hl : kvs.length = es.length := by
      have := congrArg List.length k
      simpa using this.symm
    cases es with
    | nil => cases e; exact .inr (.inl ⟨_, _, rfl, h, by rw [hl]; exact q _ fun _ => .int _⟩)
    | cons e0 es =>
      obtain ⟨k1, v1⟩ := e0
      cases kvs with
      | nil => simp at k
      | cons y ys =>
        simp only [List.map_cons, List.cons.injEq] at k
        obtain ⟨k0, _⟩ := k
        obtain ⟨y1, y2⟩ := y
        subst k0
        cases y1 with
        | inl i => cases e; exact .inr (.inl ⟨_, _, rfl, h, by rw [hl]; exact q _ fun _ => .int _⟩)
        | inr z => cases e; exact .inr (.inl ⟨_, _, rfl, h, by rw [hl]; exact q _ fun _ => .int _⟩)
  | obj h c k r =>
    rename_i es
    cases e2 : es with
    | nil => subst e2; cases e
    | cons _ _ => subst e2; cases e
  | _ => cases e
/-- ints of a row -/
def intsD : List D → Option (List Int)
  | [] => some []
  | .int i :: ds => (match intsD ds with
    | some is => some (i :: is)
    | none => none)
  | _ :: _ => none
theorem ints_vals : ∀ {vs : List V} {ds : List D} {ns : List Int} {C : Hp}, Reps K C vs ds → intsD ds = some ns → vs = ns.map V.int
  | _, _, ns, _, .nil, e => by cases e; rfl
  | _, _, ns, _, .cons (d := d) (ds := ds) r s, e => by
    cases d with
    | int i =>
      unfold intsD at e
      cases h : intsD ds with
      | none => rw [h] at e; cases e
      | some is =>
        rw [h] at e
        cases e
        cases r
        rw [ints_vals s h]
        rfl
    | _ => cases e
def fSum : D → Option D
  | .list ds => (intsD ds).map fun ns => .int ns.sum
  | _ => none
theorem b_sum : BOk K (rSum K) (b1 fSum) := bok1 fun H x a d Q r e q => by
  cases r with
  | lst h r =>
    rename_i p xs ds
    have e2 : (intsD ds).map (fun ns => PyData.int ns.sum) = some d := e
    cases z : intsD ds with
    | none => rw [z] at e2; cases e2
    | some ns =>
      rw [z] at e2
      cases e2
      have ev := ints_vals r z
      subst ev
      exact ⟨_, ns, rfl, .inl (.inl h), q _ fun _ => .int _⟩
  | _ => cases e
def fInt : D → Option D
  | .int i => some (.int i)
  | .bool b => some (.int (if b then 1 else 0))
  | _ => none
theorem b_int : BOk K (fun xs H Q => (∃ i, xs = [.int i] ∧ Q (.int i) H) ∨ ∃ k, xs = [.bl k] ∧ Q (.int (if k then 1 else 0)) H) (b1 fInt) := bok1 fun H x a d Q r e q => by
  cases r with
  | int i => cases e; exact .inl ⟨i, rfl, q _ fun _ => .int _⟩
  | bl b => cases e; exact .inr ⟨b, rfl, q _ fun _ => .int _⟩
  | _ => cases e
/-- max, min of two -/
def b2i (f : Int → Int → Int) : List R → Res R := fun rs => match rs with
  | [a, b] => (match a.d, b.d with
    | .int i, .int j => .ok ⟨.imm, .int (f i j)⟩
    | _, _ => .bad)
  | _ => .bad
theorem bok2i {f : Int → Int → Int} : BOk K (fun xs H Q => ∃ i j, xs = [.int i, .int j] ∧ Q (.int (f i j)) H) (b2i f) := fun E Z O H vs rs G Q g q nd fo k => by
  match rs, q, k with
  | [], _, k => exact k.elim
  | [_], _, k => exact k.elim
  | a :: b :: _ :: _, _, k => exact k.elim
  | [a, b], q, k =>
    obtain ⟨v, v', G1, G2, rfl, q1, q2, _⟩ := q.two
    obtain ⟨s, a⟩ := a
    obtain ⟨t, b⟩ := b
    have l1 := q1.look g
    have l2 := q2.look g
    cases a with
    | int i => cases b with
      | int j =>
        cases l1
        cases l2
        exact ⟨i, j, rfl, OkK.imm g k (.int _)⟩
      | _ => exact k.elim
    | _ => cases b <;> exact k.elim
abbrev fMax2 : Int → Int → Int := fun i j => if j > i then j else i
abbrev fMin2 : Int → Int → Int := fun i j => if j < i then j else i
/-- tuple(x), list(x) -/
def bTuple : List R → Res R := fun rs => match rs with
  | [r] => (match r.d with
    | .list ds => tnew r.s ds
    | .tuple _ => if r.s = .imm then .ok r else .bad
    | _ => .bad)
  | _ => .bad
theorem b_tuple : BOk K (fun xs H Q => ∃ p ys, xs = [.ref p] ∧ ((SqL K H p ys ∧ ∀ l, H l = none → Q (.ref l) (upd H l (.tup ys))) ∨ (SqT K H p ys ∧ Q (.ref p) H))) bTuple := fun E Z O H vs rs G Q g q nd fo k => by
  match rs, q, k with
  | [], _, k => exact k.elim
  | _ :: _ :: _, _, k => exact k.elim
  | [r], q, k =>
    obtain ⟨v, rfl, q1⟩ := q.one
    obtain ⟨s, d⟩ := r
    cases d with
    | list ds =>
      have l1 := q1.look g
      cases l1 with
      | lst h r =>
        refine ⟨_, _, rfl, .inl ⟨.inl (.inl h), fun l nl => tnew_ok (s := s) g k r (fun es => ?_) nl⟩⟩
        obtain ⟨p1, v1, z1, z2, z3⟩ := q1.zlist es
        cases z1
        have u := g.zh _ _ z2
        rw [h] at u
        cases u
        exact z3
    | tuple ds =>
      have k2 : ResK K E G Z O H (if s = .imm then .ok ⟨s, .tuple ds⟩ else .bad) Q := k
      by_cases es : s = .imm
      · rw [if_pos es] at k2
        subst es
        obtain ⟨p1, v1, z1, z2, z3⟩ := q1.ztup rfl
        subst z1
        exact ⟨p1, v1, rfl, .inr ⟨Same.seqT g.zh z2, OkK.imm g k2 (.tup z2 z3)⟩⟩
      · rw [if_neg es] at k2; exact k2.elim
    | _ => exact k.elim
def bList : List R → Res R := fun rs => match rs with
  | [r] => (match itemsD r.d with
    | some ds => dnew r.s ds
    | none => .bad)
  | _ => .bad
theorem b_list : BOk K (fun xs H Q => ∃ p ys, xs = [.ref p] ∧ (SqL K H p ys ∨ SqT K H p ys) ∧ ∀ l, H l = none → Q (.ref l) (upd H l (.lst ys))) bList := fun E Z O H vs rs G Q g q nd fo k => by
  match rs, q, k with
  | [], _, k => exact k.elim
  | _ :: _ :: _, _, k => exact k.elim
  | [r], q, k =>
    obtain ⟨v, rfl, q1⟩ := q.one
    obtain ⟨s, d⟩ := r
    have k2 : ResK K E G Z O H (match itemsD d with | some ds => dnew s ds | none => .bad) Q := k
    cases e : itemsD d with
    | none => rw [e] at k2; exact k2.elim
    | some ds =>
      rw [e] at k2
      rcases items_kind e with rfl | rfl
      · have l1 := q1.look g
        cases l1 with
        | lst h r =>
          refine ⟨_, _, rfl, .inl (.inl (.inl h)), fun l nl => dnew_ok (s := s) g k2 r (fun es => ?_) nl⟩
          obtain ⟨p1, v1, z1, z2, z3⟩ := q1.zlist es
          cases z1
          have u := g.zh _ _ z2
          rw [h] at u
          cases u
          exact z3
      · by_cases es : s = .imm
        · obtain ⟨p1, v1, z1, z2, z3⟩ := q1.ztup es
          subst z1
          exact ⟨p1, v1, rfl, .inr (Same.seqT g.zh z2), fun l nl => dnew_ok (s := s) g k2 (z3.mono g.zh) (fun _ => z3) nl⟩
        · have l1 := q1.look g
          cases l1 with
          | tup h r => exact ⟨_, _, rfl, .inr h, fun l nl => dnew_ok (s := s) g k2 r (fun z => absurd z es) nl⟩
/-- - x -/
def pNeg (p : Px) : Px := fun ρ => (p ρ).bind fun r => match r.d with
  | .int i => .ok ⟨.imm, .int (-i)⟩
  | _ => .bad
theorem s_neg {X : Cx} {E : XK} {a : Expr} {p : Px} {pos : Pos} (ha : PE X a (tP X.K E p)) : PE X (.UnaryOp .USub a pos) (tP X.K E (pNeg p)) := by
  refine (pe_un un_neg ha).imp fun σ H Q h => ?_
  refine tP_bind (k := fun r _ => match r.d with | .int i => .ok ⟨.imm, .int (-i)⟩ | _ => .bad) h fun Z O H1 Z1 O1 ρ F G v r rl x1 r1 q1 nd fr h2 => ?_
  obtain ⟨s, d⟩ := r
  cases d with
  | int i =>
    have lk := q1.look r1.g
    cases lk
    exact ⟨i, rfl, h2 _ H1 Z1 O1 [] x1 r1.g ⟨.int _, rfl⟩ List.nodup_nil fun c hc => by cases hc⟩
  | _ => exact h2.elim
end
end Oz

namespace Oz
open PySem PySem.Spec L2
open PyProof.Rows hiding St

/-! ### places within what one owns -/
/-- a place: the slot, what stands there, the whole with another thing there -/
structure Pl where
  i : Nat
  d : D
  put : D → D
abbrev Plx := Ev → Res Pl
structure PlAt (K : PySem.W.Frag) (Z O H : Hp) (σ : St) (ρ : Ev) (F : List Addr) (l : Pl) (v : V) (s : Sx) (F1 G F2 : List Addr) : Prop where
  slot : ∃ d, ρ[l.i]? = some (some ⟨s, d⟩)
  st : s = .own ∨ s = .brw
  eq : F = F1 ++ (G ++ F2)
  own : Own K Z H v l.d G
  back : ∀ (Z' O' H' : Hp) (d : D) (G' : List Addr), Same Z Z' → Same O O' → nov ρ = true → (∀ a ∈ F1 ++ F2, ∀ o, H a = some o → H' a = some o) → Own K Z' H' v d G' → Slots K Z' O' H' σ (ρ.set l.i (some ⟨s, l.put d⟩)) (F1 ++ (G' ++ F2))
def tPl (K : PySem.W.Frag) (E : XK) (l : Plx) : TE := fun σ H Q => ∃ Z O ρ F, Rel K Z O H σ ρ F ∧ match l ρ with
  | .bad => False
  | .exc c fs => ExcK K E Z O H c fs
  | .ok l => ∀ v H' Z' O' s F1 G F2, Ext [] Z O H Z' O' H' → Good Z' O' H' → PlAt K Z' O' H' σ ρ F l v s F1 G F2 → Q v H'
section
variable {K : PySem.W.Frag} {E : XK} {Z O H Z' O' H' : Hp} {σ : St} {ρ : Ev} {F F1 G F2 : List Addr} {l : Pl} {v : V} {s : Sx}
theorem PlAt.ext (p : PlAt K Z O H σ ρ F l v s F1 G F2) (e : Ext [] Z O H Z' O' H') : PlAt K Z' O' H' σ ρ F l v s F1 G F2 where
  slot := p.slot
  st := p.st
  eq := p.eq
  own := Own.mono e.z (fun a _ o q => e.h a o q) p.own
  back := fun Z2 O2 H2 d G' ez eo n k q => by
    refine p.back Z2 O2 H2 d G' (e.z.trans ez) (e.o.trans eo) n (fun a ha o h => k a ha o (e.h a o h)) q
/-- a name -/
def plN (i : Nat) : Plx := fun ρ => match ρ[i]? with
  | some (some ⟨.own, d⟩) => .ok ⟨i, d, id⟩
  | some (some ⟨.brw, d⟩) => .ok ⟨i, d, id⟩
  | _ => .bad
theorem plN_ok (rl : Rel K Z O H σ ρ F) {i : Nat} (h : plN i ρ = .ok l) : ∃ v s F1 G F2, σ[i]? = some (some v) ∧ PlAt K Z O H σ ρ F l v s F1 G F2 := by
  unfold plN at h
  cases e : ρ[i]? with
  | none => rw [e] at h; cases h
  | some y =>
    cases y with
    | none => rw [e] at h; cases h
    | some r =>
      obtain ⟨s, d⟩ := r
      obtain ⟨hl, _⟩ := List.getElem?_eq_some_iff.mp e
      obtain ⟨x, y, F1, G, F2, h1, h2, h3, h4, h5⟩ := rl.sl.focus hl
      rw [e] at h2
      cases h2
      cases x with
      | none => exact h4.elim
      | some v =>
        have key : (s = .own ∨ s = .brw) → l = ⟨i, d, id⟩ → ∃ v s F1 G F2, σ[i]? = some (some v) ∧ PlAt K Z O H σ ρ F l v s F1 G F2 := fun hs hl => by
          subst hl
          have q : Own K Z H v d G := by rcases hs with rfl | rfl <;> exact h4
          refine ⟨v, s, F1, G, F2, h1, ⟨⟨d, e⟩, hs, h3, q, fun Z' O' H' d' G' ez eo n k q' => ?_⟩⟩
          have sl := h5 (some v) (some ⟨s, d'⟩) G' Z' O' H' ez eo (.inr n) k (by rcases hs with rfl | rfl <;> exact q')
          have es : σ.set i (some v) = σ := by
            apply List.ext_getElem?
            intro j
            by_cases ij : i = j
            · subst ij
              obtain ⟨hl2, _⟩ := List.getElem?_eq_some_iff.mp h1
              rw [List.getElem?_set_self hl2, h1]
            · rw [List.getElem?_set_ne ij]
          rw [es] at sl
          exact sl
        cases s with
        | own => rw [e] at h; exact key (.inl rfl) (Res.ok.inj h).symm
        | brw => rw [e] at h; exact key (.inr rfl) (Res.ok.inj h).symm
        | _ => rw [e] at h; cases h
/-- the cells of items -/
theorem Owns.at : ∀ {xs : List V} {ds : List D} {F : List Addr} {i : Nat} {d : D}, Owns K Z H xs ds F → ds[i]? = some d → ∃ x A G B, xs[i]? = some x ∧ F = A ++ (G ++ B) ∧ Own K Z H x d G ∧
    ∀ (Z' H' : Hp) (x' : V) (d' : D) (G' : List Addr), Same Z Z' → (∀ a ∈ A ++ B, ∀ o, H a = some o → H' a = some o) → Own K Z' H' x' d' G' → Owns K Z' H' (xs.set i x') (ds.set i d') (A ++ (G' ++ B))
  | _, _, _, _, _, .nil, h => by simp at h
  | _, _, _, 0, d, .cons (F := F) (G := G) q s, h => by
    simp at h
    subst h
    refine ⟨_, [], F, G, rfl, rfl, q, fun Z' H' x' d' G' ez k q' => ?_⟩
    have z := Owns.cons q' (Owns.mono ez (fun a ha => k a (by simpa using ha)) s)
    exact z
  | _, _, _, i + 1, d, .cons (F := F) (G := G) q s, h => by
    obtain ⟨x, A, G0, B, h1, h2, h3, h4⟩ := Owns.at (i := i) s (by simpa using h)
    refine ⟨x, F ++ A, G0, B, by simpa using h1, by rw [h2, List.append_assoc], h3, fun Z' H' x' d' G' ez k q' => ?_⟩
    rw [List.append_assoc]
    refine .cons (Own.mono ez (fun a ha => k a (by simp [ha])) q) (h4 Z' H' x' d' G' ez (fun a ha => k a ?_) q')
    rcases List.mem_append.mp ha with ha | ha
    · simp [ha]
    · simp [ha]
theorem Own.lst_inv {ds : List D} (q : Own K Z H v (.list ds) G) : ∃ a xs G0, v = .ref a ∧ H a = some (.lst xs) ∧ Owns K Z H xs ds G0 ∧ G = a :: G0 := by
  cases q with
  | imm r p => cases p
  | lst h r => exact ⟨_, _, _, rfl, h, r, rfl⟩
theorem set_same {α : Type} {xs : List α} {i : Nat} {x : α} (h : xs[i]? = some x) : xs.set i x = xs := by
  apply List.ext_getElem?
  intro j
  by_cases ij : i = j
  · subst ij
    obtain ⟨hl, _⟩ := List.getElem?_eq_some_iff.mp h
    rw [List.getElem?_set_self hl, h]
  · rw [List.getElem?_set_ne ij]
/-- an item's place -/
theorem PlAt.item {ds : List D} {j : Nat} {d : D} (p : PlAt K Z O H σ ρ F l v s F1 G F2) (nd : F.Nodup) (e : l.d = .list ds) (hj : ds[j]? = some d) :
    ∃ a xs x F1' G' F2', v = .ref a ∧ H a = some (.lst xs) ∧ xs.length = ds.length ∧ xs[j]? = some x ∧ PlAt K Z O H σ ρ F ⟨l.i, d, fun y => l.put (.list (ds.set j y))⟩ x s F1' G' F2' := by
  have q := p.own
  rw [e] at q
  obtain ⟨a, xs, G0, rfl, ha, qs, eg⟩ := q.lst_inv
  obtain ⟨x, A, Gi, B, h1, h2, h3, h4⟩ := qs.at hj
  refine ⟨a, xs, x, F1 ++ (a :: A), Gi, B ++ F2, rfl, ha, qs.length, h1, ⟨p.slot, p.st, ?_, h3, fun Z' O' H' d' G' ez eo n k q' => ?_⟩⟩
  · rw [p.eq, eg, h2]
    simp
  · have ka : H' a = some (.lst xs) := k a (by simp) _ ha
    have qn : Own K Z' H' (.ref a) (.list (ds.set j d')) (a :: (A ++ (G' ++ B))) := by
      refine .lst (xs := xs) ka ?_
      have q5 := h4 Z' H' x d' G' ez (fun c hc o h => k c (by
        rcases List.mem_append.mp hc with hc | hc
        · simp [hc]
        · simp [hc]) o h) q'
      rw [set_same h1] at q5
      exact q5
    have sl := p.back Z' O' H' (.list (ds.set j d')) _ ez eo n (fun c hc o h => k c (by
        rcases List.mem_append.mp hc with hc | hc
        · simp [hc]
        · simp [hc]) o h) qn
    have ee : F1 ++ (a :: A) ++ (G' ++ (B ++ F2)) = F1 ++ ((a :: (A ++ (G' ++ B))) ++ F2) := by simp
    rw [ee]
    exact sl
/-- a place written: its own cell alone has changed -/
theorem PlAt.wrote {d : D} {G' : List Addr} (p : PlAt K Z O H σ ρ F l v s F1 G F2) (rl : Rel K Z O H σ ρ F) (n : nov ρ = true) {a : Addr} (ha : a ∈ G) {o : HO} (fo : fzn o = false) (q : Own K Z (upd H a o) v d G') (nd : G'.Nodup) (fr : ∀ c ∈ G', c ∈ G ∨ (c ∉ F ∧ O c = none)) :
    Rel K Z O (upd H a o) σ (ρ.set l.i (some ⟨s, l.put d⟩)) (F1 ++ (G' ++ F2)) ∧ nov (ρ.set l.i (some ⟨s, l.put d⟩)) = true ∧ TrS Z O H σ ρ F Z O (upd H a o) σ (ρ.set l.i (some ⟨s, l.put d⟩)) (F1 ++ G ++ F2) := by
  have nF := rl.nd
  rw [p.eq] at nF
  obtain ⟨n1, n2, n3⟩ := List.nodup_append.mp nF
  obtain ⟨n4, n5, n6⟩ := List.nodup_append.mp n2
  have aF : a ∈ F := by rw [p.eq]; simp [ha]
  have a1 : ∀ c ∈ F1 ++ F2, c ≠ a := fun c hc e => by
    rcases List.mem_append.mp hc with hc | hc
    · exact n3 c hc a (List.mem_append_left _ ha) e
    · exact n6 a ha c hc e.symm
  have sl := p.back Z O (upd H a o) d G' (Same.refl _) (Same.refl _) n (fun c hc x h => by rw [upd_ne (a1 c hc)]; exact h) q
  have gd : Good Z O (upd H a o) := by
    refine ⟨rl.g.zo, fun c x h => ?_, fun c x h f => ?_⟩
    · have ne : c ≠ a := fun z => by rw [z, rl.fo a aF] at h; cases h
      rw [upd_ne ne]
      exact rl.g.oh c x h
    · by_cases z : c = a
      · rw [z, upd_same] at h; cases h; rw [fo] at f; cases f
      · rw [upd_ne z] at h; exact rl.g.tz c x h f
  have inF : ∀ c, c ∈ F1 ∨ c ∈ F2 → c ∈ F := fun c hc => by
    rw [p.eq]
    rcases hc with hc | hc
    · simp [hc]
    · simp [hc]
  have gF : ∀ c ∈ G, c ∈ F := fun c hc => by rw [p.eq]; simp [hc]
  refine ⟨⟨gd, ?_, fun c hc => ?_, sl⟩, nov_set n (fun d' e => ?_), ⟨Same.refl _, fun c x h hn => ?_, fun c h => .inl h, fun c hc => .inl ?_⟩, Same.refl _, rfl, fun j d' hj => ?_⟩
  · rw [List.nodup_append]
    refine ⟨n1, ?_, fun x hx y hy e => ?_⟩
    · rw [List.nodup_append]
      refine ⟨nd, n5, fun x hx y hy e => ?_⟩
      rcases fr x hx with z | z
      · exact n6 x z y hy e
      · exact z.1 (inF x (.inr (e ▸ hy)))
    · rcases List.mem_append.mp hy with hy | hy
      · rcases fr y hy with z | z
        · exact n3 x hx y (List.mem_append_left _ z) e
        · exact z.1 (inF y (.inl (e ▸ hx)))
      · exact n3 x hx y (List.mem_append_right _ hy) e
  · rcases List.mem_append.mp hc with hc | hc
    · exact rl.fo c (inF c (.inl hc))
    · rcases List.mem_append.mp hc with hc | hc
      · rcases fr c hc with z | z
        · exact rl.fo c (gF c z)
        · exact z.2
      · exact rl.fo c (inF c (.inr hc))
  · cases e
    rcases p.st with z | z <;> cases z
  · rw [upd_ne (fun (z : c = a) => hn (z ▸ aF))]; exact h
  · rcases List.mem_append.mp hc with hc | hc
    · rcases List.mem_append.mp hc with hc | hc
      · exact inF c (.inl hc)
      · exact gF c hc
    · exact inF c (.inr hc)
  · by_cases ij : l.i = j
    · subst ij
      obtain ⟨d0, h0⟩ := p.slot
      rw [hj] at h0
      cases h0
      obtain ⟨hl, _⟩ := List.getElem?_eq_some_iff.mp hj
      exact ⟨rfl, l.put d, List.getElem?_set_self hl⟩
    · exact ⟨rfl, d', by rw [List.getElem?_set_ne ij]; exact hj⟩
end
/-- a place's item -/
def plI (l : Plx) (p : Px) : Plx := fun ρ => (l ρ).bind fun l => (p ρ).bind fun r => match l.d, r.d with
  | .list ds, .int i => (match ixN ds.length i with
    | some j => (match ds[j]? with
      | some d => .ok ⟨l.i, d, fun y => l.put (.list (ds.set j y))⟩
      | none => .bad)
    | none => .bad)
  | _, _ => .bad
section
variable {X : Cx} {E : XK} {a b : Expr} {l : Plx} {p : Px} {pos : Pos} {x : Str}
theorem s_plN (i : Nat) (hN : X.N[i]? = some x := by rfl) (hv : Vis X.env.scope x := by first | exact Or.inl rfl | exact Or.inr (Or.inl rfl) | exact Or.inr (Or.inr rfl)) (hd : (x == ("__debug__" : Str)) = false := by decide)
    (hcd : (x == ("__classdict__" : Str)) = false := by decide) : PE X (.Name x pos) (tPl X.K E (plN i)) := by
  refine (pe_var hN hv hd hcd).imp fun σ H Q h => ?_
  obtain ⟨Z, O, ρ, F, rl, h⟩ := h
  cases e : plN i ρ with
  | bad => rw [e] at h; exact h.elim
  | exc c fs =>
    unfold plN at e
    split at e <;> cases e
  | ok l =>
    rw [e] at h
    obtain ⟨v, s, F1, G, F2, h1, pa⟩ := plN_ok rl e
    exact ⟨v, h1, h v H Z O s F1 G F2 (Ext.refl _ _ _ _) rl.g pa⟩
theorem s_plI (ha : PE X a (tPl X.K E l)) (hb : PE X b (tP X.K E p)) (hs : PlainIx b := by exact fun _ _ => rfl) : PE X (.Subscript a b pos) (tPl X.K E (plI l p)) := by
  refine (pe_ix ix_list ha hb hs).imp fun σ H Q h => ?_
  obtain ⟨Z, O, ρ, F, rl, h⟩ := h
  refine ⟨Z, O, ρ, F, rl, ?_⟩
  unfold plI at h
  cases e : l ρ with
  | bad => rw [e] at h; exact h.elim
  | exc c fs => rw [e] at h; exact h
  | ok l0 =>
    rw [e] at h
    simp only [Res.bind_ok] at h
    intro v H1 Z1 O1 s F1 G F2 x1 g1 pa
    have rl1 := rl.ext x1 g1
    refine ⟨Z1, O1, ρ, F, rl1, ?_⟩
    cases e2 : p ρ with
    | bad => rw [e2] at h; exact h.elim
    | exc c fs => rw [e2] at h; exact ExcK.ext h x1
    | ok r =>
      rw [e2] at h
      simp only [Res.bind_ok] at h
      intro y H2 Z2 O2 G2 x2 g2 q2 nd2 fr2
      have pa2 := pa.ext x2
      cases el : l0.d with
      | list ds =>
        cases er : r.d with
        | int i =>
          rw [el, er] at h
          simp only at h
          cases ei : ixN ds.length i with
          | none => rw [ei] at h; exact h.elim
          | some j =>
            rw [ei] at h
            simp only at h
            cases ed : ds[j]? with
            | none => rw [ed] at h; exact h.elim
            | some d =>
              rw [ed] at h
              have lk := q2.look g2
              rw [er] at lk
              cases lk
              obtain ⟨a', xs, x', F1', G', F2', ev, ha', hl, hx, pb⟩ := pa2.item rl.nd el ed
              refine ⟨a', xs, i, x', ev, rfl, .inl (.inl ha'), ?_, h x' H2 Z2 O2 s F1' G' F2' (x1.trans0 x2) g2 pb⟩
              unfold atI
              rw [hl, ei]
              exact hx
        | _ => rw [el, er] at h; exact h.elim
      | _ => rw [el] at h; cases hr : r.d <;> rw [hr] at h <;> exact h.elim
end
/-- the frame behind a change -/
def putE (l : Pl) (d : D) (ρ : Ev) : SR := match ρ[l.i]? with
  | some (some ⟨s, _⟩) => .next (ρ.set l.i (some ⟨s, l.put d⟩))
  | _ => .bad
/-- l.append(p) -/
def sApp (l : Plx) (p : Px) : Stx := fun ρ => match l ρ with
  | .bad => .bad
  | .exc c fs => .exc c fs ρ
  | .ok l => (match l.d with
    | .list ds => (match p ρ with
      | .bad => .bad
      | .exc c fs => .exc c fs ρ
      | .ok r => (match ownR r with
        | some d => if ds.length < sizeLine then putE l (.list (ds ++ [d])) ρ else .bad
        | none => .bad))
    | _ => .bad)
section
variable {X : Cx} {E : XK} {a b : Expr} {l : Plx} {p : Px} {pos apos cpos : Pos}
theorem s_app (hl : PE X a (tPl X.K E l)) (hp : PE X b (tP X.K E p)) (hst : starEach [b] X.env = (false, eval b X.env) :: starEach [] X.env := by rfl)
    (h : ∀ {to : TE} {t : TA}, PE X a to → PA X [b] t → PS X (.Expr (.Call (.Attribute a "append" apos) [b] [] cpos) pos) (tDrop (tBM X.K "list" rAppend to t))) : PS X (.Expr (.Call (.Attribute a "append" apos) [b] [] cpos) pos) (tS X.K E (sApp l p)) := by
  refine (h hl (pa_cons hp pa_nil hst)).imp fun D σ H h => ?_
  obtain ⟨Z, O, ρ, F, rl, n, h⟩ := h
  refine ⟨Z, O, ρ, F, rl, ?_⟩
  unfold sApp at h
  cases e : l ρ with
  | bad => rw [e] at h; exact h.elim
  | exc c fs => rw [e] at h; exact SRK.exc rl h
  | ok l0 =>
    rw [e] at h
    simp only at h
    intro v H1 Z1 O1 s F1 G F2 x1 g1 pa
    have rl1 := rl.ext x1 g1
    cases el : l0.d with
    | list ds =>
      rw [el] at h
      simp only at h
      have q := pa.own
      rw [el] at q
      obtain ⟨a0, xs, G0, rfl, ha0, qs, eg⟩ := q.lst_inv
      refine ⟨.inl ⟨rfl, _, .inl (.inl ha0)⟩, Z1, O1, ρ, F, rl1, ?_⟩
      cases e2 : p ρ with
      | bad => rw [e2] at h; exact h.elim
      | exc c fs => rw [e2] at h; exact ExcK.ext (SRK.exc rl h) x1
      | ok r =>
        rw [e2] at h
        simp only at h
        cases er : ownR r with
        | none => rw [er] at h; exact h.elim
        | some d =>
          rw [er] at h
          simp only at h
          by_cases c : ds.length < sizeLine
          · rw [if_pos c] at h
            intro y H2 Z2 O2 G2 x2 g2 q2 nd2 fr2
            have pa2 := pa.ext x2
            have rl2 := rl1.ext x2 g2
            have ha2 := x2.h _ _ ha0
            have qs2 : Owns X.K Z2 H2 xs ds G0 := Owns.mono x2.z (fun a _ o q => x2.h a o q) qs
            obtain ⟨G', qo, cG⟩ := ownR_ok g2 q2 er
            have sG : ∀ c ∈ G', c ∈ G2 := fun c hc => by
              rcases cG with z | z
              · rw [z] at hc; exact hc
              · rw [z] at hc; cases hc
            have nG : G'.Nodup := by
              rcases cG with z | z
              · rw [z]; exact nd2
              · rw [z]; exact List.nodup_nil
            have fG : ∀ c ∈ G', H1 c = none := fun c hc => (fr2 c (sG c hc)).1.elim id fun z => by cases z
            have aG : a0 ∉ G0 := by
              have nF := rl.nd
              rw [pa.eq, eg] at nF
              have := (List.nodup_append.mp (List.nodup_append.mp nF).2.1).1
              exact (List.nodup_cons.mp this).1
            have aG' : a0 ∉ G' := fun z => by rw [fG a0 z] at ha0; cases ha0
            have keep : ∀ {Fs : List Addr}, a0 ∉ Fs → ∀ c ∈ Fs, ∀ o, H2 c = some o → upd H2 a0 (.lst (xs ++ [y])) c = some o := fun {Fs} nn c hc o h => by
              rw [upd_ne (fun (z : c = a0) => nn (z ▸ hc))]; exact h
            have qn : Own X.K Z2 (upd H2 a0 (.lst (xs ++ [y]))) (.ref a0) (.list (ds ++ [d])) (a0 :: (G0 ++ G')) :=
              .lst upd_same ((Owns.mono (Same.refl _) (keep aG) qs2).append (Owns.one (Own.mono (Same.refl _) (keep aG') qo)))
            have ndn : (a0 :: (G0 ++ G')).Nodup := by
              refine List.nodup_cons.mpr ⟨fun z => (List.mem_append.mp z).elim aG aG', List.nodup_append.mpr ⟨?_, nG, fun u hu w hw e => ?_⟩⟩
              · have nF := rl.nd
                rw [pa.eq, eg] at nF
                exact (List.nodup_cons.mp (List.nodup_append.mp (List.nodup_append.mp nF).2.1).1).2
              · obtain ⟨o, h, _⟩ := qs.live u hu
                rw [e, fG w hw] at h
                cases h
            obtain ⟨d0, hs0⟩ := pa.slot
            obtain ⟨rl3, n3, tr3⟩ := pa2.wrote rl2 n (a := a0) (by rw [eg]; simp) (o := .lst (xs ++ [y])) rfl (d := .list (ds ++ [d])) qn ndn fun c hc => by
              rcases List.mem_cons.mp hc with z | z
              · left; rw [eg, z]; simp
              · rcases List.mem_append.mp z with z | z
                · left; rw [eg]; simp [z]
                · right
                  refine ⟨fun w => ?_, (fr2 c (sG c z)).2⟩
                  obtain ⟨o, h, _⟩ := rl1.sl.live c w
                  rw [fG c z] at h
                  cases h
            refine ⟨a0, xs, y, rfl, rfl, ha2, by rw [qs.length]; exact c, ?_⟩
            unfold putE at h
            rw [hs0] at h
            have tr12 : TrS Z O H σ ρ F Z2 O2 H2 σ ρ F := TrS.ext (x1.trans0 x2)
            refine h σ _ Z2 O2 _ rl3 n3 ⟨⟨tr12.tr.z, fun c o hc hn => ?_, tr12.tr.zn, fun c hc => ?_⟩, tr12.o, rfl, fun j d' hj => tr3.brw j d' hj⟩
            · exact tr3.tr.keep c o (tr12.tr.keep c o hc hn) hn
            · rcases List.mem_append.mp hc with hc | hc
              · left; rw [pa.eq]; simp [hc]
              · rcases List.mem_append.mp hc with hc | hc
                · rcases List.mem_cons.mp hc with z | z
                  · left; rw [pa.eq, eg, z]; simp
                  · rcases List.mem_append.mp z with z | z
                    · left; rw [pa.eq, eg]; simp [z]
                    · right; exact x1.h.free (fG c z)
                · left; rw [pa.eq]; simp [hc]
          · rw [if_neg c] at h; exact h.elim
    | _ => rw [el] at h; exact h.elim
end
end Oz

namespace Oz
open PySem PySem.Spec L2
open PyProof.Rows hiding St

/-! ### a def one may call -/
structure Cal (CX : CXT) (P : Program) (w : World) (K : PySem.W.Frag) (mg : Str → Option Value) (base : Heap) (k : Nat) (x : Str) (ps : List Str) (md : List Md) (m : Fn) : Prop where
  ex : ∃ f fd, FnOk P w K mg base CX k f fd ps (spF K md m) ∧ Binds K fd ps [] ∧ PySem.W.keepIn K (.ref f) = true ∧ mg x = some (.ref f)
section
variable {X : Cx} {E : XK} {CX : CXT} {k k' : Nat} {ps : List Str} {md : List Md} {m : Fn} {x : Str} {p pos : Pos} {e : Expr} {es : List Expr} {qs : List Px}
theorem s_callC (c : Cal CX X.prog X.w X.K X.mg X.base k x ps md m) (hr : Room k' X.A) (hx : Passes CX X E) (ha : PA X (e :: es) (tA X.K E qs)) (hg : Gl X x := by rfl) (hk : k ≤ k' := by decide)
    (hdb : (x == ("__debug__" : Str)) = false := by decide) (he : starEach (e :: es) X.env = (false, eval e X.env) :: starEach es X.env := by rfl) (hpl : (backTo pos (starEach es X.env)).any (·.1) = false := by rfl) :
    PE X (.Call (.Name x p) (e :: es) [] pos) (tP X.K E (pCall m md qs)) := by
  obtain ⟨f, fd, F, b, kp, hm⟩ := c.ex
  exact s_call F (hr.mono hk) hg hm kp b hx ha hdb he hpl
end
theorem cal_of {CX : CXT} {P : Program} {w : World} {K : PySem.W.Frag} {mg : Str → Option Value} {base : Heap} {x qual : Str} {params : Arguments} {body : List Stmt} {scope : Scope} {ps : List Str} {k : Nat} {md : List Md} {m : Fn}
    (T : ∃ f fd, FunD K x qual params body scope [] [] f fd ∧ mg x = some (.ref f))
    (hb : ∀ (kV doc pm : Value) (an : Option Addr) (cdv ct : Value) (us : List Value), us.length = ps.length → bindArgs (PySem.W.fnOf x qual params body scope .none kV doc pm an cdv ct) ⟨us, []⟩ = pure (ps.zip us))
    (B : ∀ f fd, FunD K x qual params body scope [] [] f fd → FnOk P w K mg base CX k f fd ps (spF K md m)) :
    Cal CX P w K mg base k x ps md m := by
  obtain ⟨f, fd, F, hm⟩ := T
  exact ⟨f, fd, B f fd F, F.bindsN hb, F.kp, hm⟩
theorem passE {X : Cx} {E : XK} : Passes CX0 X E := fun _ _ _ _ _ _ _ h => h.elim
theorem hu64 {A : Around} {k : Nat} (hr : Room k A) : A.units + 64 < cLine := by have := hr.un; omega
theorem hu65 {A : Around} {k : Nat} (hr : Room k A) : A.units + 65 < cLine := by have := hr.un; omega
/-! ### the block of a comprehension -/
def blkB (N : List Str) (sc scope : Scope) (own : List (Str × Nat)) : Bool :=
  decide (scope.kind = .function) && (scope.names.all fun y => decide (scope.names.lookup y.1 = some y.2)) && (own.all fun p => decide (N[p.2]? = some p.1)) &&
  (scope.names.all fun y => !decide (y.2 = .free) || (decide (sc.names.lookup y.1 = some .cell) || decide (sc.names.lookup y.1 = some .free))) &&
  (scope.names.all fun y => !(decide (y.2 = .local) || decide (y.2 = .cell)) || (decide (y.1 ∈ own.map (·.1)) || !decide (y.1 ∈ N)))
theorem blkB_ok {N : List Str} {sc scope : Scope} {own : List (Str × Nat)} (h : blkB N sc scope own = true) : BlkOk N sc scope own := by
  unfold blkB at h
  simp only [Bool.and_eq_true, decide_eq_true_eq, List.all_eq_true, Bool.or_eq_true, Bool.not_eq_true', decide_eq_false_iff_not] at h
  obtain ⟨⟨⟨⟨h1, h2⟩, h3⟩, h4⟩, h5⟩ := h
  refine ⟨h1, h2, h3, fun y hy e => ?_, fun y hy e => ?_⟩
  · rcases h4 y hy with z | z
    · exact absurd e z
    · exact z
  · rcases h5 y hy with z | z
    · rw [Bool.or_eq_false_iff, decide_eq_false_iff_not, decide_eq_false_iff_not] at z
      exact e.elim (fun e => absurd e z.1) fun e => absurd e z.2
    · exact z
/-! ### the law's end -/
theorem law_sp {K : PySem.W.Frag} {m : Fn} {n : Nat} (h : ∀ ns : List Int, ns.length ≤ n → m [scrD (ns.map .int)] = .ok ⟨.imm, .bool true⟩ []) (H : Hp) (a : Addr) (ns : List Int) (hl : ns.length ≤ n) (hO : Only H) (hS : SqL K H a (ns.map V.int)) :
    spF K [.v] m [.ref a] H (fun v _ => v = .bl true) fun _ _ _ => False := by
  have hF : SqF K H a (ns.map V.int) := by
    rcases hS with (hS | hS) | hS
    · rcases hO a with z | ⟨o, xs, z⟩
      · rw [hS] at z; cases z
      · rw [hS] at z; cases z
    · exact .inl hS
    · exact .inr hS
  have hi : ∀ (C : Hp) (ns : List Int), Reps K C (ns.map V.int) (ns.map PyData.int) := fun C ns => by
    induction ns with
    | nil => exact .nil
    | cons x xs ih => exact .cons (.int x) ih
  refine ⟨rfl, H, [scrD (ns.map .int)], [], Same.refl _, fun a o h _ => h, .v (.scr (by rw [without_nil]; exact hF) (hi _ _)) .nil, List.nodup_nil, (fun a ha => by cases ha), ?_⟩
  rw [h ns hl]
  intro v H' Z' Fm' G A t r
  obtain ⟨r, _⟩ := r
  cases r
  rfl
end Oz

namespace Oz
open PySem PySem.Spec L2
open PyProof.Rows hiding St

/-! ### reckoning with what a def does -/
theorem str_inj {a b : String} : (Str.ofString a = Str.ofString b) ↔ a = b := by
  constructor
  · intro h
    rw [Str.ofString_eq_toList, Str.ofString_eq_toList] at h
    have h2 : a.toList.map Char.toNat = b.toList.map Char.toNat := by
      have := congrArg (fun s : Str => s.cps.toList) h
      simpa using this
    have h3 : a.toList = b.toList := by
      refine List.map_inj_right (f := Char.toNat) (fun x y e => ?_) |>.mp h2
      have e2 : x.val.toNat = y.val.toNat := e
      exact Char.ext (UInt32.toNat_inj.mp e2)
    exact String.toList_inj.mp h3
  · intro h
    rw [h]
@[simp] theorem str_eq {a b : String} : (Str.ofString a = Str.ofString b) = (a = b) := propext str_inj
@[simp] theorem str_beq {a b : String} : (Str.ofString a == Str.ofString b) = (a == b) := by
  rw [Bool.eq_iff_iff]
  simp
section
variable {ρ : Ev}
@[simp] theorem x_seq {s t : Stx} : sSeq s t ρ = (match s ρ with | .next ρ' => t ρ' | r => r) := id rfl
@[simp] theorem x_if {c : Tx} {s t : Stx} : sIf c s t ρ = (match c ρ with | .bad => .bad | .exc x fs => .exc x fs ρ | .ok b => if b = true then s ρ else t ρ) := id rfl
@[simp] theorem x_asg {i : Nat} {p : Px} : sAsg i p ρ = (match p ρ with | .bad => .bad | .exc c fs => .exc c fs ρ | .ok r => (match setS i r ρ with | some ρ' => .next ρ' | none => .bad)) := id rfl
@[simp] theorem x_asgT {g : Tgx} {p : Px} : sAsgT g p ρ = (match p ρ with | .bad => .bad | .exc c fs => .exc c fs ρ | .ok r => (match g r ρ with | some ρ' => .next ρ' | none => .bad)) := id rfl
@[simp] theorem x_ret {p : Px} : sRet p ρ = (match p ρ with | .bad => .bad | .exc c fs => .exc c fs ρ | .ok r => if storable r = true then .ret r ρ else .bad) := id rfl
@[simp] theorem x_drop {p : Px} : sDrop p ρ = (match p ρ with | .bad => .bad | .exc c fs => .exc c fs ρ | .ok _ => .next ρ) := id rfl
@[simp] theorem x_next : sNext ρ = .next ρ := id rfl
@[simp] theorem x_for {src : Src} {g : Tgx} {b : Stx} : sFor src g b ρ = (match src ρ with | .bad => .bad | .exc c fs => .exc c fs ρ | .ok rs => loopS g b rs ρ) := id rfl
@[simp] theorem x_C {d : D} : pC d ρ = .ok ⟨.imm, d⟩ := id rfl
@[simp] theorem x_var {i : Nat} : pVar i ρ = (match ρ[i]? with | some (some r) => .ok (vw r) | _ => .bad) := id rfl
@[simp] theorem x_p2 {f : R → R → Res R} {p q : Px} : p2 f p q ρ = ((p ρ).bind fun a => (q ρ).bind fun b => f a b) := id rfl
@[simp] theorem x_at2 {f : D → D → Option D} {a b : R} : at2 f a b = (match f a.d b.d with | some d => .ok ⟨.imm, d⟩ | none => .bad) := id rfl
@[simp] theorem x_i2 {f : Int → Int → Option D} {i j : Int} : i2 f (.int i) (.int j) = f i j := id rfl
@[simp] theorem x_and {p q : Px} : pAnd p q ρ = ((p ρ).bind fun r => match truth r.d with | some true => q ρ | some false => .ok r | none => .bad) := id rfl
@[simp] theorem x_or {p q : Px} : pOr p q ρ = ((p ρ).bind fun r => match truth r.d with | some true => .ok r | some false => q ρ | none => .bad) := id rfl
@[simp] theorem x_not {p : Px} : pNot p ρ = ((p ρ).bind fun r => match truth r.d with | some b => .ok ⟨.imm, .bool (!b)⟩ | none => .bad) := id rfl
@[simp] theorem x_pif {t : Tx} {p q : Px} : pIf t p q ρ = ((t ρ).bind fun b => if b = true then p ρ else q ρ) := id rfl
@[simp] theorem x_tand {t u : Tx} : tAndD t u ρ = ((t ρ).bind fun b => if b = true then u ρ else .ok false) := id rfl
@[simp] theorem x_tor {t u : Tx} : tOrD t u ρ = ((t ρ).bind fun b => if b = true then .ok true else u ρ) := id rfl
@[simp] theorem x_tnot {t : Tx} : tNotD t ρ = ((t ρ).bind fun b => .ok (!b)) := id rfl
@[simp] theorem x_val {p : Px} : tVal p ρ = ((p ρ).bind fun r => match r.d with | .bool b => .ok b | _ => .bad) := id rfl
@[simp] theorem x_tru {p : Px} : tTru p ρ = ((p ρ).bind fun r => match truth r.d with | some b => .ok b | none => .bad) := id rfl
@[simp] theorem x_yes : tYesD ρ = .ok true := id rfl
@[simp] theorem x_tup {ps : List Px} : pTup ps ρ = ((evs ps ρ).bind fun rs => match frzs rs with | some ds => if ds.length ≤ sizeLine then .ok ⟨.imm, .tuple ds⟩ else .bad | none => .bad) := id rfl
@[simp] theorem x_lst {ps : List Px} : pLst ps ρ = ((evs ps ρ).bind fun rs => match owns rs with | some ds => if ds.length ≤ sizeLine then .ok ⟨.own, .list ds⟩ else .bad | none => .bad) := id rfl
@[simp] theorem x_pB {f : List R → Res R} {ps : List Px} : pB f ps ρ = (evs ps ρ).bind f := id rfl
@[simp] theorem x_call {f : Fn} {md : List Md} {ps : List Px} : pCall f md ps ρ = ((evs ps ρ).bind fun rs => match pargs md rs with | some ds => (match f ds with | .ok r [] => .ok r | .exc c fs [] => .exc c fs | _ => .bad) | none => .bad) := id rfl
@[simp] theorem x_evs0 : evs [] ρ = .ok [] := id rfl
@[simp] theorem x_evs1 {p : Px} {ps : List Px} : evs (p :: ps) ρ = ((p ρ).bind fun r => (evs ps ρ).bind fun rs => .ok (r :: rs)) := id rfl
@[simp] theorem x_comp {vs : List Nat} {src : Src} {g : Tgx} {t : Tx} {p : Px} : pComp vs src g t p ρ = (if nov ρ = true then (src ρ).bind fun rs => match compE g t p (wipeE ρ vs) rs with | some ys => compR ys | none => .bad else .bad) := id rfl
@[simp] theorem x_srcS {p : Px} : srcS p ρ = ((p ρ).bind fun r => if r.s = .view then .bad else srcR r) := id rfl
@[simp] theorem x_srcC {p : Px} : srcC p ρ = (p ρ).bind srcR := id rfl
@[simp] theorem x_srcR1 {p : Px} : srcR1 p ρ = ((p ρ).bind fun r => match r.d with | .int j => if inR j = true then .ok (irng 0 j.toNat) else .bad | _ => .bad) := id rfl
@[simp] theorem x_srcR2 {p q : Px} : srcR2 p q ρ = ((p ρ).bind fun a => (q ρ).bind fun b => match a.d, b.d with | .int i, .int j => if inR i = true ∧ inR j = true then .ok (irng i (j - i).toNat) else .bad | _, _ => .bad) := id rfl
@[simp] theorem x_srcRl {s : Sx} {ds : List D} : srcR ⟨s, .list ds⟩ = .ok (ds.map (sub s)) := id rfl
@[simp] theorem x_srcRt {s : Sx} {ds : List D} : srcR ⟨s, .tuple ds⟩ = .ok (ds.map (sub s)) := id rfl
@[simp] theorem x_app {l : Plx} {p : Px} : sApp l p ρ = (match l ρ with | .bad => .bad | .exc c fs => .exc c fs ρ | .ok l => (match l.d with
    | .list ds => (match p ρ with | .bad => .bad | .exc c fs => .exc c fs ρ | .ok r => (match ownR r with | some d => if ds.length < sizeLine then putE l (.list (ds ++ [d])) ρ else .bad | none => .bad))
    | _ => .bad)) := id rfl
@[simp] theorem x_plN {i : Nat} : plN i ρ = (match ρ[i]? with | some (some ⟨.own, d⟩) => .ok ⟨i, d, id⟩ | some (some ⟨.brw, d⟩) => .ok ⟨i, d, id⟩ | _ => .bad) := id rfl
@[simp] theorem x_plI {l : Plx} {p : Px} : plI l p ρ = ((l ρ).bind fun l => (p ρ).bind fun r => match l.d, r.d with
  | .list ds, .int i => (match ixN ds.length i with
    | some j => (match ds[j]? with
      | some d => .ok ⟨l.i, d, fun y => l.put (.list (ds.set j y))⟩
      | none => .bad)
    | none => .bad)
  | _, _ => .bad) := id rfl
@[simp] theorem x_putE {l : Pl} {d : D} : putE l d ρ = (match ρ[l.i]? with | some (some ⟨s, _⟩) => .next (ρ.set l.i (some ⟨s, l.put d⟩)) | _ => .bad) := id rfl
@[simp] theorem x_retV {i : Nat} : sRetV i ρ = (match ρ[i]? with | some (some ⟨.own, d⟩) => .ret ⟨.own, d⟩ (ρ.set i none) | _ => sRet (pVar i) ρ) := id rfl
@[simp] theorem x_gN {i : Nat} {r : R} : gN i r ρ = setS i r ρ := id rfl
@[simp] theorem x_gsN0 : gsN [] ρ = some ρ := id rfl
@[simp] theorem x_gsC {t : Tgx} {u : Tgxs} {r : R} {rs : List R} : gsC t u (r :: rs) ρ = (match t r ρ with | some ρ' => u rs ρ' | none => none) := id rfl
@[simp] theorem x_gT {n : Nat} {t : Tgxs} {s : Sx} {ds : List D} : gT n t ⟨s, .tuple ds⟩ ρ = if ds.length = n then t (ds.map (sub s)) ρ else none := id rfl
@[simp] theorem x_cN {i : Nat} {r : R} : cN i r ρ = setC i r ρ := id rfl
@[simp] theorem x_fnD {n : Nat} {md : List Md} {b : Stx} {ds : List D} : fnD n md b ds = (match b (entE md ds n) with
  | .bad => .bad
  | .next ρ => exitE md ⟨.imm, .none⟩ ρ
  | .ret r ρ => exitE md r ρ
  | .exc c fs ρ => (match outsE md ρ with
    | some ms => .exc c fs ms
    | none => .bad)) := id rfl
end
@[simp] theorem gd_s {b : Bool} : gd b = b := gd_eq b
@[simp] theorem bind_ok' {α β : Type} (a : α) (f : α → Res β) : (Res.ok a).bind f = f a := id rfl
/-! statuses -/
@[simp] theorem lf_int {i : Int} : lf (.int i) = true := id rfl
@[simp] theorem lf_bool {b : Bool} : lf (.bool b) = true := id rfl
@[simp] theorem lf_str {x : Str} : lf (.str x) = true := id rfl
@[simp] theorem lf_none : lf .none = true := id rfl
@[simp] theorem lf_list {ds : List D} : lf (.list ds) = false := id rfl
@[simp] theorem lf_dict {es : List (D × D)} : lf (.dict es) = false := id rfl
@[simp] theorem lf_scr {ds : List D} : lf (scrD ds) = false := id rfl
@[simp] theorem lf_tup {ds : List D} : lf (.tuple ds) = lfs ds := id rfl
@[simp] theorem lfs_nil : lfs [] = true := id rfl
@[simp] theorem lfs_cons {d : D} {ds : List D} : lfs (d :: ds) = (lf d && lfs ds) := id rfl
theorem lfs_all {ds : List D} : lfs ds = ds.all lf := by
  induction ds with
  | nil => rfl
  | cons x xs ih => simp [ih]
@[simp] theorem lfs_map_int {ns : List Int} : lfs (ns.map .int) = true := by rw [lfs_all]; simp
@[simp] theorem vw_imm {d : D} : vw ⟨.imm, d⟩ = ⟨.imm, d⟩ := by unfold vw; split <;> rfl
@[simp] theorem vw_lf {s : Sx} {d : D} (h : lf d = true) : vw ⟨s, d⟩ = ⟨.imm, d⟩ := if_pos h
theorem vw_nlf {s : Sx} {d : D} (h : lf d = false) : vw ⟨s, d⟩ = (match s with | .own => ⟨.view, d⟩ | .brw => ⟨.view, d⟩ | s => ⟨s, d⟩) := by unfold vw; cases s <;> exact if_neg (by simp [h])
@[simp] theorem vw_own {d : D} (h : lf d = false) : vw ⟨.own, d⟩ = ⟨.view, d⟩ := vw_nlf h
@[simp] theorem vw_brw {d : D} (h : lf d = false) : vw ⟨.brw, d⟩ = ⟨.view, d⟩ := vw_nlf h
@[simp] theorem vw_out {d : D} (h : lf d = false) : vw ⟨.out, d⟩ = ⟨.out, d⟩ := vw_nlf h
@[simp] theorem vw_view {d : D} (h : lf d = false) : vw ⟨.view, d⟩ = ⟨.view, d⟩ := vw_nlf h
@[simp] theorem sub_imm {d : D} : sub .imm d = ⟨.imm, d⟩ := by unfold sub; split <;> rfl
@[simp] theorem sub_lf {s : Sx} {d : D} (h : lf d = true) : sub s d = ⟨.imm, d⟩ := if_pos h
theorem sub_nlf {s : Sx} {d : D} (h : lf d = false) : sub s d = (match s with | .imm => ⟨.imm, d⟩ | .out => ⟨.out, d⟩ | _ => ⟨.view, d⟩) := by unfold sub; cases s <;> exact if_neg (by simp [h])
@[simp] theorem sub_out {d : D} (h : lf d = false) : sub .out d = ⟨.out, d⟩ := sub_nlf h
@[simp] theorem sub_view {d : D} (h : lf d = false) : sub .view d = ⟨.view, d⟩ := sub_nlf h
@[simp] theorem sub_own {d : D} (h : lf d = false) : sub .own d = ⟨.view, d⟩ := sub_nlf h
@[simp] theorem frzR_imm {d : D} : frzR ⟨.imm, d⟩ = some d := id rfl
@[simp] theorem frzR_lf {s : Sx} {d : D} (h : lf d = true) : frzR ⟨s, d⟩ = some d := by unfold frzR; cases s <;> first | rfl | exact if_pos h
@[simp] theorem frzs_nil : frzs [] = some [] := id rfl
@[simp] theorem frzs_cons {r : R} {rs : List R} : frzs (r :: rs) = (match frzR r, frzs rs with | some d, some ds => some (d :: ds) | _, _ => none) := id rfl
@[simp] theorem ownR_own {d : D} : ownR ⟨.own, d⟩ = some d := id rfl
@[simp] theorem ownR_lf {s : Sx} {d : D} (h : lf d = true) : ownR ⟨s, d⟩ = some d := by unfold ownR; cases s <;> first | rfl | exact if_pos h
@[simp] theorem ownR_val {d : D} (h : isVal d = true) : ownR ⟨.imm, d⟩ = some d := by
  unfold ownR
  show (if lf d = true then some d else if Sx.imm = .imm ∧ isVal d = true then some d else none) = some d
  by_cases l : lf d = true
  · rw [if_pos l]
  · rw [if_neg l, if_pos ⟨rfl, h⟩]
@[simp] theorem isVal_tup {ds : List D} : isVal (.tuple ds) = true := id rfl
@[simp] theorem owns_nil : owns [] = some [] := id rfl
@[simp] theorem owns_cons {r : R} {rs : List R} : owns (r :: rs) = (match ownR r, owns rs with | some d, some ds => some (d :: ds) | _, _ => none) := id rfl
@[simp] theorem pargs_nil : pargs [] [] = some [] := id rfl
@[simp] theorem pargs_i {md : List Md} {r : R} {rs : List R} : pargs (.i :: md) (r :: rs) = (match frzR r, pargs md rs with | some d, some ds => some (d :: ds) | _, _ => none) := id rfl
@[simp] theorem pargs_v {md : List Md} {r : R} {rs : List R} : pargs (.v :: md) (r :: rs) = (match pargs md rs with | some ds => some (r.d :: ds) | none => none) := id rfl
@[simp] theorem entE_cons {m : Md} {md : List Md} {d : D} {ds : List D} {n : Nat} : entE (m :: md) (d :: ds) n = some (entR m d) :: entE md ds (n - 1) := id rfl
@[simp] theorem entE_nil {ds : List D} {n : Nat} : entE [] ds n = List.replicate n none := by cases ds <;> rfl
@[simp] theorem entR_i {d : D} : entR .i d = ⟨.imm, d⟩ := id rfl
@[simp] theorem entR_m {d : D} : entR .m d = ⟨.brw, d⟩ := id rfl
@[simp] theorem entR_v1 {d : D} (h : lf d = true) : entR .v d = ⟨.imm, d⟩ := if_pos h
@[simp] theorem entR_v0 {d : D} (h : lf d = false) : entR .v d = ⟨.out, d⟩ := if_neg (by simp [h])
@[simp] theorem outsE_nil {ρ : Ev} : outsE [] ρ = some [] := id rfl
@[simp] theorem outsE_i {md : List Md} {x : Option R} {ρ : Ev} : outsE (.i :: md) (x :: ρ) = outsE md ρ := id rfl
@[simp] theorem outsE_v {md : List Md} {x : Option R} {ρ : Ev} : outsE (.v :: md) (x :: ρ) = outsE md ρ := id rfl
@[simp] theorem outsE_m {md : List Md} {d : D} {ρ : Ev} : outsE (.m :: md) (some ⟨.brw, d⟩ :: ρ) = (match outsE md ρ with | some ds => some (d :: ds) | none => none) := id rfl
@[simp] theorem exitE_imm {md : List Md} {d : D} {ρ : Ev} : exitE md ⟨.imm, d⟩ ρ = (match outsE md ρ with | some ms => .ok ⟨.imm, d⟩ ms | none => .bad) := id rfl
@[simp] theorem exitE_own {md : List Md} {d : D} {ρ : Ev} : exitE md ⟨.own, d⟩ ρ = (match outsE md ρ with | some ms => .ok ⟨.own, d⟩ ms | none => .bad) := id rfl
@[simp] theorem sto_imm {d : D} : storable ⟨.imm, d⟩ = true := id rfl
@[simp] theorem sto_own {d : D} : storable ⟨.own, d⟩ = true := id rfl
@[simp] theorem sto_out {d : D} : storable ⟨.out, d⟩ = true := id rfl
@[simp] theorem x_setS {i : Nat} {r : R} {ρ : Ev} : setS i r ρ = (match ρ[i]? with | none => none | some (some ⟨.brw, _⟩) => none | some _ => if storable r = true then some (ρ.set i (some r)) else none) := id rfl
@[simp] theorem x_setC {i : Nat} {r : R} {ρ : Ev} : setC i r ρ = (match ρ[i]? with | none => none | some (some ⟨.brw, _⟩) => none | some _ => if r.s = .own ∨ r.s = .brw then none else some (ρ.set i (some r))) := id rfl
@[simp] theorem wipe0 {ρ : Ev} : wipeE ρ [] = ρ := id rfl
@[simp] theorem wipe1 {ρ : Ev} {v : Nat} {vs : List Nat} : wipeE ρ (v :: vs) = (wipeE ρ vs).set v none := id rfl
@[simp] theorem nov_nil : nov [] = true := id rfl
@[simp] theorem nov_none {ρ : Ev} : nov (none :: ρ) = nov ρ := id rfl
@[simp] theorem nov_imm {d : D} {ρ : Ev} : nov (some ⟨.imm, d⟩ :: ρ) = nov ρ := id rfl
@[simp] theorem nov_out {d : D} {ρ : Ev} : nov (some ⟨.out, d⟩ :: ρ) = nov ρ := id rfl
@[simp] theorem nov_own {d : D} {ρ : Ev} : nov (some ⟨.own, d⟩ :: ρ) = nov ρ := id rfl
@[simp] theorem nov_brw {d : D} {ρ : Ev} : nov (some ⟨.brw, d⟩ :: ρ) = nov ρ := id rfl
/-! indices -/
theorem ixN_nat {n k : Nat} (h : k < n) : ixN n (k : Int) = some k := by
  unfold ixN
  rw [if_pos (by omega), if_pos (by omega)]
  simp
@[simp] theorem ixN_lit {n k : Nat} : ixN n (no_index (@OfNat.ofNat Int k instOfNat)) = if k < n then some k else none := by
  by_cases h : k < n
  · rw [if_pos h]
    exact ixN_nat h
  · rw [if_neg h]
    unfold ixN
    have e : (@OfNat.ofNat Int k instOfNat) = (k : Int) := id rfl
    rw [e, if_pos (by omega), if_neg (by omega)]
theorem atI_ofNat {α : Type} {xs : List α} {k : Nat} : atI xs (k : Int) = xs[k]? := by
  unfold atI
  by_cases h : k < xs.length
  · rw [ixN_nat h]; rfl
  · have : ixN xs.length (k : Int) = none := by
      unfold ixN
      rw [if_pos (by omega), if_neg (by omega)]
    rw [this]
    exact (List.getElem?_eq_none (by omega)).symm
@[simp] theorem atI_lit {α : Type} {xs : List α} {k : Nat} : atI xs (no_index (@OfNat.ofNat Int k instOfNat)) = xs[k]? := atI_ofNat
theorem atI_some {α : Type} {xs : List α} {i : Int} (h0 : 0 ≤ i) (h : i < xs.length) : atI xs i = some (xs[i.toNat]'(by omega)) := by
  obtain ⟨k, rfl⟩ := Int.eq_ofNat_of_zero_le h0
  have hk : k < xs.length := by omega
  have e : atI xs (k : Int) = xs[k]? := atI_ofNat
  rw [e]
  simp [hk]
theorem ixN_some {n : Nat} {i : Int} (h0 : 0 ≤ i) (h : i < n) : ixN n i = some i.toNat := by
  unfold ixN
  rw [if_pos h0, if_pos h]
@[simp] theorem atI_map {α β : Type} {f : α → β} {xs : List α} {i : Int} : atI (xs.map f) i = (atI xs i).map f := by
  unfold atI
  rw [List.length_map]
  cases ixN xs.length i with
  | none => rfl
  | some j => simp
@[simp] theorem x_ixR_l {s : Sx} {ds : List D} {i : Int} {t : Sx} : ixR ⟨s, .list ds⟩ ⟨t, .int i⟩ = (match atI ds i with | some d => .ok (sub s d) | none => .bad) := id rfl
@[simp] theorem x_ixR_t {s : Sx} {ds : List D} {i : Int} {t : Sx} : ixR ⟨s, .tuple ds⟩ ⟨t, .int i⟩ = (match atI ds i with | some d => .ok (sub s d) | none => .bad) := id rfl
@[simp] theorem x_ixR_s {s : Sx} {ds : List D} {i : Int} {t : Sx} : ixR ⟨s, scrD ds⟩ ⟨t, .int i⟩ = (match atI ds i with | some d => .ok (sub .view d) | none => .bad) := id rfl
@[simp] theorem x_addI {s t : Sx} {i j : Int} : addR ⟨s, .int i⟩ ⟨t, .int j⟩ = .ok ⟨.imm, .int (i + j)⟩ := id rfl
@[simp] theorem x_addL {s t : Sx} {xs ys : List D} : addR ⟨s, .list xs⟩ ⟨t, .list ys⟩ = if xs.length + ys.length ≤ sizeLine then dnew (both s t) (xs ++ ys) else .bad := id rfl
@[simp] theorem x_addT {s t : Sx} {xs ys : List D} : addR ⟨s, .tuple xs⟩ ⟨t, .tuple ys⟩ = if xs.length + ys.length ≤ sizeLine then tnew (both s t) (xs ++ ys) else .bad := id rfl
@[simp] theorem fEq_ii {i j : Int} : fEq (.int i) (.int j) = some (i == j) := id rfl
@[simp] theorem fEq_ss {x y : Str} : fEq (.str x) (.str y) = some (x == y) := id rfl
@[simp] theorem fEq_sn {x : Str} : fEq (.str x) .none = some false := id rfl
@[simp] theorem fEq_ns {x : Str} : fEq .none (.str x) = some false := id rfl
@[simp] theorem fEq_in {i : Int} : fEq (.int i) .none = some false := id rfl
@[simp] theorem fEq_ni {i : Int} : fEq .none (.int i) = some false := id rfl
@[simp] theorem fEq_is {i : Int} {x : Str} : fEq (.int i) (.str x) = some false := id rfl
@[simp] theorem fEq_si {i : Int} {x : Str} : fEq (.str x) (.int i) = some false := id rfl
@[simp] theorem dBool_some {b : Bool} : dBool (some b) = some (.bool b) := id rfl
@[simp] theorem dNot_some {b : Bool} : dNot (some b) = some (.bool (!b)) := id rfl
@[simp] theorem x_b1 {f : D → Option D} {r : R} : b1 f [r] = (match f r.d with | some d => .ok ⟨.imm, d⟩ | none => .bad) := id rfl
@[simp] theorem x_len_l {ds : List D} : fLen (.list ds) = some (.int (ds.length : Int)) := id rfl
@[simp] theorem x_len_t {ds : List D} : fLen (.tuple ds) = some (.int (ds.length : Int)) := id rfl
@[simp] theorem x_len_s {ds : List D} : fLen (scrD ds) = some (.int (ds.length : Int)) := id rfl
@[simp] theorem x_b2i {f : Int → Int → Int} {s t : Sx} {i j : Int} : b2i f [⟨s, .int i⟩, ⟨t, .int j⟩] = .ok ⟨.imm, .int (f i j)⟩ := id rfl
@[simp] theorem x_tup_l {s : Sx} {ds : List D} : bTuple [⟨s, .list ds⟩] = tnew s ds := id rfl
@[simp] theorem x_tup_t {ds : List D} : bTuple [⟨.imm, .tuple ds⟩] = .ok ⟨.imm, .tuple ds⟩ := id rfl
@[simp] theorem x_list_l {s : Sx} {ds : List D} : bList [⟨s, .list ds⟩] = dnew s ds := id rfl
@[simp] theorem x_list_t {s : Sx} {ds : List D} : bList [⟨s, .tuple ds⟩] = dnew s ds := id rfl
@[simp] theorem tnew_imm {ds : List D} : tnew .imm ds = .ok ⟨.imm, .tuple ds⟩ := if_pos (.inr rfl)
@[simp] theorem tnew_lf {s : Sx} {ds : List D} (h : lfs ds = true) : tnew s ds = .ok ⟨.imm, .tuple ds⟩ := if_pos (.inl h)
@[simp] theorem dnew_lf {s : Sx} {ds : List D} (h : lfs ds = true) : dnew s ds = .ok ⟨.own, .list ds⟩ := if_pos h
@[simp] theorem items_l {ds : List D} : itemsD (.list ds) = some ds := id rfl
@[simp] theorem items_t {ds : List D} : itemsD (.tuple ds) = some ds := id rfl
@[simp] theorem truth_b {b : Bool} : truth (.bool b) = some b := id rfl
@[simp] theorem truth_i {i : Int} : truth (.int i) = some (i != 0) := id rfl
@[simp] theorem truth_n : truth .none = some false := id rfl
@[simp] theorem truth_l {ds : List D} : truth (.list ds) = some (!ds.isEmpty) := id rfl
@[simp] theorem truth_t {ds : List D} : truth (.tuple ds) = some (!ds.isEmpty) := id rfl
@[simp] theorem eqv_ss {x y : Str} : PyData.eqv (.str x) (.str y) = (x == y) := by simp [PyData.eqv]
@[simp] theorem eqv_ii {x y : Int} : PyData.eqv (.int x) (.int y) = (x == y) := by simp [PyData.eqv]
@[simp] theorem eqv_sn {x : Str} : PyData.eqv (.str x) .none = false := by simp [PyData.eqv]
@[simp] theorem eqv_ns {x : Str} : PyData.eqv .none (.str x) = false := by simp [PyData.eqv]
/-- an atom in a tuple of atoms -/
@[simp] theorem fIn_t {a : D} {ds : List D} (h1 : atomD a = true) (h2 : ds.all atomD = true) : fIn a (.tuple ds) = some (ds.any fun z => PyData.eqv z a) := by
  unfold fIn
  simp [h1, h2]
@[simp] theorem atom_i {i : Int} : atomD (.int i) = true := id rfl
@[simp] theorem atom_s {x : Str} : atomD (.str x) = true := id rfl
@[simp] theorem atom_n : atomD .none = true := id rfl
@[simp] theorem atom_b {b : Bool} : atomD (.bool b) = true := id rfl
@[simp] theorem x_eqF {a b : D} : eqF a b = dBool (fEq a b) := id rfl
@[simp] theorem x_neF {a b : D} : neF a b = dNot (fEq a b) := id rfl
@[simp] theorem x_inF {a b : D} : inF a b = dBool (fIn a b) := id rfl
@[simp] theorem x_ninF {a b : D} : ninF a b = dNot (fIn a b) := id rfl
/-! loops -/
@[simp] theorem loop_nil {g : Tgx} {b : Stx} {ρ : Ev} : loopS g b [] ρ = .next ρ := id rfl
theorem loop_cons {g : Tgx} {b : Stx} {ρ : Ev} {r : R} {rs : List R} : loopS g b (r :: rs) ρ = (match g r ρ with
    | none => .bad
    | some ρ1 => (match b ρ1 with
      | .next ρ2 => loopS g b rs ρ2
      | x => x)) := rfl
/-- to the end, by an invariant of what was taken and the frame -/
theorem loop_inv {α : Type} (I : List α → Ev → Prop) {g : Tgx} {b : Stx} {item : α → R} {xs : List α} {ρ : Ev} (h0 : I [] ρ)
    (hs : ∀ pre x post ρ, xs = pre ++ x :: post → I pre ρ → ∃ ρ1 ρ2, g (item x) ρ = some ρ1 ∧ b ρ1 = .next ρ2 ∧ I (pre ++ [x]) ρ2) :
    ∃ ρ', loopS g b (xs.map item) ρ = .next ρ' ∧ I xs ρ' := by
  have go : ∀ post pre ρ, xs = pre ++ post → I pre ρ → ∃ ρ', loopS g b (post.map item) ρ = .next ρ' ∧ I xs ρ' := by
    intro post
    induction post with
    | nil => intro pre ρ e h; rw [List.append_nil] at e; exact ⟨ρ, rfl, e ▸ h⟩
    | cons x post ih =>
      intro pre ρ e h
      obtain ⟨ρ1, ρ2, e1, e2, h2⟩ := hs pre x post ρ e h
      obtain ⟨ρ', e3, h3⟩ := ih (pre ++ [x]) ρ2 (by rw [e]; simp) h2
      refine ⟨ρ', ?_, h3⟩
      rw [List.map_cons, loop_cons, e1]
      simp only [e2]
      exact e3
  exact go xs [] ρ rfl h0
theorem comp_map {α : Type} {g : Tgx} {t : Tx} {p : Px} {ρ : Ev} {item : α → R} {xs : List α} {c : α → Bool} {f : α → R}
    (h : ∀ x ∈ xs, ∃ ρ1, g (item x) ρ = some ρ1 ∧ t ρ1 = .ok (c x) ∧ (c x = true → p ρ1 = .ok (f x))) : compE g t p ρ (xs.map item) = some ((xs.filter c).map f) := by
  induction xs with
  | nil => rfl
  | cons x xs ih =>
    obtain ⟨ρ1, e1, e2, e3⟩ := h x (by simp)
    have ih2 := ih fun y hy => h y (by simp [hy])
    rw [List.map_cons]
    unfold compE
    simp only [e1, e2]
    cases hc : c x with
    | false => simp [hc, ih2]
    | true => simp [hc, ih2, e3 hc]
theorem comp_map1 {α : Type} {g : Tgx} {p : Px} {ρ : Ev} {item : α → R} {xs : List α} {f : α → R}
    (h : ∀ x ∈ xs, ∃ ρ1, g (item x) ρ = some ρ1 ∧ p ρ1 = .ok (f x)) : compE g tYesD p ρ (xs.map item) = some (xs.map f) := by
  have := comp_map (t := tYesD) (c := fun _ => true) (f := f) fun x hx => let ⟨ρ1, e1, e2⟩ := h x hx; ⟨ρ1, e1, rfl, fun _ => e2⟩
  rw [this, List.filter_eq_self.mpr fun _ _ => rfl]
theorem owns_map {α : Type} {f : α → R} {e : α → D} {xs : List α} (h : ∀ x ∈ xs, ownR (f x) = some (e x)) : owns (xs.map f) = some (xs.map e) := by
  induction xs with
  | nil => rfl
  | cons x xs ih => simp [h x (by simp), ih fun y hy => h y (by simp [hy])]
theorem frzs_map {α : Type} {f : α → R} {e : α → D} {xs : List α} (h : ∀ x ∈ xs, frzR (f x) = some (e x)) : frzs (xs.map f) = some (xs.map e) := by
  induction xs with
  | nil => rfl
  | cons x xs ih => simp [h x (by simp), ih fun y hy => h y (by simp [hy])]
theorem compR_own {α : Type} {f : α → R} {e : α → D} {xs : List α} (hl : xs.length ≤ sizeLine) (h : ∀ x ∈ xs, ownR (f x) = some (e x)) : compR (xs.map f) = .ok ⟨.own, .list (xs.map e)⟩ := by
  unfold compR
  rw [List.length_map, if_pos hl, owns_map h]
theorem irng_map {lo : Int} {n : Nat} : irng lo n = (List.range n).map fun (k : Nat) => (⟨.imm, .int (lo + (k : Int))⟩ : R) := rfl
end Oz

namespace Oz
open PySem PySem.Spec L2
open PyProof.Rows hiding St

/-! ### data that == compares -/
structure Sh (n : Nat) (d : D) : Prop where
  c : d.canLay0 = true
  d : d.depth ≤ n
theorem canLayAll0_of {ds : List D} (h : ∀ d ∈ ds, d.canLay0 = true) : PyData.canLayAll0 ds = true := by
  induction ds with
  | nil => simp [PyData.canLayAll0]
  | cons x xs ih => simp [PyData.canLayAll0, h x (by simp), ih fun d hd => h d (by simp [hd])]
theorem depthAll_of {ds : List D} {n : Nat} (h : ∀ d ∈ ds, d.depth ≤ n) : PyData.depthAll ds ≤ n := by
  induction ds with
  | nil => simp [PyData.depthAll]
  | cons x xs ih => simp only [PyData.depthAll]; exact Nat.max_le.mpr ⟨h x (by simp), ih fun d hd => h d (by simp [hd])⟩
theorem Sh.int {n : Nat} {i : Int} : Sh n (.int i) := ⟨by simp [PyData.canLay0], by simp [PyData.depth]⟩
theorem Sh.bool {n : Nat} {b : Bool} : Sh n (.bool b) := ⟨by simp [PyData.canLay0], by simp [PyData.depth]⟩
theorem Sh.none {n : Nat} : Sh n .none := ⟨by simp [PyData.canLay0], by simp [PyData.depth]⟩
theorem Sh.str {n : Nat} {x : Str} (h : PyData.strOk x = true) : Sh n (.str x) := ⟨by simp [PyData.canLay0, h], by simp [PyData.depth]⟩
theorem strOk_of (s : String) : PyData.strOk (Str.ofString s) = true := by
  rw [Str.ofString_eq_toList]
  unfold PyData.strOk
  rw [Array.all_eq_true]
  intro i hi
  have : (s.toList.map Char.toNat)[i]'(by simpa using hi) < 0x110000 := by
    rw [List.getElem_map]
    have h := (s.toList[i]'(by simpa using hi)).valid
    have h2 : ∀ n : Nat, n.isValidChar → n < 0x110000 := fun n h => h.elim (fun h => by omega) fun h => h.2
    exact h2 _ h
  simpa using this
theorem Sh.lit {n : Nat} {w : String} : Sh n (.str (Str.ofString w)) := .str (strOk_of w)
theorem Sh.tup {n : Nat} {ds : List D} (h : ∀ d ∈ ds, Sh n d) : Sh (n + 1) (.tuple ds) := ⟨by simp only [PyData.canLay0]; exact canLayAll0_of fun d hd => (h d hd).c, by simp only [PyData.depth]; exact Nat.succ_le_succ (depthAll_of fun d hd => (h d hd).d)⟩
theorem Sh.list {n : Nat} {ds : List D} (h : ∀ d ∈ ds, Sh n d) : Sh (n + 1) (.list ds) := ⟨by simp only [PyData.canLay0]; exact canLayAll0_of fun d hd => (h d hd).c, by simp only [PyData.depth]; exact Nat.succ_le_succ (depthAll_of fun d hd => (h d hd).d)⟩
theorem Sh.le {n m : Nat} {d : D} (h : Sh n d) (l : n ≤ m) : Sh m d := ⟨h.c, Nat.le_trans h.d l⟩
theorem Sh.shaped {n : Nat} {d : D} (h : Sh n d) (l : n ≤ 64 := by decide) : SeqAt.shaped d = true := by
  unfold SeqAt.shaped
  rw [h.c, Bool.true_and]
  exact decide_eq_true (Nat.le_trans h.d l)
theorem fEq_shaped {a b : D} (ha : SeqAt.shaped a = true) (hb : SeqAt.shaped b = true) : fEq a b = some (PyData.eqv a b) := by
  have hc : (SeqAt.shaped a = true ∧ SeqAt.shaped b = true) := ⟨ha, hb⟩
  unfold fEq
  split <;> first | rfl | (simp [PyData.eqv]; done) | exact if_pos hc
theorem fEq_refl {a : D} (ha : SeqAt.shaped a = true) : fEq a a = some true := by
  rw [fEq_shaped ha ha, PySem.SeqAt.eqv_refl a (SeqAt.canLay_of_shaped ha)]
theorem x_ifT {c : Tx} {s t : Stx} {ρ : Ev} (h : c ρ = .ok true) : sIf c s t ρ = s ρ := by rw [x_if, h]; rfl
theorem x_ifF {c : Tx} {s t : Stx} {ρ : Ev} (h : c ρ = .ok false) : sIf c s t ρ = t ρ := by rw [x_if, h]; rfl
theorem x_seqN {s t : Stx} {ρ ρ' : Ev} (h : s ρ = .next ρ') : sSeq s t ρ = t ρ' := by rw [x_seq, h]
theorem x_seqR {s t : Stx} {ρ ρ' : Ev} {r : R} (h : s ρ = .ret r ρ') : sSeq s t ρ = .ret r ρ' := by rw [x_seq, h]
/-! ### appending at a place -/
theorem app_item {k : Nat} {ρ : Ev} {q p : Px} {fs : List (List D)} {i : Int} {s : Sx} {d : D} {r : R} (h1 : ρ[k]? = some (some ⟨.own, .list (fs.map .list)⟩)) (h2 : q ρ = .ok ⟨s, .int i⟩) (h0 : 0 ≤ i) (hi : i < fs.length)
    (h3 : p ρ = .ok r) (h4 : ownR r = some d) (h5 : (fs.getD i.toNat []).length < sizeLine) :
    sApp (plI (plN k) q) p ρ = .next (ρ.set k (some ⟨.own, .list ((fs.set i.toNat (fs.getD i.toNat [] ++ [d])).map .list)⟩)) := by
  have hj : i.toNat < fs.length := by omega
  have e1 : ixN (fs.map PyData.list).length i = some i.toNat := by rw [List.length_map]; exact ixN_some h0 hi
  have e2 : (fs.map PyData.list)[i.toNat]? = some (.list (fs.getD i.toNat [])) := by simp [hj]
  rw [x_app, x_plI, x_plN, h1]
  simp only [bind_ok', h2, e1, e2, h3, h4, if_pos h5, x_putE, h1, id]
  rw [← List.map_set]
end Oz

namespace Oz
open PySem PySem.Spec L2
open PyProof.Rows hiding St

section
variable {K : PySem.W.Frag} {E : XK} {Z O H Z' O' H' : Hp} {σ : St} {ρ : Ev} {F F1 G F2 : List Addr} {l : Pl} {v : V} {s : Sx} {nx : St → Hp → Prop} {rt : VK}
/-- a place within a place -/
theorem PlAt.child {hd G0 : List Addr} {xs : List V} {ds : List D} {mk : List D → D} {j : Nat} {d : D} (p : PlAt K Z O H σ ρ F l v s F1 G F2) (eg : G = hd ++ G0) (qs : Owns K Z H xs ds G0) (hj : ds[j]? = some d)
    (reb : ∀ Z' H' ds' F', Same Z Z' → (∀ a ∈ hd, ∀ o, H a = some o → H' a = some o) → ds'.length = ds.length → Owns K Z' H' xs ds' F' → Own K Z' H' v (mk ds') (hd ++ F')) :
    ∃ x F1' G' F2', xs[j]? = some x ∧ PlAt K Z O H σ ρ F ⟨l.i, d, fun y => l.put (mk (ds.set j y))⟩ x s F1' G' F2' := by
  obtain ⟨x, A, Gi, B, h1, h2, h3, h4⟩ := qs.at hj
  refine ⟨x, F1 ++ (hd ++ A), Gi, B ++ F2, h1, ⟨p.slot, p.st, ?_, h3, fun Z' O' H' d' G' ez eo n k q' => ?_⟩⟩
  · rw [p.eq, eg, h2]
    simp
  · have q5 := h4 Z' H' x d' G' ez (fun c hc o h => k c (by
        rcases List.mem_append.mp hc with hc | hc
        · simp [hc]
        · simp [hc]) o h) q'
    rw [set_same h1] at q5
    have qn := reb Z' H' (ds.set j d') _ ez (fun a ha o h => k a (by simp [ha]) o h) (by simp) q5
    have sl := p.back Z' O' H' (mk (ds.set j d')) _ ez eo n (fun c hc o h => k c (by
        rcases List.mem_append.mp hc with hc | hc
        · simp [hc]
        · simp [hc]) o h) qn
    have ee : F1 ++ (hd ++ A) ++ (G' ++ (B ++ F2)) = F1 ++ ((hd ++ (A ++ (G' ++ B))) ++ F2) := by simp
    rw [ee]
    exact sl
/-- the root cell of a place is written: the frame behind -/
theorem PlAt.store {Z2 O2 H2 : Hp} {a0 : Addr} {o : HO} {dn : D} {Gn : List Addr} (pa : PlAt K Z2 O2 H2 σ ρ F l v s F1 G F2) (rl : Rel K Z O H σ ρ F) (n : nov ρ = true) (x : Ext [] Z O H Z2 O2 H2) (g2 : Good Z2 O2 H2) (ha : a0 ∈ G) (fo : fzn o = false)
    (qn : Own K Z2 (upd H2 a0 o) v dn Gn) (ndn : Gn.Nodup) (hn : ∀ c ∈ Gn, c ∈ G ∨ (H c = none ∧ O2 c = none)) (h : SRK K E Z O H σ ρ F nx rt (putE l dn ρ)) : nx σ (upd H2 a0 o) := by
  have rl2 := rl.ext x g2
  obtain ⟨rl3, n3, tr3⟩ := pa.wrote rl2 n ha fo qn ndn fun c hc => (hn c hc).imp id fun z => ⟨(fun w => by
    obtain ⟨o, h, _⟩ := rl.sl.live c w
    rw [z.1] at h
    cases h), z.2⟩
  obtain ⟨d0, hs0⟩ := pa.slot
  unfold putE at h
  rw [hs0] at h
  have tr12 : TrS Z O H σ ρ F Z2 O2 H2 σ ρ F := TrS.ext x
  refine h σ _ Z2 O2 _ rl3 n3 ⟨⟨tr12.tr.z, fun c o hc hn => ?_, tr12.tr.zn, fun c hc => ?_⟩, tr12.o, rfl, fun j d' hj => tr3.brw j d' hj⟩
  · exact tr3.tr.keep c o (tr12.tr.keep c o hc hn) hn
  · rcases List.mem_append.mp hc with hc | hc
    · left; rw [pa.eq]; simp [hc]
    · rcases List.mem_append.mp hc with hc | hc
      · rcases hn c hc with z | z
        · left; rw [pa.eq]; simp [z]
        · right; exact z.1
      · left; rw [pa.eq]; simp [hc]
theorem nodup_mid {A G B G' : List Addr} (h : (A ++ (G ++ B)).Nodup) (n : G'.Nodup) (d : ∀ c ∈ G', c ∉ A ++ (G ++ B)) : (A ++ (G' ++ B)).Nodup := by
  obtain ⟨n1, n2, n3⟩ := List.nodup_append.mp h
  obtain ⟨n4, n5, n6⟩ := List.nodup_append.mp n2
  refine List.nodup_append.mpr ⟨n1, List.nodup_append.mpr ⟨n, n5, fun a ha b hb e => d a ha (by rw [e]; simp [hb])⟩, fun a ha b hb e => ?_⟩
  rcases List.mem_append.mp hb with hb | hb
  · exact d b hb (by rw [← e]; simp [ha])
  · exact n3 a ha b (by simp [hb]) e
end

/-! ### l[p] = e, in a list -/
def sSetI (l : Plx) (p q : Px) : Stx := fun ρ => match q ρ with
  | .bad => .bad
  | .exc c fs => .exc c fs ρ
  | .ok r => (match ownR r with
    | none => .bad
    | some d => (match l ρ with
      | .bad => .bad
      | .exc c fs => .exc c fs ρ
      | .ok l => (match p ρ with
        | .bad => .bad
        | .exc c fs => .exc c fs ρ
        | .ok i => (match l.d, i.d with
          | .list ds, .int k => (match ixN ds.length k with
            | some j => putE l (.list (ds.set j d)) ρ
            | none => .bad)
          | _, _ => .bad))))
section
variable {X : Cx} {E : XK} {a b e : Expr} {l : Plx} {p q : Px} {pos apos cpos : Pos}
theorem s_setI (he : PE X e (tP X.K E q)) (hl : PE X a (tPl X.K E l)) (hp : PE X b (tP X.K E p)) (hg : ∀ {to ti : TE}, PE X a to → PE X b ti → PG X (.Subscript a b apos) (gSub to ti rSetL))
    (hs : swapsWithSole [.Subscript a b apos] e pos.line X.env = pure false := by rfl) (hw : swappedStores [.Subscript a b apos] e X.env = pure none := by rfl)
    (h1 : (assignEach [.Subscript a b apos] X.env).map (·.2) = [assign (.Subscript a b apos) X.env] := by rfl) : PS X (.Assign [.Subscript a b apos] e pos) (tS X.K E (sSetI l p q)) := by
  refine (ps_asg he (hg hl hp) hs hw h1).imp fun D σ H h => ?_
  obtain ⟨Z, O, ρ, F, rl, n, h⟩ := h
  refine ⟨Z, O, ρ, F, rl, ?_⟩
  unfold sSetI at h
  cases e1 : q ρ with
  | bad => rw [e1] at h; exact h.elim
  | exc c fs => rw [e1] at h; exact SRK.exc rl h
  | ok r =>
    rw [e1] at h
    simp only at h
    cases er : ownR r with
    | none => rw [er] at h; exact h.elim
    | some d =>
      rw [er] at h
      simp only at h
      intro y H1 Z1 O1 Gy x1 g1 q1 nd1 fr1
      have rl1 := rl.ext x1 g1
      refine ⟨Z1, O1, ρ, F, rl1, ?_⟩
      cases e2 : l ρ with
      | bad => rw [e2] at h; exact h.elim
      | exc c fs => rw [e2] at h; exact ExcK.ext (SRK.exc rl h) x1
      | ok l0 =>
        rw [e2] at h
        simp only at h
        intro v H2 Z2 O2 s F1 G F2 x2 g2 pa
        have rl2 := rl1.ext x2 g2
        refine ⟨Z2, O2, ρ, F, rl2, ?_⟩
        cases e3 : p ρ with
        | bad => rw [e3] at h; exact h.elim
        | exc c fs => rw [e3] at h; exact ExcK.ext (SRK.exc rl h) (x1.trans0 x2)
        | ok i =>
          rw [e3] at h
          simp only at h
          intro w H3 Z3 O3 Gi x3 g3 q3 nd3 fr3
          have pa3 := pa.ext x3
          obtain ⟨si, di⟩ := i
          cases el : l0.d with
          | list ds =>
            cases di with
            | int k =>
              rw [el] at h
              simp only at h
              cases ei : ixN ds.length k with
              | none => rw [ei] at h; exact h.elim
              | some j =>
                rw [ei] at h
                simp only at h
                have lk := q3.look g3
                cases lk
                have qo := pa3.own
                rw [el] at qo
                obtain ⟨a0, xs, G0, rfl, ha0, qs, eg⟩ := qo.lst_inv
                obtain ⟨hjn, _⟩ : j < ds.length ∧ True := ⟨(ixN_seq ei).2.1, trivial⟩
                obtain ⟨x, A, Gj, B, h1, h2, h3, h4⟩ := qs.at (List.getElem?_eq_getElem hjn)
                have x123 := (x1.trans0 x2).trans0 x3
                obtain ⟨G', qy, cG⟩ := ownR_ok g1 q1 er
                have sG : ∀ c ∈ G', c ∈ Gy := fun c hc => by
                  rcases cG with z | z
                  · rw [z] at hc; exact hc
                  · rw [z] at hc; cases hc
                have nG : G'.Nodup := by
                  rcases cG with z | z
                  · rw [z]; exact nd1
                  · rw [z]; exact List.nodup_nil
                have fG : ∀ c ∈ G', H c = none := fun c hc => (fr1 c (sG c hc)).1.elim id fun z => by cases z
                have oG : ∀ c ∈ G', O3 c = none := fun c hc => by
                  obtain ⟨o, hy, _⟩ := qy.live c hc
                  cases w : O3 c with
                  | none => rfl
                  | some o' =>
                    rcases (x2.trans0 x3).on c (by rw [w]; simp) with z | z | z
                    · exact absurd (fr1 c (sG c hc)).2 z
                    · rw [hy] at z; cases z
                    · cases z
                have nF := rl.nd
                rw [pa3.eq, eg] at nF
                have nGG : (a0 :: G0).Nodup := (List.nodup_append.mp (List.nodup_append.mp nF).2.1).1
                have aG0 : a0 ∉ G0 := (List.nodup_cons.mp nGG).1
                have inF : ∀ c ∈ a0 :: G0, c ∈ F := fun c hc => by rw [pa3.eq, eg]; simp only [List.mem_append]; exact .inr (.inl hc)
                have dF : ∀ c ∈ G', c ∉ F := fun c hc z => by
                  obtain ⟨o, hy, _⟩ := rl.sl.live c z
                  rw [fG c hc] at hy
                  cases hy
                refine ⟨a0, xs, k, j, rfl, rfl, ha0, by rw [qs.length]; exact ei, ?_⟩
                have kp : ∀ c, c ≠ a0 → ∀ o, H3 c = some o → upd H3 a0 (.lst (xs.set j y)) c = some o := fun c hc o h => by rw [upd_ne hc]; exact h
                have qn : Own X.K Z3 (upd H3 a0 (.lst (xs.set j y))) (.ref a0) (.list (ds.set j d)) (a0 :: (A ++ (G' ++ B))) := by
                  refine .lst upd_same (h4 Z3 _ y d G' (Same.refl _) (fun c hc o h => kp c (fun z => aG0 (by rw [h2, ← z]; rcases List.mem_append.mp hc with hc | hc <;> simp [hc])) o h) ?_)
                  exact Own.mono (x2.z.trans x3.z) (fun c hc o h => kp c (fun z => dF c hc (inF c (by rw [z]; simp))) o (x3.h _ _ (x2.h _ _ h))) qy
                refine pa3.store rl n x123 g3 (a0 := a0) (by rw [eg]; simp) rfl qn ?_ (fun c hc => ?_) h
                · refine List.nodup_cons.mpr ⟨fun z => ?_, nodup_mid (G := Gj) (by rw [← h2]; exact (List.nodup_cons.mp nGG).2) nG fun c hc z => dF c hc (inF c (by rw [h2]; exact List.mem_cons_of_mem _ z))⟩
                  rcases List.mem_append.mp z with z | z
                  · exact aG0 (by rw [h2]; simp [z])
                  · rcases List.mem_append.mp z with z | z
                    · exact dF a0 z (inF a0 (by simp))
                    · exact aG0 (by rw [h2]; simp [z])
                · rcases List.mem_cons.mp hc with z | z
                  · left; rw [eg, z]; simp
                  · rcases List.mem_append.mp z with z | z
                    · left; rw [eg, h2]; simp [z]
                    · rcases List.mem_append.mp z with z | z
                      · right; exact ⟨fG c z, oG c z⟩
                      · left; rw [eg, h2]; simp [z]
            | _ => rw [el] at h; exact h.elim
          | _ => rw [el] at h; exact h.elim
end
end Oz

namespace Oz
open PySem PySem.Spec L2
open PyProof.Rows hiding St

/-! ### dicts -/
def keyOf : D → Option Key
  | .int i => some (.inl i)
  | .str x => some (.inr x)
  | _ => none
theorem keyOf_kd (k : Key) : keyOf (kd k) = some k := by cases k <;> rfl
def isDct (es : List (D × D)) : Bool := es.all fun e => (keyOf e.1).isSome
def lkD (k : Key) : List (D × D) → Option D
  | [] => none
  | (a, d) :: r => if keyOf a = some k then some d else lkD k r
def noD (k : Key) (es : List (D × D)) : Bool := es.all fun e => decide (¬ keyOf e.1 = some k)
def ukD (k : Key) : List (D × D) → Bool
  | [] => true
  | (a, _) :: r => if keyOf a = some k then noD k r else ukD k r
def ptD (k : Key) (d : D) : List (D × D) → List (D × D)
  | [] => [(kd k, d)]
  | (a, x) :: r => if keyOf a = some k then (a, d) :: r else (a, x) :: ptD k d r
theorem noD_val {k : Key} : ∀ {kvs : List (Key × V)} {es : List (D × D)}, es.map (·.1) = kvs.map (fun p => kd p.1) → noD k es = true → ∀ p ∈ kvs, ¬ p.1 = k
  | [], [], _, _ => fun p hp => by cases hp
  | (k1, v) :: kvs, (a, d) :: es, h, n => by
    simp only [List.map_cons, List.cons.injEq] at h
    obtain ⟨h1, h2⟩ := h
    unfold noD at n
    rw [List.all_cons] at n
    obtain ⟨n1, n2⟩ := Bool.and_eq_true_iff.mp n
    intro p hp
    rcases List.mem_cons.mp hp with z | z
    · rw [z]
      have := of_decide_eq_true n1
      rw [h1, keyOf_kd] at this
      exact fun e => this (by rw [show k1 = k from e])
    · exact noD_val h2 n2 p z
  | [], _ :: _, h, _ => by simp at h
  | _ :: _, [], h, _ => by simp at h
theorem lk_none {k : Key} : ∀ {kvs : List (Key × V)} {es : List (D × D)}, es.map (·.1) = kvs.map (fun p => kd p.1) → lkD k es = none → valV kvs k = none
  | [], [], _, _ => rfl
  | (k1, v) :: kvs, (a, d) :: es, h, n => by
    simp only [List.map_cons, List.cons.injEq] at h
    obtain ⟨h1, h2⟩ := h
    unfold lkD at n
    by_cases c : keyOf a = some k
    · rw [if_pos c] at n; cases n
    · rw [if_neg c] at n
      have hk : ¬ k1 = k := fun e => c (by rw [h1, keyOf_kd]; exact congrArg some e)
      rw [valV_neg (p := (k1, v)) hk]
      exact lk_none h2 n
  | [], _ :: _, h, _ => by simp at h
  | _ :: _, [], h, _ => by simp at h
theorem map_id_of {k : Key} {y : V} : ∀ {kvs : List (Key × V)}, (∀ p ∈ kvs, ¬ p.1 = k) → kvs.map (fun kv => if kv.1 = k then (kv.1, y) else kv) = kvs
  | [], _ => rfl
  | p :: kvs, h => by
    rw [List.map_cons, if_neg (h p (by simp)), map_id_of fun q hq => h q (by simp [hq])]
theorem lk_some {k : Key} : ∀ {kvs : List (Key × V)} {es : List (D × D)} {d : D}, es.map (·.1) = kvs.map (fun p => kd p.1) → lkD k es = some d →
    ∃ j x, valV kvs k = some x ∧ (kvs.map (·.2))[j]? = some x ∧ (es.map (·.2))[j]? = some d ∧
      (ukD k es = true → ∀ (y : V) (d' : D), (kvs.map (fun kv => if kv.1 = k then (kv.1, y) else kv)).map (·.2) = (kvs.map (·.2)).set j y ∧ (ptD k d' es).map (·.2) = (es.map (·.2)).set j d' ∧ (ptD k d' es).map (·.1) = (kvs.map (fun kv => if kv.1 = k then (kv.1, y) else kv)).map (fun p => kd p.1))
  | [], [], _, _, h => by simp [lkD] at h
  | (k1, v) :: kvs, (a, d0) :: es, d, h, n => by
    simp only [List.map_cons, List.cons.injEq] at h
    obtain ⟨h1, h2⟩ := h
    unfold lkD at n
    by_cases c : keyOf a = some k
    · rw [if_pos c] at n
      cases n
      have hk : k1 = k := by
        have := c
        rw [h1, keyOf_kd] at this
        exact Option.some.inj this
      refine ⟨0, v, valV_pos (p := (k1, v)) hk, rfl, rfl, fun u y d' => ?_⟩
      unfold ukD at u
      rw [if_pos c] at u
      unfold ptD
      rw [if_pos c]
      rw [List.map_cons, if_pos hk, map_id_of (noD_val h2 u)]
      refine ⟨rfl, rfl, ?_⟩
      rw [List.map_cons, List.map_cons, h1, h2]
    · rw [if_neg c] at n
      have hk : ¬ k1 = k := fun e => c (by rw [h1, keyOf_kd]; exact congrArg some e)
      obtain ⟨j, x, e1, e2, e3, e4⟩ := lk_some h2 n
      refine ⟨j + 1, x, by rw [valV_neg (p := (k1, v)) hk]; exact e1, by simpa using e2, by simpa using e3, fun u y d' => ?_⟩
      unfold ukD at u
      rw [if_neg c] at u
      obtain ⟨f1, f2, f3⟩ := e4 u y d'
      unfold ptD
      rw [if_neg c, List.map_cons, if_neg hk]
      refine ⟨?_, ?_, ?_⟩
      · rw [List.map_cons, f1, List.map_cons, List.set_cons_succ]
      · rw [List.map_cons, f2, List.map_cons, List.set_cons_succ]
      · rw [List.map_cons, f3, List.map_cons, h1]
  | [], _ :: _, _, h, _ => by simp at h
  | _ :: _, [], _, h, _ => by simp at h
theorem pt_new {k : Key} {d : D} : ∀ {es : List (D × D)}, lkD k es = none → ptD k d es = es ++ [(kd k, d)]
  | [], _ => rfl
  | (a, x) :: es, h => by
    unfold lkD at h
    unfold ptD
    by_cases c : keyOf a = some k
    · rw [if_pos c] at h; cases h
    · rw [if_neg c] at h
      rw [if_neg c, pt_new h]
      rfl
section
variable {K : PySem.W.Frag} {Z O H : Hp} {v : V}
theorem Own.dct_inv {es : List (D × D)} {G : List Addr} (q : Own K Z H v (.dict es) G) (hd : isDct es = true) : ∃ a kvs G0, v = .ref a ∧ H a = some (.dK kvs) ∧ es.map (·.1) = kvs.map (fun p => kd p.1) ∧ Owns K Z H (kvs.map (·.2)) (es.map (·.2)) G0 ∧ G = a :: G0 := by
  cases q with
  | imm r p => cases p
  | dct h e r => exact ⟨_, _, _, rfl, h, e, r, rfl⟩
  | obj h h2 c e r => simp [isDct, keyOf] at hd
theorem Rep.dct_inv {C : Hp} {es : List (D × D)} (q : Rep K C v (.dict es)) (hd : isDct es = true) : ∃ a kvs, v = .ref a ∧ C a = some (.dK kvs) ∧ es.map (·.1) = kvs.map (fun p => kd p.1) ∧ Reps K C (kvs.map (·.2)) (es.map (·.2)) := by
  cases q with
  | scr h r => simp [isDct, keyOf] at hd
  | dct h e r => exact ⟨_, _, rfl, h, e, r⟩
  | obj h c e r => simp [isDct, keyOf] at hd
theorem key_kV {k : Key} {d : D} {C : Hp} (h : keyOf d = some k) (r : Rep K C v d) : v = kV k := by
  cases r with
  | int i => cases h; rfl
  | str x => cases h; rfl
  | _ => cases h
end
/-- d[k], looked at -/
def keyR (a b : R) : Res R := match a.d, keyOf b.d with
  | .dict es, some k => if isDct es = true then (match lkD k es with
    | some d => .ok (sub a.s d)
    | none => .bad) else .bad
  | _, _ => .bad
theorem o_key {K : PySem.W.Frag} : Op2 K (fun x y H Q => ∃ a v, x = .ref a ∧ DGet H a y (some v) ∧ Q v H) keyR := by
  intro E Z O H x y a b F G Q g ra rb nd fo q
  obtain ⟨s, d⟩ := a
  obtain ⟨t, k0⟩ := b
  have lb := rb.look g
  cases d with
  | dict es =>
    have q2 : ResK K E (F ++ G) Z O H (match keyOf k0 with | some k => (if isDct es = true then (match lkD k es with | some d => .ok (sub s d) | none => .bad) else .bad) | none => .bad) Q := by
      unfold keyR at q
      simp only at q
      cases e : keyOf k0 with
      | none => rw [e] at q; exact q
      | some k => rw [e] at q; exact q
    cases e : keyOf k0 with
    | none => rw [e] at q2; exact q2.elim
    | some k =>
      rw [e] at q2
      simp only at q2
      by_cases c : isDct es = true
      · rw [if_pos c] at q2
        have la := ra.look g
        obtain ⟨p, kvs, ev, hp, hk, hr⟩ := la.dct_inv c
        cases e2 : lkD k es with
        | none => rw [e2] at q2; exact q2.elim
        | some d =>
          rw [e2] at q2
          obtain ⟨j, x, e3, e4, e5, _⟩ := lk_some hk e2
          obtain ⟨x', e6, rx⟩ := hr.get e5
          rw [e4] at e6
          cases e6
          refine ⟨p, x, ev, ?_, ?_⟩
          · rw [key_kV e lb, ← e3]
            exact DGet.k hp
          · refine OkK.sub g q2 rx (fun es1 => ?_) fun es1 => ?_
            · subst es1
              have r0 : Rep K Z _ (.dict es) := ra.1
              obtain ⟨p', kvs', ev', hp', hk', hr'⟩ := r0.dct_inv c
              rw [ev] at ev'
              cases ev'
              have := g.zh _ _ hp'
              rw [hp] at this
              cases this
              obtain ⟨x', e7, rx'⟩ := hr'.get e5
              rw [e4] at e7
              cases e7
              exact rx'
            · subst es1
              have r0 : Rep K O _ (.dict es) := ra.1
              obtain ⟨p', kvs', ev', hp', hk', hr'⟩ := r0.dct_inv c
              rw [ev] at ev'
              cases ev'
              have := g.oh _ _ hp'
              rw [hp] at this
              cases this
              obtain ⟨x', e7, rx'⟩ := hr'.get e5
              rw [e4] at e7
              cases e7
              exact rx'
      · rw [if_neg c] at q2; exact q2.elim
  | _ => exact q.elim
section
variable {X : Cx} {E : XK} {a b e : Expr} {l : Plx} {p q : Px} {pos apos : Pos}
theorem s_key (hu : X.A.units + 64 < cLine) (ha : PE X a (tP X.K E p)) (hb : PE X b (tP X.K E q)) (hs : NoSl b := by exact fun _ _ => rfl) : PE X (.Subscript a b pos) (tP X.K E (p2 keyR p q)) :=
  (pe_dget (by omega) ha hb hs).imp fun σ H Q h => tP_op2 o_key h
/-- the place of a key -/
def plK (l : Plx) (p : Px) : Plx := fun ρ => (l ρ).bind fun l => (p ρ).bind fun r => match l.d, keyOf r.d with
  | .dict es, some k => if isDct es = true ∧ ukD k es = true then (match lkD k es with
    | some d => .ok ⟨l.i, d, fun y => l.put (.dict (ptD k y es))⟩
    | none => .bad) else .bad
  | _, _ => .bad
theorem zip_mk : ∀ es : List (D × D), (es.map (·.1)).zip (es.map (·.2)) = es
  | [] => rfl
  | (a, b) :: es => by rw [List.map_cons, List.map_cons, List.zip_cons_cons, zip_mk es]
theorem ptD_zip {k : Key} {es : List (D × D)} {j : Nat} {d : D} {kvs : List (Key × V)} (hk : es.map (·.1) = kvs.map (fun p => kd p.1)) (h : ∀ (y : V) (d' : D), (kvs.map (fun kv => if kv.1 = k then (kv.1, y) else kv)).map (·.2) = (kvs.map (·.2)).set j y ∧ (ptD k d' es).map (·.2) = (es.map (·.2)).set j d' ∧ (ptD k d' es).map (·.1) = (kvs.map (fun kv => if kv.1 = k then (kv.1, y) else kv)).map (fun p => kd p.1)) (d' : D) :
    ptD k d' es = ((es.map (·.1)).zip ((es.map (·.2)).set j d')) := by
  obtain ⟨_, h2, h3⟩ := h .non d'
  have e1 : (kvs.map (fun kv => if kv.1 = k then (kv.1, V.non) else kv)).map (fun p => kd p.1) = kvs.map (fun p => kd p.1) := by
    rw [List.map_map]
    refine List.map_congr_left fun p _ => ?_
    show kd (if p.1 = k then (p.1, V.non) else p).1 = kd p.1
    by_cases c : p.1 = k
    · rw [if_pos c]
    · rw [if_neg c]
  rw [e1, ← hk] at h3
  rw [← h2, ← h3, zip_mk]
theorem zip_fst : ∀ {as bs : List D}, as.length = bs.length → (as.zip bs).map (·.1) = as ∧ (as.zip bs).map (·.2) = bs
  | [], [], _ => ⟨rfl, rfl⟩
  | a :: as, b :: bs, h => by
    obtain ⟨h1, h2⟩ := zip_fst (as := as) (bs := bs) (by simpa using h)
    exact ⟨by rw [List.zip_cons_cons, List.map_cons, h1], by rw [List.zip_cons_cons, List.map_cons, h2]⟩
  | [], _ :: _, h => by simp at h
  | _ :: _, [], h => by simp at h
theorem PlAt.key {K : PySem.W.Frag} {Z O H : Hp} {σ : St} {ρ : Ev} {F F1 G F2 : List Addr} {l : Pl} {v : V} {s : Sx} {es : List (D × D)} {k : Key} {d : D} (pa : PlAt K Z O H σ ρ F l v s F1 G F2) (e : l.d = .dict es) (hd : isDct es = true) (hu : ukD k es = true) (h : lkD k es = some d) :
    ∃ a kvs x F1' G' F2', v = .ref a ∧ H a = some (.dK kvs) ∧ valV kvs k = some x ∧ PlAt K Z O H σ ρ F ⟨l.i, d, fun y => l.put (.dict (ptD k y es))⟩ x s F1' G' F2' := by
  have q := pa.own
  rw [e] at q
  obtain ⟨a, kvs, G0, rfl, ha, hk, qs, eg⟩ := q.dct_inv hd
  obtain ⟨j, x, e1, e2, e3, e4⟩ := lk_some hk h
  obtain ⟨x', F1', G', F2', e5, pb⟩ := pa.child (hd := [a]) (mk := fun ds => .dict ((es.map (·.1)).zip ds)) eg qs e3 fun Z' H' ds' F' ez kp hl q' => by
    obtain ⟨z1, z2⟩ := zip_fst (as := es.map (·.1)) (bs := ds') (by rw [hl, List.length_map, List.length_map])
    exact .dct (kp a (by simp) _ ha) (by rw [z1]; exact hk) (by rw [z2]; exact q')
  rw [e2] at e5
  cases e5
  refine ⟨a, kvs, x, F1', G', F2', rfl, ha, e1, ?_⟩
  have ee : (fun y => l.put (.dict (ptD k y es))) = fun y => l.put (.dict ((es.map (·.1)).zip ((es.map (·.2)).set j y))) := by
    funext y
    rw [ptD_zip (d := d) hk (e4 hu) y]
  rw [ee]
  exact pb
theorem s_plK (hu : X.A.units + 64 < cLine) (ha : PE X a (tPl X.K E l)) (hb : PE X b (tP X.K E p)) (hs : NoSl b := by exact fun _ _ => rfl) : PE X (.Subscript a b pos) (tPl X.K E (plK l p)) := by
  refine (pe_dget (by omega) ha hb hs).imp fun σ H Q h => ?_
  obtain ⟨Z, O, ρ, F, rl, h⟩ := h
  refine ⟨Z, O, ρ, F, rl, ?_⟩
  unfold plK at h
  cases e : l ρ with
  | bad => rw [e] at h; exact h.elim
  | exc c fs => rw [e] at h; exact h
  | ok l0 =>
    rw [e] at h
    simp only [Res.bind_ok] at h
    intro v H1 Z1 O1 s F1 G F2 x1 g1 pa
    have rl1 := rl.ext x1 g1
    refine ⟨Z1, O1, ρ, F, rl1, ?_⟩
    cases e2 : p ρ with
    | bad => rw [e2] at h; exact h.elim
    | exc c fs => rw [e2] at h; exact ExcK.ext h x1
    | ok r =>
      rw [e2] at h
      simp only [Res.bind_ok] at h
      intro y H2 Z2 O2 G2 x2 g2 q2 nd2 fr2
      have pa2 := pa.ext x2
      cases el : l0.d with
      | dict es =>
        cases ek : keyOf r.d with
        | none => rw [el, ek] at h; exact h.elim
        | some k =>
          rw [el, ek] at h
          simp only at h
          by_cases c : isDct es = true ∧ ukD k es = true
          · rw [if_pos c] at h
            cases ed : lkD k es with
            | none => rw [ed] at h; exact h.elim
            | some d =>
              rw [ed] at h
              obtain ⟨a', kvs, x', F1', G', F2', ev, ha', hx, pb⟩ := pa2.key el c.1 c.2 ed
              refine ⟨a', x', ev, ?_, h x' H2 Z2 O2 s F1' G' F2' (x1.trans0 x2) g2 pb⟩
              rw [key_kV ek (q2.look g2), ← hx]
              exact DGet.k ha'
          · rw [if_neg c] at h; exact h.elim
      | _ => rw [el] at h; cases ek : keyOf r.d <;> rw [ek] at h <;> exact h.elim
/-- l[k] = e, in a dict -/
def sPut (l : Plx) (p q : Px) : Stx := fun ρ => match q ρ with
  | .bad => .bad
  | .exc c fs => .exc c fs ρ
  | .ok r => (match ownR r with
    | none => .bad
    | some d => (match l ρ with
      | .bad => .bad
      | .exc c fs => .exc c fs ρ
      | .ok l => (match p ρ with
        | .bad => .bad
        | .exc c fs => .exc c fs ρ
        | .ok i => (match l.d, keyOf i.d with
          | .dict es, some k => if isDct es = true ∧ ukD k es = true ∧ es.length < sizeLine then putE l (.dict (ptD k d es)) ρ else .bad
          | _, _ => .bad))))
theorem s_put (hu : X.A.units + 64 < cLine) (he : PE X e (tP X.K E q)) (hl : PE X a (tPl X.K E l)) (hp : PE X b (tP X.K E p)) (hs : swapsWith e (some (.Subscript a b apos)) pos.line X.env = pure false := by rfl) : PS X (.Assign [.Subscript a b apos] e pos) (tS X.K E (sPut l p q)) := by
  refine (ps_dput (by omega) hl hp he hs).imp fun D σ H h => ?_
  obtain ⟨Z, O, ρ, F, rl, n, h⟩ := h
  refine ⟨Z, O, ρ, F, rl, ?_⟩
  unfold sPut at h
  cases e1 : q ρ with
  | bad => rw [e1] at h; exact h.elim
  | exc c fs => rw [e1] at h; exact SRK.exc rl h
  | ok r =>
    rw [e1] at h
    simp only at h
    cases er : ownR r with
    | none => rw [er] at h; exact h.elim
    | some d =>
      rw [er] at h
      simp only at h
      intro y H1 Z1 O1 Gy x1 g1 q1 nd1 fr1
      have rl1 := rl.ext x1 g1
      refine ⟨Z1, O1, ρ, F, rl1, ?_⟩
      cases e2 : l ρ with
      | bad => rw [e2] at h; exact h.elim
      | exc c fs => rw [e2] at h; exact ExcK.ext (SRK.exc rl h) x1
      | ok l0 =>
        rw [e2] at h
        simp only at h
        intro v H2 Z2 O2 s F1 G F2 x2 g2 pa
        have rl2 := rl1.ext x2 g2
        refine ⟨Z2, O2, ρ, F, rl2, ?_⟩
        cases e3 : p ρ with
        | bad => rw [e3] at h; exact h.elim
        | exc c fs => rw [e3] at h; exact ExcK.ext (SRK.exc rl h) (x1.trans0 x2)
        | ok i =>
          rw [e3] at h
          simp only at h
          intro w H3 Z3 O3 Gi x3 g3 q3 nd3 fr3
          have pa3 := pa.ext x3
          cases el : l0.d with
          | dict es =>
            cases ek : keyOf i.d with
            | none => rw [el, ek] at h; exact h.elim
            | some k =>
              rw [el, ek] at h
              simp only at h
              by_cases c : isDct es = true ∧ ukD k es = true ∧ es.length < sizeLine
              · rw [if_pos c] at h
                obtain ⟨c1, c2, c3⟩ := c
                have qo := pa3.own
                rw [el] at qo
                obtain ⟨a0, kvs, G0, rfl, ha0, hk, qs, eg⟩ := qo.dct_inv c1
                have x123 := (x1.trans0 x2).trans0 x3
                obtain ⟨G', qy, cG⟩ := ownR_ok g1 q1 er
                have sG : ∀ c ∈ G', c ∈ Gy := fun c hc => by
                  rcases cG with z | z
                  · rw [z] at hc; exact hc
                  · rw [z] at hc; cases hc
                have nG : G'.Nodup := by
                  rcases cG with z | z
                  · rw [z]; exact nd1
                  · rw [z]; exact List.nodup_nil
                have fG : ∀ c ∈ G', H c = none := fun c hc => (fr1 c (sG c hc)).1.elim id fun z => by cases z
                have oG : ∀ c ∈ G', O3 c = none := fun c hc => by
                  obtain ⟨o, hy, _⟩ := qy.live c hc
                  cases w : O3 c with
                  | none => rfl
                  | some o' =>
                    rcases (x2.trans0 x3).on c (by rw [w]; simp) with z | z | z
                    · exact absurd (fr1 c (sG c hc)).2 z
                    · rw [hy] at z; cases z
                    · cases z
                have nF := rl.nd
                rw [pa3.eq, eg] at nF
                have nGG : (a0 :: G0).Nodup := (List.nodup_append.mp (List.nodup_append.mp nF).2.1).1
                have aG0 : a0 ∉ G0 := (List.nodup_cons.mp nGG).1
                have inF : ∀ c ∈ a0 :: G0, c ∈ F := fun c hc => by rw [pa3.eq, eg]; simp only [List.mem_append]; exact .inr (.inl hc)
                have dF : ∀ c ∈ G', c ∉ F := fun c hc z => by
                  obtain ⟨o, hy, _⟩ := rl.sl.live c z
                  rw [fG c hc] at hy
                  cases hy
                have hlen : kvs.length = es.length := by
                  have := congrArg List.length hk
                  simpa using this.symm
                refine ⟨a0, _, rfl, by rw [key_kV ek (q3.look g3)]; exact DPut.k (k := k) (v := y) ha0 (by rw [hlen]; exact c3), ?_⟩
                have kp : ∀ o', ∀ c, c ≠ a0 → ∀ o, H3 c = some o → upd H3 a0 o' c = some o := fun o' c hc o h => by rw [upd_ne hc]; exact h
                have qy3 : ∀ o', Own X.K Z3 (upd H3 a0 o') y d G' := fun o' => Own.mono (x2.z.trans x3.z) (fun c hc o h => kp o' c (fun z => dF c hc (inF c (by rw [z]; simp))) o (x3.h _ _ (x2.h _ _ h))) qy
                cases ed : lkD k es with
                | some d0 =>
                  obtain ⟨j, x, e4, e5, e6, e7⟩ := lk_some hk ed
                  obtain ⟨f1, f2, f3⟩ := e7 c2 y d
                  obtain ⟨x', A, Gj, B, h1, h2, h3, h4⟩ := qs.at e6
                  have hput : putK kvs k y = kvs.map (fun kv => if kv.1 = k then (kv.1, y) else kv) := by
                    unfold putK
                    rw [valV_any, e4]
                    exact if_pos rfl
                  have qn : Own X.K Z3 (upd H3 a0 (.dK (putK kvs k y))) (.ref a0) (.dict (ptD k d es)) (a0 :: (A ++ (G' ++ B))) := by
                    refine .dct upd_same (by rw [f3, hput]) ?_
                    rw [hput, f1, f2]
                    exact h4 Z3 _ y d G' (Same.refl _) (fun c hc o h => kp _ c (fun z => aG0 (by rw [h2, ← z]; rcases List.mem_append.mp hc with hc | hc <;> simp [hc])) o h) (by rw [← hput]; exact qy3 _)
                  refine pa3.store rl n x123 g3 (a0 := a0) (by rw [eg]; simp) rfl qn ?_ (fun c hc => ?_) h
                  · refine List.nodup_cons.mpr ⟨fun z => ?_, nodup_mid (G := Gj) (by rw [← h2]; exact (List.nodup_cons.mp nGG).2) nG fun c hc z => dF c hc (inF c (by rw [h2]; exact List.mem_cons_of_mem _ z))⟩
                    rcases List.mem_append.mp z with z | z
                    · exact aG0 (by rw [h2]; simp [z])
                    · rcases List.mem_append.mp z with z | z
                      · exact dF a0 z (inF a0 (by simp))
                      · exact aG0 (by rw [h2]; simp [z])
                  · rcases List.mem_cons.mp hc with z | z
                    · left; rw [eg, z]; simp
                    · rcases List.mem_append.mp z with z | z
                      · left; rw [eg, h2]; simp [z]
                      · rcases List.mem_append.mp z with z | z
                        · right; exact ⟨fG c z, oG c z⟩
                        · left; rw [eg, h2]; simp [z]
                | none =>
                  have hv := lk_none hk ed
                  have hput : putK kvs k y = kvs ++ [(k, y)] := putK_new y hv
                  have hpt : ptD k d es = es ++ [(kd k, d)] := pt_new ed
                  have qn : Own X.K Z3 (upd H3 a0 (.dK (putK kvs k y))) (.ref a0) (.dict (ptD k d es)) (a0 :: (G0 ++ G')) := by
                    refine .dct upd_same (by rw [hpt, hput, List.map_append, List.map_append, hk]; rfl) ?_
                    rw [hput, hpt, List.map_append, List.map_append]
                    refine Owns.append (Owns.mono (Same.refl _) (fun c hc o h => kp _ c (fun z => aG0 (z ▸ hc)) o h) qs) (Owns.one ?_)
                    rw [← hput]
                    exact qy3 _
                  refine pa3.store rl n x123 g3 (a0 := a0) (by rw [eg]; simp) rfl qn ?_ (fun c hc => ?_) h
                  · refine List.nodup_cons.mpr ⟨fun z => ?_, List.nodup_append.mpr ⟨(List.nodup_cons.mp nGG).2, nG, fun u hu w hw e => dF w hw (inF w (by rw [← e]; exact List.mem_cons_of_mem _ hu))⟩⟩
                    rcases List.mem_append.mp z with z | z
                    · exact aG0 z
                    · exact dF a0 z (inF a0 (by simp))
                  · rcases List.mem_cons.mp hc with z | z
                    · left; rw [eg, z]; simp
                    · rcases List.mem_append.mp z with z | z
                      · left; rw [eg]; simp [z]
                      · right; exact ⟨fG c z, oG c z⟩
              · rw [if_neg c] at h; exact h.elim
          | _ => rw [el] at h; cases ek : keyOf i.d <;> rw [ek] at h <;> exact h.elim
end
end Oz

namespace Oz
open PySem PySem.Spec L2
open PyProof.Rows hiding St

/-! ### expressions that change the frame: a statement's mirror that returns -/
def MRK (K : PySem.W.Frag) (E : XK) (Z O H : Hp) (σ : St) (ρ : Ev) (F : List Addr) (Q : VK) : SR → Prop
  | .bad => False
  | .next _ => False
  | .ret r ρ' => ∀ v H' Z' O' F' G, Rel K Z' O' H' σ ρ' F' → nov ρ' = true → RepR K Z' O' H' v r G → (F' ++ G).Nodup → (∀ a ∈ G, O' a = none) → Tr Z H F Z' H' (F' ++ G) → TrS Z O H σ ρ F Z' O' H' σ ρ' F' → Q v H'
  | .exc c fs ρ' => ∀ H' Z' O' F' d xs, Rel K Z' O' H' σ ρ' F' → TrS Z O H σ ρ F Z' O' H' σ ρ' F' → H' d = some (.xd xs) → xs.map (·.1) = fs.map (·.1) → Reps K Z' (xs.map (·.2)) (fs.map (·.2)) → E (.ref (He.ga K c)) (some d) H'
def tM (K : PySem.W.Frag) (E : XK) (s : Stx) : TE := fun σ H Q => ∃ Z O ρ F, Rel K Z O H σ ρ F ∧ nov ρ = true ∧ MRK K E Z O H σ ρ F Q (s ρ)
def tMT (K : PySem.W.Frag) (E : XK) (s : Stx) : TT := fun σ H Q => ∃ Z O ρ F, Rel K Z O H σ ρ F ∧ nov ρ = true ∧ match s ρ with
  | .ret ⟨_, .bool b⟩ ρ' => ∀ H' Z' O' F', Rel K Z' O' H' σ ρ' F' → nov ρ' = true → TrS Z O H σ ρ F Z' O' H' σ ρ' F' → Q b H'
  | .exc c fs ρ' => MRK K E Z O H σ ρ F (fun _ _ => True) (.exc c fs ρ')
  | _ => False
section
variable {K : PySem.W.Frag} {E : XK} {Z O H Z1 O1 H1 : Hp} {σ : St} {ρ ρ1 : Ev} {F F1 : List Addr} {Q Q' : VK}
theorem MRK.from {r : SR} (h : MRK K E Z O H σ ρ F Q r) (t : TrS Z O H σ ρ F Z1 O1 H1 σ ρ1 F1) : MRK K E Z1 O1 H1 σ ρ1 F1 Q r := by
  cases r with
  | bad => exact h
  | next ρ' => exact h
  | ret r ρ' => exact fun v H' Z' O' F' G q n w nd fo u u2 => h v H' Z' O' F' G q n w nd fo (t.tr.trans u) (t.trans u2)
  | exc c fs ρ' => exact fun H' Z' O' F' d xs q u hd e1 e2 => h H' Z' O' F' d xs q (t.trans u) hd e1 e2
/-- temporary things are left where they are -/
theorem Tr.sub {Z H Z' H' : Hp} {F F' G : List Addr} (t : Tr Z H F Z' H' (F' ++ G)) : Tr Z H F Z' H' F' := ⟨t.z, t.keep, t.zn, fun a ha => t.fn a (List.mem_append_left _ ha)⟩
def mP (p : Px) : Stx := fun ρ => match p ρ with
  | .bad => .bad
  | .exc c fs => .exc c fs ρ
  | .ok r => .ret r ρ
theorem mP_ok {p : Px} (h : tM K E (mP p) σ H Q) : tP K E p σ H Q := by
  obtain ⟨Z, O, ρ, F, rl, n, h⟩ := h
  refine ⟨Z, O, ρ, F, rl, ?_⟩
  unfold mP at h
  cases e : p ρ with
  | bad => rw [e] at h; exact h.elim
  | exc c fs =>
    rw [e] at h
    exact fun H' Z' O' d xs x g q a b => h H' Z' O' F d xs (rl.ext x g) (TrS.ext x) q a b
  | ok r =>
    rw [e] at h
    intro v H1 Z1 O1 G x1 g1 q nd fr
    have hn : ∀ a ∈ G, H a = none := fun a ha => (fr a ha).1.elim id fun z => by cases z
    refine h v H1 Z1 O1 F G (rl.ext x1 g1) n q ?_ (fun a ha => (fr a ha).2) (Ext.tr x1 hn) (TrS.ext x1)
    exact nodup_fresh rl.nd nd (fun a ha => let ⟨o, z, _⟩ := rl.sl.live a ha; ⟨o, z⟩) hn
/-- then the rest -/
def mBind (s : Stx) (k : R → Stx) : Stx := fun ρ => match s ρ with
  | .ret r ρ' => k r ρ'
  | .exc c fs ρ' => .exc c fs ρ'
  | _ => .bad
theorem mBind_ok {s : Stx} {k : R → Stx} (h : tM K E (mBind s k) σ H Q) {T : V → Hp → Prop}
    (next : ∀ (Z O H1 : Hp) (ρ : Ev) (F G : List Addr) (v : V) (r : R), Rel K Z O H1 σ ρ F → nov ρ = true → RepR K Z O H1 v r G → (F ++ G).Nodup → (∀ a ∈ G, O a = none) → (∀ r', MRK K E Z O H1 σ ρ F Q r' → MRK K E Z O H1 σ ρ F Q r') →
      (∃ Z0 O0 ρ0 F0, MRK K E Z0 O0 H σ ρ0 F0 Q (k r ρ) ∧ Tr Z0 H F0 Z H1 (F ++ G) ∧ TrS Z0 O0 H σ ρ0 F0 Z O H1 σ ρ F) → T v H1) : tM K E s σ H T := by
  obtain ⟨Z, O, ρ, F, rl, n, h⟩ := h
  refine ⟨Z, O, ρ, F, rl, n, ?_⟩
  unfold mBind at h
  cases e : s ρ with
  | bad => rw [e] at h; exact h.elim
  | next ρ' => rw [e] at h; exact h.elim
  | exc c fs ρ' => rw [e] at h; exact h
  | ret r ρ' =>
    rw [e] at h
    intro v H' Z' O' F' G rl' n' q nd fo t ts
    exact next Z' O' H' ρ' F' G v r rl' n' q nd fo (fun _ h => h) ⟨Z, O, ρ, F, h, t, ts⟩
def mAnd (s t : Stx) : Stx := mBind s fun r ρ => match truth r.d with
  | some true => t ρ
  | some false => .ret r ρ
  | none => .bad
def mOr (s t : Stx) : Stx := mBind s fun r ρ => match truth r.d with
  | some true => .ret r ρ
  | some false => t ρ
  | none => .bad
def mNot (s : Stx) : Stx := mBind s fun r ρ => match truth r.d with
  | some b => .ret ⟨.imm, .bool (!b)⟩ ρ
  | none => .bad
theorem mAnd_ok {s t : Stx} (h : tM K E (mAnd s t) σ H Q) : tAndT K (tM K E s) (tM K E t) σ H Q := by
  refine mBind_ok h fun Z O H1 ρ F G v r rl n q nd fo _ ⟨Z0, O0, ρ0, F0, h2, tr, ts⟩ => ?_
  cases e : truth r.d with
  | none => simp only [e] at h2; exact h2.elim
  | some b =>
    refine ⟨b, truth_ok (q.look rl.g) e, ?_⟩
    simp only [e] at h2
    cases b with
    | true => exact ⟨Z, O, ρ, F, rl, n, MRK.from h2 ts⟩
    | false => exact h2 v H1 Z O F G rl n q nd fo tr ts
theorem mOr_ok {s t : Stx} (h : tM K E (mOr s t) σ H Q) : tOrT K (tM K E s) (tM K E t) σ H Q := by
  refine mBind_ok h fun Z O H1 ρ F G v r rl n q nd fo _ ⟨Z0, O0, ρ0, F0, h2, tr, ts⟩ => ?_
  cases e : truth r.d with
  | none => simp only [e] at h2; exact h2.elim
  | some b =>
    refine ⟨b, truth_ok (q.look rl.g) e, ?_⟩
    simp only [e] at h2
    cases b with
    | true => exact h2 v H1 Z O F G rl n q nd fo tr ts
    | false => exact ⟨Z, O, ρ, F, rl, n, MRK.from h2 ts⟩
theorem mNot_ok {s : Stx} (h : tM K E (mNot s) σ H Q) : tNotT K (tM K E s) σ H Q := by
  refine mBind_ok h fun Z O H1 ρ F G v r rl n q nd fo _ ⟨Z0, O0, ρ0, F0, h2, tr, ts⟩ => ?_
  cases e : truth r.d with
  | none => simp only [e] at h2; exact h2.elim
  | some b =>
    refine ⟨b, truth_ok (q.look rl.g) e, ?_⟩
    simp only [e] at h2
    exact h2 _ H1 Z O F [] rl n ⟨.bl _, rfl⟩ (by rw [List.append_nil]; exact rl.nd) (fun a ha => by cases ha) (by rw [List.append_nil]; exact ts.tr) ts
/-- a test -/
def mTru (s : Stx) : Stx := mBind s fun r ρ => match truth r.d with
  | some b => .ret ⟨.imm, .bool b⟩ ρ
  | none => .bad
theorem mTru_ok {s : Stx} {Q : Bool → Hp → Prop} (h : tMT K E (mTru s) σ H Q) : tM K E s σ H fun x H' => ∃ k, TruV K x H' k ∧ Q k H' := by
  obtain ⟨Z, O, ρ, F, rl, n, h⟩ := h
  refine ⟨Z, O, ρ, F, rl, n, ?_⟩
  unfold mTru mBind at h
  cases e : s ρ with
  | bad => rw [e] at h; exact h.elim
  | next ρ' => rw [e] at h; exact h.elim
  | exc c fs ρ' => rw [e] at h; exact h
  | ret r ρ' =>
    rw [e] at h
    simp only at h
    intro v H' Z' O' F' G rl' n' q nd fo t ts
    cases e2 : truth r.d with
    | none => rw [e2] at h; exact h.elim
    | some b =>
      rw [e2] at h
      exact ⟨b, truth_ok (q.look rl'.g) e2, h H' Z' O' F' rl' n' ts⟩
def mTnot (s : Stx) : Stx := fun ρ => match s ρ with
  | .ret ⟨_, .bool b⟩ ρ' => .ret ⟨.imm, .bool (!b)⟩ ρ'
  | .exc c fs ρ' => .exc c fs ρ'
  | _ => .bad
def mTand (s t : Stx) : Stx := fun ρ => match s ρ with
  | .ret ⟨_, .bool b⟩ ρ' => if b = true then t ρ' else .ret ⟨.imm, .bool false⟩ ρ'
  | .exc c fs ρ' => .exc c fs ρ'
  | _ => .bad
def mTor (s t : Stx) : Stx := fun ρ => match s ρ with
  | .ret ⟨_, .bool b⟩ ρ' => if b = true then .ret ⟨.imm, .bool true⟩ ρ' else t ρ'
  | .exc c fs ρ' => .exc c fs ρ'
  | _ => .bad
def mT (t : Tx) : Stx := fun ρ => match t ρ with
  | .bad => .bad
  | .exc c fs => .exc c fs ρ
  | .ok b => .ret ⟨.imm, .bool b⟩ ρ
def mIfE (c s t : Stx) : Stx := fun ρ => match c ρ with
  | .ret ⟨_, .bool b⟩ ρ' => if b = true then s ρ' else t ρ'
  | .exc c fs ρ' => .exc c fs ρ'
  | _ => .bad
theorem mT_ok {t : Tx} {Q : Bool → Hp → Prop} (h : tMT K E (mT t) σ H Q) : tT K E t σ H Q := by
  obtain ⟨Z, O, ρ, F, rl, n, h⟩ := h
  refine ⟨Z, O, ρ, F, rl, ?_⟩
  unfold mT at h
  cases e : t ρ with
  | bad => rw [e] at h; exact h.elim
  | exc c fs =>
    rw [e] at h
    exact fun H' Z' O' d xs x g q a b => h H' Z' O' F d xs (rl.ext x g) (TrS.ext x) q a b
  | ok b =>
    rw [e] at h
    exact fun H' Z' O' x g => h H' Z' O' F (rl.ext x g) n (TrS.ext x)
/-- a test ahead -/
theorem tMT_then {s : Stx} {k : Bool → Ev → SR} {Q : Bool → Hp → Prop} {P : SR → Hp → Hp → Hp → St → Ev → List Addr → Prop}
    {Z O : Hp} (rl : Rel K Z O H σ ρ F) (n : nov ρ = true)
    (h : match s ρ with
      | .ret ⟨_, .bool b⟩ ρ' => ∀ H' Z' O' F', Rel K Z' O' H' σ ρ' F' → nov ρ' = true → TrS Z O H σ ρ F Z' O' H' σ ρ' F' → Q b H'
      | .exc c fs ρ' => MRK K E Z O H σ ρ F (fun _ _ => True) (.exc c fs ρ')
      | _ => False) : tMT K E s σ H Q := ⟨Z, O, ρ, F, rl, n, h⟩
theorem mTnot_ok {s : Stx} {Q : Bool → Hp → Prop} (h : tMT K E (mTnot s) σ H Q) : tNot (tMT K E s) σ H Q := by
  obtain ⟨Z, O, ρ, F, rl, n, h⟩ := h
  refine ⟨Z, O, ρ, F, rl, n, ?_⟩
  unfold mTnot at h
  cases e : s ρ with
  | bad => rw [e] at h; exact h.elim
  | next ρ' => rw [e] at h; exact h.elim
  | exc c fs ρ' => rw [e] at h; exact h
  | ret r ρ' =>
    rw [e] at h
    obtain ⟨sx, d⟩ := r
    cases d with
    | bool b => exact h
    | _ => exact h.elim
theorem mTand_ok {s t : Stx} {Q : Bool → Hp → Prop} (h : tMT K E (mTand s t) σ H Q) : tAnd (tMT K E s) (tMT K E t) σ H Q := by
  obtain ⟨Z, O, ρ, F, rl, n, h⟩ := h
  refine ⟨Z, O, ρ, F, rl, n, ?_⟩
  unfold mTand at h
  cases e : s ρ with
  | bad => rw [e] at h; exact h.elim
  | next ρ' => rw [e] at h; exact h.elim
  | exc c fs ρ' => rw [e] at h; exact h
  | ret r ρ' =>
    rw [e] at h
    obtain ⟨sx, d⟩ := r
    cases d with
    | bool b =>
      intro H' Z' O' F' rl' n' ts
      cases b with
      | false => exact h H' Z' O' F' rl' n' ts
      | true =>
        refine ⟨Z', O', ρ', F', rl', n', ?_⟩
        simp only [if_true] at h
        cases e2 : t ρ' with
        | bad => rw [e2] at h; exact h.elim
        | next ρ' => rw [e2] at h; exact h.elim
        | exc c fs ρ2 => rw [e2] at h; exact MRK.from h ts
        | ret r2 ρ2 =>
          rw [e2] at h
          obtain ⟨s2, d2⟩ := r2
          cases d2 with
          | bool b2 => exact fun H2 Z2 O2 F2 rl2 n2 ts2 => h H2 Z2 O2 F2 rl2 n2 (ts.trans ts2)
          | _ => exact h.elim
    | _ => exact h.elim
theorem mTor_ok {s t : Stx} {Q : Bool → Hp → Prop} (h : tMT K E (mTor s t) σ H Q) : tOr (tMT K E s) (tMT K E t) σ H Q := by
  obtain ⟨Z, O, ρ, F, rl, n, h⟩ := h
  refine ⟨Z, O, ρ, F, rl, n, ?_⟩
  unfold mTor at h
  cases e : s ρ with
  | bad => rw [e] at h; exact h.elim
  | next ρ' => rw [e] at h; exact h.elim
  | exc c fs ρ' => rw [e] at h; exact h
  | ret r ρ' =>
    rw [e] at h
    obtain ⟨sx, d⟩ := r
    cases d with
    | bool b =>
      intro H' Z' O' F' rl' n' ts
      cases b with
      | true => exact h H' Z' O' F' rl' n' ts
      | false =>
        refine ⟨Z', O', ρ', F', rl', n', ?_⟩
        simp only [if_neg Bool.false_ne_true] at h
        cases e2 : t ρ' with
        | bad => rw [e2] at h; exact h.elim
        | next ρ' => rw [e2] at h; exact h.elim
        | exc c fs ρ2 => rw [e2] at h; exact MRK.from h ts
        | ret r2 ρ2 =>
          rw [e2] at h
          obtain ⟨s2, d2⟩ := r2
          cases d2 with
          | bool b2 => exact fun H2 Z2 O2 F2 rl2 n2 ts2 => h H2 Z2 O2 F2 rl2 n2 (ts.trans ts2)
          | _ => exact h.elim
    | _ => exact h.elim
theorem mIfE_ok {c s t : Stx} (h : tM K E (mIfE c s t) σ H Q) : tIf (tMT K E c) (tM K E s) (tM K E t) σ H Q := by
  obtain ⟨Z, O, ρ, F, rl, n, h⟩ := h
  refine ⟨Z, O, ρ, F, rl, n, ?_⟩
  unfold mIfE at h
  cases e : c ρ with
  | bad => rw [e] at h; exact h.elim
  | next ρ' => rw [e] at h; exact h.elim
  | exc c fs ρ' => rw [e] at h; exact h
  | ret r ρ' =>
    rw [e] at h
    obtain ⟨sx, d⟩ := r
    cases d with
    | bool b =>
      intro H' Z' O' F' rl' n' ts
      cases b with
      | true => exact ⟨Z', O', ρ', F', rl', n', MRK.from h ts⟩
      | false => exact ⟨Z', O', ρ', F', rl', n', MRK.from h ts⟩
    | _ => exact h.elim
end
section
variable {X : Cx} {E : XK} {a b c e : Expr} {p : Px} {t : Tx} {s u w : Stx} {pos : Pos} {rest : List Expr}
theorem m_pure (h : PE X e (tP X.K E p)) : PE X e (tM X.K E (mP p)) := h.imp fun _ _ _ h => mP_ok h
theorem m_tpure (h : PT X e (tT X.K E t)) : PT X e (tMT X.K E (mT t)) := h.imp fun _ _ _ h => mT_ok h
theorem m_one {op} (h : PE X a (tM X.K E s)) : PE X (.BoolOp op [a] pos) (tM X.K E s) := pe_one h
theorem m_and (ha : PE X a (tM X.K E s)) (hb : PE X (.BoolOp .And (b :: rest) pos) (tM X.K E u)) : PE X (.BoolOp .And (a :: b :: rest) pos) (tM X.K E (mAnd s u)) := (pe_andT ha hb).imp fun _ _ _ h => mAnd_ok h
theorem m_or (ha : PE X a (tM X.K E s)) (hb : PE X (.BoolOp .Or (b :: rest) pos) (tM X.K E u)) : PE X (.BoolOp .Or (a :: b :: rest) pos) (tM X.K E (mOr s u)) := (pe_orT ha hb).imp fun _ _ _ h => mOr_ok h
theorem m_not (ha : PE X a (tM X.K E s)) : PE X (.UnaryOp .Not a pos) (tM X.K E (mNot s)) := (pe_notT ha).imp fun _ _ _ h => mNot_ok h
theorem m_if (hc : PT X c (tMT X.K E w)) (ha : PE X a (tM X.K E s)) (hb : PE X b (tM X.K E u)) : PE X (.IfExp c a b pos) (tM X.K E (mIfE w s u)) := (pe_ifExp hc ha hb).imp fun _ _ _ h => mIfE_ok h
theorem m_tru (ha : PE X a (tM X.K E s)) (he : ∀ whole, isTrue a X.env whole = (do let v ← whole; standAt a.pos; holding [v] (truthy v)) := by exact fun _ => rfl) : PT X a (tMT X.K E (mTru s)) := (pt_truth ha he).imp fun _ _ _ h => mTru_ok h
theorem m_tnot (ha : PT X a (tMT X.K E s)) : PT X (.UnaryOp .Not a pos) (tMT X.K E (mTnot s)) := (pt_not ha).imp fun _ _ _ h => mTnot_ok h
theorem m_tand1 (ha : PT X a (tMT X.K E s)) : PW X (.BoolOp .And [a] pos) (tMT X.K E s) := pw_and1 ha
theorem m_tor1 (ha : PT X a (tMT X.K E s)) : PW X (.BoolOp .Or [a] pos) (tMT X.K E s) := pw_or1 ha
theorem m_tand (ha : PT X a (tMT X.K E s)) (hb : PW X (.BoolOp .And (b :: rest) pos) (tMT X.K E u)) : PW X (.BoolOp .And (a :: b :: rest) pos) (tMT X.K E (mTand s u)) := (pw_and ha hb).imp fun _ _ _ h => mTand_ok h
theorem m_tor (ha : PT X a (tMT X.K E s)) (hb : PW X (.BoolOp .Or (b :: rest) pos) (tMT X.K E u)) : PW X (.BoolOp .Or (a :: b :: rest) pos) (tMT X.K E (mTor s u)) := (pw_or ha hb).imp fun _ _ _ h => mTor_ok h
end
end Oz

namespace Oz
open PySem PySem.Spec L2
open PyProof.Rows hiding St

/-! ### statements over such expressions -/
def mRet (s : Stx) : Stx := fun ρ => match s ρ with
  | .ret r ρ' => if storable r = true then .ret r ρ' else .bad
  | .exc c fs ρ' => .exc c fs ρ'
  | _ => .bad
def mAsg (i : Nat) (s : Stx) : Stx := fun ρ => match s ρ with
  | .ret r ρ' => (match setS i r ρ' with
    | some ρ2 => .next ρ2
    | none => .bad)
  | .exc c fs ρ' => .exc c fs ρ'
  | _ => .bad
def mDrop (s : Stx) : Stx := fun ρ => match s ρ with
  | .ret _ ρ' => .next ρ'
  | .exc c fs ρ' => .exc c fs ρ'
  | _ => .bad
def mIf (c s t : Stx) : Stx := fun ρ => match c ρ with
  | .ret ⟨_, .bool b⟩ ρ' => if b = true then s ρ' else t ρ'
  | .exc c fs ρ' => .exc c fs ρ'
  | _ => .bad
section
variable {X : Cx} {E : XK} {e c : Expr} {s t w : Stx} {a b : List Stmt} {pos pos' : Pos} {x : Str}
theorem s_mret (he : PE X e (tM X.K E s)) : PS X (.Return (some e) pos) (tS X.K E (mRet s)) := by
  refine (ps_ret he).imp fun D σ H h => ?_
  obtain ⟨Z, O, ρ, F, rl, n, h⟩ := h
  refine ⟨Z, O, ρ, F, rl, n, ?_⟩
  unfold mRet at h
  cases e : s ρ with
  | bad => rw [e] at h; exact h.elim
  | next ρ' => rw [e] at h; exact h.elim
  | exc c fs ρ' => rw [e] at h; exact fun H' Z' O' F' d xs q u hd e1 e2 => h σ H' Z' O' F' d xs q u hd e1 e2
  | ret r ρ' =>
    rw [e] at h
    simp only at h
    by_cases c : storable r = true
    · rw [if_pos c] at h
      exact fun v H' Z' O' F' G rl' n' q nd fo t ts => h v σ H' Z' O' F' G rl' q nd fo t ts
    · rw [if_neg c] at h; exact h.elim
theorem s_mdrop (he : PE X e (tM X.K E s)) (hs : swapsWith e none pos.line X.env = pure false := by rfl) : PS X (.Expr e pos) (tS X.K E (mDrop s)) := by
  refine (ps_expr he hs).imp fun D σ H h => ?_
  obtain ⟨Z, O, ρ, F, rl, n, h⟩ := h
  refine ⟨Z, O, ρ, F, rl, n, ?_⟩
  unfold mDrop at h
  cases e : s ρ with
  | bad => rw [e] at h; exact h.elim
  | next ρ' => rw [e] at h; exact h.elim
  | exc c fs ρ' => rw [e] at h; exact fun H' Z' O' F' d xs q u hd e1 e2 => h σ H' Z' O' F' d xs q u hd e1 e2
  | ret r ρ' =>
    rw [e] at h
    exact fun v H' Z' O' F' G rl' n' q nd fo t ts => h σ H' Z' O' F' rl' n' ts
theorem s_masg (i : Nat) (hN : X.N.Nodup) (he : PE X e (tM X.K E s)) (hi : X.N[i]? = some x := by rfl) (hx : Loc X.env.scope x := by first | exact Or.inl rfl | exact Or.inr rfl) (hs : swapsWith e (some (.Name x pos')) pos.line X.env = pure false := by rfl)
    (hf : X.fn x = true ∨ X.env.scope.names.lookup x = some .local := by first | exact .inl rfl | exact .inr rfl | assumption) : PS X (.Assign [.Name x pos'] e pos) (tS X.K E (mAsg i s)) := by
  refine (ps_set hN hi hx he hs hf).imp fun D σ H h => ?_
  obtain ⟨Z, O, ρ, F, rl, n, h⟩ := h
  refine ⟨Z, O, ρ, F, rl, n, ?_⟩
  unfold mAsg at h
  cases e : s ρ with
  | bad => rw [e] at h; exact h.elim
  | next ρ' => rw [e] at h; exact h.elim
  | exc c fs ρ' => rw [e] at h; exact fun H' Z' O' F' d xs q u hd e1 e2 => h σ H' Z' O' F' d xs q u hd e1 e2
  | ret r ρ' =>
    rw [e] at h
    simp only at h
    intro v H' Z' O' F' G rl' n' q nd fo t ts
    cases z : setS i r ρ' with
    | none => rw [z] at h; exact h.elim
    | some ρ2 =>
      rw [z] at h
      obtain ⟨n1, n2, n3⟩ := List.nodup_append.mp nd
      obtain ⟨F2, rl2, nv2, sub, ln, bw⟩ := rl'.set n' q n2 (fun a ha hf => n3 a hf a ha rfl) fo z
      refine h _ H' Z' O' F2 rl2 nv2 ⟨⟨t.z, t.keep, t.zn, fun a ha => ?_⟩, ts.o, ln, fun j d hj => ?_⟩
      · rcases sub a ha with y | y
        · exact t.fn a (List.mem_append_left _ y)
        · exact t.fn a (List.mem_append_right _ y)
      · obtain ⟨e1, d1, h1⟩ := ts.brw j d hj
        obtain ⟨e2, d2, h2⟩ := bw j d1 h1
        exact ⟨e2.trans e1, d2, h2⟩
theorem s_mif (hc : PT X c (tMT X.K E w)) (ha : PSs X a (tS X.K E s)) (hb : PSs X b (tS X.K E t)) : PS X (.If c a b pos) (tS X.K E (mIf w s t)) := by
  refine (ps_if hc ha hb).imp fun D σ H h => ?_
  obtain ⟨Z, O, ρ, F, rl, n, h⟩ := h
  refine ⟨Z, O, ρ, F, rl, n, ?_⟩
  unfold mIf at h
  cases e : w ρ with
  | bad => rw [e] at h; exact h.elim
  | next ρ' => rw [e] at h; exact h.elim
  | exc c fs ρ' => rw [e] at h; exact fun H' Z' O' F' d xs q u hd e1 e2 => h σ H' Z' O' F' d xs q u hd e1 e2
  | ret r ρ' =>
    rw [e] at h
    obtain ⟨sx, d⟩ := r
    cases d with
    | bool k =>
      intro H' Z' O' F' rl' n' ts
      cases k with
      | true => exact ⟨Z', O', ρ', F', rl', n', SRK.from h ts⟩
      | false => exact ⟨Z', O', ρ', F', rl', n', SRK.from h ts⟩
    | _ => exact h.elim
end

/-! ### arguments of which one is a name's own thing -/
inductive Ax where
  | p (e : Px)
  | n (j : Nat)
inductive AR where
  | p (r : R)
  | n (j : Nat) (r : R)
def evx : List Ax → Ev → Res (List AR)
  | [], _ => .ok []
  | .p e :: ks, ρ => (e ρ).bind fun r => if r.s = .view then .bad else (evx ks ρ).bind fun rs => .ok (.p r :: rs)
  | .n j :: ks, ρ => (match ρ[j]? with
    | some (some r) => (evx ks ρ).bind fun rs => .ok (.n j r :: rs)
    | _ => .bad)
inductive RepXs (K : PySem.W.Frag) (Z O H : Hp) (σ : St) : List V → List AR → List Addr → Prop
  | nil : RepXs K Z O H σ [] [] []
  | p {v : V} {vs : List V} {r : R} {rs : List AR} {F G : List Addr} : RepR K Z O H v r F → r.s ≠ .view → RepXs K Z O H σ vs rs G → RepXs K Z O H σ (v :: vs) (.p r :: rs) (F ++ G)
  | n {v : V} {vs : List V} {j : Nat} {r : R} {rs : List AR} {G : List Addr} : σ[j]? = some (some v) → RepXs K Z O H σ vs rs G → RepXs K Z O H σ (v :: vs) (.n j r :: rs) G
def tAX (K : PySem.W.Frag) (E : XK) (ks : List Ax) : TA := fun σ H Q => ∃ Z O ρ F, Rel K Z O H σ ρ F ∧ match evx ks ρ with
  | .bad => False
  | .exc c fs => ExcK K E Z O H c fs
  | .ok rs => ∀ vs H' Z' O' G, Ext [] Z O H Z' O' H' → Good Z' O' H' → RepXs K Z' O' H' σ vs rs G → G.Nodup → (∀ a ∈ G, H a = none ∧ O' a = none) → Q vs H'
section
variable {K : PySem.W.Frag} {Z O H Z' O' H' : Hp} {σ : St}
theorem RepXs.ext {W : List Addr} (e : Ext W Z O H Z' O' H') : ∀ {vs : List V} {rs : List AR} {F : List Addr}, RepXs K Z O H σ vs rs F → RepXs K Z' O' H' σ vs rs F
  | _, _, _, .nil => .nil
  | _, _, _, .p r h s => .p (r.ext e) h (RepXs.ext e s)
  | _, _, _, .n h s => .n h (RepXs.ext e s)
theorem RepXs.live : ∀ {vs : List V} {rs : List AR} {F : List Addr}, RepXs K Z O H σ vs rs F → ∀ a ∈ F, ∃ o, H a = some o ∧ fzn o = false
  | _, _, _, .nil, _, h => by cases h
  | _, _, _, .p r _ s, a, h => (List.mem_append.mp h).elim (r.live a) (s.live a)
  | _, _, _, .n _ s, a, h => s.live a h
end
section
variable {X : Cx} {E : XK} {e : Expr} {es : List Expr} {p : Px} {ks : List Ax} {x : Str} {pos : Pos}
theorem x_nil : PA X [] (tAX X.K E []) := by
  refine pa_nil.imp fun σ H Q h => ?_
  obtain ⟨Z, O, ρ, F, r, h⟩ := h
  exact h [] H Z O [] (Ext.refl _ _ _ _) r.g .nil List.nodup_nil fun a ha => by cases ha
theorem x_p (ha : PE X e (tP X.K E p)) (hr : PA X es (tAX X.K E ks)) (hs : starEach (e :: es) X.env = (false, eval e X.env) :: starEach es X.env := by rfl) : PA X (e :: es) (tAX X.K E (.p p :: ks)) := by
  refine (pa_cons ha hr hs).imp fun σ H Q h => ?_
  obtain ⟨Z, O, ρ, F, r, h⟩ := h
  refine ⟨Z, O, ρ, F, r, ?_⟩
  unfold evx at h
  cases z : p ρ with
  | bad => rw [z] at h; exact h.elim
  | exc c fs => rw [z] at h; exact h
  | ok a =>
    rw [z] at h
    simp only [Res.bind_ok] at h
    by_cases hv : a.s = .view
    · rw [if_pos hv] at h; exact h.elim
    · rw [if_neg hv] at h
      intro v H1 Z1 O1 G x1 g1 q1 nd fr
      refine ⟨Z1, O1, ρ, F, r.ext x1 g1, ?_⟩
      cases y : evx ks ρ with
      | bad => rw [y] at h; exact h.elim
      | exc c fs => rw [y] at h; exact ExcK.ext h x1
      | ok rs =>
        rw [y] at h
        simp only [Res.bind_ok] at h
        intro vs H2 Z2 O2 G2 x2 g2 q2 nd2 fr2
        refine h (v :: vs) H2 Z2 O2 (G ++ G2) (x1.trans0 x2) g2 (.p (q1.ext x2) hv q2) (nodup_fresh nd nd2 (fun c hc => let ⟨o, z, _⟩ := q1.live c hc; ⟨o, z⟩) fun c hc => (fr2 c hc).1) fun c hc => ?_
        rcases List.mem_append.mp hc with hc | hc
        · refine ⟨(fr c hc).1.elim id (fun z => by cases z), ?_⟩
          cases z : O2 c with
          | none => rfl
          | some o =>
            obtain ⟨o1, w1, _⟩ := q1.live c hc
            rcases x2.on c (by rw [z]; simp) with y | y | y
            · exact absurd (fr c hc).2 y
            · rw [w1] at y; cases y
            · cases y
        · exact ⟨x1.h.free (fr2 c hc).1, (fr2 c hc).2⟩
theorem x_n (j : Nat) (hr : PA X es (tAX X.K E ks)) (hN : X.N[j]? = some x := by rfl) (hv : Vis X.env.scope x := by first | exact Or.inl rfl | exact Or.inr (Or.inl rfl) | exact Or.inr (Or.inr rfl)) (hd : (x == ("__debug__" : Str)) = false := by decide)
    (hcd : (x == ("__classdict__" : Str)) = false := by decide) (hs : starEach (.Name x pos :: es) X.env = (false, eval (.Name x pos) X.env) :: starEach es X.env := by rfl) : PA X (.Name x pos :: es) (tAX X.K E (.n j :: ks)) := by
  refine (pa_cons (pe_var hN hv hd hcd) hr hs).imp fun σ H Q h => ?_
  obtain ⟨Z, O, ρ, F, r, h⟩ := h
  unfold evx at h
  cases z : ρ[j]? with
  | none => rw [z] at h; exact h.elim
  | some y =>
    cases y with
    | none => rw [z] at h; exact h.elim
    | some a =>
      rw [z] at h
      simp only at h
      obtain ⟨v, h1, G, h2⟩ := r.sl.get z
      refine ⟨v, h1, Z, O, ρ, F, r, ?_⟩
      cases y : evx ks ρ with
      | bad => rw [y] at h; exact h.elim
      | exc c fs => rw [y] at h; exact h
      | ok rs =>
        rw [y] at h
        simp only [Res.bind_ok] at h
        exact fun vs H2 Z2 O2 G2 x2 g2 q2 nd2 fr2 => h (v :: vs) H2 Z2 O2 G2 x2 g2 (.n h1 q2) nd2 fr2
end
/-- the names among them are those of the frame -/
theorem evx_names : ∀ {ks : List Ax} {ρ : Ev} {rs : List AR}, evx ks ρ = .ok rs → ∀ j r, AR.n j r ∈ rs → ρ[j]? = some (some r)
  | [], ρ, rs, h, j, r, m => by cases h; cases m
  | .p e :: ks, ρ, rs, h, j, r, m => by
    unfold evx at h
    cases z : e ρ with
    | bad => rw [z] at h; cases h
    | exc c fs => rw [z] at h; cases h
    | ok a =>
      rw [z] at h
      simp only [Res.bind_ok] at h
      by_cases hv : a.s = .view
      · rw [if_pos hv] at h; cases h
      · rw [if_neg hv] at h
        cases y : evx ks ρ with
        | bad => rw [y] at h; cases h
        | exc c fs => rw [y] at h; cases h
        | ok rs' =>
          rw [y] at h
          cases h
          rcases List.mem_cons.mp m with m | m
          · cases m
          · exact evx_names y j r m
  | .n i :: ks, ρ, rs, h, j, r, m => by
    unfold evx at h
    cases z : ρ[i]? with
    | none => rw [z] at h; cases h
    | some y =>
      cases y with
      | none => rw [z] at h; cases h
      | some a =>
        rw [z] at h
        simp only at h
        cases y : evx ks ρ with
        | bad => rw [y] at h; cases h
        | exc c fs => rw [y] at h; cases h
        | ok rs' =>
          rw [y] at h
          cases h
          rcases List.mem_cons.mp m with m | m
          · cases m; exact z
          · exact evx_names y j r m
end Oz

namespace Oz
open PySem PySem.Spec L2
open PyProof.Rows hiding St

/-! ### a call that changes one thing -/
def xargs (i : Nat) : List Md → List AR → Option (List D)
  | [], [] => some []
  | .m :: md, .n j r :: rs => if j = i then (xargs i md rs).map (r.d :: ·) else none
  | .v :: md, .p r :: rs => (xargs i md rs).map (r.d :: ·)
  | .v :: md, .n j r :: rs => if j = i then none else (xargs i md rs).map (r.d :: ·)
  | .i :: md, .p r :: rs => (match frzR r with
    | some d => (xargs i md rs).map (d :: ·)
    | none => none)
  | .i :: md, .n j r :: rs => if j = i then none else (match frzR r with
    | some d => (xargs i md rs).map (d :: ·)
    | none => none)
  | _, _ => none
def nm : List Md → Nat
  | [] => 0
  | .m :: md => nm md + 1
  | .i :: md => nm md
  | .v :: md => nm md
def isOB (s : Sx) : Bool := match s with
  | .own => true
  | .brw => true
  | _ => false
/-- the frame behind, with what came out -/
def mOut (i : Nat) (s : Sx) (fr : FR) (ρ : Ev) : SR := match fr with
  | .ok r [d'] => .ret r (ρ.set i (some ⟨s, d'⟩))
  | .exc c fs [d'] => .exc c fs (ρ.set i (some ⟨s, d'⟩))
  | _ => .bad
def mCall (f : Fn) (md : List Md) (i : Nat) (ks : List Ax) : Stx := fun ρ => match evx ks ρ with
  | .bad => .bad
  | .exc c fs => .exc c fs ρ
  | .ok rs => (match xargs i md rs with
    | none => .bad
    | some ds => (match ρ[i]? with
      | some (some ⟨s, _⟩) => if isOB s = true ∧ nm md = 1 then mOut i s (f ds) ρ else .bad
      | _ => .bad))
section
variable {K : PySem.W.Frag} {E : XK} {Z O H : Hp} {σ : St} {ρ : Ev} {F : List Addr} {i : Nat} {vi : V} {Gi : List Addr} {d0 : D}
theorem map_some {α β : Type} {f : α → β} {o : Option α} {y : β} (h : o.map f = some y) : ∃ x, o = some x ∧ y = f x := by
  cases o with
  | none => cases h
  | some x => cases h; exact ⟨x, rfl, rfl⟩
/-- everything at the heap without what is changed -/
theorem xargs_ok {W : Hp} (zo : Same Z O) (zw : Same Z W) (ow : Same O W) (tz : ∀ a o, W a = some o → fzn o = true → Z a = some o) (own : Own K Z H vi d0 Gi) (hsi : σ[i]? = some (some vi))
    (hn : ∀ j r, j ≠ i → ρ[j]? = some (some r) → ∃ v Fj, σ[j]? = some (some v) ∧ RepR K Z O W v r Fj) (hi : ∀ r, ρ[i]? = some (some r) → r.d = d0) :
    ∀ {md : List Md} {rs : List AR} {vs : List V} {G : List Addr} {ds : List D}, (∀ a ∈ G, ∀ o, H a = some o → W a = some o) → (∀ j r, AR.n j r ∈ rs → ρ[j]? = some (some r)) → RepXs K Z O H σ vs rs G → xargs i md rs = some ds → nm md ≤ 1 →
      Args K Z W H md vs ds (if nm md = 1 then Gi else []) ∧ vs.length = md.length ∧
      (∀ Z' H' ms Fm, Outs K Z' H' md vs ms Fm → if nm md = 1 then ∃ d', ms = [d'] ∧ Own K Z' H' vi d' Fm else ms = [] ∧ Fm = [])
  | [], [], _, _, _, _, _, .nil, e, _ => by
    cases e
    refine ⟨.nil, rfl, fun _ _ _ _ h => ?_⟩
    cases h
    exact ⟨rfl, rfl⟩
  | .m :: md, .n j r :: rs, _, _, _, kp, nb, .n (v := v) hv q, e, l => by
    unfold xargs at e
    by_cases c : j = i
    · rw [if_pos c] at e
      have c2 := c.symm
      subst c2
      obtain ⟨ds', e1, rfl⟩ := map_some e
      have l0 : nm md = 0 := by unfold nm at l; omega
      obtain ⟨i1, i2, i3⟩ := xargs_ok zo zw ow tz own hsi hn hi kp (fun j r m => nb j r (List.mem_cons_of_mem _ m)) q e1 (by omega)
      rw [if_neg (by omega)] at i1
      have ev : v = vi := by
        rw [hsi] at hv
        exact (Option.some.inj (Option.some.inj hv)).symm
      subst ev
      have ed : r.d = d0 := hi r (nb _ _ (List.mem_cons_self ..))
      have n1 : nm (.m :: md) = 1 := by unfold nm; omega
      rw [n1]
      refine ⟨?_, congrArg (· + 1) i2, fun Z' H' ms Fm h => ?_⟩
      · have := Args.m (ds := ds') own i1
        rw [List.append_nil] at this
        rw [if_pos rfl, ed]
        exact this
      · rw [if_pos rfl]
        cases h with
        | m h1 h2 =>
          have := i3 _ _ _ _ h2
          rw [if_neg (by omega)] at this
          obtain ⟨rfl, rfl⟩ := this
          exact ⟨_, rfl, by rw [List.append_nil]; exact h1⟩
    · rw [if_neg c] at e; cases e
  | .v :: md, .p r :: rs, _, _, _, kp, nb, .p q nv s, e, l => by
    unfold xargs at e
    obtain ⟨ds', e1, rfl⟩ := map_some e
    have n1 : nm (.v :: md) = nm md := rfl
    obtain ⟨i1, i2, i3⟩ := xargs_ok zo zw ow tz own hsi hn hi (fun a ha => kp a (List.mem_append_right _ ha)) (fun j r m => nb j r (List.mem_cons_of_mem _ m)) s e1 l
    rw [n1]
    refine ⟨.v (RepR.look ⟨zo, ow, tz⟩ (q.keep nv (Same.refl _) (Same.refl _) fun a ha => kp a (List.mem_append_left _ ha))) i1, congrArg (· + 1) i2, fun Z' H' ms Fm h => ?_⟩
    cases h with
    | v h => exact i3 _ _ _ _ h
  | .v :: md, .n j r :: rs, _, _, _, kp, nb, .n (v := v) hv s, e, l => by
    unfold xargs at e
    by_cases c : j = i
    · rw [if_pos c] at e; cases e
    · rw [if_neg c] at e
      obtain ⟨ds', e1, rfl⟩ := map_some e
      have n1 : nm (.v :: md) = nm md := rfl
      obtain ⟨i1, i2, i3⟩ := xargs_ok zo zw ow tz own hsi hn hi kp (fun j r m => nb j r (List.mem_cons_of_mem _ m)) s e1 l
      obtain ⟨v', Fj, h1, h2⟩ := hn j r c (nb _ _ (List.mem_cons_self ..))
      rw [hv] at h1
      cases h1
      rw [n1]
      refine ⟨.v (RepR.look ⟨zo, ow, tz⟩ h2) i1, congrArg (· + 1) i2, fun Z' H' ms Fm h => ?_⟩
      cases h with
      | v h => exact i3 _ _ _ _ h
  | .i :: md, .p r :: rs, _, _, _, kp, nb, .p q nv s, e, l => by
    unfold xargs at e
    cases ef : frzR r with
    | none => rw [ef] at e; cases e
    | some d =>
      rw [ef] at e
      obtain ⟨ds', e1, rfl⟩ := map_some e
      have n1 : nm (.i :: md) = nm md := rfl
      obtain ⟨i1, i2, i3⟩ := xargs_ok zo zw ow tz own hsi hn hi (fun a ha => kp a (List.mem_append_right _ ha)) (fun j r m => nb j r (List.mem_cons_of_mem _ m)) s e1 l
      rw [n1]
      refine ⟨.i (frzR_ok ⟨zo, ow, tz⟩ (q.keep nv (Same.refl _) (Same.refl _) fun a ha => kp a (List.mem_append_left _ ha)) ef) i1, congrArg (· + 1) i2, fun Z' H' ms Fm h => ?_⟩
      cases h with
      | i h => exact i3 _ _ _ _ h
  | .i :: md, .n j r :: rs, _, _, _, kp, nb, .n (v := v) hv s, e, l => by
    unfold xargs at e
    by_cases c : j = i
    · rw [if_pos c] at e; cases e
    · rw [if_neg c] at e
      cases ef : frzR r with
      | none => rw [ef] at e; cases e
      | some d =>
        rw [ef] at e
        obtain ⟨ds', e1, rfl⟩ := map_some e
        have n1 : nm (.i :: md) = nm md := rfl
        obtain ⟨i1, i2, i3⟩ := xargs_ok zo zw ow tz own hsi hn hi kp (fun j r m => nb j r (List.mem_cons_of_mem _ m)) s e1 l
        obtain ⟨v', Fj, h1, h2⟩ := hn j r c (nb _ _ (List.mem_cons_self ..))
        rw [hv] at h1
        cases h1
        rw [n1]
        refine ⟨.i (frzR_ok ⟨zo, ow, tz⟩ h2 ef) i1, congrArg (· + 1) i2, fun Z' H' ms Fm h => ?_⟩
        cases h with
        | i h => exact i3 _ _ _ _ h
  | .m :: _, .p _ :: _, _, _, _, _, _, _, e, _ => by cases e
  | [], _ :: _, _, _, _, _, _, _, e, _ => by cases e
  | .m :: _, [], _, _, _, _, _, _, e, _ => by cases e
  | .i :: _, [], _, _, _, _, _, _, e, _ => by cases e
  | .v :: _, [], _, _, _, _, _, _, e, _ => by cases e
end
section
variable {K : PySem.W.Frag} {E : XK}
theorem outer_none {O Z' : Hp} {a : Addr} (h1 : O a = none) (h2 : Z' a = none) : oNew O Z' a = none := by rw [oNew_none h1]; exact h2
/-- behind a call that changed the thing in slot i -/
theorem after_call {Z O H Z' H' : Hp} {σ : St} {ρ : Ev} {F F1 Gi F2 Fm G : List Addr} {i : Nat} {vi : V} {s : Sx} {d d' : D} {md : List Md} {vs : List V} {ms : List D} (rl : Rel K Z O H σ ρ F) (n : nov ρ = true) (ef : F = F1 ++ (Gi ++ F2)) (hsi : σ[i]? = some (some vi)) (hi : ρ[i]? = some (some ⟨s, d⟩)) (hs : isOB s = true)
    (h5 : ∀ (x' : Option V) (y' : Option R) (G' : List Addr) (Z' O' H' : Hp), Same Z Z' → Same O O' → (Same H H' ∨ nov ρ = true) → (∀ a ∈ F1 ++ F2, ∀ o, H a = some o → H' a = some o) → SlotR K Z' O' H' x' y' G' → Slots K Z' O' H' (σ.set i x') (ρ.set i y') (F1 ++ (G' ++ F2)))
    (A : After K md vs Z H Gi ms Z' H' Fm G) (ow : Own K Z' H' vi d' Fm) :
    Rel K Z' (oNew O Z') H' σ (ρ.set i (some ⟨s, d'⟩)) (F1 ++ (Fm ++ F2)) ∧ nov (ρ.set i (some ⟨s, d'⟩)) = true ∧ ((F1 ++ (Fm ++ F2)) ++ G).Nodup ∧ (∀ a ∈ G, oNew O Z' a = none) ∧ Tr Z H F Z' H' ((F1 ++ (Fm ++ F2)) ++ G) ∧ TrS Z O H σ ρ F Z' (oNew O Z') H' σ (ρ.set i (some ⟨s, d'⟩)) (F1 ++ (Fm ++ F2)) := by
  have nF := rl.nd
  rw [ef] at nF
  obtain ⟨n1, n2, n3⟩ := List.nodup_append.mp nF
  obtain ⟨n4, n5, n6⟩ := List.nodup_append.mp n2
  have inG : ∀ a ∈ Gi, a ∈ F := fun a ha => by rw [ef]; simp [ha]
  have in1 : ∀ a ∈ F1, a ∈ F := fun a ha => by rw [ef]; simp [ha]
  have in2 : ∀ a ∈ F2, a ∈ F := fun a ha => by rw [ef]; simp [ha]
  have g1 : ∀ a ∈ F1, a ∉ Gi := fun a ha z => n3 a ha a (List.mem_append_left _ z) rfl
  have g2 : ∀ a ∈ F2, a ∉ Gi := fun a ha z => n6 a z a ha rfl
  have live : ∀ a ∈ F, H a ≠ none := fun a ha z => by
    obtain ⟨o, h, _⟩ := rl.sl.live a ha
    rw [z] at h; cases h
  have zF : ∀ a ∈ F, Z a = none := fun a ha => rl.g.zo.free (rl.fo a ha)
  have hO : Same O H' := fun a o h => by
    refine A.tr.keep a o (rl.g.oh _ _ h) fun z => ?_
    rw [rl.fo a (inG a z)] at h
    cases h
  have zz : ∀ a, a ∈ F → a ∉ Gi → Z' a = none := fun a ha hg => by
    cases w : Z' a with
    | none => rfl
    | some o =>
      rcases A.tr.zn a (by rw [w]; simp) with z | z | z
      · exact absurd (zF a ha) z
      · exact absurd z hg
      · exact absurd z (live a ha)
  have fn1 : ∀ a ∈ Fm ++ G, a ∉ F1 ∧ a ∉ F2 := fun a ha => by
    rcases A.tr.fn a ha with z | z
    · exact ⟨fun y => g1 a y z, fun y => g2 a y z⟩
    · exact ⟨fun y => live a (in1 a y) z, fun y => live a (in2 a y) z⟩
  have oN : ∀ a ∈ Fm ++ G, oNew O Z' a = none := fun a ha => outer_none (by
    rcases A.tr.fn a ha with z | z
    · exact rl.fo a (inG a z)
    · exact none_of rl.g.oh z) (A.zf a ha)
  have sl := h5 (some vi) (some ⟨s, d'⟩) Fm Z' (oNew O Z') H' A.tr.z oNew_same (.inr n) (fun a ha o h => A.tr.keep a o h (by
    rcases List.mem_append.mp ha with ha | ha
    · exact g1 a ha
    · exact g2 a ha)) (by
      cases s with
      | own => exact ow
      | brw => exact ow
      | _ => cases hs)
  rw [set_same hsi] at sl
  obtain ⟨m1, m2, m3⟩ := List.nodup_append.mp A.nd
  have nd2 : ((F1 ++ (Fm ++ F2)) ++ G).Nodup := by
    refine List.nodup_append.mpr ⟨List.nodup_append.mpr ⟨n1, List.nodup_append.mpr ⟨m1, n5, fun a ha b hb e => (fn1 a (List.mem_append_left _ ha)).2 (e ▸ hb)⟩, fun a ha b hb e => ?_⟩, m2, fun a ha b hb e => ?_⟩
    · rcases List.mem_append.mp hb with hb | hb
      · exact (fn1 b (List.mem_append_left _ hb)).1 (e ▸ ha)
      · exact n3 a ha b (List.mem_append_right _ hb) e
    · rcases List.mem_append.mp ha with ha | ha
      · exact (fn1 b (List.mem_append_right _ hb)).1 (e ▸ ha)
      · rcases List.mem_append.mp ha with ha | ha
        · exact m3 a ha b hb e
        · exact (fn1 b (List.mem_append_right _ hb)).2 (e ▸ ha)
  have tr : Tr Z H F Z' H' ((F1 ++ (Fm ++ F2)) ++ G) := by
    refine ⟨A.tr.z, fun a o h hn => A.tr.keep a o h fun z => hn (inG a z), fun a h => (A.tr.zn a h).imp id fun z => z.imp (inG a) id, fun a ha => ?_⟩
    have key : ∀ a ∈ Fm ++ G, a ∈ F ∨ H a = none := fun a ha => (A.tr.fn a ha).imp (inG a) id
    rcases List.mem_append.mp ha with ha | ha
    · rcases List.mem_append.mp ha with ha | ha
      · exact .inl (in1 a ha)
      · rcases List.mem_append.mp ha with ha | ha
        · exact key a (List.mem_append_left _ ha)
        · exact .inl (in2 a ha)
    · exact key a (List.mem_append_right _ ha)
  have nv : nov (ρ.set i (some ⟨s, d'⟩)) = true := nov_set n fun d e => by
    cases e
    cases hs
  refine ⟨⟨oNew_good hO A.zh A.tz, (List.nodup_append.mp nd2).1, fun a ha => ?_, sl⟩, nv, nd2, fun a ha => oN a (List.mem_append_right _ ha), tr, tr.sub, oNew_same, rfl, fun j dj hj => ⟨rfl, ?_⟩⟩
  · rcases List.mem_append.mp ha with ha | ha
    · exact outer_none (rl.fo a (in1 a ha)) (zz a (in1 a ha) (g1 a ha))
    · rcases List.mem_append.mp ha with ha | ha
      · exact oN a (List.mem_append_left _ ha)
      · exact outer_none (rl.fo a (in2 a ha)) (zz a (in2 a ha) (g2 a ha))
  · by_cases ij : i = j
    · subst ij
      rw [hj] at hi
      cases hi
      obtain ⟨hl, _⟩ := List.getElem?_eq_some_iff.mp hj
      exact ⟨d', List.getElem?_set_self hl⟩
    · exact ⟨dj, by rw [List.getElem?_set_ne ij]; exact hj⟩
/-- the promise of a def that changes one thing, at the state behind its arguments -/
theorem spF_call {Z O H : Hp} {σ : St} {ρ : Ev} {F : List Addr} {Q : VK} {f : Fn} {md : List Md} {i : Nat} {rs : List AR} {ds : List D} {vs : List V} {Gt : List Addr} {s : Sx} {d : D} (rl : Rel K Z O H σ ρ F) (n : nov ρ = true) (hnb : ∀ j r, AR.n j r ∈ rs → ρ[j]? = some (some r))
    (q : RepXs K Z O H σ vs rs Gt) (dj : ∀ a ∈ Gt, a ∉ F) (ea : xargs i md rs = some ds) (hi : ρ[i]? = some (some ⟨s, d⟩)) (hs : isOB s = true) (h1 : nm md = 1) (h : MRK K E Z O H σ ρ F Q (mOut i s (f ds) ρ)) : spF K md f vs H Q E := by
  obtain ⟨hl, _⟩ := List.getElem?_eq_some_iff.mp hi
  obtain ⟨x, y, F1, Gi, F2, e1, e2, e3, e4, h5⟩ := rl.sl.focus hl
  rw [hi] at e2
  cases e2
  cases x with
  | none => exact e4.elim
  | some vi =>
    have ow : Own K Z H vi d Gi := by
      cases s with
      | own => exact e4
      | brw => exact e4
      | _ => cases hs
    have inG : ∀ a ∈ Gi, a ∈ F := fun a ha => by rw [e3]; simp [ha]
    have nF := rl.nd
    rw [e3] at nF
    obtain ⟨n1, n2, n3⟩ := List.nodup_append.mp nF
    obtain ⟨n4, n5, n6⟩ := List.nodup_append.mp n2
    have ww : ∀ a o, H a = some o → a ∉ Gi → without H Gi a = some o := fun a o h hn => by unfold without; rw [if_neg hn]; exact h
    have ow' : Same O (without H Gi) := fun a o h => ww a o (rl.g.oh _ _ h) fun z => by rw [rl.fo a (inG a z)] at h; cases h
    have zw' : Same Z (without H Gi) := rl.g.zo.trans ow'
    have tz' : ∀ a o, without H Gi a = some o → fzn o = true → Z a = some o := fun a o h f => rl.g.tz a o (without_some h).1 f
    have sw := h5 none none [] Z O (without H Gi) (Same.refl _) (Same.refl _) (.inr n) (fun a ha o h => ww a o h (by
      rcases List.mem_append.mp ha with ha | ha
      · exact fun z => n3 a ha a (List.mem_append_left _ z) rfl
      · exact fun z => n6 a z a ha rfl)) rfl
    obtain ⟨i1, i2, i3⟩ := xargs_ok (K := K) rl.g.zo zw' ow' tz' ow e1 (fun j r hj hr => by
      obtain ⟨v, hv, Fj, q⟩ := sw.get (i := j) (r := r) (by rw [List.getElem?_set_ne (fun z => hj z.symm)]; exact hr)
      rw [List.getElem?_set_ne (fun z => hj z.symm)] at hv
      exact ⟨v, Fj, hv, q⟩) (fun r hr => by rw [hi] at hr; cases hr; rfl) (md := md) (rs := rs) (vs := vs) (fun a ha o h => ww a o h fun z => dj a ha (inG a z)) hnb q ea (by omega)
    rw [if_pos h1] at i1
    refine ⟨i2, Z, ds, Gi, rl.g.zh, rl.g.tz, i1, n4, fun a ha => rl.g.zo.free (rl.fo a (inG a ha)), ?_⟩
    unfold mOut at h
    cases ef : f ds with
    | bad => rw [ef] at h; exact h.elim
    | ok r ms =>
      rw [ef] at h
      match ms, h with
      | [], h => exact h.elim
      | _ :: _ :: _, h => exact h.elim
      | [d'], h =>
        intro v H' Z' Fm G A t rr
        have o1 := i3 _ _ _ _ A.outs
        rw [if_pos h1] at o1
        obtain ⟨d2, ed, ow2⟩ := o1
        cases ed
        obtain ⟨rl', nv', nd', fo', tr', ts'⟩ := after_call rl n e3 e1 hi hs h5 A ow2
        exact h v H' Z' (oNew O Z') _ G rl' nv' (RetR.move rr t) nd' fo' tr' ts'
    | exc c fs ms =>
      rw [ef] at h
      match ms, h with
      | [], h => exact h.elim
      | _ :: _ :: _, h => exact h.elim
      | [d'], h =>
        intro H' Z' Fm d0 xs A hd ek rk
        have o1 := i3 _ _ _ _ A.outs
        rw [if_pos h1] at o1
        obtain ⟨d2, ed, ow2⟩ := o1
        cases ed
        obtain ⟨rl', nv', nd', fo', tr', ts'⟩ := after_call rl n e3 e1 hi hs h5 A ow2
        exact h H' Z' (oNew O Z') _ d0 xs rl' ts' hd ek rk
theorem mCall_ok {σ : St} {H : Hp} {Q : VK} {f : Fn} {md : List Md} {i : Nat} {ks : List Ax} (h : tM K E (mCall f md i ks) σ H Q) : tAX K E ks σ H fun vs H1 => spF K md f vs H1 Q E := by
  obtain ⟨Z, O, ρ, F, rl, n, h⟩ := h
  refine ⟨Z, O, ρ, F, rl, ?_⟩
  unfold mCall at h
  cases e : evx ks ρ with
  | bad => rw [e] at h; exact h.elim
  | exc c fs =>
    rw [e] at h
    exact fun H' Z' O' d xs x g q a b => h H' Z' O' F d xs (rl.ext x g) (TrS.ext x) q a b
  | ok rs =>
    rw [e] at h
    simp only at h
    intro vs H1 Z1 O1 Gt x1 g1 q nd fr
    cases ea : xargs i md rs with
    | none => rw [ea] at h; exact h.elim
    | some ds =>
      rw [ea] at h
      simp only at h
      cases hi : ρ[i]? with
      | none => rw [hi] at h; exact h.elim
      | some y =>
        cases y with
        | none => rw [hi] at h; exact h.elim
        | some r =>
          obtain ⟨s, d⟩ := r
          rw [hi] at h
          simp only at h
          by_cases c : isOB s = true ∧ nm md = 1
          · rw [if_pos c] at h
            exact spF_call (rl.ext x1 g1) n (evx_names e) q (fun a ha z => by
              obtain ⟨o, w, _⟩ := rl.sl.live a z
              rw [(fr a ha).1] at w
              cases w) ea hi c.1 c.2 (MRK.from h (TrS.ext x1))
          · rw [if_neg c] at h; exact h.elim
end
section
variable {X : Cx} {E : XK} {CX : CXT} {k k' : Nat} {ps : List Str} {md : List Md} {m : Fn} {x : Str} {p pos : Pos} {e : Expr} {es : List Expr} {ks : List Ax} {i : Nat}
theorem s_mcall (i : Nat) (c : Cal CX X.prog X.w X.K X.mg X.base k x ps md m) (hr : Room k' X.A) (hx : Passes CX X E) (ha : PA X (e :: es) (tAX X.K E ks)) (hg : Gl X x := by rfl) (hk : k ≤ k' := by decide)
    (hdb : (x == ("__debug__" : Str)) = false := by decide) (he : starEach (e :: es) X.env = (false, eval e X.env) :: starEach es X.env := by rfl) (hpl : (backTo pos (starEach es X.env)).any (·.1) = false := by rfl) :
    PE X (.Call (.Name x p) (e :: es) [] pos) (tM X.K E (mCall m md i ks)) := by
  obtain ⟨f, fd, F, b, kp, hm⟩ := c.ex
  refine (pe_call F (hr.mono hk) hg hm kp b .nil hx ha hdb he hpl).imp fun σ H Q h => ?_
  obtain ⟨Z, O, ρ, F, rl, q⟩ := mCall_ok h
  refine ⟨Z, O, ρ, F, rl, ?_⟩
  cases e : evx ks ρ with
  | bad => rw [e] at q; exact q
  | exc c fs => rw [e] at q; exact q
  | ok rs =>
    rw [e] at q
    intro vs H' Z' O' G a1 a2 a3 a4 a5
    show spF X.K md m (vs ++ []) H' Q E
    rw [List.append_nil]
    exact q vs H' Z' O' G a1 a2 a3 a4 a5
end
end Oz

namespace Oz
open PySem PySem.Spec L2
open PyProof.Rows hiding St

/-! ### objects -/
theorem lkF_none {f : Str} : ∀ {fs : List (Str × V)} {es : List (D × D)}, es.map (·.1) = fs.map (fun p => PyData.str p.1) → lkD (.inr f) es = none → fs.lookup f = none
  | [], [], _, _ => rfl
  | (g, v) :: fs, (a, d) :: es, h, n => by
    simp only [List.map_cons, List.cons.injEq] at h
    obtain ⟨h1, h2⟩ := h
    unfold lkD at n
    by_cases c : keyOf a = some (.inr f)
    · rw [if_pos c] at n; cases n
    · rw [if_neg c] at n
      have hg : ¬ f = g := fun e => c (by rw [h1, e]; rfl)
      have hb : (f == g) = false := beq_eq_false_iff_ne.mpr hg
      simp only [List.lookup, hb]
      exact lkF_none h2 n
  | [], _ :: _, h, _ => by simp at h
  | _ :: _, [], h, _ => by simp at h
theorem lkF_some {f : Str} : ∀ {fs : List (Str × V)} {es : List (D × D)} {d : D}, es.map (·.1) = fs.map (fun p => PyData.str p.1) → lkD (.inr f) es = some d →
    ∃ j x, fs.lookup f = some x ∧ (fs.map (·.2))[j]? = some x ∧ (es.map (·.2))[j]? = some d ∧
      ∀ (y : V) (d' : D), (putF f y fs).map (·.2) = (fs.map (·.2)).set j y ∧ (ptD (.inr f) d' es).map (·.2) = (es.map (·.2)).set j d' ∧ (ptD (.inr f) d' es).map (·.1) = es.map (·.1) ∧ (putF f y fs).map (·.1) = fs.map (·.1)
  | [], [], _, _, h => by simp [lkD] at h
  | (g, v) :: fs, (a, d0) :: es, d, h, n => by
    simp only [List.map_cons, List.cons.injEq] at h
    obtain ⟨h1, h2⟩ := h
    unfold lkD at n
    by_cases c : keyOf a = some (.inr f)
    · rw [if_pos c] at n
      cases n
      have hg : g = f := by
        rw [h1] at c
        have : (Sum.inr g : Key) = .inr f := Option.some.inj c
        cases this
        rfl
      have hb : (f == g) = true := beq_iff_eq.mpr hg.symm
      refine ⟨0, v, by simp only [List.lookup, hb], rfl, rfl, fun y d' => ?_⟩
      unfold ptD putF
      rw [if_pos c, if_pos hg]
      exact ⟨rfl, rfl, rfl, rfl⟩
    · rw [if_neg c] at n
      have hg : ¬ f = g := fun e => c (by rw [h1, e]; rfl)
      have hb : (f == g) = false := beq_eq_false_iff_ne.mpr hg
      obtain ⟨j, x, e1, e2, e3, e4⟩ := lkF_some h2 n
      refine ⟨j + 1, x, by simp only [List.lookup, hb]; exact e1, by simpa using e2, by simpa using e3, fun y d' => ?_⟩
      obtain ⟨f1, f2, f3, f4⟩ := e4 y d'
      unfold ptD putF
      rw [if_neg c, if_neg fun e => hg e.symm]
      refine ⟨?_, ?_, ?_, ?_⟩
      · rw [List.map_cons, f1, List.map_cons, List.set_cons_succ]
      · rw [List.map_cons, f2, List.map_cons, List.set_cons_succ]
      · rw [List.map_cons, f3, List.map_cons]
      · rw [List.map_cons, f4, List.map_cons]
  | [], _ :: _, _, h, _ => by simp at h
  | _ :: _, [], _, h, _ => by simp at h
theorem putF_new {f : Str} {y : V} : ∀ {fs : List (Str × V)}, fs.lookup f = none → putF f y fs = fs ++ [(f, y)]
  | [], _ => rfl
  | (g, v) :: fs, h => by
    by_cases e : f = g
    · have hb : (f == g) = true := beq_iff_eq.mpr e
      simp only [List.lookup, hb] at h
      cases h
    · have hb : (f == g) = false := beq_eq_false_iff_ne.mpr e
      simp only [List.lookup, hb] at h
      unfold putF
      rw [if_neg fun z => e z.symm, putF_new h]
      rfl
/-- what an object of the class c has -/
def unO (c : Str) (d : D) : Option (List (D × D)) := match d with
  | .dict ((.none, .str c') :: es) => if c' = c then some es else none
  | _ => none
theorem unO_some {c : Str} {d : D} {es : List (D × D)} (h : unO c d = some es) : d = objD c es := by
  unfold unO at h
  split at h
  · rename_i c' es'
    by_cases e : c' = c
    · rw [if_pos e] at h; cases h; rw [e]; rfl
    · rw [if_neg e] at h; cases h
  · cases h
section
variable {K : PySem.W.Frag} {Z O H C : Hp} {v : V}
theorem Own.obj_inv {c : Str} {es : List (D × D)} {G : List Addr} (q : Own K Z H v (objD c es) G) : ∃ a dx fs G0, v = .ref a ∧ H a = some (.ins (He.ga K c) dx fs) ∧ H dx = some (.own a) ∧ es.map (·.1) = fs.map (fun p => PyData.str p.1) ∧ Owns K Z H (fs.map (·.2)) (es.map (·.2)) G0 ∧ G = a :: dx :: G0 := by
  unfold objD at q
  generalize hd : PyData.dict ((PyData.none, PyData.str c) :: es) = d at q
  cases q with
  | imm r p => subst hd; cases p
  | lst h r => cases hd
  | dct h e r =>
    cases hd
    have m : PyData.none ∈ _ := e ▸ (List.mem_map.mpr ⟨_, List.mem_cons_self, rfl⟩)
    obtain ⟨p, _, hp⟩ := List.mem_map.mp m
    cases hk : p.1 <;> rw [hk] at hp <;> cases hp
  | obj h h2 ec e r =>
    cases hd
    subst ec
    exact ⟨_, _, _, _, rfl, h, h2, e, r, rfl⟩
theorem Rep.obj_inv {c : Str} {es : List (D × D)} (q : Rep K C v (objD c es)) : ∃ a dx fs, v = .ref a ∧ C a = some (.ins (He.ga K c) dx fs) ∧ es.map (·.1) = fs.map (fun p => PyData.str p.1) ∧ Reps K C (fs.map (·.2)) (es.map (·.2)) := by
  unfold objD at q
  generalize hd : PyData.dict ((PyData.none, PyData.str c) :: es) = d at q
  cases q with
  | scr h r => cases hd
  | dct h e r =>
    cases hd
    have m : PyData.none ∈ _ := e ▸ (List.mem_map.mpr ⟨_, List.mem_cons_self, rfl⟩)
    obtain ⟨p, _, hp⟩ := List.mem_map.mp m
    cases hk : p.1 <;> rw [hk] at hp <;> cases hp
  | obj h ec e r =>
    cases hd
    subst ec
    exact ⟨_, _, _, rfl, h, e, r⟩
  | _ => cases hd
end
def fldR (c f : Str) (r : R) : Res R := match unO c r.d with
  | some es => (match lkD (.inr f) es with
    | some d => .ok (sub r.s d)
    | none => .bad)
  | none => .bad
def pFld (c f : Str) (p : Px) : Px := fun ρ => (p ρ).bind fun r => fldR c f r
def plF (c f : Str) (l : Plx) : Plx := fun ρ => (l ρ).bind fun l => match unO c l.d with
  | some es => (match lkD (.inr f) es with
    | some d => .ok ⟨l.i, d, fun y => l.put (objD c (ptD (.inr f) y es))⟩
    | none => .bad)
  | none => .bad
def sFldS (c f : Str) (l : Plx) (q : Px) : Stx := fun ρ => match q ρ with
  | .bad => .bad
  | .exc c fs => .exc c fs ρ
  | .ok r => (match ownR r with
    | none => .bad
    | some d => (match l ρ with
      | .bad => .bad
      | .exc c fs => .exc c fs ρ
      | .ok l => (match unO c l.d with
        | some es => if es.length < 1000 then putE l (objD c (ptD (.inr f) d es)) ρ else .bad
        | none => .bad)))
section
variable {X : Cx} {E : XK} {o e : Expr} {l : Plx} {p q : Px} {pos pos' apos : Pos} {c f : Str}
theorem s_fld (cl : Cls X.K (He.ga X.K c)) (na : NoAttr X.K (He.ga X.K c) f) (ha : PE X o (tP X.K E p)) (hb : attributeBase o f X.env (eval o X.env) = eval o X.env := by rfl) : PE X (.Attribute o f pos) (tP X.K E (pFld c f p)) := by
  refine (pe_fld ha hb).imp fun σ H Q h => ?_
  refine tP_bind (k := fun r _ => fldR c f r) h fun Z O H1 Z1 O1 ρ F G v r rl x1 r1 q1 nd fr h2 => ?_
  obtain ⟨s, d⟩ := r
  have h3 : ResK X.K E [] Z1 O1 H1 (fldR c f ⟨s, d⟩) Q := ResK.ext h2 x1 fun a ha => by cases ha
  unfold fldR at h3
  simp only at h3
  cases eo : unO c d with
  | none => rw [eo] at h3; exact h3.elim
  | some es =>
    rw [eo] at h3
    simp only at h3
    have ed := unO_some eo
    subst ed
    cases e2 : lkD (.inr f) es with
    | none => rw [e2] at h3; exact h3.elim
    | some d =>
      rw [e2] at h3
      have la := q1.look r1.g
      obtain ⟨a, dx, fs, ev, ha, hk, hr⟩ := la.obj_inv
      obtain ⟨j, x, e3, e4, e5, _⟩ := lkF_some hk e2
      obtain ⟨x', e6, rx⟩ := hr.get e5
      rw [e4] at e6
      cases e6
      refine ⟨a, _, dx, fs, x, ev, ha, cl, na, e3, OkK.sub r1.g h3 rx (fun es1 => ?_) fun es1 => ?_⟩
      · subst es1
        have r0 : Rep X.K Z1 _ (objD c es) := q1.1
        obtain ⟨a', dx', fs', ev', ha', hk', hr'⟩ := r0.obj_inv
        rw [ev] at ev'
        cases ev'
        have := r1.g.zh _ _ ha'
        rw [ha] at this
        cases this
        obtain ⟨x', e7, rx'⟩ := hr'.get e5
        rw [e4] at e7
        cases e7
        exact rx'
      · subst es1
        have r0 : Rep X.K O1 _ (objD c es) := q1.1
        obtain ⟨a', dx', fs', ev', ha', hk', hr'⟩ := r0.obj_inv
        rw [ev] at ev'
        cases ev'
        have := r1.g.oh _ _ ha'
        rw [ha] at this
        cases this
        obtain ⟨x', e7, rx'⟩ := hr'.get e5
        rw [e4] at e7
        cases e7
        exact rx'
theorem PlAt.fld {K : PySem.W.Frag} {Z O H : Hp} {σ : St} {ρ : Ev} {F F1 G F2 : List Addr} {l : Pl} {v : V} {s : Sx} {es : List (D × D)} {d : D} (pa : PlAt K Z O H σ ρ F l v s F1 G F2) (e : l.d = objD c es) (h : lkD (.inr f) es = some d) :
    ∃ a dx fs x F1' G' F2', v = .ref a ∧ H a = some (.ins (He.ga K c) dx fs) ∧ fs.lookup f = some x ∧ PlAt K Z O H σ ρ F ⟨l.i, d, fun y => l.put (objD c (ptD (.inr f) y es))⟩ x s F1' G' F2' := by
  have q := pa.own
  rw [e] at q
  obtain ⟨a, dx, fs, G0, rfl, ha, hdx, hk, qs, eg⟩ := q.obj_inv
  obtain ⟨j, x, e1, e2, e3, e4⟩ := lkF_some hk h
  obtain ⟨x', F1', G', F2', e5, pb⟩ := pa.child (hd := [a, dx]) (mk := fun ds => objD c ((es.map (·.1)).zip ds)) eg qs e3 fun Z' H' ds' F' ez kp hl q' => by
    obtain ⟨z1, z2⟩ := zip_fst (as := es.map (·.1)) (bs := ds') (by rw [hl, List.length_map, List.length_map])
    exact .obj (kp a (by simp) _ ha) (kp dx (by simp) _ hdx) rfl (by rw [z1]; exact hk) (by rw [z2]; exact q')
  rw [e2] at e5
  cases e5
  refine ⟨a, dx, fs, x, F1', G', F2', rfl, ha, e1, ?_⟩
  have ee : (fun y => l.put (objD c (ptD (.inr f) y es))) = fun y => l.put (objD c ((es.map (·.1)).zip ((es.map (·.2)).set j y))) := by
    funext y
    obtain ⟨_, f2, f3, _⟩ := e4 .non y
    rw [← f2, ← f3, zip_mk]
  rw [ee]
  exact pb
theorem s_plF (cl : Cls X.K (He.ga X.K c)) (na : NoAttr X.K (He.ga X.K c) f) (ha : PE X o (tPl X.K E l)) (hb : attributeBase o f X.env (eval o X.env) = eval o X.env := by rfl) : PE X (.Attribute o f pos) (tPl X.K E (plF c f l)) := by
  refine (pe_fld ha hb).imp fun σ H Q h => ?_
  obtain ⟨Z, O, ρ, F, rl, h⟩ := h
  refine ⟨Z, O, ρ, F, rl, ?_⟩
  unfold plF at h
  cases e : l ρ with
  | bad => rw [e] at h; exact h.elim
  | exc c fs => rw [e] at h; exact h
  | ok l0 =>
    rw [e] at h
    simp only [Res.bind_ok] at h
    intro v H1 Z1 O1 s F1 G F2 x1 g1 pa
    cases eo : unO c l0.d with
    | none => rw [eo] at h; exact h.elim
    | some es =>
      rw [eo] at h
      simp only at h
      cases e2 : lkD (.inr f) es with
      | none => rw [e2] at h; exact h.elim
      | some d =>
        rw [e2] at h
        obtain ⟨a, dx, fs, x, F1', G', F2', ev, ha, hx, pb⟩ := pa.fld (unO_some eo) e2
        exact ⟨a, _, dx, fs, x, ev, ha, cl, na, hx, h x H1 Z1 O1 s F1' G' F2' x1 g1 pb⟩
theorem s_fldS (cl : Cls X.K (He.ga X.K c)) (na : NoAttr X.K (He.ga X.K c) f) (hl : PE X o (tPl X.K E l)) (he : PE X e (tP X.K E q)) (hs : swapsWith e (some (.Attribute o f pos')) pos.line X.env = pure false := by rfl) : PS X (.Assign [.Attribute o f pos'] e pos) (tS X.K E (sFldS c f l q)) := by
  refine (ps_fld hl he hs).imp fun D σ H h => ?_
  obtain ⟨Z, O, ρ, F, rl, n, h⟩ := h
  refine ⟨Z, O, ρ, F, rl, ?_⟩
  unfold sFldS at h
  cases e1 : q ρ with
  | bad => rw [e1] at h; exact h.elim
  | exc c fs => rw [e1] at h; exact SRK.exc rl h
  | ok r =>
    rw [e1] at h
    simp only at h
    cases er : ownR r with
    | none => rw [er] at h; exact h.elim
    | some d =>
      rw [er] at h
      simp only at h
      intro y H1 Z1 O1 Gy x1 g1 q1 nd1 fr1
      have rl1 := rl.ext x1 g1
      refine ⟨Z1, O1, ρ, F, rl1, ?_⟩
      cases e2 : l ρ with
      | bad => rw [e2] at h; exact h.elim
      | exc c fs => rw [e2] at h; exact ExcK.ext (SRK.exc rl h) x1
      | ok l0 =>
        rw [e2] at h
        simp only at h
        intro v H3 Z3 O3 s F1 G F2 x2 g3 pa3
        cases eo : unO c l0.d with
        | none => rw [eo] at h; exact h.elim
        | some es =>
          rw [eo] at h
          simp only at h
          by_cases cc : es.length < 1000
          · rw [if_pos cc] at h
            have qo := pa3.own
            rw [unO_some eo] at qo
            obtain ⟨a0, dx, fs, G0, rfl, ha0, hdx, hk, qs, eg⟩ := qo.obj_inv
            have x123 := x1.trans0 x2
            obtain ⟨G', qy, cG⟩ := ownR_ok g1 q1 er
            have sG : ∀ c ∈ G', c ∈ Gy := fun c hc => by
              rcases cG with z | z
              · rw [z] at hc; exact hc
              · rw [z] at hc; cases hc
            have nG : G'.Nodup := by
              rcases cG with z | z
              · rw [z]; exact nd1
              · rw [z]; exact List.nodup_nil
            have fG : ∀ c ∈ G', H c = none := fun c hc => (fr1 c (sG c hc)).1.elim id fun z => by cases z
            have oG : ∀ c ∈ G', O3 c = none := fun c hc => by
              obtain ⟨o, hy, _⟩ := qy.live c hc
              cases w : O3 c with
              | none => rfl
              | some o' =>
                rcases x2.on c (by rw [w]; simp) with z | z | z
                · exact absurd (fr1 c (sG c hc)).2 z
                · rw [hy] at z; cases z
                · cases z
            have nF := rl.nd
            rw [pa3.eq, eg] at nF
            have nGG : (a0 :: dx :: G0).Nodup := (List.nodup_append.mp (List.nodup_append.mp nF).2.1).1
            have aG1 : a0 ∉ dx :: G0 := (List.nodup_cons.mp nGG).1
            have aG0 : a0 ∉ G0 := fun z => aG1 (List.mem_cons_of_mem _ z)
            have axd : a0 ≠ dx := fun z => aG1 (by rw [z]; simp)
            have nG1 := (List.nodup_cons.mp nGG).2
            have dG0 : dx ∉ G0 := (List.nodup_cons.mp nG1).1
            have inF : ∀ c ∈ a0 :: dx :: G0, c ∈ F := fun c hc => by rw [pa3.eq, eg]; simp only [List.mem_append]; exact .inr (.inl hc)
            have dF : ∀ c ∈ G', c ∉ F := fun c hc z => by
              obtain ⟨o, hy, _⟩ := rl.sl.live c z
              rw [fG c hc] at hy
              cases hy
            have hlen : fs.length = es.length := by
              have := congrArg List.length hk
              simpa using this.symm
            refine ⟨a0, _, dx, fs, rfl, ha0, cl, na, by rw [hlen]; exact cc, ?_⟩
            have kp : ∀ o', ∀ c, c ≠ a0 → ∀ o, H3 c = some o → upd H3 a0 o' c = some o := fun o' c hc o h => by rw [upd_ne hc]; exact h
            have qy3 : ∀ o', Own X.K Z3 (upd H3 a0 o') y d G' := fun o' => Own.mono x2.z (fun c hc o h => kp o' c (fun z => dF c hc (inF c (by rw [z]; simp))) o (x2.h _ _ h)) qy
            cases ed : lkD (.inr f) es with
            | some d0 =>
              obtain ⟨j, x, e4, e5, e6, e7⟩ := lkF_some hk ed
              obtain ⟨f1, f2, f3, f4⟩ := e7 y d
              obtain ⟨x', A, Gj, B, h1, h2, h3, h4⟩ := qs.at e6
              have hkeys : (ptD (.inr f) d es).map (·.1) = (putF f y fs).map (fun p => PyData.str p.1) := by
                rw [f3, hk]
                have := congrArg (List.map PyData.str) f4
                rw [List.map_map, List.map_map] at this
                exact this.symm
              have qn : Own X.K Z3 (upd H3 a0 (.ins (He.ga X.K c) dx (putF f y fs))) (.ref a0) (objD c (ptD (.inr f) d es)) (a0 :: dx :: (A ++ (G' ++ B))) := by
                refine .obj upd_same (kp _ dx axd.symm _ hdx) rfl hkeys ?_
                rw [f1, f2]
                exact h4 Z3 _ y d G' (Same.refl _) (fun c hc o h => kp _ c (fun z => aG0 (by rw [h2, ← z]; rcases List.mem_append.mp hc with hc | hc <;> simp [hc])) o h) (qy3 _)
              refine pa3.store rl n x123 g3 (a0 := a0) (by rw [eg]; simp) rfl qn ?_ (fun c hc => ?_) h
              · have nn : (A ++ (G' ++ B)).Nodup := nodup_mid (G := Gj) (by rw [← h2]; exact (List.nodup_cons.mp nG1).2) nG fun c hc z => dF c hc (inF c (by rw [h2]; exact List.mem_cons_of_mem _ (List.mem_cons_of_mem _ z)))
                have nin : ∀ c, c ∈ a0 :: dx :: G0 → c ∉ G0 → c ∉ A ++ (G' ++ B) := fun c hc hn z => by
                  rcases List.mem_append.mp z with z | z
                  · exact hn (by rw [h2]; simp [z])
                  · rcases List.mem_append.mp z with z | z
                    · exact dF c z (inF c hc)
                    · exact hn (by rw [h2]; simp [z])
                refine List.nodup_cons.mpr ⟨fun z => ?_, List.nodup_cons.mpr ⟨nin dx (by simp) dG0, nn⟩⟩
                rcases List.mem_cons.mp z with z | z
                · exact axd z
                · exact nin a0 (by simp) aG0 z
              · rcases List.mem_cons.mp hc with z | z
                · left; rw [eg, z]; simp
                · rcases List.mem_cons.mp z with z | z
                  · left; rw [eg, z]; simp
                  · rcases List.mem_append.mp z with z | z
                    · left; rw [eg, h2]; simp [z]
                    · rcases List.mem_append.mp z with z | z
                      · right; exact ⟨fG c z, oG c z⟩
                      · left; rw [eg, h2]; simp [z]
            | none =>
              have hput : putF f y fs = fs ++ [(f, y)] := putF_new (lkF_none hk ed)
              have hpt : ptD (.inr f) d es = es ++ [(.str f, d)] := pt_new ed
              have qn : Own X.K Z3 (upd H3 a0 (.ins (He.ga X.K c) dx (putF f y fs))) (.ref a0) (objD c (ptD (.inr f) d es)) (a0 :: dx :: (G0 ++ G')) := by
                refine .obj upd_same (kp _ dx axd.symm _ hdx) rfl (by rw [hpt, hput, List.map_append, List.map_append, hk]; rfl) ?_
                rw [hpt, List.map_append, hput, List.map_append]
                refine Owns.append (Owns.mono (Same.refl _) (fun c hc o h => kp _ c (fun z => aG0 (z ▸ hc)) o h) qs) (Owns.one ?_)
                exact qy3 _
              refine pa3.store rl n x123 g3 (a0 := a0) (by rw [eg]; simp) rfl qn ?_ (fun c hc => ?_) h
              · have nn : (G0 ++ G').Nodup := List.nodup_append.mpr ⟨(List.nodup_cons.mp nG1).2, nG, fun u hu w hw e => dF w hw (inF w (by rw [← e]; exact List.mem_cons_of_mem _ (List.mem_cons_of_mem _ hu)))⟩
                have nin : ∀ c, c ∈ a0 :: dx :: G0 → c ∉ G0 → c ∉ G0 ++ G' := fun c hc hn z => by
                  rcases List.mem_append.mp z with z | z
                  · exact hn z
                  · exact dF c z (inF c hc)
                refine List.nodup_cons.mpr ⟨fun z => ?_, List.nodup_cons.mpr ⟨nin dx (by simp) dG0, nn⟩⟩
                rcases List.mem_cons.mp z with z | z
                · exact axd z
                · exact nin a0 (by simp) aG0 z
              · rcases List.mem_cons.mp hc with z | z
                · left; rw [eg, z]; simp
                · rcases List.mem_cons.mp z with z | z
                  · left; rw [eg, z]; simp
                  · rcases List.mem_append.mp z with z | z
                    · left; rw [eg]; simp [z]
                    · right; exact ⟨fG c z, oG c z⟩
          · rw [if_neg cc] at h; exact h.elim
end
end Oz

namespace Oz
open PySem PySem.Spec L2
open PyProof.Rows hiding St

/-! ### methods -/
structure CalM (CX : CXT) (P : Program) (w : World) (K : PySem.W.Frag) (mg : Str → Option Value) (base : Heap) (k : Nat) (c m : Str) (ps : List Str) (md : List Md) (g : Fn) : Prop where
  cl : Cls K (He.ga K c)
  ex : ∃ f fd, FnOk P w K mg base CX k f fd ps (spF K md g) ∧ Binds K fd ps [] ∧ Meth K (He.ga K c) m f
theorem calM_of {CX : CXT} {P : Program} {w : World} {K : PySem.W.Frag} {mg : Str → Option Value} {base : Heap} {c x qual : Str} {params : Arguments} {body : List Stmt} {scope : Scope} {ps : List Str} {k : Nat} {md : List Md} {m : Fn}
    (cl : Cls K (He.ga K c)) (T : ∃ f fd, FunD K x qual params body scope [] [] f fd ∧ Meth K (He.ga K c) x f)
    (hb : ∀ (kV doc pm : Value) (an : Option Addr) (cdv ct : Value) (us : List Value), us.length = ps.length → bindArgs (PySem.W.fnOf x qual params body scope .none kV doc pm an cdv ct) ⟨us, []⟩ = pure (ps.zip us))
    (B : ∀ f fd, FunD K x qual params body scope [] [] f fd → FnOk P w K mg base CX k f fd ps (spF K md m)) :
    CalM CX P w K mg base k c x ps md m := by
  obtain ⟨f, fd, F, hm⟩ := T
  exact ⟨cl, f, fd, B f fd F, F.bindsN hb, hm⟩
/-- x.m(..), x an object that the call changes -/
def mMeth (c mn : Str) (f : Fn) (md : List Md) (i : Nat) (ks : List Ax) : Stx := fun ρ => match ρ[i]? with
  | some (some ⟨_, d⟩) => (match unO c d with
    | some es => if lkD (.inr mn) es = none then mCall f md i (.n i :: ks) ρ else .bad
    | none => .bad)
  | _ => .bad
/-- o.m(..), o looked at -/
def pMeth (c mn : Str) (f : Fn) (md : List Md) (p : Px) (ps : List Px) : Px := fun ρ => (p ρ).bind fun r => match unO c r.d with
  | some es => if lkD (.inr mn) es = none then ((evs ps ρ).bind fun rs => match pargs md (r :: rs) with
    | some ds => (match f ds with
      | .ok r [] => .ok r
      | .exc c fs [] => .exc c fs
      | _ => .bad)
    | none => .bad) else .bad
  | none => .bad
section
variable {K : PySem.W.Frag} {E : XK} {Z O H : Hp} {σ : St} {ρ : Ev} {F : List Addr} {Q : VK}
theorem mMeth_ok {c mn : Str} {f : Fn} {md : List Md} {i : Nat} {ks : List Ax} (h : tM K E (mMeth c mn f md i ks) σ H Q) : tVar i σ H fun x H1 => ∃ a dx fs, x = .ref a ∧ H1 a = some (.ins (He.ga K c) dx fs) ∧ fs.lookup mn = none ∧
    tAX K E ks σ H1 fun vs H2 => spF K md f (x :: vs) H2 Q E := by
  obtain ⟨Z, O, ρ, F, rl, n, h⟩ := h
  unfold mMeth at h
  cases hi : ρ[i]? with
  | none => rw [hi] at h; exact h.elim
  | some y =>
    cases y with
    | none => rw [hi] at h; exact h.elim
    | some r =>
      obtain ⟨s, d⟩ := r
      rw [hi] at h
      simp only at h
      cases eo : unO c d with
      | none => rw [eo] at h; exact h.elim
      | some es =>
        rw [eo] at h
        simp only at h
        by_cases cc : lkD (.inr mn) es = none
        · rw [if_pos cc] at h
          have ed := unO_some eo
          subst ed
          obtain ⟨v, hv, G, q⟩ := rl.sl.get hi
          have lk := q.look rl.g
          obtain ⟨a, dx, fs, ev, ha, hk, hr⟩ := lk.obj_inv
          refine ⟨v, hv, a, dx, fs, ev, ha, lkF_none hk cc, Z, O, ρ, F, rl, ?_⟩
          unfold mCall evx at h
          rw [hi] at h
          simp only at h
          cases e : evx ks ρ with
          | bad => rw [e] at h; exact h.elim
          | exc c fs =>
            rw [e] at h
            exact fun H' Z' O' d xs x g q a b => h H' Z' O' F d xs (rl.ext x g) (TrS.ext x) q a b
          | ok rs =>
            rw [e] at h
            simp only [Res.bind_ok] at h
            intro vs H1 Z1 O1 Gt x1 g1 q nd fr
            cases ea : xargs i md (.n i ⟨s, objD c es⟩ :: rs) with
            | none => rw [ea] at h; exact h.elim
            | some ds =>
              rw [ea] at h
              simp only at h
              by_cases c2 : isOB s = true ∧ Oz.nm md = 1
              · rw [if_pos c2] at h
                refine spF_call (rs := .n i ⟨s, objD c es⟩ :: rs) (rl.ext x1 g1) n (fun j r m => ?_) (.n hv q) (fun a ha z => by
                  obtain ⟨o, w, _⟩ := rl.sl.live a z
                  rw [(fr a ha).1] at w
                  cases w) ea hi c2.1 c2.2 (MRK.from h (TrS.ext x1))
                rcases List.mem_cons.mp m with m | m
                · cases m; exact hi
                · exact evx_names e j r m
              · rw [if_neg c2] at h; exact h.elim
        · rw [if_neg cc] at h; exact h.elim
theorem pMeth_ok {c mn : Str} {f : Fn} {md : List Md} {p : Px} {ps : List Px} (h : tP K E (pMeth c mn f md p ps) σ H Q) : tP K E p σ H fun x H1 => ∃ a dx fs, x = .ref a ∧ H1 a = some (.ins (He.ga K c) dx fs) ∧ fs.lookup mn = none ∧
    tA K E ps σ H1 fun vs H2 => spF K md f (x :: vs) H2 Q E := by
  refine tP_bind (k := fun r ρ => match unO c r.d with
    | some es => if lkD (.inr mn) es = none then ((evs ps ρ).bind fun rs => match pargs md (r :: rs) with
      | some ds => (match f ds with
        | .ok r [] => .ok r
        | .exc c fs [] => .exc c fs
        | _ => .bad)
      | none => .bad) else .bad
    | none => .bad) h fun Z O H1 Z1 O1 ρ F G v r rl x1 r1 q1 nd fr h2 => ?_
  cases eo : unO c r.d with
  | none => simp only [eo] at h2; exact h2.elim
  | some es =>
    simp only [eo] at h2
    by_cases cc : lkD (.inr mn) es = none
    · rw [if_pos cc] at h2
      have lk := q1.look r1.g
      rw [unO_some eo] at lk
      obtain ⟨a, dx, fs, ev, ha, hk, hr⟩ := lk.obj_inv
      refine ⟨a, dx, fs, ev, ha, lkF_none hk cc, Z1, O1, ρ, F, r1, ?_⟩
      cases e : evs ps ρ with
      | bad => rw [e] at h2; exact h2.elim
      | exc c fs => rw [e] at h2; exact ExcK.ext h2 x1
      | ok rs =>
        rw [e] at h2
        simp only [Res.bind_ok] at h2
        intro vs H2 Z2 O2 G2 x2 g2 q2 nd2 fr2
        refine call_ok (W := G ++ G2) g2 (.cons (q1.ext x2) q2) (ResK.ext h2 (x1.trans0 x2) fun a ha => ?_)
        rcases List.mem_append.mp ha with ha | ha
        · exact (fr a ha).1
        · exact x1.h.free (fr2 a ha).1
    · rw [if_neg cc] at h2; exact h2.elim
end
section
variable {X : Cx} {E : XK} {CX : CXT} {k k' : Nat} {ps : List Str} {md : List Md} {g : Fn} {c m x : Str} {p pos apos : Pos} {e o : Expr} {es : List Expr} {ks : List Ax} {qs : List Px} {q : Px} {i : Nat}
theorem s_mmeth {pl : Sem Bool} (i : Nat) (cal : CalM CX X.prog X.w X.K X.mg X.base k c m ps md g) (hr : Room k' X.A) (hx : Passes CX X E) (ha : PA X (e :: es) (tAX X.K E ks)) (hN : X.N[i]? = some x := by rfl) (hk : k ≤ k' := by decide) (hv : Vis X.env.scope x := by first | exact Or.inl rfl | exact Or.inr (Or.inl rfl) | exact Or.inr (Or.inr rfl)) (hd : (x == ("__debug__" : Str)) = false := by decide)
    (hcd : (x == ("__classdict__" : Str)) = false := by decide)
    (hst : starEach (e :: es) X.env = (false, eval e X.env) :: starEach es X.env := by rfl) (hpl : (backTo pos (starEach es X.env)).any (·.1) = false := by rfl)
    (ht : eval (.Call (.Attribute (.Name x p) m apos) (e :: es) [] pos) X.env = (do
      let ov ← eval (.Name x p) X.env
      standAt apos.atName
      let (f, first) ← holding [ov] (getMethod ov m pl)
      callWith pos f first (backTo pos (starEach (e :: es) X.env)) (backToKw pos (keywordEach [] X.env))) := by rfl) :
    PE X (.Call (.Attribute (.Name x p) m apos) (e :: es) [] pos) (tM X.K E (mMeth c m g md i ks)) := by
  obtain ⟨f, fd, F, b, hm⟩ := cal.ex
  refine (pe_meth (pe_var hN hv hd hcd) cal.cl hm F (hr.mono hk) b .nil hx ha hst hpl ht).imp fun σ H Q h => ?_
  obtain ⟨v, hv, a, dx, fs, ev, ha, hl, h2⟩ := mMeth_ok h
  refine ⟨v, hv, a, dx, fs, ev, ha, hl, ?_⟩
  have e2 : (fun (vs : List V) (H2 : Hp) => spF X.K md g (v :: (vs ++ [])) H2 Q E) = fun vs H2 => spF X.K md g (v :: vs) H2 Q E := by
    funext vs H2
    rw [List.append_nil]
  rw [e2]
  exact h2
theorem s_mmeth0 {pl : Sem Bool} (i : Nat) (cal : CalM CX X.prog X.w X.K X.mg X.base k c m ps md g) (hr : Room k' X.A) (hx : Passes CX X E) (hN : X.N[i]? = some x := by rfl) (hk : k ≤ k' := by decide) (hv : Vis X.env.scope x := by first | exact Or.inl rfl | exact Or.inr (Or.inl rfl) | exact Or.inr (Or.inr rfl)) (hd : (x == ("__debug__" : Str)) = false := by decide)
    (hcd : (x == ("__classdict__" : Str)) = false := by decide)
    (ht : eval (.Call (.Attribute (.Name x p) m apos) [] [] pos) X.env = (do
      let ov ← eval (.Name x p) X.env
      standAt apos.atName
      let (f, first) ← holding [ov] (getMethod ov m pl)
      callWith pos f first (backTo pos (starEach [] X.env)) (backToKw pos (keywordEach [] X.env))) := by rfl) :
    PE X (.Call (.Attribute (.Name x p) m apos) [] [] pos) (tM X.K E (mMeth c m g md i [])) := by
  obtain ⟨f, fd, F, b, hm⟩ := cal.ex
  refine (pe_meth0 (pe_var hN hv hd hcd) cal.cl hm F (hr.mono hk) b .nil hx ht).imp fun σ H Q h => ?_
  obtain ⟨v, hv, a, dx, fs, ev, ha, hl, h2⟩ := mMeth_ok h
  refine ⟨v, hv, a, dx, fs, ev, ha, hl, ?_⟩
  obtain ⟨Z, O, ρ, F, rl, h2⟩ := h2
  have := h2 [] H Z O [] (Ext.refl _ _ _ _) rl.g .nil List.nodup_nil fun a ha => by cases ha
  exact this
theorem s_meth {pl : Sem Bool} (cal : CalM CX X.prog X.w X.K X.mg X.base k c m ps md g) (hr : Room k' X.A) (hx : Passes CX X E) (ho : PE X o (tP X.K E q)) (ha : PA X (e :: es) (tA X.K E qs)) (hk : k ≤ k' := by decide)
    (hst : starEach (e :: es) X.env = (false, eval e X.env) :: starEach es X.env := by rfl) (hpl : (backTo pos (starEach es X.env)).any (·.1) = false := by rfl)
    (ht : eval (.Call (.Attribute o m apos) (e :: es) [] pos) X.env = (do
      let ov ← eval o X.env
      standAt apos.atName
      let (f, first) ← holding [ov] (getMethod ov m pl)
      callWith pos f first (backTo pos (starEach (e :: es) X.env)) (backToKw pos (keywordEach [] X.env))) := by rfl) :
    PE X (.Call (.Attribute o m apos) (e :: es) [] pos) (tP X.K E (pMeth c m g md q qs)) := by
  obtain ⟨f, fd, F, b, hm⟩ := cal.ex
  refine (pe_meth ho cal.cl hm F (hr.mono hk) b .nil hx ha hst hpl ht).imp fun σ H Q h => ?_
  have h2 := pMeth_ok h
  obtain ⟨Z, O, ρ, F, rl, h2⟩ := h2
  refine ⟨Z, O, ρ, F, rl, ?_⟩
  cases e : q ρ with
  | bad => rw [e] at h2; exact h2
  | exc c fs => rw [e] at h2; exact h2
  | ok r =>
    rw [e] at h2
    intro v H' Z' O' G a1 a2 a3 a4 a5
    obtain ⟨a, dx, fs, ev, ha, hl, h3⟩ := h2 v H' Z' O' G a1 a2 a3 a4 a5
    refine ⟨a, dx, fs, ev, ha, hl, ?_⟩
    have e2 : (fun (vs : List V) (H2 : Hp) => spF X.K md g (v :: (vs ++ [])) H2 Q E) = fun vs H2 => spF X.K md g (v :: vs) H2 Q E := by
      funext vs H2
      rw [List.append_nil]
    rw [e2]
    exact h3
end
/-! ### a new object -/
structure CalI (CX : CXT) (P : Program) (w : World) (K : PySem.W.Frag) (mg : Str → Option Value) (base : Heap) (k : Nat) (c : Str) (ps : List Str) (md : List Md) (g : Fn) : Prop where
  hm : mg c = some (.ref (He.ga K c))
  ex : ∃ f fd, FnOk P w K mg base CX k f fd ps (spF K (.m :: md) g) ∧ Binds K fd ps [] ∧ Mk K (He.ga K c) f
theorem calI_of {CX : CXT} {P : Program} {w : World} {K : PySem.W.Frag} {mg : Str → Option Value} {base : Heap} {c x qual : Str} {params : Arguments} {body : List Stmt} {scope : Scope} {ps : List Str} {k : Nat} {md : List Md} {m : Fn}
    (hm : mg c = some (.ref (He.ga K c))) (T : ∃ f fd, FunD K x qual params body scope [] [] f fd ∧ Mk K (He.ga K c) f)
    (hb : ∀ (kV doc pm : Value) (an : Option Addr) (cdv ct : Value) (us : List Value), us.length = ps.length → bindArgs (PySem.W.fnOf x qual params body scope .none kV doc pm an cdv ct) ⟨us, []⟩ = pure (ps.zip us))
    (B : ∀ f fd, FunD K x qual params body scope [] [] f fd → FnOk P w K mg base CX k f fd ps (spF K (.m :: md) m)) :
    CalI CX P w K mg base k c ps md m := by
  obtain ⟨f, fd, F, hm2⟩ := T
  exact ⟨hm, f, fd, B f fd F, F.bindsN hb, hm2⟩
def mkR (c : Str) (g : Fn) (md : List Md) (rs : List R) : Res R := match pargs md rs with
  | some ds => (match g (objD c [] :: ds) with
    | .ok ⟨.imm, .none⟩ [d'] => .ok ⟨.own, d'⟩
    | .exc c fs [_] => .exc c fs
    | _ => .bad)
  | none => .bad
def pMake (c : Str) (g : Fn) (md : List Md) (ps : List Px) : Px := fun ρ => (evs ps ρ).bind fun rs => mkR c g md rs
section
variable {K : PySem.W.Frag} {E : XK} {Z O H : Hp} {Q : VK} {W : List Addr}
theorem args_mono {H H' : Hp} (e : Same H H') : ∀ {md : List Md} {vs : List V} {ds : List D}, Args K Z H H md vs ds [] → nm md = 0 → Args K Z H' H' md vs ds []
  | [], _, _, .nil, _ => .nil
  | .i :: md, _, _, .i r s, n => .i r (args_mono e s n)
  | .v :: md, _, _, .v r s, n => .v (r.mono e) (args_mono e s n)
  | .m :: md, _, _, a, n => by simp [Oz.nm] at n
theorem args_own {H0 H H' : Hp} : ∀ {md : List Md} {vs : List V} {ds : List D}, Args K Z H0 H md vs ds [] → nm md = 0 → Args K Z H0 H' md vs ds []
  | [], _, _, .nil, _ => .nil
  | .i :: md, _, _, .i r s, n => .i r (args_own s n)
  | .v :: md, _, _, .v r s, n => .v r (args_own s n)
  | .m :: md, _, _, a, n => by simp [Oz.nm] at n
theorem pargs_nm : ∀ {md : List Md} {rs : List R} {ds : List D}, pargs md rs = some ds → nm md = 0
  | [], [], _, _ => rfl
  | .i :: md, r :: rs, ds, e => by
    unfold pargs at e
    cases h1 : frzR r with
    | none => rw [h1] at e; cases e
    | some d =>
      rw [h1] at e
      cases h2 : pargs md rs with
      | none => rw [h2] at e; cases e
      | some ds' => exact pargs_nm (md := md) h2
  | .v :: md, r :: rs, ds, e => by
    unfold pargs at e
    cases h2 : pargs md rs with
    | none => rw [h2] at e; cases e
    | some ds' => exact pargs_nm (md := md) h2
  | [], _ :: _, _, e => by cases e
  | .m :: _, _, _, e => by cases e
  | .i :: _, [], _, e => by cases e
  | .v :: _, [], _, e => by cases e
theorem make_ok {c : Str} {md : List Md} {g : Fn} {rs : List R} {vs : List V} {G : List Addr} (gd : Good Z O H) (q : RepRs K Z O H vs rs G) (h : ResK K E W Z O H (mkR c g md rs) Q) (x dx : Addr) (hx : H x = none) (hdx : H dx = none) (ne : dx ≠ x) :
    spF K (.m :: md) g (.ref x :: vs) (upd (upd H dx (.own x)) x (.ins (He.ga K c) dx [])) (fun v H2 => v = .non ∧ Q (.ref x) H2) E := by
  generalize hH2 : upd (upd H dx (.own x)) x (.ins (He.ga K c) dx []) = H2
  have e1 : H2 x = some (.ins (He.ga K c) dx []) := by rw [← hH2]; exact upd_same
  have e2 : H2 dx = some (.own x) := by rw [← hH2, upd_ne ne]; exact upd_same
  have sm : Same H H2 := fun a o z => by
    rw [← hH2, upd_ne (fun w => by rw [w, hx] at z; cases z), upd_ne (fun w => by rw [w, hdx] at z; cases z)]
    exact z
  have back : ∀ a o, H2 a = some o → a ≠ x → a ≠ dx → H a = some o := fun a o z n1 n2 => by rw [← hH2, upd_ne n1, upd_ne n2] at z; exact z
  have sw : Same H (without H2 [x, dx]) := fun a o z => by
    unfold without
    rw [if_neg (fun m => by
      rcases List.mem_cons.mp m with m | m
      · rw [m, hx] at z; cases z
      · simp at m; rw [m, hdx] at z; cases z)]
    exact sm a o z
  unfold mkR at h
  cases ea : pargs md rs with
  | none => rw [ea] at h; exact h.elim
  | some ds =>
    rw [ea] at h
    simp only at h
    obtain ⟨i1, i2, i3, i4⟩ := pargs_ok gd q ea
    have n0 := pargs_nm ea
    have ar : Args K Z (without H2 [x, dx]) H2 (.m :: md) (.ref x :: vs) (objD c [] :: ds) ([x, dx] ++ []) := .m (.obj e1 e2 rfl rfl .nil) (args_own (args_mono sw i1 n0) n0)
    rw [List.append_nil] at ar
    refine ⟨congrArg (· + 1) i2, Z, objD c [] :: ds, [x, dx], gd.zh.trans sm, fun a o z f => ?_, ar, by simp [ne.symm], fun a ha => ?_, ?_⟩
    · by_cases n1 : a = x
      · rw [n1, e1] at z; cases z; cases f
      · by_cases n2 : a = dx
        · rw [n2, e2] at z; cases z; cases f
        · exact gd.tz a o (back a o z n1 n2) f
    · rcases List.mem_cons.mp ha with m | m
      · rw [m]; exact none_of gd.zh hx
      · simp at m; rw [m]; exact none_of gd.zh hdx
    · have newF : ∀ {Z' H' : Hp} {Fm G' : List Addr} {ms : List D}, After K (.m :: md) (.ref x :: vs) Z H2 [x, dx] ms Z' H' Fm G' → Ext [] Z O H Z' (oNew O Z') H' ∧ Good Z' (oNew O Z') H' ∧ (∀ a ∈ Fm ++ G', H a = none ∧ oNew O Z' a = none) := fun {Z' H' Fm G' ms} A => by
        have fx : ∀ a, H2 a = none → H a = none := fun a z => sm.free z
        have inn : ∀ a ∈ [x, dx], H a = none := fun a ha => by
          rcases List.mem_cons.mp ha with m | m
          · rw [m]; exact hx
          · simp at m; rw [m]; exact hdx
        have sH : Same H H' := fun a o z => A.tr.keep a o (sm a o z) fun m => by rw [inn a m] at z; cases z
        have zn : ∀ a, Z' a ≠ none → Z a ≠ none ∨ H a = none := fun a z => (A.tr.zn a z).imp id fun y => y.elim (inn a) (fx a)
        have fn : ∀ a ∈ Fm ++ G', H a = none := fun a ha => (A.tr.fn a ha).elim (inn a) (fx a)
        refine ⟨⟨sH, A.tr.z, oNew_same, fun a z => (zn a z).imp id .inl, fun a z => ?_⟩, oNew_good (gd.oh.trans sH) A.zh A.tz, fun a ha => ⟨fn a ha, outer_none (none_of gd.oh (fn a ha)) (A.zf a ha)⟩⟩
        cases w : O a with
        | some o => exact .inl (by simp)
        | none =>
          rw [oNew_none w] at z
          rcases zn a z with y | y
          · exact absurd (gd.zo.free w) y
          · exact .inr (.inl y)
      cases ef : g (objD c [] :: ds) with
      | bad => rw [ef] at h; exact h.elim
      | ok r ms =>
        rw [ef] at h
        obtain ⟨s, d⟩ := r
        have h3 : s = .imm ∧ d = .none ∧ ∃ d', ms = [d'] ∧ OkK K W Z O H ⟨.own, d'⟩ Q := by
          cases s with
          | imm =>
            cases d with
            | none =>
              match ms, h with
              | [], h => exact h.elim
              | _ :: _ :: _, h => exact h.elim
              | [d'], h => exact ⟨rfl, rfl, d', rfl, h⟩
            | _ => exact h.elim
          | _ => exact h.elim
        obtain ⟨rfl, rfl, d', rfl, h4⟩ := h3
        intro v H' Z' Fm G' A t rr
        obtain ⟨x1, g1, f1⟩ := newF A
        obtain ⟨rr, _⟩ := rr
        cases rr
        refine ⟨rfl, ?_⟩
        cases A with
        | mk tr zh tz nd zf outs =>
          cases outs with
          | m o1 o2 =>
            have o3 := i3 _ _ _ _ o2
            obtain ⟨rfl, _⟩ := o3
            rw [List.append_nil] at nd f1
            exact h4 (.ref x) H' Z' (oNew O Z') _ (x1.mono fun a ha => by cases ha) g1 o1 (List.nodup_append.mp nd).1 fun a ha => ⟨.inl (f1 a (List.mem_append_left _ ha)).1, (f1 a (List.mem_append_left _ ha)).2⟩
      | exc c2 fs ms =>
        rw [ef] at h
        match ms, h with
        | [], h => exact h.elim
        | _ :: _ :: _, h => exact h.elim
        | [d'], h =>
          intro H' Z' Fm d0 xs A hd ek rk
          obtain ⟨x1, g1, f1⟩ := newF A
          exact h H' Z' (oNew O Z') d0 xs x1 g1 hd ek rk
end
section
variable {X : Cx} {E : XK} {CX : CXT} {k k' : Nat} {ps : List Str} {md : List Md} {g : Fn} {c : Str} {p pos : Pos} {e : Expr} {es : List Expr} {qs : List Px}
theorem s_make (cal : CalI CX X.prog X.w X.K X.mg X.base k c ps md g) (hr : Room k' X.A) (hx : Passes CX X E) (ha : PA X (e :: es) (tA X.K E qs)) (hg : Gl X c := by rfl) (hk : k + 1 ≤ k' := by decide)
    (hdb : (c == ("__debug__" : Str)) = false := by decide) (he : starEach (e :: es) X.env = (false, eval e X.env) :: starEach es X.env := by rfl) (hpl : (backTo pos (starEach es X.env)).any (·.1) = false := by rfl) :
    PE X (.Call (.Name c p) (e :: es) [] pos) (tP X.K E (pMake c g md qs)) := by
  obtain ⟨f, fd, F, b, M⟩ := cal.ex
  refine (pe_make M F (hr.mono hk) hg cal.hm b .nil hx ha hdb he hpl).imp fun σ H Q h => ?_
  refine tA_bind h fun Z O H1 G vs rs gd q nd fo h2 => ?_
  intro x dx h3 h4 ne
  rw [List.append_nil]
  exact make_ok gd q h2 x dx h3 h4 ne
end
end Oz

namespace Oz
open PySem PySem.Spec L2
open PyProof.Rows hiding St

/-! ### constants of the module -/
section
variable {X : Cx} {E : XK} {x : Str} {pos : Pos}
theorem s_globT {a : Addr} {d : D} (t : ∀ C, Rep X.K C (.ref a) d) (hm : X.mg x = some (.ref a)) (hg : Gl X x := by rfl) (hd : (x == ("__debug__" : Str)) = false := by decide) : PE X (.Name x pos) (tP X.K E (pC d)) := s_glob (v := .ref a) hg hm (show RelV (.ref a) (.ref a) from rfl) t hd
theorem s_globI {i : Int} (hm : ∃ t, X.mg x = some (.int i t)) (hg : Gl X x := by rfl) (hd : (x == ("__debug__" : Str)) = false := by decide) : PE X (.Name x pos) (tP X.K E (pC (.int i))) := by
  obtain ⟨t, hm⟩ := hm
  exact s_glob (v := .int i) hg hm ⟨t, rfl⟩ (fun C => .int i) hd
end
def dvD : He.Dv → Option D
  | .int i => some (.int i)
  | .str x => some (.str x)
  | .bl b => some (.bool b)
  | .non => some .none
  | _ => none
theorem dvs_rep {K : PySem.W.Frag} {C : Hp} : ∀ {vs : List He.Dv} {ds : List D}, vs.map dvD = ds.map some → Reps K C (vs.map (He.Dv.v K)) ds
  | [], [], _ => .nil
  | v :: vs, d :: ds, h => by
    simp only [List.map_cons, List.cons.injEq] at h
    refine .cons ?_ (dvs_rep h.2)
    have h1 := h.1
    cases v with
    | int i => cases h1; exact .int i
    | str x => cases h1; exact .str x
    | bl b => cases h1; exact .bl b
    | non => cases h1; exact .non
    | _ => cases h1
  | [], _ :: _, h => by simp at h
  | _ :: _, [], h => by simp at h
theorem tup_glob {K : PySem.W.Frag} {x : Str} {vs : List He.Dv} {ds : List D} (h : He.tupB K x vs = true) (e : vs.map dvD = ds.map some := by rfl) (C : Hp) : Rep K C (.ref (He.ga K x)) (.tuple ds) := .tup (He.tupB_ok h C) (dvs_rep e)

/-! ### slices -/
def cutD (ds : List D) (lo hi : Option Int) : List D := (ds.drop (HT.sIx ds.length 0 lo)).take (HT.sIx ds.length ds.length hi - HT.sIx ds.length 0 lo)
theorem Reps.cut {K : PySem.W.Frag} {C : Hp} {vs : List V} {ds : List D} (h : Reps K C vs ds) (lo hi : Option Int) : Reps K C (cutV vs lo hi) (cutD ds lo hi) := by
  unfold cutV cutD
  rw [h.length]
  exact (h.drop _).take _
def evO : Option Px → Ev → Res (Option Int)
  | none, _ => .ok none
  | some p, ρ => (p ρ).bind fun r => match r.d with
    | .int i => .ok (some i)
    | _ => .bad
def tPO (K : PySem.W.Frag) (E : XK) : Option Px → TO
  | none => tNoPart
  | some p => tPart (tP K E p)
def cutR (r : R) (lo hi : Option Int) : Res R := match r.d with
  | .list ds => dnew r.s (cutD ds lo hi)
  | .tuple ds => tnew r.s (cutD ds lo hi)
  | _ => .bad
def pSl (p : Px) (lo hi : Option Px) : Px := fun ρ => (p ρ).bind fun r => (evO lo ρ).bind fun l => (evO hi ρ).bind fun u => cutR r l u
section
variable {K : PySem.W.Frag} {E : XK} {Z O H Z1 O1 H1 : Hp} {σ : St} {ρ : Ev} {F : List Addr} {Q : VK}
theorem tPO_next {op : Option Px} {k : Option Int → Res R} (rl : Rel K Z1 O1 H1 σ ρ F) (x1 : Ext [] Z O H Z1 O1 H1) (h : ResK K E [] Z O H ((evO op ρ).bind k) Q) {T : Option Int → Hp → Prop}
    (next : ∀ o Z2 O2 H2, Ext [] Z1 O1 H1 Z2 O2 H2 → Rel K Z2 O2 H2 σ ρ F → ResK K E [] Z O H (k o) Q → T o H2) : tPO K E op σ H1 T := by
  cases op with
  | none => exact next none Z1 O1 H1 (Ext.refl _ _ _ _) rl h
  | some p =>
    refine ⟨Z1, O1, ρ, F, rl, ?_⟩
    have h : ResK K E [] Z O H (((p ρ).bind fun r => match r.d with | .int i => (Res.ok (some i) : Res (Option Int)) | _ => .bad).bind k) Q := h
    cases e : p ρ with
    | bad => rw [e] at h; exact h.elim
    | exc c fs => rw [e] at h; exact ExcK.ext h x1
    | ok r =>
      rw [e] at h
      simp only [Res.bind_ok] at h
      obtain ⟨s, d⟩ := r
      cases d with
      | int i =>
        intro v H2 Z2 O2 G x2 g2 q nd fr
        have lk := q.look g2
        cases lk
        exact ⟨i, rfl, next (some i) Z2 O2 H2 x2 (rl.ext x2 g2) h⟩
      | _ => exact h.elim
theorem pSl_ok {p : Px} {lo hi : Option Px} (h : tP K E (pSl p lo hi) σ H Q) : tSl (fun x l u H Q => rSlL K x l u H Q ∨ rSlA K x l u H Q) (tP K E p) (tPO K E lo) (tPO K E hi) σ H Q := by
  refine tP_bind (k := fun r ρ => (evO lo ρ).bind fun l => (evO hi ρ).bind fun u => cutR r l u) h fun Z O H1 Z1 O1 ρ F G v r rl x1 r1 q1 nd fr h2 => ?_
  refine tPO_next r1 x1 h2 fun l Z2 O2 H2 x2 r2 h3 => ?_
  refine tPO_next r2 (x1.trans0 x2) h3 fun u Z3 O3 H3 x3 r3 h4 => ?_
  have h5 : ResK K E [] Z3 O3 H3 (cutR r l u) Q := ResK.ext h4 ((x1.trans0 x2).trans0 x3) fun a ha => by cases ha
  have q3 := (q1.ext x2).ext x3
  obtain ⟨s, d⟩ := r
  have lk := q3.look r3.g
  cases d with
  | list ds =>
    cases lk with
    | lst ha rv =>
      rename_i a vs
      refine .inl ⟨_, _, rfl, .inl (.inl ha), fun p np => dnew_ok (s := s) r3.g h5 (rv.cut l u) (fun es => ?_) np⟩
      obtain ⟨p', vs', e1, e2, e3⟩ := q3.zlist es
      cases e1
      have := r3.g.zh _ _ e2
      rw [ha] at this
      cases this
      exact e3.cut l u
  | tuple ds =>
    have key : ∃ a vs, v = .ref a ∧ SqT K H3 a vs ∧ Reps K H3 vs ds ∧ (s = .imm → Reps K Z3 vs ds) := by
      by_cases es : s = .imm
      · obtain ⟨p', vs', e1, e2, e3⟩ := q3.ztup es
        exact ⟨p', vs', e1, Same.seqT r3.g.zh e2, e3.mono r3.g.zh, fun _ => e3⟩
      · cases lk with
        | tup ha rv => exact ⟨_, _, rfl, ha, rv, fun e => absurd e es⟩
    obtain ⟨a, vs, ev, ha, rv, rz⟩ := key
    subst ev
    · skip
      obtain ⟨z1, z2⟩ := tnew_z (s := s) r3.g h5 (rv.cut l u) fun es => (rz es).cut l u
      refine .inr ⟨a, vs, rfl, ha, fun hw => ?_, fun hw p np => tnew_ok (s := s) r3.g h5 (rv.cut l u) (fun es => (rz es).cut l u) np⟩
      have ec : cutD ds l u = ds := by
        unfold cutD
        rw [rv.length] at hw
        rw [hw.1, hw.2]
        simp
      rw [ec] at z1 z2
      have h6 : (Oz.lfs ds = true ∨ s = .imm) := by
        have h7 : ResK K E [] Z3 O3 H3 (tnew s ds) Q := by
          have := h5
          unfold cutR at this
          simp only [ec] at this
          exact this
        unfold tnew at h7
        by_cases c : Oz.lfs ds = true ∨ s = .imm
        · exact c
        · rw [if_neg c] at h7; exact h7.elim
      refine OkK.imm r3.g z2 ?_
      rcases h6 with h6 | h6
      · exact (Rep.tup ha rv).up r3.g.tz (show lf (.tuple ds) = true from h6)
      · subst h6
        exact q3.1
  | _ => exact h5.elim
end
section
variable {X : Cx} {E : XK} {e a b : Expr} {p q r : Px} {pos p2 : Pos}
theorem s_sl00 (he : PE X e (tP X.K E p)) : PE X (.Subscript e (.Slice none none none p2) pos) (tP X.K E (pSl p none none)) := (pe_slice (sl_list.or sl_tupA) he po_none po_none).imp fun σ H Q h => pSl_ok h
theorem s_sl10 (he : PE X e (tP X.K E p)) (ha : PE X a (tP X.K E q)) : PE X (.Subscript e (.Slice (some a) none none p2) pos) (tP X.K E (pSl p (some q) none)) := (pe_slice (sl_list.or sl_tupA) he (po_some ha) po_none).imp fun σ H Q h => pSl_ok h
theorem s_sl01 (he : PE X e (tP X.K E p)) (hb : PE X b (tP X.K E r)) : PE X (.Subscript e (.Slice none (some b) none p2) pos) (tP X.K E (pSl p none (some r))) := (pe_slice (sl_list.or sl_tupA) he po_none (po_some hb)).imp fun σ H Q h => pSl_ok h
theorem s_sl11 (he : PE X e (tP X.K E p)) (ha : PE X a (tP X.K E q)) (hb : PE X b (tP X.K E r)) : PE X (.Subscript e (.Slice (some a) (some b) none p2) pos) (tP X.K E (pSl p (some q) (some r))) := (pe_slice (sl_list.or sl_tupA) he (po_some ha) (po_some hb)).imp fun σ H Q h => pSl_ok h
end
/-! ### a list repeated -/
noncomputable def mulR (a b : R) : Res R := match a.d, b.d with
  | .int i, .int j => at2 fMul ⟨.imm, .int i⟩ ⟨.imm, .int j⟩
  | .list ds, .int k => if gd (decide (-(2 ^ 63) ≤ k ∧ k < 2 ^ 63)) = true ∧ ds.length * k.toNat ≤ sizeLine ∧ isOB a.s = true then dnew .view (List.replicate k.toNat ds).flatten else .bad
  | _, _ => .bad
theorem Reps.rep {K : PySem.W.Frag} {C : Hp} {vs : List V} {ds : List D} (h : Reps K C vs ds) : ∀ n : Nat, Reps K C (List.replicate n vs).flatten (List.replicate n ds).flatten
  | 0 => .nil
  | n + 1 => by
    rw [List.replicate_succ, List.replicate_succ, List.flatten_cons, List.flatten_cons]
    exact h.append (h.rep n)
theorem o_mul2 {K : PySem.W.Frag} : Op2 K (fun x y H Q => rI CMul (fun i j => .int (i * j)) x y H Q ∨ rRep x y H Q) mulR := by
  intro E Z O H x y a b F G Q g ra rb nd fo q
  obtain ⟨s, da⟩ := a
  obtain ⟨t, db⟩ := b
  have la := ra.look g
  have lb := rb.look g
  cases da with
  | int i => cases db with
    | int j =>
      cases la
      cases lb
      exact .inl (o_mul E Z O H _ _ ⟨.imm, .int i⟩ ⟨.imm, .int j⟩ [] [] Q g ⟨.int i, rfl⟩ ⟨.int j, rfl⟩ List.nodup_nil (fun c hc => by cases hc) (by
        have q2 : ResK K E (F ++ G) Z O H (at2 fMul ⟨.imm, .int i⟩ ⟨.imm, .int j⟩) Q := q
        unfold at2 at q2 ⊢
        cases e : fMul (PyData.int i) (PyData.int j) with
        | none => simp only [e] at q2; exact q2.elim
        | some d =>
          simp only [e] at q2 ⊢
          exact fun v H' Z' O' G' x g' r n f => q2 v H' Z' O' G' (x.mono fun c hc => by cases hc) g' r n fun c hc => ⟨.inl ((f c hc).1.elim id fun z => by cases z), (f c hc).2⟩))
    | _ => exact q.elim
  | list ds => cases db with
    | int k =>
      have q2 : ResK K E (F ++ G) Z O H (if gd (decide (-(2 ^ 63) ≤ k ∧ k < 2 ^ 63)) = true ∧ ds.length * k.toNat ≤ sizeLine ∧ isOB s = true then dnew .view (List.replicate k.toNat ds).flatten else .bad) Q := q
      by_cases c : gd (decide (-(2 ^ 63) ≤ k ∧ k < 2 ^ 63)) = true ∧ ds.length * k.toNat ≤ sizeLine ∧ isOB s = true
      · rw [if_pos c] at q2
        obtain ⟨c1, c2, c3⟩ := c
        have c4 := of_decide_eq_true (gd_el c1)
        cases lb
        cases la with
        | lst ha rv =>
          exact .inr ⟨_, k, _, rfl, rfl, ha, c4.1, c4.2, by rw [rv.length]; exact c2, fun p np => dnew_ok (s := .view) g q2 (rv.rep _) (fun es => by cases es) np⟩
      · rw [if_neg c] at q2; exact q2.elim
    | _ => exact q.elim
  | _ => cases db <;> exact q.elim
theorem op_mul2 {X : Cx} : OpR X (binaryOp .Mult) (fun x y H Q => rI CMul (fun i j => .int (i * j)) x y H Q ∨ rRep x y H Q) := OpR.or op_mul op_rep
/-! ### the head's Hook, with a check of one's own -/
noncomputable section
def hookX (n : Nat) (fa : List He.Fa) (fn : List He.DefD) (ck : PySem.W.Frag → Bool) : PySem.W.Hook where
  α := Bool × He.AlD
  obs := fun s => (ck (He.frG s.heap.get? (He.asD s.heap.get? n)), He.obsDG n fa fn s.heap.get?)
  val := fun _ => (true, He.valD fn)
  says := fun _ h => ∃ K : PySem.W.Frag, K.In h ∧ He.SaysD fa fn K ∧ ck K = true
  of := fun _ _ e => ⟨_, He.frG_in, (Prod.mk.inj e).2, (Prod.mk.inj e).1⟩
  keeps := fun _ _ _ ⟨K, hK, c⟩ k => ⟨K, PySem.W.Frag.In.keeps hK k, c⟩
end
end Oz

namespace Oz
open PySem PySem.Spec L2
open PyProof.Rows hiding St

/-! ### what one owns lasts from now on -/
def frzE (i : Nat) (ρ : Ev) : Ev := match ρ[i]? with
  | some (some ⟨.own, d⟩) => ρ.set i (some ⟨.imm, d⟩)
  | _ => ρ
def sFrz (i : Nat) (s : Stx) : Stx := fun ρ => s (frzE i ρ)
section
variable {K : PySem.W.Frag} {Z O H : Hp} {σ : St} {ρ : Ev} {F : List Addr}
theorem frz_ok (rl : Rel K Z O H σ ρ F) (n : nov ρ = true) (i : Nat) : ∃ Z' O' F', Rel K Z' O' H σ (frzE i ρ) F' ∧ nov (frzE i ρ) = true ∧ TrS Z O H σ ρ F Z' O' H σ (frzE i ρ) F' := by
  have same : ∃ Z' O' F', Rel K Z' O' H σ ρ F' ∧ nov ρ = true ∧ TrS Z O H σ ρ F Z' O' H σ ρ F' := ⟨Z, O, F, rl, n, TrS.refl _ _ _ _ _ _⟩
  unfold frzE
  cases e : ρ[i]? with
  | none => exact same
  | some y =>
    cases y with
    | none => exact same
    | some r =>
      obtain ⟨s, d⟩ := r
      cases s with
      | own =>
        obtain ⟨hl, _⟩ := List.getElem?_eq_some_iff.mp e
        obtain ⟨x, y, F1, G, F2, h1, h2, h3, h4, h5⟩ := rl.sl.focus hl
        rw [e] at h2
        cases h2
        cases x with
        | none => exact h4.elim
        | some v =>
          have ow : Own K Z H v d G := h4
          have nF := rl.nd
          rw [h3] at nF
          obtain ⟨n1, n2, n3⟩ := List.nodup_append.mp nF
          obtain ⟨n4, n5, n6⟩ := List.nodup_append.mp n2
          have inF : ∀ a ∈ G, a ∈ F := fun a ha => by rw [h3]; simp [ha]
          have oG : ∀ a ∈ G, O a = none := fun a ha => rl.fo a (inF a ha)
          have zG : ∀ a ∈ G, Z a = none := fun a ha => rl.g.zo.free (oG a ha)
          let Z' : Hp := fun a => if a ∈ G then H a else Z a
          let O' : Hp := fun a => if a ∈ G then H a else O a
          have z1 : ∀ a, a ∈ G → Z' a = H a := fun a ha => if_pos ha
          have z0 : ∀ a, a ∉ G → Z' a = Z a := fun a ha => if_neg ha
          have o1 : ∀ a, a ∈ G → O' a = H a := fun a ha => if_pos ha
          have o0 : ∀ a, a ∉ G → O' a = O a := fun a ha => if_neg ha
          have zz : Same Z Z' := fun a o h => by
            rw [z0 a fun ha => by rw [zG a ha] at h; cases h]; exact h
          have oo : Same O O' := fun a o h => by
            rw [o0 a fun ha => by rw [oG a ha] at h; cases h]; exact h
          have gd : Good Z' O' H := by
            refine ⟨fun a o h => ?_, fun a o h => ?_, fun a o h f => zz a o (rl.g.tz a o h f)⟩
            · by_cases ha : a ∈ G
              · rw [z1 a ha] at h; rw [o1 a ha]; exact h
              · rw [z0 a ha] at h; rw [o0 a ha]; exact rl.g.zo a o h
            · by_cases ha : a ∈ G
              · rw [o1 a ha] at h; exact h
              · rw [o0 a ha] at h; exact rl.g.oh a o h
          have rp : Rep K Z' v d := Own.rep (Same.refl Z') (Own.mono zz (fun a ha o h => by rw [z1 a ha]; exact h) ow)
          have sl := h5 (some v) (some ⟨.imm, d⟩) [] Z' O' H zz oo (.inl (Same.refl _)) (fun a _ o h => h) ⟨rp, rfl⟩
          rw [set_same h1] at sl
          have sb : (F1 ++ ([] ++ F2)).Sublist F := by
            rw [h3, List.nil_append]
            exact List.Sublist.append (List.Sublist.refl _) (List.sublist_append_right _ _)
          have nG : ∀ a ∈ F1 ++ ([] ++ F2), a ∉ G := fun a ha z => by
            rcases List.mem_append.mp ha with ha | ha
            · exact n3 a ha a (List.mem_append_left _ z) rfl
            · exact n6 a z a (by simpa using ha) rfl
          refine ⟨Z', O', _, ⟨gd, rl.nd.sublist sb, fun a ha => by rw [o0 a (nG a ha)]; exact rl.fo a (sb.subset ha), sl⟩, nov_set n (fun d' e' => by cases e'), ⟨⟨zz, fun a o h _ => h, fun a h => ?_, fun a ha => .inl (sb.subset ha)⟩, oo, rfl, fun j dj hj => ⟨rfl, dj, ?_⟩⟩⟩
          · by_cases ha : a ∈ G
            · exact .inr (.inl (inF a ha))
            · rw [z0 a ha] at h; exact .inl h
          · have ne : i ≠ j := fun z => by rw [z] at e; rw [e] at hj; cases hj
            rw [List.getElem?_set_ne ne]
            exact hj
      | _ => exact same
end
theorem s_frz {X : Cx} {E : XK} {st : Stmt} {s : Stx} (i : Nat) (h : PS X st (tS X.K E s)) : PS X st (tS X.K E (sFrz i s)) := h.imp fun D σ H q => by
  obtain ⟨Z, O, ρ, F, rl, n, q⟩ := q
  obtain ⟨Z', O', F', rl', n', tr⟩ := frz_ok rl n i
  exact ⟨Z', O', _, F', rl', n', SRK.from q tr⟩

/-! ### reckoning, continued -/
section
variable {ρ : Ev}
@[simp] theorem x_frz {i : Nat} {s : Stx} : sFrz i s ρ = s (frzE i ρ) := id rfl
@[simp] theorem x_frzE {i : Nat} : frzE i ρ = (match ρ[i]? with | some (some ⟨.own, d⟩) => ρ.set i (some ⟨.imm, d⟩) | _ => ρ) := id rfl
@[simp] theorem x_setI {l : Plx} {p q : Px} : sSetI l p q ρ = (match q ρ with
  | .bad => .bad
  | .exc c fs => .exc c fs ρ
  | .ok r => (match ownR r with
    | none => .bad
    | some d => (match l ρ with
      | .bad => .bad
      | .exc c fs => .exc c fs ρ
      | .ok l => (match p ρ with
        | .bad => .bad
        | .exc c fs => .exc c fs ρ
        | .ok i => (match l.d, i.d with
          | .list ds, .int k => (match ixN ds.length k with
            | some j => putE l (.list (ds.set j d)) ρ
            | none => .bad)
          | _, _ => .bad))))) := id rfl
@[simp] theorem x_put {l : Plx} {p q : Px} : sPut l p q ρ = (match q ρ with
  | .bad => .bad
  | .exc c fs => .exc c fs ρ
  | .ok r => (match ownR r with
    | none => .bad
    | some d => (match l ρ with
      | .bad => .bad
      | .exc c fs => .exc c fs ρ
      | .ok l => (match p ρ with
        | .bad => .bad
        | .exc c fs => .exc c fs ρ
        | .ok i => (match l.d, keyOf i.d with
          | .dict es, some k => if isDct es = true ∧ ukD k es = true ∧ es.length < sizeLine then putE l (.dict (ptD k d es)) ρ else .bad
          | _, _ => .bad))))) := id rfl
@[simp] theorem x_fldS {c f : Str} {l : Plx} {q : Px} : sFldS c f l q ρ = (match q ρ with
  | .bad => .bad
  | .exc c fs => .exc c fs ρ
  | .ok r => (match ownR r with
    | none => .bad
    | some d => (match l ρ with
      | .bad => .bad
      | .exc c fs => .exc c fs ρ
      | .ok l => (match unO c l.d with
        | some es => if es.length < 1000 then putE l (objD c (ptD (.inr f) d es)) ρ else .bad
        | none => .bad)))) := id rfl
@[simp] theorem x_plK {l : Plx} {p : Px} : plK l p ρ = ((l ρ).bind fun l => (p ρ).bind fun r => match l.d, keyOf r.d with
  | .dict es, some k => if isDct es = true ∧ ukD k es = true then (match lkD k es with
    | some d => .ok ⟨l.i, d, fun y => l.put (.dict (ptD k y es))⟩
    | none => .bad) else .bad
  | _, _ => .bad) := id rfl
@[simp] theorem x_plF {c f : Str} {l : Plx} : plF c f l ρ = ((l ρ).bind fun l => match unO c l.d with
  | some es => (match lkD (.inr f) es with
    | some d => .ok ⟨l.i, d, fun y => l.put (objD c (ptD (.inr f) y es))⟩
    | none => .bad)
  | none => .bad) := id rfl
@[simp] theorem x_fld {c f : Str} {p : Px} : pFld c f p ρ = ((p ρ).bind fun r => match unO c r.d with
  | some es => (match lkD (.inr f) es with
    | some d => .ok (sub r.s d)
    | none => .bad)
  | none => .bad) := id rfl
@[simp] theorem x_keyR {a b : R} : keyR a b = (match a.d, keyOf b.d with
  | .dict es, some k => if isDct es = true then (match lkD k es with
    | some d => .ok (sub a.s d)
    | none => .bad) else .bad
  | _, _ => .bad) := id rfl
@[simp] theorem x_unO {c : Str} {es : List (D × D)} : unO c (objD c es) = some es := by unfold unO objD; simp
@[simp] theorem lf_obj {c : Str} {es : List (D × D)} : lf (objD c es) = false := id rfl
@[simp] theorem x_mP {p : Px} : mP p ρ = (match p ρ with | .bad => .bad | .exc c fs => .exc c fs ρ | .ok r => .ret r ρ) := id rfl
@[simp] theorem x_mBind {s : Stx} {k : R → Stx} : mBind s k ρ = (match s ρ with | .ret r ρ' => k r ρ' | .exc c fs ρ' => .exc c fs ρ' | _ => .bad) := id rfl
@[simp] theorem x_mAnd {s t : Stx} : mAnd s t ρ = (match s ρ with | .ret r ρ' => (match truth r.d with | some true => t ρ' | some false => .ret r ρ' | none => .bad) | .exc c fs ρ' => .exc c fs ρ' | _ => .bad) := id rfl
@[simp] theorem x_mOr {s t : Stx} : mOr s t ρ = (match s ρ with | .ret r ρ' => (match truth r.d with | some true => .ret r ρ' | some false => t ρ' | none => .bad) | .exc c fs ρ' => .exc c fs ρ' | _ => .bad) := id rfl
@[simp] theorem x_mNot {s : Stx} : mNot s ρ = (match s ρ with | .ret r ρ' => (match truth r.d with | some b => .ret ⟨.imm, .bool (!b)⟩ ρ' | none => .bad) | .exc c fs ρ' => .exc c fs ρ' | _ => .bad) := id rfl
@[simp] theorem x_mTru {s : Stx} : mTru s ρ = (match s ρ with | .ret r ρ' => (match truth r.d with | some b => .ret ⟨.imm, .bool b⟩ ρ' | none => .bad) | .exc c fs ρ' => .exc c fs ρ' | _ => .bad) := id rfl
@[simp] theorem x_mTnot {s : Stx} : mTnot s ρ = (match s ρ with | .ret ⟨_, .bool b⟩ ρ' => .ret ⟨.imm, .bool (!b)⟩ ρ' | .exc c fs ρ' => .exc c fs ρ' | _ => .bad) := id rfl
@[simp] theorem x_mT {t : Tx} : mT t ρ = (match t ρ with | .bad => .bad | .exc c fs => .exc c fs ρ | .ok b => .ret ⟨.imm, .bool b⟩ ρ) := id rfl
@[simp] theorem x_mIfE {c s t : Stx} : mIfE c s t ρ = (match c ρ with | .ret ⟨_, .bool b⟩ ρ' => if b = true then s ρ' else t ρ' | .exc c fs ρ' => .exc c fs ρ' | _ => .bad) := id rfl
@[simp] theorem x_mIf {c s t : Stx} : mIf c s t ρ = (match c ρ with | .ret ⟨_, .bool b⟩ ρ' => if b = true then s ρ' else t ρ' | .exc c fs ρ' => .exc c fs ρ' | _ => .bad) := id rfl
@[simp] theorem x_mRet {s : Stx} : mRet s ρ = (match s ρ with | .ret r ρ' => if storable r = true then .ret r ρ' else .bad | .exc c fs ρ' => .exc c fs ρ' | _ => .bad) := id rfl
@[simp] theorem x_mAsg {i : Nat} {s : Stx} : mAsg i s ρ = (match s ρ with | .ret r ρ' => (match setS i r ρ' with | some ρ2 => .next ρ2 | none => .bad) | .exc c fs ρ' => .exc c fs ρ' | _ => .bad) := id rfl
@[simp] theorem x_mDrop {s : Stx} : mDrop s ρ = (match s ρ with | .ret _ ρ' => .next ρ' | .exc c fs ρ' => .exc c fs ρ' | _ => .bad) := id rfl
@[simp] theorem x_evx0 : evx [] ρ = .ok [] := id rfl
@[simp] theorem x_evxp {e : Px} {ks : List Ax} : evx (.p e :: ks) ρ = ((e ρ).bind fun r => if r.s = .view then .bad else (evx ks ρ).bind fun rs => .ok (.p r :: rs)) := id rfl
@[simp] theorem x_evxn {j : Nat} {ks : List Ax} : evx (.n j :: ks) ρ = (match ρ[j]? with | some (some r) => (evx ks ρ).bind fun rs => .ok (.n j r :: rs) | _ => .bad) := id rfl
@[simp] theorem x_mCall {f : Fn} {md : List Md} {i : Nat} {ks : List Ax} : mCall f md i ks ρ = (match evx ks ρ with
  | .bad => .bad
  | .exc c fs => .exc c fs ρ
  | .ok rs => (match xargs i md rs with
    | none => .bad
    | some ds => (match ρ[i]? with
      | some (some ⟨s, _⟩) => if isOB s = true ∧ nm md = 1 then mOut i s (f ds) ρ else .bad
      | _ => .bad))) := id rfl
@[simp] theorem x_mMeth {c mn : Str} {f : Fn} {md : List Md} {i : Nat} {ks : List Ax} : mMeth c mn f md i ks ρ = (match ρ[i]? with
  | some (some ⟨_, d⟩) => (match unO c d with
    | some es => if lkD (.inr mn) es = none then mCall f md i (.n i :: ks) ρ else .bad
    | none => .bad)
  | _ => .bad) := id rfl
@[simp] theorem x_mOut {i : Nat} {s : Sx} {r : R} {d' : D} : mOut i s (.ok r [d']) ρ = .ret r (ρ.set i (some ⟨s, d'⟩)) := id rfl
@[simp] theorem x_mOutX {i : Nat} {s : Sx} {c : Str} {fs : List (Str × D)} {d' : D} : mOut i s (.exc c fs [d']) ρ = .exc c fs (ρ.set i (some ⟨s, d'⟩)) := id rfl
@[simp] theorem xa_nil {i : Nat} : xargs i [] [] = some [] := id rfl
@[simp] theorem xa_m {i j : Nat} {md : List Md} {r : R} {rs : List AR} : xargs i (.m :: md) (.n j r :: rs) = if j = i then (xargs i md rs).map (r.d :: ·) else none := id rfl
@[simp] theorem xa_vp {i : Nat} {md : List Md} {r : R} {rs : List AR} : xargs i (.v :: md) (.p r :: rs) = (xargs i md rs).map (r.d :: ·) := id rfl
@[simp] theorem xa_vn {i j : Nat} {md : List Md} {r : R} {rs : List AR} : xargs i (.v :: md) (.n j r :: rs) = if j = i then none else (xargs i md rs).map (r.d :: ·) := id rfl
@[simp] theorem nm0 : nm [] = 0 := id rfl
@[simp] theorem nmm {md : List Md} : nm (.m :: md) = nm md + 1 := id rfl
@[simp] theorem nmv {md : List Md} : nm (.v :: md) = nm md := id rfl
@[simp] theorem nmi {md : List Md} : nm (.i :: md) = nm md := id rfl
@[simp] theorem ob_own : isOB .own = true := id rfl
@[simp] theorem ob_brw : isOB .brw = true := id rfl
@[simp] theorem x_make {c : Str} {g : Fn} {md : List Md} {ps : List Px} : pMake c g md ps ρ = ((evs ps ρ).bind fun rs => match pargs md rs with
  | some ds => (match g (objD c [] :: ds) with
    | .ok ⟨.imm, .none⟩ [d'] => .ok ⟨.own, d'⟩
    | .exc c fs [_] => .exc c fs
    | _ => .bad)
  | none => .bad) := id rfl
@[simp] theorem x_neg {p : Px} : pNeg p ρ = ((p ρ).bind fun r => match r.d with | .int i => .ok ⟨.imm, .int (-i)⟩ | _ => .bad) := id rfl
@[simp] theorem x_sl {p : Px} {lo hi : Option Px} : pSl p lo hi ρ = ((p ρ).bind fun r => (evO lo ρ).bind fun l => (evO hi ρ).bind fun u => cutR r l u) := id rfl
@[simp] theorem x_evO0 : evO none ρ = .ok none := id rfl
@[simp] theorem x_evO1 {p : Px} : evO (some p) ρ = ((p ρ).bind fun r => match r.d with | .int i => .ok (some i) | _ => .bad) := id rfl
end
@[simp] theorem x_cutT {s : Sx} {ds : List D} {l u : Option Int} : cutR ⟨s, .tuple ds⟩ l u = tnew s (cutD ds l u) := id rfl
@[simp] theorem x_cutL {s : Sx} {ds : List D} {l u : Option Int} : cutR ⟨s, .list ds⟩ l u = dnew s (cutD ds l u) := id rfl
@[simp] theorem x_isN {b : D} : isF b .none = some (.bool (match b with | .none => true | _ => false)) := by cases b <;> rfl
@[simp] theorem x_isnN {b : D} : isnF b .none = some (.bool (match b with | .none => false | _ => true)) := by cases b <;> rfl
@[simp] theorem x_mul_ii {s t : Sx} {i j : Int} : mulR ⟨s, .int i⟩ ⟨t, .int j⟩ = (match fMul (.int i) (.int j) with | some d => .ok ⟨.imm, d⟩ | none => .bad) := id rfl
@[simp] theorem keyOf_i {i : Int} : keyOf (.int i) = some (.inl i) := id rfl
@[simp] theorem keyOf_s {x : Str} : keyOf (.str x) = some (.inr x) := id rfl
@[simp] theorem lkD_nil {k : Key} : lkD k [] = none := id rfl
@[simp] theorem lkD_cons {k : Key} {a d : D} {r : List (D × D)} : lkD k ((a, d) :: r) = if keyOf a = some k then some d else lkD k r := id rfl
@[simp] theorem ptD_nil {k : Key} {d : D} : ptD k d [] = [(kd k, d)] := id rfl
@[simp] theorem ptD_cons {k : Key} {a x d : D} {r : List (D × D)} : ptD k d ((a, x) :: r) = if keyOf a = some k then (a, d) :: r else (a, x) :: ptD k d r := id rfl
@[simp] theorem kd_s {x : Str} : kd (.inr x) = .str x := id rfl
@[simp] theorem kd_i {x : Int} : kd (.inl x) = .int x := id rfl
end Oz

namespace Oz
open PySem PySem.Spec L2
open PyProof.Rows hiding St

/-! ### slots that nobody reads any more -/
def mskE : List Bool → Ev → Ev
  | [], ρ => ρ
  | _ :: _, [] => []
  | true :: bs, x :: ρ => x :: mskE bs ρ
  | false :: bs, x :: ρ => (match x with
    | some ⟨.brw, d⟩ => some ⟨.brw, d⟩
    | _ => none) :: mskE bs ρ
section
variable {K : PySem.W.Frag} {E : XK} {Z O H Z1 O1 H1 : Hp} {σ σ1 : St} {ρ ρ1 : Ev} {F F1 : List Addr} {nx : St → Hp → Prop} {rt : VK}
theorem Slots.msk : ∀ (bs : List Bool) {σ : List (Option V)} {ρ : Ev} {F : List Addr}, Slots K Z O H σ ρ F → ∃ F', Slots K Z O H σ (mskE bs ρ) F' ∧ F'.Sublist F
  | [], _, _, F, s => ⟨F, s, List.Sublist.refl _⟩
  | _ :: _, _, _, _, .nil => ⟨[], .nil, List.Sublist.refl _⟩
  | true :: bs, _, _, F, .non s => by
    obtain ⟨F', h1, h2⟩ := Slots.msk bs s
    exact ⟨F', .non h1, h2⟩
  | true :: bs, _, _, _, .val r s => by
    obtain ⟨F', h1, h2⟩ := Slots.msk bs s
    exact ⟨_, .val r h1, List.Sublist.append (List.Sublist.refl _) h2⟩
  | false :: bs, _, _, F, .non s => by
    obtain ⟨F', h1, h2⟩ := Slots.msk bs s
    exact ⟨F', .non h1, h2⟩
  | false :: bs, _, _, _, .val (r := r) q s => by
    obtain ⟨F', h1, h2⟩ := Slots.msk bs s
    obtain ⟨s, d⟩ := r
    cases s with
    | brw => exact ⟨_, .val q h1, List.Sublist.append (List.Sublist.refl _) h2⟩
    | _ => exact ⟨F', .non h1, h2.trans (List.sublist_append_right _ _)⟩
theorem nov_msk : ∀ (bs : List Bool) {ρ : Ev}, nov ρ = true → nov (mskE bs ρ) = true
  | [], _, n => n
  | _ :: _, [], n => n
  | true :: bs, x :: ρ, n => by
    have n1 : (_ && nov ρ) = true := n
    obtain ⟨n2, n3⟩ := Bool.and_eq_true_iff.mp n1
    show (_ && nov (mskE bs ρ)) = true
    rw [nov_msk bs n3, Bool.and_true]
    exact n2
  | false :: bs, x :: ρ, n => by
    have n1 : (_ && nov ρ) = true := n
    obtain ⟨n2, n3⟩ := Bool.and_eq_true_iff.mp n1
    show (_ && nov (mskE bs ρ)) = true
    rw [nov_msk bs n3, Bool.and_true]
    cases x with
    | none => rfl
    | some r =>
      obtain ⟨s, d⟩ := r
      cases s <;> rfl
theorem msk_brw : ∀ (bs : List Bool) {ρ : Ev} {j : Nat} {d : D}, ρ[j]? = some (some (R.mk .brw d)) → (mskE bs ρ)[j]? = some (some (R.mk .brw d))
  | [], _, _, _, h => h
  | _ :: _, [], _, _, h => h
  | true :: bs, x :: ρ, 0, _, h => h
  | true :: bs, x :: ρ, j + 1, _, h => by
    have := msk_brw bs (ρ := ρ) (j := j) (by simpa using h)
    simpa [mskE] using this
  | false :: bs, x :: ρ, 0, _, h => by
    simp at h
    subst h
    rfl
  | false :: bs, x :: ρ, j + 1, _, h => by
    have := msk_brw bs (ρ := ρ) (j := j) (by simpa using h)
    simpa [mskE] using this
theorem Rel.msk (rl : Rel K Z O H σ ρ F) (bs : List Bool) : ∃ F', Rel K Z O H σ (mskE bs ρ) F' ∧ F'.Sublist F := by
  obtain ⟨F', h1, h2⟩ := rl.sl.msk bs
  exact ⟨F', ⟨rl.g, rl.nd.sublist h2, fun a ha => rl.fo a (h2.subset ha), h1⟩, h2⟩
theorem TrS.msk (t : TrS Z O H σ ρ F Z1 O1 H1 σ1 ρ1 F1) (bs : List Bool) {F' : List Addr} (h : F'.Sublist F1) : TrS Z O H σ ρ F Z1 O1 H1 σ1 (mskE bs ρ1) F' :=
  ⟨⟨t.tr.z, t.tr.keep, t.tr.zn, fun a ha => t.tr.fn a (h.subset ha)⟩, t.o, t.len, fun j d hj => by
    obtain ⟨e, d', h'⟩ := t.brw j d hj
    exact ⟨e, d', msk_brw bs h'⟩⟩
def sEnd (ks rs : List Bool) (s : Stx) : Stx := fun ρ => match s ρ with
  | .bad => .bad
  | .next ρ' => .next (mskE ks ρ')
  | .ret r ρ' => .ret r (mskE rs ρ')
  | .exc c fs ρ' => .exc c fs (mskE rs ρ')
def sPre (ks : List Bool) (s : Stx) : Stx := fun ρ => s (mskE ks ρ)
theorem SRK.fin {r : SR} {ks rs : List Bool} (h : SRK K E Z O H σ ρ F nx rt (match r with
    | .bad => .bad
    | .next ρ' => .next (mskE ks ρ')
    | .ret r ρ' => .ret r (mskE rs ρ')
    | .exc c fs ρ' => .exc c fs (mskE rs ρ'))) : SRK K E Z O H σ ρ F nx rt r := by
  cases r with
  | bad => exact h
  | next ρ' =>
    intro σ' H' Z' O' F' q n u
    obtain ⟨F2, rl, sb⟩ := q.msk ks
    exact h σ' H' Z' O' F2 rl (nov_msk ks n) (u.msk ks sb)
  | ret r ρ' =>
    intro v σ' H' Z' O' F' G q w nd fo u u2
    obtain ⟨F2, rl, sb⟩ := q.msk rs
    have sb2 : (F2 ++ G).Sublist (F' ++ G) := List.Sublist.append sb (List.Sublist.refl _)
    exact h v σ' H' Z' O' F2 G rl w (nd.sublist sb2) fo ⟨u.z, u.keep, u.zn, fun a ha => u.fn a (sb2.subset ha)⟩ (u2.msk rs sb)
  | exc c fs ρ' =>
    intro σ' H' Z' O' F' d xs q u hd e1 e2
    obtain ⟨F2, rl, sb⟩ := q.msk rs
    exact h σ' H' Z' O' F2 d xs rl (u.msk rs sb) hd e1 e2
theorem tS_end {s : Stx} {ks rs : List Bool} {D : Ends} (h : tS K E (sEnd ks rs s) D σ H) : tS K E s D σ H := by
  obtain ⟨Z, O, ρ, F, rl, n, h⟩ := h
  exact ⟨Z, O, ρ, F, rl, n, SRK.fin h⟩
theorem tS_pre {s : Stx} {ks : List Bool} {D : Ends} (h : tS K E (sPre ks s) D σ H) : tS K E s D σ H := by
  obtain ⟨Z, O, ρ, F, rl, n, h⟩ := h
  obtain ⟨F2, rl2, sb⟩ := rl.msk ks
  exact ⟨Z, O, _, F2, rl2, nov_msk ks n, SRK.from h ((TrS.refl Z O H σ ρ F).msk ks sb)⟩
end
section
variable {X : Cx} {E : XK} {st : Stmt} {ss : List Stmt} {s : Stx}
theorem s_end (ks rs : List Bool) (h : PS X st (tS X.K E s)) : PS X st (tS X.K E (sEnd ks rs s)) := h.imp fun _ _ _ q => tS_end q
theorem s_ends (ks rs : List Bool) (h : PSs X ss (tS X.K E s)) : PSs X ss (tS X.K E (sEnd ks rs s)) := h.imp fun _ _ _ q => tS_end q
theorem s_pre (ks : List Bool) (h : PS X st (tS X.K E s)) : PS X st (tS X.K E (sPre ks s)) := h.imp fun _ _ _ q => tS_pre q
end
@[simp] theorem mskE_nil {ρ : Ev} : mskE [] ρ = ρ := by cases ρ <;> rfl
@[simp] theorem mskE_nil2 {bs : List Bool} : mskE bs [] = [] := by cases bs <;> rfl
@[simp] theorem mskE_t {bs : List Bool} {x : Option R} {ρ : Ev} : mskE (true :: bs) (x :: ρ) = x :: mskE bs ρ := rfl
@[simp] theorem mskE_f0 {bs : List Bool} {ρ : Ev} : mskE (false :: bs) (none :: ρ) = none :: mskE bs ρ := rfl
@[simp] theorem mskE_fi {bs : List Bool} {d : D} {ρ : Ev} : mskE (false :: bs) (some ⟨.imm, d⟩ :: ρ) = none :: mskE bs ρ := rfl
@[simp] theorem mskE_fo {bs : List Bool} {d : D} {ρ : Ev} : mskE (false :: bs) (some ⟨.out, d⟩ :: ρ) = none :: mskE bs ρ := rfl
@[simp] theorem mskE_fw {bs : List Bool} {d : D} {ρ : Ev} : mskE (false :: bs) (some ⟨.own, d⟩ :: ρ) = none :: mskE bs ρ := rfl
@[simp] theorem mskE_fv {bs : List Bool} {d : D} {ρ : Ev} : mskE (false :: bs) (some ⟨.view, d⟩ :: ρ) = none :: mskE bs ρ := rfl
@[simp] theorem mskE_fb {bs : List Bool} {d : D} {ρ : Ev} : mskE (false :: bs) (some ⟨.brw, d⟩ :: ρ) = some ⟨.brw, d⟩ :: mskE bs ρ := rfl
section
variable {ρ : Ev}
@[simp] theorem x_end {ks rs : List Bool} {s : Stx} : sEnd ks rs s ρ = (match s ρ with
  | .bad => .bad
  | .next ρ' => .next (mskE ks ρ')
  | .ret r ρ' => .ret r (mskE rs ρ')
  | .exc c fs ρ' => .exc c fs (mskE rs ρ')) := id rfl
@[simp] theorem x_pre {ks : List Bool} {s : Stx} : sPre ks s ρ = s (mskE ks ρ) := id rfl
end
end Oz

namespace Oz
open PySem PySem.Spec L2
open PyProof.Rows hiding St

/-! ### loops over frames of one shape -/
/-- one turn -/
def stp (g : Tgx) (b : Stx) (r : R) (ρ : Ev) : SR := match g r ρ with
  | none => .bad
  | some ρ1 => b ρ1
theorem x_stp {g : Tgx} {b : Stx} {r : R} {ρ : Ev} : stp g b r ρ = (match g r ρ with
  | none => .bad
  | some ρ1 => b ρ1) := rfl
theorem loop_c {g : Tgx} {b : Stx} {r : R} {rs : List R} {ρ : Ev} : loopS g b (r :: rs) ρ = (match stp g b r ρ with
  | .next ρ2 => loopS g b rs ρ2
  | x => x) := by
  rw [loop_cons]
  unfold stp
  cases g r ρ <;> rfl
/-- to the end: the frame is env of a state, the state keeps I of what was taken -/
theorem loop_st {α σ : Type} (env : σ → Ev) (I : List α → σ → Prop) {g : Tgx} {b : Stx} {item : α → R} (xs : List α) (s0 : σ) (h0 : I [] s0)
    (hs : ∀ pre x post s, xs = pre ++ x :: post → I pre s → ∃ s', stp g b (item x) (env s) = .next (env s') ∧ I (pre ++ [x]) s') :
    ∃ s', loopS g b (xs.map item) (env s0) = .next (env s') ∧ I xs s' := by
  obtain ⟨ρ', e, s', rfl, h⟩ := loop_inv (g := g) (b := b) (item := item) (xs := xs) (ρ := env s0) (fun pre ρ => ∃ s, ρ = env s ∧ I pre s) ⟨s0, rfl, h0⟩ (by
    rintro pre x post ρ hx ⟨s, rfl, hI⟩
    obtain ⟨s', e, h⟩ := hs pre x post s hx hI
    unfold stp at e
    cases q : g (item x) (env s) with
    | none => rw [q] at e; cases e
    | some ρ1 => rw [q] at e; exact ⟨ρ1, env s', rfl, e, s', rfl, h⟩)
  exact ⟨s', e, h⟩
/-- to the end by a function of the state -/
theorem loop_fold {α σ : Type} (env : σ → Ev) (f : σ → α → σ) (I : List α → σ → Prop) {g : Tgx} {b : Stx} {item : α → R} (xs : List α) (s0 : σ) (h0 : I [] s0)
    (hs : ∀ pre x post s, xs = pre ++ x :: post → I pre s → stp g b (item x) (env s) = .next (env (f s x)) ∧ I (pre ++ [x]) (f s x)) :
    loopS g b (xs.map item) (env s0) = .next (env (xs.foldl f s0)) ∧ I xs (xs.foldl f s0) := by
  obtain ⟨s', e, h, rfl⟩ := loop_st env (fun pre s => I pre s ∧ s = pre.foldl f s0) (g := g) (b := b) (item := item) xs s0 ⟨h0, rfl⟩ (by
    rintro pre x post s hx ⟨hI, rfl⟩
    obtain ⟨h1, h2⟩ := hs pre x post _ hx hI
    exact ⟨_, h1, h2, by simp⟩)
  exact ⟨e, h⟩
/-- until something is returned -/
def runL {α σ ε : Type} (f : σ → α → Except ε σ) : List α → σ → Except ε σ
  | [], s => .ok s
  | x :: xs, s => match f s x with
    | .ok s' => runL f xs s'
    | .error e => .error e
theorem loop_run {α σ ε : Type} (env : σ → Ev) (ret : ε → SR) (f : σ → α → Except ε σ) (I : List α → σ → Prop) {g : Tgx} {b : Stx} {item : α → R} (hr : ∀ e ρ, ret e ≠ .next ρ) :
    ∀ (xs : List α) (s0 : σ) (h0 : I [] s0)
    (hs : ∀ pre x post s, xs = pre ++ x :: post → I pre s → match f s x with
      | .ok s' => stp g b (item x) (env s) = .next (env s') ∧ I (pre ++ [x]) s'
      | .error e => stp g b (item x) (env s) = ret e),
    match runL f xs s0 with
    | .ok s' => loopS g b (xs.map item) (env s0) = .next (env s') ∧ I xs s'
    | .error e => loopS g b (xs.map item) (env s0) = ret e
  | [], s0, h0, hs => ⟨rfl, h0⟩
  | x :: xs, s0, h0, hs => by
    have h1 := hs [] x xs s0 rfl h0
    rw [List.map_cons, loop_c]
    unfold runL
    cases e : f s0 x with
    | error er =>
      rw [e] at h1
      simp only at h1 ⊢
      rw [h1]
      cases q : ret er with
      | next ρ => exact absurd q (hr er ρ)
      | _ => rfl
    | ok s' =>
      rw [e] at h1
      simp only at h1 ⊢
      rw [h1.1]
      exact loop_run env ret f (fun pre s => I (x :: pre) s) hr xs s' h1.2 fun pre y post s hx hI => by
        have := hs (x :: pre) y post s (by rw [hx]; rfl) hI
        exact this
theorem pre_lt {α : Type} {xs pre post : List α} {x : α} (h : xs = pre ++ x :: post) : pre.length < xs.length := by rw [h]; simp
theorem pre_mem {α : Type} {xs pre post : List α} {x : α} (h : xs = pre ++ x :: post) : x ∈ xs := by rw [h]; simp
/-- the place in a range -/
theorem pre_rng {n : Nat} {pre post : List Nat} {x : Nat} (h : List.range n = pre ++ x :: post) : x = pre.length ∧ pre.length < n := by
  have h1 := congrArg List.length h
  simp at h1
  have h2 := congrArg (fun l => l[pre.length]?) h
  simp at h2
  rw [List.getElem?_range (by omega)] at h2
  simp at h2
  exact ⟨h2.symm, by omega⟩
theorem inR_of {i : Int} (h0 : 0 ≤ i) (h : i < 1000000) : inR i = true := by
  have h1 : (-4611686018427387904 : Int) ≤ i := by omega
  have h2 : i < 4611686018427387904 := by omega
  rw [inR_eq]; simp [h1, h2]
theorem sz_lt {n : Nat} (h : n < 16777216) : n < sizeLine := h
theorem sz_le {n : Nat} (h : n ≤ 16777216) : n ≤ sizeLine := h
@[simp] theorem both_ii : both .imm .imm = .imm := rfl
@[simp] theorem lfs_app {xs ys : List D} : lfs (xs ++ ys) = (lfs xs && lfs ys) := lfs_append xs ys
theorem x_forE {src : Src} {g : Tgx} {b : Stx} {ρ : Ev} {rs : List R} (h : src ρ = .ok rs) : sFor src g b ρ = loopS g b rs ρ := by rw [x_for, h]
end Oz

namespace Law
open PySem PySem.Spec L2 Oz
open PyProof.Rows hiding St
def top (i : Nat) : Stmt := PySem.Challenge.pw_notetrail_k20_what_can_happen.main.body.getD i (.Pass ⟨0, 0, 0, 0⟩)
abbrev FnP (K : PySem.W.Frag) (x : Str) (st : Stmt) (f : Addr) (fd : FuncData) : Prop := FunD K x x (defArgs st) (defBody st) (defScope st) [] [] f fd
abbrev st__law_draws : Stmt := top 6
abbrev st__law_parties : Stmt := top 7
abbrev st__law_groups : Stmt := top 8
abbrev st__law_some_group : Stmt := top 12
abbrev st__law_cell : Stmt := top 5
abbrev st__law_event : Stmt := top 10
abbrev st__law_events : Stmt := top 11
abbrev st_World___init__ : Stmt := inClass (top 2) 0
abbrev st_World_lose : Stmt := inClass (top 2) 2
abbrev st_World_gain : Stmt := inClass (top 2) 1
abbrev st_World_move : Stmt := inClass (top 2) 3
abbrev st_World_do_open : Stmt := inClass (top 2) 4
abbrev st_World_do_secret : Stmt := inClass (top 2) 5
abbrev st_World_do : Stmt := inClass (top 2) 6
abbrev st_stocks : Stmt := top 3
abbrev st__law_played : Stmt := top 9
abbrev st_law : Stmt := top 13
structure Txt (K : PySem.W.Frag) (mg : Str → Option Value) : Prop where
  f__law_draws : ∃ f fd, FunD K "_law_draws" "_law_draws" (defArgs st__law_draws) (defBody st__law_draws) (defScope st__law_draws) [] [] f fd ∧ mg "_law_draws" = some (.ref f)
  f__law_parties : ∃ f fd, FunD K "_law_parties" "_law_parties" (defArgs st__law_parties) (defBody st__law_parties) (defScope st__law_parties) [] [] f fd ∧ mg "_law_parties" = some (.ref f)
  f__law_groups : ∃ f fd, FunD K "_law_groups" "_law_groups" (defArgs st__law_groups) (defBody st__law_groups) (defScope st__law_groups) [] [] f fd ∧ mg "_law_groups" = some (.ref f)
  f__law_some_group : ∃ f fd, FunD K "_law_some_group" "_law_some_group" (defArgs st__law_some_group) (defBody st__law_some_group) (defScope st__law_some_group) [] [] f fd ∧ mg "_law_some_group" = some (.ref f)
  f__law_cell : ∃ f fd, FunD K "_law_cell" "_law_cell" (defArgs st__law_cell) (defBody st__law_cell) (defScope st__law_cell) [] [] f fd ∧ mg "_law_cell" = some (.ref f)
  f__law_event : ∃ f fd, FunD K "_law_event" "_law_event" (defArgs st__law_event) (defBody st__law_event) (defScope st__law_event) [] [] f fd ∧ mg "_law_event" = some (.ref f)
  f__law_events : ∃ f fd, FunD K "_law_events" "_law_events" (defArgs st__law_events) (defBody st__law_events) (defScope st__law_events) [] [] f fd ∧ mg "_law_events" = some (.ref f)
  f_World___init__ : ∃ f fd, FunD K "__init__" "World.__init__" (defArgs st_World___init__) (defBody st_World___init__) (defScope st_World___init__) [] [] f fd ∧ Mk K (He.ga K "World") f
  f_World_lose : ∃ f fd, FunD K "lose" "World.lose" (defArgs st_World_lose) (defBody st_World_lose) (defScope st_World_lose) [] [] f fd ∧ Meth K (He.ga K "World") "lose" f
  f_World_gain : ∃ f fd, FunD K "gain" "World.gain" (defArgs st_World_gain) (defBody st_World_gain) (defScope st_World_gain) [] [] f fd ∧ Meth K (He.ga K "World") "gain" f
  f_World_move : ∃ f fd, FunD K "move" "World.move" (defArgs st_World_move) (defBody st_World_move) (defScope st_World_move) [] [] f fd ∧ Meth K (He.ga K "World") "move" f
  f_World_do_open : ∃ f fd, FunD K "do_open" "World.do_open" (defArgs st_World_do_open) (defBody st_World_do_open) (defScope st_World_do_open) [] [] f fd ∧ Meth K (He.ga K "World") "do_open" f
  f_World_do_secret : ∃ f fd, FunD K "do_secret" "World.do_secret" (defArgs st_World_do_secret) (defBody st_World_do_secret) (defScope st_World_do_secret) [] [] f fd ∧ Meth K (He.ga K "World") "do_secret" f
  f_World_do : ∃ f fd, FunD K "do" "World.do" (defArgs st_World_do) (defBody st_World_do) (defScope st_World_do) [] [] f fd ∧ Meth K (He.ga K "World") "do" f
  f_stocks : ∃ f fd, FunD K "stocks" "stocks" (defArgs st_stocks) (defBody st_stocks) (defScope st_stocks) [] [] f fd ∧ mg "stocks" = some (.ref f)
  f__law_played : ∃ f fd, FunD K "_law_played" "_law_played" (defArgs st__law_played) (defBody st__law_played) (defScope st__law_played) [] [] f fd ∧ mg "_law_played" = some (.ref f)
  f_law : ∃ f fd, FunD K "law" "law" (defArgs st_law) (defBody st_law) (defScope st_law) [] [] f fd ∧ mg "law" = some (.ref f)
  cl_World : Cls K (He.ga K "World")
  g_World : mg "World" = some (.ref (He.ga K "World"))
  na_World_parties : NoAttr K (He.ga K "World") "parties"
  na_World_coalition : NoAttr K (He.ga K "World") "coalition"
  na_World_stock : NoAttr K (He.ga K "World") "stock"
  g_OPEN : mg "OPEN" = some (.ref (He.ga K "OPEN"))
  t_OPEN : ∀ C, Rep K C (.ref (He.ga K "OPEN")) (.tuple [.str "made", .str "treated", .str "found", .str "handed"])
  b_range : mg "range" = none
  b_tuple : mg "tuple" = none
  b_len : mg "len" = none
  b_max : mg "max" = none
  b_list : mg "list" = none
section
noncomputable def l__law_draws_0 : Stx := sEnd [true, true, true, true, false, false] [false, false, false, false, false, false] (sIf (tTru (pVar 3)) (sSeq (sApp (plN 2) (p2 (at2 fMod) (pVar 0) (pC (.int 1009)))) (sAsg 0 (p2 (at2 fDiv) (pVar 0) (pC (.int 1009))))) (sSeq (sAsg 5 (p2 (at2 fMod) (p2 addR (p2 mulR (pVar 0) (pC (.int 48271))) (p2 mulR (pVar 4) (pC (.int 69621)))) (pC (.int 2147483647)))) (sApp (plN 2) (p2 (at2 fMod) (p2 addR (p2 addR (p2 mulR (pVar 5) (pVar 5)) (p2 mulR (pVar 0) (pC (.int 31)))) (pVar 4)) (pC (.int 1000003))))))
noncomputable def f__law_draws_0 : Stx := sEnd [false, false, true, false, false, false] [false, false, false, false, false, false] (sPre [true, true, true, true, false, false] (sFor (srcR1 (pVar 1)) (gN 4) (l__law_draws_0)))
noncomputable def b__law_draws : Stx := sSeq (sAsg 2 (pLst [])) (sSeq (sAsg 3 (p2 (at2 fGe) (pVar 0) (p2 (at2 fPow) (pC (.int 10)) (pC (.int 18))))) (sSeq (f__law_draws_0) (sRetV 2)))
noncomputable def m__law_draws : Fn := fnD 6 [.v, .v] b__law_draws
noncomputable def c__law_parties_0 : Px := pTup [p2 (at2 eqF) (p2 (at2 fMod) (p2 ixR (pVar 0) (p2 addR (pC (.int 1)) (pVar 1))) (pC (.int 2))) (pC (.int 0)), p2 (at2 eqF) (p2 (at2 fMod) (p2 ixR (pVar 0) (p2 addR (pC (.int 7)) (pVar 1))) (pC (.int 3))) (pC (.int 0))]
noncomputable def q__law_parties_0 : Px := pComp [1] (srcR1 (p2 addR (pC (.int 2)) (p2 (at2 fMod) (p2 ixR (pVar 0) (pC (.int 0))) (pC (.int 4))))) (cN 1) (tYesD) (c__law_parties_0)
noncomputable def b__law_parties : Stx := sRet (pB bTuple [q__law_parties_0])
noncomputable def m__law_parties : Fn := fnD 2 [.v] b__law_parties
noncomputable def l__law_groups_0 : Stx := sEnd [true, true, true, true, true, false] [false, false, false, false, false, false] (sApp (plN 3) (p2 addR (pVar 4) (pTup [pVar 5])))
noncomputable def f__law_groups_0 : Stx := sPre [true, true, true, true, true, false] (sFor (srcR2 (pIf (tTru (pVar 4)) (p2 addR (p2 ixR (pVar 4) (pNeg (pC (.int 1)))) (pC (.int 1))) (pC (.int 0))) (pVar 0)) (gN 5) (l__law_groups_0))
noncomputable def l__law_groups_1 : Stx := sEnd [true, true, true, true, false, false] [false, false, false, false, false, false] (sIf (tVal (p2 (at2 eqF) (pB (b1 fLen) [pVar 4]) (pVar 2))) (f__law_groups_0) (sNext))
noncomputable def f__law_groups_1 : Stx := sEnd [true, true, false, true, false, false] [false, false, false, false, false, false] (sPre [true, true, true, true, false, false] (sFrz 1 (sFor (srcS (pVar 1)) (gN 4) (l__law_groups_1))))
noncomputable def l__law_groups_2 : Stx := sEnd [true, true, false, false, false, false] [false, false, false, false, false, false] (sSeq (sAsg 3 (pLst [])) (sSeq (f__law_groups_1) (sAsg 1 (p2 addR (pVar 1) (pVar 3)))))
noncomputable def f__law_groups_2 : Stx := sEnd [false, true, false, false, false, false] [false, false, false, false, false, false] (sPre [true, true, false, false, false, false] (sFor (srcR1 (pVar 0)) (gN 2) (l__law_groups_2)))
noncomputable def b__law_groups : Stx := sSeq (sAsg 1 (pLst [pTup []])) (sSeq (f__law_groups_2) (sRetV 1))
noncomputable def m__law_groups : Fn := fnD 6 [.v] b__law_groups
noncomputable def b__law_some_group : Stx := sSeq (sAsg 2 (pCall m__law_groups [.v] [pVar 1])) (sFrz 2 (sRet (p2 ixR (pVar 2) (p2 (at2 fMod) (pVar 0) (pB (b1 fLen) [pVar 2])))))
noncomputable def m__law_some_group : Fn := fnD 3 [.v, .v] b__law_some_group
noncomputable def b__law_cell : Stx := sSeq (sIf (tVal (p2 (at2 fLt) (pVar 1) (pB (b1 fLen) [pVar 0]))) (sFrz 0 (sRet (p2 ixR (pVar 0) (pVar 1)))) (sNext)) (sRet (pC (.int 0)))
noncomputable def m__law_cell : Fn := fnD 2 [.v, .v] b__law_cell
noncomputable def b__law_event : Stx := sSeq (sAsg 4 (p2 (at2 fMod) (p2 ixR (pVar 0) (pC (.int 1))) (pVar 1))) (sSeq (sAsg 5 (p2 (at2 fMod) (p2 ixR (pVar 0) (pC (.int 2))) (pVar 1))) (sSeq (sAsg 6 (p2 (at2 fMod) (p2 ixR (pVar 0) (pC (.int 3))) (pVar 2))) (sSeq (sAsg 7 (p2 addR (pC (.int 1)) (p2 (at2 fMod) (p2 ixR (pVar 0) (pC (.int 4))) (pC (.int 6))))) (sSeq (sAsg 8 (p2 (at2 fMod) (p2 ixR (pVar 0) (pC (.int 0))) (pC (.int 9)))) (sSeq (sIf (tVal (p2 (at2 fLt) (pVar 8) (pC (.int 3)))) (sRet (pTup [p2 ixR (pLst [pC (.str "made"), pC (.str "made"), pC (.str "treated")]) (pVar 8), pVar 3, pVar 4, pVar 6, pVar 7])) (sNext)) (sSeq (sIf (tVal (p2 (at2 eqF) (pVar 8) (pC (.int 3)))) (sRet (pTup [pC (.str "found"), pVar 3, pVar 4, pVar 6, p2 (at2 fMod) (p2 ixR (pVar 0) (pC (.int 4))) (pC (.int 8))])) (sNext)) (sSeq (sIf (tVal (p2 (at2 fLt) (pVar 8) (pC (.int 6)))) (sRet (pTup [pC (.str "handed"), pVar 3, pVar 4, pVar 5, pVar 6, pVar 7, p2 (at2 eqF) (p2 (at2 fMod) (p2 ixR (pVar 0) (pC (.int 5))) (pC (.int 2))) (pC (.int 0))])) (sNext)) (sSeq (sIf (tVal (p2 (at2 eqF) (pVar 8) (pC (.int 6)))) (sRet (pTup [pC (.str "passed"), pVar 4, pVar 5, pVar 6, pVar 7])) (sNext)) (sRet (pTup [p2 ixR (pLst [pC (.str "dumped"), pC (.str "conjured")]) (p2 (at2 fSub) (pVar 8) (pC (.int 7))), pVar 4, pVar 6, pVar 7]))))))))))
noncomputable def m__law_event : Fn := fnD 9 [.v, .v, .v, .v] b__law_event
noncomputable def l__law_events_0 : Stx := sEnd [true, true, true, true, true, true, true, false, false] [false, false, false, false, false, false, false, false, false] (sSeq (sAsg 8 (pCall m__law_draws [.v, .v] [pCall m__law_cell [.v, .v] [pVar 0, p2 addR (p2 addR (pVar 1) (pC (.int 1))) (pVar 7)], pC (.int 7)])) (sSeq (sAsg 6 (p2 addR (pVar 6) (p2 ixR (pLst [pC (.int 1), pC (.int 1), pC (.int 1), pC (.int 1), pC (.int 5), pC (.int 0)]) (p2 (at2 fMod) (p2 ixR (pVar 8) (pC (.int 6))) (pC (.int 6)))))) (sApp (plN 5) (pCall m__law_event [.v, .v, .v, .v] [pVar 8, pVar 3, pVar 4, pB (b2i fMax2) [pC (.int 1), pVar 6]]))))
noncomputable def f__law_events_0 : Stx := sEnd [false, false, false, false, false, true, false, false, false] [false, false, false, false, false, false, false, false, false] (sPre [true, true, true, true, true, true, true, false, false] (sFor (srcR1 (p2 (at2 fMod) (pCall m__law_cell [.v, .v] [pVar 0, pVar 1]) (p2 addR (pVar 2) (pC (.int 1))))) (gN 7) (l__law_events_0)))
noncomputable def b__law_events : Stx := sSeq (sAsg 5 (pLst [])) (sSeq (sAsg 6 (pC (.int 0))) (sSeq (f__law_events_0) (sRetV 5)))
noncomputable def m__law_events : Fn := fnD 9 [.v, .v, .v, .v, .v] b__law_events
noncomputable def c_World___init___0 : Px := pC (.int 0)
noncomputable def q_World___init___0 : Px := pComp [5] (srcR1 (pVar 1)) (cN 5) (tYesD) (c_World___init___0)
noncomputable def c_World___init___1 : Px := q_World___init___0
noncomputable def q_World___init___1 : Px := pComp [4] (srcC (pVar 2)) (cN 4) (tYesD) (c_World___init___1)
noncomputable def b_World___init__ : Stx := sSeq (sFldS "World" "parties" (plN 0) (pVar 2)) (sSeq (sFldS "World" "coalition" (plN 0) (pVar 3)) (sFldS "World" "stock" (plN 0) (q_World___init___1)))
noncomputable def m_World___init__ : Fn := fnD 6 [.m, .v, .v, .v] b_World___init__
noncomputable def b_World_lose : Stx := sSeq (sIf (tVal (p2 (at2 fLt) (p2 ixR (p2 ixR (pFld "World" "stock" (pVar 0)) (pVar 1)) (pVar 2)) (pVar 3))) (sRet (pC (.bool false))) (sNext)) (sSeq (sSetI (plI (plF "World" "stock" (plN 0)) (pVar 1)) (pVar 2) (p2 (at2 fSub) (p2 ixR (p2 ixR (pFld "World" "stock" (pVar 0)) (pVar 1)) (pVar 2)) (pVar 3))) (sRet (pC (.bool true))))
noncomputable def m_World_lose : Fn := fnD 4 [.m, .v, .v, .v] b_World_lose
noncomputable def b_World_gain : Stx := sSeq (sSetI (plI (plF "World" "stock" (plN 0)) (pVar 1)) (pVar 2) (p2 addR (p2 ixR (p2 ixR (pFld "World" "stock" (pVar 0)) (pVar 1)) (pVar 2)) (pVar 3))) (sRet (pC (.bool true)))
noncomputable def m_World_gain : Fn := fnD 4 [.m, .v, .v, .v] b_World_gain
noncomputable def b_World_move : Stx := mRet (mAnd (mP (p2 (at2 neF) (pVar 1) (pVar 2))) (mAnd (mMeth "World" "lose" m_World_lose [.m, .v, .v, .v] 0 [.n 1, .n 3, .n 4]) (mMeth "World" "gain" m_World_gain [.m, .v, .v, .v] 0 [.n 2, .n 3, .n 4])))
noncomputable def m_World_move : Fn := fnD 5 [.m, .v, .v, .v, .v] b_World_move
noncomputable def b_World_do_open : Stx := sSeq (sIf (tVal (p2 (at2 eqF) (p2 ixR (pVar 1) (pC (.int 0))) (pC (.str "handed")))) (mRet (mMeth "World" "move" m_World_move [.m, .v, .v, .v, .v] 0 [.p (p2 ixR (pVar 1) (pC (.int 2))), .p (p2 ixR (pVar 1) (pC (.int 3))), .p (p2 ixR (pVar 1) (pC (.int 4))), .p (p2 ixR (pVar 1) (pC (.int 5)))])) (sNext)) (sSeq (sAsgT (gT 5 (gsC (gN 2) (gsC (gN 3) (gsC (gN 4) (gsC (gN 5) (gsC (gN 6) (gsN))))))) (pVar 1)) (sSeq (sIf (tVal (p2 (at2 eqF) (pVar 2) (pC (.str "made")))) (mRet (mAnd (mP (p2 ixR (p2 ixR (pFld "World" "parties" (pVar 0)) (pVar 4)) (pC (.int 0)))) (mMeth "World" "gain" m_World_gain [.m, .v, .v, .v] 0 [.n 4, .n 5, .n 6]))) (sNext)) (sSeq (sIf (tVal (p2 (at2 eqF) (pVar 2) (pC (.str "treated")))) (mRet (mAnd (mP (p2 ixR (p2 ixR (pFld "World" "parties" (pVar 0)) (pVar 4)) (pC (.int 1)))) (mMeth "World" "lose" m_World_lose [.m, .v, .v, .v] 0 [.n 4, .n 5, .n 6]))) (sNext)) (sRet (p2 (at2 eqF) (p2 ixR (p2 ixR (pFld "World" "stock" (pVar 0)) (pVar 4)) (pVar 5)) (pVar 6))))))
noncomputable def m_World_do_open : Fn := fnD 7 [.m, .v] b_World_do_open
noncomputable def b_World_do_secret : Stx := sSeq (sEnd [true, true, false, false, false, false, false, false, false] [true, false, false, false, false, false, false, false, false] (sIf (tVal (p2 (at2 eqF) (p2 ixR (pVar 1) (pC (.int 0))) (pC (.str "passed")))) (sSeq (sAsgT (gT 5 (gsC (gN 2) (gsC (gN 3) (gsC (gN 4) (gsC (gN 5) (gsC (gN 6) (gsN))))))) (pVar 1)) (sSeq (sAsg 7 (pAnd (p2 (at2 inF) (pVar 3) (pFld "World" "coalition" (pVar 0))) (p2 (at2 inF) (pVar 4) (pFld "World" "coalition" (pVar 0))))) (mRet (mAnd (mP (pVar 7)) (mMeth "World" "move" m_World_move [.m, .v, .v, .v, .v] 0 [.n 3, .n 4, .n 5, .n 6]))))) (sNext))) (sSeq (sAsgT (gT 4 (gsC (gN 2) (gsC (gN 8) (gsC (gN 5) (gsC (gN 6) (gsN)))))) (pVar 1)) (sSeq (sIf (tVal (p2 (at2 ninF) (pVar 8) (pFld "World" "coalition" (pVar 0)))) (sRet (pC (.bool false))) (sNext)) (sSeq (sIf (tVal (p2 (at2 eqF) (pVar 2) (pC (.str "dumped")))) (mRet (mMeth "World" "lose" m_World_lose [.m, .v, .v, .v] 0 [.n 8, .n 5, .n 6])) (sNext)) (mRet (mAnd (mP (p2 ixR (p2 ixR (pFld "World" "parties" (pVar 0)) (pVar 8)) (pC (.int 0)))) (mMeth "World" "gain" m_World_gain [.m, .v, .v, .v] 0 [.n 8, .n 5, .n 6]))))))
noncomputable def m_World_do_secret : Fn := fnD 9 [.m, .v] b_World_do_secret
noncomputable def b_World_do : Stx := mRet (mIfE (mT (tVal (p2 (at2 inF) (p2 ixR (pVar 1) (pC (.int 0))) (pC (.tuple [.str "made", .str "treated", .str "found", .str "handed"]))))) (mMeth "World" "do_open" m_World_do_open [.m, .v] 0 [.n 1]) (mMeth "World" "do_secret" m_World_do_secret [.m, .v] 0 [.n 1]))
noncomputable def m_World_do : Fn := fnD 2 [.m, .v] b_World_do
noncomputable def l_stocks_0 : Stx := sEnd [false, false, false, true, true, false] [false, false, false, false, false, false] (mIf (mTnot (mTru (mMeth "World" "do" m_World_do [.m, .v] 4 [.n 5]))) (sRet (pC .none)) (sNext))
noncomputable def f_stocks_0 : Stx := sEnd [false, false, false, false, true, false] [false, false, false, false, false, false] (sPre [false, false, false, true, true, false] (sFrz 3 (sFor (srcS (pVar 3)) (gN 5) (l_stocks_0))))
noncomputable def b_stocks : Stx := sSeq (sAsg 4 (pMake "World" m_World___init__ [.v, .v, .v] [pVar 0, pVar 1, pVar 2])) (sSeq (f_stocks_0) (sFrz 4 (sRet (pFld "World" "stock" (pVar 4)))))
noncomputable def m_stocks : Fn := fnD 6 [.v, .v, .v, .v] b_stocks
noncomputable def c__law_played_0 : Px := p2 mulR (pLst [pC (.int 0)]) (pVar 0)
noncomputable def q__law_played_0 : Px := pComp [10] (srcC (pVar 1)) (cN 10) (tYesD) (c__law_played_0)
noncomputable def l__law_played_0 : Stx := sEnd [false, true, true, true, true, false, false, false, false, false, false] [false, false, false, false, false, false, false, false, false, false, false] (sIf (tVal (p2 (at2 inF) (p2 ixR (pVar 5) (pC (.int 0))) (pTup [pC (.str "handed"), pC (.str "passed")]))) (sSeq (sAsgT (gT 4 (gsC (gN 6) (gsC (gN 7) (gsC (gN 8) (gsC (gN 9) (gsN)))))) (pIf (tVal (p2 (at2 eqF) (p2 ixR (pVar 5) (pC (.int 0))) (pC (.str "handed")))) (pSl (pVar 5) (some (pC (.int 2))) (some (pC (.int 6)))) (pSl (pVar 5) (some (pC (.int 1))) (some (pC (.int 5)))))) (sSeq (sIf (tOrD (tVal (p2 (at2 eqF) (pVar 6) (pVar 7))) (tVal (p2 (at2 fLt) (p2 ixR (p2 ixR (pVar 4) (pVar 6)) (pVar 8)) (pVar 9)))) (sRet (pC .none)) (sNext)) (sSeq (sIf (tAndD (tVal (p2 (at2 eqF) (p2 ixR (pVar 5) (pC (.int 0))) (pC (.str "passed")))) (tOrD (tVal (p2 (at2 ninF) (pVar 6) (pVar 2))) (tVal (p2 (at2 ninF) (pVar 7) (pVar 2))))) (sRet (pC .none)) (sNext)) (sSeq (sSetI (plI (plN 4) (pVar 6)) (pVar 8) (p2 (at2 fSub) (p2 ixR (p2 ixR (pVar 4) (pVar 6)) (pVar 8)) (pVar 9))) (sSetI (plI (plN 4) (pVar 7)) (pVar 8) (p2 addR (p2 ixR (p2 ixR (pVar 4) (pVar 7)) (pVar 8)) (pVar 9))))))) (sSeq (sAsgT (gT 3 (gsC (gN 10) (gsC (gN 8) (gsC (gN 9) (gsN))))) (pSl (pVar 5) (some (pNeg (pC (.int 3)))) none)) (sSeq (sIf (tAndD (tVal (p2 (at2 inF) (p2 ixR (pVar 5) (pC (.int 0))) (pTup [pC (.str "dumped"), pC (.str "conjured")]))) (tVal (p2 (at2 ninF) (pVar 10) (pVar 2)))) (sRet (pC .none)) (sNext)) (sSeq (sIf (tAndD (tVal (p2 (at2 inF) (p2 ixR (pVar 5) (pC (.int 0))) (pTup [pC (.str "made"), pC (.str "conjured")]))) (tNotD (tTru (p2 ixR (p2 ixR (pVar 1) (pVar 10)) (pC (.int 0)))))) (sRet (pC .none)) (sNext)) (sSeq (sIf (tAndD (tVal (p2 (at2 eqF) (p2 ixR (pVar 5) (pC (.int 0))) (pC (.str "treated")))) (tNotD (tTru (p2 ixR (p2 ixR (pVar 1) (pVar 10)) (pC (.int 1)))))) (sRet (pC .none)) (sNext)) (sSeq (sIf (tAndD (tVal (p2 (at2 eqF) (p2 ixR (pVar 5) (pC (.int 0))) (pC (.str "found")))) (tVal (p2 (at2 neF) (p2 ixR (p2 ixR (pVar 4) (pVar 10)) (pVar 8)) (pVar 9)))) (sRet (pC .none)) (sNext)) (sSeq (sIf (tAndD (tVal (p2 (at2 inF) (p2 ixR (pVar 5) (pC (.int 0))) (pTup [pC (.str "treated"), pC (.str "dumped")]))) (tVal (p2 (at2 fLt) (p2 ixR (p2 ixR (pVar 4) (pVar 10)) (pVar 8)) (pVar 9)))) (sRet (pC .none)) (sNext)) (sIf (tVal (p2 (at2 inF) (p2 ixR (pVar 5) (pC (.int 0))) (pTup [pC (.str "made"), pC (.str "conjured")]))) (sSetI (plI (plN 4) (pVar 10)) (pVar 8) (p2 addR (p2 ixR (p2 ixR (pVar 4) (pVar 10)) (pVar 8)) (pVar 9))) (sIf (tVal (p2 (at2 neF) (p2 ixR (pVar 5) (pC (.int 0))) (pC (.str "found")))) (sSetI (plI (plN 4) (pVar 10)) (pVar 8) (p2 (at2 fSub) (p2 ixR (p2 ixR (pVar 4) (pVar 10)) (pVar 8)) (pVar 9))) (sNext))))))))))
noncomputable def f__law_played_0 : Stx := sEnd [false, false, false, false, true, false, false, false, false, false, false] [false, false, false, false, false, false, false, false, false, false, false] (sPre [false, true, true, true, true, false, false, false, false, false, false] (sFrz 3 (sFor (srcS (pVar 3)) (gN 5) (l__law_played_0))))
noncomputable def b__law_played : Stx := sSeq (sAsg 4 q__law_played_0) (sSeq (f__law_played_0) (sRetV 4))
noncomputable def m__law_played : Fn := fnD 11 [.v, .v, .v, .v] b__law_played
noncomputable def l_law_0 : Stx := sEnd [false, false, true, true, true, true, true, false] [false, false, false, false, false, false, false, false] (sIf (tVal (p2 (at2 isnF) (pCall m__law_played [.v, .v, .v, .v] [pVar 3, pVar 2, pVar 4, p2 addR (pVar 6) (pLst [pVar 7])]) (pC .none))) (sApp (plN 6) (pVar 7)) (sIf (tVal (p2 (at2 isnF) (pCall m_stocks [.v, .v, .v, .v] [pVar 3, pVar 2, pVar 4, p2 addR (pVar 6) (pLst [pVar 7])]) (pC .none))) (sRet (pC (.bool false))) (sNext)))
noncomputable def f_law_0 : Stx := sEnd [false, false, true, true, true, true, true, false] [false, false, false, false, false, false, false, false] (sPre [false, false, true, true, true, true, true, false] (sFrz 5 (sFor (srcS (pVar 5)) (gN 7) (l_law_0))))
noncomputable def b_law : Stx := sSeq (sAsg 1 (pCall m__law_draws [.v, .v] [pCall m__law_cell [.v, .v] [pVar 0, pC (.int 0)], pC (.int 16)])) (sSeq (sAsg 2 (pCall m__law_parties [.v] [pVar 1])) (sSeq (sAsg 3 (p2 addR (pC (.int 1)) (p2 (at2 fMod) (p2 ixR (pVar 1) (pC (.int 13))) (pC (.int 3))))) (sSeq (sAsg 4 (pCall m__law_some_group [.v, .v] [p2 ixR (pVar 1) (pC (.int 14)), pB (b1 fLen) [pVar 2]])) (sSeq (sAsg 5 (pCall m__law_events [.v, .v, .v, .v, .v] [pVar 0, pC (.int 1), pC (.int 40), pB (b1 fLen) [pVar 2], pVar 3])) (sSeq (sAsg 6 (pLst [])) (sSeq (f_law_0) (sSeq (sIf (tVal (p2 (at2 neF) (pCall m_stocks [.v, .v, .v, .v] [pVar 3, pVar 2, pVar 4, pVar 6]) (pCall m__law_played [.v, .v, .v, .v] [pVar 3, pVar 2, pVar 4, pVar 6]))) (sRet (pC (.bool false))) (sNext)) (sRet (p2 (at2 eqF) (pCall m_stocks [.v, .v, .v, .v] [pVar 3, pVar 2, pVar 4, pB bList [pVar 5]]) (pCall m__law_played [.v, .v, .v, .v] [pVar 3, pVar 2, pVar 4, pVar 5]))))))))))
noncomputable def m_law : Fn := fnD 8 [.v] b_law
end
section
variable {P : Program} {w : World} {K : PySem.W.Frag} {mg : Str → Option Value} {base : Heap}
theorem sc__law_draws : FnScope ["_law_cell_here", "_law_count", "_law_found", "_law_is_wide", "_law_k", "_law_mixed"] ["_law_cell_here", "_law_count"] (defScope st__law_draws) := ⟨rfl, rfl, rfl, by decide +kernel, rfl, by decide +kernel, by decide +kernel⟩
theorem ok__law_draws (T : Txt K mg) {f : Addr} {fd : FuncData} (F : FunD K "_law_draws" "_law_draws" (defArgs st__law_draws) (defBody st__law_draws) (defScope st__law_draws) [] [] f fd) : FnOk P w K mg base CX0 1 f fd ["_law_cell_here", "_law_count"] (spF K [.v, .v] m__law_draws) := by
  have B : ∀ (cdv : Value) (A : Around) (outer : List Env) (s : Shared) (H : Hp) (E : XK), Room 0 (A.deeper (envOfC "_law_draws" (defScope st__law_draws) s.heap.objs.size f cdv)) → PSs (cxOf CX0 P w K mg base ["_law_cell_here", "_law_count", "_law_found", "_law_is_wide", "_law_k", "_law_mixed"] "_law_draws" (defScope st__law_draws) f cdv A outer s H E) (defBody st__law_draws) (tS K E b__law_draws) := by
    intro cdv A outer s H E hr
    have hu := hu64 hr
    have hu5 := hu65 hr
    exact s_cons (s_asg 2 sc__law_draws.nd (s_lst (s_anil))) (s_cons (s_asg 3 sc__law_draws.nd (s_cmp op_ge o_ge (s_var 0) (s_op op_pow o_pow (s_int) (s_int)) rfl)) (s_cons (s_end [false, false, true, false, false, false] [false, false, false, false, false, false] (s_pre [true, true, true, true, false, false] (s_for (passes_of rfl) rfl (pi_range1 rfl T.b_range (s_acons (s_var 1) (s_anil))) (srcR1_ok) (pg_name (i := 4) sc__law_draws.nd rfl (by first | exact Or.inl rfl | exact Or.inr rfl)) (g_name) (s_ends [true, true, true, true, false, false] [false, false, false, false, false, false] (s_last (s_ifS (s_tru (s_var 3)) (s_cons (s_app (s_plN 2) (s_op op_mod o_mod (s_var 0) (s_int)) rfl (fun hl ha => ps_expr (pe_bm PySem.F.plainAttrs_list PySem.F.slot_list_append PySem.F.type_list_append mt_append hl ha))) (s_last (s_asg 0 sc__law_draws.nd (s_op op_fdiv o_div (s_var 0) (s_int))))) (s_cons (s_asg 5 sc__law_draws.nd (s_op op_mod o_mod (s_op op_add4 o_add (s_op op_mul2 o_mul2 (s_var 0) (s_int)) (s_op op_mul2 o_mul2 (s_var 4) (s_int))) (s_int))) (s_last (s_app (s_plN 2) (s_op op_mod o_mod (s_op op_add4 o_add (s_op op_add4 o_add (s_op op_mul2 o_mul2 (s_var 5) (s_var 5)) (s_op op_mul2 o_mul2 (s_var 0) (s_int))) (s_var 4)) (s_int)) rfl (fun hl ha => ps_expr (pe_bm PySem.F.plainAttrs_list PySem.F.slot_list_append PySem.F.type_list_append mt_append hl ha))))))))))) (s_last (s_retV 2))))
  have e : m__law_draws = fnD 6 [.v, .v] b__law_draws := rfl
  rw [e]
  exact fn_body F sc__law_draws rfl (by decide) B
theorem cal__law_draws (T : Txt K mg) : Cal CX0 P w K mg base 1 "_law_draws" ["_law_cell_here", "_law_count"] [.v, .v] m__law_draws :=
  cal_of T.f__law_draws (fun _ _ _ _ _ _ us hl => match us, hl with | [_, _], _ => rfl) fun f fd F => ok__law_draws T F
theorem sc__law_parties : FnScope ["_law_draws_here", "_law_k"] ["_law_draws_here"] (defScope st__law_parties) := ⟨rfl, rfl, rfl, by decide +kernel, rfl, by decide +kernel, by decide +kernel⟩
theorem ok__law_parties (T : Txt K mg) {f : Addr} {fd : FuncData} (F : FunD K "_law_parties" "_law_parties" (defArgs st__law_parties) (defBody st__law_parties) (defScope st__law_parties) [] [] f fd) : FnOk P w K mg base CX0 1 f fd ["_law_draws_here"] (spF K [.v] m__law_parties) := by
  have B : ∀ (cdv : Value) (A : Around) (outer : List Env) (s : Shared) (H : Hp) (E : XK), Room 0 (A.deeper (envOfC "_law_parties" (defScope st__law_parties) s.heap.objs.size f cdv)) → PSs (cxOf CX0 P w K mg base ["_law_draws_here", "_law_k"] "_law_parties" (defScope st__law_parties) f cdv A outer s H E) (defBody st__law_parties) (tS K E b__law_parties) := by
    intro cdv A outer s H E hr
    have hu := hu64 hr
    have hu5 := hu65 hr
    exact s_last (s_ret (s_callTy b_tuple call_tuple_of rfl T.b_tuple PyProof.Rows.boot_tuple (s_acons (s_comp (own := [("_law_k", 1)]) rfl sc__law_parties.nd (pi_range1 rfl T.b_range (s_acons (s_op op_add4 o_add (s_int) (s_op op_mod o_mod (s_ix ix_seq o_ix (s_var 0) (s_int)) (s_int))) (s_anil))) (srcR1_ok.c) (blkB_ok (by kernel_rfl)) (c_name) (by decide) (fun _ _ _ _ _ => pg_name (i := 1) sc__law_parties.nd rfl (by first | exact Or.inl rfl | exact Or.inr rfl)) (fun _ _ _ _ _ => s_ifs0) (fun _ _ _ _ _ => s_tup (s_acons (s_cmp (op_eq2 hu) o_eq (s_op op_mod o_mod (s_ix ix_seq o_ix (s_var 0) (s_op op_add4 o_add (s_int) (s_var 1))) (s_int)) (s_int) rfl) (s_acons (s_cmp (op_eq2 hu) o_eq (s_op op_mod o_mod (s_ix ix_seq o_ix (s_var 0) (s_op op_add4 o_add (s_int) (s_var 1))) (s_int)) (s_int) rfl) (s_anil))))) (s_anil))))
  have e : m__law_parties = fnD 2 [.v] b__law_parties := rfl
  rw [e]
  exact fn_body F sc__law_parties rfl (by decide) B
theorem cal__law_parties (T : Txt K mg) : Cal CX0 P w K mg base 1 "_law_parties" ["_law_draws_here"] [.v] m__law_parties :=
  cal_of T.f__law_parties (fun _ _ _ _ _ _ us hl => match us, hl with | [_], _ => rfl) fun f fd F => ok__law_parties T F
theorem sc__law_groups : FnScope ["_law_many", "_law_found", "_law_size", "_law_longer", "_law_group", "_law_party"] ["_law_many"] (defScope st__law_groups) := ⟨rfl, rfl, rfl, by decide +kernel, rfl, by decide +kernel, by decide +kernel⟩
theorem ok__law_groups (T : Txt K mg) {f : Addr} {fd : FuncData} (F : FunD K "_law_groups" "_law_groups" (defArgs st__law_groups) (defBody st__law_groups) (defScope st__law_groups) [] [] f fd) : FnOk P w K mg base CX0 1 f fd ["_law_many"] (spF K [.v] m__law_groups) := by
  have B : ∀ (cdv : Value) (A : Around) (outer : List Env) (s : Shared) (H : Hp) (E : XK), Room 0 (A.deeper (envOfC "_law_groups" (defScope st__law_groups) s.heap.objs.size f cdv)) → PSs (cxOf CX0 P w K mg base ["_law_many", "_law_found", "_law_size", "_law_longer", "_law_group", "_law_party"] "_law_groups" (defScope st__law_groups) f cdv A outer s H E) (defBody st__law_groups) (tS K E b__law_groups) := by
    intro cdv A outer s H E hr
    have hu := hu64 hr
    have hu5 := hu65 hr
    exact s_cons (s_asg 1 sc__law_groups.nd (s_lst (s_acons (s_tup (s_anil)) (s_anil)))) (s_cons (s_end [false, true, false, false, false, false] [false, false, false, false, false, false] (s_pre [true, true, false, false, false, false] (s_for (passes_of rfl) rfl (pi_range1 rfl T.b_range (s_acons (s_var 0) (s_anil))) (srcR1_ok) (pg_name (i := 2) sc__law_groups.nd rfl (by first | exact Or.inl rfl | exact Or.inr rfl)) (g_name) (s_ends [true, true, false, false, false, false] [false, false, false, false, false, false] (s_cons (s_asg 3 sc__law_groups.nd (s_lst (s_anil))) (s_cons (s_end [true, true, false, true, false, false] [false, false, false, false, false, false] (s_pre [true, true, true, true, false, false] (s_frz 1 (s_for (passes_of rfl) rfl (pi_seq (s_var 1)) (srcS_ok) (pg_name (i := 4) sc__law_groups.nd rfl (by first | exact Or.inl rfl | exact Or.inr rfl)) (g_name) (s_ends [true, true, true, true, false, false] [false, false, false, false, false, false] (s_last (s_ifS (s_tcmp (op_eq2 hu) o_eq (s_callB b_len call_lenA rfl T.b_len boot_len (s_acons (s_var 4) (s_anil))) (s_var 2) rfl) (s_last (s_pre [true, true, true, true, true, false] (s_for (passes_of rfl) rfl (pi_range2 rfl T.b_range (s_acons (s_if (s_tru (s_var 4)) (s_op op_add4 o_add (s_ix ix_seq o_ix (s_var 4) (s_neg (s_int))) (s_int)) (s_int)) (s_acons (s_var 0) (s_anil)))) (srcR2_ok) (pg_name (i := 5) sc__law_groups.nd rfl (by first | exact Or.inl rfl | exact Or.inr rfl)) (g_name) (s_ends [true, true, true, true, true, false] [false, false, false, false, false, false] (s_last (s_app (s_plN 3) (s_op op_add4 o_add (s_var 4) (s_tup (s_acons (s_var 5) (s_anil)))) rfl (fun hl ha => ps_expr (pe_bm PySem.F.plainAttrs_list PySem.F.slot_list_append PySem.F.type_list_append mt_append hl ha)))))))) (s_nil)))))))) (s_last (s_asg 1 sc__law_groups.nd (s_op op_add4 o_add (s_var 1) (s_var 3)))))))))) (s_last (s_retV 1)))
  have e : m__law_groups = fnD 6 [.v] b__law_groups := rfl
  rw [e]
  exact fn_body F sc__law_groups rfl (by decide) B
theorem cal__law_groups (T : Txt K mg) : Cal CX0 P w K mg base 1 "_law_groups" ["_law_many"] [.v] m__law_groups :=
  cal_of T.f__law_groups (fun _ _ _ _ _ _ us hl => match us, hl with | [_], _ => rfl) fun f fd F => ok__law_groups T F
theorem sc__law_some_group : FnScope ["_law_draw", "_law_many", "_law_groups_here"] ["_law_draw", "_law_many"] (defScope st__law_some_group) := ⟨rfl, rfl, rfl, by decide +kernel, rfl, by decide +kernel, by decide +kernel⟩
theorem ok__law_some_group (T : Txt K mg) {f : Addr} {fd : FuncData} (F : FunD K "_law_some_group" "_law_some_group" (defArgs st__law_some_group) (defBody st__law_some_group) (defScope st__law_some_group) [] [] f fd) : FnOk P w K mg base CX0 2 f fd ["_law_draw", "_law_many"] (spF K [.v, .v] m__law_some_group) := by
  have c__law_groups : Cal CX0 P w K mg base 1 "_law_groups" ["_law_many"] [.v] m__law_groups := cal__law_groups T
  have B : ∀ (cdv : Value) (A : Around) (outer : List Env) (s : Shared) (H : Hp) (E : XK), Room 1 (A.deeper (envOfC "_law_some_group" (defScope st__law_some_group) s.heap.objs.size f cdv)) → PSs (cxOf CX0 P w K mg base ["_law_draw", "_law_many", "_law_groups_here"] "_law_some_group" (defScope st__law_some_group) f cdv A outer s H E) (defBody st__law_some_group) (tS K E b__law_some_group) := by
    intro cdv A outer s H E hr
    have hu := hu64 hr
    have hu5 := hu65 hr
    exact s_cons (s_asg 2 sc__law_some_group.nd (s_callC c__law_groups hr passE (s_acons (s_var 1) (s_anil)))) (s_last (s_frz 2 (s_ret (s_ix ix_seq o_ix (s_var 2) (s_op op_mod o_mod (s_var 0) (s_callB b_len call_lenA rfl T.b_len boot_len (s_acons (s_var 2) (s_anil))))))))
  have e : m__law_some_group = fnD 3 [.v, .v] b__law_some_group := rfl
  rw [e]
  exact fn_body F sc__law_some_group rfl (by decide) B
theorem cal__law_some_group (T : Txt K mg) : Cal CX0 P w K mg base 2 "_law_some_group" ["_law_draw", "_law_many"] [.v, .v] m__law_some_group :=
  cal_of T.f__law_some_group (fun _ _ _ _ _ _ us hl => match us, hl with | [_, _], _ => rfl) fun f fd F => ok__law_some_group T F
theorem sc__law_cell : FnScope ["_law_script", "_law_k"] ["_law_script", "_law_k"] (defScope st__law_cell) := ⟨rfl, rfl, rfl, by decide +kernel, rfl, by decide +kernel, by decide +kernel⟩
theorem ok__law_cell (T : Txt K mg) {f : Addr} {fd : FuncData} (F : FunD K "_law_cell" "_law_cell" (defArgs st__law_cell) (defBody st__law_cell) (defScope st__law_cell) [] [] f fd) : FnOk P w K mg base CX0 1 f fd ["_law_script", "_law_k"] (spF K [.v, .v] m__law_cell) := by
  have B : ∀ (cdv : Value) (A : Around) (outer : List Env) (s : Shared) (H : Hp) (E : XK), Room 0 (A.deeper (envOfC "_law_cell" (defScope st__law_cell) s.heap.objs.size f cdv)) → PSs (cxOf CX0 P w K mg base ["_law_script", "_law_k"] "_law_cell" (defScope st__law_cell) f cdv A outer s H E) (defBody st__law_cell) (tS K E b__law_cell) := by
    intro cdv A outer s H E hr
    have hu := hu64 hr
    have hu5 := hu65 hr
    exact s_cons (s_ifS (s_tcmp op_lt o_lt (s_var 1) (s_callB b_len call_lenA rfl T.b_len boot_len (s_acons (s_var 0) (s_anil))) rfl) (s_last (s_frz 0 (s_ret (s_ix ix_seq o_ix (s_var 0) (s_var 1))))) (s_nil)) (s_last (s_ret (s_int)))
  have e : m__law_cell = fnD 2 [.v, .v] b__law_cell := rfl
  rw [e]
  exact fn_body F sc__law_cell rfl (by decide) B
theorem cal__law_cell (T : Txt K mg) : Cal CX0 P w K mg base 1 "_law_cell" ["_law_script", "_law_k"] [.v, .v] m__law_cell :=
  cal_of T.f__law_cell (fun _ _ _ _ _ _ us hl => match us, hl with | [_, _], _ => rfl) fun f fd F => ok__law_cell T F
theorem sc__law_event : FnScope ["_law_draws_here", "_law_many", "_law_kinds", "_law_number", "_law_one", "_law_two", "_law_kind", "_law_amount", "_law_form"] ["_law_draws_here", "_law_many", "_law_kinds", "_law_number"] (defScope st__law_event) := ⟨rfl, rfl, rfl, by decide +kernel, rfl, by decide +kernel, by decide +kernel⟩
theorem ok__law_event (T : Txt K mg) {f : Addr} {fd : FuncData} (F : FunD K "_law_event" "_law_event" (defArgs st__law_event) (defBody st__law_event) (defScope st__law_event) [] [] f fd) : FnOk P w K mg base CX0 1 f fd ["_law_draws_here", "_law_many", "_law_kinds", "_law_number"] (spF K [.v, .v, .v, .v] m__law_event) := by
  have B : ∀ (cdv : Value) (A : Around) (outer : List Env) (s : Shared) (H : Hp) (E : XK), Room 0 (A.deeper (envOfC "_law_event" (defScope st__law_event) s.heap.objs.size f cdv)) → PSs (cxOf CX0 P w K mg base ["_law_draws_here", "_law_many", "_law_kinds", "_law_number", "_law_one", "_law_two", "_law_kind", "_law_amount", "_law_form"] "_law_event" (defScope st__law_event) f cdv A outer s H E) (defBody st__law_event) (tS K E b__law_event) := by
    intro cdv A outer s H E hr
    have hu := hu64 hr
    have hu5 := hu65 hr
    exact s_cons (s_asg 4 sc__law_event.nd (s_op op_mod o_mod (s_ix ix_seq o_ix (s_var 0) (s_int)) (s_var 1))) (s_cons (s_asg 5 sc__law_event.nd (s_op op_mod o_mod (s_ix ix_seq o_ix (s_var 0) (s_int)) (s_var 1))) (s_cons (s_asg 6 sc__law_event.nd (s_op op_mod o_mod (s_ix ix_seq o_ix (s_var 0) (s_int)) (s_var 2))) (s_cons (s_asg 7 sc__law_event.nd (s_op op_add4 o_add (s_int) (s_op op_mod o_mod (s_ix ix_seq o_ix (s_var 0) (s_int)) (s_int)))) (s_cons (s_asg 8 sc__law_event.nd (s_op op_mod o_mod (s_ix ix_seq o_ix (s_var 0) (s_int)) (s_int))) (s_cons (s_ifS (s_tcmp op_lt o_lt (s_var 8) (s_int) rfl) (s_last (s_ret (s_tup (s_acons (s_ix ix_seq o_ix (s_lst (s_acons (s_str) (s_acons (s_str) (s_acons (s_str) (s_anil))))) (s_var 8)) (s_acons (s_var 3) (s_acons (s_var 4) (s_acons (s_var 6) (s_acons (s_var 7) (s_anil))))))))) (s_nil)) (s_cons (s_ifS (s_tcmp (op_eq2 hu) o_eq (s_var 8) (s_int) rfl) (s_last (s_ret (s_tup (s_acons (s_str) (s_acons (s_var 3) (s_acons (s_var 4) (s_acons (s_var 6) (s_acons (s_op op_mod o_mod (s_ix ix_seq o_ix (s_var 0) (s_int)) (s_int)) (s_anil))))))))) (s_nil)) (s_cons (s_ifS (s_tcmp op_lt o_lt (s_var 8) (s_int) rfl) (s_last (s_ret (s_tup (s_acons (s_str) (s_acons (s_var 3) (s_acons (s_var 4) (s_acons (s_var 5) (s_acons (s_var 6) (s_acons (s_var 7) (s_acons (s_cmp (op_eq2 hu) o_eq (s_op op_mod o_mod (s_ix ix_seq o_ix (s_var 0) (s_int)) (s_int)) (s_int) rfl) (s_anil))))))))))) (s_nil)) (s_cons (s_ifS (s_tcmp (op_eq2 hu) o_eq (s_var 8) (s_int) rfl) (s_last (s_ret (s_tup (s_acons (s_str) (s_acons (s_var 4) (s_acons (s_var 5) (s_acons (s_var 6) (s_acons (s_var 7) (s_anil))))))))) (s_nil)) (s_last (s_ret (s_tup (s_acons (s_ix ix_seq o_ix (s_lst (s_acons (s_str) (s_acons (s_str) (s_anil)))) (s_op op_sub o_sub (s_var 8) (s_int))) (s_acons (s_var 4) (s_acons (s_var 6) (s_acons (s_var 7) (s_anil))))))))))))))))
  have e : m__law_event = fnD 9 [.v, .v, .v, .v] b__law_event := rfl
  rw [e]
  exact fn_body F sc__law_event rfl (by decide) B
theorem cal__law_event (T : Txt K mg) : Cal CX0 P w K mg base 1 "_law_event" ["_law_draws_here", "_law_many", "_law_kinds", "_law_number"] [.v, .v, .v, .v] m__law_event :=
  cal_of T.f__law_event (fun _ _ _ _ _ _ us hl => match us, hl with | [_, _, _, _], _ => rfl) fun f fd F => ok__law_event T F
theorem sc__law_events : FnScope ["_law_script", "_law_at", "_law_most", "_law_many", "_law_kinds", "_law_found", "_law_number", "_law_k", "_law_draws_here"] ["_law_script", "_law_at", "_law_most", "_law_many", "_law_kinds"] (defScope st__law_events) := ⟨rfl, rfl, rfl, by decide +kernel, rfl, by decide +kernel, by decide +kernel⟩
theorem ok__law_events (T : Txt K mg) {f : Addr} {fd : FuncData} (F : FunD K "_law_events" "_law_events" (defArgs st__law_events) (defBody st__law_events) (defScope st__law_events) [] [] f fd) : FnOk P w K mg base CX0 2 f fd ["_law_script", "_law_at", "_law_most", "_law_many", "_law_kinds"] (spF K [.v, .v, .v, .v, .v] m__law_events) := by
  have c__law_cell : Cal CX0 P w K mg base 1 "_law_cell" ["_law_script", "_law_k"] [.v, .v] m__law_cell := cal__law_cell T
  have c__law_draws : Cal CX0 P w K mg base 1 "_law_draws" ["_law_cell_here", "_law_count"] [.v, .v] m__law_draws := cal__law_draws T
  have c__law_event : Cal CX0 P w K mg base 1 "_law_event" ["_law_draws_here", "_law_many", "_law_kinds", "_law_number"] [.v, .v, .v, .v] m__law_event := cal__law_event T
  have B : ∀ (cdv : Value) (A : Around) (outer : List Env) (s : Shared) (H : Hp) (E : XK), Room 1 (A.deeper (envOfC "_law_events" (defScope st__law_events) s.heap.objs.size f cdv)) → PSs (cxOf CX0 P w K mg base ["_law_script", "_law_at", "_law_most", "_law_many", "_law_kinds", "_law_found", "_law_number", "_law_k", "_law_draws_here"] "_law_events" (defScope st__law_events) f cdv A outer s H E) (defBody st__law_events) (tS K E b__law_events) := by
    intro cdv A outer s H E hr
    have hu := hu64 hr
    have hu5 := hu65 hr
    exact s_cons (s_asg 5 sc__law_events.nd (s_lst (s_anil))) (s_cons (s_asg 6 sc__law_events.nd (s_int)) (s_cons (s_end [false, false, false, false, false, true, false, false, false] [false, false, false, false, false, false, false, false, false] (s_pre [true, true, true, true, true, true, true, false, false] (s_for (passes_of rfl) rfl (pi_range1 rfl T.b_range (s_acons (s_op op_mod o_mod (s_callC c__law_cell hr passE (s_acons (s_var 0) (s_acons (s_var 1) (s_anil)))) (s_op op_add4 o_add (s_var 2) (s_int))) (s_anil))) (srcR1_ok) (pg_name (i := 7) sc__law_events.nd rfl (by first | exact Or.inl rfl | exact Or.inr rfl)) (g_name) (s_ends [true, true, true, true, true, true, true, false, false] [false, false, false, false, false, false, false, false, false] (s_cons (s_asg 8 sc__law_events.nd (s_callC c__law_draws hr passE (s_acons (s_callC c__law_cell hr passE (s_acons (s_var 0) (s_acons (s_op op_add4 o_add (s_op op_add4 o_add (s_var 1) (s_int)) (s_var 7)) (s_anil)))) (s_acons (s_int) (s_anil))))) (s_cons (s_asg 6 sc__law_events.nd (s_op op_add4 o_add (s_var 6) (s_ix ix_seq o_ix (s_lst (s_acons (s_int) (s_acons (s_int) (s_acons (s_int) (s_acons (s_int) (s_acons (s_int) (s_acons (s_int) (s_anil)))))))) (s_op op_mod o_mod (s_ix ix_seq o_ix (s_var 8) (s_int)) (s_int))))) (s_last (s_app (s_plN 5) (s_callC c__law_event hr passE (s_acons (s_var 8) (s_acons (s_var 3) (s_acons (s_var 4) (s_acons (s_callB bok2i (call_max2 rfl) rfl T.b_max PyProof.Rows.boot_max (s_acons (s_int) (s_acons (s_var 6) (s_anil)))) (s_anil)))))) rfl (fun hl ha => ps_expr (pe_bm PySem.F.plainAttrs_list PySem.F.slot_list_append PySem.F.type_list_append mt_append hl ha)))))))))) (s_last (s_retV 5))))
  have e : m__law_events = fnD 9 [.v, .v, .v, .v, .v] b__law_events := rfl
  rw [e]
  exact fn_body F sc__law_events rfl (by decide) B
theorem cal__law_events (T : Txt K mg) : Cal CX0 P w K mg base 2 "_law_events" ["_law_script", "_law_at", "_law_most", "_law_many", "_law_kinds"] [.v, .v, .v, .v, .v] m__law_events :=
  cal_of T.f__law_events (fun _ _ _ _ _ _ us hl => match us, hl with | [_, _, _, _, _], _ => rfl) fun f fd F => ok__law_events T F
theorem sc_World___init__ : FnScope ["self", "kinds", "parties", "coalition", "party", "kind"] ["self", "kinds", "parties", "coalition"] (defScope st_World___init__) := ⟨rfl, rfl, rfl, by decide +kernel, rfl, by decide +kernel, by decide +kernel⟩
theorem ok_World___init__ (T : Txt K mg) {f : Addr} {fd : FuncData} (F : FunD K "__init__" "World.__init__" (defArgs st_World___init__) (defBody st_World___init__) (defScope st_World___init__) [] [] f fd) : FnOk P w K mg base CX0 1 f fd ["self", "kinds", "parties", "coalition"] (spF K [.m, .v, .v, .v] m_World___init__) := by
  have B : ∀ (cdv : Value) (A : Around) (outer : List Env) (s : Shared) (H : Hp) (E : XK), Room 0 (A.deeper (envOfC "World.__init__" (defScope st_World___init__) s.heap.objs.size f cdv)) → PSs (cxOf CX0 P w K mg base ["self", "kinds", "parties", "coalition", "party", "kind"] "World.__init__" (defScope st_World___init__) f cdv A outer s H E) (defBody st_World___init__) (tS K E b_World___init__) := by
    intro cdv A outer s H E hr
    have hu := hu64 hr
    have hu5 := hu65 hr
    exact s_cons (s_fldS T.cl_World T.na_World_parties (s_plN 0) (s_var 2)) (s_cons (s_fldS T.cl_World T.na_World_coalition (s_plN 0) (s_var 3)) (s_last (s_fldS T.cl_World T.na_World_stock (s_plN 0) (s_comp (own := [("party", 4)]) rfl sc_World___init__.nd (pi_seq (s_var 2)) (srcC_ok) (blkB_ok (by kernel_rfl)) (c_name) (by decide) (fun _ _ _ _ _ => pg_name (i := 4) sc_World___init__.nd rfl (by first | exact Or.inl rfl | exact Or.inr rfl)) (fun _ _ _ _ _ => s_ifs0) (fun _ _ _ _ _ => s_comp (own := [("kind", 5)]) rfl sc_World___init__.nd (pi_range1 rfl T.b_range (s_acons (s_var 1) (s_anil))) (srcR1_ok.c) (blkB_ok (by kernel_rfl)) (c_name) (by decide) (fun _ _ _ _ _ => pg_name (i := 5) sc_World___init__.nd rfl (by first | exact Or.inl rfl | exact Or.inr rfl)) (fun _ _ _ _ _ => s_ifs0) (fun _ _ _ _ _ => s_int))))))
  have e : m_World___init__ = fnD 6 [.m, .v, .v, .v] b_World___init__ := rfl
  rw [e]
  exact fn_body F sc_World___init__ rfl (by decide) B
theorem cal_World___init__ (T : Txt K mg) : CalI CX0 P w K mg base 1 "World" ["self", "kinds", "parties", "coalition"] [.v, .v, .v] m_World___init__ :=
  calI_of T.g_World T.f_World___init__ (fun _ _ _ _ _ _ us hl => match us, hl with | [_, _, _, _], _ => rfl) fun f fd F => ok_World___init__ T F
theorem sc_World_lose : FnScope ["self", "party", "kind", "amount"] ["self", "party", "kind", "amount"] (defScope st_World_lose) := ⟨rfl, rfl, rfl, by decide +kernel, rfl, by decide +kernel, by decide +kernel⟩
theorem ok_World_lose (T : Txt K mg) {f : Addr} {fd : FuncData} (F : FunD K "lose" "World.lose" (defArgs st_World_lose) (defBody st_World_lose) (defScope st_World_lose) [] [] f fd) : FnOk P w K mg base CX0 1 f fd ["self", "party", "kind", "amount"] (spF K [.m, .v, .v, .v] m_World_lose) := by
  have B : ∀ (cdv : Value) (A : Around) (outer : List Env) (s : Shared) (H : Hp) (E : XK), Room 0 (A.deeper (envOfC "World.lose" (defScope st_World_lose) s.heap.objs.size f cdv)) → PSs (cxOf CX0 P w K mg base ["self", "party", "kind", "amount"] "World.lose" (defScope st_World_lose) f cdv A outer s H E) (defBody st_World_lose) (tS K E b_World_lose) := by
    intro cdv A outer s H E hr
    have hu := hu64 hr
    have hu5 := hu65 hr
    exact s_cons (s_ifS (s_tcmp op_lt o_lt (s_ix ix_seq o_ix (s_ix ix_seq o_ix (s_fld T.cl_World T.na_World_stock (s_var 0)) (s_var 1)) (s_var 2)) (s_var 3) rfl) (s_last (s_ret (s_bl))) (s_nil)) (s_cons (s_setI (s_op op_sub o_sub (s_ix ix_seq o_ix (s_ix ix_seq o_ix (s_fld T.cl_World T.na_World_stock (s_var 0)) (s_var 1)) (s_var 2)) (s_var 3)) (s_plI (s_plF T.cl_World T.na_World_stock (s_plN 0)) (s_var 1)) (s_var 2) (fun ho hi => pg_sub ho hi set_list)) (s_last (s_ret (s_bl))))
  have e : m_World_lose = fnD 4 [.m, .v, .v, .v] b_World_lose := rfl
  rw [e]
  exact fn_body F sc_World_lose rfl (by decide) B
theorem cal_World_lose (T : Txt K mg) : CalM CX0 P w K mg base 1 "World" "lose" ["self", "party", "kind", "amount"] [.m, .v, .v, .v] m_World_lose :=
  calM_of T.cl_World T.f_World_lose (fun _ _ _ _ _ _ us hl => match us, hl with | [_, _, _, _], _ => rfl) fun f fd F => ok_World_lose T F
theorem sc_World_gain : FnScope ["self", "party", "kind", "amount"] ["self", "party", "kind", "amount"] (defScope st_World_gain) := ⟨rfl, rfl, rfl, by decide +kernel, rfl, by decide +kernel, by decide +kernel⟩
theorem ok_World_gain (T : Txt K mg) {f : Addr} {fd : FuncData} (F : FunD K "gain" "World.gain" (defArgs st_World_gain) (defBody st_World_gain) (defScope st_World_gain) [] [] f fd) : FnOk P w K mg base CX0 1 f fd ["self", "party", "kind", "amount"] (spF K [.m, .v, .v, .v] m_World_gain) := by
  have B : ∀ (cdv : Value) (A : Around) (outer : List Env) (s : Shared) (H : Hp) (E : XK), Room 0 (A.deeper (envOfC "World.gain" (defScope st_World_gain) s.heap.objs.size f cdv)) → PSs (cxOf CX0 P w K mg base ["self", "party", "kind", "amount"] "World.gain" (defScope st_World_gain) f cdv A outer s H E) (defBody st_World_gain) (tS K E b_World_gain) := by
    intro cdv A outer s H E hr
    have hu := hu64 hr
    have hu5 := hu65 hr
    exact s_cons (s_setI (s_op op_add4 o_add (s_ix ix_seq o_ix (s_ix ix_seq o_ix (s_fld T.cl_World T.na_World_stock (s_var 0)) (s_var 1)) (s_var 2)) (s_var 3)) (s_plI (s_plF T.cl_World T.na_World_stock (s_plN 0)) (s_var 1)) (s_var 2) (fun ho hi => pg_sub ho hi set_list)) (s_last (s_ret (s_bl)))
  have e : m_World_gain = fnD 4 [.m, .v, .v, .v] b_World_gain := rfl
  rw [e]
  exact fn_body F sc_World_gain rfl (by decide) B
theorem cal_World_gain (T : Txt K mg) : CalM CX0 P w K mg base 1 "World" "gain" ["self", "party", "kind", "amount"] [.m, .v, .v, .v] m_World_gain :=
  calM_of T.cl_World T.f_World_gain (fun _ _ _ _ _ _ us hl => match us, hl with | [_, _, _, _], _ => rfl) fun f fd F => ok_World_gain T F
theorem sc_World_move : FnScope ["self", "giver", "taker", "kind", "amount"] ["self", "giver", "taker", "kind", "amount"] (defScope st_World_move) := ⟨rfl, rfl, rfl, by decide +kernel, rfl, by decide +kernel, by decide +kernel⟩
theorem ok_World_move (T : Txt K mg) {f : Addr} {fd : FuncData} (F : FunD K "move" "World.move" (defArgs st_World_move) (defBody st_World_move) (defScope st_World_move) [] [] f fd) : FnOk P w K mg base CX0 2 f fd ["self", "giver", "taker", "kind", "amount"] (spF K [.m, .v, .v, .v, .v] m_World_move) := by
  have c_World_lose : CalM CX0 P w K mg base 1 "World" "lose" ["self", "party", "kind", "amount"] [.m, .v, .v, .v] m_World_lose := cal_World_lose T
  have c_World_gain : CalM CX0 P w K mg base 1 "World" "gain" ["self", "party", "kind", "amount"] [.m, .v, .v, .v] m_World_gain := cal_World_gain T
  have B : ∀ (cdv : Value) (A : Around) (outer : List Env) (s : Shared) (H : Hp) (E : XK), Room 1 (A.deeper (envOfC "World.move" (defScope st_World_move) s.heap.objs.size f cdv)) → PSs (cxOf CX0 P w K mg base ["self", "giver", "taker", "kind", "amount"] "World.move" (defScope st_World_move) f cdv A outer s H E) (defBody st_World_move) (tS K E b_World_move) := by
    intro cdv A outer s H E hr
    have hu := hu64 hr
    have hu5 := hu65 hr
    exact s_last (s_mret (m_and (m_pure (s_cmp (op_ne2 hu) o_ne (s_var 1) (s_var 2) rfl)) (m_and (s_mmeth 0 c_World_lose hr passE (x_n 1 (x_n 3 (x_n 4 (x_nil))))) (m_one (s_mmeth 0 c_World_gain hr passE (x_n 2 (x_n 3 (x_n 4 (x_nil)))))))))
  have e : m_World_move = fnD 5 [.m, .v, .v, .v, .v] b_World_move := rfl
  rw [e]
  exact fn_body F sc_World_move rfl (by decide) B
theorem cal_World_move (T : Txt K mg) : CalM CX0 P w K mg base 2 "World" "move" ["self", "giver", "taker", "kind", "amount"] [.m, .v, .v, .v, .v] m_World_move :=
  calM_of T.cl_World T.f_World_move (fun _ _ _ _ _ _ us hl => match us, hl with | [_, _, _, _, _], _ => rfl) fun f fd F => ok_World_move T F
theorem sc_World_do_open : FnScope ["self", "event", "word", "number", "party", "kind", "amount"] ["self", "event"] (defScope st_World_do_open) := ⟨rfl, rfl, rfl, by decide +kernel, rfl, by decide +kernel, by decide +kernel⟩
theorem ok_World_do_open (T : Txt K mg) {f : Addr} {fd : FuncData} (F : FunD K "do_open" "World.do_open" (defArgs st_World_do_open) (defBody st_World_do_open) (defScope st_World_do_open) [] [] f fd) : FnOk P w K mg base CX0 3 f fd ["self", "event"] (spF K [.m, .v] m_World_do_open) := by
  have c_World_move : CalM CX0 P w K mg base 2 "World" "move" ["self", "giver", "taker", "kind", "amount"] [.m, .v, .v, .v, .v] m_World_move := cal_World_move T
  have c_World_gain : CalM CX0 P w K mg base 1 "World" "gain" ["self", "party", "kind", "amount"] [.m, .v, .v, .v] m_World_gain := cal_World_gain T
  have c_World_lose : CalM CX0 P w K mg base 1 "World" "lose" ["self", "party", "kind", "amount"] [.m, .v, .v, .v] m_World_lose := cal_World_lose T
  have B : ∀ (cdv : Value) (A : Around) (outer : List Env) (s : Shared) (H : Hp) (E : XK), Room 2 (A.deeper (envOfC "World.do_open" (defScope st_World_do_open) s.heap.objs.size f cdv)) → PSs (cxOf CX0 P w K mg base ["self", "event", "word", "number", "party", "kind", "amount"] "World.do_open" (defScope st_World_do_open) f cdv A outer s H E) (defBody st_World_do_open) (tS K E b_World_do_open) := by
    intro cdv A outer s H E hr
    have hu := hu64 hr
    have hu5 := hu65 hr
    exact s_cons (s_ifS (s_tcmp (op_eq2 hu) o_eq (s_ix ix_seq o_ix (s_var 1) (s_int)) (s_str) rfl) (s_last (s_mret (s_mmeth 0 c_World_move hr passE (x_p (s_ix ix_seq o_ix (s_var 1) (s_int)) (x_p (s_ix ix_seq o_ix (s_var 1) (s_int)) (x_p (s_ix ix_seq o_ix (s_var 1) (s_int)) (x_p (s_ix ix_seq o_ix (s_var 1) (s_int)) (x_nil)))))))) (s_nil)) (s_cons (s_asgT (s_var 1) (pg_tup rfl (pgs_cons (pg_name (i := 2) sc_World_do_open.nd rfl (by first | exact Or.inl rfl | exact Or.inr rfl)) (pgs_cons (pg_name (i := 3) sc_World_do_open.nd rfl (by first | exact Or.inl rfl | exact Or.inr rfl)) (pgs_cons (pg_name (i := 4) sc_World_do_open.nd rfl (by first | exact Or.inl rfl | exact Or.inr rfl)) (pgs_cons (pg_name (i := 5) sc_World_do_open.nd rfl (by first | exact Or.inl rfl | exact Or.inr rfl)) (pgs_cons (pg_name (i := 6) sc_World_do_open.nd rfl (by first | exact Or.inl rfl | exact Or.inr rfl)) (pgs_nil))))))) (g_tup (gs_cons (g_name) (gs_cons (g_name) (gs_cons (g_name) (gs_cons (g_name) (gs_cons (g_name) (gs_nil)))))))) (s_cons (s_ifS (s_tcmp (op_eq2 hu) o_eq (s_var 2) (s_str) rfl) (s_last (s_mret (m_and (m_pure (s_ix ix_seq o_ix (s_ix ix_seq o_ix (s_fld T.cl_World T.na_World_parties (s_var 0)) (s_var 4)) (s_int))) (m_one (s_mmeth 0 c_World_gain hr passE (x_n 4 (x_n 5 (x_n 6 (x_nil))))))))) (s_nil)) (s_cons (s_ifS (s_tcmp (op_eq2 hu) o_eq (s_var 2) (s_str) rfl) (s_last (s_mret (m_and (m_pure (s_ix ix_seq o_ix (s_ix ix_seq o_ix (s_fld T.cl_World T.na_World_parties (s_var 0)) (s_var 4)) (s_int))) (m_one (s_mmeth 0 c_World_lose hr passE (x_n 4 (x_n 5 (x_n 6 (x_nil))))))))) (s_nil)) (s_last (s_ret (s_cmp (op_eq2 hu) o_eq (s_ix ix_seq o_ix (s_ix ix_seq o_ix (s_fld T.cl_World T.na_World_stock (s_var 0)) (s_var 4)) (s_var 5)) (s_var 6) rfl))))))
  have e : m_World_do_open = fnD 7 [.m, .v] b_World_do_open := rfl
  rw [e]
  exact fn_body F sc_World_do_open rfl (by decide) B
theorem cal_World_do_open (T : Txt K mg) : CalM CX0 P w K mg base 3 "World" "do_open" ["self", "event"] [.m, .v] m_World_do_open :=
  calM_of T.cl_World T.f_World_do_open (fun _ _ _ _ _ _ us hl => match us, hl with | [_, _], _ => rfl) fun f fd F => ok_World_do_open T F
theorem sc_World_do_secret : FnScope ["self", "event", "word", "giver", "taker", "kind", "amount", "is_theirs", "party"] ["self", "event"] (defScope st_World_do_secret) := ⟨rfl, rfl, rfl, by decide +kernel, rfl, by decide +kernel, by decide +kernel⟩
theorem ok_World_do_secret (T : Txt K mg) {f : Addr} {fd : FuncData} (F : FunD K "do_secret" "World.do_secret" (defArgs st_World_do_secret) (defBody st_World_do_secret) (defScope st_World_do_secret) [] [] f fd) : FnOk P w K mg base CX0 3 f fd ["self", "event"] (spF K [.m, .v] m_World_do_secret) := by
  have c_World_move : CalM CX0 P w K mg base 2 "World" "move" ["self", "giver", "taker", "kind", "amount"] [.m, .v, .v, .v, .v] m_World_move := cal_World_move T
  have c_World_lose : CalM CX0 P w K mg base 1 "World" "lose" ["self", "party", "kind", "amount"] [.m, .v, .v, .v] m_World_lose := cal_World_lose T
  have c_World_gain : CalM CX0 P w K mg base 1 "World" "gain" ["self", "party", "kind", "amount"] [.m, .v, .v, .v] m_World_gain := cal_World_gain T
  have B : ∀ (cdv : Value) (A : Around) (outer : List Env) (s : Shared) (H : Hp) (E : XK), Room 2 (A.deeper (envOfC "World.do_secret" (defScope st_World_do_secret) s.heap.objs.size f cdv)) → PSs (cxOf CX0 P w K mg base ["self", "event", "word", "giver", "taker", "kind", "amount", "is_theirs", "party"] "World.do_secret" (defScope st_World_do_secret) f cdv A outer s H E) (defBody st_World_do_secret) (tS K E b_World_do_secret) := by
    intro cdv A outer s H E hr
    have hu := hu64 hr
    have hu5 := hu65 hr
    exact s_cons (s_end [true, true, false, false, false, false, false, false, false] [true, false, false, false, false, false, false, false, false] (s_ifS (s_tcmp (op_eq2 hu) o_eq (s_ix ix_seq o_ix (s_var 1) (s_int)) (s_str) rfl) (s_cons (s_asgT (s_var 1) (pg_tup rfl (pgs_cons (pg_name (i := 2) sc_World_do_secret.nd rfl (by first | exact Or.inl rfl | exact Or.inr rfl)) (pgs_cons (pg_name (i := 3) sc_World_do_secret.nd rfl (by first | exact Or.inl rfl | exact Or.inr rfl)) (pgs_cons (pg_name (i := 4) sc_World_do_secret.nd rfl (by first | exact Or.inl rfl | exact Or.inr rfl)) (pgs_cons (pg_name (i := 5) sc_World_do_secret.nd rfl (by first | exact Or.inl rfl | exact Or.inr rfl)) (pgs_cons (pg_name (i := 6) sc_World_do_secret.nd rfl (by first | exact Or.inl rfl | exact Or.inr rfl)) (pgs_nil))))))) (g_tup (gs_cons (g_name) (gs_cons (g_name) (gs_cons (g_name) (gs_cons (g_name) (gs_cons (g_name) (gs_nil)))))))) (s_cons (s_asg 7 sc_World_do_secret.nd (s_and (s_cmp (op_in3 hu5) o_in (s_var 3) (s_fld T.cl_World T.na_World_coalition (s_var 0)) rfl) (s_one (s_cmp (op_in3 hu5) o_in (s_var 4) (s_fld T.cl_World T.na_World_coalition (s_var 0)) rfl)))) (s_last (s_mret (m_and (m_pure (s_var 7)) (m_one (s_mmeth 0 c_World_move hr passE (x_n 3 (x_n 4 (x_n 5 (x_n 6 (x_nil)))))))))))) (s_nil))) (s_cons (s_asgT (s_var 1) (pg_tup rfl (pgs_cons (pg_name (i := 2) sc_World_do_secret.nd rfl (by first | exact Or.inl rfl | exact Or.inr rfl)) (pgs_cons (pg_name (i := 8) sc_World_do_secret.nd rfl (by first | exact Or.inl rfl | exact Or.inr rfl)) (pgs_cons (pg_name (i := 5) sc_World_do_secret.nd rfl (by first | exact Or.inl rfl | exact Or.inr rfl)) (pgs_cons (pg_name (i := 6) sc_World_do_secret.nd rfl (by first | exact Or.inl rfl | exact Or.inr rfl)) (pgs_nil)))))) (g_tup (gs_cons (g_name) (gs_cons (g_name) (gs_cons (g_name) (gs_cons (g_name) (gs_nil))))))) (s_cons (s_ifS (s_tcmp (op_nin3 hu5) o_nin (s_var 8) (s_fld T.cl_World T.na_World_coalition (s_var 0)) rfl) (s_last (s_ret (s_bl))) (s_nil)) (s_cons (s_ifS (s_tcmp (op_eq2 hu) o_eq (s_var 2) (s_str) rfl) (s_last (s_mret (s_mmeth 0 c_World_lose hr passE (x_n 8 (x_n 5 (x_n 6 (x_nil))))))) (s_nil)) (s_last (s_mret (m_and (m_pure (s_ix ix_seq o_ix (s_ix ix_seq o_ix (s_fld T.cl_World T.na_World_parties (s_var 0)) (s_var 8)) (s_int))) (m_one (s_mmeth 0 c_World_gain hr passE (x_n 8 (x_n 5 (x_n 6 (x_nil))))))))))))
  have e : m_World_do_secret = fnD 9 [.m, .v] b_World_do_secret := rfl
  rw [e]
  exact fn_body F sc_World_do_secret rfl (by decide) B
theorem cal_World_do_secret (T : Txt K mg) : CalM CX0 P w K mg base 3 "World" "do_secret" ["self", "event"] [.m, .v] m_World_do_secret :=
  calM_of T.cl_World T.f_World_do_secret (fun _ _ _ _ _ _ us hl => match us, hl with | [_, _], _ => rfl) fun f fd F => ok_World_do_secret T F
theorem sc_World_do : FnScope ["self", "event"] ["self", "event"] (defScope st_World_do) := ⟨rfl, rfl, rfl, by decide +kernel, rfl, by decide +kernel, by decide +kernel⟩
theorem ok_World_do (T : Txt K mg) {f : Addr} {fd : FuncData} (F : FunD K "do" "World.do" (defArgs st_World_do) (defBody st_World_do) (defScope st_World_do) [] [] f fd) : FnOk P w K mg base CX0 4 f fd ["self", "event"] (spF K [.m, .v] m_World_do) := by
  have c_World_do_open : CalM CX0 P w K mg base 3 "World" "do_open" ["self", "event"] [.m, .v] m_World_do_open := cal_World_do_open T
  have c_World_do_secret : CalM CX0 P w K mg base 3 "World" "do_secret" ["self", "event"] [.m, .v] m_World_do_secret := cal_World_do_secret T
  have B : ∀ (cdv : Value) (A : Around) (outer : List Env) (s : Shared) (H : Hp) (E : XK), Room 3 (A.deeper (envOfC "World.do" (defScope st_World_do) s.heap.objs.size f cdv)) → PSs (cxOf CX0 P w K mg base ["self", "event"] "World.do" (defScope st_World_do) f cdv A outer s H E) (defBody st_World_do) (tS K E b_World_do) := by
    intro cdv A outer s H E hr
    have hu := hu64 hr
    have hu5 := hu65 hr
    exact s_last (s_mret (m_if (m_tpure (s_tcmp (op_in3 hu5) o_in (s_ix ix_seq o_ix (s_var 1) (s_int)) (s_globT T.t_OPEN T.g_OPEN) rfl)) (s_mmeth 0 c_World_do_open hr passE (x_n 1 (x_nil))) (s_mmeth 0 c_World_do_secret hr passE (x_n 1 (x_nil)))))
  have e : m_World_do = fnD 2 [.m, .v] b_World_do := rfl
  rw [e]
  exact fn_body F sc_World_do rfl (by decide) B
theorem cal_World_do (T : Txt K mg) : CalM CX0 P w K mg base 4 "World" "do" ["self", "event"] [.m, .v] m_World_do :=
  calM_of T.cl_World T.f_World_do (fun _ _ _ _ _ _ us hl => match us, hl with | [_, _], _ => rfl) fun f fd F => ok_World_do T F
theorem sc_stocks : FnScope ["kinds", "parties", "coalition", "history", "world", "event"] ["kinds", "parties", "coalition", "history"] (defScope st_stocks) := ⟨rfl, rfl, rfl, by decide +kernel, rfl, by decide +kernel, by decide +kernel⟩
theorem ok_stocks (T : Txt K mg) {f : Addr} {fd : FuncData} (F : FunD K "stocks" "stocks" (defArgs st_stocks) (defBody st_stocks) (defScope st_stocks) [] [] f fd) : FnOk P w K mg base CX0 5 f fd ["kinds", "parties", "coalition", "history"] (spF K [.v, .v, .v, .v] m_stocks) := by
  have c_World___init__ : CalI CX0 P w K mg base 1 "World" ["self", "kinds", "parties", "coalition"] [.v, .v, .v] m_World___init__ := cal_World___init__ T
  have c_World_do : CalM CX0 P w K mg base 4 "World" "do" ["self", "event"] [.m, .v] m_World_do := cal_World_do T
  have B : ∀ (cdv : Value) (A : Around) (outer : List Env) (s : Shared) (H : Hp) (E : XK), Room 4 (A.deeper (envOfC "stocks" (defScope st_stocks) s.heap.objs.size f cdv)) → PSs (cxOf CX0 P w K mg base ["kinds", "parties", "coalition", "history", "world", "event"] "stocks" (defScope st_stocks) f cdv A outer s H E) (defBody st_stocks) (tS K E b_stocks) := by
    intro cdv A outer s H E hr
    have hu := hu64 hr
    have hu5 := hu65 hr
    exact s_cons (s_asg 4 sc_stocks.nd (s_make c_World___init__ hr passE (s_acons (s_var 0) (s_acons (s_var 1) (s_acons (s_var 2) (s_anil)))))) (s_cons (s_end [false, false, false, false, true, false] [false, false, false, false, false, false] (s_pre [false, false, false, true, true, false] (s_frz 3 (s_for (passes_of rfl) rfl (pi_seq (s_var 3)) (srcS_ok) (pg_name (i := 5) sc_stocks.nd rfl (by first | exact Or.inl rfl | exact Or.inr rfl)) (g_name) (s_ends [false, false, false, true, true, false] [false, false, false, false, false, false] (s_last (s_mif (m_tnot (m_tru (s_mmeth 4 c_World_do hr passE (x_n 5 (x_nil))))) (s_last (s_ret (s_non))) (s_nil)))))))) (s_last (s_frz 4 (s_ret (s_fld T.cl_World T.na_World_stock (s_var 4))))))
  have e : m_stocks = fnD 6 [.v, .v, .v, .v] b_stocks := rfl
  rw [e]
  exact fn_body F sc_stocks rfl (by decide) B
theorem cal_stocks (T : Txt K mg) : Cal CX0 P w K mg base 5 "stocks" ["kinds", "parties", "coalition", "history"] [.v, .v, .v, .v] m_stocks :=
  cal_of T.f_stocks (fun _ _ _ _ _ _ us hl => match us, hl with | [_, _, _, _], _ => rfl) fun f fd F => ok_stocks T F
theorem sc__law_played : FnScope ["_law_kinds", "_law_parties_here", "_law_group", "_law_history", "_law_stock", "_law_event_here", "_law_giver", "_law_taker", "_law_kind", "_law_amount", "_law_party"] ["_law_kinds", "_law_parties_here", "_law_group", "_law_history"] (defScope st__law_played) := ⟨rfl, rfl, rfl, by decide +kernel, rfl, by decide +kernel, by decide +kernel⟩
theorem ok__law_played (T : Txt K mg) {f : Addr} {fd : FuncData} (F : FunD K "_law_played" "_law_played" (defArgs st__law_played) (defBody st__law_played) (defScope st__law_played) [] [] f fd) : FnOk P w K mg base CX0 1 f fd ["_law_kinds", "_law_parties_here", "_law_group", "_law_history"] (spF K [.v, .v, .v, .v] m__law_played) := by
  have B : ∀ (cdv : Value) (A : Around) (outer : List Env) (s : Shared) (H : Hp) (E : XK), Room 0 (A.deeper (envOfC "_law_played" (defScope st__law_played) s.heap.objs.size f cdv)) → PSs (cxOf CX0 P w K mg base ["_law_kinds", "_law_parties_here", "_law_group", "_law_history", "_law_stock", "_law_event_here", "_law_giver", "_law_taker", "_law_kind", "_law_amount", "_law_party"] "_law_played" (defScope st__law_played) f cdv A outer s H E) (defBody st__law_played) (tS K E b__law_played) := by
    intro cdv A outer s H E hr
    have hu := hu64 hr
    have hu5 := hu65 hr
    exact s_cons (s_asgComp 4 (own := [("_law_party", 10)]) rfl sc__law_played.nd rfl rfl (sw_true rfl rfl rfl rfl) (pi_seq (s_var 1)) (srcC_ok) (blkB_ok (by kernel_rfl)) (c_name) (by decide) (fun _ _ _ _ _ => pg_name (i := 10) sc__law_played.nd rfl (by first | exact Or.inl rfl | exact Or.inr rfl)) (fun _ _ _ _ _ => s_ifs0) (fun _ _ _ _ _ => s_op op_mul2 o_mul2 (s_lst (s_acons (s_int) (s_anil))) (s_var 0))) (s_cons (s_end [false, false, false, false, true, false, false, false, false, false, false] [false, false, false, false, false, false, false, false, false, false, false] (s_pre [false, true, true, true, true, false, false, false, false, false, false] (s_frz 3 (s_for (passes_of rfl) rfl (pi_seq (s_var 3)) (srcS_ok) (pg_name (i := 5) sc__law_played.nd rfl (by first | exact Or.inl rfl | exact Or.inr rfl)) (g_name) (s_ends [false, true, true, true, true, false, false, false, false, false, false] [false, false, false, false, false, false, false, false, false, false, false] (s_last (s_ifS (s_tcmp (op_in3 hu5) o_in (s_ix ix_seq o_ix (s_var 5) (s_int)) (s_tup (s_acons (s_str) (s_acons (s_str) (s_anil)))) rfl) (s_cons (s_asgT (s_if (s_tcmp (op_eq2 hu) o_eq (s_ix ix_seq o_ix (s_var 5) (s_int)) (s_str) rfl) (s_sl11 (s_var 5) (s_int) (s_int)) (s_sl11 (s_var 5) (s_int) (s_int))) (pg_tup rfl (pgs_cons (pg_name (i := 6) sc__law_played.nd rfl (by first | exact Or.inl rfl | exact Or.inr rfl)) (pgs_cons (pg_name (i := 7) sc__law_played.nd rfl (by first | exact Or.inl rfl | exact Or.inr rfl)) (pgs_cons (pg_name (i := 8) sc__law_played.nd rfl (by first | exact Or.inl rfl | exact Or.inr rfl)) (pgs_cons (pg_name (i := 9) sc__law_played.nd rfl (by first | exact Or.inl rfl | exact Or.inr rfl)) (pgs_nil)))))) (g_tup (gs_cons (g_name) (gs_cons (g_name) (gs_cons (g_name) (gs_cons (g_name) (gs_nil))))))) (s_cons (s_ifS ((s_tor (s_tcmp (op_eq2 hu) o_eq (s_var 6) (s_var 7) rfl) (s_tor1 (s_tcmp op_lt o_lt (s_ix ix_seq o_ix (s_ix ix_seq o_ix (s_var 4) (s_var 6)) (s_var 8)) (s_var 9) rfl))).pt) (s_last (s_ret (s_non))) (s_nil)) (s_cons (s_ifS ((s_tand (s_tcmp (op_eq2 hu) o_eq (s_ix ix_seq o_ix (s_var 5) (s_int)) (s_str) rfl) (s_tand1 ((s_tor (s_tcmp (op_nin3 hu5) o_nin (s_var 6) (s_var 2) rfl) (s_tor1 (s_tcmp (op_nin3 hu5) o_nin (s_var 7) (s_var 2) rfl))).pt))).pt) (s_last (s_ret (s_non))) (s_nil)) (s_cons (s_setI (s_op op_sub o_sub (s_ix ix_seq o_ix (s_ix ix_seq o_ix (s_var 4) (s_var 6)) (s_var 8)) (s_var 9)) (s_plI (s_plN 4) (s_var 6)) (s_var 8) (fun ho hi => pg_sub ho hi set_list)) (s_last (s_setI (s_op op_add4 o_add (s_ix ix_seq o_ix (s_ix ix_seq o_ix (s_var 4) (s_var 7)) (s_var 8)) (s_var 9)) (s_plI (s_plN 4) (s_var 7)) (s_var 8) (fun ho hi => pg_sub ho hi set_list))))))) (s_cons (s_asgT (s_sl10 (s_var 5) (s_neg (s_int))) (pg_tup rfl (pgs_cons (pg_name (i := 10) sc__law_played.nd rfl (by first | exact Or.inl rfl | exact Or.inr rfl)) (pgs_cons (pg_name (i := 8) sc__law_played.nd rfl (by first | exact Or.inl rfl | exact Or.inr rfl)) (pgs_cons (pg_name (i := 9) sc__law_played.nd rfl (by first | exact Or.inl rfl | exact Or.inr rfl)) (pgs_nil))))) (g_tup (gs_cons (g_name) (gs_cons (g_name) (gs_cons (g_name) (gs_nil)))))) (s_cons (s_ifS ((s_tand (s_tcmp (op_in3 hu5) o_in (s_ix ix_seq o_ix (s_var 5) (s_int)) (s_tup (s_acons (s_str) (s_acons (s_str) (s_anil)))) rfl) (s_tand1 (s_tcmp (op_nin3 hu5) o_nin (s_var 10) (s_var 2) rfl))).pt) (s_last (s_ret (s_non))) (s_nil)) (s_cons (s_ifS ((s_tand (s_tcmp (op_in3 hu5) o_in (s_ix ix_seq o_ix (s_var 5) (s_int)) (s_tup (s_acons (s_str) (s_acons (s_str) (s_anil)))) rfl) (s_tand1 (s_tnot (s_tru (s_ix ix_seq o_ix (s_ix ix_seq o_ix (s_var 1) (s_var 10)) (s_int)))))).pt) (s_last (s_ret (s_non))) (s_nil)) (s_cons (s_ifS ((s_tand (s_tcmp (op_eq2 hu) o_eq (s_ix ix_seq o_ix (s_var 5) (s_int)) (s_str) rfl) (s_tand1 (s_tnot (s_tru (s_ix ix_seq o_ix (s_ix ix_seq o_ix (s_var 1) (s_var 10)) (s_int)))))).pt) (s_last (s_ret (s_non))) (s_nil)) (s_cons (s_ifS ((s_tand (s_tcmp (op_eq2 hu) o_eq (s_ix ix_seq o_ix (s_var 5) (s_int)) (s_str) rfl) (s_tand1 (s_tcmp (op_ne2 hu) o_ne (s_ix ix_seq o_ix (s_ix ix_seq o_ix (s_var 4) (s_var 10)) (s_var 8)) (s_var 9) rfl))).pt) (s_last (s_ret (s_non))) (s_nil)) (s_cons (s_ifS ((s_tand (s_tcmp (op_in3 hu5) o_in (s_ix ix_seq o_ix (s_var 5) (s_int)) (s_tup (s_acons (s_str) (s_acons (s_str) (s_anil)))) rfl) (s_tand1 (s_tcmp op_lt o_lt (s_ix ix_seq o_ix (s_ix ix_seq o_ix (s_var 4) (s_var 10)) (s_var 8)) (s_var 9) rfl))).pt) (s_last (s_ret (s_non))) (s_nil)) (s_last (s_ifS (s_tcmp (op_in3 hu5) o_in (s_ix ix_seq o_ix (s_var 5) (s_int)) (s_tup (s_acons (s_str) (s_acons (s_str) (s_anil)))) rfl) (s_last (s_setI (s_op op_add4 o_add (s_ix ix_seq o_ix (s_ix ix_seq o_ix (s_var 4) (s_var 10)) (s_var 8)) (s_var 9)) (s_plI (s_plN 4) (s_var 10)) (s_var 8) (fun ho hi => pg_sub ho hi set_list))) (s_last (s_ifS (s_tcmp (op_ne2 hu) o_ne (s_ix ix_seq o_ix (s_var 5) (s_int)) (s_str) rfl) (s_last (s_setI (s_op op_sub o_sub (s_ix ix_seq o_ix (s_ix ix_seq o_ix (s_var 4) (s_var 10)) (s_var 8)) (s_var 9)) (s_plI (s_plN 4) (s_var 10)) (s_var 8) (fun ho hi => pg_sub ho hi set_list))) (s_nil)))))))))))))))))) (s_last (s_retV 4)))
  have e : m__law_played = fnD 11 [.v, .v, .v, .v] b__law_played := rfl
  rw [e]
  exact fn_body F sc__law_played rfl (by decide) B
theorem cal__law_played (T : Txt K mg) : Cal CX0 P w K mg base 1 "_law_played" ["_law_kinds", "_law_parties_here", "_law_group", "_law_history"] [.v, .v, .v, .v] m__law_played :=
  cal_of T.f__law_played (fun _ _ _ _ _ _ us hl => match us, hl with | [_, _, _, _], _ => rfl) fun f fd F => ok__law_played T F
theorem sc_law : FnScope ["_law_script", "_law_draws_here", "_law_parties_here", "_law_kinds", "_law_group", "_law_history", "_law_possible", "_law_event_here"] ["_law_script"] (defScope st_law) := ⟨rfl, rfl, rfl, by decide +kernel, rfl, by decide +kernel, by decide +kernel⟩
theorem ok_law (T : Txt K mg) {f : Addr} {fd : FuncData} (F : FunD K "law" "law" (defArgs st_law) (defBody st_law) (defScope st_law) [] [] f fd) : FnOk P w K mg base CX0 6 f fd ["_law_script"] (spF K [.v] m_law) := by
  have c__law_draws : Cal CX0 P w K mg base 1 "_law_draws" ["_law_cell_here", "_law_count"] [.v, .v] m__law_draws := cal__law_draws T
  have c__law_cell : Cal CX0 P w K mg base 1 "_law_cell" ["_law_script", "_law_k"] [.v, .v] m__law_cell := cal__law_cell T
  have c__law_parties : Cal CX0 P w K mg base 1 "_law_parties" ["_law_draws_here"] [.v] m__law_parties := cal__law_parties T
  have c__law_some_group : Cal CX0 P w K mg base 2 "_law_some_group" ["_law_draw", "_law_many"] [.v, .v] m__law_some_group := cal__law_some_group T
  have c__law_events : Cal CX0 P w K mg base 2 "_law_events" ["_law_script", "_law_at", "_law_most", "_law_many", "_law_kinds"] [.v, .v, .v, .v, .v] m__law_events := cal__law_events T
  have c__law_played : Cal CX0 P w K mg base 1 "_law_played" ["_law_kinds", "_law_parties_here", "_law_group", "_law_history"] [.v, .v, .v, .v] m__law_played := cal__law_played T
  have c_stocks : Cal CX0 P w K mg base 5 "stocks" ["kinds", "parties", "coalition", "history"] [.v, .v, .v, .v] m_stocks := cal_stocks T
  have B : ∀ (cdv : Value) (A : Around) (outer : List Env) (s : Shared) (H : Hp) (E : XK), Room 5 (A.deeper (envOfC "law" (defScope st_law) s.heap.objs.size f cdv)) → PSs (cxOf CX0 P w K mg base ["_law_script", "_law_draws_here", "_law_parties_here", "_law_kinds", "_law_group", "_law_history", "_law_possible", "_law_event_here"] "law" (defScope st_law) f cdv A outer s H E) (defBody st_law) (tS K E b_law) := by
    intro cdv A outer s H E hr
    have hu := hu64 hr
    have hu5 := hu65 hr
    exact s_cons (s_asg 1 sc_law.nd (s_callC c__law_draws hr passE (s_acons (s_callC c__law_cell hr passE (s_acons (s_var 0) (s_acons (s_int) (s_anil)))) (s_acons (s_int) (s_anil))))) (s_cons (s_asg 2 sc_law.nd (s_callC c__law_parties hr passE (s_acons (s_var 1) (s_anil)))) (s_cons (s_asg 3 sc_law.nd (s_op op_add4 o_add (s_int) (s_op op_mod o_mod (s_ix ix_seq o_ix (s_var 1) (s_int)) (s_int)))) (s_cons (s_asg 4 sc_law.nd (s_callC c__law_some_group hr passE (s_acons (s_ix ix_seq o_ix (s_var 1) (s_int)) (s_acons (s_callB b_len call_lenA rfl T.b_len boot_len (s_acons (s_var 2) (s_anil))) (s_anil))))) (s_cons (s_asg 5 sc_law.nd (s_callC c__law_events hr passE (s_acons (s_var 0) (s_acons (s_int) (s_acons (s_int) (s_acons (s_callB b_len call_lenA rfl T.b_len boot_len (s_acons (s_var 2) (s_anil))) (s_acons (s_var 3) (s_anil)))))))) (s_cons (s_asg 6 sc_law.nd (s_lst (s_anil))) (s_cons (s_end [false, false, true, true, true, true, true, false] [false, false, false, false, false, false, false, false] (s_pre [false, false, true, true, true, true, true, false] (s_frz 5 (s_for (passes_of rfl) rfl (pi_seq (s_var 5)) (srcS_ok) (pg_name (i := 7) sc_law.nd rfl (by first | exact Or.inl rfl | exact Or.inr rfl)) (g_name) (s_ends [false, false, true, true, true, true, true, false] [false, false, false, false, false, false, false, false] (s_last (s_ifS (s_tcmp op_notN o_isn (s_callC c__law_played hr passE (s_acons (s_var 3) (s_acons (s_var 2) (s_acons (s_var 4) (s_acons (s_op op_add4 o_add (s_var 6) (s_lst (s_acons (s_var 7) (s_anil)))) (s_anil)))))) (s_non) rfl) (s_last (s_app (s_plN 6) (s_var 7) rfl (fun hl ha => ps_expr (pe_bm PySem.F.plainAttrs_list PySem.F.slot_list_append PySem.F.type_list_append mt_append hl ha)))) (s_last (s_ifS (s_tcmp op_notN o_isn (s_callC c_stocks hr passE (s_acons (s_var 3) (s_acons (s_var 2) (s_acons (s_var 4) (s_acons (s_op op_add4 o_add (s_var 6) (s_lst (s_acons (s_var 7) (s_anil)))) (s_anil)))))) (s_non) rfl) (s_last (s_ret (s_bl))) (s_nil)))))))))) (s_cons (s_ifS (s_tcmp (op_ne2 hu) o_ne (s_callC c_stocks hr passE (s_acons (s_var 3) (s_acons (s_var 2) (s_acons (s_var 4) (s_acons (s_var 6) (s_anil)))))) (s_callC c__law_played hr passE (s_acons (s_var 3) (s_acons (s_var 2) (s_acons (s_var 4) (s_acons (s_var 6) (s_anil)))))) rfl) (s_last (s_ret (s_bl))) (s_nil)) (s_last (s_ret (s_cmp (op_eq2 hu) o_eq (s_callC c_stocks hr passE (s_acons (s_var 3) (s_acons (s_var 2) (s_acons (s_var 4) (s_acons (s_callTy b_list call_list_of rfl T.b_list PyProof.Rows.boot_list (s_acons (s_var 5) (s_anil))) (s_anil)))))) (s_callC c__law_played hr passE (s_acons (s_var 3) (s_acons (s_var 2) (s_acons (s_var 4) (s_acons (s_var 5) (s_anil)))))) rfl))))))))))
  have e : m_law = fnD 8 [.v] b_law := rfl
  rw [e]
  exact fn_body F sc_law rfl (by decide) B
theorem cal_law (T : Txt K mg) : Cal CX0 P w K mg base 6 "law" ["_law_script"] [.v] m_law :=
  cal_of T.f_law (fun _ _ _ _ _ _ us hl => match us, hl with | [_], _ => rfl) fun f fd F => ok_law T F
end
end Law

namespace Law
open PySem Oz L2
/-! ### the script's cells and draws -/
def dr (ds : List Int) (i : Nat) : Int := ds.getD i 0
theorem dr_at {ds : List Int} {i : Nat} (h : i < ds.length) : atI ds (i : Int) = some (dr ds i) := by
  rw [atI_ofNat]; simp [h, dr]
theorem dr_get {ds : List Int} {i : Nat} (h : i < ds.length) : ds[i]? = some (dr ds i) := by simp [h, dr]
theorem dr_nn {ds : List Int} (h : ∀ d ∈ ds, 0 ≤ d) (i : Nat) : 0 ≤ dr ds i := by
  unfold dr
  rw [List.getD_eq_getElem?_getD]
  cases e : ds[i]? with
  | none => simp
  | some d => exact h d (List.mem_of_getElem? e)
theorem e_cell (ns : List Int) (i : Nat) : m__law_cell [scrD (ns.map .int), .int i] = .ok ⟨.imm, .int (dr ns i)⟩ [] := by
  by_cases h : i < ns.length
  · simp [m__law_cell, b__law_cell, h, atI_ofNat, dr]
  · simp [m__law_cell, b__law_cell, h, atI_ofNat, dr]
theorem e_draws (c : Int) (k : Nat) (hk : k < 100) : ∃ ds : List Int, m__law_draws [.int c, .int k] = .ok ⟨.own, .list (ds.map .int)⟩ [] ∧ ds.length = k ∧ ∀ d ∈ ds, 0 ≤ d := by
  obtain ⟨⟨c', ds⟩, e, hl, hp⟩ := loop_st (g := gN 4) (b := l__law_draws_0) (item := fun (k : Nat) => (⟨.imm, .int (0 + (k : Int))⟩ : R))
    (fun (s : Int × List Int) => [some ⟨.imm, .int s.1⟩, some ⟨.imm, .int k⟩, some ⟨.own, .list (s.2.map .int)⟩, some ⟨.imm, .bool (decide (10 ^ 18 ≤ c))⟩, none, none])
    (fun pre s => s.2.length = pre.length ∧ ∀ d ∈ s.2, 0 ≤ d) (List.range k) (c, []) (by simp) (by
      rintro pre x post ⟨c', ds⟩ hx ⟨hl, hp⟩
      have hpre : ds.length < 16777216 := by
        have := pre_rng hx
        simp at hl
        omega
      cases hw : decide (10 ^ 18 ≤ c) with
      | true =>
        refine ⟨(c' / 1009, ds ++ [c' % 1009]), by simp [x_stp, l__law_draws_0, hpre, sizeLine], by simp at hl; simp [hl], ?_⟩
        intro d hd
        rcases List.mem_append.mp hd with h | h
        · exact hp d h
        · simp at h; omega
      | false =>
        have hm : (c' * 48271 + (x : Int) * 69621) % 2147483647 < 18446744073709551616 := by omega
        have hm2 : -18446744073709551616 < (c' * 48271 + (x : Int) * 69621) % 2147483647 := by omega
        refine ⟨(c', ds ++ [((c' * 48271 + (x : Int) * 69621) % 2147483647 * ((c' * 48271 + (x : Int) * 69621) % 2147483647) + c' * 31 + x) % 1000003]), by simp [x_stp, l__law_draws_0, hpre, hm, hm2, sizeLine], by simp at hl; simp [hl], ?_⟩
        intro d hd
        rcases List.mem_append.mp hd with h | h
        · exact hp d h
        · simp at h; rw [h]; exact Int.emod_nonneg _ (by decide))
  have hr : inR (k : Int) = true := inR_of (by omega) (by omega)
  refine ⟨ds, ?_, by simpa using hl, hp⟩
  rw [← irng_map] at e
  simp at e
  simp [m__law_draws, b__law_draws, f__law_draws_0, hr, e]
theorem list16 {ds : List Int} (h : ds.length = 16) : ∃ a0 a1 a2 a3 a4 a5 a6 a7 a8 a9 a10 a11 a12 a13 a14 a15, ds = [a0, a1, a2, a3, a4, a5, a6, a7, a8, a9, a10, a11, a12, a13, a14, a15] := by
  match ds, h with
  | [a0, a1, a2, a3, a4, a5, a6, a7, a8, a9, a10, a11, a12, a13, a14, a15], _ => exact ⟨_, _, _, _, _, _, _, _, _, _, _, _, _, _, _, _, rfl⟩
def partiesD (ps : List (Bool × Bool)) : D := .tuple (ps.map fun p => .tuple [.bool p.1, .bool p.2])
@[simp] theorem lfs_pt {ps : List (Bool × Bool)} : Oz.lfs (ps.map fun p => (.tuple [.bool p.1, .bool p.2] : D)) = true := by rw [lfs_all]; simp
@[simp] theorem lf_parties {ps : List (Bool × Bool)} : lf (partiesD ps) = true := by show Oz.lfs _ = true; simp
theorem e_parties (ds : List Int) (hl : ds.length = 16) : ∃ ps : List (Bool × Bool), m__law_parties [.list (ds.map .int)] = .ok ⟨.imm, partiesD ps⟩ [] ∧ 2 ≤ ps.length ∧ ps.length ≤ 5 := by
  have h0 : 0 ≤ dr ds 0 % 4 := Int.emod_nonneg _ (by decide)
  have h4 : dr ds 0 % 4 < 4 := Int.emod_lt_of_pos _ (by decide)
  obtain ⟨n, hn⟩ := Int.eq_ofNat_of_zero_le h0
  have hn4 : n < 4 := by omega
  have hc : compE (cN 1) tYesD c__law_parties_0 [some ⟨.out, .list (ds.map .int)⟩, none] (irng 0 (2 + n)) = some ((List.range (2 + n)).map fun k => (⟨.imm, .tuple [.bool (dr ds (1 + k) % 2 == 0), .bool (dr ds (7 + k) % 3 == 0)]⟩ : R)) := by
    rw [irng_map]
    refine comp_map1 fun k hk => ?_
    have hk2 : k < 2 + n := by simpa using hk
    have e1 : atI ds (1 + (k : Int)) = some (dr ds (1 + k)) := dr_at (ds := ds) (i := 1 + k) (by omega)
    have e2 : atI ds (7 + (k : Int)) = some (dr ds (7 + k)) := dr_at (ds := ds) (i := 7 + k) (by omega)
    refine ⟨[some ⟨.out, .list (ds.map .int)⟩, some ⟨.imm, .int k⟩], by simp, ?_⟩
    simp [c__law_parties_0, e1, e2, sizeLine]
  have hr : inR (2 + (n : Int)) = true := inR_of (by omega) (by omega)
  have ht : ((2 : Int) + n).toNat = 2 + n := by omega
  have e0 := dr_get (ds := ds) (i := 0) (by omega)
  have hcr := compR_own (xs := List.range (2 + n)) (f := fun k => (⟨.imm, .tuple [.bool (dr ds (1 + k) % 2 == 0), .bool (dr ds (7 + k) % 3 == 0)]⟩ : R)) (e := fun k => .tuple [.bool (dr ds (1 + k) % 2 == 0), .bool (dr ds (7 + k) % 3 == 0)]) (by simp [sizeLine]; omega) (fun k _ => by simp)
  refine ⟨(List.range (2 + n)).map fun k => (dr ds (1 + k) % 2 == 0, dr ds (7 + k) % 3 == 0), ?_, by simp, by simp; omega⟩
  have hlf : lfs ((List.range (2 + n)).map fun k => (.tuple [.bool (dr ds (1 + k) % 2 == 0), .bool (dr ds (7 + k) % 3 == 0)] : D)) = true := by
    rw [lfs_all]; simp
  simp [m__law_parties, b__law_parties, q__law_parties_0, e0, hn, hr, ht, hc, hcr, hlf, Function.comp_def, partiesD]
end Law

namespace Law
open PySem Oz L2
/-! ### groups -/
def tupI (g : List Int) : D := .tuple (g.map .int)
@[simp] theorem lf_tupI {g : List Int} : lf (tupI g) = true := by simp [tupI]
@[simp] theorem lfs_tupI {gs : List (List Int)} : lfs (gs.map tupI) = true := by rw [lfs_all]; simp
@[simp] theorem len_tupI {g : List Int} : fLen (tupI g) = some (.int g.length) := by simp [tupI]
@[simp] theorem truth_tupI {g : List Int} : truth (tupI g) = some (!g.isEmpty) := by simp [tupI]
@[simp] theorem ix_tupI {g : List Int} {s t : Sx} {i : Int} : ixR ⟨s, tupI g⟩ ⟨t, .int i⟩ = (match atI g i with | some x => .ok ⟨.imm, .int x⟩ | none => .bad) := by
  simp only [tupI, x_ixR_t, atI_map]
  cases atI g i <;> simp
@[simp] theorem add_tupI {g : List Int} {x : Int} (h : g.length + 1 ≤ 16777216) : addR ⟨.imm, tupI g⟩ ⟨.imm, .tuple [.int x]⟩ = .ok ⟨.imm, tupI (g ++ [x])⟩ := by simp [tupI, h, sizeLine]
@[simp] theorem src_tupI {g : List Int} {s : Sx} : srcR ⟨s, tupI g⟩ = .ok (g.map fun x => ⟨.imm, .int x⟩) := by simp [tupI, Function.comp_def]
def lastLo (g : List Int) : Int := match g.getLast? with
  | none => 0
  | some x => x + 1
def ext1 (n : Int) (g : List Int) : List (List Int) := (List.range (n - lastLo g).toNat).map fun (k : Nat) => g ++ [lastLo g + (k : Int)]
def grpStep (n : Int) (fs : List (List Int)) (size : Nat) : List (List Int) := fs ++ (fs.filter (fun g => g.length == size)).flatMap (ext1 n)
def grpL (n : Nat) : List (List Int) := (List.range n).foldl (grpStep n) [[]]
structure GOk (n : Int) (g : List Int) : Prop where
  len : g.length < 90
  ok : ∀ x ∈ g, 0 ≤ x ∧ x < n
theorem lastLo_ok {n : Int} {g : List Int} (h0 : 0 ≤ n) (h : ∀ x ∈ g, 0 ≤ x ∧ x < n) : 0 ≤ lastLo g ∧ lastLo g ≤ n := by
  unfold lastLo
  cases e : g.getLast? with
  | none => exact ⟨by simp, h0⟩
  | some x =>
    have := h x (List.mem_of_getLast? e)
    exact ⟨by simp; omega, by simp; omega⟩
theorem ext1_len {n : Nat} {g : List Int} (h : ∀ x ∈ g, 0 ≤ x ∧ x < (n : Int)) : (ext1 n g).length ≤ n := by
  have := lastLo_ok (Int.natCast_nonneg n) h
  simp [ext1]; omega
theorem at_last {g : List Int} (hn : g ≠ []) : atI g (-1) = g.getLast? := by
  unfold atI ixN
  have : 0 < g.length := List.length_pos_iff.mpr hn
  rw [if_neg (by omega), if_pos (by omega)]
  have e : (-1 + (g.length : Int)).toNat = g.length - 1 := by omega
  simp [e]
  rw [← List.getLast?_eq_getElem?]
theorem groups_in (n : Nat) (B C : R) (L : List (List Int)) (g : List Int) (h5 : n ≤ 5) (hL : L.length < 100000) (hg : g.length < 100) (hok : ∀ x ∈ g, 0 ≤ x ∧ x < (n : Int)) :
    f__law_groups_0 [some ⟨.imm, .int n⟩, some B, some C, some ⟨.own, .list (L.map tupI)⟩, some ⟨.imm, tupI g⟩, none] =
      .next [some ⟨.imm, .int n⟩, some B, some C, some ⟨.own, .list ((L ++ ext1 n g).map tupI)⟩, some ⟨.imm, tupI g⟩, none] := by
  obtain ⟨l0, l1⟩ := lastLo_ok (Int.natCast_nonneg n) hok
  have r1 := inR_of (i := lastLo g) l0 (by omega)
  have r2 := inR_of (i := (n : Int)) (by omega) (by omega)
  obtain ⟨s', e, rfl⟩ := loop_st (g := gN 5) (b := l__law_groups_0) (item := fun (k : Nat) => (⟨.imm, .int (lastLo g + (k : Int))⟩ : R)) (fun L' => [some ⟨.imm, .int n⟩, some B, some C, some ⟨.own, .list (L'.map tupI)⟩, some ⟨.imm, tupI g⟩, none])
    (fun pre L' => L' = L ++ pre.map fun (k : Nat) => g ++ [lastLo g + (k : Int)]) (List.range (n - lastLo g).toNat) L (by simp) (by
      rintro pre x post s hx rfl
      have := pre_rng hx
      have h1 : L.length + pre.length < 16777216 := by omega
      have h2 : g.length + 1 ≤ 16777216 := by omega
      exact ⟨(L ++ pre.map fun (k : Nat) => g ++ [lastLo g + (k : Int)]) ++ [g ++ [lastLo g + (x : Int)]], by simp [x_stp, l__law_groups_0, h1, h2, sizeLine], by simp⟩)
  rw [← irng_map] at e
  have hs : (srcR2 (pIf (tTru (pVar 4)) (p2 addR (p2 ixR (pVar 4) (pNeg (pC (.int 1)))) (pC (.int 1))) (pC (.int 0))) (pVar 0)) [some ⟨.imm, .int n⟩, some B, some C, some ⟨.own, .list (L.map tupI)⟩, some ⟨.imm, tupI g⟩, none] = .ok (irng (lastLo g) (n - lastLo g).toNat) := by
    by_cases hn : g = []
    · subst hn
      simp [lastLo, r2]
      simp [lastLo] at r1
      simp [r1]
    · have hl : g.getLast? = some (g.getLast hn) := List.getLast?_eq_some_getLast hn
      have hlo : lastLo g = g.getLast hn + 1 := by simp [lastLo, hl]
      rw [hlo] at r1 ⊢
      simp [at_last hn, hl, hn, r1, r2]
  simp only [f__law_groups_0, x_pre, mskE_t, mskE_f0, mskE_nil, x_forE hs]
  exact e
theorem flat_len (fs : List (List Int)) (n k : Nat) (h : ∀ g ∈ fs, (ext1 n g).length ≤ k) : (fs.flatMap (ext1 n)).length ≤ k * fs.length := by
  induction fs with
  | nil => simp
  | cons g fs ih =>
    have h1 := h g (by simp)
    have h2 := ih fun g' h' => h g' (by simp [h'])
    simp only [List.flatMap_cons, List.length_append, List.length_cons, Nat.mul_add]
    omega
theorem groups_mid (n : Nat) (h5 : n ≤ 5) (size : Nat) (fs : List (List Int)) (hf : ∀ g ∈ fs, GOk n g) (hl : fs.length < 10000) :
    f__law_groups_1 [some ⟨.imm, .int n⟩, some ⟨.own, .list (fs.map tupI)⟩, some ⟨.imm, .int size⟩, some ⟨.own, .list []⟩, none, none] =
      .next [some ⟨.imm, .int n⟩, some ⟨.imm, .list (fs.map tupI)⟩, none, some ⟨.own, .list (((fs.filter (fun g => g.length == size)).flatMap (ext1 n)).map tupI)⟩, none, none] := by
  obtain ⟨s', e, rfl⟩ := loop_st (g := gN 4) (b := l__law_groups_1) (item := fun g => (⟨.imm, tupI g⟩ : R)) (fun L => [some ⟨.imm, .int n⟩, some ⟨.imm, .list (fs.map tupI)⟩, some ⟨.imm, .int size⟩, some ⟨.own, .list (L.map tupI)⟩, none, none])
    (fun pre L => L = (pre.filter (fun g => g.length == size)).flatMap (ext1 n)) fs [] rfl (by
      rintro pre g post L hx rfl
      have hpre := pre_lt hx
      have hg := hf g (pre_mem hx)
      by_cases hc : g.length = size
      · have hLl : ((pre.filter (fun g => g.length == size)).flatMap (ext1 n)).length < 100000 := by
          have h1 := flat_len (pre.filter (fun g => g.length == size)) n n fun g' h' => ext1_len (hf g' (by rw [hx]; simp; exact .inl (List.mem_filter.mp h').1)).ok
          have h2 := List.length_filter_le (fun g : List Int => g.length == size) pre
          have h3 : n * (pre.filter (fun g => g.length == size)).length ≤ 5 * 10000 := Nat.mul_le_mul h5 (by omega)
          omega
        have e5 := groups_in n ⟨.imm, .list (fs.map tupI)⟩ ⟨.imm, .int size⟩ ((pre.filter (fun g => g.length == size)).flatMap (ext1 n)) g h5 hLl (by have := hg.len; omega) hg.ok
        exact ⟨(pre.filter (fun g => g.length == size)).flatMap (ext1 n) ++ ext1 n g, by simp [x_stp, l__law_groups_1, e5, hc], by simp [List.filter_append, hc]⟩
      · exact ⟨(pre.filter (fun g => g.length == size)).flatMap (ext1 n), by simp [x_stp, l__law_groups_1, Int.ofNat_inj, hc], by simp [List.filter_append, hc]⟩)
  simp at e
  simp [f__law_groups_1, Function.comp_def, e]
theorem ext1_ok {n : Nat} {k : Nat} {g : List Int} (h : ∀ x ∈ g, 0 ≤ x ∧ x < (n : Int)) : ∀ g' ∈ ext1 n g, g'.length = g.length + 1 ∧ ∀ x ∈ g', 0 ≤ x ∧ x < (n : Int) := by
  intro g' hg'
  obtain ⟨k, hk, rfl⟩ := List.mem_map.mp hg'
  have := lastLo_ok (Int.natCast_nonneg n) h
  have hk2 : k < (n - lastLo g).toNat := by simpa using hk
  refine ⟨by simp, fun x hx => ?_⟩
  rcases List.mem_append.mp hx with h' | h'
  · exact h x h'
  · simp at h'; omega
theorem groups_out (n : Nat) (h5 : n ≤ 5) : m__law_groups [.int n] = .ok ⟨.own, .list ((grpL n).map tupI)⟩ [] ∧ (grpL n ≠ [] ∧ (grpL n).length < 10000) ∧ ∀ g ∈ grpL n, GOk n g := by
  obtain ⟨e, hl, hne, ho⟩ := loop_fold (g := gN 2) (b := l__law_groups_2) (item := fun (k : Nat) => (⟨.imm, .int (0 + (k : Int))⟩ : R)) (fun gs => [some ⟨.imm, .int n⟩, some ⟨.own, .list (gs.map tupI)⟩, none, none, none, none])
    (grpStep n) (fun pre gs => gs.length ≤ 6 ^ pre.length ∧ gs ≠ [] ∧ ∀ g ∈ gs, GOk n g ∧ g.length ≤ pre.length) (List.range n) [[]] ⟨by simp, by simp, by simp; exact ⟨by simp, by simp⟩⟩ (by
      rintro pre x post gs hx ⟨hl, hne, ho⟩
      obtain ⟨rfl, hpre⟩ := pre_rng hx
      have hp4 : pre.length ≤ 4 := by omega
      have hpow : 6 ^ pre.length ≤ 6 ^ 4 := Nat.pow_le_pow_right (by decide) hp4
      have hgl : gs.length ≤ 1296 := Nat.le_trans hl (by simpa using hpow)
      have hLl := flat_len (gs.filter (fun g => g.length == pre.length)) n 5 fun g' h' => Nat.le_trans (ext1_len (ho g' (List.mem_filter.mp h').1).1.ok) h5
      have h2 := List.length_filter_le (fun g : List Int => g.length == pre.length) gs
      have em := groups_mid n h5 pre.length gs (fun g hg => (ho g hg).1) (by omega)
      have hz : gs.length + ((gs.filter (fun g => g.length == pre.length)).flatMap (ext1 n)).length ≤ 16777216 := by omega
      refine ⟨by simp only [grpStep]; simp [x_stp, l__law_groups_2, em, hz, sizeLine, -List.length_flatMap], ?_, by simp [grpStep, hne], fun g hg => ?_⟩
      · rw [grpStep, List.length_append, List.length_append, List.length_singleton, Nat.pow_succ]
        omega
      · rcases List.mem_append.mp hg with h | h
        · exact ⟨(ho g h).1, by have := (ho g h).2; simp; omega⟩
        · obtain ⟨g0, h0, h1⟩ := List.mem_flatMap.mp h
          have h3 := ho g0 (List.mem_filter.mp h0).1
          have h4 := ext1_ok (k := 0) h3.1.ok g h1
          exact ⟨⟨by omega, h4.2⟩, by simp; omega⟩)
  have hr : inR (n : Int) = true := inR_of (by omega) (by omega)
  rw [← irng_map] at e
  refine ⟨?_, ⟨hne, ?_⟩, fun g hg => (ho g hg).1⟩
  · simp [tupI] at e
    simp [m__law_groups, b__law_groups, f__law_groups_2, hr, e, sizeLine, grpL]
  · have : 6 ^ (List.range n).length ≤ 6 ^ 5 := Nat.pow_le_pow_right (by decide) (by simpa using h5)
    have h2 : (6 : Nat) ^ 5 = 7776 := by decide
    show ((List.range n).foldl (grpStep n) [[]]).length < 10000
    omega
end Law

namespace Law
open PySem Oz L2
/-! the events -/
inductive E where
  | mk (w : Bool) (num p k a : Int)
  | found (num p k a : Int)
  | handed (num g t k a : Int) (s : Bool)
  | passed (a b k m : Int)
  | gone (w : Bool) (p k a : Int)
def wd (w : Bool) (a b : String) : Str := if w then Str.ofString a else Str.ofString b
def enc : E → D
  | .mk w num p k a => .tuple [.str (if w then "made" else "treated"), .int num, .int p, .int k, .int a]
  | .found num p k a => .tuple [.str "found", .int num, .int p, .int k, .int a]
  | .handed num g t k a s => .tuple [.str "handed", .int num, .int g, .int t, .int k, .int a, .bool s]
  | .passed a b k m => .tuple [.str "passed", .int a, .int b, .int k, .int m]
  | .gone w p k a => .tuple [.str (if w then "dumped" else "conjured"), .int p, .int k, .int a]
def wf (n m : Int) : E → Prop
  | .mk _ _ p k _ => (0 ≤ p ∧ p < n) ∧ 0 ≤ k ∧ k < m
  | .found _ p k _ => (0 ≤ p ∧ p < n) ∧ 0 ≤ k ∧ k < m
  | .handed _ g t k _ _ => ((0 ≤ g ∧ g < n) ∧ 0 ≤ t ∧ t < n) ∧ 0 ≤ k ∧ k < m
  | .passed g t k _ => ((0 ≤ g ∧ g < n) ∧ 0 ≤ t ∧ t < n) ∧ 0 ≤ k ∧ k < m
  | .gone _ p k _ => (0 ≤ p ∧ p < n) ∧ 0 ≤ k ∧ k < m
@[simp] theorem lf_enc (e : E) : lf (enc e) = true := by cases e <;> simp [enc]
theorem list7 {ds : List Int} (h : ds.length = 7) : ∃ a b c d e f g, ds = [a, b, c, d, e, f, g] := by
  match ds, h with
  | [a, b, c, d, e, f, g], _ => exact ⟨a, b, c, d, e, f, g, rfl⟩
theorem e_event (ds : List Int) (hl : ds.length = 7) (hd : ∀ d ∈ ds, 0 ≤ d) (many kinds num : Int) (hm : 0 < many) (hk : 0 < kinds) :
    ∃ e, m__law_event [.list (ds.map .int), .int many, .int kinds, .int num] = .ok ⟨.imm, enc e⟩ [] ∧ wf many kinds e := by
  obtain ⟨d0, d1, d2, d3, d4, d5, d6, rfl⟩ := list7 hl
  have h1 := Int.emod_nonneg d1 (Int.ne_of_gt hm)
  have h2 := Int.emod_lt_of_pos d1 hm
  have h3 := Int.emod_nonneg d2 (Int.ne_of_gt hm)
  have h4 := Int.emod_lt_of_pos d2 hm
  have h5 := Int.emod_nonneg d3 (Int.ne_of_gt hk)
  have h6 := Int.emod_lt_of_pos d3 hk
  have hf : d0 % 9 = 0 ∨ d0 % 9 = 1 ∨ d0 % 9 = 2 ∨ d0 % 9 = 3 ∨ d0 % 9 = 4 ∨ d0 % 9 = 5 ∨ d0 % 9 = 6 ∨ d0 % 9 = 7 ∨ d0 % 9 = 8 := by omega
  rcases hf with h | h | h | h | h | h | h | h | h
  · exact ⟨.mk true num (d1 % many) (d3 % kinds) (1 + d4 % 6), by simp [m__law_event, b__law_event, h, hm, hk, enc, sizeLine], ⟨h1, h2⟩, h5, h6⟩
  · exact ⟨.mk true num (d1 % many) (d3 % kinds) (1 + d4 % 6), by simp [m__law_event, b__law_event, h, hm, hk, enc, sizeLine], ⟨h1, h2⟩, h5, h6⟩
  · exact ⟨.mk false num (d1 % many) (d3 % kinds) (1 + d4 % 6), by simp [m__law_event, b__law_event, h, hm, hk, enc, sizeLine], ⟨h1, h2⟩, h5, h6⟩
  · exact ⟨.found num (d1 % many) (d3 % kinds) (d4 % 8), by simp [m__law_event, b__law_event, h, hm, hk, enc, sizeLine], ⟨h1, h2⟩, h5, h6⟩
  · exact ⟨.handed num (d1 % many) (d2 % many) (d3 % kinds) (1 + d4 % 6) (d5 % 2 == 0), by simp [m__law_event, b__law_event, h, hm, hk, enc, sizeLine], ⟨⟨h1, h2⟩, h3, h4⟩, h5, h6⟩
  · exact ⟨.handed num (d1 % many) (d2 % many) (d3 % kinds) (1 + d4 % 6) (d5 % 2 == 0), by simp [m__law_event, b__law_event, h, hm, hk, enc, sizeLine], ⟨⟨h1, h2⟩, h3, h4⟩, h5, h6⟩
  · exact ⟨.passed (d1 % many) (d2 % many) (d3 % kinds) (1 + d4 % 6), by simp [m__law_event, b__law_event, h, hm, hk, enc, sizeLine], ⟨⟨h1, h2⟩, h3, h4⟩, h5, h6⟩
  · exact ⟨.gone true (d1 % many) (d3 % kinds) (1 + d4 % 6), by simp [m__law_event, b__law_event, h, hm, hk, enc, sizeLine], ⟨h1, h2⟩, h5, h6⟩
  · exact ⟨.gone false (d1 % many) (d3 % kinds) (1 + d4 % 6), by simp [m__law_event, b__law_event, h, hm, hk, enc, sizeLine], ⟨h1, h2⟩, h5, h6⟩
theorem e_events (ns : List Int) (many kinds : Int) (hm : 0 < many) (hk : 0 < kinds) : ∃ es : List E, m__law_events [scrD (ns.map .int), .int 1, .int 40, .int many, .int kinds] = .ok ⟨.own, .list (es.map enc)⟩ [] ∧ es.length ≤ 40 ∧ ∀ e ∈ es, wf many kinds e := by
  have h0 : 0 ≤ dr ns 1 % 41 := Int.emod_nonneg _ (by decide)
  have h4 : dr ns 1 % 41 < 41 := Int.emod_lt_of_pos _ (by decide)
  obtain ⟨n, hn⟩ := Int.eq_ofNat_of_zero_le h0
  have hn4 : n < 41 := by omega
  obtain ⟨⟨num, es⟩, e, hl, hp⟩ := loop_st (g := gN 7) (b := l__law_events_0) (item := fun (k : Nat) => (⟨.imm, .int (0 + (k : Int))⟩ : R))
    (fun (s : Int × List E) => [some ⟨.out, scrD (ns.map .int)⟩, some ⟨.imm, .int 1⟩, some ⟨.imm, .int 40⟩, some ⟨.imm, .int many⟩, some ⟨.imm, .int kinds⟩, some ⟨.own, .list (s.2.map enc)⟩, some ⟨.imm, .int s.1⟩, none, none])
    (fun pre s => s.2.length = pre.length ∧ ∀ e ∈ s.2, wf many kinds e) (List.range n) (0, []) (by simp)
    (by
      rintro pre x post ⟨num, es⟩ hx ⟨hl, hp⟩
      simp only at hl hp
      have hpre : es.length < 16777216 := by
        have := pre_rng hx
        omega
      obtain ⟨ds, hds0, hdl, hdn⟩ := e_draws (dr ns (2 + x)) 7 (by decide)
      have hds : m__law_draws [.int (dr ns (2 + x)), .int 7] = _ := hds0
      have hc : m__law_cell [scrD (ns.map .int), .int (2 + (x : Int))] = _ := e_cell ns (2 + x)
      have h6 := dr_get (ds := ds) (i := 6) (by omega)
      have hd6 : dr ds 6 % 6 = 0 ∨ dr ds 6 % 6 = 1 ∨ dr ds 6 % 6 = 2 ∨ dr ds 6 % 6 = 3 ∨ dr ds 6 % 6 = 4 ∨ dr ds 6 % 6 = 5 := by omega
      have hi : ∃ inc : Int, atI [PyData.int 1, .int 1, .int 1, .int 1, .int 5, .int 0] (dr ds 6 % 6) = some (.int inc) := by
        rcases hd6 with h | h | h | h | h | h <;> rw [h] <;> exact ⟨_, rfl⟩
      obtain ⟨inc, hi⟩ := hi
      obtain ⟨e, he, hw⟩ := e_event ds hdl hdn many kinds (fMax2 1 (num + inc)) hm hk
      refine ⟨(num + inc, es ++ [e]), by simp [x_stp, l__law_events_0, hc, hds, h6, hi, he, hpre, sizeLine], by simp [hl], ?_⟩
      intro d hd
      rcases List.mem_append.mp hd with h | h
      · exact hp d h
      · simp at h; rw [h]; exact hw)
  have hr : inR (n : Int) = true := inR_of (by omega) (by omega)
  have hc : m__law_cell [scrD (ns.map .int), .int 1] = _ := e_cell ns 1
  rw [← irng_map] at e
  simp at e
  exact ⟨es, by simp [m__law_events, b__law_events, f__law_events_0, hc, hn, hr, e], by simp at hl; omega, hp⟩
/-! the world -/
def rowD (r : List Int) : D := .list (r.map .int)
def worldD (ps : List (Bool × Bool)) (gr : List Int) (S : List (List Int)) : D := objD (Str.ofString "World") [(.str (Str.ofString "parties"), partiesD ps), (.str (Str.ofString "coalition"), tupI gr), (.str (Str.ofString "stock"), .list (S.map rowD))]
def valS (S : List (List Int)) (p k : Int) : Int := (S.getD p.toNat []).getD k.toNat 0
def updS (S : List (List Int)) (p k v : Int) : List (List Int) := S.set p.toNat ((S.getD p.toNat []).set k.toNat v)
structure SOk (n m : Nat) (S : List (List Int)) : Prop where
  len : S.length = n
  row : ∀ r ∈ S, r.length = m
theorem SOk.upd {n m : Nat} {S : List (List Int)} (h : SOk n m S) {p k v : Int} (h0 : 0 ≤ p) (h1 : p < n) : SOk n m (updS S p k v) := by
  have hl : p.toNat < S.length := by have := h.len; omega
  refine ⟨by simp [updS, h.len], fun r hr => ?_⟩
  rcases List.mem_or_eq_of_mem_set hr with z | z
  · exact h.row r z
  · rw [z, List.length_set]
    exact h.row _ (by simp [hl])
structure At (S : List (List Int)) (p k : Int) (r : List Int) : Prop where
  ip : ixN S.length p = some p.toNat
  gp : S[p.toNat]? = some r
  ap : atI S p = some r
  ik : ixN r.length k = some k.toNat
  ak : atI r k = some (valS S p k)
  eq : S.getD p.toNat [] = r
theorem SOk.at {n m : Nat} {S : List (List Int)} (h : SOk n m S) {p k : Int} (h0 : 0 ≤ p) (h1 : p < n) (k0 : 0 ≤ k) (k1 : k < m) : ∃ r, At S p k r := by
  have hl : p.toNat < S.length := by have := h.len; omega
  have hr := h.row _ (List.getElem_mem hl)
  have hk : k.toNat < (S[p.toNat]).length := by omega
  have hp : p < S.length := by have := h.len; omega
  refine ⟨S[p.toNat], ixN_some h0 hp, by simp [hl], atI_some h0 hp, ixN_some k0 (by omega), ?_, by simp [hl]⟩
  rw [atI_some k0 (by omega)]
  simp [valS, hl, hk]
@[simp] theorem lf_rowD {r : List Int} : lf (rowD r) = false := id rfl
@[simp] theorem lf_worldD {ps : List (Bool × Bool)} {gr : List Int} {S : List (List Int)} : lf (worldD ps gr S) = false := id rfl
theorem row_set {S : List (List Int)} {p k v : Int} {r : List Int} (h : At S p k r) : (S.map rowD).set p.toNat (rowD (r.set k.toNat v)) = (updS S p k v).map rowD := by
  rw [updS, h.eq, List.map_set]
theorem e_lose (ps : List (Bool × Bool)) (gr : List Int) {S : List (List Int)} {p k : Int} {r : List Int} (h : At S p k r) (a : Int) :
    m_World_lose [worldD ps gr S, .int p, .int k, .int a] = if valS S p k < a then .ok ⟨.imm, .bool false⟩ [worldD ps gr S] else .ok ⟨.imm, .bool true⟩ [worldD ps gr (updS S p k (valS S p k - a))] := by
  have e1 := row_set (v := valS S p k - a) h
  by_cases c : valS S p k < a
  · rw [if_pos c]
    simp [m_World_lose, b_World_lose, worldD, h.ap, c, rowD, h.ak]
  · rw [if_neg c]
    simp only [rowD] at e1
    simp [m_World_lose, b_World_lose, worldD, h.ap, c, rowD, h.ak, h.ip, h.gp, h.ik, e1, ← e1]
theorem e_gain (ps : List (Bool × Bool)) (gr : List Int) {S : List (List Int)} {p k : Int} {r : List Int} (h : At S p k r) (a : Int) :
    m_World_gain [worldD ps gr S, .int p, .int k, .int a] = .ok ⟨.imm, .bool true⟩ [worldD ps gr (updS S p k (valS S p k + a))] := by
  have e1 := row_set (v := valS S p k + a) h
  simp only [rowD] at e1
  simp [m_World_gain, b_World_gain, worldD, h.ap, rowD, h.ak, h.ip, h.gp, h.ik, ← e1]
/-! what can happen -/
def mv (S : List (List Int)) (g t k a : Int) : Option (List (List Int)) := if g = t then none else if valS S g k < a then none else some (updS (updS S g k (valS S g k - a)) t k (valS (updS S g k (valS S g k - a)) t k + a))
def Rs (o : Option (List (List Int))) (b : Bool) (S' : List (List Int)) : Prop := match o with
  | none => b = false
  | some S2 => b = true ∧ S' = S2
theorem e_move (ps : List (Bool × Bool)) (gr : List Int) {n m : Nat} {S : List (List Int)} (h : SOk n m S) {g t k : Int} (g0 : 0 ≤ g) (g1 : g < n) (t0 : 0 ≤ t) (t1 : t < n) (k0 : 0 ≤ k) (k1 : k < m) (a : Int) :
    ∃ b S', m_World_move [worldD ps gr S, .int g, .int t, .int k, .int a] = .ok ⟨.imm, .bool b⟩ [worldD ps gr S'] ∧ Rs (mv S g t k a) b S' := by
  obtain ⟨r, hr⟩ := h.at g0 g1 k0 k1
  have el := e_lose ps gr hr a
  unfold mv
  by_cases c : g = t
  · rw [if_pos c]
    refine ⟨false, S, ?_, rfl⟩
    subst c
    simp [m_World_move, b_World_move]
  · rw [if_neg c]
    have cb : (g == t) = false := by simp [c]
    by_cases c2 : valS S g k < a
    · rw [if_pos c2] at el ⊢
      refine ⟨false, S, ?_, rfl⟩
      simp only [worldD] at el
      simp [m_World_move, b_World_move, cb, worldD, el]
    · rw [if_neg c2] at el ⊢
      obtain ⟨r2, hr2⟩ := (h.upd (p := g) (k := k) (v := valS S g k - a) g0 g1).at t0 t1 k0 k1
      have eg := e_gain ps gr hr2 a
      refine ⟨true, _, ?_, rfl, rfl⟩
      simp only [worldD] at el eg
      simp [m_World_move, b_World_move, cb, worldD, el, eg]
def pOf (ps : List (Bool × Bool)) (p : Int) : Bool × Bool := ps.getD p.toNat (false, false)
theorem p_at {ps : List (Bool × Bool)} {p : Int} (h0 : 0 ≤ p) (h : p < ps.length) : atI ps p = some (pOf ps p) := by
  rw [atI_some h0 h]
  have : p.toNat < ps.length := by omega
  simp [pOf, this]
def inG (gr : List Int) (g : Int) : Bool := gr.any fun z => z == g
@[simp] theorem fIn_tupI {gr : List Int} {g : Int} : fIn (.int g) (tupI gr) = some (inG gr g) := by
  unfold tupI
  rw [fIn_t rfl (by simp)]
  simp [inG, Function.comp_def]
def play (ps : List (Bool × Bool)) (gr : List Int) (S : List (List Int)) : E → Option (List (List Int))
  | .mk true _ p k a => if (pOf ps p).1 = true then some (updS S p k (valS S p k + a)) else none
  | .mk false _ p k a => if (pOf ps p).2 = true then (if valS S p k < a then none else some (updS S p k (valS S p k - a))) else none
  | .found _ p k a => if valS S p k = a then some S else none
  | .handed _ g t k a _ => mv S g t k a
  | .passed g t k a => if inG gr g = true ∧ inG gr t = true then mv S g t k a else none
  | .gone true p k a => if inG gr p = true then (if valS S p k < a then none else some (updS S p k (valS S p k - a))) else none
  | .gone false p k a => if inG gr p = true ∧ (pOf ps p).1 = true then some (updS S p k (valS S p k + a)) else none
theorem e_open (ps : List (Bool × Bool)) (gr : List Int) {m : Nat} {S : List (List Int)} (h : SOk ps.length m S) (e : E) (w : wf ps.length m e) (ho : match e with | .passed .. => False | .gone .. => False | _ => True) :
    ∃ b S', m_World_do_open [worldD ps gr S, enc e] = .ok ⟨.imm, .bool b⟩ [worldD ps gr S'] ∧ Rs (play ps gr S e) b S' := by
  cases e with
  | handed num g t k a s =>
    obtain ⟨b, S', em, hR⟩ := e_move ps gr h w.1.1.1 w.1.1.2 w.1.2.1 w.1.2.2 w.2.1 w.2.2 a
    refine ⟨b, S', ?_, hR⟩
    simp only [worldD] at em
    simp [m_World_do_open, b_World_do_open, enc, worldD, em]
  | mk wd num p k a =>
    obtain ⟨r, hr⟩ := h.at w.1.1 w.1.2 w.2.1 w.2.2
    have el := e_lose ps gr hr a
    have eg := e_gain ps gr hr a
    have hp := p_at (ps := ps) w.1.1 w.1.2
    cases wd with
    | true =>
      by_cases c : (pOf ps p).1 = true
      · refine ⟨true, updS S p k (valS S p k + a), ?_, by simp [play, c, Rs]⟩
        simp only [worldD, partiesD] at eg
        simp [m_World_do_open, b_World_do_open, enc, worldD, partiesD, hp, c, eg]
      · refine ⟨false, S, ?_, by simp [play, c, Rs]⟩
        have c' : (pOf ps p).1 = false := by simpa using c
        simp [m_World_do_open, b_World_do_open, enc, worldD, partiesD, hp, c']
    | false =>
      by_cases c : (pOf ps p).2 = true
      · by_cases c2 : valS S p k < a
        · rw [if_pos c2] at el
          refine ⟨false, S, ?_, by simp [play, c, c2, Rs]⟩
          simp only [worldD, partiesD] at el
          simp [m_World_do_open, b_World_do_open, enc, worldD, partiesD, hp, c, el]
        · rw [if_neg c2] at el
          refine ⟨true, updS S p k (valS S p k - a), ?_, by simp [play, c, c2, Rs]⟩
          simp only [worldD, partiesD] at el
          simp [m_World_do_open, b_World_do_open, enc, worldD, partiesD, hp, c, el]
      · refine ⟨false, S, ?_, by simp [play, c, Rs]⟩
        have c' : (pOf ps p).2 = false := by simpa using c
        simp [m_World_do_open, b_World_do_open, enc, worldD, partiesD, hp, c']
  | found num p k a =>
    obtain ⟨r, hr⟩ := h.at w.1.1 w.1.2 w.2.1 w.2.2
    by_cases c : valS S p k = a
    · refine ⟨true, S, ?_, by simp [play, c, Rs]⟩
      simp [m_World_do_open, b_World_do_open, enc, worldD, hr.ap, rowD, hr.ak, c]
    · refine ⟨false, S, ?_, by simp [play, c, Rs]⟩
      simp [m_World_do_open, b_World_do_open, enc, worldD, hr.ap, rowD, hr.ak, c]
  | passed _ _ _ _ => exact ho.elim
  | gone _ _ _ _ => exact ho.elim
theorem e_secret (ps : List (Bool × Bool)) (gr : List Int) {m : Nat} {S : List (List Int)} (h : SOk ps.length m S) (e : E) (w : wf ps.length m e) (ho : match e with | .passed .. => True | .gone .. => True | _ => False) :
    ∃ b S', m_World_do_secret [worldD ps gr S, enc e] = .ok ⟨.imm, .bool b⟩ [worldD ps gr S'] ∧ Rs (play ps gr S e) b S' := by
  cases e with
  | passed g t k a =>
    obtain ⟨b, S', em, hR⟩ := e_move ps gr h w.1.1.1 w.1.1.2 w.1.2.1 w.1.2.2 w.2.1 w.2.2 a
    simp only [worldD] at em
    cases c1 : inG gr g with
    | false => exact ⟨false, S, by simp [m_World_do_secret, b_World_do_secret, enc, worldD, c1], by simp [play, c1, Rs]⟩
    | true =>
      cases c2 : inG gr t with
      | false => exact ⟨false, S, by simp [m_World_do_secret, b_World_do_secret, enc, worldD, c1, c2], by simp [play, c1, c2, Rs]⟩
      | true => exact ⟨b, S', by simp [m_World_do_secret, b_World_do_secret, enc, worldD, c1, c2, em], by simp only [play, c1, c2]; exact hR⟩
  | gone wd p k a =>
    obtain ⟨r, hr⟩ := h.at w.1.1 w.1.2 w.2.1 w.2.2
    have el := e_lose ps gr hr a
    have eg := e_gain ps gr hr a
    have hp := p_at (ps := ps) w.1.1 w.1.2
    simp only [worldD, partiesD] at el eg
    cases c1 : inG gr p with
    | false =>
      cases wd with
      | true => exact ⟨false, S, by simp [m_World_do_secret, b_World_do_secret, enc, worldD, partiesD, c1], by simp [play, c1, Rs]⟩
      | false => exact ⟨false, S, by simp [m_World_do_secret, b_World_do_secret, enc, worldD, partiesD, c1], by simp [play, c1, Rs]⟩
    | true =>
      cases wd with
      | true =>
        by_cases c2 : valS S p k < a
        · rw [if_pos c2] at el
          exact ⟨false, S, by simp [m_World_do_secret, b_World_do_secret, enc, worldD, partiesD, c1, el], by simp [play, c1, c2, Rs]⟩
        · rw [if_neg c2] at el
          exact ⟨true, updS S p k (valS S p k - a), by simp [m_World_do_secret, b_World_do_secret, enc, worldD, partiesD, c1, el], by simp [play, c1, c2, Rs]⟩
      | false =>
        cases c2 : (pOf ps p).1 with
        | false => exact ⟨false, S, by simp [m_World_do_secret, b_World_do_secret, enc, worldD, partiesD, c1, hp, c2], by simp [play, c1, c2, Rs]⟩
        | true => exact ⟨true, updS S p k (valS S p k + a), by simp [m_World_do_secret, b_World_do_secret, enc, worldD, partiesD, c1, hp, c2, eg], by simp [play, c1, c2, Rs]⟩
  | mk _ _ _ _ _ => exact ho.elim
  | found _ _ _ _ => exact ho.elim
  | handed _ _ _ _ _ _ => exact ho.elim
/-! one event, all events -/
theorem e_do (ps : List (Bool × Bool)) (gr : List Int) {m : Nat} {S : List (List Int)} (h : SOk ps.length m S) (e : E) (w : wf ps.length m e) :
    ∃ b S', m_World_do [worldD ps gr S, enc e] = .ok ⟨.imm, .bool b⟩ [worldD ps gr S'] ∧ Rs (play ps gr S e) b S' := by
  cases e with
  | mk wd num p k a =>
    obtain ⟨b, S', em, hR⟩ := e_open ps gr h (.mk wd num p k a) w trivial
    refine ⟨b, S', ?_, hR⟩
    cases wd with
    | true => simp [enc, worldD] at em; simp [m_World_do, b_World_do, enc, worldD, em]
    | false => simp [enc, worldD] at em; simp [m_World_do, b_World_do, enc, worldD, em]
  | found num p k a =>
    obtain ⟨b, S', em, hR⟩ := e_open ps gr h (.found num p k a) w trivial
    refine ⟨b, S', ?_, hR⟩
    simp [enc, worldD] at em
    simp [m_World_do, b_World_do, enc, worldD, em]
  | handed num g t k a s =>
    obtain ⟨b, S', em, hR⟩ := e_open ps gr h (.handed num g t k a s) w trivial
    refine ⟨b, S', ?_, hR⟩
    simp [enc, worldD] at em
    simp [m_World_do, b_World_do, enc, worldD, em]
  | passed g t k a =>
    obtain ⟨b, S', em, hR⟩ := e_secret ps gr h (.passed g t k a) w trivial
    refine ⟨b, S', ?_, hR⟩
    simp [enc, worldD] at em
    simp [m_World_do, b_World_do, enc, worldD, em]
  | gone wd p k a =>
    obtain ⟨b, S', em, hR⟩ := e_secret ps gr h (.gone wd p k a) w trivial
    refine ⟨b, S', ?_, hR⟩
    cases wd with
    | true => simp [enc, worldD] at em; simp [m_World_do, b_World_do, enc, worldD, em]
    | false => simp [enc, worldD] at em; simp [m_World_do, b_World_do, enc, worldD, em]
theorem mv_ok {n m : Nat} {S S' : List (List Int)} (h : SOk n m S) {g t k a : Int} (g0 : 0 ≤ g) (g1 : g < n) (t0 : 0 ≤ t) (t1 : t < n) (e : mv S g t k a = some S') : SOk n m S' := by
  unfold mv at e
  by_cases c : g = t
  · rw [if_pos c] at e; cases e
  · rw [if_neg c] at e
    by_cases c2 : valS S g k < a
    · rw [if_pos c2] at e; cases e
    · rw [if_neg c2] at e
      cases e
      exact (h.upd g0 g1).upd t0 t1
theorem play_ok {ps : List (Bool × Bool)} {gr : List Int} {n m : Nat} {S S' : List (List Int)} (h : SOk n m S) {e : E} (w : wf n m e) (q : play ps gr S e = some S') : SOk n m S' := by
  cases e with
  | mk wd num p k a =>
    cases wd with
    | true =>
      simp only [play] at q
      split at q
      · cases q; exact h.upd w.1.1 w.1.2
      · cases q
    | false =>
      simp only [play] at q
      split at q
      · split at q
        · cases q
        · cases q; exact h.upd w.1.1 w.1.2
      · cases q
  | found num p k a =>
    simp only [play] at q
    split at q
    · cases q; exact h
    · cases q
  | handed num g t k a s => exact mv_ok h w.1.1.1 w.1.1.2 w.1.2.1 w.1.2.2 q
  | passed g t k a =>
    simp only [play] at q
    split at q
    · exact mv_ok h w.1.1.1 w.1.1.2 w.1.2.1 w.1.2.2 q
    · cases q
  | gone wd p k a =>
    cases wd with
    | true =>
      simp only [play] at q
      split at q
      · split at q
        · cases q
        · cases q; exact h.upd w.1.1 w.1.2
      · cases q
    | false =>
      simp only [play] at q
      split at q
      · cases q; exact h.upd w.1.1 w.1.2
      · cases q
/-! the stocks -/
def S0 (n m : Nat) : List (List Int) := List.replicate n (List.replicate m 0)
theorem S0_ok (n m : Nat) : SOk n m (S0 n m) := ⟨by simp [S0], fun r hr => by rw [List.eq_of_mem_replicate hr]; simp⟩
@[simp] theorem src_parties {ps : List (Bool × Bool)} {s : Sx} : srcR ⟨s, partiesD ps⟩ = .ok (ps.map fun p => (⟨.imm, .tuple [.bool p.1, .bool p.2]⟩ : R)) := by
  simp only [partiesD, x_srcRt]
  simp [Function.comp_def]
theorem e_init (ps : List (Bool × Bool)) (gr : List Int) (m : Nat) (hm : m < 100) (hp : ps.length < 100) :
    m_World___init__ [objD (Str.ofString "World") [], .int m, partiesD ps, tupI gr] = .ok ⟨.imm, .none⟩ [worldD ps gr (S0 ps.length m)] := by
  have hr : inR (m : Int) = true := inR_of (by omega) (by omega)
  have hs : sizeLine = 16777216 := rfl
  have hrow : ∀ (A B C D4 E4 : Option R), compE (cN 5) tYesD c_World___init___0 [A, B, C, D4, E4, none] (irng 0 m) = some ((List.range m).map fun _ => (⟨.imm, .int 0⟩ : R)) := fun A B C D4 E4 => by
    rw [irng_map]
    exact comp_map1 fun k _ => ⟨[A, B, C, D4, E4, some ⟨.imm, .int (0 + k)⟩], by simp, by simp [c_World___init___0]⟩
  have hcr : compR ((List.range m).map fun _ => (⟨.imm, .int 0⟩ : R)) = .ok ⟨.own, rowD (List.replicate m 0)⟩ := by
    rw [compR_own (e := fun _ => .int 0) (by simp; omega) fun _ _ => rfl]
    simp [rowD, List.map_const']
  have hout : ∀ d : D, compE (cN 4) tYesD c_World___init___1 [some ⟨.brw, d⟩, some ⟨.imm, .int m⟩, some ⟨.imm, partiesD ps⟩, some ⟨.imm, tupI gr⟩, none, none] (ps.map fun p => (⟨.imm, .tuple [.bool p.1, .bool p.2]⟩ : R)) = some (ps.map fun _ => (⟨.own, rowD (List.replicate m 0)⟩ : R)) := fun d => by
    refine comp_map1 fun p _ => ⟨[some ⟨.brw, d⟩, some ⟨.imm, .int m⟩, some ⟨.imm, partiesD ps⟩, some ⟨.imm, tupI gr⟩, some ⟨.imm, .tuple [.bool p.1, .bool p.2]⟩, none], by simp, ?_⟩
    simp [c_World___init___1, q_World___init___0, hr, hrow, hcr]
  have hcr2 : compR (ps.map fun _ => (⟨.own, rowD (List.replicate m 0)⟩ : R)) = .ok ⟨.own, .list ((S0 ps.length m).map rowD)⟩ := by
    rw [compR_own (e := fun _ => rowD (List.replicate m 0)) (by omega) fun _ _ => rfl]
    simp [S0, List.map_const']
  rw [List.map_const'] at hcr2
  simp [m_World___init__, b_World___init__, q_World___init___1, worldD, hout, hcr2, List.map_const']
def playAll (ps : List (Bool × Bool)) (gr : List Int) : List (List Int) → List E → Option (List (List Int))
  | S, [] => some S
  | S, e :: es => match play ps gr S e with
    | none => none
    | some S' => playAll ps gr S' es
@[simp] theorem un_world {ps : List (Bool × Bool)} {gr : List Int} {S : List (List Int)} : unO (Str.ofString "World") (worldD ps gr S) = some [(.str (Str.ofString "parties"), partiesD ps), (.str (Str.ofString "coalition"), tupI gr), (.str (Str.ofString "stock"), .list (S.map rowD))] := x_unO
theorem stocks_loop (ps : List (Bool × Bool)) (gr : List Int) {m : Nat} (D4 : R) : ∀ (es : List E) (S : List (List Int)), SOk ps.length m S → (∀ e ∈ es, wf ps.length m e) →
    loopS (gN 5) l_stocks_0 (es.map fun e => (⟨.imm, enc e⟩ : R)) [none, none, none, some D4, some ⟨.own, worldD ps gr S⟩, none] = match playAll ps gr S es with
    | none => .ret ⟨.imm, .none⟩ (mskE [false, false, false, false, false, false] [none, none, none, some D4, none, none])
    | some S' => .next [none, none, none, some D4, some ⟨.own, worldD ps gr S'⟩, none]
  | [], S, h, w => rfl
  | e :: es, S, h, w => by
    obtain ⟨b, S', ed, hR⟩ := e_do ps gr h e (w e (by simp))
    rw [List.map_cons, loop_c]
    unfold playAll
    cases hp : play ps gr S e with
    | none =>
      rw [hp] at hR
      have hb : b = false := hR
      subst hb
      simp [x_stp, l_stocks_0, ed]
      cases D4; rename_i s d; cases s <;> rfl
    | some S2 =>
      rw [hp] at hR
      obtain ⟨hb, hs⟩ := hR
      subst hb hs
      have := stocks_loop ps gr D4 es S' (play_ok h (w e (by simp)) hp) fun e' h' => w e' (by simp [h'])
      simp [x_stp, l_stocks_0, ed]
      exact this
theorem e_stocks (ps : List (Bool × Bool)) (gr : List Int) (m : Nat) (hm : m < 100) (hp : ps.length < 100) (es : List E) (w : ∀ e ∈ es, wf ps.length m e) :
    m_stocks [.int m, partiesD ps, tupI gr, .list (es.map enc)] = match playAll ps gr (S0 ps.length m) es with
      | none => .ok ⟨.imm, .none⟩ []
      | some S => .ok ⟨.imm, .list (S.map rowD)⟩ [] := by
  have hi := e_init ps gr m hm hp
  have hl := stocks_loop ps gr ⟨.out, .list (es.map enc)⟩ es (S0 ps.length m) (S0_ok _ _) w
  cases hp : playAll ps gr (S0 ps.length m) es with
  | none =>
    rw [hp] at hl
    simp at hl
    simp [m_stocks, b_stocks, f_stocks_0, hi, Function.comp_def, hl]
  | some S =>
    rw [hp] at hl
    simp at hl
    simp [m_stocks, b_stocks, f_stocks_0, hi, Function.comp_def, hl]
end Law

namespace Law
open PySem Oz L2
/-! ### the law's own play -/
theorem cut_from {ds : List D} {k : Nat} (hk : 0 < k) : cutD ds (some (-(k : Int))) none = ds.drop (ds.length - k) := by
  unfold cutD HT.sIx
  · have h1 : (-(k : Int)) < 0 := by omega
    simp only [if_pos h1]
    have e : (-(k : Int) + (ds.length : Int)).toNat = ds.length - k := by omega
    rw [e]
    exact List.take_of_length_le (by simp)
theorem cut3_5 {a b c d e : D} : cutD [a, b, c, d, e] (some (-3)) none = [c, d, e] := cut_from (k := 3) (by decide)
theorem cut3_4 {b c d e : D} : cutD [b, c, d, e] (some (-3)) none = [c, d, e] := cut_from (k := 3) (by decide)
theorem cut26 {a b c d e f g : D} : cutD [a, b, c, d, e, f, g] (some 2) (some 6) = [c, d, e, f] := rfl
theorem cut15 {a b c d e : D} : cutD [a, b, c, d, e] (some 1) (some 5) = [b, c, d, e] := rfl
theorem row_setI {S : List (List Int)} {p k v : Int} {r : List Int} (h : At S p k r) : (S.map rowD).set p.toNat (.list ((r.map .int).set k.toNat (.int v))) = (updS S p k v).map rowD := by
  rw [← row_set h, rowD, List.map_set]
def pEnv (ps : List (Bool × Bool)) (gr : List Int) (d : D) (S : List (List Int)) : Ev := [none, some ⟨.imm, partiesD ps⟩, some ⟨.imm, tupI gr⟩, some ⟨.out, d⟩, some ⟨.own, .list (S.map rowD)⟩, none, none, none, none, none, none]
def pOut (ps : List (Bool × Bool)) (gr : List Int) (d : D) : Option (List (List Int)) → SR
  | none => .ret ⟨.imm, .none⟩ [none, none, none, none, none, none, none, none, none, none, none]
  | some S => .next (pEnv ps gr d S)
theorem at_parties {ps : List (Bool × Bool)} {p : Int} {s t : Sx} (h : atI ps p = some (pOf ps p)) : ixR ⟨s, partiesD ps⟩ ⟨t, .int p⟩ = .ok ⟨.imm, .tuple [.bool (pOf ps p).1, .bool (pOf ps p).2]⟩ := by
  simp [partiesD, h]
theorem e_pstep (ps : List (Bool × Bool)) (gr : List Int) (d : D) {m : Nat} {S : List (List Int)} (h : SOk ps.length m S) (e : E) (w : wf ps.length m e) :
    stp (gN 5) l__law_played_0 ⟨.imm, enc e⟩ (pEnv ps gr d S) = pOut ps gr d (play ps gr S e) := by
  have move : ∀ (g t k a : Int), ((0 ≤ g ∧ g < ps.length) ∧ 0 ≤ t ∧ t < ps.length) ∧ 0 ≤ k ∧ k < m → True := fun _ _ _ _ _ => trivial
  cases e with
  | mk wd num p k a =>
    obtain ⟨r, hr⟩ := h.at w.1.1 w.1.2 w.2.1 w.2.2
    have hp := at_parties (s := .imm) (t := .imm) (p_at (ps := ps) w.1.1 w.1.2)
    cases wd with
    | true =>
      have e1 := row_setI (v := valS S p k + a) hr
      cases c : (pOf ps p).1 <;> simp [x_stp, l__law_played_0, enc, play, pEnv, pOut, c, hp, cut3_5, hr.ap, rowD, hr.ak, hr.ip, hr.gp, hr.ik, e1, sizeLine]
    | false =>
      have e1 := row_setI (v := valS S p k - a) hr
      cases c : (pOf ps p).2 <;> by_cases c2 : valS S p k < a <;> simp [x_stp, l__law_played_0, enc, play, pEnv, pOut, c, c2, hp, cut3_5, hr.ap, rowD, hr.ak, hr.ip, hr.gp, hr.ik, e1, sizeLine]
  | found num p k a =>
    obtain ⟨r, hr⟩ := h.at w.1.1 w.1.2 w.2.1 w.2.2
    have hp := at_parties (s := .imm) (t := .imm) (p_at (ps := ps) w.1.1 w.1.2)
    by_cases c2 : valS S p k = a <;> simp [x_stp, l__law_played_0, enc, play, pEnv, pOut, c2, hp, cut3_5, hr.ap, rowD, hr.ak, hr.ip, hr.gp, hr.ik, sizeLine]
  | gone wd p k a =>
    obtain ⟨r, hr⟩ := h.at w.1.1 w.1.2 w.2.1 w.2.2
    have hp := at_parties (s := .imm) (t := .imm) (p_at (ps := ps) w.1.1 w.1.2)
    cases wd with
    | true =>
      have e1 := row_setI (v := valS S p k - a) hr
      cases c : inG gr p <;> by_cases c2 : valS S p k < a <;> simp [x_stp, l__law_played_0, enc, play, pEnv, pOut, c, c2, hp, cut3_4, hr.ap, rowD, hr.ak, hr.ip, hr.gp, hr.ik, e1, sizeLine]
    | false =>
      have e1 := row_setI (v := valS S p k + a) hr
      cases c : inG gr p <;> cases c2 : (pOf ps p).1 <;> simp [x_stp, l__law_played_0, enc, play, pEnv, pOut, c, c2, hp, cut3_4, hr.ap, rowD, hr.ak, hr.ip, hr.gp, hr.ik, e1, sizeLine]
  | handed num g t k a s =>
    obtain ⟨r, hr⟩ := h.at w.1.1.1 w.1.1.2 w.2.1 w.2.2
    obtain ⟨r2, hr2⟩ := (h.upd (k := k) (v := valS S g k - a) w.1.1.1 w.1.1.2).at w.1.2.1 w.1.2.2 w.2.1 w.2.2
    have e1 := row_setI (v := valS S g k - a) hr
    have e2 := row_setI (v := valS (updS S g k (valS S g k - a)) t k + a) hr2
    by_cases c : g = t
    · subst c
      simp [x_stp, l__law_played_0, enc, play, pEnv, pOut, mv, cut26, sizeLine]
    · by_cases c2 : valS S g k < a
      · simp [x_stp, l__law_played_0, enc, play, pEnv, pOut, mv, cut26, c, c2, hr.ap, rowD, hr.ak, sizeLine]
      · simp [x_stp, l__law_played_0, enc, play, pEnv, pOut, mv, cut26, c, c2, hr.ap, rowD, hr.ak, hr.ip, hr.gp, hr.ik, e1, hr2.ap, hr2.ak, hr2.ip, hr2.gp, hr2.ik, e2, sizeLine]
  | passed g t k a =>
    obtain ⟨r, hr⟩ := h.at w.1.1.1 w.1.1.2 w.2.1 w.2.2
    obtain ⟨r2, hr2⟩ := (h.upd (k := k) (v := valS S g k - a) w.1.1.1 w.1.1.2).at w.1.2.1 w.1.2.2 w.2.1 w.2.2
    have e1 := row_setI (v := valS S g k - a) hr
    have e2 := row_setI (v := valS (updS S g k (valS S g k - a)) t k + a) hr2
    by_cases c : g = t
    · subst c
      simp [x_stp, l__law_played_0, enc, play, pEnv, pOut, mv, cut15, sizeLine]
    · by_cases c2 : valS S g k < a
      · simp [x_stp, l__law_played_0, enc, play, pEnv, pOut, mv, cut15, c, c2, hr.ap, rowD, hr.ak, sizeLine]
      · cases c3 : inG gr g <;> cases c4 : inG gr t <;> simp [x_stp, l__law_played_0, enc, play, pEnv, pOut, mv, cut15, c, c2, c3, c4, hr.ap, rowD, hr.ak, hr.ip, hr.gp, hr.ik, e1, hr2.ap, hr2.ak, hr2.ip, hr2.gp, hr2.ik, e2, sizeLine]
end Law

namespace Law
open PySem Oz L2
theorem e_played_loop (ps : List (Bool × Bool)) (gr : List Int) (d : D) {m : Nat} : ∀ (es : List E) (S : List (List Int)), SOk ps.length m S → (∀ e ∈ es, wf ps.length m e) →
    loopS (gN 5) l__law_played_0 (es.map fun e => (⟨.imm, enc e⟩ : R)) (pEnv ps gr d S) = pOut ps gr d (playAll ps gr S es)
  | [], S, h, w => rfl
  | e :: es, S, h, w => by
    rw [List.map_cons, loop_c, e_pstep ps gr d h e (w e (by simp))]
    unfold playAll
    cases hp : play ps gr S e with
    | none => rfl
    | some S2 => exact e_played_loop ps gr d es S2 (play_ok h (w e (by simp)) hp) fun e' h' => w e' (by simp [h'])
theorem e_played (ps : List (Bool × Bool)) (gr : List Int) (m : Nat) (hm : m < 100) (hp : ps.length < 100) (es : List E) (w : ∀ e ∈ es, wf ps.length m e) :
    m__law_played [.int m, partiesD ps, tupI gr, .list (es.map enc)] = match playAll ps gr (S0 ps.length m) es with
      | none => .ok ⟨.imm, .none⟩ []
      | some S => .ok ⟨.own, .list (S.map rowD)⟩ [] := by
  have hl := e_played_loop ps gr (.list (es.map enc)) es (S0 ps.length m) (S0_ok _ _) w
  have hm2 : m ≤ 16777216 := by omega
  have hrow : mulR ⟨.own, .list [.int 0]⟩ ⟨.imm, .int m⟩ = .ok ⟨.own, rowD (List.replicate m 0)⟩ := by
    have h1 : -(9223372036854775808 : Int) ≤ m := by omega
    have h2 : (m : Int) < 9223372036854775808 := by omega
    have h3 : lfs (List.replicate m (PyData.int 0)) = true := by rw [lfs_all]; simp
    simp [mulR, rowD, sizeLine, h1, h2, hm2, dnew, h3]
  have hout : ∀ d : D, compE (cN 10) tYesD c__law_played_0 [some ⟨.imm, .int m⟩, some ⟨.imm, partiesD ps⟩, some ⟨.imm, tupI gr⟩, some ⟨.out, d⟩, none, none, none, none, none, none, none] (ps.map fun p => (⟨.imm, .tuple [.bool p.1, .bool p.2]⟩ : R)) = some (ps.map fun _ => (⟨.own, rowD (List.replicate m 0)⟩ : R)) := fun d => by
    refine comp_map1 fun p _ => ⟨[some ⟨.imm, .int m⟩, some ⟨.imm, partiesD ps⟩, some ⟨.imm, tupI gr⟩, some ⟨.out, d⟩, none, none, none, none, none, none, some ⟨.imm, .tuple [.bool p.1, .bool p.2]⟩], by simp, ?_⟩
    simp [c__law_played_0, sizeLine, hrow]
  have hcr2 : compR (ps.map fun _ => (⟨.own, rowD (List.replicate m 0)⟩ : R)) = .ok ⟨.own, .list ((S0 ps.length m).map rowD)⟩ := by
    rw [compR_own (e := fun _ => rowD (List.replicate m 0)) (by have : sizeLine = 16777216 := rfl; omega) fun _ _ => rfl]
    simp [S0, List.map_const']
  rw [List.map_const'] at hcr2
  have hl2 : loopS (gN 5) l__law_played_0 (es.map fun e => (⟨.imm, enc e⟩ : R)) [none, some ⟨.imm, partiesD ps⟩, some ⟨.imm, tupI gr⟩, some ⟨.out, .list (es.map enc)⟩, some ⟨.own, .list ((S0 ps.length m).map rowD)⟩, none, none, none, none, none, none] = _ := hl
  cases hp : playAll ps gr (S0 ps.length m) es with
  | none =>
    rw [hp] at hl2
    simp [m__law_played, b__law_played, q__law_played_0, f__law_played_0, hout, hcr2, List.map_const', Function.comp_def, hl2, pOut]
  | some S =>
    rw [hp] at hl2
    simp [m__law_played, b__law_played, q__law_played_0, f__law_played_0, hout, hcr2, List.map_const', Function.comp_def, hl2, pOut, pEnv]
/-! ### the law -/
theorem e_group (d : Int) (n : Nat) (h5 : n ≤ 5) : ∃ g : List Int, m__law_some_group [.int d, .int n] = .ok ⟨.imm, tupI g⟩ [] := by
  obtain ⟨e, ⟨hne, hl⟩, _⟩ := groups_out n h5
  generalize grpL n = gs at *
  have hp : 0 < (gs.length : Int) := by have := List.length_pos_iff.mpr hne; omega
  have h0 := Int.emod_nonneg d (Int.ne_of_gt hp)
  have h1 := Int.emod_lt_of_pos d hp
  have ha := atI_some (xs := gs) h0 h1
  refine ⟨gs[(d % gs.length).toNat]'(by omega), ?_⟩
  simp [m__law_some_group, b__law_some_group, e, ha, hp, List.length_pos_iff.mpr hne]
def lEnv (ps : List (Bool × Bool)) (gr : List Int) (m : Nat) (es : List E) (pos : List E) : Ev := [none, none, some ⟨.imm, partiesD ps⟩, some ⟨.imm, .int m⟩, some ⟨.imm, tupI gr⟩, some ⟨.imm, .list (es.map enc)⟩, some ⟨.own, .list (pos.map enc)⟩, none]
theorem e_law_loop (ps : List (Bool × Bool)) (gr : List Int) (m : Nat) (hm : m < 100) (hp : ps.length < 100) (es : List E) (w : ∀ e ∈ es, wf ps.length m e) (hl : es.length ≤ 40) :
    ∃ pos : List E, loopS (gN 7) l_law_0 (es.map fun e => (⟨.imm, enc e⟩ : R)) (lEnv ps gr m es []) = .next (lEnv ps gr m es pos) ∧ pos.length ≤ es.length ∧ ∀ e ∈ pos, wf ps.length m e := by
  refine loop_st (lEnv ps gr m es) (fun pre pos => pos.length ≤ pre.length ∧ ∀ e ∈ pos, wf ps.length m e) es [] (by simp) ?_
  rintro pre e post pos hx ⟨hpl, hw⟩
  have hpre := pre_lt hx
  have w2 : ∀ e' ∈ pos ++ [e], wf ps.length m e' := fun e' h' => by
    rcases List.mem_append.mp h' with h | h
    · exact hw e' h
    · simp at h; subst h; exact w e' (pre_mem hx)
  have e1 := e_played ps gr m hm hp (pos ++ [e]) w2
  have e2 := e_stocks ps gr m hm hp (pos ++ [e]) w2
  have h1 : pos.length + 1 ≤ 16777216 := by omega
  have h2 : pos.length < 16777216 := by omega
  have hlf : lfs (pos.map enc) = true := by rw [lfs_all]; simp
  simp only [List.map_append, List.map_cons, List.map_nil] at e1 e2
  cases hpl2 : playAll ps gr (S0 ps.length m) (pos ++ [e]) with
  | none =>
    rw [hpl2] at e1 e2
    exact ⟨pos, by simp [x_stp, l_law_0, lEnv, e1, e2, h1, hlf, sizeLine], by simp; omega, hw⟩
  | some S =>
    rw [hpl2] at e1 e2
    exact ⟨pos ++ [e], by simp [x_stp, l_law_0, lEnv, e1, e2, h1, h2, hlf, sizeLine], by simp; omega, w2⟩
theorem sh_rows (S : List (List Int)) : SeqAt.shaped (.list (S.map rowD)) = true := by
  refine Sh.shaped (n := 2) (.list fun d hd => ?_)
  obtain ⟨r, _, rfl⟩ := List.mem_map.mp hd
  exact .list fun d hd => by
    obtain ⟨i, _, rfl⟩ := List.mem_map.mp hd
    exact .int
theorem law_true (ns : List Int) (hn : ns.length ≤ 63) : m_law [scrD (ns.map .int)] = .ok ⟨.imm, .bool true⟩ [] := by
  obtain ⟨ds, hd, hdl, hdn⟩ := e_draws (dr ns 0) 16 (by decide)
  have hd' : m__law_draws [.int (dr ns 0), .int 16] = _ := hd
  have hc : m__law_cell [scrD (ns.map .int), .int 0] = _ := e_cell ns 0
  obtain ⟨ps, hps, p2, p5⟩ := e_parties ds hdl
  have h13 := dr_get (ds := ds) (i := 13) (by omega)
  have h14 := dr_get (ds := ds) (i := 14) (by omega)
  obtain ⟨m, hm⟩ := Int.eq_ofNat_of_zero_le (a := 1 + dr ds 13 % 3) (by omega)
  have hm3 : m < 100 := by omega
  obtain ⟨gr, hg⟩ := e_group (dr ds 14) ps.length p5
  obtain ⟨es, he, hel, hew⟩ := e_events ns ps.length m (by omega) (by omega)
  obtain ⟨pos, hlo, hpl, hpw⟩ := e_law_loop ps gr m hm3 (by omega) es hew hel
  have hlo2 : loopS (gN 7) l_law_0 (es.map fun e => (⟨.imm, enc e⟩ : R)) [none, none, some ⟨.imm, partiesD ps⟩, some ⟨.imm, .int m⟩, some ⟨.imm, tupI gr⟩, some ⟨.imm, .list (es.map enc)⟩, some ⟨.own, .list []⟩, none] = _ := hlo
  have hlen : fLen (partiesD ps) = some (.int ps.length) := by simp [partiesD]
  have hlf : lfs (es.map enc) = true := by rw [lfs_all]; simp
  have s1 := e_stocks ps gr m hm3 (by omega) pos hpw
  have s2 := e_played ps gr m hm3 (by omega) pos hpw
  have s3 := e_stocks ps gr m hm3 (by omega) es hew
  have s4 := e_played ps gr m hm3 (by omega) es hew
  have hn : fEq .none .none = some true := rfl
  cases h1 : playAll ps gr (S0 ps.length m) pos <;> cases h2 : playAll ps gr (S0 ps.length m) es <;> rw [h1] at s1 s2 <;> rw [h2] at s3 s4 <;>
    simp [m_law, b_law, f_law_0, hc, hd', hps, h13, h14, hm, hg, he, hlen, hlf, Function.comp_def, hlo2, lEnv, s1, s2, s3, s4, fEq_refl (sh_rows _), hn, sizeLine]
end Law

namespace Law
open PySem PySem.Spec L2 Oz
open PyProof.Rows hiding St
def d__law_draws : He.DefD := ⟨("_law_draws", none), "_law_draws", "_law_draws", defArgs st__law_draws, defBody st__law_draws, defScope st__law_draws, [], []⟩
def d__law_parties : He.DefD := ⟨("_law_parties", none), "_law_parties", "_law_parties", defArgs st__law_parties, defBody st__law_parties, defScope st__law_parties, [], []⟩
def d__law_groups : He.DefD := ⟨("_law_groups", none), "_law_groups", "_law_groups", defArgs st__law_groups, defBody st__law_groups, defScope st__law_groups, [], []⟩
def d__law_some_group : He.DefD := ⟨("_law_some_group", none), "_law_some_group", "_law_some_group", defArgs st__law_some_group, defBody st__law_some_group, defScope st__law_some_group, [], []⟩
def d__law_cell : He.DefD := ⟨("_law_cell", none), "_law_cell", "_law_cell", defArgs st__law_cell, defBody st__law_cell, defScope st__law_cell, [], []⟩
def d__law_event : He.DefD := ⟨("_law_event", none), "_law_event", "_law_event", defArgs st__law_event, defBody st__law_event, defScope st__law_event, [], []⟩
def d__law_events : He.DefD := ⟨("_law_events", none), "_law_events", "_law_events", defArgs st__law_events, defBody st__law_events, defScope st__law_events, [], []⟩
def d_World___init__ : He.DefD := ⟨("World", some "__init__"), "__init__", "World.__init__", defArgs st_World___init__, defBody st_World___init__, defScope st_World___init__, [], []⟩
def d_World_lose : He.DefD := ⟨("World", some "lose"), "lose", "World.lose", defArgs st_World_lose, defBody st_World_lose, defScope st_World_lose, [], []⟩
def d_World_gain : He.DefD := ⟨("World", some "gain"), "gain", "World.gain", defArgs st_World_gain, defBody st_World_gain, defScope st_World_gain, [], []⟩
def d_World_move : He.DefD := ⟨("World", some "move"), "move", "World.move", defArgs st_World_move, defBody st_World_move, defScope st_World_move, [], []⟩
def d_World_do_open : He.DefD := ⟨("World", some "do_open"), "do_open", "World.do_open", defArgs st_World_do_open, defBody st_World_do_open, defScope st_World_do_open, [], []⟩
def d_World_do_secret : He.DefD := ⟨("World", some "do_secret"), "do_secret", "World.do_secret", defArgs st_World_do_secret, defBody st_World_do_secret, defScope st_World_do_secret, [], []⟩
def d_World_do : He.DefD := ⟨("World", some "do"), "do", "World.do", defArgs st_World_do, defBody st_World_do, defScope st_World_do, [], []⟩
def d_stocks : He.DefD := ⟨("stocks", none), "stocks", "stocks", defArgs st_stocks, defBody st_stocks, defScope st_stocks, [], []⟩
def d__law_played : He.DefD := ⟨("_law_played", none), "_law_played", "_law_played", defArgs st__law_played, defBody st__law_played, defScope st__law_played, [], []⟩
def d_law : He.DefD := ⟨("law", none), "law", "law", defArgs st_law, defBody st_law, defScope st_law, [], []⟩
def fn : List He.DefD := [d__law_draws, d__law_parties, d__law_groups, d__law_some_group, d__law_cell, d__law_event, d__law_events, d_World___init__, d_World_lose, d_World_gain, d_World_move, d_World_do_open, d_World_do_secret, d_World_do, d_stocks, d__law_played, d_law]
def fa : List He.Fa := [.glo "_law_draws", .glo "_law_parties", .glo "_law_groups", .glo "_law_some_group", .glo "_law_cell", .glo "_law_event", .glo "_law_events", .mkr "World", .meth "World" "lose", .meth "World" "gain", .meth "World" "move", .meth "World" "do_open", .meth "World" "do_secret", .meth "World" "do", .glo "stocks", .glo "_law_played", .glo "law", .cls "World", .glo "World", .noat "World" "parties", .noat "World" "coalition", .noat "World" "stock", .glo "OPEN", .free "range", .free "tuple", .free "len", .free "max", .free "list"]
def ck (K : PySem.W.Frag) : Bool := (He.tupB K "OPEN" [.str "made", .str "treated", .str "found", .str "handed"])
theorem ck_0 {K : PySem.W.Frag} (h : ck K = true) : He.tupB K "OPEN" [.str "made", .str "treated", .str "found", .str "handed"] = true := by
  unfold ck at h
  exact h
abbrev R : PySem.W.OpenRow := PySem.W.OpenLaw.row PySem.Challenge.rw_notetrail_k20_what_can_happen
abbrev hk : PySem.W.Hook := Oz.hookX 6 fa fn ck
def ob (s : PySem.W.SharedT) : Bool × He.AlD := (ck (He.frG (HandSHeadRun.getT s) (He.asD (HandSHeadRun.getT s) 6)), He.obsDG 6 fa fn (HandSHeadRun.getT s))
theorem ob_eq (s : PySem.W.SharedT) : ob s = hk.obs s.abs := by
  have e : HandSHeadRun.getT s = s.abs.heap.get? := funext fun a => HandSHeadRun.getT_eq s a
  unfold ob
  rw [e]
  rfl
def loose0 : List Str := ["OPEN", "World", "stocks", "_law_cell", "_law_draws", "_law_parties", "_law_groups", "_law_played", "_law_event", "_law_events", "_law_some_group"]
def loose : List Str := loose0
theorem run (w : World) : HandSHeadRun.RunEq R (PySem.W.view R.prog [13]) hk ob 3000 loose w := by
  intro os
  kernel_rfl
theorem txt {K : PySem.W.Frag} {h : Heap} {mg : Str → Option Value} (X : K.In h) (G : h.Ns mainGlobals mg) (c : He.SaysD fa fn K) (k : ck K = true) : Txt K mg where
  f__law_draws := by
    obtain ⟨fd, F⟩ := c.def_ 0 (d := d__law_draws) rfl
    exact ⟨_, fd, F, He.glo_ok X G (c.fact 0 (f := .glo "_law_draws") rfl)⟩
  f__law_parties := by
    obtain ⟨fd, F⟩ := c.def_ 1 (d := d__law_parties) rfl
    exact ⟨_, fd, F, He.glo_ok X G (c.fact 1 (f := .glo "_law_parties") rfl)⟩
  f__law_groups := by
    obtain ⟨fd, F⟩ := c.def_ 2 (d := d__law_groups) rfl
    exact ⟨_, fd, F, He.glo_ok X G (c.fact 2 (f := .glo "_law_groups") rfl)⟩
  f__law_some_group := by
    obtain ⟨fd, F⟩ := c.def_ 3 (d := d__law_some_group) rfl
    exact ⟨_, fd, F, He.glo_ok X G (c.fact 3 (f := .glo "_law_some_group") rfl)⟩
  f__law_cell := by
    obtain ⟨fd, F⟩ := c.def_ 4 (d := d__law_cell) rfl
    exact ⟨_, fd, F, He.glo_ok X G (c.fact 4 (f := .glo "_law_cell") rfl)⟩
  f__law_event := by
    obtain ⟨fd, F⟩ := c.def_ 5 (d := d__law_event) rfl
    exact ⟨_, fd, F, He.glo_ok X G (c.fact 5 (f := .glo "_law_event") rfl)⟩
  f__law_events := by
    obtain ⟨fd, F⟩ := c.def_ 6 (d := d__law_events) rfl
    exact ⟨_, fd, F, He.glo_ok X G (c.fact 6 (f := .glo "_law_events") rfl)⟩
  f_World___init__ := by
    obtain ⟨fd, F⟩ := c.def_ 7 (d := d_World___init__) rfl
    exact ⟨_, fd, F, He.mkr_ok (c.fact 7 (f := .mkr "World") rfl)⟩
  f_World_lose := by
    obtain ⟨fd, F⟩ := c.def_ 8 (d := d_World_lose) rfl
    exact ⟨_, fd, F, He.meth_ok (c.fact 8 (f := .meth "World" "lose") rfl)⟩
  f_World_gain := by
    obtain ⟨fd, F⟩ := c.def_ 9 (d := d_World_gain) rfl
    exact ⟨_, fd, F, He.meth_ok (c.fact 9 (f := .meth "World" "gain") rfl)⟩
  f_World_move := by
    obtain ⟨fd, F⟩ := c.def_ 10 (d := d_World_move) rfl
    exact ⟨_, fd, F, He.meth_ok (c.fact 10 (f := .meth "World" "move") rfl)⟩
  f_World_do_open := by
    obtain ⟨fd, F⟩ := c.def_ 11 (d := d_World_do_open) rfl
    exact ⟨_, fd, F, He.meth_ok (c.fact 11 (f := .meth "World" "do_open") rfl)⟩
  f_World_do_secret := by
    obtain ⟨fd, F⟩ := c.def_ 12 (d := d_World_do_secret) rfl
    exact ⟨_, fd, F, He.meth_ok (c.fact 12 (f := .meth "World" "do_secret") rfl)⟩
  f_World_do := by
    obtain ⟨fd, F⟩ := c.def_ 13 (d := d_World_do) rfl
    exact ⟨_, fd, F, He.meth_ok (c.fact 13 (f := .meth "World" "do") rfl)⟩
  f_stocks := by
    obtain ⟨fd, F⟩ := c.def_ 14 (d := d_stocks) rfl
    exact ⟨_, fd, F, He.glo_ok X G (c.fact 14 (f := .glo "stocks") rfl)⟩
  f__law_played := by
    obtain ⟨fd, F⟩ := c.def_ 15 (d := d__law_played) rfl
    exact ⟨_, fd, F, He.glo_ok X G (c.fact 15 (f := .glo "_law_played") rfl)⟩
  f_law := by
    obtain ⟨fd, F⟩ := c.def_ 16 (d := d_law) rfl
    exact ⟨_, fd, F, He.glo_ok X G (c.fact 16 (f := .glo "law") rfl)⟩
  cl_World := He.cls_ok (c.fact 17 (f := .cls "World") rfl)
  g_World := He.glo_ok X G (c.fact 18 (f := .glo "World") rfl)
  na_World_parties := He.noat_ok (c.fact 19 (f := .noat "World" "parties") rfl)
  na_World_coalition := He.noat_ok (c.fact 20 (f := .noat "World" "coalition") rfl)
  na_World_stock := He.noat_ok (c.fact 21 (f := .noat "World" "stock") rfl)
  g_OPEN := He.glo_ok X G (c.fact 22 (f := .glo "OPEN") rfl)
  t_OPEN := fun C => tup_glob (vs := [.str "made", .str "treated", .str "found", .str "handed"]) (ck_0 k) rfl C
  b_range := He.free_ok X G (c.fact 23 (f := .free "range") rfl)
  b_tuple := He.free_ok X G (c.fact 24 (f := .free "tuple") rfl)
  b_len := He.free_ok X G (c.fact 25 (f := .free "len") rfl)
  b_max := He.free_ok X G (c.fact 26 (f := .free "max") rfl)
  b_list := He.free_ok X G (c.fact 27 (f := .free "list") rfl)
theorem facts {P : Program} {w : World} {K : PySem.W.Frag} {h : Heap} {mg : Str → Option Value} {fa' : Addr} (X : K.In h) (G : h.Ns mainGlobals mg) (hfa : mg ("law" : Str) = some (.ref fa')) (c : He.SaysD fa fn K) (k : ck K = true) :
    ∃ fd : FuncData, (∀ (s : Shared) (v : Value), BindsTo s fd ⟨[v], []⟩ [("_law_script", v)]) ∧ ∀ base : Heap, K.In base → base.Ns mainGlobals mg → FnOk P w K mg base CX0 6 fa' fd ["_law_script"] (spF K [.v] m_law) := by
  have T := txt X G c k
  obtain ⟨f, fd, F, hm⟩ := T.f_law
  have e := hfa.symm.trans hm
  cases e
  have b := FunD.bindsA (ps := ["_law_script"]) F fun _ _ _ _ _ _ us hl => match us, hl with | [_], _ => rfl
  exact ⟨fd, fun s v => b s [v] rfl, fun base _ _ => ok_law T F⟩
end Law
open PySem PySem.W PySem.Calls PyProof.Rows
theorem PySem.Challenge.cw_notetrail_k20_what_can_happen_holds : PySem.Challenge.rw_notetrail_k20_what_can_happen.Holds := by
  w_on; o_law
  refine HandSHeadRun.head_any (r := OpenLaw.row PySem.Challenge.rw_notetrail_k20_what_can_happen) (q := view (OpenLaw.row PySem.Challenge.rw_notetrail_k20_what_can_happen).prog [13]) (H := Law.hk) (ob := Law.ob) (M := 3000) (loose := Law.loose) (d := HandSHeadRun.topDef (OpenLaw.row PySem.Challenge.rw_notetrail_k20_what_can_happen).prog 13) (kwd := []) Law.ob_eq
    (by kernel_rfl) (fun s => by kernel_rfl) Law.run (by kernel_rfl) (by kernel_rfl) (by kernel_rfl) (by rfl) (by first | assumption | decide +kernel) (by decide +kernel) ⟨rfl, rfl, rfl, rfl, rfl, by decide +kernel⟩ ?hw ?hc
  case hw => w_witness2
  case hc =>
    refine L2.walk_ofE (l := PySem.Challenge.rw_notetrail_k20_what_can_happen) (n := 63) (k := 6) (x := "_law_script") (CX := L2.CX0) rfl (by decide) (by kernel_rfl) ⟨rfl, by decide, by decide⟩ ?F (fun _ _ _ _ z => z)
    intro w mg fa h Y G hmg0
    obtain ⟨K, KX, c, k⟩ := Y
    have hmg : mg ("law" : PySem.Str) = some (.ref fa) := by
      have e : (HandSHeadRun.topDef (OpenLaw.row PySem.Challenge.rw_notetrail_k20_what_can_happen).prog 13).name = ("law" : PySem.Str) := by kernel_rfl
      rw [← e]
      exact hmg0
    obtain ⟨fd, hb, hF⟩ := Law.facts (P := (PySem.Challenge.rw_notetrail_k20_what_can_happen).prog) (w := w) KX G hmg c k
    exact ⟨K, fd, Oz.spF K [.v] Law.m_law, KX, hb, fun H a ns hl hO hS => Oz.law_sp Law.law_true H a ns hl hO hS, hF⟩
