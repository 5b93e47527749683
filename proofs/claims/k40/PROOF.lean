import PyProof.Rows.All
import Wide.All
import OpenK.AllK
import Wide.FinOn
import HandS.ForMost
import HandS.Deep
import HandS.HeadHook2
import HandS.AnyAll
import KE.KeyNested
import KE.KDictCopyH
import HandS.HeadHook4
import HandS.EndTab
import HandS.NestedK
import HandS.Exc
import HandS.ExcInit
import HandS.ExcField
import HandS.Nested
import KE.KExcSuper
import KE.KSuper
import HandS.Head2
import HandS.HeadEnd
import HandS.TupAny
import HandS.Flow
import HandS.ForDict
import KE.GoesMore
import HandS.TupLe
import HandS.IsInst
import HandS.More
import HandS.HeadHook3
import PyProof.Rows.CountFlat
import KE.SortData
import PyProof.JoinWalk
import PyProof.WalksMore
import KE.KNest
import PyProof.ReprRoads
import PyProof.ReprBulk
import KE.SortKeyHeap
import KE.KDictSum
import HandS.SortKw
import HandS.ExcValue
import HandS.Keys
import KE.DataMinMax
import HandS.DictComp
import HandS.SortInts
import HandS.CallSlots
import HandS.Conv
import HandS.GenOver
import HandS.GenList
import HandS.Style
import HandS.TupMul
import HandS.TryOnly
import PySem.Challenge.RW_notetrail_k40_trails
set_option Elab.async false
set_option linter.all false
set_option maxRecDepth 100000
set_option maxHeartbeats 0
namespace Oz
open PySem PySem.Spec PyProof.Rows L2

abbrev D := PyData
/-- a guard that no reduction opens -/
theorem gd_ex (b : Bool) : ∃ x : Bool, x = b := ⟨b, rfl⟩
noncomputable def gd (b : Bool) : Bool := Classical.choose (gd_ex b)
theorem gd_eq (b : Bool) : gd b = b := Classical.choose_spec (gd_ex b)
theorem gd_el {b : Bool} (h : gd b = true) : b = true := (gd_eq b).symm.trans h
/-! ### data: what is a value of its own, what holds no list or dict -/
def isVal : D → Bool
  | .list _ => false
  | .dict ((.bool false, _) :: _) => true
  | .dict _ => false
  | _ => true
mutual
def lf : D → Bool
  | .list _ => false
  | .dict _ => false
  | .tuple xs => lfs xs
  | .none => true
  | .bool _ => true
  | .int _ => true
  | .str _ => true
def lfs : List D → Bool
  | [] => true
  | x :: xs => lf x && lfs xs
end
theorem lf_val : ∀ {d : D}, lf d = true → isVal d = true
  | .none, _ => rfl
  | .bool _, _ => rfl
  | .int _, _ => rfl
  | .str _, _ => rfl
  | .tuple _, _ => rfl
  | .list _, h => by simp [lf] at h
  | .dict _, h => by simp [lf] at h
/-- a key as data -/
def kd : Key → D
  | .inl i => .int i
  | .inr x => .str x
/-- the script; an object of the class c with its attributes, as data -/
def scrD (ds : List D) : D := .dict [(.none, .list ds)]
/-- just this object, whatever it is -/
def ptrD (a : Addr) : D := .dict [(.bool false, .int (a : Nat))]
def objD (c : Str) (fs : List (D × D)) : D := .dict ((.none, .str c) :: fs)

/-! ### data in a heap -/
/-- a list that one looks at only -/
def SqF (K : PySem.W.Frag) (C : Hp) (a : Addr) (xs : List V) : Prop := SqL K C a xs
theorem SqF.sqL {K : PySem.W.Frag} {C : Hp} {a : Addr} {xs : List V} (h : SqF K C a xs) : SqL K C a xs := h
theorem SqF.mono {K : PySem.W.Frag} {C C' : Hp} {a : Addr} {xs : List V} (e : Same C C') (h : SqF K C a xs) : SqF K C' a xs := by
  rcases h with (h | ⟨o, h⟩) | h
  · exact .inl (.inl (e _ _ h))
  · exact .inl (.inr ⟨o, e _ _ h⟩)
  · exact .inr h
mutual
inductive Rep (K : PySem.W.Frag) (C : Hp) : V → D → Prop
  | non : Rep K C .non .none
  | bl (b : Bool) : Rep K C (.bl b) (.bool b)
  | int (i : Int) : Rep K C (.int i) (.int i)
  | str (x : Str) : Rep K C (.str x) (.str x)
  | lst {a : Addr} {xs : List V} {ds : List D} : C a = some (.lst xs) → Reps K C xs ds → Rep K C (.ref a) (.list ds)
  | scr {a : Addr} {xs : List V} {ds : List D} : SqF K C a xs → Reps K C xs ds → Rep K C (.ref a) (scrD ds)
  | tup {a : Addr} {xs : List V} {ds : List D} : SqT K C a xs → Reps K C xs ds → Rep K C (.ref a) (.tuple ds)
  | dct {a : Addr} {kvs : List (Key × V)} {es : List (D × D)} : C a = some (.dK kvs) → es.map (·.1) = kvs.map (fun p => kd p.1) → Reps K C (kvs.map (·.2)) (es.map (·.2)) → Rep K C (.ref a) (.dict es)
  | ptr (a : Addr) : Rep K C (.ref a) (ptrD a)
  | obj {a Cl dx : Addr} {c : Str} {fs : List (Str × V)} {es : List (D × D)} : C a = some (.ins Cl dx fs) → Cl = He.ga K c → es.map (·.1) = fs.map (fun p => PyData.str p.1) → Reps K C (fs.map (·.2)) (es.map (·.2)) → Rep K C (.ref a) (objD c es)
inductive Reps (K : PySem.W.Frag) (C : Hp) : List V → List D → Prop
  | nil : Reps K C [] []
  | cons {v : V} {vs : List V} {d : D} {ds : List D} : Rep K C v d → Reps K C vs ds → Reps K C (v :: vs) (d :: ds)
end
theorem Same.seqT {K : PySem.W.Frag} {H H' : Hp} {a : Addr} {xs : List V} (e : Same H H') (h : SqT K H a xs) : SqT K H' a xs := by
  rcases h with (h | ⟨o, h⟩) | h
  · exact .inl (.inl (e _ _ h))
  · exact .inl (.inr ⟨o, e _ _ h⟩)
  · exact .inr h
/-- the code object at c, its table at P -/
abbrev codO (c P : Addr) : HO := .ext fun h => PySem.W.CodeHd h c P
/-- the places of the generator expressions that hold others (of all laws; one that is flat must not stand at such a place) -/
def nestPos : List (Nat × Nat) := [(63, 15), (64, 15), (67, 15), (71, 15), (154, 15), (166, 15), (186, 19)]
def nestP (p : Pos) : Bool := nestPos.contains (p.line, p.col)
/-- each code object that a table names at such a place is known, and so is its own table -/
def Trk (H : Hp) (b : Addr) : Prop := ∀ ps : Array Value, H b = some (.tbl ps) → ∀ pos cv, nestP pos = true → codeAmong pos ps.toList = some cv → ∃ c P, cv = .ref c ∧ P ≠ b ∧ H c = some (codO c P) ∧ GxR.TabG H P
def TabQ (n : Bool) (H : Hp) (b : Addr) : Prop := GxR.TabG H b ∧ (n = true → Trk H b)
def NSys (p : Addr) (x : Option HO) : Prop := (∀ ps, x ≠ some (.tbl ps)) ∧ ∀ P, p ≠ P → x ≠ some (codO p P)
/-- the running world -/
class WD where
  p : Program
  w : World
theorem TabQ.to {n : Bool} {H H' : Hp} {b : Addr} (h : TabQ n H b) (k1 : ∀ x ps, H x = some (.tbl ps) → H' x = some (.tbl ps)) (k2 : ∀ c P, c ≠ P → H c = some (codO c P) → H' c = some (codO c P)) : TabQ n H' b := by
  obtain ⟨⟨ps, h1, h2⟩, h3⟩ := h
  refine ⟨⟨ps, k1 _ _ h1, h2⟩, fun e ps' h4 pos cv hn h5 => ?_⟩
  rw [k1 _ _ h1] at h4
  cases h4
  obtain ⟨c, P, q1, q0, q2, ps2, q3, q4⟩ := h3 e ps h1 pos cv hn h5
  exact ⟨c, P, q1, q0, k2 _ _ (fun e => by rw [e, q3] at q2; cases q2) q2, ps2, k1 _ _ q3, q4⟩
theorem upd_tab {n : Bool} {H : Hp} {p a : Addr} {o : HO} (e : NSys p (H p)) (h : TabQ n H a) : TabQ n (upd H p o) a :=
  h.to (fun x ps q => by rw [upd_ne (fun z => e.1 ps (by rw [← z]; exact q))]; exact q) fun c P ne q => by rw [upd_ne (fun z => by subst z; exact e.2 P ne q)]; exact q
/-- H' is H, but that tables of code objects may have grown -/
structure SameT (H H' : Hp) : Prop where
  s : ∀ b o, H b = some o → (∀ ps, o ≠ .tbl ps) → H' b = some o
  fr : ∀ b, H' b = none → H b = none
  tab : ∀ {n : Bool} b, TabQ n H b → TabQ n H' b
abbrev SameN (H H' : Hp) : Prop := ∀ b o, H b = some o → (∀ ps, o ≠ .tbl ps) → H' b = some o
abbrev NoT (H : Hp) : Prop := ∀ a ps, H a ≠ some (.tbl ps)
theorem Same.toN {H H' : Hp} (n : NoT H) (e : SameN H H') : Same H H' := fun b o h => e b o h fun ps z => n b ps (by rw [h, z])
theorem toT {H H' : Hp} (e : Same H H') : SameT H H' := ⟨fun b o h _ => e b o h, fun _ h => e.free h, fun b h => h.to (fun x ps q => e x _ q) fun c P _ q => e c _ q⟩
theorem SameT.refl (H : Hp) : SameT H H := toT (Same.refl H)
theorem SameT.trans {H H1 H2 : Hp} (a : SameT H H1) (b : SameT H1 H2) : SameT H H2 := ⟨fun c o h n => b.s c o (a.s c o h n) n, fun c h => a.fr c (b.fr c h), fun c h => b.tab c (a.tab c h)⟩
theorem SameT.free {H H' : Hp} (e : SameT H H') {l : Addr} (h : H' l = Option.none) : H l = Option.none := e.fr l h
theorem SameT.l {H H' : Hp} (e : SameT H H') {a : Addr} {xs : List V} (h : H a = some (.lst xs)) : H' a = some (.lst xs) := e.s _ _ h nofun
theorem SameT.f {H H' : Hp} (e : SameT H H') {a : Addr} {o : Obj} {x : HO} (h : H a = some (.frz o x)) : H' a = some (.frz o x) := e.s _ _ h nofun
theorem SameT.seqT {K : PySem.W.Frag} {H H' : Hp} {a : Addr} {xs : List V} (e : SameT H H') (h : SqT K H a xs) : SqT K H' a xs := by
  rcases h with (h | ⟨o, h⟩) | h
  · exact .inl (.inl (e.s _ _ h nofun))
  · exact .inl (.inr ⟨o, e.s _ _ h nofun⟩)
  · exact .inr h
theorem SameT.updN {H H' : Hp} {p : Addr} {o : HO} (e : SameT H H') (n : H p = Option.none) (ns : NSys p (H' p)) : SameT H (upd H' p o) := by
  refine ⟨fun b x h t => ?_, fun b h => ?_, fun b h => ?_⟩
  · rw [upd_ne (fun z => by rw [z, n] at h; cases h)]
    exact e.s b x h t
  · by_cases q : b = p
    · rw [q, upd_same] at h; cases h
    · rw [upd_ne q] at h; exact e.fr b h
  · exact upd_tab ns (e.tab b h)
theorem SameN.seqT {K : PySem.W.Frag} {H H' : Hp} {a : Addr} {xs : List V} (e : SameN H H') (h : SqT K H a xs) : SqT K H' a xs := by
  rcases h with (h | ⟨o, h⟩) | h
  · exact .inl (.inl (e _ _ h nofun))
  · exact .inl (.inr ⟨o, e _ _ h nofun⟩)
  · exact .inr h
theorem SqF.monoN {K : PySem.W.Frag} {C C' : Hp} {a : Addr} {xs : List V} (e : SameN C C') (h : SqF K C a xs) : SqF K C' a xs := by
  rcases h with (h | ⟨o, h⟩) | h
  · exact .inl (.inl (e _ _ h nofun))
  · exact .inl (.inr ⟨o, e _ _ h nofun⟩)
  · exact .inr h
theorem SqF.monoT {K : PySem.W.Frag} {C C' : Hp} {a : Addr} {xs : List V} (e : SameT C C') (h : SqF K C a xs) : SqF K C' a xs := SqF.monoN e.s h
section
variable {K : PySem.W.Frag} {C C' : Hp}
mutual
theorem Rep.monoN (e : SameN C C') : ∀ {v : V} {d : D}, Rep K C v d → Rep K C' v d
  | _, _, .non => .non
  | _, _, .bl b => .bl b
  | _, _, .int i => .int i
  | _, _, .str x => .str x
  | _, _, .lst h r => .lst (e _ _ h nofun) (Reps.monoN e r)
  | _, _, .scr h r => .scr (h.monoN e) (Reps.monoN e r)
  | _, _, .tup h r => .tup (SameN.seqT e h) (Reps.monoN e r)
  | _, _, .dct h k r => .dct (e _ _ h nofun) k (Reps.monoN e r)
  | _, _, .ptr a => .ptr a
  | _, _, .obj h c k r => .obj (e _ _ h nofun) c k (Reps.monoN e r)
theorem Reps.monoN (e : SameN C C') : ∀ {vs : List V} {ds : List D}, Reps K C vs ds → Reps K C' vs ds
  | _, _, .nil => .nil
  | _, _, .cons h r => .cons (Rep.monoN e h) (Reps.monoN e r)
end
theorem Rep.monoT (e : SameT C C') {v : V} {d : D} (h : Rep K C v d) : Rep K C' v d := Rep.monoN e.s h
theorem Reps.monoT (e : SameT C C') {vs : List V} {ds : List D} (h : Reps K C vs ds) : Reps K C' vs ds := Reps.monoN e.s h
theorem Rep.mono (e : Same C C') {v : V} {d : D} (h : Rep K C v d) : Rep K C' v d := Rep.monoT (toT e) h
theorem Reps.mono (e : Same C C') {vs : List V} {ds : List D} (h : Reps K C vs ds) : Reps K C' vs ds := Reps.monoT (toT e) h
theorem Reps.length : ∀ {vs : List V} {ds : List D}, Reps K C vs ds → vs.length = ds.length
  | _, _, .nil => rfl
  | _, _, .cons _ r => congrArg (· + 1) (Reps.length r)
theorem Reps.get : ∀ {vs : List V} {ds : List D} {i : Nat} {d : D}, Reps K C vs ds → ds[i]? = some d → ∃ v, vs[i]? = some v ∧ Rep K C v d
  | _, _, _, _, .nil, h => by simp at h
  | _, _, 0, _, .cons h _, e => ⟨_, rfl, by simp at e; exact e ▸ h⟩
  | _, _, i + 1, _, .cons _ r, e => by
    obtain ⟨v, h1, h2⟩ := Reps.get (i := i) r (by simpa using e)
    exact ⟨v, by simpa using h1, h2⟩
theorem Reps.append : ∀ {vs ws : List V} {ds es : List D}, Reps K C vs ds → Reps K C ws es → Reps K C (vs ++ ws) (ds ++ es)
  | _, _, _, _, .nil, s => s
  | _, _, _, _, .cons h r, s => .cons h (Reps.append r s)
theorem Reps.take : ∀ {vs : List V} {ds : List D} (n : Nat), Reps K C vs ds → Reps K C (vs.take n) (ds.take n)
  | _, _, 0, _ => .nil
  | _, _, _ + 1, .nil => .nil
  | _, _, n + 1, .cons h r => .cons h (Reps.take n r)
theorem Reps.drop : ∀ {vs : List V} {ds : List D} (n : Nat), Reps K C vs ds → Reps K C (vs.drop n) (ds.drop n)
  | _, _, 0, r => r
  | _, _, _ + 1, .nil => .nil
  | _, _, n + 1, .cons _ r => Reps.drop n r
/-! data of the kind of the library -/
mutual
def pl : D → Bool
  | .list xs => pls xs
  | .tuple xs => pls xs
  | .dict _ => false
  | .none => true
  | .bool _ => true
  | .int _ => true
  | .str _ => true
def pls : List D → Bool
  | [] => true
  | x :: xs => pl x && pls xs
end
mutual
theorem Rep.dp : ∀ {v : V} {d : D}, Rep K C v d → pl d = true → Dp K C v d
  | _, _, .non, _ => .non
  | _, _, .bl b, _ => .bl b
  | _, _, .int i, _ => .int i
  | _, _, .str x, _ => .str x
  | _, _, .lst h r, p => .lst (.inl (.inl h)) (Reps.dp r (by simpa [pl] using p))
  | _, _, .scr _ _, p => by simp [pl, scrD] at p
  | _, _, .tup h r, p => .tup h (Reps.dp r (by simpa [pl] using p))
  | _, _, .dct _ _ _, p => by simp [pl] at p
  | _, _, .ptr _, p => by simp [pl, ptrD] at p
  | _, _, .obj _ _ _ _, p => by simp [pl, objD] at p
theorem Reps.dp : ∀ {vs : List V} {ds : List D}, Reps K C vs ds → pls ds = true → DpAll K C vs ds
  | _, _, .nil, _ => .nil
  | _, _, .cons h r, p => by
    have q : (_ && _) = true := p
    obtain ⟨q1, q2⟩ := Bool.and_eq_true_iff.mp q
    exact .cons (Rep.dp h q1) (Reps.dp r q2)
end
end
/-- an object that never changes -/
def fzn : HO → Bool
  | .tup _ => true
  | .frz _ (.tup _) => true
  | .frz _ (.lst _) => true
  | _ => false
section
variable {K : PySem.W.Frag} {Z H : Hp}
theorem tup_in (tz : ∀ a o, H a = some o → fzn o = true → Z a = some o) {a : Addr} {xs : List V} (h : SqT K H a xs) : SqT K Z a xs := by
  rcases h with (h | ⟨o, h⟩) | h
  · exact .inl (.inl (tz _ _ h rfl))
  · exact .inl (.inr ⟨o, tz _ _ h rfl⟩)
  · exact .inr h
mutual
theorem Rep.up (tz : ∀ a o, H a = some o → fzn o = true → Z a = some o) : ∀ {v : V} {d : D}, Rep K H v d → lf d = true → Rep K Z v d
  | _, _, .non, _ => .non
  | _, _, .bl b, _ => .bl b
  | _, _, .int i, _ => .int i
  | _, _, .str x, _ => .str x
  | _, _, .lst h r, p => by simp [lf] at p
  | _, _, .scr _ _, p => by simp [lf, scrD] at p
  | _, _, .tup h r, p => .tup (tup_in tz h) (Reps.up tz r (by simpa [lf] using p))
  | _, _, .dct _ _ _, p => by simp [lf] at p
  | _, _, .ptr _, p => by simp [lf, ptrD] at p
  | _, _, .obj _ _ _ _, p => by simp [lf, objD] at p
theorem Reps.up (tz : ∀ a o, H a = some o → fzn o = true → Z a = some o) : ∀ {vs : List V} {ds : List D}, Reps K H vs ds → lfs ds = true → Reps K Z vs ds
  | _, _, .nil, _ => .nil
  | _, _, .cons h r, p => by
    have q : (_ && _) = true := p
    obtain ⟨q1, q2⟩ := Bool.and_eq_true_iff.mp q
    exact .cons (Rep.up tz h q1) (Reps.up tz r q2)
end
end

/-! ### data that one owns: F its cells -/
mutual
inductive Own (K : PySem.W.Frag) (Z H : Hp) : V → D → List Addr → Prop
  | imm {v : V} {d : D} : Rep K Z v d → isVal d = true → Own K Z H v d []
  | lst {a : Addr} {xs : List V} {ds : List D} {F : List Addr} : H a = some (.lst xs) → Owns K Z H xs ds F → Own K Z H (.ref a) (.list ds) (a :: F)
  | dct {a : Addr} {kvs : List (Key × V)} {es : List (D × D)} {F : List Addr} : H a = some (.dK kvs) → es.map (·.1) = kvs.map (fun p => kd p.1) → Owns K Z H (kvs.map (·.2)) (es.map (·.2)) F → Own K Z H (.ref a) (.dict es) (a :: F)
  | obj {a Cl dx : Addr} {c : Str} {fs : List (Str × V)} {es : List (D × D)} {F : List Addr} : H a = some (.ins Cl dx fs) → H dx = some (.own a) → Cl = He.ga K c → es.map (·.1) = fs.map (fun p => PyData.str p.1) →
      Owns K Z H (fs.map (·.2)) (es.map (·.2)) F → Own K Z H (.ref a) (objD c es) (a :: dx :: F)
inductive Owns (K : PySem.W.Frag) (Z H : Hp) : List V → List D → List Addr → Prop
  | nil : Owns K Z H [] [] []
  | cons {v : V} {vs : List V} {d : D} {ds : List D} {F G : List Addr} : Own K Z H v d F → Owns K Z H vs ds G → Owns K Z H (v :: vs) (d :: ds) (F ++ G)
end
section
variable {K : PySem.W.Frag} {Z Z' H H' : Hp}
mutual
/-- the cells of F stand as they stood -/
theorem Own.mono (ez : Same Z Z') : ∀ {v : V} {d : D} {F : List Addr}, (∀ a ∈ F, ∀ o, H a = some o → (∀ ps, o ≠ .tbl ps) → H' a = some o) → Own K Z H v d F → Own K Z' H' v d F
  | _, _, _, _, .imm r p => .imm (r.mono ez) p
  | _, _, _, k, .lst h r => .lst (k _ List.mem_cons_self _ h nofun) (Owns.mono ez (fun a ha => k a (List.mem_cons_of_mem _ ha)) r)
  | _, _, _, k, .dct h e r => .dct (k _ List.mem_cons_self _ h nofun) e (Owns.mono ez (fun a ha => k a (List.mem_cons_of_mem _ ha)) r)
  | _, _, _, k, .obj h h2 c e r => .obj (k _ List.mem_cons_self _ h nofun) (k _ (List.mem_cons_of_mem _ List.mem_cons_self) _ h2 nofun) c e (Owns.mono ez (fun a ha => k a (List.mem_cons_of_mem _ (List.mem_cons_of_mem _ ha))) r)
theorem Owns.mono (ez : Same Z Z') : ∀ {vs : List V} {ds : List D} {F : List Addr}, (∀ a ∈ F, ∀ o, H a = some o → (∀ ps, o ≠ .tbl ps) → H' a = some o) → Owns K Z H vs ds F → Owns K Z' H' vs ds F
  | _, _, _, _, .nil => .nil
  | _, _, _, k, .cons h r => .cons (Own.mono ez (fun a ha => k a (List.mem_append_left _ ha)) h) (Owns.mono ez (fun a ha => k a (List.mem_append_right _ ha)) r)
end
mutual
theorem Own.live : ∀ {v : V} {d : D} {F : List Addr}, Own K Z H v d F → ∀ a ∈ F, ∃ o, H a = some o ∧ fzn o = false
  | _, _, _, .imm _ _, _, h => by cases h
  | _, _, _, .lst h r, a, m => by
    rcases List.mem_cons.mp m with e | m
    · exact ⟨_, e ▸ h, rfl⟩
    · exact Owns.live r a m
  | _, _, _, .dct h _ r, a, m => by
    rcases List.mem_cons.mp m with e | m
    · exact ⟨_, e ▸ h, rfl⟩
    · exact Owns.live r a m
  | _, _, _, .obj h h2 _ _ r, a, m => by
    rcases List.mem_cons.mp m with e | m
    · exact ⟨_, e ▸ h, rfl⟩
    · rcases List.mem_cons.mp m with e | m
      · exact ⟨_, e ▸ h2, rfl⟩
      · exact Owns.live r a m
theorem Owns.live : ∀ {vs : List V} {ds : List D} {F : List Addr}, Owns K Z H vs ds F → ∀ a ∈ F, ∃ o, H a = some o ∧ fzn o = false
  | _, _, _, .nil, _, h => by cases h
  | _, _, _, .cons h r, a, m => (List.mem_append.mp m).elim (Own.live h a) (Owns.live r a)
end
mutual
theorem Own.ntb : ∀ {v : V} {d : D} {F : List Addr}, Own K Z H v d F → ∀ a ∈ F, ∀ ps, H a ≠ some (.tbl ps)
  | _, _, _, .imm _ _, _, h => by cases h
  | _, _, _, .lst h r, a, m => by
    rcases List.mem_cons.mp m with e | m
    · exact fun ps z => by rw [e, h] at z; cases z
    · exact Owns.ntb r a m
  | _, _, _, .dct h _ r, a, m => by
    rcases List.mem_cons.mp m with e | m
    · exact fun ps z => by rw [e, h] at z; cases z
    · exact Owns.ntb r a m
  | _, _, _, .obj h h2 _ _ r, a, m => by
    rcases List.mem_cons.mp m with e | m
    · exact fun ps z => by rw [e, h] at z; cases z
    · rcases List.mem_cons.mp m with e | m
      · exact fun ps z => by rw [e, h2] at z; cases z
      · exact Owns.ntb r a m
theorem Owns.ntb : ∀ {vs : List V} {ds : List D} {F : List Addr}, Owns K Z H vs ds F → ∀ a ∈ F, ∀ ps, H a ≠ some (.tbl ps)
  | _, _, _, .nil, _, h => by cases h
  | _, _, _, .cons h r, a, m => (List.mem_append.mp m).elim (Own.ntb h a) (Owns.ntb r a)
end
mutual
theorem Own.nsy : ∀ {v : V} {d : D} {F : List Addr}, Own K Z H v d F → ∀ a ∈ F, NSys a (H a)
  | _, _, _, .imm _ _, _, h => by cases h
  | _, _, _, .lst h r, a, m => by
    rcases List.mem_cons.mp m with e | m
    · exact ⟨fun ps z => (by rw [e, h] at z; cases z), fun _ _ z => (by rw [e, h] at z; cases z)⟩
    · exact Owns.nsy r a m
  | _, _, _, .dct h _ r, a, m => by
    rcases List.mem_cons.mp m with e | m
    · exact ⟨fun ps z => (by rw [e, h] at z; cases z), fun _ _ z => (by rw [e, h] at z; cases z)⟩
    · exact Owns.nsy r a m
  | _, _, _, .obj h h2 _ _ r, a, m => by
    rcases List.mem_cons.mp m with e | m
    · exact ⟨fun ps z => (by rw [e, h] at z; cases z), fun _ _ z => (by rw [e, h] at z; cases z)⟩
    · rcases List.mem_cons.mp m with e | m
      · exact ⟨fun ps z => (by rw [e, h2] at z; cases z), fun _ _ z => (by rw [e, h2] at z; cases z)⟩
      · exact Owns.nsy r a m
theorem Owns.nsy : ∀ {vs : List V} {ds : List D} {F : List Addr}, Owns K Z H vs ds F → ∀ a ∈ F, NSys a (H a)
  | _, _, _, .nil, _, h => by cases h
  | _, _, _, .cons h r, a, m => (List.mem_append.mp m).elim (Own.nsy h a) (Owns.nsy r a)
end
mutual
/-- what one owns may be looked at -/
theorem Own.rep (zh : Same Z H) : ∀ {v : V} {d : D} {F : List Addr}, Own K Z H v d F → Rep K H v d
  | _, _, _, .imm r _ => r.mono zh
  | _, _, _, .lst h r => .lst h (Owns.rep zh r)
  | _, _, _, .dct h e r => .dct h e (Owns.rep zh r)
  | _, _, _, .obj h _ c e r => .obj h c e (Owns.rep zh r)
theorem Owns.rep (zh : Same Z H) : ∀ {vs : List V} {ds : List D} {F : List Addr}, Owns K Z H vs ds F → Reps K H vs ds
  | _, _, _, .nil => .nil
  | _, _, _, .cons h r => .cons (Own.rep zh h) (Owns.rep zh r)
end
theorem Owns.length : ∀ {vs : List V} {ds : List D} {F : List Addr}, Owns K Z H vs ds F → vs.length = ds.length
  | _, _, _, .nil => rfl
  | _, _, _, .cons _ r => congrArg (· + 1) (Owns.length r)
theorem Owns.append : ∀ {vs ws : List V} {ds es : List D} {F G : List Addr}, Owns K Z H vs ds F → Owns K Z H ws es G → Owns K Z H (vs ++ ws) (ds ++ es) (F ++ G)
  | _, _, _, _, _, _, .nil, s => s
  | _, _, _, _, _, _, .cons h r, s => by
    rw [List.append_assoc]
    exact .cons h (Owns.append r s)
theorem Owns.one {v : V} {d : D} {F : List Addr} (h : Own K Z H v d F) : Owns K Z H [v] [d] F := by
  have := Owns.cons h Owns.nil
  rwa [List.append_nil] at this
theorem Owns.of_reps : ∀ {vs : List V} {ds : List D}, Reps K Z vs ds → ds.all isVal = true → Owns K Z H vs ds []
  | _, _, .nil, _ => .nil
  | _, _, .cons h r, p => by
    rw [List.all_cons] at p
    obtain ⟨q1, q2⟩ := Bool.and_eq_true_iff.mp p
    exact .cons (F := []) (.imm h q1) (Owns.of_reps r q2)
end
end Oz

namespace Oz
open PySem PySem.Spec PyProof.Rows L2
variable [WD]

/-! ### results, frames -/
inductive Sx where
  | imm | out | view | own | brw | tab
  deriving DecidableEq
structure R where
  s : Sx
  d : D
abbrev Ev := List (Option R)
inductive Res (α : Type) where
  | bad
  | ok (a : α)
  | exc (c : Str) (fs : List (Str × D))
def Res.bind {α β : Type} : Res α → (α → Res β) → Res β
  | .bad, _ => .bad
  | .ok a, f => f a
  | .exc c fs, _ => .exc c fs
theorem Res.bind_ok {α β : Type} (a : α) (f : α → Res β) : (Res.ok a).bind f = f a := rfl
abbrev Px := Ev → Res R
abbrev Tx := Ev → Res Bool

/-! ### heaps within heaps -/
structure Good (Z O H : Hp) : Prop where
  zo : Same Z O
  oh : Same O H
  tz : ∀ a o, H a = some o → fzn o = true → Z a = some o
  nt : NoT O
theorem Good.ohT {Z O H H' : Hp} (g : Good Z O H) (e : SameT H H') : Same O H' := Same.toN g.nt fun b o h n => e.s b o (g.oh b o h) n
theorem Good.ntz {Z O H : Hp} (g : Good Z O H) : NoT Z := fun a ps h => g.nt a ps (g.zo _ _ h)
theorem noT_upd {O : Hp} {p : Addr} {o : HO} (n : NoT O) (h : ∀ ps, o ≠ .tbl ps) : NoT (upd O p o) := fun a ps e => by
  by_cases q : a = p
  · subst q; rw [upd_same] at e; exact h ps (Option.some.inj e)
  · rw [upd_ne q] at e; exact n a ps e
theorem Good.zh {Z O H : Hp} (g : Good Z O H) : Same Z H := g.zo.trans g.oh
/-- nothing but new things, and what stood in W -/
structure Ext (W : List Addr) (Z O H Z' O' H' : Hp) : Prop where
  h : SameT H H'
  z : Same Z Z'
  o : Same O O'
  zn : ∀ a, Z' a ≠ none → Z a ≠ none ∨ H a = none ∨ a ∈ W
  on : ∀ a, O' a ≠ none → O a ≠ none ∨ H a = none ∨ a ∈ W
theorem Ext.refl (W : List Addr) (Z O H : Hp) : Ext W Z O H Z O H := ⟨SameT.refl _, Same.refl _, Same.refl _, fun _ h => .inl h, fun _ h => .inl h⟩
/-- first W0, then W whose cells are new -/
theorem Ext.trans {W0 W : List Addr} {Z O H Z1 O1 H1 Z2 O2 H2 : Hp} (a : Ext W0 Z O H Z1 O1 H1) (b : Ext W Z1 O1 H1 Z2 O2 H2) (w : ∀ c ∈ W, H c = none ∨ c ∈ W0) : Ext W0 Z O H Z2 O2 H2 :=
  ⟨a.h.trans b.h, a.z.trans b.z, a.o.trans b.o,
    fun c h => (b.zn c h).elim (a.zn c) (fun q => q.elim (fun q => .inr (.inl (a.h.free q))) fun q => .inr (w c q)),
    fun c h => (b.on c h).elim (a.on c) (fun q => q.elim (fun q => .inr (.inl (a.h.free q))) fun q => .inr (w c q))⟩
theorem Ext.trans0 {Z O H Z1 O1 H1 Z2 O2 H2 : Hp} (a : Ext [] Z O H Z1 O1 H1) (b : Ext [] Z1 O1 H1 Z2 O2 H2) : Ext [] Z O H Z2 O2 H2 := a.trans b fun _ h => by cases h
theorem Ext.mono {W W' : List Addr} {Z O H Z' O' H' : Hp} (a : Ext W Z O H Z' O' H') (w : ∀ c ∈ W, c ∈ W') : Ext W' Z O H Z' O' H' :=
  ⟨a.h, a.z, a.o, fun c h => (a.zn c h).imp id fun q => q.imp id (w c), fun c h => (a.on c h).imp id fun q => q.imp id (w c)⟩
theorem same_new {H : Hp} {p : Addr} {o : HO} (h : H p = none) : Same H (upd H p o) := fun b x e => by
  rw [upd_ne (ne_of_none e h)]
  exact e
theorem upd_some {H : Hp} {p a : Addr} {o : HO} (h : upd H p o a ≠ none) : H a ≠ none ∨ a = p := by
  by_cases e : a = p
  · exact .inr e
  · rw [upd_ne e] at h
    exact .inl h
theorem upd_fr {H : Hp} {p a : Addr} {o : HO} (h : upd H p o a = none) : H a = none := by
  by_cases e : a = p
  · rw [e, upd_same] at h; cases h
  · rw [upd_ne e] at h; exact h
theorem none_of {Z H : Hp} (z : Same Z H) {p : Addr} (h : H p = none) : Z p = none := z.free h
/-- a new object that never changes -/
theorem ext_frz {Z O H : Hp} (g : Good Z O H) {p : Addr} {o : HO} (np : H p = none) (hn : ∀ ps, o ≠ .tbl ps := by nofun) : Ext [] Z O H (upd Z p o) (upd O p o) (upd H p o) ∧ Good (upd Z p o) (upd O p o) (upd H p o) := by
  have zp := none_of g.zh np
  have op := none_of g.oh np
  refine ⟨⟨toT (same_new np), same_new zp, same_new op, fun a h => ?_, fun a h => ?_⟩, ⟨fun a x h => ?_, fun a x h => ?_, fun a x h f => ?_, noT_upd g.nt hn⟩⟩
  · exact (upd_some h).imp id fun (e : a = p) => .inl (e ▸ np)
  · exact (upd_some h).imp id fun (e : a = p) => .inl (e ▸ np)
  · by_cases e : a = p
    · subst e; rw [upd_same] at h ⊢; exact h
    · rw [upd_ne e] at h ⊢; exact g.zo _ _ h
  · by_cases e : a = p
    · subst e; rw [upd_same] at h ⊢; exact h
    · rw [upd_ne e] at h ⊢; exact g.oh _ _ h
  · by_cases e : a = p
    · subst e; rw [upd_same] at h ⊢; exact h
    · rw [upd_ne e] at h ⊢; exact g.tz _ _ h f
/-- a new object of one's own -/
theorem ext_new {Z O H : Hp} (g : Good Z O H) {p : Addr} {o : HO} (np : H p = none) (f : fzn o = false) : Ext [] Z O H Z O (upd H p o) ∧ Good Z O (upd H p o) := by
  refine ⟨⟨toT (same_new np), Same.refl _, Same.refl _, fun a h => .inl h, fun a h => .inl h⟩, ⟨g.zo, g.oh.trans (same_new np), fun a x h q => ?_, g.nt⟩⟩
  by_cases e : a = p
  · subst e; rw [upd_same] at h; cases h; rw [f] at q; cases q
  · rw [upd_ne e] at h; exact g.tz _ _ h q

/-! ### tables of code objects: the addresses that the markers at K's end name -/
def mkD : Obj → Option Addr
  | ⟨.none, some P, .plain, _⟩ => some P
  | _ => none
def tabsK (K : PySem.W.Frag) : List Addr := K.filterMap fun q => mkD q.2
def Tabs (K : PySem.W.Frag) (H : Hp) : Prop := ∀ P ∈ tabsK K, TabQ true H P
theorem Tabs.ext {K : PySem.W.Frag} {H H' : Hp} (t : Tabs K H) (e : SameT H H') : Tabs K H' := fun P hP => e.tab P (t P hP)

/-! ### what a result stands for -/
def RepR (K : PySem.W.Frag) (Z O H : Hp) (v : V) (r : R) (F : List Addr) : Prop := match r.s with
  | .imm => Rep K Z v r.d ∧ F = []
  | .out => Rep K O v r.d ∧ F = []
  | .view => Rep K H v r.d ∧ F = []
  | .own => Own K Z H v r.d F
  | .brw => Own K Z H v r.d F
  | .tab => False
section
variable {K : PySem.W.Frag} {Z O H Z' O' H' : Hp}
theorem RepR.live {v : V} {r : R} {F : List Addr} (h : RepR K Z O H v r F) : ∀ a ∈ F, ∃ o, H a = some o ∧ fzn o = false := by
  obtain ⟨s, d⟩ := r
  cases s with
  | imm => obtain ⟨_, rfl⟩ := h; intro a ha; cases ha
  | out => obtain ⟨_, rfl⟩ := h; intro a ha; cases ha
  | view => obtain ⟨_, rfl⟩ := h; intro a ha; cases ha
  | own => exact Own.live h
  | brw => exact Own.live h
  | tab => exact (show False from h).elim
theorem RepR.ntb {v : V} {r : R} {F : List Addr} (h : RepR K Z O H v r F) : ∀ a ∈ F, ∀ ps, H a ≠ some (.tbl ps) := by
  obtain ⟨s, d⟩ := r
  cases s with
  | imm => obtain ⟨_, rfl⟩ := h; intro a ha; cases ha
  | out => obtain ⟨_, rfl⟩ := h; intro a ha; cases ha
  | view => obtain ⟨_, rfl⟩ := h; intro a ha; cases ha
  | own => exact Own.ntb h
  | brw => exact Own.ntb h
  | tab => exact (show False from h).elim
theorem RepR.nsy {v : V} {r : R} {F : List Addr} (h : RepR K Z O H v r F) : ∀ a ∈ F, NSys a (H a) := by
  obtain ⟨s, d⟩ := r
  cases s with
  | imm => obtain ⟨_, rfl⟩ := h; intro a ha; cases ha
  | out => obtain ⟨_, rfl⟩ := h; intro a ha; cases ha
  | view => obtain ⟨_, rfl⟩ := h; intro a ha; cases ha
  | own => exact Own.nsy h
  | brw => exact Own.nsy h
  | tab => exact (show False from h).elim
theorem RepR.sameM {v : V} {r : R} {F : List Addr} (ez : Same Z Z') (eo : Same O O') (eh : SameN H H') (h : RepR K Z O H v r F) : RepR K Z' O' H' v r F := by
  obtain ⟨s, d⟩ := r
  cases s with
  | imm => exact ⟨h.1.mono ez, h.2⟩
  | out => exact ⟨h.1.mono eo, h.2⟩
  | view => exact ⟨h.1.monoN eh, h.2⟩
  | own => exact Own.mono ez (fun a _ o q n => eh a o q n) h
  | brw => exact Own.mono ez (fun a _ o q n => eh a o q n) h
  | tab => exact (show False from h).elim
theorem RepR.ext {v : V} {r : R} {F : List Addr} (h : RepR K Z O H v r F) {W : List Addr} (e : Ext W Z O H Z' O' H') : RepR K Z' O' H' v r F := by
  obtain ⟨s, d⟩ := r
  cases s with
  | imm => exact ⟨h.1.mono e.z, h.2⟩
  | out => exact ⟨h.1.mono e.o, h.2⟩
  | view => exact ⟨h.1.monoT e.h, h.2⟩
  | own => exact Own.mono e.z (fun a _ o q n => e.h.s a o q n) h
  | brw => exact Own.mono e.z (fun a _ o q n => e.h.s a o q n) h
  | tab => exact (show False from h).elim
/-- the cells of others changed: no view stays -/
theorem RepR.keep {v : V} {r : R} {F : List Addr} (h : RepR K Z O H v r F) (hv : r.s ≠ .view) (ez : Same Z Z') (eo : Same O O') (eh : ∀ a ∈ F, ∀ o, H a = some o → (∀ ps, o ≠ .tbl ps) → H' a = some o) : RepR K Z' O' H' v r F := by
  obtain ⟨s, d⟩ := r
  cases s with
  | imm => exact ⟨h.1.mono ez, h.2⟩
  | out => exact ⟨h.1.mono eo, h.2⟩
  | view => exact absurd rfl hv
  | own => exact Own.mono ez eh h
  | brw => exact Own.mono ez eh h
  | tab => exact (show False from h).elim
/-- anything may be looked at -/
theorem RepR.look {v : V} {r : R} {F : List Addr} (g : Good Z O H) (h : RepR K Z O H v r F) : Rep K H v r.d := by
  obtain ⟨s, d⟩ := r
  cases s with
  | imm => exact h.1.mono g.zh
  | out => exact h.1.mono g.oh
  | view => exact h.1
  | own => exact Own.rep g.zh h
  | brw => exact Own.rep g.zh h
  | tab => exact (show False from h).elim
end

/-! ### a dict whose keys are tuples of ints, texts and truth values: its keys, one by one -/
/-- numbers as they count as keys -/
def keyB : D → Option NestedKey
  | .int i => some (.num i)
  | .bool b => some (.num (if b = true then 1 else 0))
  | .str x => some (.text x)
  | .none => some .none
  | _ => none
def keysB : List D → Option (List NestedKey)
  | [] => some []
  | d :: ds => match keyB d, keysB ds with
    | some k, some ks => some (k :: ks)
    | _, _ => none
def tdE [WD] (x : NestedKey × Addr) : DictEntry := ⟨x.1.hash WD.w, .ref x.2, .bool true⟩
/-- the object at a is a dict: its keys stand at the addresses, each with its value True -/
def tdO [WD] (a : Addr) (xs : List (NestedKey × Addr)) : Heap → Prop := fun h => ∃ o es ep, h.get? a = some o ∧ o.ExactDict ∧ o.data = .dict es ep ∧
  es.toList = xs.map tdE ∧ (xs.map (·.1)).Nodup ∧ (a == sysModules) = false
theorem tdO_ne [WD] {a P : Addr} {xs : List (NestedKey × Addr)} (ne : a ≠ P) : HO.ext (tdO a xs) ≠ codO a P := fun e => by
  injection e with e
  have hg : (⟨Array.replicate (a + 1) ⟨.type "code", none, .fields #[.none, .none, .none, .none, .none, .none, .none, .int 0 0, .none, .bool true, .int 0 0, .ref P, .none, .none, .none, .none, .none, .none, .str "" 0], #[]⟩, {}⟩ : Heap).get? a = some ⟨.type "code", none, .fields #[.none, .none, .none, .none, .none, .none, .none, .int 0 0, .none, .bool true, .int 0 0, .ref P, .none, .none, .none, .none, .none, .none, .str "" 0], #[]⟩ := by
    simp [Heap.get?]
  have h := (congrFun e _).mpr (show PySem.W.CodeHd _ a P from ⟨_, _, _, _, _, _, _, _, _, hg, rfl, rfl, rfl, rfl, rfl, rfl, rfl, rfl, ne⟩)
  obtain ⟨o, es, ep, h1, h2, _⟩ := h
  rw [hg] at h1
  cases h1
  have h3 : Value.type "code" = Value.type "dict" := h2.1
  injection h3 with h4
  exact absurd h4 (by decide)
/-- the keys: frozen tuples -/
inductive KeysAt (K : PySem.W.Frag) (Z : Hp) : List (NestedKey × Addr) → List D → Prop
  | nil : KeysAt K Z [] []
  | cons {ks : List NestedKey} {b : Addr} {ds : List D} {xs : List (NestedKey × Addr)} {es : List D} : keysB ds = some ks → Rep K Z (.ref b) (.tuple ds) → KeysAt K Z xs es → KeysAt K Z ((.tup ks, b) :: xs) (.tuple ds :: es)
theorem KeysAt.mono {K : PySem.W.Frag} {Z Z' : Hp} (e : Same Z Z') : ∀ {xs : List (NestedKey × Addr)} {es : List D}, KeysAt K Z xs es → KeysAt K Z' xs es
  | _, _, .nil => .nil
  | _, _, .cons h r t => .cons h (r.mono e) (KeysAt.mono e t)
def TabR [WD] (K : PySem.W.Frag) (Z H : Hp) (v : V) (d : D) (F : List Addr) : Prop := ∃ a xs es, v = .ref a ∧ d = .list es ∧ H a = some (.ext (tdO a xs)) ∧ KeysAt K Z xs es ∧ F = [a]
/-- what a slot may hold -/
def RepS [WD] (K : PySem.W.Frag) (Z O H : Hp) (v : V) (r : R) (F : List Addr) : Prop := RepR K Z O H v r F ∨ (r.s = .tab ∧ TabR K Z H v r.d F)
section
variable [WD] {K : PySem.W.Frag} {Z O H Z' O' H' : Hp} {v : V} {r : R} {F : List Addr}
theorem RepS.live (h : RepS K Z O H v r F) : ∀ a ∈ F, ∃ o, H a = some o ∧ fzn o = false := by
  rcases h with h | ⟨_, a, xs, es, _, _, h, _, rfl⟩
  · exact h.live
  · intro b hb
    simp at hb
    rw [hb]
    exact ⟨_, h, rfl⟩
theorem RepS.ntb (h : RepS K Z O H v r F) : ∀ a ∈ F, ∀ ps, H a ≠ some (.tbl ps) := by
  rcases h with h | ⟨_, a, xs, es, _, _, h, _, rfl⟩
  · exact h.ntb
  · intro b hb ps e
    simp at hb
    rw [hb, h] at e
    cases e
theorem RepS.nsy (h : RepS K Z O H v r F) : ∀ a ∈ F, NSys a (H a) := by
  rcases h with h | ⟨_, a, xs, es, _, _, h, _, rfl⟩
  · exact h.nsy
  · intro b hb
    simp at hb
    subst hb
    refine ⟨fun ps e => ?_, fun P ne e => ?_⟩
    · rw [h] at e; cases e
    · rw [h] at e
      exact tdO_ne ne (Option.some.inj e)
theorem RepS.mono (h : RepS K Z O H v r F) (hr : RepR K Z O H v r F → RepR K Z' O' H' v r F) (ez : Same Z Z') (eh : ∀ a ∈ F, ∀ o, H a = some o → (∀ ps, o ≠ .tbl ps) → H' a = some o) : RepS K Z' O' H' v r F := by
  rcases h with h | ⟨e, a, xs, es, e1, e2, h, ka, rfl⟩
  · exact .inl (hr h)
  · exact .inr ⟨e, a, xs, es, e1, e2, eh a (by simp) _ h nofun, ka.mono ez, rfl⟩
theorem RepS.sameM (ez : Same Z Z') (eo : Same O O') (eh : SameN H H') (h : RepS K Z O H v r F) : RepS K Z' O' H' v r F := h.mono (fun q => q.sameM ez eo eh) ez fun a _ o e n => eh a o e n
theorem RepS.ext (h : RepS K Z O H v r F) {W : List Addr} (e : Ext W Z O H Z' O' H') : RepS K Z' O' H' v r F := h.mono (fun q => q.ext e) e.z fun a _ o q n => e.h.s a o q n
theorem RepS.keep (h : RepS K Z O H v r F) (hv : r.s ≠ .view) (ez : Same Z Z') (eo : Same O O') (eh : ∀ a ∈ F, ∀ o, H a = some o → (∀ ps, o ≠ .tbl ps) → H' a = some o) : RepS K Z' O' H' v r F := h.mono (fun q => q.keep hv ez eo eh) ez eh
/-- but for tables, a slot is as any result -/
theorem RepS.rep (h : RepS K Z O H v r F) (ht : r.s ≠ .tab) : RepR K Z O H v r F := h.elim id fun z => absurd z.1 ht
end
inductive Slots (K : PySem.W.Frag) (Z O H : Hp) : List (Option V) → Ev → List Addr → Prop
  | nil : Slots K Z O H [] [] []
  | non {x : Option V} {σ : List (Option V)} {ρ : Ev} {F : List Addr} : Slots K Z O H σ ρ F → Slots K Z O H (x :: σ) (none :: ρ) F
  | val {v : V} {r : R} {σ : List (Option V)} {ρ : Ev} {F G : List Addr} : RepS K Z O H v r F → Slots K Z O H σ ρ G → Slots K Z O H (some v :: σ) (some r :: ρ) (F ++ G)
/-- no view among them -/
def nov (ρ : Ev) : Bool := ρ.all fun x => match x with
  | some ⟨.view, _⟩ => false
  | _ => true
section
variable {K : PySem.W.Frag} {Z O H Z' O' H' : Hp}
theorem Slots.length : ∀ {σ : List (Option V)} {ρ : Ev} {F : List Addr}, Slots K Z O H σ ρ F → σ.length = ρ.length
  | _, _, _, .nil => rfl
  | _, _, _, .non s => congrArg (· + 1) s.length
  | _, _, _, .val _ s => congrArg (· + 1) s.length
theorem Slots.live : ∀ {σ : List (Option V)} {ρ : Ev} {F : List Addr}, Slots K Z O H σ ρ F → ∀ a ∈ F, ∃ o, H a = some o ∧ fzn o = false
  | _, _, _, .nil, _, h => by cases h
  | _, _, _, .non s, a, h => s.live a h
  | _, _, _, .val r s, a, h => (List.mem_append.mp h).elim (r.live a) (s.live a)
theorem Slots.ntb : ∀ {σ : List (Option V)} {ρ : Ev} {F : List Addr}, Slots K Z O H σ ρ F → ∀ a ∈ F, ∀ ps, H a ≠ some (.tbl ps)
  | _, _, _, .nil, _, h => by cases h
  | _, _, _, .non s, a, h => s.ntb a h
  | _, _, _, .val r s, a, h => (List.mem_append.mp h).elim (r.ntb a) (s.ntb a)
theorem Slots.nsy : ∀ {σ : List (Option V)} {ρ : Ev} {F : List Addr}, Slots K Z O H σ ρ F → ∀ a ∈ F, NSys a (H a)
  | _, _, _, .nil, _, h => by cases h
  | _, _, _, .non s, a, h => s.nsy a h
  | _, _, _, .val r s, a, h => (List.mem_append.mp h).elim (r.nsy a) (s.nsy a)
theorem Slots.sameM (ez : Same Z Z') (eo : Same O O') (eh : SameN H H') : ∀ {σ : List (Option V)} {ρ : Ev} {F : List Addr}, Slots K Z O H σ ρ F → Slots K Z' O' H' σ ρ F
  | _, _, _, .nil => .nil
  | _, _, _, .non s => .non (Slots.sameM ez eo eh s)
  | _, _, _, .val r s => .val (r.sameM ez eo eh) (Slots.sameM ez eo eh s)
theorem Slots.ext {W : List Addr} (e : Ext W Z O H Z' O' H') : ∀ {σ : List (Option V)} {ρ : Ev} {F : List Addr}, Slots K Z O H σ ρ F → Slots K Z' O' H' σ ρ F
  | _, _, _, .nil => .nil
  | _, _, _, .non s => .non (Slots.ext e s)
  | _, _, _, .val r s => .val (r.ext e) (Slots.ext e s)
theorem Slots.keep (ez : Same Z Z') (eo : Same O O') : ∀ {σ : List (Option V)} {ρ : Ev} {F : List Addr}, Slots K Z O H σ ρ F → nov ρ = true → (∀ a ∈ F, ∀ o, H a = some o → (∀ ps, o ≠ .tbl ps) → H' a = some o) → Slots K Z' O' H' σ ρ F
  | _, _, _, .nil, _, _ => .nil
  | _, _, _, .non s, n, k => .non (Slots.keep ez eo s (by simpa [nov] using n) k)
  | _, _, _, .val (r := r) q s, n, k => by
    have n1 : (_ && _) = true := n
    obtain ⟨n2, n3⟩ := Bool.and_eq_true_iff.mp n1
    refine .val (q.keep (fun e => ?_) ez eo fun a ha => k a (List.mem_append_left _ ha)) (Slots.keep ez eo s n3 fun a ha => k a (List.mem_append_right _ ha))
    obtain ⟨s, d⟩ := r
    cases e
    cases n2
/-- a slot by itself -/
def SlotR (K : PySem.W.Frag) (Z O H : Hp) : Option V → Option R → List Addr → Prop
  | _, none, F => F = []
  | some v, some r, F => RepS K Z O H v r F
  | none, some _, _ => False
theorem Slots.get : ∀ {σ : List (Option V)} {ρ : Ev} {F : List Addr} {i : Nat} {r : R}, Slots K Z O H σ ρ F → ρ[i]? = some (some r) → ∃ v, σ[i]? = some (some v) ∧ ∃ G, RepS K Z O H v r G
  | _, _, _, _, _, .nil, h => by simp at h
  | _, _, _, 0, _, .non s, h => by simp at h
  | _, _, _, i + 1, _, .non s, h => by
    obtain ⟨v, h1, h2⟩ := Slots.get (i := i) s (by simpa using h)
    exact ⟨v, by simpa using h1, h2⟩
  | _, _, _, 0, _, .val r s, h => by
    simp at h
    subst h
    exact ⟨_, rfl, _, r⟩
  | _, _, _, i + 1, _, .val r s, h => by
    obtain ⟨v, h1, h2⟩ := Slots.get (i := i) s (by simpa using h)
    exact ⟨v, by simpa using h1, h2⟩
/-- one slot taken out, the others kept -/
theorem Slots.focus : ∀ {σ : List (Option V)} {ρ : Ev} {F : List Addr} {i : Nat}, Slots K Z O H σ ρ F → i < ρ.length →
    ∃ (x : Option V) (y : Option R) (F1 G F2 : List Addr), σ[i]? = some x ∧ ρ[i]? = some y ∧ F = F1 ++ (G ++ F2) ∧ SlotR K Z O H x y G ∧
      (∀ (x' : Option V) (y' : Option R) (G' : List Addr) (Z' O' H' : Hp), Same Z Z' → Same O O' → (SameN H H' ∨ nov ρ = true) → (∀ a ∈ F1 ++ F2, ∀ o, H a = some o → (∀ ps, o ≠ .tbl ps) → H' a = some o) → SlotR K Z' O' H' x' y' G' → Slots K Z' O' H' (σ.set i x') (ρ.set i y') (F1 ++ (G' ++ F2)))
  | _, _, _, _, .nil, h => by simp at h
  | x :: σ, _ :: ρ, F, 0, .non s, h => by
    refine ⟨x, none, [], [], F, rfl, rfl, rfl, rfl, fun x' y' G' Z' O' H' ez eo eh k q => ?_⟩
    have s' : Slots K Z' O' H' σ ρ F := by
      rcases eh with eh | n
      · exact Slots.sameM ez eo eh s
      · exact Slots.keep ez eo s (by simpa [nov] using n) (by simpa using k)
    cases y' with
    | none => have e : G' = [] := q; subst e; exact .non s'
    | some r => cases x' with
      | none => cases q
      | some v =>
        have z := Slots.val q s'
        exact z
  | some _ :: σ, some _ :: ρ, _, 0, .val (r := r) (F := F) (G := G) q s, h => by
    refine ⟨_, some r, [], F, G, rfl, rfl, rfl, q, fun x' y' G' Z' O' H' ez eo eh k q => ?_⟩
    have s' : Slots K Z' O' H' σ ρ G := by
      rcases eh with eh | n
      · exact Slots.sameM ez eo eh s
      · exact Slots.keep ez eo s (by have n1 : (_ && _) = true := n; exact (Bool.and_eq_true_iff.mp n1).2) (by simpa using k)
    cases y' with
    | none => have e : G' = [] := q; subst e; exact .non s'
    | some r => cases x' with
      | none => cases q
      | some v =>
        have z := Slots.val q s'
        exact z
  | x :: σ, _ :: ρ, F, i + 1, .non s, h => by
    obtain ⟨x1, y1, F1, G, F2, h1, h2, h3, h4, h5⟩ := Slots.focus (i := i) s (by simpa using h)
    refine ⟨x1, y1, F1, G, F2, by simpa using h1, by simpa using h2, h3, h4, fun x' y' G' Z' O' H' ez eo eh k q => ?_⟩
    exact .non (h5 x' y' G' Z' O' H' ez eo (eh.imp id fun n => by simpa [nov] using n) k q)
  | some _ :: σ, some _ :: ρ, _, i + 1, .val (r := r) (F := F0) (G := G0) q0 s, h => by
    obtain ⟨x1, y1, F1, G, F2, h1, h2, h3, h4, h5⟩ := Slots.focus (i := i) s (by simpa using h)
    refine ⟨x1, y1, F0 ++ F1, G, F2, by simpa using h1, by simpa using h2, by rw [h3, List.append_assoc], h4, fun x' y' G' Z' O' H' ez eo eh k q => ?_⟩
    rw [List.append_assoc]
    refine .val ?_ (h5 x' y' G' Z' O' H' ez eo (eh.imp id fun n => by have n1 : (_ && _) = true := n; exact (Bool.and_eq_true_iff.mp n1).2) (fun a ha => k a ?_) q)
    · rcases eh with eh | n
      · exact RepS.sameM ez eo eh q0
      · refine q0.keep (fun e => ?_) ez eo fun a ha => k a (List.mem_append_left _ (List.mem_append_left _ ha))
        have n1 : (_ && _) = true := n
        obtain ⟨n2, _⟩ := Bool.and_eq_true_iff.mp n1
        obtain ⟨s, d⟩ := r
        cases e
        cases n2
    · rcases List.mem_append.mp ha with ha | ha
      · exact List.mem_append_left _ (List.mem_append_right _ ha)
      · exact List.mem_append_right _ ha
end
end Oz

/-! Oz37: the head's Hook with tables of code objects: markers at K's end name them. -/
namespace Oz
open PySem PySem.Spec L2
open PyProof.Rows hiding St
def mkr (q : Addr × Addr) : Addr × Obj := (q.1, ⟨.none, some q.2, .plain, #[]⟩)
def addM (K0 : PySem.W.Frag) (tf : List He.Defn) : PySem.W.Frag := K0 ++ tf.map fun p => mkr (He.cT K0 p)
def zB (g : Addr → Option Obj) (tf : List He.Defn) (K0 K : PySem.W.Frag) : Bool := (tf.all fun p => (K0.lookup (He.cT K0 p).1).isSome && (PySem.W.codeHdIn K (He.cT K p).1 (He.cT K p).2 && ((match g (He.cT K p).2 with
  | some o => He.emptyTab o
  | none => false) && (K.lookup (He.cT K p).2).isNone))) && decide (tabsK K = tf.map fun p => (He.cT K p).2)
structure SaysZ (fa : List He.Fa) (fn : List He.DefD) (ck : PySem.W.Frag → Bool) (dn : List (Str × List Str)) (tf : List He.Defn) (w : World) (h : Heap) (K : PySem.W.Frag) : Prop where
  d : He.SaysD fa fn K
  ck : ck K = true
  dn : dn.map (fun q => He.dicW K (He.ga K q.1)) = dn.map (fun q => some (He.keysIn w.params q.2))
  hd : ∀ p ∈ tf, PySem.W.codeHdIn K (He.cT K p).1 (He.cT K p).2 = true
  out : ∀ p ∈ tf, K.lookup (He.cT K p).2 = none
  empty : ∀ p ∈ tf, h.get? (He.cT K p).2 = some { cls := .none, data := .fields #[] }
  tk : tabsK K = tf.map fun p => (He.cT K p).2
theorem lookup_app {a : Addr} {o : Obj} {l m : List (Addr × Obj)} (h : (l ++ m).lookup a = some o) : l.lookup a = some o ∨ (l.lookup a = none ∧ m.lookup a = some o) := by
  induction l with
  | nil => exact .inr ⟨rfl, h⟩
  | cons p l ih =>
    obtain ⟨b, u⟩ := p
    rw [List.cons_append, List.lookup_cons] at h
    rw [List.lookup_cons]
    by_cases e : (a == b) = true
    · rw [e] at h ⊢; exact .inl h
    · have e' : (a == b) = false := Bool.eq_false_iff.mpr e
      rw [e'] at h ⊢
      exact ih h
theorem in_addM {K0 : PySem.W.Frag} {tf : List He.Defn} {h : Heap} (H : K0.In h) (hs : ∀ p ∈ tf, (K0.lookup (He.cT K0 p).1).isSome = true) : (addM K0 tf).In h := fun a o e => by
  rcases lookup_app e with e | ⟨e1, e2⟩
  · exact H a o e
  · have hm := He.lookup_mem e2
    obtain ⟨p, hp, ep⟩ := List.mem_map.mp hm
    have ea : (He.cT K0 p).1 = a := congrArg Prod.fst ep
    have := hs p hp
    rw [ea, e1] at this
    cases this
noncomputable section
end
end Oz

/-! Oz62: __init__ of an own exception over ValueError: super().__init__(what); self.what = what -/
namespace Oz
open PySem PySem.Spec L2
open PyProof.Rows hiding St
structure XiPos where
  p0 : Pos
  p1 : Pos
  p2 : Pos
  p3 : Pos
  p4 : Pos
  p5 : Pos
  p6 : Pos
  p7 : Pos
  p8 : Pos
  p9 : Pos
  a0 : Pos
  a1 : Pos
def ixBody (p : XiPos) : List Stmt := [.Expr (.Call (.Attribute (.Call (.Name "super" p.p0) [] [] p.p1) "__init__" p.p2) [.Name "what" p.p3] [] p.p4) p.p5, .Assign [.Attribute (.Name "self" p.p6) "what" p.p7] (.Name "what" p.p8) p.p9]
def ixScope : Scope := {
  kind := .function, names := [(PySem.Str.ofString "self", .local), (PySem.Str.ofString "what", .local), (PySem.Str.ofString "__class__", .free), (PySem.Str.ofString "super", .globalImplicit)]
  isGenerator := false, isCoroutine := false, more := [] }
def ixPars (p : XiPos) : Arguments := { posonlyargs := [], args := [{ arg := "self", annotation := none, pos := p.a0 }, { arg := "what", annotation := none, pos := p.a1 }], vararg := none, kwonlyargs := [], kw_defaults := [], kwarg := none, defaults := [] }
end Oz

/-! Oz64: the head's Hook with own exceptions -/
namespace Oz
open PySem PySem.Spec L2
open PyProof.Rows hiding St
structure RfD where
  c : Str
  p : XiPos
abbrev RfW : Type := Option (Arguments × FuncBody × Scope × Addr × List Str × Addr)
def rfW (K : PySem.W.Frag) (c : Str) : RfW := match K.lookup (He.ma K (He.ga K c) "__init__") with
  | some ⟨_, _, .func fd, _⟩ => some (fd.params, fd.body, fd.scope, fd.globals, fd.closure.map (·.1), fd.builtins)
  | _ => none
def RfD.val (r : RfD) : RfW := some (ixPars r.p, .stmts (ixBody r.p), ixScope, mainGlobals, ["__class__"], builtinsNs)
def oexB (K : PySem.W.Frag) (C : Addr) : Bool := match K.lookup C with
  | some ⟨.type "type", _, .cls cd, sl⟩ => (match cd.mro, sl.toList with
    | .ref C' :: bm, [_, _, _, _, some (.builtin n), _] => C' == C && (n == "ValueError.__new__" && (!cd.hasDel && (cd.hasDict && PySem.HandSPX.refsVE bm)))
    | _, _ => false)
  | _ => false
def initB (K : PySem.W.Frag) (fl : Str) (C f : Addr) : Bool := match K.lookup f with
  | some ⟨_, _, .func fd, _⟩ => (match fd.code, fd.closure, fd.defaults with
    | .ref cda, [(_, cc)], .none => PySem.W.codeIn K (.ref cda) fd.qualname && ((match K.lookup cda with
        | some ⟨_, _, .fields vs, _⟩ => (match (vs[2]? : Option Value) with
          | some (.str file _) => fl == file
          | _ => false)
        | _ => false) && (match K.lookup cc with
        | some ⟨_, _, .cell (some (.ref D)), _⟩ => D == C
        | _ => false))
    | _, _, _ => false)
  | _ => false
def rfB (K : PySem.W.Frag) (fl c : Str) : Bool :=
  oexB K (He.ga K c) && (initB K fl (He.ga K c) (He.ma K (He.ga K c) "__init__") && (
  decide (PySem.W.findIn K (.ref (He.ga K c)) "__setattr__" = some (some (.builtin "object.__setattr__"))) && (decide (PySem.W.subIn K (.ref (He.ga K c)) (.type "BaseException") = some true) && (
  decide (PySem.W.typeIn K (.ref (He.ga K c)) = some (.type "type")) && (PySem.W.keepIn K (.ref (He.ga K c)) && (
  decide (PySem.W.findIn K (.ref (He.ga K c)) "__init__" = some (some (.ref (He.ma K (He.ga K c) "__init__")))) && (decide (PySem.W.typeIn K (.ref (He.ma K (He.ga K c) "__init__")) = some (.type "function")) && (
  decide (PySem.W.mroIn K (He.ga K c) (.ref (He.ga K c)) = some true) && (decide (PySem.W.nsIn K cStatics "thirdparty.any" = some none) && (
  decide (PySem.W.ks_superIn K (He.ga K c) (He.ga K c) "__init__" = some (some (.builtin "ValueError.__init__"))) && (decide (PySem.W.subIn K (.ref (He.ga K c)) (.type "ValueError") = some true) && (
  decide (PySem.W.findIn K (.ref (He.ga K c)) "what" = some none) && (xfB K (He.ga K c) && decide (PySem.W.exmOne K (.ref (He.ga K c)) (.ref (He.ga K c)) = some true))))))))))))))
def Ke (n : Nat) (tf : List He.Defn) (g : Addr → Option Obj) : PySem.W.Frag := addM (He.frT g (He.asD g n ++ [cStatics])) tf
structure SaysE (fa : List He.Fa) (fn : List He.DefD) (ck : PySem.W.Frag → Bool) (dn : List (Str × List Str)) (tf : List He.Defn) (rs : List RfD) (fl : Str) (w : World) (h : Heap) (K : PySem.W.Frag) : Prop extends SaysZ fa fn ck dn tf w h K where
  r1 : rs.map (fun r => rfW K r.c) = rs.map RfD.val
  r2 : (rs.all fun r => rfB K fl r.c) = true
noncomputable section
abbrev AlE : Type := List RfW × Bool × Bool × Bool × List (Option (List (Option (Str × Int)))) × He.AlD
def obsE (n : Nat) (fa : List He.Fa) (fn : List He.DefD) (ck : PySem.W.Frag → Bool) (dn : List (Str × List Str)) (tf : List He.Defn) (rs : List RfD) (fl : Str) (g : Addr → Option Obj) : AlE :=
  (rs.map (fun r => rfW (Ke n tf g) r.c), rs.all (fun r => rfB (Ke n tf g) fl r.c), zB g tf (He.frT g (He.asD g n ++ [cStatics])) (Ke n tf g), ck (Ke n tf g), dn.map (fun q => He.dicW (Ke n tf g) (He.ga (Ke n tf g) q.1)), He.obsD fa fn (Ke n tf g))
def hookE (n : Nat) (fa : List He.Fa) (fn : List He.DefD) (ck : PySem.W.Frag → Bool) (dn : List (Str × List Str)) (tf : List He.Defn) (rs : List RfD) (fl : Str) : PySem.W.Hook where
  α := AlE
  obs := fun s => obsE n fa fn ck dn tf rs fl s.heap.get?
  val := fun w => (rs.map RfD.val, true, true, true, dn.map (fun q => some (He.keysIn w.params q.2)), He.valD fn)
  says := fun w h => ∃ K : PySem.W.Frag, K.In h ∧ SaysE fa fn ck dn tf rs fl w h K
  of := fun _ _ e => by
    obtain ⟨r1, e0⟩ := Prod.mk.inj e
    obtain ⟨r2, e⟩ := Prod.mk.inj e0
    have e1 := (Prod.mk.inj e).1
    obtain ⟨e2, e3⟩ := Prod.mk.inj (Prod.mk.inj e).2
    obtain ⟨e4, e5⟩ := Prod.mk.inj e3
    unfold zB at e1
    rw [Bool.and_eq_true, List.all_eq_true, decide_eq_true_eq] at e1
    obtain ⟨z1, z2⟩ := e1
    have zz := fun p hp => z1 p hp
    simp only [Bool.and_eq_true] at zz
    refine ⟨_, in_addM He.frT_in fun p hp => (zz p hp).1, ⟨e5, e2, e4, fun p hp => (zz p hp).2.1, fun p hp => Option.isNone_iff_eq_none.mp (zz p hp).2.2.2, fun p hp => ?_, z2⟩, r1, r2⟩
    have h3 := (zz p hp).2.2.1
    split at h3
    · rename_i o ho
      rw [← He.emptyTab_eq h3]
      exact ho
    · cases h3
  keeps := fun _ _ _ ⟨K, hK, c⟩ k => ⟨K, PySem.W.Frag.In.keeps hK k, ⟨⟨c.d, c.ck, c.dn, c.hd, c.out, fun p hp => k _ _ (c.empty p hp), c.tk⟩, c.r1, c.r2⟩⟩
end
end Oz

namespace Law
open PySem PySem.Spec L2 Oz
open PyProof.Rows hiding St
def top (i : Nat) : Stmt := PySem.Challenge.pw_notetrail_k40_trails.main.body.getD i (.Pass ⟨0, 0, 0, 0⟩)
abbrev st__law_begun : Stmt := top 14
abbrev st_Trail___init__ : Stmt := inClass (top 4) 0
abbrev st_Trail_evidence : Stmt := inClass (top 4) 18
abbrev st__law_evidence : Stmt := top 17
abbrev st_Trail_history : Stmt := inClass (top 4) 19
abbrev st_Trail_numbers : Stmt := inClass (top 4) 1
abbrev st_Trail_dishonest : Stmt := inClass (top 4) 17
abbrev st_Trail_stock : Stmt := inClass (top 4) 16
abbrev st__law_is_it : Stmt := top 21
abbrev st__law_draws : Stmt := top 7
abbrev st__law_parties : Stmt := top 9
abbrev st__law_deed : Stmt := top 13
abbrev st__law_why_not : Stmt := top 19
abbrev st_Trail_omit : Stmt := inClass (top 4) 15
abbrev st_Trail_next_number : Stmt := inClass (top 4) 2
abbrev st_Trail_make : Stmt := inClass (top 4) 6
abbrev st_Trail_check_stock : Stmt := inClass (top 4) 3
abbrev st_Trail_treat : Stmt := inClass (top 4) 7
abbrev st_Trail_note : Stmt := inClass (top 4) 5
abbrev st_Trail_move : Stmt := inClass (top 4) 4
abbrev st_Trail_hand : Stmt := inClass (top 4) 8
abbrev st_Trail_inspect : Stmt := inClass (top 4) 9
abbrev st_Trail_pass_on : Stmt := inClass (top 4) 10
abbrev st_Trail_dump : Stmt := inClass (top 4) 11
abbrev st_Trail_conjure : Stmt := inClass (top 4) 12
abbrev st_Trail_sign : Stmt := inClass (top 4) 13
abbrev st_Trail_write : Stmt := inClass (top 4) 14
abbrev st__law_told : Stmt := top 18
abbrev st__law_cell : Stmt := top 6
abbrev st__law_noted : Stmt := top 10
abbrev st__law_lied : Stmt := top 12
abbrev st__law_honest : Stmt := top 11
abbrev st__law_did : Stmt := top 15
abbrev st__law_modelled : Stmt := top 20
abbrev st__law_written : Stmt := top 22
abbrev st_law : Stmt := top 23
end Law

namespace Law
open PySem PySem.Spec L2 Oz
open PyProof.Rows hiding St
def d__law_begun : He.DefD := ⟨("_law_begun", none), "_law_begun", "_law_begun", defArgs st__law_begun, defBody st__law_begun, defScope st__law_begun, [], []⟩
def d_Trail___init__ : He.DefD := ⟨("Trail", some "__init__"), "__init__", "Trail.__init__", defArgs st_Trail___init__, defBody st_Trail___init__, defScope st_Trail___init__, [], []⟩
def d_Trail_evidence : He.DefD := ⟨("Trail", some "evidence"), "evidence", "Trail.evidence", defArgs st_Trail_evidence, defBody st_Trail_evidence, defScope st_Trail_evidence, [], []⟩
def d__law_evidence : He.DefD := ⟨("_law_evidence", none), "_law_evidence", "_law_evidence", defArgs st__law_evidence, defBody st__law_evidence, defScope st__law_evidence, [], []⟩
def d_Trail_history : He.DefD := ⟨("Trail", some "history"), "history", "Trail.history", defArgs st_Trail_history, defBody st_Trail_history, defScope st_Trail_history, [], []⟩
def d_Trail_numbers : He.DefD := ⟨("Trail", some "numbers"), "numbers", "Trail.numbers", defArgs st_Trail_numbers, defBody st_Trail_numbers, defScope st_Trail_numbers, [], []⟩
def d_Trail_dishonest : He.DefD := ⟨("Trail", some "dishonest"), "dishonest", "Trail.dishonest", defArgs st_Trail_dishonest, defBody st_Trail_dishonest, defScope st_Trail_dishonest, [], []⟩
def d_Trail_stock : He.DefD := ⟨("Trail", some "stock"), "stock", "Trail.stock", defArgs st_Trail_stock, defBody st_Trail_stock, defScope st_Trail_stock, [], []⟩
def d__law_is_it : He.DefD := ⟨("_law_is_it", none), "_law_is_it", "_law_is_it", defArgs st__law_is_it, defBody st__law_is_it, defScope st__law_is_it, [], []⟩
def d__law_draws : He.DefD := ⟨("_law_draws", none), "_law_draws", "_law_draws", defArgs st__law_draws, defBody st__law_draws, defScope st__law_draws, [], []⟩
def d__law_parties : He.DefD := ⟨("_law_parties", none), "_law_parties", "_law_parties", defArgs st__law_parties, defBody st__law_parties, defScope st__law_parties, [], []⟩
def d__law_deed : He.DefD := ⟨("_law_deed", none), "_law_deed", "_law_deed", defArgs st__law_deed, defBody st__law_deed, defScope st__law_deed, [], []⟩
def d__law_why_not : He.DefD := ⟨("_law_why_not", none), "_law_why_not", "_law_why_not", defArgs st__law_why_not, defBody st__law_why_not, defScope st__law_why_not, [], []⟩
def d_Trail_omit : He.DefD := ⟨("Trail", some "omit"), "omit", "Trail.omit", defArgs st_Trail_omit, defBody st_Trail_omit, defScope st_Trail_omit, [], []⟩
def d_Trail_next_number : He.DefD := ⟨("Trail", some "next_number"), "next_number", "Trail.next_number", defArgs st_Trail_next_number, defBody st_Trail_next_number, defScope st_Trail_next_number, [], []⟩
def d_Trail_make : He.DefD := ⟨("Trail", some "make"), "make", "Trail.make", defArgs st_Trail_make, defBody st_Trail_make, defScope st_Trail_make, [], []⟩
def d_Trail_check_stock : He.DefD := ⟨("Trail", some "check_stock"), "check_stock", "Trail.check_stock", defArgs st_Trail_check_stock, defBody st_Trail_check_stock, defScope st_Trail_check_stock, [], []⟩
def d_Trail_treat : He.DefD := ⟨("Trail", some "treat"), "treat", "Trail.treat", defArgs st_Trail_treat, defBody st_Trail_treat, defScope st_Trail_treat, [], []⟩
def d_Trail_note : He.DefD := ⟨("Trail", some "note"), "note", "Trail.note", defArgs st_Trail_note, defBody st_Trail_note, defScope st_Trail_note, [], []⟩
def d_Trail_move : He.DefD := ⟨("Trail", some "move"), "move", "Trail.move", defArgs st_Trail_move, defBody st_Trail_move, defScope st_Trail_move, [], []⟩
def d_Trail_hand : He.DefD := ⟨("Trail", some "hand"), "hand", "Trail.hand", defArgs st_Trail_hand, defBody st_Trail_hand, defScope st_Trail_hand, [], []⟩
def d_Trail_inspect : He.DefD := ⟨("Trail", some "inspect"), "inspect", "Trail.inspect", defArgs st_Trail_inspect, defBody st_Trail_inspect, defScope st_Trail_inspect, [], []⟩
def d_Trail_pass_on : He.DefD := ⟨("Trail", some "pass_on"), "pass_on", "Trail.pass_on", defArgs st_Trail_pass_on, defBody st_Trail_pass_on, defScope st_Trail_pass_on, [], []⟩
def d_Trail_dump : He.DefD := ⟨("Trail", some "dump"), "dump", "Trail.dump", defArgs st_Trail_dump, defBody st_Trail_dump, defScope st_Trail_dump, [], []⟩
def d_Trail_conjure : He.DefD := ⟨("Trail", some "conjure"), "conjure", "Trail.conjure", defArgs st_Trail_conjure, defBody st_Trail_conjure, defScope st_Trail_conjure, [], []⟩
def d_Trail_sign : He.DefD := ⟨("Trail", some "sign"), "sign", "Trail.sign", defArgs st_Trail_sign, defBody st_Trail_sign, defScope st_Trail_sign, [], []⟩
def d_Trail_write : He.DefD := ⟨("Trail", some "write"), "write", "Trail.write", defArgs st_Trail_write, defBody st_Trail_write, defScope st_Trail_write, [], []⟩
def d__law_told : He.DefD := ⟨("_law_told", none), "_law_told", "_law_told", defArgs st__law_told, defBody st__law_told, defScope st__law_told, [], []⟩
def d__law_cell : He.DefD := ⟨("_law_cell", none), "_law_cell", "_law_cell", defArgs st__law_cell, defBody st__law_cell, defScope st__law_cell, [], []⟩
def d__law_noted : He.DefD := ⟨("_law_noted", none), "_law_noted", "_law_noted", defArgs st__law_noted, defBody st__law_noted, defScope st__law_noted, [], []⟩
def d__law_lied : He.DefD := ⟨("_law_lied", none), "_law_lied", "_law_lied", defArgs st__law_lied, defBody st__law_lied, defScope st__law_lied, [], []⟩
def d__law_honest : He.DefD := ⟨("_law_honest", none), "_law_honest", "_law_honest", defArgs st__law_honest, defBody st__law_honest, defScope st__law_honest, [], []⟩
def d__law_did : He.DefD := ⟨("_law_did", none), "_law_did", "_law_did", defArgs st__law_did, defBody st__law_did, defScope st__law_did, [], []⟩
def d__law_modelled : He.DefD := ⟨("_law_modelled", none), "_law_modelled", "_law_modelled", defArgs st__law_modelled, defBody st__law_modelled, defScope st__law_modelled, [], []⟩
def d__law_written : He.DefD := ⟨("_law_written", none), "_law_written", "_law_written", defArgs st__law_written, defBody st__law_written, defScope st__law_written, [], []⟩
def d_law : He.DefD := ⟨("law", none), "law", "law", defArgs st_law, defBody st_law, defScope st_law, [], []⟩
def fn : List He.DefD := [d__law_begun, d_Trail___init__, d_Trail_evidence, d__law_evidence, d_Trail_history, d_Trail_numbers, d_Trail_dishonest, d_Trail_stock, d__law_is_it, d__law_draws, d__law_parties, d__law_deed, d__law_why_not, d_Trail_omit, d_Trail_next_number, d_Trail_make, d_Trail_check_stock, d_Trail_treat, d_Trail_note, d_Trail_move, d_Trail_hand, d_Trail_inspect, d_Trail_pass_on, d_Trail_dump, d_Trail_conjure, d_Trail_sign, d_Trail_write, d__law_told, d__law_cell, d__law_noted, d__law_lied, d__law_honest, d__law_did, d__law_modelled, d__law_written, d_law]
def ck (K : PySem.W.Frag) : Bool := true
abbrev Rw0 : PySem.W.OpenRow := PySem.W.OpenLaw.row PySem.Challenge.rw_notetrail_k40_trails
def dn : List (Str × List Str) := []
def tf : List He.Defn := []
def xp_Refused : XiPos := ⟨⟨7, 8, 7, 13⟩, ⟨7, 8, 7, 15⟩, ⟨7, 8, 7, 24⟩, ⟨7, 25, 7, 29⟩, ⟨7, 8, 7, 30⟩, ⟨7, 8, 7, 30⟩, ⟨8, 8, 8, 12⟩, ⟨8, 8, 8, 17⟩, ⟨8, 20, 8, 24⟩, ⟨8, 8, 8, 24⟩, ⟨6, 17, 6, 21⟩, ⟨6, 23, 6, 27⟩⟩
def rs : List RfD := [⟨"Refused", xp_Refused⟩]
def fl : Str := (PySem.Challenge.rw_notetrail_k40_trails).prog.main.file
def fa : List He.Fa := [.glo "_law_begun", .mkr "Trail", .meth "Trail" "evidence", .glo "_law_evidence", .meth "Trail" "history", .meth "Trail" "numbers", .meth "Trail" "dishonest", .meth "Trail" "stock", .glo "_law_is_it", .glo "_law_draws", .glo "_law_parties", .glo "_law_deed", .glo "_law_why_not", .meth "Trail" "omit", .meth "Trail" "next_number", .meth "Trail" "make", .meth "Trail" "check_stock", .meth "Trail" "treat", .meth "Trail" "note", .meth "Trail" "move", .meth "Trail" "hand", .meth "Trail" "inspect", .meth "Trail" "pass_on", .meth "Trail" "dump", .meth "Trail" "conjure", .meth "Trail" "sign", .meth "Trail" "write", .glo "_law_told", .glo "_law_cell", .glo "_law_noted", .glo "_law_lied", .glo "_law_honest", .glo "_law_did", .glo "_law_modelled", .glo "_law_written", .glo "law", .cls "Trail", .glo "Trail", .noat "Trail" "kinds", .noat "Trail" "parties", .noat "Trail" "stocks", .noat "Trail" "files", .noat "Trail" "finds", .noat "Trail" "events", .noat "Trail" "last", .noat "Trail" "liars", .free "range", .free "tuple", .free "list", .free "sorted", .free "len", .free "int", .glo "Refused", .free "super"]
abbrev hk : PySem.W.Hook := Oz.hookE 4 fa fn ck dn tf rs fl
def ob (s : PySem.W.SharedT) : AlE := obsE 4 fa fn ck dn tf rs fl (HandSHeadRun.getT s)
theorem ob_eq (s : PySem.W.SharedT) : ob s = hk.obs s.abs := by
  have e : HandSHeadRun.getT s = s.abs.heap.get? := funext fun a => HandSHeadRun.getT_eq s a
  unfold ob
  rw [e]
  rfl
def loose0 : List Str := ["TrailError", "Refused", "Trail", "_law_cell", "_law_draws", "_law_same", "_law_parties", "_law_noted", "_law_honest", "_law_lied", "_law_deed", "_law_begun", "_law_did", "_law_world", "_law_evidence", "_law_told", "_law_why_not", "_law_modelled", "_law_is_it", "_law_written"]
def loose : List Str := loose0
theorem run (w : World) : HandSHeadRun.RunEq Rw0 (PySem.W.view Rw0.prog [23]) hk ob 3000 loose w := by
  intro os
  kernel_rfl
end Law

namespace Oz
open PySem PySem.Spec L2
open PyProof.Rows hiding St
variable [WD]

structure Rel (K : PySem.W.Frag) (Z O H : Hp) (σ : St) (ρ : Ev) (F : List Addr) : Prop where
  g : Good Z O H
  nd : F.Nodup
  fo : ∀ a ∈ F, O a = none
  sl : Slots K Z O H σ ρ F
  tb : Tabs K H
section
variable {K : PySem.W.Frag} {Z O H Z' O' H' : Hp} {σ : St} {ρ : Ev} {F : List Addr}
theorem Rel.ext (r : Rel K Z O H σ ρ F) (e : Ext [] Z O H Z' O' H') (g : Good Z' O' H') : Rel K Z' O' H' σ ρ F :=
  ⟨g, r.nd, (fun a h => by
    obtain ⟨o, q, _⟩ := r.sl.live a h
    cases w : O' a with
    | none => rfl
    | some x =>
      rcases e.on a (by rw [w]; simp) with z | z | z
      · exact absurd (r.fo a h) z
      · rw [q] at z; cases z
      · cases z), r.sl.ext e, r.tb.ext e.h⟩
end
theorem Rel.updT {K : PySem.W.Frag} {Z O H : Hp} {σ : St} {ρ : Ev} {F : List Addr} (r : Rel K Z O H σ ρ F) {a : Addr} (ha : a ∈ F) (o : HO) : Tabs K (upd H a o) := fun P hP =>
  upd_tab (r.sl.nsy a ha) (r.tb P hP)
/-- an exception of the class c with its attributes -/
def ExcK (K : PySem.W.Frag) (E : XK) (Z O H : Hp) (c : Str) (fs : List (Str × D)) : Prop :=
  ∀ (H' Z' O' : Hp) (d : Addr) (xs : List (Str × V)), Ext [] Z O H Z' O' H' → Good Z' O' H' → H' d = some (.xd xs) → xs.map (·.1) = fs.map (·.1) → Reps K Z' (xs.map (·.2)) (fs.map (·.2)) → E (.ref (He.ga K c)) (some d) H'
/-- a result; W: the temporary things that may be in it -/
def OkK (K : PySem.W.Frag) (W : List Addr) (Z O H : Hp) (r : R) (Q : VK) : Prop :=
  ∀ v H' Z' O' G, Ext W Z O H Z' O' H' → Good Z' O' H' → RepR K Z' O' H' v r G → G.Nodup → (∀ a ∈ G, (H a = none ∨ a ∈ W) ∧ O' a = none) → Q v H'
def ResK (K : PySem.W.Frag) (E : XK) (W : List Addr) (Z O H : Hp) (r : Res R) (Q : VK) : Prop := match r with
  | .bad => False
  | .ok r => OkK K W Z O H r Q
  | .exc c fs => ExcK K E Z O H c fs
section
variable {K : PySem.W.Frag} {E : XK} {Z O H Z1 O1 H1 : Hp} {Q : VK} {W : List Addr}
theorem OkK.ext {r : R} (h : OkK K [] Z O H r Q) (e : Ext [] Z O H Z1 O1 H1) (w : ∀ a ∈ W, H a = none) : OkK K W Z1 O1 H1 r Q := fun v H' Z' O' G e' g' q nd f =>
  h v H' Z' O' G (e.trans e' fun c hc => .inl (w c hc)) g' q nd fun a ha => ⟨.inl ((f a ha).1.elim (fun z => e.h.free z) (w a)), (f a ha).2⟩
theorem ExcK.ext {c : Str} {fs : List (Str × D)} (h : ExcK K E Z O H c fs) (e : Ext [] Z O H Z1 O1 H1) : ExcK K E Z1 O1 H1 c fs := fun H' Z' O' d xs e' g' q a b =>
  h H' Z' O' d xs (e.trans0 e') g' q a b
theorem ResK.ext {r : Res R} (h : ResK K E [] Z O H r Q) (e : Ext [] Z O H Z1 O1 H1) (w : ∀ a ∈ W, H a = none) : ResK K E W Z1 O1 H1 r Q := by
  cases r with
  | bad => exact h
  | ok r => exact OkK.ext h e w
  | exc c fs => exact ExcK.ext h e
end

/-! ### the readings -/
def tP (K : PySem.W.Frag) (E : XK) (p : Px) : TE := fun σ H Q => ∃ Z O ρ F, Rel K Z O H σ ρ F ∧ ResK K E [] Z O H (p ρ) Q
def tT (K : PySem.W.Frag) (E : XK) (t : Tx) : TT := fun σ H Q => ∃ Z O ρ F, Rel K Z O H σ ρ F ∧ match t ρ with
  | .bad => False
  | .ok b => ∀ H' Z' O', Ext [] Z O H Z' O' H' → Good Z' O' H' → Q b H'
  | .exc c fs => ExcK K E Z O H c fs
inductive RepRs (K : PySem.W.Frag) (Z O H : Hp) : List V → List R → List Addr → Prop
  | nil : RepRs K Z O H [] [] []
  | cons {v : V} {vs : List V} {r : R} {rs : List R} {F G : List Addr} : RepR K Z O H v r F → RepRs K Z O H vs rs G → RepRs K Z O H (v :: vs) (r :: rs) (F ++ G)
def evs : List Px → Ev → Res (List R)
  | [], _ => .ok []
  | p :: ps, ρ => (p ρ).bind fun r => (evs ps ρ).bind fun rs => .ok (r :: rs)
def OksK (K : PySem.W.Frag) (Z O H : Hp) (rs : List R) (Q : List V → Hp → Prop) : Prop :=
  ∀ vs H' Z' O' G, Ext [] Z O H Z' O' H' → Good Z' O' H' → RepRs K Z' O' H' vs rs G → G.Nodup → (∀ a ∈ G, H a = none ∧ O' a = none) → Q vs H'
def tA (K : PySem.W.Frag) (E : XK) (ps : List Px) : TA := fun σ H Q => ∃ Z O ρ F, Rel K Z O H σ ρ F ∧ match evs ps ρ with
  | .bad => False
  | .ok rs => OksK K Z O H rs Q
  | .exc c fs => ExcK K E Z O H c fs
section
variable {X : Cx}
theorem _root_.L2.PE.imp {e : Expr} {t t' : TE} (h : PE X e t) (i : ∀ σ H Q, t' σ H Q → t σ H Q) : PE X e t' := ⟨fun pins s σ H Q I q => h.run pins s σ H Q I (i σ H Q q)⟩
theorem _root_.L2.PT.imp {e : Expr} {t t' : TT} (h : PT X e t) (i : ∀ σ H Q, t' σ H Q → t σ H Q) : PT X e t' := ⟨fun pins s σ H Q I q => h.run pins s σ H Q I (i σ H Q q)⟩
theorem _root_.L2.PW.imp {e : Expr} {t t' : TT} (h : PW X e t) (i : ∀ σ H Q, t' σ H Q → t σ H Q) : PW X e t' := ⟨fun w pins s σ H Q I q => h.run w pins s σ H Q I (i σ H Q q)⟩
theorem _root_.L2.PA.imp {es : List Expr} {t t' : TA} (h : PA X es t) (i : ∀ σ H Q, t' σ H Q → t σ H Q) : PA X es t' := ⟨fun pos pins s σ H Q I q => h.run pos pins s σ H Q I (i σ H Q q)⟩
theorem _root_.L2.PS.imp {st : Stmt} {t t' : TS} (h : PS X st t) (i : ∀ D σ H, t' D σ H → t D σ H) : PS X st t' := ⟨fun pins s σ H D I q => h.run pins s σ H D I (i D σ H q)⟩
theorem _root_.L2.PSs.imp {st : List Stmt} {t t' : TS} (h : PSs X st t) (i : ∀ D σ H, t' D σ H → t D σ H) : PSs X st t' := ⟨fun pins s σ H D I q => h.run pins s σ H D I (i D σ H q)⟩
end
section
variable {K : PySem.W.Frag} {Z O H Z' O' H' : Hp}
theorem RepRs.ext {W : List Addr} (e : Ext W Z O H Z' O' H') : ∀ {vs : List V} {rs : List R} {F : List Addr}, RepRs K Z O H vs rs F → RepRs K Z' O' H' vs rs F
  | _, _, _, .nil => .nil
  | _, _, _, .cons r s => .cons (r.ext e) (RepRs.ext e s)
theorem RepRs.live : ∀ {vs : List V} {rs : List R} {F : List Addr}, RepRs K Z O H vs rs F → ∀ a ∈ F, ∃ o, H a = some o ∧ fzn o = false
  | _, _, _, .nil, _, h => by cases h
  | _, _, _, .cons r s, a, h => (List.mem_append.mp h).elim (r.live a) (s.live a)
theorem RepRs.length : ∀ {vs : List V} {rs : List R} {F : List Addr}, RepRs K Z O H vs rs F → vs.length = rs.length
  | _, _, _, .nil => rfl
  | _, _, _, .cons _ s => congrArg (· + 1) s.length
theorem RepRs.look (g : Good Z O H) : ∀ {vs : List V} {rs : List R} {F : List Addr}, RepRs K Z O H vs rs F → Reps K H vs (rs.map (·.d))
  | _, _, _, .nil => .nil
  | _, _, _, .cons r s => .cons (r.look g) (RepRs.look g s)
/-- new cells beside live ones -/
theorem nodup_fresh {F G : List Addr} (nF : F.Nodup) (nG : G.Nodup) (lv : ∀ a ∈ F, ∃ o, H a = some o) (fr : ∀ a ∈ G, H a = none) : (F ++ G).Nodup := by
  rw [List.nodup_append]
  refine ⟨nF, nG, fun a ha b hb e => ?_⟩
  subst e
  obtain ⟨o, h⟩ := lv a ha
  rw [fr a hb] at h
  cases h
end

/-! ### names, constants -/
def vw (r : R) : R := if lf r.d then ⟨.imm, r.d⟩ else match r.s with
  | .own => ⟨.view, r.d⟩
  | .brw => ⟨.view, r.d⟩
  | s => ⟨s, r.d⟩
theorem RepR.vw {K : PySem.W.Frag} {Z O H : Hp} {v : V} {r : R} {F : List Addr} (g : Good Z O H) (h : RepR K Z O H v r F) : RepR K Z O H v (Oz.vw r) [] := by
  have lk := h.look g
  unfold Oz.vw
  split
  · exact ⟨lk.up g.tz ‹_›, rfl⟩
  · obtain ⟨s, d⟩ := r
    cases s with
    | imm => exact ⟨h.1, rfl⟩
    | out => exact ⟨h.1, rfl⟩
    | view => exact ⟨h.1, rfl⟩
    | own => exact ⟨lk, rfl⟩
    | brw => exact ⟨lk, rfl⟩
    | tab => exact (show False from h).elim
def pVar (i : Nat) : Px := fun ρ => match ρ[i]? with
  | some (some ⟨.tab, _⟩) => .bad
  | some (some r) => .ok (vw r)
  | _ => .bad
def pC (d : D) : Px := fun _ => .ok ⟨.imm, d⟩
section
variable {X : Cx} {E : XK}
theorem s_var (i : Nat) {x : Str} {pos : Pos} (hN : X.N[i]? = some x := by rfl) (hv : Vis X.env.scope x := by first | exact Or.inl rfl | exact Or.inr (Or.inl rfl) | exact Or.inr (Or.inr rfl)) (hd : (x == ("__debug__" : Str)) = false := by decide)
    (hcd : (x == ("__classdict__" : Str)) = false := by decide) : PE X (.Name x pos) (tP X.K E (pVar i)) := by
  refine (pe_var hN hv hd hcd).imp fun σ H Q ⟨Z, O, ρ, F, r, q⟩ => ?_
  unfold pVar at q
  cases e : ρ[i]? with
  | none => rw [e] at q; exact q.elim
  | some y =>
    cases y with
    | none => rw [e] at q; exact q.elim
    | some y =>
      rw [e] at q
      obtain ⟨v, h1, G, h2⟩ := r.sl.get e
      have ht : y.s ≠ .tab := fun z => by
        obtain ⟨s, d⟩ := y
        cases z
        exact q.elim
      have q2 : OkK X.K [] Z O H (vw y) Q := by
        obtain ⟨s, d⟩ := y
        cases s <;> first | exact q | exact absurd rfl ht
      exact ⟨v, h1, q2 v H Z O [] (Ext.refl _ _ _ _) r.g ((h2.rep ht).vw r.g) List.nodup_nil fun a ha => by cases ha⟩
theorem okC {K : PySem.W.Frag} {d : D} {v : V} {σ : St} {H : Hp} {Q : VK} (rep : ∀ C, Rep K C v d) (h : tP K E (pC d) σ H Q) : Q v H := by
  obtain ⟨Z, O, ρ, F, r, q⟩ := h
  exact q v H Z O [] (Ext.refl _ _ _ _) r.g ⟨rep Z, rfl⟩ List.nodup_nil fun a ha => by cases ha
theorem s_int {i j pos} : PE X (.Constant (.int i) j pos) (tP X.K E (pC (.int i))) := pe_int.imp fun σ H Q h => okC (fun _ => .int i) h
theorem s_bl {b j pos} : PE X (.Constant (.bool b) j pos) (tP X.K E (pC (.bool b))) := pe_bl.imp fun σ H Q h => okC (fun _ => .bl b) h
theorem s_non {j pos} : PE X (.Constant .none j pos) (tP X.K E (pC .none)) := pe_non.imp fun σ H Q h => okC (fun _ => .non) h
theorem s_str {x j pos} : PE X (.Constant (.str x) j pos) (tP X.K E (pC (.str x))) := pe_str.imp fun σ H Q h => okC (fun _ => .str x) h
end

/-! ### two in a row -/
def Op2 (K : PySem.W.Frag) (T : R2) (f : R → R → Res R) : Prop := ∀ (E : XK) (Z O H : Hp) (x y : V) (a b : R) (F G : List Addr) (Q : VK), Good Z O H → RepR K Z O H x a F → RepR K Z O H y b G → (F ++ G).Nodup → (∀ c ∈ F ++ G, O c = none) →
  ResK K E (F ++ G) Z O H (f a b) Q → T x y H Q
def p2 (f : R → R → Res R) (p q : Px) : Px := fun ρ => (p ρ).bind fun a => (q ρ).bind fun b => f a b
section
variable {K : PySem.W.Frag} {E : XK} {p q : Px}
/-- a first one, then the rest -/
theorem tP_bind {k : R → Ev → Res R} {σ : St} {H : Hp} {Q : VK} (h : tP K E (fun ρ => (p ρ).bind fun a => k a ρ) σ H Q) {T : V → Hp → Prop}
    (next : ∀ (Z O H1 Z1 O1 : Hp) (ρ : Ev) (F G : List Addr) (v : V) (a : R), Rel K Z O H σ ρ F → Ext [] Z O H Z1 O1 H1 → Rel K Z1 O1 H1 σ ρ F → RepR K Z1 O1 H1 v a G → G.Nodup → (∀ c ∈ G, H c = none ∧ O1 c = none) → ResK K E [] Z O H (k a ρ) Q → T v H1) :
    tP K E p σ H T := by
  obtain ⟨Z, O, ρ, F, r, h⟩ := h
  refine ⟨Z, O, ρ, F, r, ?_⟩
  have h2 : ResK K E [] Z O H ((p ρ).bind fun a => k a ρ) Q := h
  cases e : p ρ with
  | bad => rw [e] at h2; exact h2.elim
  | exc c fs => rw [e] at h2; exact h2
  | ok a =>
    rw [e] at h2
    intro v H1 Z1 O1 G x1 g1 r1 nd f
    exact next Z O H1 Z1 O1 ρ F G v a r x1 (r.ext x1 g1) r1 nd (fun c hc => ⟨(f c hc).1.elim id (fun z => by cases z), (f c hc).2⟩) h2
theorem tP_op2 {T : R2} {f : R → R → Res R} (hf : Op2 K T f) {σ : St} {H : Hp} {Q : VK} (h : tP K E (p2 f p q) σ H Q) : tOp T (tP K E p) (tP K E q) σ H Q := by
  refine tP_bind (k := fun a ρ => (q ρ).bind fun b => f a b) h fun Z O H1 Z1 O1 ρ F G v a r x1 r1 q1 nd fr h2 => ?_
  refine ⟨Z1, O1, ρ, F, r1, ?_⟩
  cases e : q ρ with
  | bad => rw [e] at h2; exact h2.elim
  | exc c fs => rw [e] at h2; exact ExcK.ext h2 x1
  | ok b =>
    rw [e] at h2
    intro w H2 Z2 O2 G2 x2 g2 q2 nd2 fr2
    have h3 : ResK K E [] Z O H (f a b) Q := h2
    have n12 : (G ++ G2).Nodup := nodup_fresh nd nd2 (fun c hc => let ⟨o, z, _⟩ := q1.live c hc; ⟨o, z⟩) (fun c hc => (fr2 c hc).1.elim id fun z => by cases z)
    refine hf E Z2 O2 H2 v w a b G G2 Q g2 (q1.ext x2) q2 n12 (fun c hc => ?_) (h3.ext (x1.trans0 x2) fun c hc => ?_)
    · rcases List.mem_append.mp hc with hc | hc
      · cases z : O2 c with
        | none => rfl
        | some o =>
          obtain ⟨o1, w1, _⟩ := q1.live c hc
          rcases x2.on c (by rw [z]; simp) with y | y | y
          · exact absurd (fr c hc).2 y
          · rw [w1] at y; cases y
          · cases y
      · exact (fr2 c hc).2
    · rcases List.mem_append.mp hc with hc | hc
      · exact (fr c hc).1
      · exact x1.h.free ((fr2 c hc).1.elim id fun z => by cases z)
end
section
variable {X : Cx} {E : XK} {a b : Expr} {p q : Px} {pos : Pos}
theorem s_op {op : Operator} {T : R2} {f : R → R → Res R} (ho : OpR X (binaryOp op) T) (hf : Op2 X.K T f) (ha : PE X a (tP X.K E p)) (hb : PE X b (tP X.K E q)) : PE X (.BinOp a op b pos) (tP X.K E (p2 f p q)) :=
  (pe_op ho ha hb).imp fun σ H Q h => tP_op2 hf h
theorem s_cmp {op : CmpOp} {T : R2} {f : R → R → Res R} (ho : OpR X (compareOp op) T) (hf : Op2 X.K T f) (ha : PE X a (tP X.K E p)) (hb : PE X b (tP X.K E q)) (hm : behindInMarks op b = false) : PE X (.Compare a [op] [b] pos) (tP X.K E (p2 f p q)) :=
  (pe_cmpR ho ha hb hm).imp fun σ H Q h => tP_op2 hf h
theorem s_ix {T : R2} {f : R → R → Res R} (ho : IxR X T) (hf : Op2 X.K T f) (ha : PE X a (tP X.K E p)) (hb : PE X b (tP X.K E q)) (hs : PlainIx b := by exact fun _ _ => rfl) : PE X (.Subscript a b pos) (tP X.K E (p2 f p q)) :=
  (pe_ix ho ha hb hs).imp fun σ H Q h => tP_op2 hf h
/-- a bool as a test -/
def tVal (p : Px) : Tx := fun ρ => (p ρ).bind fun r => match r.d with
  | .bool b => .ok b
  | _ => .bad
theorem tT_val {K : PySem.W.Frag} {σ : St} {H : Hp} {Q : Bool → Hp → Prop} (h : tT K E (tVal p) σ H Q) : tP K E p σ H fun x H' => ∃ k, x = .bl k ∧ Q k H' := by
  obtain ⟨Z, O, ρ, F, r, h⟩ := h
  refine ⟨Z, O, ρ, F, r, ?_⟩
  unfold tVal at h
  cases e : p ρ with
  | bad => rw [e] at h; exact h.elim
  | exc c fs => rw [e] at h; exact h
  | ok a =>
    rw [e] at h
    obtain ⟨s, d⟩ := a
    cases d with
    | bool k =>
      intro v H' Z' O' G x g q nd f
      have lk := q.look g
      cases lk
      exact ⟨k, rfl, h H' Z' O' x g⟩
    | _ => exact h.elim
theorem s_tcmp {op : CmpOp} {T : R2} {f : R → R → Res R} (ho : OpR X (compareOp op) T) (hf : Op2 X.K T f) (ha : PE X a (tP X.K E p)) (hb : PE X b (tP X.K E q)) (hm : behindInMarks op b = false) : PT X (.Compare a [op] [b] pos) (tT X.K E (tVal (p2 f p q))) :=
  (pt_cmpR ho ha hb hm).imp fun σ H Q h => tP_op2 hf (tT_val h)
/-- truth -/
def truth : D → Option Bool
  | .none => some false
  | .bool b => some b
  | .int i => some (i != 0)
  | .str x => if x.length ≤ sizeLine then some ((x.length : Int) != 0) else none
  | .list xs => some (!xs.isEmpty)
  | .tuple xs => some (!xs.isEmpty)
  | .dict [] => some false
  | .dict ((.int _, _) :: _) => some true
  | .dict ((.str _, _) :: _) => some true
  | .dict _ => none
def tTru (p : Px) : Tx := fun ρ => (p ρ).bind fun r => match truth r.d with
  | some b => .ok b
  | none => .bad
theorem Reps.isEmpty {K : PySem.W.Frag} {C : Hp} {vs : List V} {ds : List D} (h : Reps K C vs ds) : (!vs.isEmpty) = !ds.isEmpty := by
  cases h <;> rfl
theorem truth_ok {K : PySem.W.Frag} {H : Hp} {v : V} {d : D} {b : Bool} (h : Rep K H v d) (e : truth d = some b) : TruV K v H b := by
  cases h with
  | non => exact (Option.some.inj e).symm
  | bl _ => exact (Option.some.inj e).symm
  | int _ => exact (Option.some.inj e).symm
  | str x =>
    have e2 : (if x.length ≤ sizeLine then some ((x.length : Int) != 0) else none) = some b := e
    by_cases h : x.length ≤ sizeLine
    · rw [if_pos h] at e2
      exact ⟨h, (Option.some.inj e2).symm⟩
    · rw [if_neg h] at e2
      cases e2
  | lst h r => exact .inl ⟨_, .inl (.inl h), by rw [r.isEmpty]; exact (Option.some.inj e).symm⟩
  | scr h r => cases e
  | ptr a => cases e
  | tup h r => exact .inr (.inl ⟨_, h, by rw [r.isEmpty]; exact (Option.some.inj e).symm⟩)
  | dct h k r =>
    rename_i a kvs es
    refine .inr (.inr ⟨_, h, ?_⟩)
    cases kvs with
    | nil =>
      cases es with
      | nil => exact (Option.some.inj e).symm
      | cons x xs => simp at k
    | cons y ys =>
      cases es with
      | nil => simp at k
      | cons x xs =>
        obtain ⟨k1, k2⟩ := x
        simp only [List.map_cons, List.cons.injEq] at k
        obtain ⟨k0, _⟩ := k
        obtain ⟨y1, y2⟩ := y
        subst k0
        cases y1 with
        | inl i => exact (Option.some.inj e).symm
        | inr x => exact (Option.some.inj e).symm
  | obj h c k r => cases e
theorem s_tru (ha : PE X a (tP X.K E p)) (he : ∀ whole, isTrue a X.env whole = (do let v ← whole; standAt a.pos; holding [v] (truthy v)) := by exact fun _ => rfl) : PT X a (tT X.K E (tTru p)) := by
  refine (pt_truth ha he).imp fun σ H Q h => ?_
  obtain ⟨Z, O, ρ, F, r, h⟩ := h
  refine ⟨Z, O, ρ, F, r, ?_⟩
  unfold tTru at h
  cases e : p ρ with
  | bad => rw [e] at h; exact h.elim
  | exc c fs => rw [e] at h; exact h
  | ok a =>
    rw [e] at h
    intro v H' Z' O' G x g q nd f
    have h2 : (match (match truth a.d with | some b => (Res.ok b : Res Bool) | none => .bad) with
      | .bad => False
      | .ok b => ∀ H' Z' O', Ext [] Z O H Z' O' H' → Good Z' O' H' → Q b H'
      | .exc c fs => ExcK X.K E Z O H c fs) := h
    cases z : truth a.d with
    | none => rw [z] at h2; exact h2.elim
    | some b =>
      rw [z] at h2
      exact ⟨b, truth_ok (q.look g) z, h2 H' Z' O' x g⟩
end
end Oz

namespace Oz
open PySem PySem.Spec L2
open PyProof.Rows hiding St
variable [WD]

/-! ### operations whose result is a plain value -/
def at2 (f : D → D → Option D) (a b : R) : Res R := match f a.d b.d with
  | some d => .ok ⟨.imm, d⟩
  | none => .bad
section
variable {K : PySem.W.Frag} {E : XK} {Z O H : Hp} {Q : VK} {W : List Addr}
theorem OkK.imm {d : D} (g : Good Z O H) (h : OkK K W Z O H ⟨.imm, d⟩ Q) {v : V} (r : Rep K Z v d) : Q v H := h v H Z O [] (Ext.refl _ _ _ _) g ⟨r, rfl⟩ List.nodup_nil fun a ha => by cases ha
theorem op2_at {T : R2} {f : D → D → Option D} (h : ∀ (H : Hp) (x y : V) (a b d : D) (Q : VK), Rep K H x a → Rep K H y b → f a b = some d → (∀ v, (∀ C, Rep K C v d) → Q v H) → T x y H Q) : Op2 K T (at2 f) := by
  intro E Z O H x y a b F G Q g ra rb nd fo q
  unfold at2 at q
  cases e : f a.d b.d with
  | none => rw [e] at q; exact q.elim
  | some d =>
    rw [e] at q
    exact h H x y a.d b.d d Q (ra.look g) (rb.look g) e fun v r => OkK.imm g q (r Z)
end
def i2 (f : Int → Int → Option D) : D → D → Option D := fun a b => match a, b with
  | .int i, .int j => f i j
  | _, _ => none
theorem i2_some {f : Int → Int → Option D} {a b d : D} (h : i2 f a b = some d) : ∃ i j, a = .int i ∧ b = .int j ∧ f i j = some d := by
  cases a with
  | int i => cases b with
    | int j => exact ⟨i, j, rfl, rfl, h⟩
    | _ => cases h
  | _ => cases h
abbrev fSub := i2 fun i j => some (.int (i - j))
noncomputable abbrev fMul := i2 fun i j => if gd (decide ((-(2 ^ 64) < i ∧ i < 2 ^ 64) ∨ (-(2 ^ 64) < j ∧ j < 2 ^ 64))) = true then some (.int (i * j)) else none
noncomputable abbrev fDiv := i2 fun i j => if gd (decide (0 < j ∧ j < 1073741824)) = true then some (.int (i / j)) else none
noncomputable abbrev fMod := i2 fun i j => if gd (decide (0 < j)) = true then some (.int (i % j)) else none
noncomputable abbrev fPow := i2 fun i j => if gd (decide (0 ≤ j ∧ j ≤ 1000000 ∧ i.natAbs < 2 ^ 64)) = true then some (.int (i ^ j.toNat)) else none
abbrev fLt := i2 fun i j => some (.bool (decide (i < j)))
abbrev fGt := i2 fun i j => some (.bool (decide (j < i)))
abbrev fGe := i2 fun i j => some (.bool (decide (j ≤ i)))
section
variable {K : PySem.W.Frag}
theorem op2_i {C : Int → Int → Prop} {g : Int → Int → V} {f : Int → Int → Option D} (h : ∀ i j d, f i j = some d → C i j ∧ ∀ X, Rep K X (g i j) d) : Op2 K (rI C g) (at2 (i2 f)) :=
  op2_at fun H x y a b d Q ra rb e q => by
    obtain ⟨i, j, rfl, rfl, e2⟩ := i2_some e
    cases ra
    cases rb
    obtain ⟨h1, h2⟩ := h i j d e2
    exact ⟨i, j, rfl, rfl, h1, q _ h2⟩
theorem op2_i0 {g : Int → Int → V} {f : Int → Int → Option D} (h : ∀ i j d, f i j = some d → ∀ X, Rep K X (g i j) d) : Op2 K (rI0 g) (at2 (i2 f)) :=
  op2_at fun H x y a b d Q ra rb e q => by
    obtain ⟨i, j, rfl, rfl, e2⟩ := i2_some e
    cases ra
    cases rb
    exact ⟨i, j, rfl, rfl, q _ (h i j d e2)⟩
theorem ite_some {c : Prop} [Decidable c] {x y : D} (h : (if c then some x else none) = some y) : c ∧ x = y := by
  by_cases e : c
  · rw [if_pos e] at h; exact ⟨e, Option.some.inj h⟩
  · rw [if_neg e] at h; cases h
theorem o_sub : Op2 K (rI0 fun i j => .int (i - j)) (at2 fSub) := op2_i0 fun i j d e X => Option.some.inj e ▸ .int _
theorem o_mul : Op2 K (rI CMul fun i j => .int (i * j)) (at2 fMul) := op2_i fun i j d e => ⟨by have h := gd_el (ite_some e).1; simpa [CMul, CDiv, CPow] using h, fun X => (ite_some e).2 ▸ .int _⟩
theorem o_div : Op2 K (rI CDiv fun i j => .int (i / j)) (at2 fDiv) := op2_i fun i j d e => ⟨by have h := gd_el (ite_some e).1; simpa [CMul, CDiv, CPow] using h, fun X => (ite_some e).2 ▸ .int _⟩
theorem o_mod : Op2 K (rI (fun _ j => 0 < j) fun i j => .int (i % j)) (at2 fMod) := op2_i fun i j d e => ⟨by have h := gd_el (ite_some e).1; simpa [CMul, CDiv, CPow] using h, fun X => (ite_some e).2 ▸ .int _⟩
theorem o_pow : Op2 K (rI CPow fun i j => .int (i ^ j.toNat)) (at2 fPow) := op2_i fun i j d e => ⟨by have h := gd_el (ite_some e).1; simpa [CMul, CDiv, CPow] using h, fun X => (ite_some e).2 ▸ .int _⟩
theorem o_lt : Op2 K (rI0 fun i j => .bl (decide (i < j))) (at2 fLt) := op2_i0 fun i j d e X => Option.some.inj e ▸ .bl _
theorem o_gt : Op2 K (rI0 fun i j => .bl (decide (j < i))) (at2 fGt) := op2_i0 fun i j d e X => Option.some.inj e ▸ .bl _
theorem o_ge : Op2 K (rI0 fun i j => .bl (decide (j ≤ i))) (at2 fGe) := op2_i0 fun i j d e X => Option.some.inj e ▸ .bl _
end

/-! ### new things -/
section
variable {K : PySem.W.Frag} {E : XK} {Z O H : Hp} {Q : VK} {W : List Addr}
/-- a new tuple of lasting things -/
theorem OkK.tup {ds : List D} {vs : List V} (g : Good Z O H) (h : OkK K W Z O H ⟨.imm, .tuple ds⟩ Q) (r : Reps K Z vs ds) {p : Addr} (np : H p = none) : Q (.ref p) (upd H p (.tup vs)) := by
  obtain ⟨e, g'⟩ := ext_frz (o := .tup vs) g np
  exact h _ _ _ _ [] (e.mono fun _ z => by cases z) g' ⟨.tup (.inl (.inl upd_same)) (r.mono e.z), rfl⟩ List.nodup_nil fun a ha => by cases ha
/-- a new list of lasting things, that lasts -/
theorem OkK.lstF {ds : List D} {vs : List V} (g : Good Z O H) (h : OkK K W Z O H ⟨.imm, .list ds⟩ Q) (r : Reps K Z vs ds) {p : Addr} (np : H p = none) : Q (.ref p) (upd H p (.lst vs)) := by
  obtain ⟨e, g'⟩ := ext_frz (o := .lst vs) g np
  exact h _ _ _ _ [] (e.mono fun _ z => by cases z) g' ⟨.lst upd_same (r.mono e.z), rfl⟩ List.nodup_nil fun a ha => by cases ha
/-- a new list of one's own, its items' cells at G -/
theorem OkK.lstO {ds : List D} {vs : List V} {G : List Addr} (g : Good Z O H) (h : OkK K W Z O H ⟨.own, .list ds⟩ Q) (r : Owns K Z H vs ds G) (nd : G.Nodup) (gw : ∀ a ∈ G, (H a = none ∨ a ∈ W) ∧ O a = none) {p : Addr} (np : H p = none) : Q (.ref p) (upd H p (.lst vs)) := by
  obtain ⟨e, g'⟩ := ext_new (o := .lst vs) g np rfl
  have pG : p ∉ G := fun z => by
    obtain ⟨o, q, _⟩ := r.live p z
    rw [np] at q
    cases q
  refine h _ _ _ _ (p :: G) (e.mono fun _ z => by cases z) g' (.lst upd_same (Owns.mono (Same.refl _) (fun a _ o q n => e.h.s a o q n) r)) (List.nodup_cons.mpr ⟨pG, nd⟩) fun a ha => ?_
  rcases List.mem_cons.mp ha with z | z
  · rw [z]; exact ⟨.inl np, none_of g.oh np⟩
  · exact gw a z
/-- all lists are one's own or lasting -/
def dnew (s : Sx) (ds : List D) : Res R := if lfs ds = true then .ok ⟨.own, .list ds⟩ else if s = .imm then .ok ⟨.imm, .list ds⟩ else .bad
theorem lfs_val : ∀ {ds : List D}, lfs ds = true → ds.all isVal = true
  | [], _ => rfl
  | x :: xs, h => by
    have q : (_ && _) = true := h
    obtain ⟨q1, q2⟩ := Bool.and_eq_true_iff.mp q
    rw [List.all_cons, lf_val q1, lfs_val q2]
    rfl
theorem lfs_append : ∀ (xs ys : List D), lfs (xs ++ ys) = (lfs xs && lfs ys)
  | [], ys => by simp [lfs]
  | x :: xs, ys => by simp only [List.cons_append, lfs, lfs_append xs ys, Bool.and_assoc]
theorem Reps.upD {vs : List V} {ds : List D} (g : Good Z O H) (r : Reps K H vs ds) (l : lfs ds = true) : Reps K Z vs ds := r.up g.tz l
theorem dnew_ok {s : Sx} {ds : List D} {vs : List V} (g : Good Z O H) (q : ResK K E W Z O H (dnew s ds) Q) (r : Reps K H vs ds) (rz : s = .imm → Reps K Z vs ds) {p : Addr} (np : H p = none) : Q (.ref p) (upd H p (.lst vs)) := by
  unfold dnew at q
  by_cases l : lfs ds = true
  · rw [if_pos l] at q
    exact OkK.lstO g q (.of_reps (r.upD g l) (lfs_val l)) List.nodup_nil (fun a ha => by cases ha) np
  · rw [if_neg l] at q
    by_cases e : s = .imm
    · rw [if_pos e] at q
      exact OkK.lstF g q (rz e) np
    · rw [if_neg e] at q
      exact q.elim
def tnew (s : Sx) (ds : List D) : Res R := if lfs ds = true ∨ s = .imm then .ok ⟨.imm, .tuple ds⟩ else .bad
theorem tnew_z {s : Sx} {ds : List D} {vs : List V} (g : Good Z O H) (q : ResK K E W Z O H (tnew s ds) Q) (r : Reps K H vs ds) (rz : s = .imm → Reps K Z vs ds) : Reps K Z vs ds ∧ OkK K W Z O H ⟨.imm, .tuple ds⟩ Q := by
  unfold tnew at q
  by_cases l : lfs ds = true ∨ s = .imm
  · rw [if_pos l] at q
    exact ⟨l.elim (fun l => r.upD g l) rz, q⟩
  · rw [if_neg l] at q
    exact q.elim
theorem tnew_ok {s : Sx} {ds : List D} {vs : List V} (g : Good Z O H) (q : ResK K E W Z O H (tnew s ds) Q) (r : Reps K H vs ds) (rz : s = .imm → Reps K Z vs ds) {p : Addr} (np : H p = none) : Q (.ref p) (upd H p (.tup vs)) := by
  obtain ⟨h1, h2⟩ := tnew_z g q r rz
  exact OkK.tup g h2 h1 np
/-- the place of two -/
def both (s t : Sx) : Sx := if s = .imm ∧ t = .imm then .imm else .view
theorem both_imm {s t : Sx} (h : both s t = .imm) : s = .imm ∧ t = .imm := by
  unfold both at h
  by_cases e : s = .imm ∧ t = .imm
  · exact e
  · rw [if_neg e] at h; cases h
end

/-! ### + -/
def addR (a b : R) : Res R := match a.d, b.d with
  | .int i, .int j => .ok ⟨.imm, .int (i + j)⟩
  | .str x, .str y => if x.length + y.length ≤ sizeLine then .ok ⟨.imm, .str (x ++ y)⟩ else .bad
  | .list xs, .list ys => if xs.length + ys.length ≤ sizeLine then dnew (both a.s b.s) (xs ++ ys) else .bad
  | .tuple xs, .tuple ys => if xs.length + ys.length ≤ sizeLine then tnew (both a.s b.s) (xs ++ ys) else .bad
  | _, _ => .bad
def rAdd4 (K : PySem.W.Frag) : R2 := fun x y H Q => rI0 (fun i j => .int (i + j)) x y H Q ∨ (∃ i j, x = .str i ∧ y = .str j ∧ i.length + j.length ≤ sizeLine ∧ Q (.str (i ++ j)) H) ∨ rCat x y H Q ∨ rCatA K x y H Q
theorem op_add4 {X : Cx} : OpR X (binaryOp .Add) (rAdd4 X.K) := OpR.or op_add (OpR.or op_add_str (OpR.or op_cat op_catA))
section
variable {K : PySem.W.Frag} {Z O H : Hp}
theorem RepR.zlist {v : V} {s : Sx} {ds : List D} {F : List Addr} (h : RepR K Z O H v ⟨s, .list ds⟩ F) (e : s = .imm) : ∃ p vs, v = .ref p ∧ Z p = some (.lst vs) ∧ Reps K Z vs ds := by
  subst e
  obtain ⟨h, _⟩ := h
  have h1 : Rep K Z v (.list ds) := h
  cases h1 with
  | lst hz r => exact ⟨_, _, rfl, hz, r⟩
theorem RepR.ztup {v : V} {s : Sx} {ds : List D} {F : List Addr} (h : RepR K Z O H v ⟨s, .tuple ds⟩ F) (e : s = .imm) : ∃ p vs, v = .ref p ∧ SqT K Z p vs ∧ Reps K Z vs ds := by
  subst e
  obtain ⟨h, _⟩ := h
  have h1 : Rep K Z v (.tuple ds) := h
  cases h1 with
  | tup hz r => exact ⟨_, _, rfl, hz, r⟩
end
theorem o_add {K : PySem.W.Frag} : Op2 K (rAdd4 K) addR := by
  intro E Z O H x y a b F G Q g ra rb nd fo q
  obtain ⟨s, a⟩ := a
  obtain ⟨t, b⟩ := b
  have la := ra.look g
  have lb := rb.look g
  cases a with
  | int i => cases b with
    | int j =>
      cases la
      cases lb
      exact .inl ⟨i, j, rfl, rfl, OkK.imm g q (.int _)⟩
    | _ => exact q.elim
  | str i => cases b with
    | str j =>
      cases la
      cases lb
      have q2 : ResK K E (F ++ G) Z O H (if i.length + j.length ≤ sizeLine then .ok ⟨.imm, .str (i ++ j)⟩ else .bad) Q := q
      by_cases h : i.length + j.length ≤ sizeLine
      · rw [if_pos h] at q2
        exact .inr (.inl ⟨i, j, rfl, rfl, h, OkK.imm g q2 (.str _)⟩)
      · rw [if_neg h] at q2
        exact q2.elim
    | _ => exact q.elim
  | list xs => cases b with
    | list ys =>
      have q2 : ResK K E (F ++ G) Z O H (if xs.length + ys.length ≤ sizeLine then dnew (both s t) (xs ++ ys) else .bad) Q := q
      by_cases h : xs.length + ys.length ≤ sizeLine
      · rw [if_pos h] at q2
        cases la with
        | lst ha r1 => cases lb with
          | lst hb r2 =>
            refine .inr (.inr (.inl ⟨_, _, _, _, rfl, rfl, ha, hb, by rw [r1.length, r2.length]; exact h, fun p np => dnew_ok g q2 (r1.append r2) (fun e => ?_) np⟩))
            obtain ⟨e1, e2⟩ := both_imm e
            obtain ⟨p1, v1, z1, z2, z3⟩ := ra.zlist e1
            obtain ⟨p2, v2, w1, w2, w3⟩ := rb.zlist e2
            cases z1
            cases w1
            have u1 := g.zh _ _ z2
            have u2 := g.zh _ _ w2
            rw [ha] at u1
            rw [hb] at u2
            cases u1
            cases u2
            exact z3.append w3
      · rw [if_neg h] at q2
        exact q2.elim
    | _ => exact q.elim
  | tuple xs => cases b with
    | tuple ys =>
      have q2 : ResK K E (F ++ G) Z O H (if xs.length + ys.length ≤ sizeLine then tnew (both s t) (xs ++ ys) else .bad) Q := q
      by_cases h : xs.length + ys.length ≤ sizeLine
      · rw [if_pos h] at q2
        -- the two as lasting ones
        have key : ∃ p1 p2 v1 v2, x = .ref p1 ∧ y = .ref p2 ∧ SqT K Z p1 v1 ∧ SqT K Z p2 v2 ∧ Reps K Z v1 xs ∧ Reps K Z v2 ys ∧ OkK K (F ++ G) Z O H ⟨.imm, .tuple (xs ++ ys)⟩ Q := by
          unfold tnew at q2
          by_cases l : lfs (xs ++ ys) = true ∨ both s t = .imm
          · rw [if_pos l] at q2
            rcases l with l | l
            · rw [lfs_append] at l
              obtain ⟨l1, l2⟩ := Bool.and_eq_true_iff.mp l
              cases la with
              | tup ha r1 => cases lb with
                | tup hb r2 => exact ⟨_, _, _, _, rfl, rfl, tup_in g.tz ha, tup_in g.tz hb, r1.upD g l1, r2.upD g l2, q2⟩
            · obtain ⟨e1, e2⟩ := both_imm l
              obtain ⟨p1, v1, z1, z2, z3⟩ := ra.ztup e1
              obtain ⟨p2, v2, w1, w2, w3⟩ := rb.ztup e2
              exact ⟨_, _, _, _, z1, w1, z2, w2, z3, w3, q2⟩
          · rw [if_neg l] at q2
            exact q2.elim
        obtain ⟨p1, p2, v1, v2, rfl, rfl, h1, h2, r1, r2, q3⟩ := key
        refine .inr (.inr (.inr ⟨p1, p2, v1, v2, rfl, rfl, Same.seqT g.zh h1, Same.seqT g.zh h2, by rw [r1.length, r2.length]; exact h, fun e => ?_, fun _ e => ?_, fun _ _ p np => OkK.tup g q3 (r1.append r2) np⟩))
        · subst e
          cases r1
          exact OkK.imm g q3 (.tup h2 r2)
        · subst e
          cases r2
          rw [List.append_nil] at q3
          exact OkK.imm g q3 (.tup h1 r1)
      · rw [if_neg h] at q2
        exact q2.elim
    | _ => exact q.elim
  | _ => exact q.elim

/-! ### items -/
def sub (s : Sx) (d : D) : R := if lf d = true then ⟨.imm, d⟩ else match s with
  | .own => ⟨.view, d⟩
  | .brw => ⟨.view, d⟩
  | .tab => ⟨.view, d⟩
  | s => ⟨s, d⟩
def ixR (a b : R) : Res R := match b.d with
  | .int i => (match a.d with
    | .list ds => (match atI ds i with
      | some d => .ok (sub a.s d)
      | none => .bad)
    | .tuple ds => (match atI ds i with
      | some d => .ok (sub a.s d)
      | none => .bad)
    | .dict [(.none, .list ds)] => (match atI ds i with
      | some d => .ok (sub .view d)
      | none => .bad)
    | _ => .bad)
  | _ => .bad
section
variable {K : PySem.W.Frag} {E : XK} {Z O H : Hp} {Q : VK} {W : List Addr}
theorem Reps.at {C : Hp} {vs : List V} {ds : List D} {i : Int} {d : D} (h : Reps K C vs ds) (e : atI ds i = some d) : ∃ v, atI vs i = some v ∧ Rep K C v d := by
  unfold atI at e ⊢
  rw [h.length]
  cases q : ixN ds.length i with
  | none => rw [q] at e; cases e
  | some j =>
    rw [q] at e
    exact h.get e
theorem OkK.sub {s : Sx} {d : D} {v : V} (g : Good Z O H) (h : OkK K W Z O H (Oz.sub s d) Q) (rv : Rep K H v d) (ri : s = .imm → Rep K Z v d) (ro : s = .out → Rep K O v d) : Q v H := by
  unfold Oz.sub at h
  by_cases l : lf d = true
  · rw [if_pos l] at h
    exact OkK.imm g h (rv.up g.tz l)
  · rw [if_neg l] at h
    cases s with
    | imm => exact OkK.imm g h (ri rfl)
    | out => exact h v H Z O [] (Ext.refl _ _ _ _) g ⟨ro rfl, rfl⟩ List.nodup_nil fun a ha => by cases ha
    | view => exact h v H Z O [] (Ext.refl _ _ _ _) g ⟨rv, rfl⟩ List.nodup_nil fun a ha => by cases ha
    | own => exact h v H Z O [] (Ext.refl _ _ _ _) g ⟨rv, rfl⟩ List.nodup_nil fun a ha => by cases ha
    | brw => exact h v H Z O [] (Ext.refl _ _ _ _) g ⟨rv, rfl⟩ List.nodup_nil fun a ha => by cases ha
    | tab => exact h v H Z O [] (Ext.refl _ _ _ _) g ⟨rv, rfl⟩ List.nodup_nil fun a ha => by cases ha
theorem o_ix : Op2 K (rIx K) ixR := by
  intro E Z O H x y a b F G Q g ra rb nd fo q
  obtain ⟨s, a⟩ := a
  obtain ⟨t, b⟩ := b
  have la := ra.look g
  have lb := rb.look g
  cases b with
  | int i =>
    cases lb
    cases la with
    | lst h r =>
      rename_i p xs ds
      have q2 : ResK K E (F ++ G) Z O H (match atI ds i with | some d => .ok (sub s d) | none => .bad) Q := q
      cases e : atI ds i with
      | none => rw [e] at q2; exact q2.elim
      | some d =>
        rw [e] at q2
        obtain ⟨v, hv, rv⟩ := r.at e
        refine .inl ⟨_, xs, i, v, rfl, rfl, .inl (.inl h), hv, OkK.sub g q2 rv (fun es => ?_) fun es => ?_⟩
        · obtain ⟨p1, v1, z1, z2, z3⟩ := ra.zlist es
          cases z1
          have u := g.zh _ _ z2
          rw [h] at u
          cases u
          obtain ⟨v', hv', rv'⟩ := z3.at e
          rw [hv] at hv'
          cases hv'
          exact rv'
        · subst es
          obtain ⟨h1, _⟩ := ra
          have h2 : Rep K O (.ref p) (.list ds) := h1
          cases h2 with
          | lst ho ro =>
            have u := g.oh _ _ ho
            rw [h] at u
            cases u
            obtain ⟨v', hv', rv'⟩ := ro.at e
            rw [hv] at hv'
            cases hv'
            exact rv'
    | scr h r =>
      rename_i p xs ds
      have q2 : ResK K E (F ++ G) Z O H (match atI ds i with | some d => .ok (sub .view d) | none => .bad) Q := q
      cases e : atI ds i with
      | none => rw [e] at q2; exact q2.elim
      | some d =>
        rw [e] at q2
        obtain ⟨v, hv, rv⟩ := r.at e
        exact .inl ⟨_, xs, i, v, rfl, rfl, h.sqL, hv, OkK.sub g q2 rv (fun es => by cases es) fun es => by cases es⟩
    | tup h r =>
      rename_i p xs ds
      have q2 : ResK K E (F ++ G) Z O H (match atI ds i with | some d => .ok (sub s d) | none => .bad) Q := q
      cases e : atI ds i with
      | none => rw [e] at q2; exact q2.elim
      | some d =>
        rw [e] at q2
        -- by the kind of place
        have key : ∃ xs' v, SqT K H p xs' ∧ atI xs' i = some v ∧ Rep K H v d ∧ (s = .imm → Rep K Z v d) ∧ (s = .out → Rep K O v d) := by
          by_cases es : s = .imm
          · obtain ⟨p1, v1, z1, z2, z3⟩ := ra.ztup es
            cases z1
            obtain ⟨v', hv', rv'⟩ := z3.at e
            exact ⟨v1, v', Same.seqT g.zh z2, hv', rv'.mono g.zh, fun _ => rv', fun e2 => by rw [es] at e2; cases e2⟩
          · by_cases eo : s = .out
            · subst eo
              obtain ⟨h1, _⟩ := ra
              have h2 : Rep K O (.ref p) (.tuple ds) := h1
              cases h2 with
              | tup ho ro =>
                obtain ⟨v', hv', rv'⟩ := ro.at e
                exact ⟨_, v', Same.seqT g.oh ho, hv', rv'.mono g.oh, (fun e2 => by cases e2), fun _ => rv'⟩
            · obtain ⟨v, hv, rv⟩ := r.at e
              exact ⟨xs, v, h, hv, rv, fun e2 => absurd e2 es, fun e2 => absurd e2 eo⟩
        obtain ⟨xs', v, h1, h2, h3, h4, h5⟩ := key
        exact .inr (.inl ⟨_, xs', i, v, rfl, rfl, h1, h2, OkK.sub g q2 h3 h4 h5⟩)
    | non => exact q.elim
    | bl _ => exact q.elim
    | int _ => exact q.elim
    | str _ => exact q.elim
    | dct h k r =>
      rename_i p kvs es
      cases es with
      | nil => exact q.elim
      | cons e0 es =>
        obtain ⟨k1, v1⟩ := e0
        cases kvs with
        | nil => simp at k
        | cons y ys =>
          simp only [List.map_cons, List.cons.injEq] at k
          obtain ⟨k0, _⟩ := k
          obtain ⟨y1, y2⟩ := y
          subst k0
          cases y1 with
          | inl i => exact q.elim
          | inr z => exact q.elim
    | ptr a => exact q.elim
    | obj h c k r => exact q.elim
  | _ => exact q.elim
end
end Oz

namespace Oz
open PySem PySem.Spec L2
open PyProof.Rows hiding St
variable [WD]

/-! ### == and in -/
def atomD : D → Bool
  | .none => true
  | .bool _ => true
  | .int _ => true
  | .str _ => true
  | _ => false
mutual
theorem canLay_pl : ∀ {d : D}, d.canLay0 = true → pl d = true
  | .none, _ => rfl
  | .bool _, _ => rfl
  | .int _, _ => rfl
  | .str _, _ => rfl
  | .list xs, h => by
    simp only [PyData.canLay0] at h
    simp only [pl]
    exact canLay_pls h
  | .tuple xs, h => by
    simp only [PyData.canLay0] at h
    simp only [pl]
    exact canLay_pls h
  | .dict _, h => by simp [PyData.canLay0] at h
theorem canLay_pls : ∀ {ds : List D}, PyData.canLayAll0 ds = true → pls ds = true
  | [], _ => rfl
  | x :: xs, h => by
    simp only [PyData.canLayAll0, Bool.and_eq_true] at h
    simp only [pls, Bool.and_eq_true]
    exact ⟨canLay_pl h.1, canLay_pls h.2⟩
end
def fEq (a b : D) : Option Bool := match a, b with
  | .int i, .int j => some (i == j)
  | .str x, .str y => some (x == y)
  | .str _, .none => some false
  | .none, .str _ => some false
  | .int _, .none => some false
  | .none, .int _ => some false
  | .int _, .str _ => some false
  | .str _, .int _ => some false
  | a, b => if SeqAt.shaped a = true ∧ SeqAt.shaped b = true then some (PyData.eqv a b) else none
def dBool (o : Option Bool) : Option D := o.map .bool
def dNot (o : Option Bool) : Option D := o.map fun b => .bool (!b)
abbrev eqF : D → D → Option D := fun a b => dBool (fEq a b)
abbrev neF : D → D → Option D := fun a b => dNot (fEq a b)
def rEq2 (K : PySem.W.Frag) : R2 := fun x y H Q => rEq x y H Q ∨ rEqD K x y H Q
def rNe2 (K : PySem.W.Frag) : R2 := fun x y H Q => rNe x y H Q ∨ rNeD K x y H Q
theorem op_eq2 {X : Cx} (hu : X.A.units + 64 < cLine) : OpR X (compareOp .Eq) (rEq2 X.K) := OpR.or op_eq (op_eqD hu)
theorem op_ne2 {X : Cx} (hu : X.A.units + 64 < cLine) : OpR X (compareOp .NotEq) (rNe2 X.K) := OpR.or op_ne (op_neD hu)
theorem shaped_pl {d : D} (h : SeqAt.shaped d = true) : pl d = true := canLay_pl (SeqAt.canLay_of_shaped h)
/-- what == answers: of flat values, or of data -/
theorem fEq_ok {K : PySem.W.Frag} {H : Hp} {x y : V} {a b : D} {k : Bool} (ra : Rep K H x a) (rb : Rep K H y b) (e : fEq a b = some k) :
    (scal x y = true ∧ decide (x = y) = k) ∨ (Dp K H x a ∧ Dp K H y b ∧ SeqAt.shaped a = true ∧ SeqAt.shaped b = true ∧ PyData.eqv a b = k) := by
  have deep : (if SeqAt.shaped a = true ∧ SeqAt.shaped b = true then some (PyData.eqv a b) else none) = some k → (Dp K H x a ∧ Dp K H y b ∧ SeqAt.shaped a = true ∧ SeqAt.shaped b = true ∧ PyData.eqv a b = k) := fun e => by
    by_cases h : SeqAt.shaped a = true ∧ SeqAt.shaped b = true
    · rw [if_pos h] at e
      exact ⟨ra.dp (shaped_pl h.1), rb.dp (shaped_pl h.2), h.1, h.2, Option.some.inj e⟩
    · rw [if_neg h] at e
      cases e
  cases ra with
  | int i => cases rb with
    | int j => exact .inl ⟨rfl, by rw [dec_int]; exact Option.some.inj e⟩
    | str j => exact .inl ⟨rfl, by rw [decide_eq_false (by intro h; cases h)]; exact Option.some.inj e⟩
    | non => exact .inl ⟨rfl, by rw [decide_eq_false (by intro h; cases h)]; exact Option.some.inj e⟩
    | _ => exact .inr (deep e)
  | str i => cases rb with
    | str j => exact .inl ⟨rfl, by rw [dec_str]; exact Option.some.inj e⟩
    | int j => exact .inl ⟨rfl, by rw [decide_eq_false (by intro h; cases h)]; exact Option.some.inj e⟩
    | non => exact .inl ⟨rfl, by rw [decide_eq_false (by intro h; cases h)]; exact Option.some.inj e⟩
    | _ => exact .inr (deep e)
  | non => cases rb with
    | int j => exact .inl ⟨rfl, by rw [decide_eq_false (by intro h; cases h)]; exact Option.some.inj e⟩
    | str j => exact .inl ⟨rfl, by rw [decide_eq_false (by intro h; cases h)]; exact Option.some.inj e⟩
    | _ => exact .inr (deep e)
  | _ => exact .inr (deep (by cases rb <;> exact e))
section
variable {K : PySem.W.Frag}
theorem o_eq : Op2 K (rEq2 K) (at2 eqF) := op2_at fun H x y a b d Q ra rb e q => by
  cases h : fEq a b with
  | none => simp [eqF, dBool, h] at e
  | some k =>
    have e2 : PyData.bool k = d := by simpa [eqF, dBool, h] using e
    subst e2
    rcases fEq_ok ra rb h with ⟨h1, h2⟩ | ⟨h1, h2, h3, h4, h5⟩
    · exact .inl ⟨h1, by rw [h2]; exact q _ fun _ => .bl _⟩
    · exact .inr ⟨a, b, h1, h2, h3, h4, by rw [h5]; exact q _ fun _ => .bl _⟩
theorem o_ne : Op2 K (rNe2 K) (at2 neF) := op2_at fun H x y a b d Q ra rb e q => by
  cases h : fEq a b with
  | none => simp [neF, dNot, h] at e
  | some k =>
    have e2 : PyData.bool (!k) = d := by simpa [neF, dNot, h] using e
    subst e2
    rcases fEq_ok ra rb h with ⟨h1, h2⟩ | ⟨h1, h2, h3, h4, h5⟩
    · exact .inl ⟨h1, by rw [h2]; exact q _ fun _ => .bl _⟩
    · exact .inr ⟨a, b, h1, h2, h3, h4, by rw [h5]; exact q _ fun _ => .bl _⟩
end
/-- items of a row -/
def itemsD : D → Option (List D)
  | .list ds => some ds
  | .tuple ds => some ds
  | _ => none
def fIn (a b : D) : Option Bool := match itemsD b with
  | some ds => if atomD a = true ∧ ds.all atomD = true then some (ds.any fun z => PyData.eqv z a) else if SeqAt.shaped a = true ∧ SeqAt.shaped b = true then some (ds.any fun z => PyData.eqv z a) else none
  | none => none
abbrev inF : D → D → Option D := fun a b => dBool (fIn a b)
abbrev ninF : D → D → Option D := fun a b => dNot (fIn a b)
def rInT (K : PySem.W.Frag) (neg : Bool) : R2 := fun x y H Q => ∃ d ds, Dp K H x d ∧ Dp K H y (.tuple ds) ∧ SeqAt.shaped d = true ∧ SeqAt.shaped (.tuple ds) = true ∧ Q (.bl (if neg then !(ds.any fun z => PyData.eqv z d) else ds.any fun z => PyData.eqv z d)) H
section
variable {X : Cx}
theorem op_inT (hu : X.A.units + 65 < cLine) : OpR X (compareOp .In) (rInT X.K false) := by
  intro pins s σ H x y v u Q I rx ry h
  obtain ⟨d, ds, hd, he, sd, se, q⟩ := h
  obtain ⟨as, r1⟩ := Dp.reads I d x v hd rx
  obtain ⟨bs, r2⟩ := Dp.reads I (.tuple ds) y u he ry
  exact SeqAt.in_tuple_reads r2 r1 (SeqAt.canLay_of_shaped se) (SeqAt.canLay_of_shaped sd) (room_in_shaped (xs := ds) sd hu) ⟨.bl _, H, I, rfl, q⟩
theorem op_notInT (hu : X.A.units + 65 < cLine) : OpR X (compareOp .NotIn) (rInT X.K true) := by
  intro pins s σ H x y v u Q I rx ry h
  obtain ⟨d, ds, hd, he, sd, se, q⟩ := h
  obtain ⟨as, r1⟩ := Dp.reads I d x v hd rx
  obtain ⟨bs, r2⟩ := Dp.reads I (.tuple ds) y u he ry
  exact SeqAt.notIn_tuple_reads r2 r1 (SeqAt.canLay_of_shaped se) (SeqAt.canLay_of_shaped sd) (room_in_shaped (xs := ds) sd hu) ⟨.bl _, H, I, rfl, q⟩
end
def rIn3 (K : PySem.W.Frag) : R2 := fun x y H Q => rIn K false x y H Q ∨ rInD K x y H Q ∨ rInT K false x y H Q
def rNin3 (K : PySem.W.Frag) : R2 := fun x y H Q => rIn K true x y H Q ∨ rNotInD K x y H Q ∨ rInT K true x y H Q
theorem op_in3 {X : Cx} (hu : X.A.units + 65 < cLine) : OpR X (compareOp .In) (rIn3 X.K) := OpR.or op_in_seq (OpR.or (op_inD hu) (op_inT hu))
theorem op_nin3 {X : Cx} (hu : X.A.units + 65 < cLine) : OpR X (compareOp .NotIn) (rNin3 X.K) := OpR.or op_notIn_seq (OpR.or (op_notInD hu) (op_notInT hu))
section
variable {K : PySem.W.Frag} {H : Hp}
theorem atom_flat {v : V} {d : D} (r : Rep K H v d) (h : atomD d = true) : flatV v = true := by
  cases r <;> first | rfl | cases h
theorem atom_eqv {v w : V} {d e : D} (r : Rep K H v d) (r2 : Rep K H w e) (h : atomD d = true) (h2 : atomD e = true) : eqV v w = PyData.eqv d e := by
  cases r <;> first | (cases h; done) | (cases r2 <;> first | (cases h2; done) | simp [eqV, PyData.eqv])
theorem atoms_in {x : V} {a : D} (rx : Rep K H x a) (hx : atomD a = true) : ∀ {vs : List V} {ds : List D}, Reps K H vs ds → ds.all atomD = true → vs.all flatV = true ∧ inV x vs = ds.any fun z => PyData.eqv z a
  | _, _, .nil, _ => ⟨rfl, rfl⟩
  | _, _, .cons r s, h => by
    rw [List.all_cons] at h
    obtain ⟨h1, h2⟩ := Bool.and_eq_true_iff.mp h
    obtain ⟨i1, i2⟩ := atoms_in rx hx s h2
    refine ⟨by rw [List.all_cons, atom_flat r h1, i1]; rfl, ?_⟩
    unfold inV at i2 ⊢
    rw [List.any_cons, List.any_cons, i2, atom_eqv r rx h1 hx]
theorem items_ok {y : V} {b : D} {ds : List D} (r : Rep K H y b) (e : itemsD b = some ds) : ∃ p vs, y = .ref p ∧ (SqL K H p vs ∨ SqT K H p vs) ∧ Reps K H vs ds := by
  cases r with
  | lst h r => cases e; exact ⟨_, _, rfl, .inl (.inl (.inl h)), r⟩
  | tup h r => cases e; exact ⟨_, _, rfl, .inr h, r⟩
  | _ => cases e
theorem items_kind {b : D} {ds : List D} (e : itemsD b = some ds) : b = .list ds ∨ b = .tuple ds := by
  cases b with
  | list xs => cases e; exact .inl rfl
  | tuple xs => cases e; exact .inr rfl
  | _ => cases e
theorem fIn_ok {x y : V} {a b : D} {k : Bool} (ra : Rep K H x a) (rb : Rep K H y b) (e : fIn a b = some k) :
    (∃ p xs, y = .ref p ∧ (SqL K H p xs ∨ SqT K H p xs) ∧ flatV x = true ∧ xs.all flatV = true ∧ inV x xs = k) ∨
      (∃ ds, Dp K H x a ∧ Dp K H y b ∧ (b = .list ds ∨ b = .tuple ds) ∧ SeqAt.shaped a = true ∧ SeqAt.shaped b = true ∧ (ds.any fun z => PyData.eqv z a) = k) := by
  unfold fIn at e
  cases h : itemsD b with
  | none => rw [h] at e; cases e
  | some ds =>
    rw [h] at e
    have e2 : (if atomD a = true ∧ ds.all atomD = true then some (ds.any fun z => PyData.eqv z a) else if SeqAt.shaped a = true ∧ SeqAt.shaped b = true then some (ds.any fun z => PyData.eqv z a) else none) = some k := e
    by_cases h1 : atomD a = true ∧ ds.all atomD = true
    · rw [if_pos h1] at e2
      obtain ⟨p, vs, h3, h4, h5⟩ := items_ok rb h
      obtain ⟨i1, i2⟩ := atoms_in ra h1.1 h5 h1.2
      exact .inl ⟨p, vs, h3, h4, atom_flat ra h1.1, i1, i2.trans (Option.some.inj e2)⟩
    · rw [if_neg h1] at e2
      by_cases h2 : SeqAt.shaped a = true ∧ SeqAt.shaped b = true
      · rw [if_pos h2] at e2
        exact .inr ⟨ds, ra.dp (shaped_pl h2.1), rb.dp (shaped_pl h2.2), items_kind h, h2.1, h2.2, Option.some.inj e2⟩
      · rw [if_neg h2] at e2
        cases e2
theorem o_in : Op2 K (rIn3 K) (at2 inF) := op2_at fun H x y a b d Q ra rb e q => by
  cases h : fIn a b with
  | none => simp [inF, dBool, h] at e
  | some k =>
    have e2 : PyData.bool k = d := by simpa [inF, dBool, h] using e
    subst e2
    rcases fIn_ok ra rb h with ⟨p, xs, h1, h2, h3, h4, h5⟩ | ⟨ds, h1, h2, h3, h4, h5, h6⟩
    · exact .inl ⟨p, xs, h1, h2, h3, h4, by rw [if_neg Bool.false_ne_true, h5]; exact q _ fun _ => .bl _⟩
    · rcases h3 with rfl | rfl
      · exact .inr (.inl ⟨a, ds, h1, h2, h4, h5, by rw [h6]; exact q _ fun _ => .bl _⟩)
      · exact .inr (.inr ⟨a, ds, h1, h2, h4, h5, by rw [if_neg Bool.false_ne_true, h6]; exact q _ fun _ => .bl _⟩)
theorem o_nin : Op2 K (rNin3 K) (at2 ninF) := op2_at fun H x y a b d Q ra rb e q => by
  cases h : fIn a b with
  | none => simp [ninF, dNot, h] at e
  | some k =>
    have e2 : PyData.bool (!k) = d := by simpa [ninF, dNot, h] using e
    subst e2
    rcases fIn_ok ra rb h with ⟨p, xs, h1, h2, h3, h4, h5⟩ | ⟨ds, h1, h2, h3, h4, h5, h6⟩
    · exact .inl ⟨p, xs, h1, h2, h3, h4, by rw [if_pos rfl, h5]; exact q _ fun _ => .bl _⟩
    · rcases h3 with rfl | rfl
      · exact .inr (.inl ⟨a, ds, h1, h2, h4, h5, by rw [h6]; exact q _ fun _ => .bl _⟩)
      · exact .inr (.inr ⟨a, ds, h1, h2, h4, h5, by rw [if_pos rfl, h6]; exact q _ fun _ => .bl _⟩)
end
/-- is None -/
def isNon : D → Bool
  | .none => true
  | _ => false
def isF (a b : D) : Option D := match b with
  | .none => some (.bool (isNon a))
  | _ => none
def isnF (a b : D) : Option D := match b with
  | .none => some (.bool (!isNon a))
  | _ => none
/-! ### and, or, not, if -/
def pAnd (p q : Px) : Px := fun ρ => (p ρ).bind fun r => match truth r.d with
  | some true => q ρ
  | some false => .ok r
  | none => .bad
def pOr (p q : Px) : Px := fun ρ => (p ρ).bind fun r => match truth r.d with
  | some true => .ok r
  | some false => q ρ
  | none => .bad
def pNot (p : Px) : Px := fun ρ => (p ρ).bind fun r => match truth r.d with
  | some b => .ok ⟨.imm, .bool (!b)⟩
  | none => .bad
def pIf (t : Tx) (p q : Px) : Px := fun ρ => (t ρ).bind fun b => if b = true then p ρ else q ρ
def tAndD (t u : Tx) : Tx := fun ρ => (t ρ).bind fun b => if b = true then u ρ else .ok false
def tOrD (t u : Tx) : Tx := fun ρ => (t ρ).bind fun b => if b = true then .ok true else u ρ
def tNotD (t : Tx) : Tx := fun ρ => (t ρ).bind fun b => .ok (!b)
section
variable {K : PySem.W.Frag} {E : XK} {Z O H Z1 O1 H1 : Hp} {σ : St} {ρ : Ev} {F : List Addr} {Q : VK}
/-- go on in the state behind -/
theorem tP_go {p : Px} (r : Rel K Z O H σ ρ F) (e : Ext [] Z O H Z1 O1 H1) (r1 : Rel K Z1 O1 H1 σ ρ F) (q : ResK K E [] Z O H (p ρ) Q) : tP K E p σ H1 Q :=
  ⟨Z1, O1, ρ, F, r1, q.ext e fun a ha => by cases ha⟩
theorem pIf_ok {t : Tx} {p q : Px} (h : tP K E (pIf t p q) σ H Q) : tIf (tT K E t) (tP K E p) (tP K E q) σ H Q := by
  obtain ⟨Z, O, ρ, F, r, h⟩ := h
  refine ⟨Z, O, ρ, F, r, ?_⟩
  unfold pIf at h
  cases e : t ρ with
  | bad => rw [e] at h; exact h.elim
  | exc c fs => rw [e] at h; exact h
  | ok b =>
    rw [e] at h
    intro H1 Z1 O1 x1 g1
    cases b with
    | true =>
      have h2 : ResK K E [] Z O H (p ρ) Q := h
      exact tP_go r x1 (r.ext x1 g1) h2
    | false =>
      have h2 : ResK K E [] Z O H (q ρ) Q := h
      exact tP_go r x1 (r.ext x1 g1) h2
theorem tT_go {t : Tx} {Q : Bool → Hp → Prop} (e : Ext [] Z O H Z1 O1 H1) (r1 : Rel K Z1 O1 H1 σ ρ F) (q : match t ρ with
      | .bad => False
      | .ok b => ∀ H' Z' O', Ext [] Z O H Z' O' H' → Good Z' O' H' → Q b H'
      | .exc c fs => ExcK K E Z O H c fs) : tT K E t σ H1 Q := by
  refine ⟨Z1, O1, ρ, F, r1, ?_⟩
  cases z : t ρ with
  | bad => rw [z] at q; exact q.elim
  | exc c fs => rw [z] at q; exact ExcK.ext q e
  | ok b => rw [z] at q; exact fun H' Z' O' x g => q H' Z' O' (e.trans0 x) g
theorem tAnd_ok {t u : Tx} {Q : Bool → Hp → Prop} (h : tT K E (tAndD t u) σ H Q) : tAnd (tT K E t) (tT K E u) σ H Q := by
  obtain ⟨Z, O, ρ, F, r, h⟩ := h
  refine ⟨Z, O, ρ, F, r, ?_⟩
  unfold tAndD at h
  cases e : t ρ with
  | bad => rw [e] at h; exact h.elim
  | exc c fs => rw [e] at h; exact h
  | ok b =>
    rw [e] at h
    intro H1 Z1 O1 x1 g1
    cases b with
    | true => exact tT_go x1 (r.ext x1 g1) h
    | false => exact h H1 Z1 O1 x1 g1
theorem tOr_ok {t u : Tx} {Q : Bool → Hp → Prop} (h : tT K E (tOrD t u) σ H Q) : tOr (tT K E t) (tT K E u) σ H Q := by
  obtain ⟨Z, O, ρ, F, r, h⟩ := h
  refine ⟨Z, O, ρ, F, r, ?_⟩
  unfold tOrD at h
  cases e : t ρ with
  | bad => rw [e] at h; exact h.elim
  | exc c fs => rw [e] at h; exact h
  | ok b =>
    rw [e] at h
    intro H1 Z1 O1 x1 g1
    cases b with
    | false => exact tT_go x1 (r.ext x1 g1) h
    | true => exact h H1 Z1 O1 x1 g1
theorem tNot_ok {t : Tx} {Q : Bool → Hp → Prop} (h : tT K E (tNotD t) σ H Q) : tNot (tT K E t) σ H Q := by
  obtain ⟨Z, O, ρ, F, r, h⟩ := h
  refine ⟨Z, O, ρ, F, r, ?_⟩
  unfold tNotD at h
  cases e : t ρ with
  | bad => rw [e] at h; exact h.elim
  | exc c fs => rw [e] at h; exact h
  | ok b =>
    rw [e] at h
    exact fun H1 Z1 O1 x1 g1 => h H1 Z1 O1 x1 g1
end
section
variable {X : Cx} {E : XK} {a b c : Expr} {rest : List Expr} {p q : Px} {t u : Tx} {pos : Pos}
theorem s_if (hc : PT X c (tT X.K E t)) (ha : PE X a (tP X.K E p)) (hb : PE X b (tP X.K E q)) : PE X (.IfExp c a b pos) (tP X.K E (pIf t p q)) := (pe_ifExp hc ha hb).imp fun _ _ _ h => pIf_ok h
theorem s_tand1 (ha : PT X a (tT X.K E t)) : PW X (.BoolOp .And [a] pos) (tT X.K E t) := pw_and1 ha
theorem s_tor1 (ha : PT X a (tT X.K E t)) : PW X (.BoolOp .Or [a] pos) (tT X.K E t) := pw_or1 ha
theorem s_tand (ha : PT X a (tT X.K E t)) (hb : PW X (.BoolOp .And (b :: rest) pos) (tT X.K E u)) : PW X (.BoolOp .And (a :: b :: rest) pos) (tT X.K E (tAndD t u)) := (pw_and ha hb).imp fun _ _ _ h => tAnd_ok h
theorem s_tor (ha : PT X a (tT X.K E t)) (hb : PW X (.BoolOp .Or (b :: rest) pos) (tT X.K E u)) : PW X (.BoolOp .Or (a :: b :: rest) pos) (tT X.K E (tOrD t u)) := (pw_or ha hb).imp fun _ _ _ h => tOr_ok h
theorem s_tnot (ha : PT X a (tT X.K E t)) : PT X (.UnaryOp .Not a pos) (tT X.K E (tNotD t)) := (pt_not ha).imp fun _ _ _ h => tNot_ok h
end

/-! ### arguments, displays -/
section
variable {X : Cx} {E : XK} {e : Expr} {es : List Expr} {p : Px} {ps : List Px} {pos : Pos}
theorem s_anil : PA X [] (tA X.K E []) := by
  refine pa_nil.imp fun σ H Q h => ?_
  obtain ⟨Z, O, ρ, F, r, h⟩ := h
  have h2 : OksK X.K Z O H [] Q := h
  exact h2 [] H Z O [] (Ext.refl _ _ _ _) r.g .nil List.nodup_nil fun a ha => by cases ha
theorem s_acons (ha : PE X e (tP X.K E p)) (hr : PA X es (tA X.K E ps)) (hs : starEach (e :: es) X.env = (false, eval e X.env) :: starEach es X.env := by rfl) : PA X (e :: es) (tA X.K E (p :: ps)) := by
  refine (pa_cons ha hr hs).imp fun σ H Q h => ?_
  obtain ⟨Z, O, ρ, F, r, h⟩ := h
  refine ⟨Z, O, ρ, F, r, ?_⟩
  have h1 : match ((p ρ).bind fun r => (evs ps ρ).bind fun rs => (Res.ok (r :: rs) : Res (List R))) with
    | .bad => False
    | .ok rs => OksK X.K Z O H rs Q
    | .exc c fs => ExcK X.K E Z O H c fs := h
  cases z : p ρ with
  | bad => rw [z] at h1; exact h1.elim
  | exc c fs => rw [z] at h1; exact h1
  | ok a =>
    rw [z] at h1
    intro v H1 Z1 O1 G x1 g1 q1 nd fr
    refine ⟨Z1, O1, ρ, F, r.ext x1 g1, ?_⟩
    cases y : evs ps ρ with
    | bad => rw [y] at h1; exact h1.elim
    | exc c fs => rw [y] at h1; exact ExcK.ext h1 x1
    | ok rs =>
      rw [y] at h1
      intro vs H2 Z2 O2 G2 x2 g2 q2 nd2 fr2
      have h2 : OksK X.K Z O H (a :: rs) Q := h1
      refine h2 (v :: vs) H2 Z2 O2 (G ++ G2) (x1.trans0 x2) g2 (.cons (q1.ext x2) q2) (nodup_fresh nd nd2 (fun c hc => let ⟨o, z, _⟩ := q1.live c hc; ⟨o, z⟩) fun c hc => (fr2 c hc).1) fun c hc => ?_
      rcases List.mem_append.mp hc with hc | hc
      · refine ⟨(fr c hc).1.elim id (fun z => by cases z), ?_⟩
        cases z : O2 c with
        | none => rfl
        | some o =>
          obtain ⟨o1, w1, _⟩ := q1.live c hc
          rcases x2.on c (by rw [z]; simp) with y | y | y
          · exact absurd (fr c hc).2 y
          · rw [w1] at y; cases y
          · cases y
      · exact ⟨x1.h.free (fr2 c hc).1, (fr2 c hc).2⟩
end
/-- the items of a tuple's display: lasting; of one's own, they last from now on -/
def frzR (r : R) : Option D := match r.s with
  | .imm => some r.d
  | _ => if lf r.d = true then some r.d else none
def frzs : List R → Option (List D)
  | [] => some []
  | r :: rs => match frzR r, frzs rs with
    | some d, some ds => some (d :: ds)
    | _, _ => none
section
variable {K : PySem.W.Frag} {Z O H : Hp}
theorem frzR_ok {v : V} {r : R} {G : List Addr} {d : D} (g : Good Z O H) (q : RepR K Z O H v r G) (e : frzR r = some d) : Rep K Z v d := by
  obtain ⟨s, x⟩ := r
  have lk := q.look g
  cases s with
  | imm => cases e; exact q.1
  | out => obtain ⟨l, rfl⟩ := ite_some (c := lf x = true) e; exact lk.up g.tz l
  | view => obtain ⟨l, rfl⟩ := ite_some (c := lf x = true) e; exact lk.up g.tz l
  | own => obtain ⟨l, rfl⟩ := ite_some (c := lf x = true) e; exact lk.up g.tz l
  | brw => obtain ⟨l, rfl⟩ := ite_some (c := lf x = true) e; exact lk.up g.tz l
  | tab => exact (show False from q).elim
theorem frzs_ok (g : Good Z O H) : ∀ {vs : List V} {rs : List R} {G : List Addr} {ds : List D}, RepRs K Z O H vs rs G → frzs rs = some ds → Reps K Z vs ds
  | _, _, _, _, .nil, e => by cases e; exact .nil
  | _, _, _, ds, .cons (r := r) (rs := rs) q s, e => by
    unfold frzs at e
    cases h1 : frzR r with
    | none => rw [h1] at e; cases e
    | some d =>
      rw [h1] at e
      cases h2 : frzs rs with
      | none => rw [h2] at e; cases e
      | some ds' =>
        rw [h2] at e
        cases e
        exact .cons (frzR_ok g q h1) (frzs_ok g s h2)
/-- the items of a list of one's own -/
def ownR (r : R) : Option D := match r.s with
  | .own => some r.d
  | _ => if lf r.d = true then some r.d else if r.s = .imm ∧ isVal r.d = true then some r.d else none
def owns : List R → Option (List D)
  | [] => some []
  | r :: rs => match ownR r, owns rs with
    | some d, some ds => some (d :: ds)
    | _, _ => none
theorem ownR_ok {v : V} {r : R} {G : List Addr} {d : D} (g : Good Z O H) (q : RepR K Z O H v r G) (e : ownR r = some d) : ∃ G', Own K Z H v d G' ∧ (G' = G ∨ G' = []) := by
  obtain ⟨s, x⟩ := r
  have lk := q.look g
  have easy : ∀ {y : Option D}, (if lf x = true then some x else if s = .imm ∧ isVal x = true then some x else none) = some d → ∃ G', Own K Z H v d G' ∧ (G' = G ∨ G' = []) := fun h => by
    by_cases l : lf x = true
    · rw [if_pos l] at h
      cases h
      exact ⟨[], .imm (lk.up g.tz l) (lf_val l), .inr rfl⟩
    · rw [if_neg l] at h
      by_cases l2 : s = .imm ∧ isVal x = true
      · rw [if_pos l2] at h
        cases h
        obtain ⟨e1, e2⟩ := l2
        subst e1
        exact ⟨[], .imm q.1 e2, .inr rfl⟩
      · rw [if_neg l2] at h
        cases h
  cases s with
  | own => cases e; exact ⟨G, q, .inl rfl⟩
  | imm => exact easy (y := none) e
  | out => exact easy (y := none) e
  | view => exact easy (y := none) e
  | brw => exact easy (y := none) e
  | tab => exact easy (y := none) e
theorem owns_ok (g : Good Z O H) : ∀ {vs : List V} {rs : List R} {G : List Addr} {ds : List D}, RepRs K Z O H vs rs G → owns rs = some ds → G.Nodup → ∃ G', Owns K Z H vs ds G' ∧ G'.Nodup ∧ ∀ a ∈ G', a ∈ G
  | _, _, _, _, .nil, e, _ => by cases e; exact ⟨[], .nil, List.nodup_nil, fun _ h => h⟩
  | _, _, _, ds, .cons (r := r) (rs := rs) (F := F) (G := G) q s, e, nd => by
    unfold owns at e
    cases h1 : ownR r with
    | none => rw [h1] at e; cases e
    | some d =>
      rw [h1] at e
      cases h2 : owns rs with
      | none => rw [h2] at e; cases e
      | some ds' =>
        rw [h2] at e
        cases e
        obtain ⟨n1, n2, n3⟩ := List.nodup_append.mp nd
        obtain ⟨F', o1, c1⟩ := ownR_ok g q h1
        obtain ⟨G', o2, m2, s2⟩ := owns_ok g s h2 n2
        have sF : ∀ a ∈ F', a ∈ F := fun a ha => by
          rcases c1 with e | e
          · rw [e] at ha; exact ha
          · rw [e] at ha; cases ha
        refine ⟨F' ++ G', .cons o1 o2, ?_, fun a ha => ?_⟩
        · refine List.nodup_append.mpr ⟨?_, m2, fun a ha b hb => n3 a (sF a ha) b (s2 b hb)⟩
          rcases c1 with e | e
          · rw [e]; exact n1
          · rw [e]; exact List.nodup_nil
        · rcases List.mem_append.mp ha with ha | ha
          · exact List.mem_append_left _ (sF a ha)
          · exact List.mem_append_right _ (s2 a ha)
end
def pTup (ps : List Px) : Px := fun ρ => (evs ps ρ).bind fun rs => match frzs rs with
  | some ds => if ds.length ≤ sizeLine then .ok ⟨.imm, .tuple ds⟩ else .bad
  | none => .bad
def pLst (ps : List Px) : Px := fun ρ => (evs ps ρ).bind fun rs => match owns rs with
  | some ds => if ds.length ≤ sizeLine then .ok ⟨.own, .list ds⟩ else .bad
  | none => .bad
section
variable {X : Cx} {E : XK} {es : List Expr} {ps : List Px} {pos : Pos}
theorem tA_bind {K : PySem.W.Frag} {E : XK} {ps : List Px} {k : List R → Res R} {σ : St} {H : Hp} {Q : VK} {T : List V → Hp → Prop} (h : tP K E (fun ρ => (evs ps ρ).bind k) σ H Q)
    (next : ∀ (Z O H1 : Hp) (G : List Addr) (vs : List V) (rs : List R), Good Z O H1 → RepRs K Z O H1 vs rs G → G.Nodup → (∀ c ∈ G, O c = none) → ResK K E G Z O H1 (k rs) Q → Tabs K H1 → T vs H1) : tA K E ps σ H T := by
  obtain ⟨Z, O, ρ, F, r, h⟩ := h
  refine ⟨Z, O, ρ, F, r, ?_⟩
  have h1 : ResK K E [] Z O H ((evs ps ρ).bind k) Q := h
  cases e : evs ps ρ with
  | bad => rw [e] at h1; exact h1.elim
  | exc c fs => rw [e] at h1; exact h1
  | ok rs =>
    rw [e] at h1
    intro vs H1 Z1 O1 G x1 g1 q1 nd fr
    exact next Z1 O1 H1 G vs rs g1 q1 nd (fun c hc => (fr c hc).2) (ResK.ext h1 x1 fun c hc => (fr c hc).1) (r.tb.ext x1.h)
theorem s_tup {x1} (h : PA X es (tA X.K E ps)) : PE X (.Tuple es x1 pos) (tP X.K E (pTup ps)) := by
  refine (pe_tup h).imp fun σ H Q h => ?_
  refine tA_bind h fun Z O H1 G vs rs g q nd fo h2 tb => ?_
  cases e : frzs rs with
  | none => rw [e] at h2; exact h2.elim
  | some ds =>
    rw [e] at h2
    have h3 : ResK X.K E G Z O H1 (if ds.length ≤ sizeLine then .ok ⟨.imm, .tuple ds⟩ else .bad) Q := h2
    have rz := frzs_ok g q e
    by_cases l : ds.length ≤ sizeLine
    · rw [if_pos l] at h3
      exact ⟨by rw [rz.length]; exact l, fun p np => OkK.tup g h3 rz np⟩
    · rw [if_neg l] at h3
      exact h3.elim
theorem s_lst (h : PA X es (tA X.K E ps)) : PE X (.List es pos) (tP X.K E (pLst ps)) := by
  refine (pe_lst h).imp fun σ H Q h => ?_
  refine tA_bind h fun Z O H1 G vs rs g q nd fo h2 tb => ?_
  cases e : owns rs with
  | none => rw [e] at h2; exact h2.elim
  | some ds =>
    rw [e] at h2
    have h3 : ResK X.K E G Z O H1 (if ds.length ≤ sizeLine then .ok ⟨.own, .list ds⟩ else .bad) Q := h2
    obtain ⟨G', ro, n', s'⟩ := owns_ok g q e nd
    by_cases l : ds.length ≤ sizeLine
    · rw [if_pos l] at h3
      exact ⟨by rw [ro.length]; exact l, fun p np => OkK.lstO g h3 ro n' (fun a ha => ⟨.inr (s' a ha), fo a (s' a ha)⟩) np⟩
    · rw [if_neg l] at h3
      exact h3.elim
end
end Oz

namespace Oz
open PySem PySem.Spec L2
open PyProof.Rows hiding St
variable [WD]

/-! ### what a def promises -/
inductive Md where
  | i | v | m
  deriving DecidableEq
inductive FR where
  | bad
  | ok (r : R) (ms : List D)
  | exc (c : Str) (fs : List (Str × D)) (ms : List D)
abbrev Fn := List D → FR
def noTb : Option HO → Option HO
  | some (.tbl _) => none
  | o => o
theorem noTb_some {x : Option HO} {o : HO} (h : noTb x = some o) : x = some o ∧ ∀ ps, o ≠ .tbl ps := by
  cases x with
  | none => cases h
  | some y => cases y <;> first | (cases h; done) | (cases h; exact ⟨rfl, nofun⟩)
theorem noTb_of {o : HO} (h : ∀ ps, o ≠ .tbl ps) : noTb (some o) = some o := by
  cases o <;> first | rfl | exact absurd rfl (h _)
def without (H : Hp) (F : List Addr) : Hp := fun a => if a ∈ F then none else noTb (H a)
theorem without_some {H : Hp} {F : List Addr} {a : Addr} {o : HO} (h : without H F a = some o) : H a = some o ∧ a ∉ F := by
  unfold without at h
  by_cases e : a ∈ F
  · rw [if_pos e] at h; cases h
  · rw [if_neg e] at h; exact ⟨(noTb_some h).1, e⟩
theorem without_noT (H : Hp) (F : List Addr) : NoT (without H F) := fun a ps h => by
  unfold without at h
  by_cases e : a ∈ F
  · rw [if_pos e] at h; cases h
  · rw [if_neg e] at h; exact (noTb_some h).2 ps rfl
theorem without_sameN (H : Hp) : SameN H (without H []) := fun b o h n => by
  unfold without
  rw [if_neg (by simp), h]
  exact noTb_of n
inductive Args (K : PySem.W.Frag) (Z Hv H : Hp) : List Md → List V → List D → List Addr → Prop
  | nil : Args K Z Hv H [] [] [] []
  | i {md : List Md} {v : V} {vs : List V} {d : D} {ds : List D} {F : List Addr} : Rep K Z v d → Args K Z Hv H md vs ds F → Args K Z Hv H (.i :: md) (v :: vs) (d :: ds) F
  | v {md : List Md} {v : V} {vs : List V} {d : D} {ds : List D} {F : List Addr} : Rep K Hv v d → Args K Z Hv H md vs ds F → Args K Z Hv H (.v :: md) (v :: vs) (d :: ds) F
  | m {md : List Md} {v : V} {vs : List V} {d : D} {ds : List D} {F G : List Addr} : Own K Z H v d F → Args K Z Hv H md vs ds G → Args K Z Hv H (.m :: md) (v :: vs) (d :: ds) (F ++ G)
theorem Args.monoV {K : PySem.W.Frag} {Z Hv Hv' H : Hp} (e : SameN Hv Hv') : ∀ {md : List Md} {vs : List V} {ds : List D} {F : List Addr}, Args K Z Hv H md vs ds F → Args K Z Hv' H md vs ds F
  | _, _, _, _, .nil => .nil
  | _, _, _, _, .i r s => .i r (Args.monoV e s)
  | _, _, _, _, .v r s => .v (r.monoN e) (Args.monoV e s)
  | _, _, _, _, .m q s => .m q (Args.monoV e s)
inductive Outs (K : PySem.W.Frag) (Z H : Hp) : List Md → List V → List D → List Addr → Prop
  | nil : Outs K Z H [] [] [] []
  | i {md : List Md} {v : V} {vs : List V} {ds : List D} {F : List Addr} : Outs K Z H md vs ds F → Outs K Z H (.i :: md) (v :: vs) ds F
  | v {md : List Md} {v : V} {vs : List V} {ds : List D} {F : List Addr} : Outs K Z H md vs ds F → Outs K Z H (.v :: md) (v :: vs) ds F
  | m {md : List Md} {v : V} {vs : List V} {d : D} {ds : List D} {F G : List Addr} : Own K Z H v d F → Outs K Z H md vs ds G → Outs K Z H (.m :: md) (v :: vs) (d :: ds) (F ++ G)
/-- from one state to another: what does not belong to F stays, F' belongs to F or is new -/
structure Tr (Z H : Hp) (F : List Addr) (Z' H' : Hp) (F' : List Addr) : Prop where
  z : Same Z Z'
  keep : ∀ a o, H a = some o → a ∉ F → (∀ ps, o ≠ .tbl ps) → H' a = some o
  zn : ∀ a, Z' a ≠ none → Z a ≠ none ∨ a ∈ F ∨ H a = none
  fn : ∀ a ∈ F', a ∈ F ∨ H a = none
  fr : ∀ a, H' a = none → a ∈ F ∨ H a = none
  tab : ∀ {n : Bool} a, a ∉ F → TabQ n H a → TabQ n H' a
theorem Tr.refl (Z H : Hp) (F : List Addr) : Tr Z H F Z H F := ⟨Same.refl _, fun _ _ h _ _ => h, fun _ h => .inl h, fun _ h => .inl h, fun _ h => .inr h, fun _ _ h => h⟩
theorem Tr.free {Z H : Hp} {F : List Addr} {Z' H' : Hp} {F' : List Addr} (a : Tr Z H F Z' H' F') {c : Addr} (h : H' c = none) : c ∈ F ∨ H c = none := a.fr c h
theorem tabG_ne {n : Bool} {H : Hp} {a : Addr} (h : TabQ n H a) : H a ≠ none := fun z => by
  obtain ⟨⟨ps, q, _⟩, _⟩ := h
  rw [q] at z
  cases z
theorem Tr.trans {Z H Z1 H1 Z2 H2 : Hp} {F F1 F2 : List Addr} (a : Tr Z H F Z1 H1 F1) (b : Tr Z1 H1 F1 Z2 H2 F2) : Tr Z H F Z2 H2 F2 where
  z := a.z.trans b.z
  keep := fun c o h n t => b.keep c o (a.keep c o h n t) (fun q => (a.fn c q).elim n fun z => by rw [h] at z; cases z) t
  fr := fun c h => (b.fr c h).elim (a.fn c) fun q => a.fr c q
  tab := fun c n h => b.tab c (fun q => (a.fn c q).elim n fun z => tabG_ne h z) (a.tab c n h)
  zn := fun c h => (b.zn c h).elim (a.zn c) fun q => q.elim (fun q => .inr (a.fn c q)) fun q => .inr (a.free q)
  fn := fun c h => (b.fn c h).elim (a.fn c) fun q => a.free q
theorem Ext.tr {Z O H Z' O' H' : Hp} {F G : List Addr} (e : Ext [] Z O H Z' O' H') (n : ∀ a ∈ G, H a = none) : Tr Z H F Z' H' (F ++ G) :=
  ⟨e.z, fun a o h _ n => e.h.s a o h n, (fun a h => (e.zn a h).imp id fun q => q.elim (fun q => .inr q) (fun q => by cases q)), fun a h => (List.mem_append.mp h).imp id (n a), fun a h => .inr (e.h.fr a h), fun a _ h => e.h.tab a h⟩
/-- behind a call -/
structure After (K : PySem.W.Frag) (md : List Md) (vs : List V) (Z H : Hp) (Fm : List Addr) (ms : List D) (Z' H' : Hp) (Fm' G : List Addr) : Prop where
  tr : Tr Z H Fm Z' H' (Fm' ++ G)
  zh : Same Z' H'
  tz : ∀ a o, H' a = some o → fzn o = true → Z' a = some o
  nd : (Fm' ++ G).Nodup
  zf : ∀ a ∈ Fm' ++ G, Z' a = none
  nt : NoT Z'
  tb : Tabs K H'
  outs : Outs K Z' H' md vs ms Fm'
def RetR (r : R) : Prop := r.s = .imm ∨ r.s = .own
def PostF (K : PySem.W.Frag) (md : List Md) (vs : List V) (Z H : Hp) (Fm : List Addr) (Q : VK) (E : XK) : FR → Prop
  | .bad => False
  | .ok r ms => ∀ v H' Z' Fm' G, After K md vs Z H Fm ms Z' H' Fm' G → RetR r → RepR K Z' Z' H' v r G → Q v H'
  | .exc c fs ms => ∀ H' Z' Fm' d xs, After K md vs Z H Fm ms Z' H' Fm' [] → H' d = some (.xd xs) → xs.map (·.1) = fs.map (·.1) → Reps K Z' (xs.map (·.2)) (fs.map (·.2)) → E (.ref (He.ga K c)) (some d) H'
def spF (K : PySem.W.Frag) (md : List Md) (f : Fn) : Sp := fun vs H Q E => vs.length = md.length ∧ ∃ Z ds Fm, Same Z H ∧ NoT Z ∧ Tabs K H ∧ (∀ a o, H a = some o → fzn o = true → Z a = some o) ∧ Args K Z (without H Fm) H md vs ds Fm ∧ Fm.Nodup ∧ (∀ a ∈ Fm, Z a = none) ∧
  PostF K md vs Z H Fm Q E (f ds)

/-! ### a call that changes nothing -/
def pargs : List Md → List R → Option (List D)
  | [], [] => some []
  | .i :: md, r :: rs => match frzR r, pargs md rs with
    | some d, some ds => some (d :: ds)
    | _, _ => none
  | .v :: md, r :: rs => match pargs md rs with
    | some ds => some (r.d :: ds)
    | none => none
  | _, _ => none
def pCall (f : Fn) (md : List Md) (ps : List Px) : Px := fun ρ => (evs ps ρ).bind fun rs => match pargs md rs with
  | some ds => (match f ds with
    | .ok r [] => .ok r
    | .exc c fs [] => .exc c fs
    | _ => .bad)
  | none => .bad
section
variable {K : PySem.W.Frag} {E : XK} {Z O H : Hp} {Q : VK} {W : List Addr}
theorem pargs_ok (g : Good Z O H) : ∀ {md : List Md} {rs : List R} {vs : List V} {G : List Addr} {ds : List D}, RepRs K Z O H vs rs G → pargs md rs = some ds → Args K Z H H md vs ds [] ∧ vs.length = md.length ∧ (∀ Z' H' ms F, Outs K Z' H' md vs ms F → F = [] ∧ ms = []) ∧ (∀ Z' H', Outs K Z' H' md vs [] [])
  | [], [], _, _, _, .nil, e => by
    cases e
    refine ⟨.nil, rfl, fun _ _ _ _ h => ?_, fun _ _ => .nil⟩
    cases h
    exact ⟨rfl, rfl⟩
  | .i :: md, r :: rs, _, _, ds, .cons q s, e => by
    unfold pargs at e
    cases h1 : frzR r with
    | none => rw [h1] at e; cases e
    | some d =>
      rw [h1] at e
      cases h2 : pargs md rs with
      | none => rw [h2] at e; cases e
      | some ds' =>
        rw [h2] at e
        cases e
        obtain ⟨i1, i2, i3, i4⟩ := pargs_ok g s h2
        refine ⟨.i (frzR_ok g q h1) i1, congrArg (· + 1) i2, fun _ _ _ _ h => ?_, fun _ _ => .i (i4 _ _)⟩
        cases h with
        | i h => exact i3 _ _ _ _ h
  | .v :: md, r :: rs, _, _, ds, .cons q s, e => by
    unfold pargs at e
    cases h2 : pargs md rs with
    | none => rw [h2] at e; cases e
    | some ds' =>
      rw [h2] at e
      cases e
      obtain ⟨i1, i2, i3, i4⟩ := pargs_ok g s h2
      refine ⟨.v (q.look g) i1, congrArg (· + 1) i2, fun _ _ _ _ h => ?_, fun _ _ => .v (i4 _ _)⟩
      cases h with
      | v h => exact i3 _ _ _ _ h
  | [], _ :: _, _, _, _, _, e => by cases e
  | .m :: _, _, _, _, _, _, e => by cases e
  | .i :: _, [], _, _, _, _, e => by cases e
  | .v :: _, [], _, _, _, _, e => by cases e
/-- the outer heap behind -/
def oNew (O Z' : Hp) : Hp := fun a => match O a with
  | some o => some o
  | none => Z' a
theorem oNew_some {O Z' : Hp} {a : Addr} {o : HO} (h : O a = some o) : oNew O Z' a = some o := by unfold oNew; rw [h]
theorem oNew_none {O Z' : Hp} {a : Addr} (h : O a = none) : oNew O Z' a = Z' a := by unfold oNew; rw [h]
theorem oNew_good {O Z' H' : Hp} (oh : Same O H') (zh : Same Z' H') (tz : ∀ a o, H' a = some o → fzn o = true → Z' a = some o) (no : NoT O) (nz : NoT Z') : Good Z' (oNew O Z') H' := by
  refine ⟨fun a o h => ?_, fun a o h => ?_, tz, fun a ps h => ?_⟩
  rotate_right
  · cases e : O a with
    | none => rw [oNew_none e] at h; exact nz a ps h
    | some x => rw [oNew_some e] at h; exact no a ps (e.trans h)
  · cases e : O a with
    | none => rw [oNew_none e]; exact h
    | some x =>
      rw [oNew_some e]
      have := oh a x e
      rw [zh a o h] at this
      exact this.symm
  · cases e : O a with
    | none => rw [oNew_none e] at h; exact zh a o h
    | some x => rw [oNew_some e] at h; exact oh a o (e.trans h)
theorem oNew_same {O Z' : Hp} : Same O (oNew O Z') := fun a o h => oNew_some h
theorem RetR.move {K : PySem.W.Frag} {v : V} {r : R} {G : List Addr} {Z O O' H : Hp} (h : RepR K Z O H v r G) (t : RetR r) : RepR K Z O' H v r G := by
  obtain ⟨s, d⟩ := r
  rcases t with t | t
  · cases t; exact h
  · cases t; exact h
theorem call_ok {md : List Md} {f : Fn} {rs : List R} {vs : List V} {G : List Addr} (g : Good Z O H) (tb : Tabs K H) (q : RepRs K Z O H vs rs G)
    (h : ResK K E W Z O H (match pargs md rs with
      | some ds => (match f ds with
        | .ok r [] => .ok r
        | .exc c fs [] => .exc c fs
        | _ => .bad)
      | none => .bad) Q) : spF K md f vs H Q E := by
  cases e : pargs md rs with
  | none => rw [e] at h; exact h.elim
  | some ds =>
    rw [e] at h
    obtain ⟨i1, i2, i3, i4⟩ := pargs_ok g q e
    refine ⟨i2, Z, ds, [], g.zh, g.ntz, tb, g.tz, i1.monoV (without_sameN H), List.nodup_nil, (fun a ha => by cases ha), ?_⟩
    have h2 : ResK K E W Z O H (match f ds with
        | .ok r [] => .ok r
        | .exc c fs [] => .exc c fs
        | _ => .bad) Q := h
    cases e2 : f ds with
    | bad => rw [e2] at h2; exact h2.elim
    | ok r ms =>
      rw [e2] at h2
      cases ms with
      | cons _ _ => exact h2.elim
      | nil =>
        intro v H' Z' Fm' G' A t r1
        obtain ⟨rfl, _⟩ := i3 _ _ _ _ A.outs
        have sh : SameT H H' := ⟨fun a o q n => A.tr.keep a o q (by simp) n, fun a q => (A.tr.fr a q).elim (fun z => by cases z) id, fun a q => A.tr.tab a (by simp) q⟩
        refine h2 v H' Z' (oNew O Z') G' ⟨sh, A.tr.z, oNew_same, (fun a q => (A.tr.zn a q).imp id fun q => q.elim (fun q => by cases q) .inl), fun a q => ?_⟩ (oNew_good (g.ohT sh) A.zh A.tz g.nt A.nt) (RetR.move r1 t) A.nd fun a ha => ?_
        · cases w : O a with
          | some x => exact .inl (by simp)
          | none =>
            rw [oNew_none w] at q
            rcases A.tr.zn a q with q | q | q
            · exact absurd (g.zo.free w) q
            · cases q
            · exact .inr (.inl q)
        · have hn : H a = none := (A.tr.fn a ha).elim (fun q => by cases q) id
          exact ⟨.inl hn, by rw [oNew_none (none_of g.oh hn)]; exact A.zf a ha⟩
    | exc c fs ms =>
      rw [e2] at h2
      cases ms with
      | cons _ _ => exact h2.elim
      | nil =>
        intro H' Z' Fm' d xs A hd ek rk
        obtain ⟨rfl, _⟩ := i3 _ _ _ _ A.outs
        have sh : SameT H H' := ⟨fun a o q n => A.tr.keep a o q (by simp) n, fun a q => (A.tr.fr a q).elim (fun z => by cases z) id, fun a q => A.tr.tab a (by simp) q⟩
        refine h2 H' Z' (oNew O Z') d xs ⟨sh, A.tr.z, oNew_same, (fun a q => (A.tr.zn a q).imp id fun q => q.elim (fun q => by cases q) .inl), fun a q => ?_⟩ (oNew_good (g.ohT sh) A.zh A.tz g.nt A.nt) hd ek rk
        cases w : O a with
        | some x => exact .inl (by simp)
        | none =>
          rw [oNew_none w] at q
          rcases A.tr.zn a q with q | q | q
          · exact absurd (g.zo.free w) q
          · cases q
          · exact .inr (.inl q)
end
section
variable {X : Cx} {E : XK} {CX : CXT} {k : Nat} {f : Addr} {fd : FuncData} {ps : List Str} {md : List Md} {fn : Fn} {x : Str} {p pos : Pos} {e : Expr} {es : List Expr} {qs : List Px}
theorem tP_call {K : PySem.W.Frag} {σ : St} {H : Hp} {Q : VK} (h : tP K E (pCall fn md qs) σ H Q) : tCall (spF K md fn) [] E (tA K E qs) σ H Q := by
  refine tA_bind h fun Z O H1 G vs rs g q nd fo h2 tb => ?_
  rw [List.append_nil]
  exact call_ok g tb q h2
theorem s_call (F : FnOk X.prog X.w X.K X.mg X.base CX k f fd ps (spF X.K md fn)) (hr : Room k X.A) (hg : Gl X x) (hm : X.mg x = some (.ref f)) (hk : PySem.W.keepIn X.K (.ref f) = true) (hb : Binds X.K fd ps []) (hx : Passes CX X E)
    (ha : PA X (e :: es) (tA X.K E qs)) (hdb : (x == ("__debug__" : Str)) = false := by decide) (he : starEach (e :: es) X.env = (false, eval e X.env) :: starEach es X.env := by rfl) (hpl : (backTo pos (starEach es X.env)).any (·.1) = false := by rfl) :
    PE X (.Call (.Name x p) (e :: es) [] pos) (tP X.K E (pCall fn md qs)) :=
  (pe_call F hr hg hm hk hb .nil hx ha hdb he hpl).imp fun _ _ _ h => tP_call h
end

/-! ### statements -/
inductive SR where
  | bad
  | next (ρ : Ev)
  | ret (r : R) (ρ : Ev)
  | exc (c : Str) (fs : List (Str × D)) (ρ : Ev)
abbrev Stx := Ev → SR
/-- from a state to another, the frame too -/
structure TrS (Z O H : Hp) (σ : St) (ρ : Ev) (F : List Addr) (Z' O' H' : Hp) (σ' : St) (ρ' : Ev) (F' : List Addr) : Prop where
  tr : Tr Z H F Z' H' F'
  o : Same O O'
  len : σ'.length = σ.length
  brw : ∀ (j : Nat) (d : D), ρ[j]? = some (some (R.mk .brw d)) → σ'[j]? = σ[j]? ∧ ∃ d', ρ'[j]? = some (some (R.mk .brw d'))
  on : ∀ a, O' a ≠ none → O a ≠ none ∨ a ∈ F ∨ H a = none
theorem TrS.refl (Z O H : Hp) (σ : St) (ρ : Ev) (F : List Addr) : TrS Z O H σ ρ F Z O H σ ρ F := ⟨Tr.refl _ _ _, Same.refl _, rfl, fun _ d h => ⟨rfl, d, h⟩, fun _ h => .inl h⟩
theorem TrS.trans {Z O H Z1 O1 H1 Z2 O2 H2 : Hp} {σ σ1 σ2 : St} {ρ ρ1 ρ2 : Ev} {F F1 F2 : List Addr} (a : TrS Z O H σ ρ F Z1 O1 H1 σ1 ρ1 F1) (b : TrS Z1 O1 H1 σ1 ρ1 F1 Z2 O2 H2 σ2 ρ2 F2) : TrS Z O H σ ρ F Z2 O2 H2 σ2 ρ2 F2 :=
  ⟨a.tr.trans b.tr, a.o.trans b.o, b.len.trans a.len, fun j d h => by
    obtain ⟨e1, d1, h1⟩ := a.brw j d h
    obtain ⟨e2, d2, h2⟩ := b.brw j d1 h1
    exact ⟨e2.trans e1, d2, h2⟩, fun c h => (b.on c h).elim (a.on c) fun q => q.elim (fun q => .inr (a.tr.fn c q)) fun q => .inr (a.tr.free q)⟩
def SRK (K : PySem.W.Frag) (E : XK) (Z O H : Hp) (σ : St) (ρ : Ev) (F : List Addr) (nx : St → Hp → Prop) (rt : VK) : SR → Prop
  | .bad => False
  | .next ρ' => ∀ σ' H' Z' O' F', Rel K Z' O' H' σ' ρ' F' → nov ρ' = true → TrS Z O H σ ρ F Z' O' H' σ' ρ' F' → nx σ' H'
  | .ret r ρ' => ∀ v σ' H' Z' O' F' G, Rel K Z' O' H' σ' ρ' F' → RepR K Z' O' H' v r G → (F' ++ G).Nodup → (∀ a ∈ G, O' a = none) → Tr Z H F Z' H' (F' ++ G) → TrS Z O H σ ρ F Z' O' H' σ' ρ' F' → rt v H'
  | .exc c fs ρ' => ∀ σ' H' Z' O' F' d xs, Rel K Z' O' H' σ' ρ' F' → TrS Z O H σ ρ F Z' O' H' σ' ρ' F' → H' d = some (.xd xs) → xs.map (·.1) = fs.map (·.1) → Reps K Z' (xs.map (·.2)) (fs.map (·.2)) → E (.ref (He.ga K c)) (some d) H'
def tS (K : PySem.W.Frag) (E : XK) (s : Stx) : TS := fun D σ H => ∃ Z O ρ F, Rel K Z O H σ ρ F ∧ nov ρ = true ∧ SRK K E Z O H σ ρ F D.nx D.rt (s ρ)
section
variable {K : PySem.W.Frag} {E : XK} {Z O H Z1 O1 H1 : Hp} {σ σ1 : St} {ρ ρ1 : Ev} {F F1 : List Addr} {nx : St → Hp → Prop} {rt : VK}
theorem SRK.from {r : SR} (h : SRK K E Z O H σ ρ F nx rt r) (t : TrS Z O H σ ρ F Z1 O1 H1 σ1 ρ1 F1) : SRK K E Z1 O1 H1 σ1 ρ1 F1 nx rt r := by
  cases r with
  | bad => exact h
  | next ρ' => exact fun σ' H' Z' O' F' q n u => h σ' H' Z' O' F' q n (t.trans u)
  | ret r ρ' => exact fun v σ' H' Z' O' F' G q w nd fo u u2 => h v σ' H' Z' O' F' G q w nd fo (t.tr.trans u) (t.trans u2)
  | exc c fs ρ' => exact fun σ' H' Z' O' F' d xs q u hd e1 e2 => h σ' H' Z' O' F' d xs q (t.trans u) hd e1 e2
end
end Oz

namespace Oz
open PySem PySem.Spec L2
open PyProof.Rows hiding St
variable [WD]

/-! ### storing -/
def storable (r : R) : Bool := match r.s with
  | .imm => true
  | .out => true
  | .own => true
  | _ => false
def setS (i : Nat) (r : R) (ρ : Ev) : Option Ev := match ρ[i]? with
  | none => none
  | some (some ⟨.brw, _⟩) => none
  | some _ => if storable r = true then some (ρ.set i (some r)) else none
section
variable {K : PySem.W.Frag} {E : XK} {Z O H Z1 O1 H1 : Hp} {σ : St} {ρ ρ' : Ev} {F G : List Addr} {v : V} {r : R} {i : Nat}
theorem setS_some (h : setS i r ρ = some ρ') : i < ρ.length ∧ (∀ d, ρ[i]? ≠ some (some ⟨.brw, d⟩)) ∧ storable r = true ∧ ρ' = ρ.set i (some r) := by
  unfold setS at h
  cases e : ρ[i]? with
  | none => rw [e] at h; cases h
  | some y =>
    obtain ⟨hl, _⟩ := List.getElem?_eq_some_iff.mp e
    rw [e] at h
    have fin : (if storable r = true then some (ρ.set i (some r)) else none) = some ρ' → storable r = true ∧ ρ' = ρ.set i (some r) := fun h => by
      by_cases c : storable r = true
      · rw [if_pos c] at h; exact ⟨c, (Option.some.inj h).symm⟩
      · rw [if_neg c] at h; cases h
    cases y with
    | none =>
      obtain ⟨h1, h2⟩ := fin h
      exact ⟨hl, (fun d q => by cases q), h1, h2⟩
    | some q =>
      obtain ⟨s, d⟩ := q
      cases s with
      | brw => cases h
      | imm => obtain ⟨h1, h2⟩ := fin h; exact ⟨hl, (fun d q => by cases q), h1, h2⟩
      | out => obtain ⟨h1, h2⟩ := fin h; exact ⟨hl, (fun d q => by cases q), h1, h2⟩
      | view => obtain ⟨h1, h2⟩ := fin h; exact ⟨hl, (fun d q => by cases q), h1, h2⟩
      | own => obtain ⟨h1, h2⟩ := fin h; exact ⟨hl, (fun d q => by cases q), h1, h2⟩
      | tab => obtain ⟨h1, h2⟩ := fin h; exact ⟨hl, (fun d q => by cases q), h1, h2⟩
theorem nov_set {i : Nat} {y : Option R} (n : nov ρ = true) (hy : ∀ d, y ≠ some ⟨.view, d⟩) : nov (ρ.set i y) = true := by
  unfold nov at n ⊢
  rw [List.all_eq_true] at n ⊢
  intro x hx
  rcases List.mem_or_eq_of_mem_set hx with h | h
  · exact n x h
  · subst h
    cases x with
    | none => rfl
    | some r =>
      obtain ⟨s, d⟩ := r
      cases s with
      | view => exact absurd rfl (hy d)
      | _ => rfl
/-- the frame with a new thing at i -/
theorem Rel.set (rl : Rel K Z O H σ ρ F) (n : nov ρ = true) (q : RepR K Z O H v r G) (nd : G.Nodup) (dj : ∀ a ∈ G, a ∉ F) (fo : ∀ a ∈ G, O a = none) (h : setS i r ρ = some ρ') :
    ∃ F', Rel K Z O H (σ.set i (some v)) ρ' F' ∧ nov ρ' = true ∧ (∀ a ∈ F', a ∈ F ∨ a ∈ G) ∧ (σ.set i (some v)).length = σ.length ∧
      ∀ (j : Nat) (d : D), ρ[j]? = some (some (R.mk .brw d)) → (σ.set i (some v))[j]? = σ[j]? ∧ ∃ d', ρ'[j]? = some (some (R.mk .brw d')) := by
  obtain ⟨hl, nb, st, rfl⟩ := setS_some h
  obtain ⟨x, y, F1, G0, F2, h1, h2, h3, h4, h5⟩ := rl.sl.focus hl
  subst h3
  have sl := h5 (some v) (some r) G Z O H (Same.refl _) (Same.refl _) (.inl fun _ _ q _ => q) (fun a _ o q _ => q) (.inl q)
  refine ⟨_, ⟨rl.g, ?_, fun a ha => ?_, sl, rl.tb⟩, nov_set n (fun d e => ?_), fun a ha => ?_, by simp, fun j d hj => ?_⟩
  · have nF := rl.nd
    rw [List.nodup_append] at nF
    obtain ⟨n1, n2, n3⟩ := nF
    rw [List.nodup_append] at n2
    obtain ⟨n4, n5, n6⟩ := n2
    rw [List.nodup_append]
    refine ⟨n1, ?_, fun a ha b hb => ?_⟩
    · rw [List.nodup_append]
      exact ⟨nd, n5, fun a ha b hb e => dj a ha (by rw [e]; simp [hb])⟩
    · rcases List.mem_append.mp hb with hb | hb
      · exact fun e => dj b hb (by rw [← e]; simp [ha])
      · exact n3 a ha b (List.mem_append_right _ hb)
  · rcases List.mem_append.mp ha with ha | ha
    · exact rl.fo a (by simp [ha])
    · rcases List.mem_append.mp ha with ha | ha
      · exact fo a ha
      · exact rl.fo a (by simp [ha])
  · cases e
    cases st
  · rcases List.mem_append.mp ha with ha | ha
    · exact .inl (by simp [ha])
    · rcases List.mem_append.mp ha with ha | ha
      · exact .inr ha
      · exact .inl (by simp [ha])
  · have ne : i ≠ j := fun e => nb d (by rw [e]; exact hj)
    exact ⟨List.getElem?_set_ne ne, d, by rw [List.getElem?_set_ne ne]; exact hj⟩
end

/-! ### the statements that do not nest -/
def sAsg (i : Nat) (p : Px) : Stx := fun ρ => match p ρ with
  | .bad => .bad
  | .exc c fs => .exc c fs ρ
  | .ok r => (match setS i r ρ with
    | some ρ' => .next ρ'
    | none => .bad)
def sRet (p : Px) : Stx := fun ρ => match p ρ with
  | .bad => .bad
  | .exc c fs => .exc c fs ρ
  | .ok r => if storable r = true then .ret r ρ else .bad
/-- return of a name: what is one's own is handed on -/
def sRetV (i : Nat) : Stx := fun ρ => match ρ[i]? with
  | some (some ⟨.own, d⟩) => .ret ⟨.own, d⟩ (ρ.set i none)
  | _ => sRet (pVar i) ρ
def sDrop (p : Px) : Stx := fun ρ => match p ρ with
  | .bad => .bad
  | .exc c fs => .exc c fs ρ
  | .ok _ => .next ρ
def sNext : Stx := fun ρ => .next ρ
def sSeq (s t : Stx) : Stx := fun ρ => match s ρ with
  | .next ρ' => t ρ'
  | r => r
def sIf (c : Tx) (s t : Stx) : Stx := fun ρ => match c ρ with
  | .bad => .bad
  | .exc x fs => .exc x fs ρ
  | .ok b => if b = true then s ρ else t ρ
section
variable {K : PySem.W.Frag} {E : XK} {Z O H Z1 O1 H1 : Hp} {σ : St} {ρ ρ' : Ev} {F G : List Addr} {nx : St → Hp → Prop} {rt : VK}
theorem TrS.ext (e : Ext [] Z O H Z1 O1 H1) : TrS Z O H σ ρ F Z1 O1 H1 σ ρ F := ⟨by have := e.tr (F := F) (G := []) (fun a h => by cases h); rwa [List.append_nil] at this, e.o, rfl, fun _ d h => ⟨rfl, d, h⟩, fun c h => (e.on c h).imp id fun q => q.elim .inr fun q => by cases q⟩
theorem SRK.exc {c : Str} {fs : List (Str × D)} (rl : Rel K Z O H σ ρ F) (h : SRK K E Z O H σ ρ F nx rt (.exc c fs ρ)) : ExcK K E Z O H c fs := fun H' Z' O' d xs e g q a b =>
  h σ H' Z' O' F d xs (rl.ext e g) (TrS.ext e) q a b
/-- an expression ahead -/
theorem tS_expr {p : Px} {s : R → Ev → SR} {D : Ends} (h : tS K E (fun ρ => match p ρ with
      | .bad => .bad
      | .exc c fs => .exc c fs ρ
      | .ok r => s r ρ) D σ H) {T : V → Hp → Prop}
    (next : ∀ (Z0 O0 Z O H1 : Hp) (ρ : Ev) (F G : List Addr) (v : V) (r : R), Rel K Z O H1 σ ρ F → nov ρ = true → RepR K Z O H1 v r G → G.Nodup → (∀ a ∈ G, a ∉ F) → (∀ a ∈ G, O a = none) → (∀ a ∈ G, H a = none) → TrS Z0 O0 H σ ρ F Z O H1 σ ρ F → SRK K E Z0 O0 H σ ρ F D.nx D.rt (s r ρ) → T v H1) : tP K E p σ H T := by
  obtain ⟨Z, O, ρ, F, rl, n, h⟩ := h
  refine ⟨Z, O, ρ, F, rl, ?_⟩
  have h1 : SRK K E Z O H σ ρ F D.nx D.rt (match p ρ with
      | .bad => .bad
      | .exc c fs => .exc c fs ρ
      | .ok r => s r ρ) := h
  cases e : p ρ with
  | bad => rw [e] at h1; exact h1.elim
  | exc c fs => rw [e] at h1; exact SRK.exc rl h1
  | ok r =>
    rw [e] at h1
    intro v H1 Z1 O1 G x1 g1 q nd fr
    have hn : ∀ a ∈ G, H a = none := fun a ha => (fr a ha).1.elim id fun z => by cases z
    refine next Z O Z1 O1 H1 ρ F G v r (rl.ext x1 g1) n q nd (fun a ha z => ?_) (fun a ha => (fr a ha).2) hn (TrS.ext x1) h1
    obtain ⟨o, w, _⟩ := rl.sl.live a z
    rw [hn a ha] at w
    cases w
end
section
variable {X : Cx} {E : XK} {e c : Expr} {p : Px} {t : Tx} {a b : List Stmt} {st : Stmt} {rest : List Stmt} {s u : Stx} {pos pos' : Pos} {x : Str}
theorem s_asg (i : Nat) (hN : X.N.Nodup) (he : PE X e (tP X.K E p)) (hi : X.N[i]? = some x := by rfl) (hx : Loc X.env.scope x := by first | exact Or.inl rfl | exact Or.inr rfl) (hs : swapsWith e (some (.Name x pos')) pos.line X.env = pure false := by rfl)
    (hf : X.fn x = true ∨ X.env.scope.names.lookup x = some .local := by first | exact .inl rfl | exact .inr rfl | assumption) : PS X (.Assign [.Name x pos'] e pos) (tS X.K E (sAsg i p)) := by
  refine (ps_set hN hi hx he hs hf).imp fun D σ H h => ?_
  refine tS_expr (s := fun r ρ => match setS i r ρ with | some ρ' => .next ρ' | none => .bad) h fun Z0 O0 Z O H1 ρ F G v r rl n q nd dj fo fh tr h2 => ?_
  cases z : setS i r ρ with
  | none => rw [z] at h2; exact h2.elim
  | some ρ' =>
    rw [z] at h2
    obtain ⟨F', rl', n', sub, ln, bw⟩ := rl.set n q nd dj fo z
    refine h2 _ H1 Z O F' rl' n' ⟨⟨tr.tr.z, tr.tr.keep, tr.tr.zn, fun a ha => ?_, tr.tr.fr, tr.tr.tab⟩, tr.o, ln, bw, tr.on⟩
    exact (sub a ha).imp id (fh a)
theorem s_ret (he : PE X e (tP X.K E p)) : PS X (.Return (some e) pos) (tS X.K E (sRet p)) := by
  refine (ps_ret he).imp fun D σ H h => ?_
  refine tS_expr (s := fun r ρ => if storable r = true then .ret r ρ else .bad) h fun Z0 O0 Z O H1 ρ F G v r rl n q nd dj fo fh tr h2 => ?_
  by_cases c : storable r = true
  · rw [if_pos c] at h2
    refine h2 v σ H1 Z O F G rl q ?_ fo ⟨tr.tr.z, tr.tr.keep, tr.tr.zn, fun a ha => ?_, tr.tr.fr, tr.tr.tab⟩ tr
    · rw [List.nodup_append]
      exact ⟨rl.nd, nd, fun a ha b hb e => dj b hb (e ▸ ha)⟩
    · rcases List.mem_append.mp ha with ha | ha
      · exact tr.tr.fn a ha
      · exact .inr (fh a ha)
  · rw [if_neg c] at h2
    exact h2.elim
theorem s_retV (i : Nat) (hN : X.N[i]? = some x := by rfl) (hv : Vis X.env.scope x := by first | exact Or.inl rfl | exact Or.inr (Or.inl rfl) | exact Or.inr (Or.inr rfl)) (hd : (x == ("__debug__" : Str)) = false := by decide)
    (hcd : (x == ("__classdict__" : Str)) = false := by decide) : PS X (.Return (some (.Name x pos')) pos) (tS X.K E (sRetV i)) := by
  refine (ps_ret (pe_var hN hv hd hcd)).imp fun D σ H h => ?_
  obtain ⟨Z, O, ρ, F, rl, n, h⟩ := h
  have plain : SRK X.K E Z O H σ ρ F D.nx D.rt (sRet (pVar i) ρ) → tVar i σ H D.rt := fun h => by
    unfold sRet pVar at h
    cases e : ρ[i]? with
    | none => rw [e] at h; exact h.elim
    | some y =>
      cases y with
      | none => rw [e] at h; exact h.elim
      | some r =>
        rw [e] at h
        obtain ⟨v, h1, G, h2⟩ := rl.sl.get e
        refine ⟨v, h1, ?_⟩
        have ht : r.s ≠ .tab := fun z => by
          obtain ⟨s, d⟩ := r
          cases z
          exact h.elim
        have h3 : SRK X.K E Z O H σ ρ F D.nx D.rt (if storable (vw r) = true then .ret (vw r) ρ else .bad) := by
          obtain ⟨s, d⟩ := r
          cases s <;> first | exact h | exact absurd rfl ht
        have h2 := h2.rep ht
        by_cases c : storable (vw r) = true
        · rw [if_pos c] at h3
          refine h3 v σ H Z O F [] rl (h2.vw rl.g) (by rw [List.append_nil]; exact rl.nd) (fun a ha => by cases ha) ?_ (TrS.refl _ _ _ _ _ _)
          rw [List.append_nil]
          exact Tr.refl _ _ _
        · rw [if_neg c] at h3
          exact h3.elim
  unfold sRetV at h
  cases e : ρ[i]? with
  | none => rw [e] at h; exact plain h
  | some y =>
    cases y with
    | none => rw [e] at h; exact plain h
    | some r =>
      obtain ⟨s, d⟩ := r
      cases s with
      | imm => rw [e] at h; exact plain h
      | out => rw [e] at h; exact plain h
      | view => rw [e] at h; exact plain h
      | brw => rw [e] at h; exact plain h
      | tab => rw [e] at h; exact plain h
      | own =>
        rw [e] at h
        obtain ⟨hl, _⟩ := List.getElem?_eq_some_iff.mp e
        obtain ⟨x1, y1, F1, G, F2, h1, h2, h3, h4, h5⟩ := rl.sl.focus hl
        rw [e] at h2
        cases h2
        cases x1 with
        | none => exact h4.elim
        | some v =>
          refine ⟨v, h1, ?_⟩
          have q : RepR X.K Z O H v ⟨.own, d⟩ G := RepS.rep h4 nofun
          have sl := h5 (some v) none [] Z O H (Same.refl _) (Same.refl _) (.inl fun _ _ q _ => q) (fun a _ o q _ => q) rfl
          have es : σ.set i (some v) = σ := by
            apply List.ext_getElem?
            intro j
            by_cases ij : i = j
            · subst ij
              obtain ⟨hl2, _⟩ := List.getElem?_eq_some_iff.mp h1
              rw [List.getElem?_set_self hl2, h1]
            · rw [List.getElem?_set_ne ij]
          rw [es] at sl
          subst h3
          have nF := rl.nd
          have pm : ((F1 ++ ([] ++ F2)) ++ G).Perm (F1 ++ (G ++ F2)) := by
            rw [List.nil_append, List.append_assoc]
            exact List.Perm.append_left F1 (List.perm_append_comm)
          have nd2 : ((F1 ++ ([] ++ F2)) ++ G).Nodup := pm.nodup_iff.mpr nF
          have inn : ∀ a, a ∈ (F1 ++ ([] ++ F2)) ++ G → a ∈ F1 ++ (G ++ F2) := fun a ha => pm.mem_iff.mp ha
          have rl' : Rel X.K Z O H σ (ρ.set i none) (F1 ++ ([] ++ F2)) := ⟨rl.g, (List.nodup_append.mp nd2).1, fun a ha => rl.fo a (inn a (List.mem_append_left _ ha)), sl, rl.tb⟩
          refine h v σ H Z O _ G rl' q nd2 (fun a ha => rl.fo a (inn a (List.mem_append_right _ ha))) ⟨Same.refl _, fun a o q _ _ => q, fun a q => .inl q, fun a ha => .inl (inn a ha), fun a h => .inr h, fun a _ h => h⟩
            ⟨⟨Same.refl _, fun a o q _ _ => q, fun a q => .inl q, fun a ha => .inl (inn a (List.mem_append_left _ ha)), fun a h => .inr h, fun a _ h => h⟩, Same.refl _, rfl, fun j d' hj => ⟨rfl, d', ?_⟩, fun a q => .inl q⟩
          have ne : i ≠ j := fun z => by rw [z] at e; rw [e] at hj; cases hj
          rw [List.getElem?_set_ne ne]
          exact hj
theorem s_drop (he : PE X e (tP X.K E p)) (hs : swapsWith e none pos.line X.env = pure false := by rfl) : PS X (.Expr e pos) (tS X.K E (sDrop p)) := by
  refine (ps_expr he hs).imp fun D σ H h => ?_
  refine tS_expr (s := fun r ρ => .next ρ) h fun Z0 O0 Z O H1 ρ F G v r rl n q nd dj fo fh tr h2 => ?_
  exact h2 σ H1 Z O F rl n tr
theorem s_nil : PSs X [] (tS X.K E sNext) := pss_nil.imp fun D σ H h => by
  obtain ⟨Z, O, ρ, F, rl, n, h⟩ := h
  exact h σ H Z O F rl n (TrS.refl _ _ _ _ _ _)
theorem s_last (h : PS X st (tS X.K E s)) : PSs X [st] (tS X.K E s) := pss_one h
theorem s_cons (h1 : PS X st (tS X.K E s)) (h2 : PSs X rest (tS X.K E u)) : PSs X (st :: rest) (tS X.K E (sSeq s u)) := by
  refine (pss_cons h1 h2).imp fun D σ H h => ?_
  obtain ⟨Z, O, ρ, F, rl, n, h⟩ := h
  refine ⟨Z, O, ρ, F, rl, n, ?_⟩
  unfold sSeq at h
  cases e : s ρ with
  | bad => rw [e] at h; exact h
  | ret r ρ' => rw [e] at h; exact h
  | exc c fs ρ' => rw [e] at h; exact h
  | next ρ' =>
    rw [e] at h
    have h2 : SRK X.K E Z O H σ ρ F D.nx D.rt (u ρ') := h
    exact fun σ' H' Z' O' F' rl' n' tr => ⟨Z', O', ρ', F', rl', n', SRK.from h2 tr⟩
theorem s_ifS (hc : PT X c (tT X.K E t)) (ha : PSs X a (tS X.K E s)) (hb : PSs X b (tS X.K E u)) : PS X (.If c a b pos) (tS X.K E (sIf t s u)) := by
  refine (ps_if hc ha hb).imp fun D σ H h => ?_
  obtain ⟨Z, O, ρ, F, rl, n, h⟩ := h
  refine ⟨Z, O, ρ, F, rl, ?_⟩
  unfold sIf at h
  cases e : t ρ with
  | bad => rw [e] at h; exact h.elim
  | exc c fs => rw [e] at h; exact SRK.exc rl h
  | ok k =>
    rw [e] at h
    intro H1 Z1 O1 x1 g1
    have h2 : SRK X.K E Z O H σ ρ F D.nx D.rt (if k = true then s ρ else u ρ) := h
    cases k with
    | true => exact ⟨Z1, O1, ρ, F, rl.ext x1 g1, n, SRK.from h2 (TrS.ext x1)⟩
    | false => exact ⟨Z1, O1, ρ, F, rl.ext x1 g1, n, SRK.from h2 (TrS.ext x1)⟩
end

/-! ### a def by its body -/
def entR : Md → D → R
  | .i, d => ⟨.imm, d⟩
  | .v, d => if lf d = true then ⟨.imm, d⟩ else ⟨.out, d⟩
  | .m, d => ⟨.brw, d⟩
theorem entR_t {d : D} (l : lf d = true) : entR .v d = ⟨.imm, d⟩ := if_pos l
theorem entR_f {d : D} (l : ¬ lf d = true) : entR .v d = ⟨.out, d⟩ := if_neg l
def entE : List Md → List D → Nat → Ev
  | m :: md, d :: ds, n => some (entR m d) :: entE md ds (n - 1)
  | _, _, n => List.replicate n none
def outsE : List Md → Ev → Option (List D)
  | [], _ => some []
  | .m :: md, some ⟨.brw, d⟩ :: ρ => (match outsE md ρ with
    | some ds => some (d :: ds)
    | none => none)
  | .m :: _, _ => none
  | .i :: md, _ :: ρ => outsE md ρ
  | .v :: md, _ :: ρ => outsE md ρ
  | _ :: _, [] => none
def exitE (md : List Md) (r : R) (ρ : Ev) : FR := if r.s = .imm ∨ r.s = .own then (match outsE md ρ with
  | some ms => .ok r ms
  | none => .bad) else .bad
def fnD (n : Nat) (md : List Md) (b : Stx) : Fn := fun ds => match b (entE md ds n) with
  | .bad => .bad
  | .next ρ => exitE md ⟨.imm, .none⟩ ρ
  | .ret r ρ => exitE md r ρ
  | .exc c fs ρ => (match outsE md ρ with
    | some ms => .exc c fs ms
    | none => .bad)
section
variable {K : PySem.W.Frag} {Z H : Hp}
theorem slots_none : ∀ n : Nat, Slots K Z O H (List.replicate n none) (List.replicate n none) []
  | 0 => .nil
  | n + 1 => by rw [List.replicate_succ, List.replicate_succ]; exact .non (slots_none n)
theorem ent_slots {Fm : List Addr} (tz : ∀ a o, H a = some o → fzn o = true → Z a = some o) : ∀ {md : List Md} {vs : List V} {ds : List D} {F : List Addr} (n : Nat), Args K Z (without H Fm) H md vs ds F → vs.length ≤ n → Slots K Z (without H Fm) H (vs.map some ++ List.replicate (n - vs.length) none) (entE md ds n) F
  | [], [], [], _, n, .nil, _ => by
    show Slots K Z (without H Fm) H ([] ++ List.replicate (n - 0) none) (List.replicate n none) []
    rw [List.nil_append, Nat.sub_zero]
    exact slots_none n
  | .i :: md, v :: vs, d :: ds, F, n + 1, .i r a, h => by
    have ih := ent_slots tz n a (by simpa using h)
    have e : n + 1 - (v :: vs).length = n - vs.length := by simp
    rw [e]
    exact .val (F := []) (.inl ⟨r, rfl⟩) ih
  | .v :: md, v :: vs, d :: ds, F, n + 1, .v r a, h => by
    have ih := ent_slots tz n a (by simpa using h)
    have e : n + 1 - (v :: vs).length = n - vs.length := by simp
    rw [e]
    refine .val (F := []) (r := entR .v d) ?_ ih
    by_cases l : lf d = true
    · rw [entR_t l]
      exact .inl ⟨(r.mono (fun a o q => (without_some q).1)).up tz l, rfl⟩
    · rw [entR_f l]
      exact .inl ⟨r, rfl⟩
  | .m :: md, v :: vs, d :: ds, _, n + 1, .m r a, h => by
    have ih := ent_slots tz n a (by simpa using h)
    have e : n + 1 - (v :: vs).length = n - vs.length := by simp
    rw [e]
    exact .val (r := entR .m d) (.inl r) ih
  | .i :: _, _ :: _, _ :: _, _, 0, .i _ _, h => by simp at h
  | .v :: _, _ :: _, _ :: _, _, 0, .v _ _, h => by simp at h
  | .m :: _, _ :: _, _ :: _, _, 0, .m _ _, h => by simp at h
theorem ent_nov : ∀ (md : List Md) (ds : List D) (n : Nat), nov (entE md ds n) = true
  | m :: md, d :: ds, n => by
    show (_ && nov (entE md ds (n - 1))) = true
    rw [ent_nov md ds (n - 1), Bool.and_true]
    cases m with
    | i => rfl
    | m => rfl
    | v =>
      by_cases l : lf d = true
      · rw [entR_t l]
      · rw [entR_f l]
  | [], _, n => by
    unfold entE nov
    rw [List.all_replicate]
    by_cases h : n = 0
    · simp [h]
    · simp [h]
  | _ :: _, [], n => by
    unfold entE nov
    rw [List.all_replicate]
    by_cases h : n = 0
    · simp [h]
    · simp [h]
theorem ent_brw : ∀ {md : List Md} {ds : List D} {n : Nat} {j : Nat}, md[j]? = some .m → j < ds.length → ∃ d, (entE md ds n)[j]? = some (some (R.mk .brw d))
  | m :: md, d :: ds, n, 0, h, _ => by
    simp at h
    subst h
    exact ⟨d, rfl⟩
  | m :: md, d :: ds, n, j + 1, h, hl => by
    obtain ⟨d', h'⟩ := ent_brw (md := md) (ds := ds) (n := n - 1) (j := j) (by simpa using h) (by simpa using hl)
    exact ⟨d', by simpa [entE] using h'⟩
  | [], _, _, _, h, _ => by simp at h
  | _ :: _, [], _, _, _, hl => by simp at hl
theorem Args.lens : ∀ {Hv : Hp} {md : List Md} {vs : List V} {ds : List D} {F : List Addr}, Args K Z Hv H md vs ds F → ds.length = md.length ∧ vs.length = md.length
  | _, _, _, _, _, .nil => ⟨rfl, rfl⟩
  | _, _, _, _, _, .i _ a => ⟨congrArg (· + 1) a.lens.1, congrArg (· + 1) a.lens.2⟩
  | _, _, _, _, _, .v _ a => ⟨congrArg (· + 1) a.lens.1, congrArg (· + 1) a.lens.2⟩
  | _, _, _, _, _, .m _ a => ⟨congrArg (· + 1) a.lens.1, congrArg (· + 1) a.lens.2⟩
theorem outs_of {O : Hp} : ∀ {md : List Md} {vs : List V} {σ : List (Option V)} {ρ : Ev} {F : List Addr} {ms : List D}, Slots K Z O H σ ρ F → vs.length = md.length → (∀ (j : Nat) (v : V), md[j]? = some Md.m → vs[j]? = some v → σ[j]? = some (some v)) → outsE md ρ = some ms →
    ∃ Fm, Outs K Z H md vs ms Fm ∧ Fm.Sublist F
  | [], [], σ, ρ, F, ms, _, _, _, e => by
    cases e
    exact ⟨[], .nil, List.nil_sublist _⟩
  | .i :: md, v :: vs, _, _, F, ms, .non s, hl, h, e => by
    obtain ⟨Fm, o, sb⟩ := outs_of (md := md) (vs := vs) s (by simpa using hl) (fun j w h1 h2 => by simpa using h (j + 1) w (by simpa using h1) (by simpa using h2)) e
    exact ⟨Fm, .i o, sb⟩
  | .i :: md, v :: vs, _, _, _, ms, .val r s, hl, h, e => by
    obtain ⟨Fm, o, sb⟩ := outs_of (md := md) (vs := vs) s (by simpa using hl) (fun j w h1 h2 => by simpa using h (j + 1) w (by simpa using h1) (by simpa using h2)) e
    exact ⟨Fm, .i o, sb.trans (List.sublist_append_right _ _)⟩
  | .v :: md, v :: vs, _, _, F, ms, .non s, hl, h, e => by
    obtain ⟨Fm, o, sb⟩ := outs_of (md := md) (vs := vs) s (by simpa using hl) (fun j w h1 h2 => by simpa using h (j + 1) w (by simpa using h1) (by simpa using h2)) e
    exact ⟨Fm, .v o, sb⟩
  | .v :: md, v :: vs, _, _, _, ms, .val r s, hl, h, e => by
    obtain ⟨Fm, o, sb⟩ := outs_of (md := md) (vs := vs) s (by simpa using hl) (fun j w h1 h2 => by simpa using h (j + 1) w (by simpa using h1) (by simpa using h2)) e
    exact ⟨Fm, .v o, sb.trans (List.sublist_append_right _ _)⟩
  | .m :: md, v :: vs, _, _, F, ms, .non s, hl, h, e => by cases e
  | .m :: md, v :: vs, some x :: σ, some ⟨sx, d⟩ :: ρ, _, ms, .val r s, hl, h, e => by
    cases sx with
    | brw =>
      unfold outsE at e
      cases e2 : outsE md ρ with
      | none => rw [e2] at e; cases e
      | some ds =>
        rw [e2] at e
        cases e
        obtain ⟨Fm, o, sb⟩ := outs_of (md := md) (vs := vs) s (by simpa using hl) (fun j w h1 h2 => by simpa using h (j + 1) w (by simpa using h1) (by simpa using h2)) e2
        have hx : x = v := by
          have := h 0 v rfl rfl
          simpa using this
        subst hx
        exact ⟨_, .m (RepS.rep r nofun) o, List.Sublist.append (List.Sublist.refl _) sb⟩
    | _ => cases e
  | .i :: _, _ :: _, [], [], _, _, .nil, _, _, e => by cases e
  | .v :: _, _ :: _, [], [], _, _, .nil, _, _, e => by cases e
  | .m :: _, _ :: _, [], [], _, _, .nil, _, _, e => by cases e
  | [], _ :: _, _, _, _, _, _, hl, _, _ => by simp at hl
  | _ :: _, [], _, _, _, _, _, hl, _, _ => by simp at hl
end
section
variable {P : Program} {w : World} {K : PySem.W.Frag} {mg : Str → Option Value} {base : Heap} {x qual : Str} {params : Arguments} {body : List Stmt} {scope : Scope} {f : Addr} {fd : FuncData}
theorem fnd_okC {CX : CXT} {N ps : List Str} {k : Nat} {sp : Sp} (F : FunD K x qual params body scope [] [] f fd) (S : FnScope N ps scope) (len : ∀ vs H Q E, sp vs H Q E → vs.length = ps.length)
    (hbody : ∀ (A : Around) (outer : List Env) (s : Shared) (H : Hp) (vs : List V) (Q : VK) (E : XK), Room k (A.deeper (envOfC qual scope s.heap.objs.size f fd.code)) → sp vs H Q E →
      ∃ t, PSs (cxOf CX P w K mg base N qual scope f fd.code A outer s H E) body t ∧ t { nx := fun _ H' => Q .non H', rt := Q } (start N vs) H) : FnOk P w K mg base CX (k + 1) f fd ps sp := by
  obtain ⟨oc, od, dV, kV, doc, pm, an, cdv, ct, osl, rfl, lk, hcd, _, _⟩ := F.ex
  exact fn_of lk hcd S len fun A outer s H vs Q E hr hsp => hbody A outer s H vs Q E hr hsp
/-- what a def's body is to meet -/
theorem body_t {N : List Str} {md : List Md} {b : Stx} {vs : List V} {H : Hp} {Q : VK} {E : XK} (hN : md.length ≤ N.length) (h : spF K md (fnD N.length md b) vs H Q E) : tS K E b { nx := fun _ H' => Q .non H', rt := Q } (start N vs) H := by
  obtain ⟨lv, Z, ds, Fm, zh, ntz, tb, tz, ar, nd, zf, post⟩ := h
  have rl : Rel K Z (without H Fm) H (start N vs) (entE md ds N.length) Fm := by
    refine ⟨⟨fun a o h => ?_, fun a o h => (without_some h).1, tz, without_noT H Fm⟩, nd, fun a ha => ?_, ent_slots tz N.length ar (by rw [lv]; exact hN), tb⟩
    · unfold without
      rw [if_neg (fun q => by rw [zf a q] at h; cases h), zh a o h]
      exact noTb_of fun ps e => ntz a ps (by rw [h, e])
    · unfold without
      rw [if_pos ha]
  refine ⟨Z, without H Fm, _, Fm, rl, ent_nov _ _ _, ?_⟩
  have post2 : PostF K md vs Z H Fm Q E (match b (entE md ds N.length) with
    | .bad => .bad
    | .next ρ => exitE md ⟨.imm, .none⟩ ρ
    | .ret r ρ => exitE md r ρ
    | .exc c fs ρ => (match outsE md ρ with
      | some ms => .exc c fs ms
      | none => .bad)) := post
  -- the borrowed ones, behind
  have outs : ∀ {σ' : St} {ρ' : Ev} {H' Z' O' : Hp} {F' : List Addr} {ms : List D}, Rel K Z' O' H' σ' ρ' F' → TrS Z (without H Fm) H (start N vs) (entE md ds N.length) Fm Z' O' H' σ' ρ' F' → outsE md ρ' = some ms → ∃ F2, Outs K Z' H' md vs ms F2 ∧ F2.Sublist F' := fun {σ' ρ' H' Z' O' F' ms} rl' tr e => by
    refine outs_of rl'.sl lv (fun j v h1 h2 => ?_) e
    obtain ⟨hj, _⟩ := List.getElem?_eq_some_iff.mp h1
    obtain ⟨d, h3⟩ := ent_brw (ds := ds) (n := N.length) h1 (by rw [ar.lens.1]; exact hj)
    rw [(tr.brw j d h3).1]
    unfold L2.start
    rw [List.getElem?_append_left (by rw [List.length_map]; exact (List.getElem?_eq_some_iff.mp h2).1), List.getElem?_map, h2]
    rfl
  have exit : ∀ {r : R} {ρ' : Ev} {v : V} {σ' : St} {H' Z' O' : Hp} {F' G : List Addr}, PostF K md vs Z H Fm Q E (exitE md r ρ') → Rel K Z' O' H' σ' ρ' F' → RepR K Z' O' H' v r G → (F' ++ G).Nodup → (∀ a ∈ G, O' a = none) → Tr Z H Fm Z' H' (F' ++ G) →
      TrS Z (without H Fm) H (start N vs) (entE md ds N.length) Fm Z' O' H' σ' ρ' F' → Q v H' := fun {r ρ' v σ' H' Z' O' F' G} p rl' q nd' fo t tr => by
    unfold exitE at p
    by_cases c : r.s = .imm ∨ r.s = .own
    · rw [if_pos c] at p
      cases e : outsE md ρ' with
      | none => rw [e] at p; exact p.elim
      | some ms =>
        rw [e] at p
        obtain ⟨F2, o, sb⟩ := outs rl' tr e
        have sb2 : (F2 ++ G).Sublist (F' ++ G) := List.Sublist.append sb (List.Sublist.refl _)
        refine p v H' Z' F2 G ⟨⟨t.z, t.keep, t.zn, fun a ha => t.fn a (sb2.subset ha), t.fr, t.tab⟩, rl'.g.zh, rl'.g.tz, nd'.sublist sb2, fun a ha => ?_, rl'.g.ntz, rl'.tb, o⟩ c (RetR.move q c)
        rcases List.mem_append.mp ha with ha | ha
        · exact rl'.g.zo.free (rl'.fo a (sb.subset ha))
        · exact rl'.g.zo.free (fo a ha)
    · rw [if_neg c] at p
      exact p.elim
  cases e : b (entE md ds N.length) with
  | bad => rw [e] at post2; exact post2.elim
  | next ρ' =>
    rw [e] at post2
    intro σ' H' Z' O' F' rl' n' tr
    refine exit post2 rl' (G := []) ⟨.non, rfl⟩ (by rw [List.append_nil]; exact rl'.nd) (fun a ha => by cases ha) ?_ tr
    rw [List.append_nil]
    exact tr.tr
  | ret r ρ' =>
    rw [e] at post2
    intro v σ' H' Z' O' F' G rl' q nd' fo t tr
    exact exit post2 rl' q nd' fo t tr
  | exc c fs ρ' =>
    rw [e] at post2
    intro σ' H' Z' O' F' d xs rl' tr hd e1 e2
    have p2 : PostF K md vs Z H Fm Q E (match outsE md ρ' with
      | some ms => .exc c fs ms
      | none => .bad) := post2
    cases eo : outsE md ρ' with
    | none => rw [eo] at p2; exact p2.elim
    | some ms =>
      rw [eo] at p2
      obtain ⟨F2, o, sb⟩ := outs rl' tr eo
      refine p2 H' Z' F2 d xs ⟨⟨tr.tr.z, tr.tr.keep, tr.tr.zn, fun a ha => ?_, tr.tr.fr, tr.tr.tab⟩, rl'.g.zh, rl'.g.tz, ?_, fun a ha => ?_, rl'.g.ntz, rl'.tb, o⟩ hd e1 e2
      · rw [List.append_nil] at ha
        exact tr.tr.fn a (sb.subset ha)
      · rw [List.append_nil]
        exact rl'.nd.sublist sb
      · rw [List.append_nil] at ha
        exact rl'.g.zo.free (rl'.fo a (sb.subset ha))
theorem fn_bodyC {CX : CXT} {N ps : List Str} {k : Nat} {md : List Md} {b : Stx} (F : FunD K x qual params body scope [] [] f fd) (S : FnScope N ps scope) (hl : md.length = ps.length) (hN : md.length ≤ N.length)
    (B : ∀ (A : Around) (outer : List Env) (s : Shared) (H : Hp) (E : XK), Room k (A.deeper (envOfC qual scope s.heap.objs.size f fd.code)) → PSs (cxOf CX P w K mg base N qual scope f fd.code A outer s H E) body (tS K E b)) :
    FnOk P w K mg base CX (k + 1) f fd ps (spF K md (fnD N.length md b)) := by
  exact fnd_okC F S (fun vs H Q E h => h.1.trans hl) fun A outer s H vs Q E hr h => ⟨_, B A outer s H E hr, body_t hN h⟩
theorem fn_body {CX : CXT} {N ps : List Str} {k : Nat} {md : List Md} {b : Stx} (F : FunD K x qual params body scope [] [] f fd) (S : FnScope N ps scope) (hl : md.length = ps.length) (hN : md.length ≤ N.length)
    (B : ∀ (cdv : Value) (A : Around) (outer : List Env) (s : Shared) (H : Hp) (E : XK), Room k (A.deeper (envOfC qual scope s.heap.objs.size f cdv)) → PSs (cxOf CX P w K mg base N qual scope f cdv A outer s H E) body (tS K E b)) :
    FnOk P w K mg base CX (k + 1) f fd ps (spF K md (fnD N.length md b)) := fn_bodyC F S hl hN fun A outer s H E hr => B fd.code A outer s H E hr

end
end Oz

namespace Oz
open PySem PySem.Spec L2
open PyProof.Rows hiding St
variable [WD]

/-! ### what is walked -/
/-- J walks the results rs from this state on, whatever happens to F0 -/
def Wlk (K : PySem.W.Frag) (J : It) (rs : List R) (Z0 O0 H0 : Hp) (F0 : List Addr) : Prop := ∀ Z O H, Good Z O H → Same Z0 Z → Same O0 O → (∀ a o, H0 a = some o → a ∉ F0 → (∀ ps, o ≠ .tbl ps) → H a = some o) → ∀ i, i ≤ rs.length →
  (i = rs.length → J.stop i H) ∧ ∀ r, rs[i]? = some r → J.go i H ∧ ∀ x H', J.yld i H x H' → ∃ Z' O', Ext [] Z O H Z' O' H' ∧ Good Z' O' H' ∧ RepR K Z' O' H' x r []
abbrev Src := Ev → Res (List R)
/-- sg: a source whose items are to outlast what the body does -/
def IOk (K : PySem.W.Frag) (E : XK) (w : TI) (src : Src) : Prop := ∀ (σ : St) (H : Hp) (R : It → Hp → Prop), (∃ Z O ρ F, Rel K Z O H σ ρ F ∧ match src ρ with
  | .bad => False
  | .exc c fs => ExcK K E Z O H c fs
  | .ok rs => ∀ J H' Z' O', Ext [] Z O H Z' O' H' → Good Z' O' H' → Wlk K J rs Z' O' H' F → R J H') → w σ H R
/-- for a comprehension: nothing changes meanwhile -/
def IOc (K : PySem.W.Frag) (E : XK) (w : TI) (src : Src) : Prop := ∀ (σ : St) (H : Hp) (R : It → Hp → Prop), (∃ Z O ρ F, Rel K Z O H σ ρ F ∧ match src ρ with
  | .bad => False
  | .exc c fs => ExcK K E Z O H c fs
  | .ok rs => ∀ J H' Z' O', Ext [] Z O H Z' O' H' → Good Z' O' H' → Wlk K J rs Z' O' H' [] → R J H') → w σ H R
theorem Wlk.less {K : PySem.W.Frag} {J : It} {rs : List R} {Z O H : Hp} {F : List Addr} (h : Wlk K J rs Z O H F) : Wlk K J rs Z O H [] := fun Z1 O1 H1 g ez eo k i hi => h Z1 O1 H1 g ez eo (fun a o q _ => k a o q (by simp)) i hi
theorem IOk.c {K : PySem.W.Frag} {E : XK} {w : TI} {src : Src} (h : IOk K E w src) : IOc K E w src := fun σ H R q => by
  obtain ⟨Z, O, ρ, F, rl, q⟩ := q
  refine h σ H R ⟨Z, O, ρ, F, rl, ?_⟩
  cases e : src ρ with
  | bad => rw [e] at q; exact q
  | exc c fs => rw [e] at q; exact q
  | ok rs => rw [e] at q; exact fun J H' Z' O' x g w => q J H' Z' O' x g w.less

/-! ### lists and tuples -/
def iSeq (K : PySem.W.Frag) (tl : TE) : TI := fun σ H R => tl σ H fun x H1 => ∃ a, x = .ref a ∧ (((∃ xs, SqL K H1 a xs) ∧ R (Itl K a) H1) ∨ ((∃ xs, SqT K H1 a xs) ∧ R (Itt K a) H1))
theorem pi_seq {X : Cx} {tg l : Expr} {tl : TE} (hl : PE X l tl) : PI X tg l (iSeq X.K tl) := by
  refine ⟨fun pins s σ H R I h => ?_⟩
  refine thn (hl.run pins s σ H _ I h) fun v s1 ⟨x, H1, I1, r1, q1⟩ => ?_
  obtain ⟨a, e, q1⟩ := q1
  subst e
  cases r1
  rcases q1 with ⟨⟨xs, hq⟩, q⟩ | ⟨⟨xs, hq⟩, q⟩
  · obtain ⟨its, rv, p, hz⟩ := I1.list hq
    refine wpAny_pyIter_list p.isList ?_
    refine ⟨s1.heap.objs.size, [s1.heap.objs.size], _, _, H1, rfl, I1.kept (t' := s1.toks) fun b o e => Heap.get?_push_of_some _ e, turn_list a _, ⟨_, Heap.get?_push_size _ rfl, rfl, rfl⟩, fun b hb => ?_, q⟩
    have e : b = s1.heap.objs.size := by simpa using hb
    subst e
    exact I1.fpOk (Nat.le_refl _) (I1.hok.fresh (Nat.le_refl _))
  · obtain ⟨its, rv, p, hz⟩ := I1.tuple hq
    refine wpAny_pyIter_tuple (show s1.heap.IsTuple a its.toArray from p) ?_
    refine ⟨s1.heap.objs.size, [s1.heap.objs.size], _, _, H1, rfl, I1.kept (t' := s1.toks) fun b o e => Heap.get?_push_of_some _ e, turn_tuple a _, ⟨_, Heap.get?_push_size _ rfl, rfl, rfl⟩, fun b hb => ?_, q⟩
    have e : b = s1.heap.objs.size := by simpa using hb
    subst e
    exact I1.fpOk (Nat.le_refl _) (I1.hok.fresh (Nat.le_refl _))
def srcR (r : R) : Res (List R) := match itemsD r.d with
  | some ds => .ok (ds.map (sub r.s))
  | none => .bad
/-- for a for: what one looks at only may change -/
def srcS (p : Px) : Src := fun ρ => (p ρ).bind fun r => if r.s = .view then .bad else srcR r
def srcC (p : Px) : Src := fun ρ => (p ρ).bind srcR
section
variable {K : PySem.W.Frag} {E : XK} {Z O H Z' O' H' : Hp} {F G : List Addr}
/-- a result stands while others change -/
theorem RepR.stay {v : V} {r : R} (h : RepR K Z O H v r G) (ez : Same Z Z') (eo : Same O O') (k : ∀ a o, H a = some o → a ∉ F → (∀ ps, o ≠ .tbl ps) → H' a = some o) (dj : ∀ a ∈ G, a ∉ F) (nv : r.s = .view → F = []) : RepR K Z' O' H' v r G := by
  by_cases e : r.s = .view
  · have ef := nv e
    subst ef
    exact h.sameM ez eo fun a o q n => k a o q (by simp) n
  · exact h.keep e ez eo fun a ha o q n => k a o q (dj a ha) n
theorem sub_rep {s : Sx} {d : D} {v : V} (g : Good Z O H) (rv : Rep K H v d) (ri : s = .imm → Rep K Z v d) (ro : s = .out → Rep K O v d) : RepR K Z O H v (Oz.sub s d) [] := by
  unfold Oz.sub
  by_cases l : lf d = true
  · rw [if_pos l]
    exact ⟨rv.up g.tz l, rfl⟩
  · rw [if_neg l]
    cases s with
    | imm => exact ⟨ri rfl, rfl⟩
    | out => exact ⟨ro rfl, rfl⟩
    | view => exact ⟨rv, rfl⟩
    | own => exact ⟨rv, rfl⟩
    | brw => exact ⟨rv, rfl⟩
    | tab => exact ⟨rv, rfl⟩
/-- the items of a row -/
theorem RepR.items {v : V} {r : R} {ds : List D} (g : Good Z O H) (h : RepR K Z O H v r G) (e : itemsD r.d = some ds) :
    ∃ a xs, v = .ref a ∧ ((r.d = .list ds ∧ H a = some (.lst xs)) ∨ (r.d = .tuple ds ∧ SqT K H a xs)) ∧ xs.length = ds.length ∧
      ∀ (i : Nat) (d : D), ds[i]? = some d → ∃ x, xs[i]? = some x ∧ RepR K Z O H x (Oz.sub r.s d) [] := by
  obtain ⟨s, d⟩ := r
  have lk := h.look g
  rcases items_kind e with e1 | e1
  · have e2 : d = .list ds := e1
    subst e2
    cases lk with
    | lst hh rr =>
      refine ⟨_, _, rfl, .inl ⟨rfl, hh⟩, rr.length, fun i d hd => ?_⟩
      obtain ⟨x, hx, rx⟩ := rr.get hd
      refine ⟨x, hx, sub_rep g rx (fun es => ?_) fun es => ?_⟩
      · obtain ⟨p1, v1, z1, z2, z3⟩ := h.zlist es
        cases z1
        have u := g.zh _ _ z2
        rw [hh] at u
        cases u
        obtain ⟨x', hx', rx'⟩ := z3.get hd
        rw [hx] at hx'
        cases hx'
        exact rx'
      · subst es
        obtain ⟨h1, _⟩ := h
        have h2 : Rep K O _ (.list ds) := h1
        cases h2 with
        | lst ho ro =>
          have u := g.oh _ _ ho
          rw [hh] at u
          cases u
          obtain ⟨x', hx', rx'⟩ := ro.get hd
          rw [hx] at hx'
          cases hx'
          exact rx'
  · have e2 : d = .tuple ds := e1
    subst e2
    by_cases es : s = .imm
    · obtain ⟨p1, v1, z1, z2, z3⟩ := h.ztup es
      refine ⟨p1, v1, z1, .inr ⟨rfl, Same.seqT g.zh z2⟩, z3.length, fun i d hd => ?_⟩
      obtain ⟨x, hx, rx⟩ := z3.get hd
      exact ⟨x, hx, sub_rep g (rx.mono g.zh) (fun _ => rx) fun e2 => by rw [es] at e2; cases e2⟩
    · by_cases eo : s = .out
      · subst eo
        obtain ⟨h1, _⟩ := h
        have h2 : Rep K O v (.tuple ds) := h1
        cases h2 with
        | tup ho ro =>
          refine ⟨_, _, rfl, .inr ⟨rfl, Same.seqT g.oh ho⟩, ro.length, fun i d hd => ?_⟩
          obtain ⟨x, hx, rx⟩ := ro.get hd
          exact ⟨x, hx, sub_rep g (rx.mono g.oh) (fun e2 => by cases e2) fun _ => rx⟩
      · cases lk with
        | tup hh rr =>
          refine ⟨_, _, rfl, .inr ⟨rfl, hh⟩, rr.length, fun i d hd => ?_⟩
          obtain ⟨x, hx, rx⟩ := rr.get hd
          exact ⟨x, hx, sub_rep g rx (fun e2 => absurd e2 es) fun e2 => absurd e2 eo⟩
theorem wlk_list {a : Addr} {r : R} {ds : List D} (h : RepR K Z O H (.ref a) r G) (e : r.d = .list ds) (dj : ∀ c ∈ G, c ∉ F) (nv : r.s = .view → F = []) : Wlk K (Itl K a) (ds.map (Oz.sub r.s)) Z O H F := by
  intro Z1 O1 H1 g ez eo k i hi
  have h1 := h.stay ez eo k dj nv
  obtain ⟨b, xs, eb, hk, hl, it⟩ := h1.items g (show itemsD r.d = some ds by rw [e]; rfl)
  cases eb
  rcases hk with ⟨_, hx⟩ | ⟨z, _⟩
  · refine ⟨fun ei => ⟨xs, .inl (.inl hx), by rw [hl, ei, List.length_map]; exact Nat.le_refl _⟩, fun rr hr => ?_⟩
    rw [List.getElem?_map] at hr
    cases hd : ds[i]? with
    | none => rw [hd] at hr; cases hr
    | some d =>
      rw [hd] at hr
      cases hr
      obtain ⟨x, h2, h3⟩ := it i d hd
      refine ⟨⟨xs, x, .inl (.inl hx), h2⟩, fun y H' hy => ?_⟩
      obtain ⟨rfl, hy⟩ := hy
      have := hy xs (.inl (.inl hx))
      rw [h2] at this
      cases this
      exact ⟨Z1, O1, Ext.refl _ _ _ _, g, h3⟩
  · rw [e] at z; cases z
theorem wlk_tup {a : Addr} {r : R} {ds : List D} (h : RepR K Z O H (.ref a) r G) (e : r.d = .tuple ds) (dj : ∀ c ∈ G, c ∉ F) (nv : r.s = .view → F = []) : Wlk K (Itt K a) (ds.map (Oz.sub r.s)) Z O H F := by
  intro Z1 O1 H1 g ez eo k i hi
  have h1 := h.stay ez eo k dj nv
  obtain ⟨b, xs, eb, hk, hl, it⟩ := h1.items g (show itemsD r.d = some ds by rw [e]; rfl)
  cases eb
  rcases hk with ⟨z, _⟩ | ⟨_, hx⟩
  · rw [e] at z; cases z
  · refine ⟨fun ei => ⟨xs, hx, by rw [hl, ei, List.length_map]; exact Nat.le_refl _⟩, fun rr hr => ?_⟩
    rw [List.getElem?_map] at hr
    cases hd : ds[i]? with
    | none => rw [hd] at hr; cases hr
    | some d =>
      rw [hd] at hr
      cases hr
      obtain ⟨x, h2, h3⟩ := it i d hd
      refine ⟨⟨xs, x, hx, h2⟩, fun y H' hy => ?_⟩
      obtain ⟨rfl, hy⟩ := hy
      have := hy xs hx
      rw [h2] at this
      cases this
      exact ⟨Z1, O1, Ext.refl _ _ _ _, g, h3⟩
/-- the walk of a row, from where it stands -/
theorem seq_walk {v : V} {r : R} {ds : List D} (g : Good Z O H) (h : RepR K Z O H v r G) (e : itemsD r.d = some ds) (dj : ∀ c ∈ G, c ∉ F) (nv : r.s = .view → F = []) {R : It → Hp → Prop} (q : ∀ J, Wlk K J (ds.map (Oz.sub r.s)) Z O H F → R J H) :
    ∃ a, v = .ref a ∧ (((∃ xs, SqL K H a xs) ∧ R (Itl K a) H) ∨ ((∃ xs, SqT K H a xs) ∧ R (Itt K a) H)) := by
  obtain ⟨a, xs, ea, hk, hl, it⟩ := h.items g e
  subst ea
  rcases hk with ⟨e1, hx⟩ | ⟨e1, hx⟩
  · exact ⟨a, rfl, .inl ⟨⟨xs, .inl (.inl hx)⟩, q _ (wlk_list h e1 dj nv)⟩⟩
  · exact ⟨a, rfl, .inr ⟨⟨xs, hx⟩, q _ (wlk_tup h e1 dj nv)⟩⟩
end
theorem srcR_some {r : R} {rs : List R} (h : srcR r = .ok rs) : ∃ ds, itemsD r.d = some ds ∧ rs = ds.map (sub r.s) := by
  unfold srcR at h
  cases e : itemsD r.d with
  | none => rw [e] at h; cases h
  | some ds => rw [e] at h; cases h; exact ⟨ds, rfl, rfl⟩
section
variable {K : PySem.W.Frag} {E : XK}
theorem srcS_ok {p : Px} : IOk K E (iSeq K (tP K E p)) (srcS p) := fun σ H R q => by
  obtain ⟨Z, O, ρ, F, rl, q⟩ := q
  refine ⟨Z, O, ρ, F, rl, ?_⟩
  unfold srcS at q
  cases e : p ρ with
  | bad => rw [e] at q; exact q.elim
  | exc c fs => rw [e] at q; exact q
  | ok r =>
    rw [e] at q
    have q2 : match (if r.s = .view then (.bad : Res (List Oz.R)) else srcR r) with
      | .bad => False
      | .exc c fs => ExcK K E Z O H c fs
      | .ok rs => ∀ J H' Z' O', Ext [] Z O H Z' O' H' → Good Z' O' H' → Wlk K J rs Z' O' H' F → R J H' := q
    by_cases c : r.s = .view
    · rw [if_pos c] at q2; exact q2.elim
    · rw [if_neg c] at q2
      intro v H1 Z1 O1 G x g w nd fr
      cases e2 : srcR r with
      | bad => rw [e2] at q2; exact q2.elim
      | exc c fs => unfold srcR at e2; cases e3 : itemsD r.d <;> rw [e3] at e2 <;> cases e2
      | ok rs =>
        rw [e2] at q2
        obtain ⟨ds, e3, rfl⟩ := srcR_some e2
        refine seq_walk (F := F) g w e3 (fun a ha z => ?_) (fun z => absurd z c) fun J wl => q2 J H1 Z1 O1 x g wl
        obtain ⟨o, y, _⟩ := rl.sl.live a z
        rw [(fr a ha).1.elim id fun z => by cases z] at y
        cases y
theorem srcC_ok {p : Px} : IOc K E (iSeq K (tP K E p)) (srcC p) := fun σ H R q => by
  obtain ⟨Z, O, ρ, F, rl, q⟩ := q
  refine ⟨Z, O, ρ, F, rl, ?_⟩
  unfold srcC at q
  cases e : p ρ with
  | bad => rw [e] at q; exact q.elim
  | exc c fs => rw [e] at q; exact q
  | ok r =>
    rw [e] at q
    have q2 : match srcR r with
      | .bad => False
      | .exc c fs => ExcK K E Z O H c fs
      | .ok rs => ∀ J H' Z' O', Ext [] Z O H Z' O' H' → Good Z' O' H' → Wlk K J rs Z' O' H' [] → R J H' := q
    intro v H1 Z1 O1 G x g w nd fr
    cases e2 : srcR r with
    | bad => rw [e2] at q2; exact q2.elim
    | exc c fs => unfold srcR at e2; cases e3 : itemsD r.d <;> rw [e3] at e2 <;> cases e2
    | ok rs =>
      rw [e2] at q2
      obtain ⟨ds, e3, rfl⟩ := srcR_some e2
      exact seq_walk (F := []) g w e3 (fun a ha z => by cases z) (fun z => rfl) fun J wl => q2 J H1 Z1 O1 x g wl

/-! ### ranges -/
def irng (lo : Int) (n : Nat) : List R := (List.range n).map fun (k : Nat) => ⟨.imm, .int (lo + (k : Int))⟩
theorem wlk_range {Z O H : Hp} {F : List Addr} {lo : Int} {n : Nat} : Wlk K (Itr lo n) (irng lo n) Z O H F := by
  intro Z1 O1 H1 g ez eo k i hi
  have hl : (irng lo n).length = n := by unfold irng; simp
  refine ⟨fun ei => by show n ≤ i; omega, fun r hr => ?_⟩
  obtain ⟨hi2, er⟩ := List.getElem?_eq_some_iff.mp hr
  refine ⟨by show i < n; omega, fun x H' hy => ?_⟩
  obtain ⟨rfl, rfl⟩ := hy
  refine ⟨Z1, O1, Ext.refl _ _ _ _, g, ?_⟩
  have e : r = ⟨.imm, .int (lo + (i : Int))⟩ := by
    unfold irng at hr
    rw [List.getElem?_map, List.getElem?_range (by omega)] at hr
    exact (Option.some.inj hr).symm
  rw [e]
  exact ⟨.int _, rfl⟩
noncomputable def inR (i : Int) : Bool := gd (decide (-(2 ^ 62) ≤ i) && decide (i < 2 ^ 62))
theorem inR_eq {i : Int} : inR i = (decide (-(2 ^ 62) ≤ i) && decide (i < 2 ^ 62)) := gd_eq _
noncomputable def srcR1 (p : Px) : Src := fun ρ => (p ρ).bind fun r => match r.d with
  | .int j => if inR j = true then .ok (irng 0 j.toNat) else .bad
  | _ => .bad
noncomputable def srcR2 (p q : Px) : Src := fun ρ => (p ρ).bind fun a => (q ρ).bind fun b => match a.d, b.d with
  | .int i, .int j => if inR i = true ∧ inR j = true then .ok (irng i (j - i).toNat) else .bad
  | _, _ => .bad
theorem inR_ok {i : Int} (h : inR i = true) : -(2 ^ 62) ≤ i ∧ i < 2 ^ 62 := by
  rw [inR_eq] at h
  obtain ⟨h1, h2⟩ := Bool.and_eq_true_iff.mp h
  exact ⟨of_decide_eq_true h1, of_decide_eq_true h2⟩
theorem srcR1_ok {p : Px} : IOk K E (iRng1 (tA K E [p])) (srcR1 p) := fun σ H R q => by
  obtain ⟨Z, O, ρ, F, rl, q⟩ := q
  refine ⟨Z, O, ρ, F, rl, ?_⟩
  unfold srcR1 at q
  have ev : evs [p] ρ = (p ρ).bind fun r => .ok [r] := rfl
  rw [ev]
  cases e : p ρ with
  | bad => rw [e] at q; exact q.elim
  | exc c fs => rw [e] at q; exact q
  | ok r =>
    rw [e] at q
    obtain ⟨s, d⟩ := r
    cases d with
    | int j =>
      have q2 : match (if inR j = true then (.ok (irng 0 j.toNat) : Res (List Oz.R)) else .bad) with
        | .bad => False
        | .exc c fs => ExcK K E Z O H c fs
        | .ok rs => ∀ J H' Z' O', Ext [] Z O H Z' O' H' → Good Z' O' H' → Wlk K J rs Z' O' H' F → R J H' := q
      by_cases c : inR j = true
      · rw [if_pos c] at q2
        intro vs H1 Z1 O1 G x g w nd fr
        cases w with
        | cons w1 w2 =>
          cases w2
          have lk := w1.look g
          cases lk
          obtain ⟨h1, h2⟩ := inR_ok c
          exact ⟨j, rfl, h1, h2, q2 _ H1 Z1 O1 x g wlk_range⟩
      · rw [if_neg c] at q2; exact q2.elim
    | _ => exact q.elim
end
end Oz

namespace Oz
open PySem PySem.Spec L2
open PyProof.Rows hiding St
variable [WD]

/-! ### targets -/
abbrev Tgx := R → Ev → Option Ev
abbrev Tgxs := List R → Ev → Option Ev
/-- the frame behind a store -/
structure Stored (K : PySem.W.Frag) (Z O H : Hp) (σ : St) (ρ : Ev) (F G : List Addr) (σ' : St) (ρ' : Ev) (F' : List Addr) : Prop where
  rl : Rel K Z O H σ' ρ' F'
  nv : nov ρ' = true
  sub : ∀ a ∈ F', a ∈ F ∨ a ∈ G
  len : σ'.length = σ.length
  brw : ∀ (j : Nat) (d : D), ρ[j]? = some (some (R.mk .brw d)) → σ'[j]? = σ[j]? ∧ ∃ d', ρ'[j]? = some (some (R.mk .brw d'))
inductive Its0 (K : PySem.W.Frag) (Z O H : Hp) : List V → List R → Prop
  | nil : Its0 K Z O H [] []
  | cons {v : V} {vs : List V} {r : R} {rs : List R} : RepR K Z O H v r [] → Its0 K Z O H vs rs → Its0 K Z O H (v :: vs) (r :: rs)
def GOk (K : PySem.W.Frag) (t : TG) (tg : Tgx) : Prop := ∀ Z O H σ ρ F v r G ρ', Rel K Z O H σ ρ F → nov ρ = true → RepR K Z O H v r G → G.Nodup → (∀ a ∈ G, a ∉ F) → (∀ a ∈ G, O a = none) → tg r ρ = some ρ' →
  ∀ Q : St → Hp → Prop, (∀ σ' F', Stored K Z O H σ ρ F G σ' ρ' F' → Q σ' H) → t v σ H Q
def GsOk (K : PySem.W.Frag) (t : TGs) (tg : Tgxs) : Prop := ∀ Z O H σ ρ F vs rs ρ', Rel K Z O H σ ρ F → nov ρ = true → Its0 K Z O H vs rs → tg rs ρ = some ρ' →
  ∀ Q : St → Hp → Prop, (∀ σ' F', Stored K Z O H σ ρ F [] σ' ρ' F' → Q σ' H) → t vs σ H Q
def gN (i : Nat) : Tgx := fun r ρ => setS i r ρ
def gsN : Tgxs := fun rs ρ => match rs with
  | [] => some ρ
  | _ => none
def gsC (t : Tgx) (u : Tgxs) : Tgxs := fun rs ρ => match rs with
  | [] => none
  | r :: rs => (match t r ρ with
    | some ρ' => u rs ρ'
    | none => none)
def gT (n : Nat) (t : Tgxs) : Tgx := fun r ρ => match r.d with
  | .tuple ds => if ds.length = n then t (ds.map (sub r.s)) ρ else none
  | _ => none
section
variable {K : PySem.W.Frag}
theorem g_name {i : Nat} : GOk K (gName i) (gN i) := fun Z O H σ ρ F v r G ρ' rl n q nd dj fo e Q k => by
  obtain ⟨F', rl', n', sub, ln, bw⟩ := rl.set n q nd dj fo e
  exact k _ F' ⟨rl', n', sub, ln, bw⟩
theorem gs_nil : GsOk K gNil gsN := fun Z O H σ ρ F vs rs ρ' rl n q e Q k => by
  cases q with
  | nil => cases e; exact ⟨rfl, k σ F ⟨rl, n, fun a h => .inl h, rfl, fun j d h => ⟨rfl, d, h⟩⟩⟩
  | cons _ _ => cases e
theorem Stored.trans {Z O H : Hp} {σ σ1 σ2 : St} {ρ ρ1 ρ2 : Ev} {F F1 F2 : List Addr} (a : Stored K Z O H σ ρ F [] σ1 ρ1 F1) (b : Stored K Z O H σ1 ρ1 F1 [] σ2 ρ2 F2) : Stored K Z O H σ ρ F [] σ2 ρ2 F2 :=
  ⟨b.rl, b.nv, fun c h => (b.sub c h).elim (a.sub c) .inr, b.len.trans a.len, fun j d h => by
    obtain ⟨e1, d1, h1⟩ := a.brw j d h
    obtain ⟨e2, d2, h2⟩ := b.brw j d1 h1
    exact ⟨e2.trans e1, d2, h2⟩⟩
theorem gs_cons {t : TG} {u : TGs} {tg : Tgx} {ug : Tgxs} (h1 : GOk K t tg) (h2 : GsOk K u ug) : GsOk K (gCons t u) (gsC tg ug) := fun Z O H σ ρ F vs rs ρ' rl n q e Q k => by
  cases q with
  | nil => cases e
  | cons q1 q2 =>
    rename_i v vs r rs
    unfold gsC at e
    cases z : tg r ρ with
    | none => simp only [z] at e; cases e
    | some ρ1 =>
      simp only [z] at e
      exact ⟨v, vs, rfl, h1 Z O H σ ρ F v r [] ρ1 rl n q1 List.nodup_nil (fun a h => by cases h) (fun a h => by cases h) z _ fun σ1 F1 s1 =>
        h2 Z O H σ1 ρ1 F1 vs rs ρ' s1.rl s1.nv q2 e _ fun σ2 F2 s2 => k σ2 F2 (s1.trans s2)⟩
theorem RepR.unpack {Z O H : Hp} {v : V} {r : R} {G : List Addr} {ds : List D} (g : Good Z O H) (h : RepR K Z O H v r G) (e : r.d = .tuple ds) : ∃ a xs, v = .ref a ∧ SqT K H a xs ∧ xs.length = ds.length ∧ Its0 K Z O H xs (ds.map (Oz.sub r.s)) := by
  obtain ⟨a, xs, ea, hk, hl, it⟩ := h.items g (show itemsD r.d = some ds by rw [e]; rfl)
  rcases hk with ⟨z, _⟩ | ⟨-, hx⟩
  · rw [e] at z; cases z
  · refine ⟨a, xs, ea, hx, hl, ?_⟩
    clear hx e
    induction ds generalizing xs with
    | nil =>
      cases xs with
      | nil => exact .nil
      | cons _ _ => simp at hl
    | cons d ds ih =>
      cases xs with
      | nil => simp at hl
      | cons x xs =>
        obtain ⟨y, hy, ry⟩ := it 0 d rfl
        have ex : x = y := by simpa using hy
        subst ex
        exact .cons ry (ih xs (by simpa using hl) fun i d' h => by simpa using it (i + 1) d' (by simpa using h))
theorem g_tup {n : Nat} {t : TGs} {tg : Tgxs} (h : GsOk K t tg) : GOk K (gTup K n t) (gT n tg) := fun Z O H σ ρ F v r G ρ' rl nv q nd dj fo e Q k => by
  unfold gT at e
  obtain ⟨s, d⟩ := r
  cases d with
  | tuple ds =>
    have e2 : (if ds.length = n then tg (ds.map (Oz.sub s)) ρ else none) = some ρ' := e
    by_cases c : ds.length = n
    · rw [if_pos c] at e2
      obtain ⟨a, xs, ea, hx, hl, it⟩ := q.unpack rl.g rfl
      exact ⟨a, xs, ea, hx, hl.trans c, h Z O H σ ρ F xs _ ρ' rl nv it e2 Q fun σ' F' s' => k σ' F' ⟨s'.rl, s'.nv, (fun a ha => (s'.sub a ha).imp id fun z => by cases z), s'.len, s'.brw⟩⟩
    · rw [if_neg c] at e2; cases e2
  | _ => cases e
end
/-- a, b = e -/
def sAsgT (g : Tgx) (p : Px) : Stx := fun ρ => match p ρ with
  | .bad => .bad
  | .exc c fs => .exc c fs ρ
  | .ok r => (match g r ρ with
    | some ρ' => .next ρ'
    | none => .bad)
theorem s_asgT {X : Cx} {E : XK} {tg e : Expr} {p : Px} {t : TG} {g : Tgx} {pos : Pos} (he : PE X e (tP X.K E p)) (hg : PG X tg t) (gk : GOk X.K t g) (hs : swapsWithSole [tg] e pos.line X.env = pure false := by rfl) (hw : swappedStores [tg] e X.env = pure none := by rfl)
    (h1 : (assignEach [tg] X.env).map (·.2) = [assign tg X.env] := by rfl) : PS X (.Assign [tg] e pos) (tS X.K E (sAsgT g p)) := by
  refine (ps_asg he hg hs hw h1).imp fun D σ H h => ?_
  refine tS_expr (s := fun r ρ => match g r ρ with | some ρ' => .next ρ' | none => .bad) h fun Z0 O0 Z O H1 ρ F G v r rl n q nd dj fo fh tr h2 => ?_
  cases z : g r ρ with
  | none => rw [z] at h2; exact h2.elim
  | some ρ' =>
    rw [z] at h2
    refine gk Z O H1 σ ρ F v r G ρ' rl n q nd dj fo z _ fun σ' F' st => ?_
    exact h2 _ H1 Z O F' st.rl st.nv ⟨⟨tr.tr.z, tr.tr.keep, tr.tr.zn, fun a ha => (st.sub a ha).imp id (fh a), tr.tr.fr, tr.tr.tab⟩, tr.o, st.len, st.brw, tr.on⟩

/-! ### for -/
def loopS (g : Tgx) (b : Stx) : List R → Ev → SR
  | [], ρ => .next ρ
  | r :: rs, ρ => (match g r ρ with
    | none => .bad
    | some ρ1 => (match b ρ1 with
      | .next ρ2 => loopS g b rs ρ2
      | x => x))
def sFor (src : Src) (g : Tgx) (b : Stx) : Stx := fun ρ => match src ρ with
  | .bad => .bad
  | .exc c fs => .exc c fs ρ
  | .ok rs => loopS g b rs ρ
theorem s_for {X : Cx} {E : XK} {tg iter : Expr} {body : List Stmt} {w : TI} {src : Src} {t : TG} {g : Tgx} {b : Stx} {pos : Pos} (hp : PassesOwn (model X.prog X.w) X.A X.env X.xe) (hc : X.calm = true) (hi : PI X tg iter w) (ik : IOk X.K E w src) (hg : PG X tg t) (gk : GOk X.K t g)
    (hb : PSs X body (tS X.K E b)) (hs : ∀ x, foldedSetIterable iter X.env x = pure x := by exact fun _ => rfl) : PS X (.For tg iter body [] pos) (tS X.K E (sFor src g b)) := by
  refine (ps_for hp hc hi hg hb hs).imp fun D σ H h => ?_
  obtain ⟨Z, O, ρ, F, rl, n, h⟩ := h
  refine ik σ H _ ⟨Z, O, ρ, F, rl, ?_⟩
  unfold sFor at h
  cases e : src ρ with
  | bad => rw [e] at h; exact h.elim
  | exc c fs => rw [e] at h; exact SRK.exc rl h
  | ok rs =>
    rw [e] at h
    have h1 : SRK X.K E Z O H σ ρ F D.nx D.rt (loopS g b rs ρ) := h
    intro J H1 Z1 O1 x1 g1 wl
    -- what holds ahead of each turn
    refine ⟨fun i m σ' H' => m = rs.length - i ∧ i ≤ rs.length ∧ ∃ Z' O' ρ' F', Rel X.K Z' O' H' σ' ρ' F' ∧ nov ρ' = true ∧ TrS Z1 O1 H1 σ ρ F Z' O' H' σ' ρ' F' ∧ SRK X.K E Z' O' H' σ' ρ' F' D.nx D.rt (loopS g b (rs.drop i) ρ'),
      ⟨rs.length, by simp, Nat.zero_le _, Z1, O1, ρ, F, rl.ext x1 g1, n, TrS.refl _ _ _ _ _ _, SRK.from h1 (TrS.ext x1)⟩, ?_⟩
    rintro i m σ' H' ⟨em, hi', Z', O', ρ', F', rl', n', tr, sk⟩
    obtain ⟨w1, w2⟩ := wl Z' O' H' rl'.g tr.tr.z tr.o tr.tr.keep i hi'
    by_cases hlt : i < rs.length
    · obtain ⟨go, yl⟩ := w2 rs[i] (List.getElem?_eq_getElem hlt)
      have ed : rs.drop i = rs[i] :: rs.drop (i + 1) := List.drop_eq_getElem_cons hlt
      rw [ed] at sk
      refine .inr ⟨go, fun σ2 H2 => ∃ Z2 O2 ρ2 F2, Rel X.K Z2 O2 H2 σ2 ρ2 F2 ∧ nov ρ2 = true ∧ TrS Z1 O1 H1 σ ρ F Z2 O2 H2 σ2 ρ2 F2 ∧ SRK X.K E Z2 O2 H2 σ2 ρ2 F2 D.nx D.rt (loopS g b (rs.drop (i + 1)) ρ2),
        fun σ2 H2 ⟨Z2, O2, ρ2, F2, q1, q2, q3, q4⟩ => ⟨rs.length - (i + 1), by omega, rfl, hlt, Z2, O2, ρ2, F2, q1, q2, q3, q4⟩, fun x H2 hy => ?_⟩
      obtain ⟨Z2, O2, x2, g2, r2⟩ := yl x H2 hy
      have rl2 := rl'.ext x2 g2
      have tr2 := tr.trans (TrS.ext (σ := σ') (ρ := ρ') (F := F') x2)
      have sk2 := SRK.from sk (TrS.ext (σ := σ') (ρ := ρ') (F := F') x2)
      unfold loopS at sk2
      cases z : g rs[i] ρ' with
      | none => simp only [z] at sk2; exact sk2.elim
      | some ρ3 =>
        simp only [z] at sk2
        refine gk Z2 O2 H2 σ' ρ' F' x rs[i] [] ρ3 rl2 n' r2 List.nodup_nil (fun a h => by cases h) (fun a h => by cases h) z _ fun σ3 F3 st => ?_
        have ts : TrS Z2 O2 H2 σ' ρ' F' Z2 O2 H2 σ3 ρ3 F3 := ⟨⟨Same.refl _, fun a o q _ _ => q, fun a q => .inl q, fun a ha => (st.sub a ha).imp id fun z => (by cases z), fun a h => .inr h, fun a _ h => h⟩, Same.refl _, st.len, st.brw, fun a q => .inl q⟩
        refine ⟨Z2, O2, ρ3, F3, st.rl, st.nv, ?_⟩
        have sk3 := SRK.from sk2 ts
        have tr3 := tr2.trans ts
        cases y : b ρ3 with
        | bad => simp only [y] at sk3; exact sk3.elim
        | ret r ρ4 => simp only [y] at sk3; exact sk3
        | exc c fs ρ4 => simp only [y] at sk3; exact sk3
        | next ρ4 =>
          simp only [y] at sk3
          exact fun σ4 H4 Z4 O4 F4 rl4 n4 tr4 => ⟨Z4, O4, ρ4, F4, rl4, n4, tr3.trans tr4, SRK.from sk3 tr4⟩
    · have ei : i = rs.length := by omega
      refine .inl ⟨w1 ei, ?_⟩
      have ed : rs.drop i = [] := List.drop_eq_nil_of_le (by omega)
      rw [ed] at sk
      exact sk σ' H' Z' O' F' rl' n' (TrS.refl _ _ _ _ _ _)
end Oz

namespace Oz
open PySem PySem.Spec L2
open PyProof.Rows hiding St
variable [WD]

/-! ### the comprehension's own names -/
def wipeE (ρ : Ev) : List Nat → Ev
  | [] => ρ
  | v :: vs => (wipeE ρ vs).set v none
theorem wipe_in {σ : St} {i : Nat} : ∀ {vs : List Nat}, i ∈ vs → i < σ.length → (wipe σ vs)[i]? = some none
  | [], h, _ => by cases h
  | v :: vs, h, hl => by
    unfold wipe
    by_cases e : v = i
    · subst e
      rw [List.getElem?_set_self (by rw [wipe_length]; exact hl)]
    · rw [List.getElem?_set_ne e]
      rcases List.mem_cons.mp h with z | z
      · exact absurd z.symm e
      · exact wipe_in z hl
theorem wipe_set {σ : St} {i : Nat} {x : Option V} {vs : List Nat} (h : i ∈ vs) : wipe (σ.set i x) vs = wipe σ vs := by
  apply List.ext_getElem?
  intro j
  by_cases hj : j ∈ vs
  · by_cases hl : j < σ.length
    · rw [wipe_in hj hl, wipe_in hj (by rw [List.length_set]; exact hl)]
    · rw [List.getElem?_eq_none (by rw [wipe_length, List.length_set]; omega), List.getElem?_eq_none (by rw [wipe_length]; omega)]
  · rw [wipe_out hj, wipe_out hj, List.getElem?_set_ne (fun (e : i = j) => hj (e ▸ h))]
section
variable {K : PySem.W.Frag} {Z O H : Hp} {σ : St} {ρ : Ev} {F : List Addr}
theorem Rel.drop (rl : Rel K Z O H σ ρ F) (v : Nat) : ∃ F', Rel K Z O H (σ.set v none) (ρ.set v none) F' ∧ F'.Sublist F := by
  by_cases hl : v < ρ.length
  · obtain ⟨x, y, F1, G, F2, h1, h2, h3, h4, h5⟩ := rl.sl.focus hl
    have sl := h5 none none [] Z O H (Same.refl _) (Same.refl _) (.inl fun _ _ q _ => q) (fun a _ o q _ => q) rfl
    have sb : (F1 ++ ([] ++ F2)).Sublist F := by
      rw [h3, List.nil_append]
      exact List.Sublist.append (List.Sublist.refl _) (List.sublist_append_right _ _)
    exact ⟨_, ⟨rl.g, rl.nd.sublist sb, fun a ha => rl.fo a (sb.subset ha), sl, rl.tb⟩, sb⟩
  · have e1 : ρ.set v none = ρ := List.set_eq_of_length_le (by omega)
    have e2 : σ.set v none = σ := List.set_eq_of_length_le (by rw [rl.sl.length]; omega)
    rw [e1, e2]
    exact ⟨F, rl, List.Sublist.refl _⟩
theorem Rel.wipe (rl : Rel K Z O H σ ρ F) : ∀ vs : List Nat, ∃ F', Rel K Z O H (L2.wipe σ vs) (wipeE ρ vs) F' ∧ F'.Sublist F
  | [] => ⟨F, rl, List.Sublist.refl _⟩
  | v :: vs => by
    obtain ⟨F1, r1, s1⟩ := rl.wipe vs
    obtain ⟨F2, r2, s2⟩ := r1.drop v
    exact ⟨F2, r2, s2.trans s1⟩
end
theorem nov_wipe {ρ : Ev} (n : nov ρ = true) : ∀ vs : List Nat, nov (wipeE ρ vs) = true
  | [] => n
  | v :: vs => nov_set (nov_wipe n vs) fun d h => by cases h

/-! ### its targets -/
def setC (i : Nat) (r : R) (ρ : Ev) : Option Ev := match ρ[i]? with
  | none => none
  | some (some ⟨.brw, _⟩) => none
  | some _ => if r.s = .own ∨ r.s = .brw then none else some (ρ.set i (some r))
def GOc (K : PySem.W.Frag) (is : List Nat) (t : TG) (tg : Tgx) : Prop := ∀ Z O H σ ρ F v r ρ', Rel K Z O H σ ρ F → RepR K Z O H v r [] → tg r ρ = some ρ' →
  ∀ Q : St → Hp → Prop, (∀ σ' F', Rel K Z O H σ' ρ' F' → F'.Sublist F → (∀ vs, (∀ i ∈ is, i ∈ vs) → wipe σ' vs = wipe σ vs) → Q σ' H) → t v σ H Q
def cN (i : Nat) : Tgx := fun r ρ => setC i r ρ
section
variable {K : PySem.W.Frag}
theorem c_name {i : Nat} : GOc K [i] (gName i) (cN i) := fun Z O H σ ρ F v r ρ' rl q e Q k => by
  unfold cN setC at e
  cases z : ρ[i]? with
  | none => rw [z] at e; cases e
  | some y =>
    rw [z] at e
    have fin : (if r.s = .own ∨ r.s = .brw then none else some (ρ.set i (some r))) = some ρ' → ρ' = ρ.set i (some r) := fun h => by
      by_cases c : r.s = .own ∨ r.s = .brw
      · rw [if_pos c] at h; cases h
      · rw [if_neg c] at h; exact (Option.some.inj h).symm
    have e2 : ρ' = ρ.set i (some r) := by
      cases y with
      | none => exact fin e
      | some q =>
        obtain ⟨s, d⟩ := q
        cases s with
        | brw => cases e
        | _ => exact fin e
    subst e2
    obtain ⟨hl, _⟩ := List.getElem?_eq_some_iff.mp z
    obtain ⟨x, y', F1, G, F2, h1, h2, h3, h4, h5⟩ := rl.sl.focus hl
    have sl := h5 (some v) (some r) [] Z O H (Same.refl _) (Same.refl _) (.inl fun _ _ q _ => q) (fun a _ o q _ => q) (.inl q)
    have sb : (F1 ++ ([] ++ F2)).Sublist F := by
      rw [h3, List.nil_append]
      exact List.Sublist.append (List.Sublist.refl _) (List.sublist_append_right _ _)
    exact k _ _ ⟨rl.g, rl.nd.sublist sb, fun a ha => rl.fo a (sb.subset ha), sl, rl.tb⟩ sb fun vs h => wipe_set (h i (by simp))
end

/-! ### [e for x in xs if t] -/
def compE (g : Tgx) (t : Tx) (p : Px) (ρ0 : Ev) : List R → Option (List R)
  | [] => some []
  | r :: rs => (match g r ρ0 with
    | none => none
    | some ρ1 => (match t ρ1 with
      | .ok b => if b = true then (match p ρ1 with
        | .ok y => (match compE g t p ρ0 rs with
          | some ys => some (y :: ys)
          | none => none)
        | _ => none) else compE g t p ρ0 rs
      | _ => none))
def compR (rs : List R) : Res R := if rs.length ≤ sizeLine then (match owns rs with
  | some ds => .ok ⟨.own, .list ds⟩
  | none => (match frzs rs with
    | some ds => .ok ⟨.imm, .list ds⟩
    | none => .bad)) else .bad
def pComp (vs : List Nat) (src : Src) (g : Tgx) (t : Tx) (p : Px) : Px := fun ρ => if nov ρ = true then (src ρ).bind fun rs => match compE g t p (wipeE ρ vs) rs with
  | some ys => compR ys
  | none => .bad else .bad
def tYesD : Tx := fun _ => .ok true
theorem s_ifs0 {X : Cx} {E : XK} : PTs X [] (tT X.K E tYesD) := ⟨fun pins s σ H Q I h => by
  obtain ⟨Z, O, ρ, F, rl, h⟩ := h
  exact pts_nil.run pins s σ H Q I (h H Z O (Ext.refl _ _ _ _) rl.g)⟩
theorem s_ifs1 {X : Cx} {E : XK} {c : Expr} {t : Tx} (h : PT X c (tT X.K E t)) : PTs X [c] (tT X.K E t) := pts_one h
theorem owns_append : ∀ {xs ys : List R} {ds : List D}, owns (xs ++ ys) = some ds → ∃ d1 d2, owns xs = some d1 ∧ owns ys = some d2 ∧ ds = d1 ++ d2
  | [], ys, ds, h => ⟨[], ds, rfl, h, rfl⟩
  | x :: xs, ys, ds, h => by
    rw [List.cons_append] at h
    unfold owns at h
    cases h1 : ownR x with
    | none => simp only [h1] at h; cases h
    | some d =>
      cases h2 : owns (xs ++ ys) with
      | none => simp only [h1, h2] at h; cases h
      | some ds' =>
        simp only [h1, h2] at h
        cases h
        obtain ⟨d1, d2, e1, e2, e3⟩ := owns_append h2
        exact ⟨d :: d1, d2, by unfold owns; simp only [h1, e1], e2, by rw [e3]; rfl⟩
theorem frzs_append : ∀ {xs ys : List R} {ds : List D}, frzs (xs ++ ys) = some ds → ∃ d1 d2, frzs xs = some d1 ∧ frzs ys = some d2 ∧ ds = d1 ++ d2
  | [], ys, ds, h => ⟨[], ds, rfl, h, rfl⟩
  | x :: xs, ys, ds, h => by
    rw [List.cons_append] at h
    unfold frzs at h
    cases h1 : frzR x with
    | none => simp only [h1] at h; cases h
    | some d =>
      cases h2 : frzs (xs ++ ys) with
      | none => simp only [h1, h2] at h; cases h
      | some ds' =>
        simp only [h1, h2] at h
        cases h
        obtain ⟨d1, d2, e1, e2, e3⟩ := frzs_append h2
        exact ⟨d :: d1, d2, by unfold frzs; simp only [h1, e1], e2, by rw [e3]; rfl⟩
/-- the list so far -/
structure Acc (K : PySem.W.Frag) (Hs Z O H : Hp) (L : Addr) (own : Bool) (acc : List V) (ds : List D) (G : List Addr) : Prop where
  at_ : H L = some (.lst acc)
  zl : Z L = none
  ol : O L = none
  it : if own = true then Owns K Z H acc ds G else Reps K Z acc ds ∧ G = []
  nd : G.Nodup
  ng : L ∉ G
  fr : ∀ a ∈ G, Hs a = none ∧ O a = none
section
variable {K : PySem.W.Frag} {E : XK} {Hs Z O H Z' O' H' : Hp} {L : Addr} {own : Bool} {acc : List V} {ds : List D} {G : List Addr}
theorem Acc.ext (a : Acc K Hs Z O H L own acc ds G) (e : Ext [] Z O H Z' O' H') : Acc K Hs Z' O' H' L own acc ds G := by
  have nn : ∀ {C C' : Hp}, (∀ c, C' c ≠ none → C c ≠ none ∨ H c = none ∨ c ∈ ([] : List Addr)) → ∀ {c : Addr}, C c = none → (∃ o, H c = some o) → C' c = none := fun {C C'} h {c} h1 h2 => by
    cases w : C' c with
    | none => rfl
    | some x =>
      obtain ⟨o, h3⟩ := h2
      rcases h c (by rw [w]; simp) with z | z | z
      · exact absurd h1 z
      · rw [h3] at z; cases z
      · cases z
  refine ⟨e.h.l a.at_, nn e.zn a.zl ⟨_, a.at_⟩, nn e.on a.ol ⟨_, a.at_⟩, ?_, a.nd, a.ng, fun c hc => ⟨(a.fr c hc).1, ?_⟩⟩
  · have := a.it
    cases own with
    | true => exact Owns.mono e.z (fun c _ o q n => e.h.s c o q n) this
    | false => exact ⟨Reps.mono e.z this.1, this.2⟩
  · cases own with
    | true =>
      have it : Owns K Z H acc ds G := a.it
      obtain ⟨o, h1, _⟩ := it.live c hc
      exact nn e.on (a.fr c hc).2 ⟨o, h1⟩
    | false =>
      obtain ⟨_, h⟩ : Reps K Z acc ds ∧ G = [] := a.it
      subst h
      cases hc
/-- one more -/
theorem Acc.push {v : V} {r : R} {G' : List Addr} {d : D} (g : Good Z O H) (a : Acc K Hs Z O H L own acc ds G) (q : RepR K Z O H v r G') (nd : G'.Nodup) (fr : ∀ c ∈ G', Hs c = none ∧ O c = none) (dj : ∀ c ∈ G', c ∉ G ∧ c ≠ L)
    (e : (if own = true then ownR r else frzR r) = some d) (hsL : Hs L = none) :
    Good Z O (upd H L (.lst (acc ++ [v]))) ∧ ∃ G2, Acc K Hs Z O (upd H L (.lst (acc ++ [v]))) L own (acc ++ [v]) (ds ++ [d]) G2 := by
  have gd : Good Z O (upd H L (.lst (acc ++ [v]))) := by
    refine ⟨g.zo, fun c o h => ?_, fun c o h f => ?_, g.nt⟩
    · have ne : c ≠ L := fun z => by rw [z, a.ol] at h; cases h
      rw [upd_ne ne]
      exact g.oh c o h
    · by_cases z : c = L
      · rw [z, upd_same] at h; cases h; cases f
      · rw [upd_ne z] at h; exact g.tz c o h f
  refine ⟨gd, ?_⟩
  cases own with
  | true =>
    have it : Owns K Z H acc ds G := a.it
    obtain ⟨G1, o1, c1⟩ := ownR_ok g q e
    have s1 : ∀ c ∈ G1, c ∈ G' := fun c hc => by
      rcases c1 with z | z
      · rw [z] at hc; exact hc
      · rw [z] at hc; cases hc
    have n1 : G1.Nodup := by
      rcases c1 with z | z
      · rw [z]; exact nd
      · rw [z]; exact List.nodup_nil
    have keep : ∀ {F : List Addr}, L ∉ F → ∀ c ∈ F, ∀ o, H c = some o → (∀ ps, o ≠ .tbl ps) → upd H L (.lst (acc ++ [v])) c = some o := fun {F} n c hc o h _ => by
      rw [upd_ne (fun (z : c = L) => n (z ▸ hc))]; exact h
    refine ⟨G ++ G1, upd_same, a.zl, a.ol, ?_, ?_, fun z => ?_, fun c hc => ?_⟩
    · show Owns K Z _ (acc ++ [v]) (ds ++ [d]) (G ++ G1)
      exact (Owns.mono (Same.refl _) (keep a.ng) it).append (Owns.one (Own.mono (Same.refl _) (keep fun z => (dj L (s1 L z)).2 rfl) o1))
    · rw [List.nodup_append]
      exact ⟨a.nd, n1, fun x hx y hy z => (dj y (s1 y hy)).1 (z ▸ hx)⟩
    · rcases List.mem_append.mp z with z | z
      · exact a.ng z
      · exact (dj L (s1 L z)).2 rfl
    · rcases List.mem_append.mp hc with hc | hc
      · exact a.fr c hc
      · exact fr c (s1 c hc)
  | false =>
    obtain ⟨it, eg⟩ : Reps K Z acc ds ∧ G = [] := a.it
    subst eg
    exact ⟨[], upd_same, a.zl, a.ol, ⟨it.append (.cons (frzR_ok g q e) .nil), rfl⟩, List.nodup_nil, (fun z => by cases z), fun c hc => by cases hc⟩
end
section
variable {K : PySem.W.Frag} {E : XK}
theorem comp_ok {vs : List Nat} {is : List Nat} {w : TI} {src : Src} {t : TG} {g : Tgx} {tt : Tx} {p : Px} {σ : St} {H : Hp} {Q : VK} (ik : IOc K E w src) (gk : GOc K is t g) (hv : ∀ i ∈ is, i ∈ vs) (h : tP K E (pComp vs src g tt p) σ H Q) :
    tLc w t (tT K E tt) (tP K E p) vs σ H Q := by
  obtain ⟨Z, O, ρ, F, rl, h⟩ := h
  refine ik σ H _ ⟨Z, O, ρ, F, rl, ?_⟩
  unfold pComp at h
  by_cases nv : nov ρ = true
  · rw [if_pos nv] at h
    cases e : src ρ with
    | bad => rw [e] at h; exact h.elim
    | exc c fs => rw [e] at h; exact h
    | ok rs =>
      rw [e] at h
      have h1 : ResK K E [] Z O H (match compE g tt p (wipeE ρ vs) rs with
        | some ys => compR ys
        | none => .bad) Q := h
      intro J H1 Z1 O1 x1 g1 wl L nL
      -- how the whole ends
      have zL : Z1 L = none := none_of g1.zh nL
      have oL : O1 L = none := none_of g1.oh nL
      have end_ : ∀ {own : Bool} {acc : List V} {ds : List D} {G : List Addr} {Z2 O2 H2 : Hp} {r : R}, Good Z2 O2 H2 → Ext [] Z1 O1 H1 Z2 O2 H2 → Acc K H1 Z2 O2 H2 L own acc ds G → r = (if own = true then ⟨.own, .list ds⟩ else ⟨.imm, .list ds⟩) → OkK K [] Z O H r Q → Q (.ref L) H2 := fun {own acc ds G Z2 O2 H2 r} g2 x2 a er q => by
        cases own with
        | true =>
          subst er
          have it : Owns K Z2 H2 acc ds G := a.it
          refine q _ H2 Z2 O2 (L :: G) (x1.trans0 x2) g2 (.lst a.at_ it) (List.nodup_cons.mpr ⟨a.ng, a.nd⟩) fun c hc => ?_
          rcases List.mem_cons.mp hc with z | z
          · rw [z]; exact ⟨.inl (x1.h.free nL), a.ol⟩
          · exact ⟨.inl (x1.h.free (a.fr c z).1), (a.fr c z).2⟩
        | false =>
          subst er
          obtain ⟨it, eg⟩ : Reps K Z2 acc ds ∧ G = [] := a.it
          have sz : Same Z2 (upd Z2 L (.lst acc)) := same_new a.zl
          have so : Same O2 (upd O2 L (.lst acc)) := same_new a.ol
          have g3 : Good (upd Z2 L (.lst acc)) (upd O2 L (.lst acc)) H2 := by
            refine ⟨fun c o h => ?_, fun c o h => ?_, fun c o h f => ?_, noT_upd g2.nt nofun⟩
            · by_cases z : c = L
              · subst z; rw [upd_same] at h ⊢; exact h
              · rw [upd_ne z] at h ⊢; exact g2.zo _ _ h
            · by_cases z : c = L
              · subst z; rw [upd_same] at h; rw [← h]; exact a.at_
              · rw [upd_ne z] at h; exact g2.oh _ _ h
            · by_cases z : c = L
              · subst z; rw [a.at_] at h; cases h; cases f
              · rw [upd_ne z]; exact g2.tz _ _ h f
          refine q _ H2 _ _ [] ⟨x1.h.trans x2.h, (x1.z.trans x2.z).trans sz, (x1.o.trans x2.o).trans so, fun c h => ?_, fun c h => ?_⟩ g3 ⟨.lst upd_same (it.mono sz), rfl⟩ List.nodup_nil fun c hc => by cases hc
          · rcases upd_some h with z | z
            · exact (x1.trans0 x2).zn c z
            · rw [z]; exact .inr (.inl (x1.h.free nL))
          · rcases upd_some h with z | z
            · exact (x1.trans0 x2).on c z
            · rw [z]; exact .inr (.inl (x1.h.free nL))
      -- what holds ahead of each turn
      have rl1 := rl.ext x1 g1
      obtain ⟨Fw, rlw, sbw⟩ := rl1.wipe vs
      have nw := nov_wipe nv vs
      -- the rest of the walk, with what is made so far
      let After := fun (i : Nat) (Z2 O2 H2 : Hp) => ∃ (own : Bool) (acc : List V) (ds : List D) (G : List Addr) (ys : List Oz.R) (ds2 : List D), Acc K H1 Z2 O2 H2 L own acc ds G ∧ compE g tt p (wipeE ρ vs) (rs.drop i) = some ys ∧ acc.length + ys.length ≤ sizeLine ∧
        (if own = true then owns ys else frzs ys) = some ds2 ∧ OkK K [] Z O H (if own = true then ⟨.own, .list (ds ++ ds2)⟩ else ⟨.imm, .list (ds ++ ds2)⟩) Q
      refine ⟨fun i m H' => m = rs.length - i ∧ i ≤ rs.length ∧ ∃ Z2 O2 F2, Good Z2 O2 H' ∧ Ext [] Z1 O1 H1 Z2 O2 H' ∧ Rel K Z2 O2 H' (L2.wipe σ vs) (wipeE ρ vs) F2 ∧ L ∉ F2 ∧ (∀ c ∈ F2, ∃ o, H1 c = some o) ∧ After i Z2 O2 H', ⟨rs.length, by simp, Nat.zero_le _, ?_⟩, ?_⟩
      · obtain ⟨x2, g2⟩ := ext_new (o := .lst []) g1 nL rfl
        have lv : ∀ c ∈ Fw, ∃ o, H1 c = some o := fun c hc => let ⟨o, h, _⟩ := rlw.sl.live c hc; ⟨o, h⟩
        have nF : L ∉ Fw := fun z => by
          obtain ⟨o, h⟩ := lv L z
          rw [nL] at h
          cases h
        refine ⟨Z1, O1, Fw, g2, x2, rlw.ext x2 g2, nF, lv, ?_⟩
        show ∃ (own : Bool) (acc : List V) (ds : List D) (G : List Addr) (ys : List Oz.R) (ds2 : List D), _
        cases e2 : compE g tt p (wipeE ρ vs) rs with
        | none => rw [e2] at h1; exact h1.elim
        | some ys =>
          rw [e2] at h1
          have h2 : ResK K E [] Z O H (if ys.length ≤ sizeLine then (match owns ys with
            | some ds => .ok ⟨.own, .list ds⟩
            | none => (match frzs ys with
              | some ds => .ok ⟨.imm, .list ds⟩
              | none => .bad)) else .bad) Q := h1
          by_cases ll : ys.length ≤ sizeLine
          · rw [if_pos ll] at h2
            cases e3 : owns ys with
            | some ds =>
              rw [e3] at h2
              exact ⟨true, [], [], [], ys, ds, ⟨upd_same, zL, oL, .nil, List.nodup_nil, (fun z => by cases z), fun c hc => by cases hc⟩, by rw [List.drop_zero, e2], by simpa using ll, e3, h2⟩
            | none =>
              rw [e3] at h2
              have h3 : ResK K E [] Z O H (match frzs ys with
                | some ds => .ok ⟨.imm, .list ds⟩
                | none => .bad) Q := h2
              cases e4 : frzs ys with
              | none => rw [e4] at h3; exact h3.elim
              | some ds =>
                rw [e4] at h3
                exact ⟨false, [], [], [], ys, ds, ⟨upd_same, zL, oL, ⟨.nil, rfl⟩, List.nodup_nil, (fun z => by cases z), fun c hc => by cases hc⟩, by rw [List.drop_zero, e2], by simpa using ll, e4, h3⟩
          · rw [if_neg ll] at h2
            exact h2.elim
      · rintro i m H' ⟨em, hi, Z2, O2, F2, g2, x2, rl2, nF2, lv2, own, acc, ds, G, ys, ds2, ac, hm, la, ho, hq⟩
        obtain ⟨w1, w2⟩ := wl Z2 O2 H' g2 x2.z x2.o (fun a o q _ n => x2.h.s a o q n) i hi
        by_cases hlt : i < rs.length
        · obtain ⟨go, yl⟩ := w2 rs[i] (List.getElem?_eq_getElem hlt)
          have ed : rs.drop i = rs[i] :: rs.drop (i + 1) := List.drop_eq_getElem_cons hlt
          rw [ed] at hm
          refine .inr ⟨go, fun H4 => ∃ Z4 O4 F4, Good Z4 O4 H4 ∧ Ext [] Z1 O1 H1 Z4 O4 H4 ∧ Rel K Z4 O4 H4 (L2.wipe σ vs) (wipeE ρ vs) F4 ∧ L ∉ F4 ∧ (∀ c ∈ F4, ∃ o, H1 c = some o) ∧ After (i + 1) Z4 O4 H4,
            fun H4 ⟨Z4, O4, F4, q1, q2, q3, q4, q5, q6⟩ => ⟨rs.length - (i + 1), by omega, rfl, hlt, Z4, O4, F4, q1, q2, q3, q4, q5, q6⟩, fun x H3 hy => ?_⟩
          obtain ⟨Z3, O3, x3, g3, r3⟩ := yl x H3 hy
          have rl3 := rl2.ext x3 g3
          have ac3 := ac.ext x3
          unfold compE at hm
          cases z : g rs[i] (wipeE ρ vs) with
          | none => simp only [z] at hm; cases hm
          | some ρ1 =>
            simp only [z] at hm
            refine gk Z3 O3 H3 (L2.wipe σ vs) (wipeE ρ vs) F2 x rs[i] ρ1 rl3 r3 z _ fun σ1 F5 rl5 sb5 wp5 => ?_
            have ww : L2.wipe (L2.wipe σ vs) vs = L2.wipe σ vs := by
              apply List.ext_getElem?
              intro j
              by_cases hj : j ∈ vs
              · by_cases hl : j < σ.length
                · rw [wipe_in hj hl, wipe_in hj (by rw [wipe_length]; exact hl)]
                · rw [List.getElem?_eq_none (by rw [wipe_length, wipe_length]; omega), List.getElem?_eq_none (by rw [wipe_length]; omega)]
              · rw [wipe_out hj]
            refine ⟨(wp5 vs hv).trans ww, Z3, O3, ρ1, F5, rl5, ?_⟩
            cases et : tt ρ1 with
            | bad => simp only [et] at hm; cases hm
            | exc c fs => simp only [et] at hm; cases hm
            | ok b =>
              simp only [et] at hm
              intro H6 Z6 O6 x6 g6
              have rlw6 := (rl3.ext x6 g6)
              have ac6 := ac3.ext x6
              have x16 := (x2.trans0 x3).trans0 x6
              cases b with
              | false =>
                simp only [Bool.false_eq_true, if_false] at hm
                rw [if_neg Bool.false_ne_true]
                exact ⟨Z6, O6, F2, g6, x16, rlw6, nF2, lv2, own, acc, ds, G, ys, ds2, ac6, hm, la, ho, hq⟩
              | true =>
                simp only [if_true] at hm
                rw [if_pos rfl]
                refine ⟨Z6, O6, ρ1, F5, rl5.ext x6 g6, ?_⟩
                cases ep : p ρ1 with
                | bad => simp only [ep] at hm; cases hm
                | exc c fs => simp only [ep] at hm; cases hm
                | ok y =>
                  simp only [ep] at hm
                  cases er : compE g tt p (wipeE ρ vs) (rs.drop (i + 1)) with
                  | none => simp only [er] at hm; cases hm
                  | some ys' =>
                    simp only [er] at hm
                    have ey : y :: ys' = ys := Option.some.inj hm
                    subst ey
                    intro v H7 Z7 O7 G7 x7 g7 q7 n7 f7
                    have ac7 := ac6.ext x7
                    rw [List.length_cons] at la
                    refine ⟨acc, ac7.at_, by omega, ?_⟩
                    -- the new item
                    have hd : ∃ d ds3, (if own = true then ownR y else frzR y) = some d ∧ (if own = true then owns ys' else frzs ys') = some ds3 ∧ ds2 = d :: ds3 := by
                      cases own with
                      | true =>
                        obtain ⟨d1, d2, e1, e2, e3⟩ := owns_append (xs := [y]) (ys := ys') ho
                        unfold owns at e1
                        cases eo : ownR y with
                        | none => simp only [eo] at e1; cases e1
                        | some d =>
                          simp only [eo, owns] at e1
                          cases e1
                          exact ⟨d, d2, rfl, e2, e3⟩
                      | false =>
                        obtain ⟨d1, d2, e1, e2, e3⟩ := frzs_append (xs := [y]) (ys := ys') ho
                        unfold frzs at e1
                        cases eo : frzR y with
                        | none => simp only [eo] at e1; cases e1
                        | some d =>
                          simp only [eo, frzs] at e1
                          cases e1
                          exact ⟨d, d2, rfl, e2, e3⟩
                    obtain ⟨d, ds3, hd1, hd2, hd3⟩ := hd
                    have f7' : ∀ c ∈ G7, H6 c = none := fun c hc => (f7 c hc).1.elim id fun z => by cases z
                    have dj7 : ∀ c ∈ G7, c ∉ G ∧ c ≠ L := fun c hc => by
                      refine ⟨fun z => ?_, fun z => ?_⟩
                      · cases own with
                        | true =>
                          have it : Owns K Z6 H6 acc ds G := ac6.it
                          obtain ⟨o, h, _⟩ := it.live c z
                          rw [f7' c hc] at h
                          cases h
                        | false =>
                          obtain ⟨_, eg⟩ : Reps K Z6 acc ds ∧ G = [] := ac6.it
                          subst eg
                          cases z
                      · have := f7' c hc
                        rw [z, ac6.at_] at this
                        cases this
                    obtain ⟨g8, G8, ac8⟩ := ac7.push g7 q7 n7 (fun c hc => ⟨x16.h.free (f7' c hc), (f7 c hc).2⟩) dj7 hd1 nL
                    refine ⟨Z7, O7, F2, g8, ?_, ?_, nF2, lv2, own, _, _, G8, ys', ds3, ac8, er, by rw [List.length_append, List.length_singleton]; omega, hd2, ?_⟩
                    · have x17 := x16.trans0 x7
                      exact ⟨x17.h.updN nL ⟨fun ps z => (by rw [ac7.at_] at z; cases z), fun _ _ z => (by rw [ac7.at_] at z; cases z)⟩, x17.z, x17.o, x17.zn, x17.on⟩
                    · have rl7 := rlw6.ext x7 g7
                      exact ⟨g8, rl7.nd, rl7.fo, rl7.sl.keep (Same.refl _) (Same.refl _) nw (fun a ha o h _ => by rw [upd_ne (fun (z : a = L) => nF2 (z ▸ ha))]; exact h), fun P hP => upd_tab ⟨fun ps z => (by rw [ac7.at_] at z; cases z), fun _ _ z => (by rw [ac7.at_] at z; cases z)⟩ (rl7.tb P hP)⟩
                    · have e9 : (ds ++ [d]) ++ ds3 = ds ++ ds2 := by rw [hd3, List.append_assoc]; rfl
                      rw [e9]
                      exact hq
        · have ei : i = rs.length := by omega
          refine .inl ⟨w1 ei, ?_⟩
          have ed : rs.drop i = [] := List.drop_eq_nil_of_le (by omega)
          rw [ed] at hm
          have ey : ys = [] := by
            unfold compE at hm
            exact (Option.some.inj hm).symm
          subst ey
          have e3 : ds2 = [] := by
            cases own with
            | true => exact (Option.some.inj ho).symm
            | false => exact (Option.some.inj ho).symm
          subst e3
          rw [List.append_nil] at hq
          exact end_ g2 x2 ac rfl hq
  · rw [if_neg nv] at h
    exact h.elim
end
end Oz

namespace Oz
open PySem PySem.Spec L2
open PyProof.Rows hiding St
variable [WD]

/-! ### comprehensions as rules -/
section
variable {X : Cx} {E : XK} {elt tg iter : Expr} {ifs : List Expr} {scope : Scope} {own : List (Str × Nat)} {pos : Pos} {is : List Nat} {w : TI} {src : Src} {t : TG} {g : Tgx} {tt : Tx} {p : Px}
theorem s_comp (hc : X.calm = true) (hN : X.N.Nodup) (hi : PI X tg iter w) (ik : IOc X.K E w src) (ok : BlkOk X.N X.env.scope scope own) (gk : GOc X.K is t g) (hv : ∀ i ∈ is, i ∈ own.map (·.2))
    (hg : ∀ (s : Shared) (H : Hp) (C : Addr) (cl : List (Str × Addr)) (fp : List Addr), PG (X.blk s H scope (compEnvC scope cl C X.env) fp) tg t)
    (ht : ∀ (s : Shared) (H : Hp) (C : Addr) (cl : List (Str × Addr)) (fp : List Addr), PTs (X.blk s H scope (compEnvC scope cl C X.env) fp) ifs (tT X.K E tt))
    (he : ∀ (s : Shared) (H : Hp) (C : Addr) (cl : List (Str × Addr)) (fp : List Addr), PE (X.blk s H scope (compEnvC scope cl C X.env) fp) elt (tP X.K E p)) (hs : ∀ x, foldedSetIterable iter X.env x = pure x := by exact fun _ => rfl) :
    PE X (.ListComp elt [⟨tg, iter, ifs, 0⟩] scope pos) (tP X.K E (pComp (own.map (·.2)) src g tt p)) := (pe_lc hc hN hi ok hg ht he hs).imp fun σ H Q h => comp_ok ik gk hv h
theorem s_asgComp (i : Nat) {y : Str} {py spos : Pos} (hc : X.calm = true) (hN : X.N.Nodup) (hy : X.N[i]? = some y) (hyl : X.env.scope.names.lookup y = some .local)
    (hsw : swapsWith (.ListComp elt [⟨tg, iter, ifs, 0⟩] scope pos) (some (.Name y py)) spos.line X.env = pure true) (hi : PI X tg iter w) (ik : IOc X.K E w src) (ok : BlkOk X.N X.env.scope scope own) (gk : GOc X.K is t g) (hv : ∀ i ∈ is, i ∈ own.map (·.2))
    (hg : ∀ (s : Shared) (H : Hp) (C : Addr) (cl : List (Str × Addr)) (fp : List Addr), PG (X.blk s H scope (compEnvC scope cl C X.env) fp) tg t)
    (ht : ∀ (s : Shared) (H : Hp) (C : Addr) (cl : List (Str × Addr)) (fp : List Addr), PTs (X.blk s H scope (compEnvC scope cl C X.env) fp) ifs (tT X.K E tt))
    (he : ∀ (s : Shared) (H : Hp) (C : Addr) (cl : List (Str × Addr)) (fp : List Addr), PE (X.blk s H scope (compEnvC scope cl C X.env) fp) elt (tP X.K E p)) (hs : ∀ x, foldedSetIterable iter X.env x = pure x := by exact fun _ => rfl) :
    PS X (.Assign [.Name y py] (.ListComp elt [⟨tg, iter, ifs, 0⟩] scope pos) spos) (tS X.K E (sAsg i (pComp (own.map (·.2)) src g tt p))) := by
  refine (ps_setLc hc hN hy hyl hsw hi ok hg ht he hs).imp fun D σ H h => ?_
  refine comp_ok (E := E) ik gk hv ?_
  refine tS_expr (s := fun r ρ => match setS i r ρ with | some ρ' => .next ρ' | none => .bad) h fun Z0 O0 Z O H1 ρ F G v r rl n q nd dj fo fh tr h2 => ?_
  cases z : setS i r ρ with
  | none => rw [z] at h2; exact h2.elim
  | some ρ' =>
    rw [z] at h2
    obtain ⟨F', rl', n', sub, ln, bw⟩ := rl.set n q nd dj fo z
    exact h2 _ H1 Z O F' rl' n' ⟨⟨tr.tr.z, tr.tr.keep, tr.tr.zn, fun a ha => (sub a ha).imp id (fh a), tr.tr.fr, tr.tr.tab⟩, tr.o, ln, bw, tr.on⟩
end

/-! ### built-ins -/
def BOk (K : PySem.W.Frag) (T : List V → Hp → VK → Prop) (f : List R → Res R) : Prop := ∀ (E : XK) (Z O H : Hp) (vs : List V) (rs : List R) (G : List Addr) (Q : VK), Good Z O H → RepRs K Z O H vs rs G → G.Nodup → (∀ c ∈ G, O c = none) →
  ResK K E G Z O H (f rs) Q → T vs H Q
def pB (f : List R → Res R) (ps : List Px) : Px := fun ρ => (evs ps ρ).bind f
section
variable {X : Cx} {E : XK} {x T : Str} {p pos : Pos} {e : Expr} {es : List Expr} {qs : List Px} {f : List R → Res R} {r : List V → Hp → VK → Prop}
theorem s_callB {id : String} (bk : BOk X.K r f) (hc : CallR X (.builtin id) r) (hg : Gl X x) (hm : X.mg x = none) (hv : bootBuiltins x = some (.builtin id)) (ha : PA X (e :: es) (tA X.K E qs)) (hn : x ≠ "__name__" := by decide) (hdb : (x == ("__debug__" : Str)) = false := by decide)
    (he : starEach (e :: es) X.env = (false, eval e X.env) :: starEach es X.env := by rfl) (hpl : (backTo pos (starEach es X.env)).any (·.1) = false := by rfl) : PE X (.Call (.Name x p) (e :: es) [] pos) (tP X.K E (pB f qs)) :=
  (pe_callB hc hg hm hv ha hn hdb he hpl).imp fun σ H Q h => tA_bind h fun Z O H1 G vs rs g q nd fo h2 _ => bk E Z O H1 vs rs G Q g q nd fo h2
theorem s_callTy {id : String} (bk : BOk X.K r f) (hc : CallR X (.type id) r) (hg : Gl X x) (hm : X.mg x = none) (hv : bootBuiltins x = some (.type id)) (ha : PA X (e :: es) (tA X.K E qs)) (hn : x ≠ "__name__" := by decide) (hdb : (x == ("__debug__" : Str)) = false := by decide)
    (he : starEach (e :: es) X.env = (false, eval e X.env) :: starEach es X.env := by rfl) (hpl : (backTo pos (starEach es X.env)).any (·.1) = false := by rfl) : PE X (.Call (.Name x p) (e :: es) [] pos) (tP X.K E (pB f qs)) :=
  (pe_callTy hc hg hm hv ha hn hdb he hpl).imp fun σ H Q h => tA_bind h fun Z O H1 G vs rs g q nd fo h2 _ => bk E Z O H1 vs rs G Q g q nd fo h2
end
section
variable {K : PySem.W.Frag}
theorem RepRs.one {Z O H : Hp} {vs : List V} {r : R} {G : List Addr} (h : RepRs K Z O H vs [r] G) : ∃ v, vs = [v] ∧ RepR K Z O H v r G := by
  cases h with
  | cons q s => cases s; rw [List.append_nil]; exact ⟨_, rfl, q⟩
theorem RepRs.two {Z O H : Hp} {vs : List V} {r r' : R} {G : List Addr} (h : RepRs K Z O H vs [r, r'] G) : ∃ v v' G1 G2, vs = [v, v'] ∧ RepR K Z O H v r G1 ∧ RepR K Z O H v' r' G2 ∧ G = G1 ++ G2 := by
  cases h with
  | cons q s =>
    obtain ⟨v', e, q2⟩ := s.one
    subst e
    exact ⟨_, v', _, _, rfl, q, q2, rfl⟩
/-- one argument, an answer of its own -/
def b1 (f : D → Option D) : List R → Res R := fun rs => match rs with
  | [r] => (match f r.d with
    | some d => .ok ⟨.imm, d⟩
    | none => .bad)
  | _ => .bad
theorem bok1 {T : List V → Hp → VK → Prop} {f : D → Option D} (h : ∀ (H : Hp) (x : V) (a d : D) (Q : VK), Rep K H x a → f a = some d → (∀ v, (∀ C, Rep K C v d) → Q v H) → T [x] H Q) : BOk K T (b1 f) := fun E Z O H vs rs G Q g q nd fo k => by
  cases rs with
  | nil => exact k.elim
  | cons r rs => cases rs with
    | cons _ _ => exact k.elim
    | nil =>
      obtain ⟨v, rfl, qr⟩ := q.one
      have k2 : ResK K E G Z O H (match f r.d with | some d => .ok ⟨.imm, d⟩ | none => .bad) Q := k
      cases e : f r.d with
      | none => rw [e] at k2; exact k2.elim
      | some d =>
        rw [e] at k2
        exact h H v r.d d Q (qr.look g) e fun v' r' => OkK.imm g k2 (r' Z)
/-- len -/
def fLen : D → Option D
  | .list ds => some (.int (ds.length : Int))
  | .tuple ds => some (.int (ds.length : Int))
  | .str x => if x.length ≤ sizeLine then some (.int (x.length : Int)) else none
  | .dict [(.none, .list ds)] => some (.int (ds.length : Int))
  | .dict ((.none, _) :: _) => none
  | .dict ((.bool _, _) :: _) => none
  | .dict es => some (.int (es.length : Int))
  | _ => none
def rLenA (K : PySem.W.Frag) : List V → Hp → VK → Prop := fun xs H Q => (∃ p ys, xs = [.ref p] ∧ (SqL K H p ys ∨ SqT K H p ys) ∧ Q (.int ys.length) H) ∨ (∃ a kvs, xs = [V.ref a] ∧ H a = some (.dK kvs) ∧ Q (.int kvs.length) H) ∨ (∃ z, xs = [.str z] ∧ z.length ≤ sizeLine ∧ Q (.int z.length) H)
theorem call_lenA {X : Cx} : CallR X (.builtin "len") (rLenA X.K) := CallR.or call_len_seq (CallR.or call_lenD call_len_str)
theorem b_len : BOk K (rLenA K) (b1 fLen) := bok1 fun H x a d Q r e q => by
  cases r with
  | lst h r => cases e; exact .inl ⟨_, _, rfl, .inl (.inl (.inl h)), by rw [r.length]; exact q _ fun _ => .int _⟩
  | scr h r => cases e; exact .inl ⟨_, _, rfl, .inl h.sqL, by rw [r.length]; exact q _ fun _ => .int _⟩
  | tup h r => cases e; exact .inl ⟨_, _, rfl, .inr h, by rw [r.length]; exact q _ fun _ => .int _⟩
  | str x =>
    obtain ⟨h, rfl⟩ := ite_some (c := x.length ≤ sizeLine) e
    exact .inr (.inr ⟨x, rfl, h, q _ fun _ => .int _⟩)
  | dct h k r =>
    rename_i p kvs es
    have hl : kvs.length = es.length := by
      have := congrArg List.length k
      simpa using this.symm
    cases es with
    | nil => cases e; exact .inr (.inl ⟨_, _, rfl, h, by rw [hl]; exact q _ fun _ => .int _⟩)
    | cons e0 es =>
      obtain ⟨k1, v1⟩ := e0
      cases kvs with
      | nil => simp at k
      | cons y ys =>
        simp only [List.map_cons, List.cons.injEq] at k
        obtain ⟨k0, _⟩ := k
        obtain ⟨y1, y2⟩ := y
        subst k0
        cases y1 with
        | inl i => cases e; exact .inr (.inl ⟨_, _, rfl, h, by rw [hl]; exact q _ fun _ => .int _⟩)
        | inr z => cases e; exact .inr (.inl ⟨_, _, rfl, h, by rw [hl]; exact q _ fun _ => .int _⟩)
  | obj h c k r =>
    rename_i es
    cases e2 : es with
    | nil => subst e2; cases e
    | cons _ _ => subst e2; cases e
  | _ => cases e
/-- ints of a row -/
def intsD : List D → Option (List Int)
  | [] => some []
  | .int i :: ds => (match intsD ds with
    | some is => some (i :: is)
    | none => none)
  | _ :: _ => none
def fSum : D → Option D
  | .list ds => (intsD ds).map fun ns => .int ns.sum
  | _ => none
def fInt : D → Option D
  | .int i => some (.int i)
  | .bool b => some (.int (if b then 1 else 0))
  | _ => none
theorem b_int : BOk K (fun xs H Q => (∃ i, xs = [.int i] ∧ Q (.int i) H) ∨ ∃ k, xs = [.bl k] ∧ Q (.int (if k then 1 else 0)) H) (b1 fInt) := bok1 fun H x a d Q r e q => by
  cases r with
  | int i => cases e; exact .inl ⟨i, rfl, q _ fun _ => .int _⟩
  | bl b => cases e; exact .inr ⟨b, rfl, q _ fun _ => .int _⟩
  | _ => cases e
/-- max, min of two -/
def b2i (f : Int → Int → Int) : List R → Res R := fun rs => match rs with
  | [a, b] => (match a.d, b.d with
    | .int i, .int j => .ok ⟨.imm, .int (f i j)⟩
    | _, _ => .bad)
  | _ => .bad
/-- tuple(x), list(x) -/
def bTuple : List R → Res R := fun rs => match rs with
  | [r] => (match r.d with
    | .list ds => tnew r.s ds
    | .tuple _ => if r.s = .imm then .ok r else .bad
    | _ => .bad)
  | _ => .bad
theorem b_tuple : BOk K (fun xs H Q => ∃ p ys, xs = [.ref p] ∧ ((SqL K H p ys ∧ ∀ l, H l = none → Q (.ref l) (upd H l (.tup ys))) ∨ (SqT K H p ys ∧ Q (.ref p) H))) bTuple := fun E Z O H vs rs G Q g q nd fo k => by
  match rs, q, k with
  | [], _, k => exact k.elim
  | _ :: _ :: _, _, k => exact k.elim
  | [r], q, k =>
    obtain ⟨v, rfl, q1⟩ := q.one
    obtain ⟨s, d⟩ := r
    cases d with
    | list ds =>
      have l1 := q1.look g
      cases l1 with
      | lst h r =>
        refine ⟨_, _, rfl, .inl ⟨.inl (.inl h), fun l nl => tnew_ok (s := s) g k r (fun es => ?_) nl⟩⟩
        obtain ⟨p1, v1, z1, z2, z3⟩ := q1.zlist es
        cases z1
        have u := g.zh _ _ z2
        rw [h] at u
        cases u
        exact z3
    | tuple ds =>
      have k2 : ResK K E G Z O H (if s = .imm then .ok ⟨s, .tuple ds⟩ else .bad) Q := k
      by_cases es : s = .imm
      · rw [if_pos es] at k2
        subst es
        obtain ⟨p1, v1, z1, z2, z3⟩ := q1.ztup rfl
        subst z1
        exact ⟨p1, v1, rfl, .inr ⟨Same.seqT g.zh z2, OkK.imm g k2 (.tup z2 z3)⟩⟩
      · rw [if_neg es] at k2; exact k2.elim
    | _ => exact k.elim
def bList : List R → Res R := fun rs => match rs with
  | [r] => (match itemsD r.d with
    | some ds => dnew r.s ds
    | none => .bad)
  | _ => .bad
theorem b_list : BOk K (fun xs H Q => ∃ p ys, xs = [.ref p] ∧ (SqL K H p ys ∨ SqT K H p ys) ∧ ∀ l, H l = none → Q (.ref l) (upd H l (.lst ys))) bList := fun E Z O H vs rs G Q g q nd fo k => by
  match rs, q, k with
  | [], _, k => exact k.elim
  | _ :: _ :: _, _, k => exact k.elim
  | [r], q, k =>
    obtain ⟨v, rfl, q1⟩ := q.one
    obtain ⟨s, d⟩ := r
    have k2 : ResK K E G Z O H (match itemsD d with | some ds => dnew s ds | none => .bad) Q := k
    cases e : itemsD d with
    | none => rw [e] at k2; exact k2.elim
    | some ds =>
      rw [e] at k2
      rcases items_kind e with rfl | rfl
      · have l1 := q1.look g
        cases l1 with
        | lst h r =>
          refine ⟨_, _, rfl, .inl (.inl (.inl h)), fun l nl => dnew_ok (s := s) g k2 r (fun es => ?_) nl⟩
          obtain ⟨p1, v1, z1, z2, z3⟩ := q1.zlist es
          cases z1
          have u := g.zh _ _ z2
          rw [h] at u
          cases u
          exact z3
      · by_cases es : s = .imm
        · obtain ⟨p1, v1, z1, z2, z3⟩ := q1.ztup es
          subst z1
          exact ⟨p1, v1, rfl, .inr (Same.seqT g.zh z2), fun l nl => dnew_ok (s := s) g k2 (z3.mono g.zh) (fun _ => z3) nl⟩
        · have l1 := q1.look g
          cases l1 with
          | tup h r => exact ⟨_, _, rfl, .inr h, fun l nl => dnew_ok (s := s) g k2 r (fun z => absurd z es) nl⟩
/-- - x -/
def pNeg (p : Px) : Px := fun ρ => (p ρ).bind fun r => match r.d with
  | .int i => .ok ⟨.imm, .int (-i)⟩
  | _ => .bad
end
end Oz

namespace Oz
open PySem PySem.Spec L2
open PyProof.Rows hiding St
variable [WD]

/-! ### places within what one owns -/
/-- a place: the slot, what stands there, the whole with another thing there -/
structure Pl where
  i : Nat
  d : D
  put : D → D
abbrev Plx := Ev → Res Pl
structure PlAt (K : PySem.W.Frag) (Z O H : Hp) (σ : St) (ρ : Ev) (F : List Addr) (l : Pl) (v : V) (s : Sx) (F1 G F2 : List Addr) : Prop where
  slot : ∃ d, ρ[l.i]? = some (some ⟨s, d⟩)
  st : s = .own ∨ s = .brw
  eq : F = F1 ++ (G ++ F2)
  own : Own K Z H v l.d G
  back : ∀ (Z' O' H' : Hp) (d : D) (G' : List Addr), Same Z Z' → Same O O' → nov ρ = true → (∀ a ∈ F1 ++ F2, ∀ o, H a = some o → (∀ ps, o ≠ .tbl ps) → H' a = some o) → Own K Z' H' v d G' → Slots K Z' O' H' σ (ρ.set l.i (some ⟨s, l.put d⟩)) (F1 ++ (G' ++ F2))
def tPl (K : PySem.W.Frag) (E : XK) (l : Plx) : TE := fun σ H Q => ∃ Z O ρ F, Rel K Z O H σ ρ F ∧ match l ρ with
  | .bad => False
  | .exc c fs => ExcK K E Z O H c fs
  | .ok l => ∀ v H' Z' O' s F1 G F2, Ext [] Z O H Z' O' H' → Good Z' O' H' → PlAt K Z' O' H' σ ρ F l v s F1 G F2 → Q v H'
section
variable {K : PySem.W.Frag} {E : XK} {Z O H Z' O' H' : Hp} {σ : St} {ρ : Ev} {F F1 G F2 : List Addr} {l : Pl} {v : V} {s : Sx}
theorem PlAt.ext (p : PlAt K Z O H σ ρ F l v s F1 G F2) (e : Ext [] Z O H Z' O' H') : PlAt K Z' O' H' σ ρ F l v s F1 G F2 where
  slot := p.slot
  st := p.st
  eq := p.eq
  own := Own.mono e.z (fun a _ o q n => e.h.s a o q n) p.own
  back := fun Z2 O2 H2 d G' ez eo n k q => by
    refine p.back Z2 O2 H2 d G' (e.z.trans ez) (e.o.trans eo) n (fun a ha o h n => k a ha o (e.h.s a o h n) n) q
/-- a name -/
def plN (i : Nat) : Plx := fun ρ => match ρ[i]? with
  | some (some ⟨.own, d⟩) => .ok ⟨i, d, id⟩
  | some (some ⟨.brw, d⟩) => .ok ⟨i, d, id⟩
  | _ => .bad
theorem plN_ok (rl : Rel K Z O H σ ρ F) {i : Nat} (h : plN i ρ = .ok l) : ∃ v s F1 G F2, σ[i]? = some (some v) ∧ PlAt K Z O H σ ρ F l v s F1 G F2 := by
  unfold plN at h
  cases e : ρ[i]? with
  | none => rw [e] at h; cases h
  | some y =>
    cases y with
    | none => rw [e] at h; cases h
    | some r =>
      obtain ⟨s, d⟩ := r
      obtain ⟨hl, _⟩ := List.getElem?_eq_some_iff.mp e
      obtain ⟨x, y, F1, G, F2, h1, h2, h3, h4, h5⟩ := rl.sl.focus hl
      rw [e] at h2
      cases h2
      cases x with
      | none => exact h4.elim
      | some v =>
        have key : (s = .own ∨ s = .brw) → l = ⟨i, d, id⟩ → ∃ v s F1 G F2, σ[i]? = some (some v) ∧ PlAt K Z O H σ ρ F l v s F1 G F2 := fun hs hl => by
          subst hl
          have q : Own K Z H v d G := by rcases hs with rfl | rfl <;> exact RepS.rep h4 nofun
          refine ⟨v, s, F1, G, F2, h1, ⟨⟨d, e⟩, hs, h3, q, fun Z' O' H' d' G' ez eo n k q' => ?_⟩⟩
          have sl := h5 (some v) (some ⟨s, d'⟩) G' Z' O' H' ez eo (.inr n) k (by rcases hs with rfl | rfl <;> exact .inl q')
          have es : σ.set i (some v) = σ := by
            apply List.ext_getElem?
            intro j
            by_cases ij : i = j
            · subst ij
              obtain ⟨hl2, _⟩ := List.getElem?_eq_some_iff.mp h1
              rw [List.getElem?_set_self hl2, h1]
            · rw [List.getElem?_set_ne ij]
          rw [es] at sl
          exact sl
        cases s with
        | own => rw [e] at h; exact key (.inl rfl) (Res.ok.inj h).symm
        | brw => rw [e] at h; exact key (.inr rfl) (Res.ok.inj h).symm
        | _ => rw [e] at h; cases h
/-- the cells of items -/
theorem Owns.at : ∀ {xs : List V} {ds : List D} {F : List Addr} {i : Nat} {d : D}, Owns K Z H xs ds F → ds[i]? = some d → ∃ x A G B, xs[i]? = some x ∧ F = A ++ (G ++ B) ∧ Own K Z H x d G ∧
    ∀ (Z' H' : Hp) (x' : V) (d' : D) (G' : List Addr), Same Z Z' → (∀ a ∈ A ++ B, ∀ o, H a = some o → (∀ ps, o ≠ .tbl ps) → H' a = some o) → Own K Z' H' x' d' G' → Owns K Z' H' (xs.set i x') (ds.set i d') (A ++ (G' ++ B))
  | _, _, _, _, _, .nil, h => by simp at h
  | _, _, _, 0, d, .cons (F := F) (G := G) q s, h => by
    simp at h
    subst h
    refine ⟨_, [], F, G, rfl, rfl, q, fun Z' H' x' d' G' ez k q' => ?_⟩
    have z := Owns.cons q' (Owns.mono ez (fun a ha => k a (by simpa using ha)) s)
    exact z
  | _, _, _, i + 1, d, .cons (F := F) (G := G) q s, h => by
    obtain ⟨x, A, G0, B, h1, h2, h3, h4⟩ := Owns.at (i := i) s (by simpa using h)
    refine ⟨x, F ++ A, G0, B, by simpa using h1, by rw [h2, List.append_assoc], h3, fun Z' H' x' d' G' ez k q' => ?_⟩
    rw [List.append_assoc]
    refine .cons (Own.mono ez (fun a ha => k a (by simp [ha])) q) (h4 Z' H' x' d' G' ez (fun a ha => k a ?_) q')
    rcases List.mem_append.mp ha with ha | ha
    · simp [ha]
    · simp [ha]
theorem Own.lst_inv {ds : List D} (q : Own K Z H v (.list ds) G) : ∃ a xs G0, v = .ref a ∧ H a = some (.lst xs) ∧ Owns K Z H xs ds G0 ∧ G = a :: G0 := by
  cases q with
  | imm r p => cases p
  | lst h r => exact ⟨_, _, _, rfl, h, r, rfl⟩
theorem set_same {α : Type} {xs : List α} {i : Nat} {x : α} (h : xs[i]? = some x) : xs.set i x = xs := by
  apply List.ext_getElem?
  intro j
  by_cases ij : i = j
  · subst ij
    obtain ⟨hl, _⟩ := List.getElem?_eq_some_iff.mp h
    rw [List.getElem?_set_self hl, h]
  · rw [List.getElem?_set_ne ij]
/-- an item's place -/
theorem PlAt.item {ds : List D} {j : Nat} {d : D} (p : PlAt K Z O H σ ρ F l v s F1 G F2) (nd : F.Nodup) (e : l.d = .list ds) (hj : ds[j]? = some d) :
    ∃ a xs x F1' G' F2', v = .ref a ∧ H a = some (.lst xs) ∧ xs.length = ds.length ∧ xs[j]? = some x ∧ PlAt K Z O H σ ρ F ⟨l.i, d, fun y => l.put (.list (ds.set j y))⟩ x s F1' G' F2' := by
  have q := p.own
  rw [e] at q
  obtain ⟨a, xs, G0, rfl, ha, qs, eg⟩ := q.lst_inv
  obtain ⟨x, A, Gi, B, h1, h2, h3, h4⟩ := qs.at hj
  refine ⟨a, xs, x, F1 ++ (a :: A), Gi, B ++ F2, rfl, ha, qs.length, h1, ⟨p.slot, p.st, ?_, h3, fun Z' O' H' d' G' ez eo n k q' => ?_⟩⟩
  · rw [p.eq, eg, h2]
    simp
  · have ka : H' a = some (.lst xs) := k a (by simp) _ ha nofun
    have qn : Own K Z' H' (.ref a) (.list (ds.set j d')) (a :: (A ++ (G' ++ B))) := by
      refine .lst (xs := xs) ka ?_
      have q5 := h4 Z' H' x d' G' ez (fun c hc o h => k c (by
        rcases List.mem_append.mp hc with hc | hc
        · simp [hc]
        · simp [hc]) o h) q'
      rw [set_same h1] at q5
      exact q5
    have sl := p.back Z' O' H' (.list (ds.set j d')) _ ez eo n (fun c hc o h => k c (by
        rcases List.mem_append.mp hc with hc | hc
        · simp [hc]
        · simp [hc]) o h) qn
    have ee : F1 ++ (a :: A) ++ (G' ++ (B ++ F2)) = F1 ++ ((a :: (A ++ (G' ++ B))) ++ F2) := by simp
    rw [ee]
    exact sl
/-- a place written: its own cell alone has changed -/
theorem PlAt.wrote {d : D} {G' : List Addr} (p : PlAt K Z O H σ ρ F l v s F1 G F2) (rl : Rel K Z O H σ ρ F) (n : nov ρ = true) {a : Addr} (ha : a ∈ G) {o : HO} (fo : fzn o = false) (q : Own K Z (upd H a o) v d G') (nd : G'.Nodup) (fr : ∀ c ∈ G', c ∈ G ∨ (c ∉ F ∧ O c = none)) :
    Rel K Z O (upd H a o) σ (ρ.set l.i (some ⟨s, l.put d⟩)) (F1 ++ (G' ++ F2)) ∧ nov (ρ.set l.i (some ⟨s, l.put d⟩)) = true ∧ TrS Z O H σ ρ F Z O (upd H a o) σ (ρ.set l.i (some ⟨s, l.put d⟩)) (F1 ++ G ++ F2) := by
  have nF := rl.nd
  rw [p.eq] at nF
  obtain ⟨n1, n2, n3⟩ := List.nodup_append.mp nF
  obtain ⟨n4, n5, n6⟩ := List.nodup_append.mp n2
  have aF : a ∈ F := by rw [p.eq]; simp [ha]
  have a1 : ∀ c ∈ F1 ++ F2, c ≠ a := fun c hc e => by
    rcases List.mem_append.mp hc with hc | hc
    · exact n3 c hc a (List.mem_append_left _ ha) e
    · exact n6 a ha c hc e.symm
  have sl := p.back Z O (upd H a o) d G' (Same.refl _) (Same.refl _) n (fun c hc x h _ => by rw [upd_ne (a1 c hc)]; exact h) q
  have gd : Good Z O (upd H a o) := by
    refine ⟨rl.g.zo, fun c x h => ?_, fun c x h f => ?_, rl.g.nt⟩
    · have ne : c ≠ a := fun z => by rw [z, rl.fo a aF] at h; cases h
      rw [upd_ne ne]
      exact rl.g.oh c x h
    · by_cases z : c = a
      · rw [z, upd_same] at h; cases h; rw [fo] at f; cases f
      · rw [upd_ne z] at h; exact rl.g.tz c x h f
  have inF : ∀ c, c ∈ F1 ∨ c ∈ F2 → c ∈ F := fun c hc => by
    rw [p.eq]
    rcases hc with hc | hc
    · simp [hc]
    · simp [hc]
  have gF : ∀ c ∈ G, c ∈ F := fun c hc => by rw [p.eq]; simp [hc]
  refine ⟨⟨gd, ?_, fun c hc => ?_, sl, rl.updT aF o⟩, nov_set n (fun d' e => ?_), ⟨Same.refl _, fun c x h hn _ => ?_, fun c h => .inl h, fun c hc => .inl ?_, fun c h => .inr (upd_fr h), fun c hn h => upd_tab (rl.sl.nsy a aF) h⟩, Same.refl _, rfl, fun j d' hj => ?_, fun a q => .inl q⟩
  · rw [List.nodup_append]
    refine ⟨n1, ?_, fun x hx y hy e => ?_⟩
    · rw [List.nodup_append]
      refine ⟨nd, n5, fun x hx y hy e => ?_⟩
      rcases fr x hx with z | z
      · exact n6 x z y hy e
      · exact z.1 (inF x (.inr (e ▸ hy)))
    · rcases List.mem_append.mp hy with hy | hy
      · rcases fr y hy with z | z
        · exact n3 x hx y (List.mem_append_left _ z) e
        · exact z.1 (inF y (.inl (e ▸ hx)))
      · exact n3 x hx y (List.mem_append_right _ hy) e
  · rcases List.mem_append.mp hc with hc | hc
    · exact rl.fo c (inF c (.inl hc))
    · rcases List.mem_append.mp hc with hc | hc
      · rcases fr c hc with z | z
        · exact rl.fo c (gF c z)
        · exact z.2
      · exact rl.fo c (inF c (.inr hc))
  · cases e
    rcases p.st with z | z <;> cases z
  · rw [upd_ne (fun (z : c = a) => hn (z ▸ aF))]; exact h
  · rcases List.mem_append.mp hc with hc | hc
    · rcases List.mem_append.mp hc with hc | hc
      · exact inF c (.inl hc)
      · exact gF c hc
    · exact inF c (.inr hc)
  · by_cases ij : l.i = j
    · subst ij
      obtain ⟨d0, h0⟩ := p.slot
      rw [hj] at h0
      cases h0
      obtain ⟨hl, _⟩ := List.getElem?_eq_some_iff.mp hj
      exact ⟨rfl, l.put d, List.getElem?_set_self hl⟩
    · exact ⟨rfl, d', by rw [List.getElem?_set_ne ij]; exact hj⟩
end
/-- a place's item -/
def plI (l : Plx) (p : Px) : Plx := fun ρ => (l ρ).bind fun l => (p ρ).bind fun r => match l.d, r.d with
  | .list ds, .int i => (match ixN ds.length i with
    | some j => (match ds[j]? with
      | some d => .ok ⟨l.i, d, fun y => l.put (.list (ds.set j y))⟩
      | none => .bad)
    | none => .bad)
  | _, _ => .bad
section
variable {X : Cx} {E : XK} {a b : Expr} {l : Plx} {p : Px} {pos : Pos} {x : Str}
theorem s_plN (i : Nat) (hN : X.N[i]? = some x := by rfl) (hv : Vis X.env.scope x := by first | exact Or.inl rfl | exact Or.inr (Or.inl rfl) | exact Or.inr (Or.inr rfl)) (hd : (x == ("__debug__" : Str)) = false := by decide)
    (hcd : (x == ("__classdict__" : Str)) = false := by decide) : PE X (.Name x pos) (tPl X.K E (plN i)) := by
  refine (pe_var hN hv hd hcd).imp fun σ H Q h => ?_
  obtain ⟨Z, O, ρ, F, rl, h⟩ := h
  cases e : plN i ρ with
  | bad => rw [e] at h; exact h.elim
  | exc c fs =>
    unfold plN at e
    split at e <;> cases e
  | ok l =>
    rw [e] at h
    obtain ⟨v, s, F1, G, F2, h1, pa⟩ := plN_ok rl e
    exact ⟨v, h1, h v H Z O s F1 G F2 (Ext.refl _ _ _ _) rl.g pa⟩
theorem s_plI (ha : PE X a (tPl X.K E l)) (hb : PE X b (tP X.K E p)) (hs : PlainIx b := by exact fun _ _ => rfl) : PE X (.Subscript a b pos) (tPl X.K E (plI l p)) := by
  refine (pe_ix ix_list ha hb hs).imp fun σ H Q h => ?_
  obtain ⟨Z, O, ρ, F, rl, h⟩ := h
  refine ⟨Z, O, ρ, F, rl, ?_⟩
  unfold plI at h
  cases e : l ρ with
  | bad => rw [e] at h; exact h.elim
  | exc c fs => rw [e] at h; exact h
  | ok l0 =>
    rw [e] at h
    simp only [Res.bind_ok] at h
    intro v H1 Z1 O1 s F1 G F2 x1 g1 pa
    have rl1 := rl.ext x1 g1
    refine ⟨Z1, O1, ρ, F, rl1, ?_⟩
    cases e2 : p ρ with
    | bad => rw [e2] at h; exact h.elim
    | exc c fs => rw [e2] at h; exact ExcK.ext h x1
    | ok r =>
      rw [e2] at h
      simp only [Res.bind_ok] at h
      intro y H2 Z2 O2 G2 x2 g2 q2 nd2 fr2
      have pa2 := pa.ext x2
      cases el : l0.d with
      | list ds =>
        cases er : r.d with
        | int i =>
          rw [el, er] at h
          simp only at h
          cases ei : ixN ds.length i with
          | none => rw [ei] at h; exact h.elim
          | some j =>
            rw [ei] at h
            simp only at h
            cases ed : ds[j]? with
            | none => rw [ed] at h; exact h.elim
            | some d =>
              rw [ed] at h
              have lk := q2.look g2
              rw [er] at lk
              cases lk
              obtain ⟨a', xs, x', F1', G', F2', ev, ha', hl, hx, pb⟩ := pa2.item rl.nd el ed
              refine ⟨a', xs, i, x', ev, rfl, .inl (.inl ha'), ?_, h x' H2 Z2 O2 s F1' G' F2' (x1.trans0 x2) g2 pb⟩
              unfold atI
              rw [hl, ei]
              exact hx
        | _ => rw [el, er] at h; exact h.elim
      | _ => rw [el] at h; cases hr : r.d <;> rw [hr] at h <;> exact h.elim
end
/-- the frame behind a change -/
def putE (l : Pl) (d : D) (ρ : Ev) : SR := match ρ[l.i]? with
  | some (some ⟨s, _⟩) => .next (ρ.set l.i (some ⟨s, l.put d⟩))
  | _ => .bad
/-- l.append(p) -/
def sApp (l : Plx) (p : Px) : Stx := fun ρ => match l ρ with
  | .bad => .bad
  | .exc c fs => .exc c fs ρ
  | .ok l => (match l.d with
    | .list ds => (match p ρ with
      | .bad => .bad
      | .exc c fs => .exc c fs ρ
      | .ok r => (match ownR r with
        | some d => if ds.length < sizeLine then putE l (.list (ds ++ [d])) ρ else .bad
        | none => .bad))
    | _ => .bad)
section
variable {X : Cx} {E : XK} {a b : Expr} {l : Plx} {p : Px} {pos apos cpos : Pos}
theorem s_app (hl : PE X a (tPl X.K E l)) (hp : PE X b (tP X.K E p)) (hst : starEach [b] X.env = (false, eval b X.env) :: starEach [] X.env := by rfl)
    (h : ∀ {to : TE} {t : TA}, PE X a to → PA X [b] t → PS X (.Expr (.Call (.Attribute a "append" apos) [b] [] cpos) pos) (tDrop (tBM X.K "list" rAppend to t))) : PS X (.Expr (.Call (.Attribute a "append" apos) [b] [] cpos) pos) (tS X.K E (sApp l p)) := by
  refine (h hl (pa_cons hp pa_nil hst)).imp fun D σ H h => ?_
  obtain ⟨Z, O, ρ, F, rl, n, h⟩ := h
  refine ⟨Z, O, ρ, F, rl, ?_⟩
  unfold sApp at h
  cases e : l ρ with
  | bad => rw [e] at h; exact h.elim
  | exc c fs => rw [e] at h; exact SRK.exc rl h
  | ok l0 =>
    rw [e] at h
    simp only at h
    intro v H1 Z1 O1 s F1 G F2 x1 g1 pa
    have rl1 := rl.ext x1 g1
    cases el : l0.d with
    | list ds =>
      rw [el] at h
      simp only at h
      have q := pa.own
      rw [el] at q
      obtain ⟨a0, xs, G0, rfl, ha0, qs, eg⟩ := q.lst_inv
      refine ⟨.inl ⟨rfl, _, .inl (.inl ha0)⟩, Z1, O1, ρ, F, rl1, ?_⟩
      cases e2 : p ρ with
      | bad => rw [e2] at h; exact h.elim
      | exc c fs => rw [e2] at h; exact ExcK.ext (SRK.exc rl h) x1
      | ok r =>
        rw [e2] at h
        simp only at h
        cases er : ownR r with
        | none => rw [er] at h; exact h.elim
        | some d =>
          rw [er] at h
          simp only at h
          by_cases c : ds.length < sizeLine
          · rw [if_pos c] at h
            intro y H2 Z2 O2 G2 x2 g2 q2 nd2 fr2
            have pa2 := pa.ext x2
            have rl2 := rl1.ext x2 g2
            have ha2 := x2.h.l ha0
            have qs2 : Owns X.K Z2 H2 xs ds G0 := Owns.mono x2.z (fun a _ o q n => x2.h.s a o q n) qs
            obtain ⟨G', qo, cG⟩ := ownR_ok g2 q2 er
            have sG : ∀ c ∈ G', c ∈ G2 := fun c hc => by
              rcases cG with z | z
              · rw [z] at hc; exact hc
              · rw [z] at hc; cases hc
            have nG : G'.Nodup := by
              rcases cG with z | z
              · rw [z]; exact nd2
              · rw [z]; exact List.nodup_nil
            have fG : ∀ c ∈ G', H1 c = none := fun c hc => (fr2 c (sG c hc)).1.elim id fun z => by cases z
            have aG : a0 ∉ G0 := by
              have nF := rl.nd
              rw [pa.eq, eg] at nF
              have := (List.nodup_append.mp (List.nodup_append.mp nF).2.1).1
              exact (List.nodup_cons.mp this).1
            have aG' : a0 ∉ G' := fun z => by rw [fG a0 z] at ha0; cases ha0
            have keep : ∀ {Fs : List Addr}, a0 ∉ Fs → ∀ c ∈ Fs, ∀ o, H2 c = some o → (∀ ps, o ≠ .tbl ps) → upd H2 a0 (.lst (xs ++ [y])) c = some o := fun {Fs} nn c hc o h _ => by
              rw [upd_ne (fun (z : c = a0) => nn (z ▸ hc))]; exact h
            have qn : Own X.K Z2 (upd H2 a0 (.lst (xs ++ [y]))) (.ref a0) (.list (ds ++ [d])) (a0 :: (G0 ++ G')) :=
              .lst upd_same ((Owns.mono (Same.refl _) (keep aG) qs2).append (Owns.one (Own.mono (Same.refl _) (keep aG') qo)))
            have ndn : (a0 :: (G0 ++ G')).Nodup := by
              refine List.nodup_cons.mpr ⟨fun z => (List.mem_append.mp z).elim aG aG', List.nodup_append.mpr ⟨?_, nG, fun u hu w hw e => ?_⟩⟩
              · have nF := rl.nd
                rw [pa.eq, eg] at nF
                exact (List.nodup_cons.mp (List.nodup_append.mp (List.nodup_append.mp nF).2.1).1).2
              · obtain ⟨o, h, _⟩ := qs.live u hu
                rw [e, fG w hw] at h
                cases h
            obtain ⟨d0, hs0⟩ := pa.slot
            obtain ⟨rl3, n3, tr3⟩ := pa2.wrote rl2 n (a := a0) (by rw [eg]; simp) (o := .lst (xs ++ [y])) rfl (d := .list (ds ++ [d])) qn ndn fun c hc => by
              rcases List.mem_cons.mp hc with z | z
              · left; rw [eg, z]; simp
              · rcases List.mem_append.mp z with z | z
                · left; rw [eg]; simp [z]
                · right
                  refine ⟨fun w => ?_, (fr2 c (sG c z)).2⟩
                  obtain ⟨o, h, _⟩ := rl1.sl.live c w
                  rw [fG c z] at h
                  cases h
            refine ⟨a0, xs, y, rfl, rfl, ha2, by rw [qs.length]; exact c, ?_⟩
            unfold putE at h
            rw [hs0] at h
            have tr12 : TrS Z O H σ ρ F Z2 O2 H2 σ ρ F := TrS.ext (x1.trans0 x2)
            refine h σ _ Z2 O2 _ rl3 n3 ⟨⟨tr12.tr.z, fun c o hc hn nn => ?_, tr12.tr.zn, fun c hc => ?_, fun c h => (tr3.tr.fr c h).elim .inl (tr12.tr.fr c), fun c hn h => tr3.tr.tab c hn (tr12.tr.tab c hn h)⟩, tr12.o, rfl, fun j d' hj => tr3.brw j d' hj, tr12.on⟩
            · exact tr3.tr.keep c o (tr12.tr.keep c o hc hn nn) hn nn
            · rcases List.mem_append.mp hc with hc | hc
              · left; rw [pa.eq]; simp [hc]
              · rcases List.mem_append.mp hc with hc | hc
                · rcases List.mem_cons.mp hc with z | z
                  · left; rw [pa.eq, eg, z]; simp
                  · rcases List.mem_append.mp z with z | z
                    · left; rw [pa.eq, eg]; simp [z]
                    · right; exact x1.h.free (fG c z)
                · left; rw [pa.eq]; simp [hc]
          · rw [if_neg c] at h; exact h.elim
    | _ => rw [el] at h; exact h.elim
end
end Oz

namespace Oz
open PySem PySem.Spec L2
open PyProof.Rows hiding St
variable [WD]

/-! ### a def one may call -/
structure Cal (CX : CXT) (P : Program) (w : World) (K : PySem.W.Frag) (mg : Str → Option Value) (base : Heap) (k : Nat) (x : Str) (ps : List Str) (md : List Md) (m : Fn) : Prop where
  ex : ∃ f fd, FnOk P w K mg base CX k f fd ps (spF K md m) ∧ Binds K fd ps [] ∧ PySem.W.keepIn K (.ref f) = true ∧ mg x = some (.ref f)
section
variable {X : Cx} {E : XK} {CX : CXT} {k k' : Nat} {ps : List Str} {md : List Md} {m : Fn} {x : Str} {p pos : Pos} {e : Expr} {es : List Expr} {qs : List Px}
theorem s_callC (c : Cal CX X.prog X.w X.K X.mg X.base k x ps md m) (hr : Room k' X.A) (hx : Passes CX X E) (ha : PA X (e :: es) (tA X.K E qs)) (hg : Gl X x := by rfl) (hk : k ≤ k' := by decide)
    (hdb : (x == ("__debug__" : Str)) = false := by decide) (he : starEach (e :: es) X.env = (false, eval e X.env) :: starEach es X.env := by rfl) (hpl : (backTo pos (starEach es X.env)).any (·.1) = false := by rfl) :
    PE X (.Call (.Name x p) (e :: es) [] pos) (tP X.K E (pCall m md qs)) := by
  obtain ⟨f, fd, F, b, kp, hm⟩ := c.ex
  exact s_call F (hr.mono hk) hg hm kp b hx ha hdb he hpl
end
theorem cal_of {CX : CXT} {P : Program} {w : World} {K : PySem.W.Frag} {mg : Str → Option Value} {base : Heap} {x qual : Str} {params : Arguments} {body : List Stmt} {scope : Scope} {ps : List Str} {k : Nat} {md : List Md} {m : Fn}
    (T : ∃ f fd, FunD K x qual params body scope [] [] f fd ∧ mg x = some (.ref f))
    (hb : ∀ (kV doc pm : Value) (an : Option Addr) (cdv ct : Value) (us : List Value), us.length = ps.length → bindArgs (PySem.W.fnOf x qual params body scope .none kV doc pm an cdv ct) ⟨us, []⟩ = pure (ps.zip us))
    (B : ∀ f fd, FunD K x qual params body scope [] [] f fd → FnOk P w K mg base CX k f fd ps (spF K md m)) :
    Cal CX P w K mg base k x ps md m := by
  obtain ⟨f, fd, F, hm⟩ := T
  exact ⟨f, fd, B f fd F, F.bindsN hb, F.kp, hm⟩
theorem passE {X : Cx} {E : XK} : Passes CX0 X E := fun _ _ _ _ _ _ _ h => h.elim
theorem hu64 {A : Around} {k : Nat} (hr : Room k A) : A.units + 64 < cLine := by have := hr.un; omega
theorem hu65 {A : Around} {k : Nat} (hr : Room k A) : A.units + 65 < cLine := by have := hr.un; omega
/-! ### the block of a comprehension -/
def blkB (N : List Str) (sc scope : Scope) (own : List (Str × Nat)) : Bool :=
  decide (scope.kind = .function) && (scope.names.all fun y => decide (scope.names.lookup y.1 = some y.2)) && (own.all fun p => decide (N[p.2]? = some p.1)) &&
  (scope.names.all fun y => !decide (y.2 = .free) || (decide (sc.names.lookup y.1 = some .cell) || decide (sc.names.lookup y.1 = some .free))) &&
  (scope.names.all fun y => !(decide (y.2 = .local) || decide (y.2 = .cell)) || (decide (y.1 ∈ own.map (·.1)) || !decide (y.1 ∈ N)))
theorem blkB_ok {N : List Str} {sc scope : Scope} {own : List (Str × Nat)} (h : blkB N sc scope own = true) : BlkOk N sc scope own := by
  unfold blkB at h
  simp only [Bool.and_eq_true, decide_eq_true_eq, List.all_eq_true, Bool.or_eq_true, Bool.not_eq_true', decide_eq_false_iff_not] at h
  obtain ⟨⟨⟨⟨h1, h2⟩, h3⟩, h4⟩, h5⟩ := h
  refine ⟨h1, h2, h3, fun y hy e => ?_, fun y hy e => ?_⟩
  · rcases h4 y hy with z | z
    · exact absurd e z
    · exact z
  · rcases h5 y hy with z | z
    · rw [Bool.or_eq_false_iff, decide_eq_false_iff_not, decide_eq_false_iff_not] at z
      exact e.elim (fun e => absurd e z.1) fun e => absurd e z.2
    · exact z
/-! ### the law's end -/
theorem law_spT {K : PySem.W.Frag} {m : Fn} {n : Nat} (h : ∀ ns : List Int, ns.length ≤ n → m [scrD (ns.map .int)] = .ok ⟨.imm, .bool true⟩ []) (H : Hp) (a : Addr) (ns : List Int) (hl : ns.length ≤ n) (tb : Tabs K H) (hS : SqL K H a (ns.map V.int)) :
    spF K [.v] m [.ref a] H (fun v _ => v = .bl true) fun _ _ _ => False := by
  have hF : SqF K H a (ns.map V.int) := hS
  have hi : ∀ (C : Hp) (ns : List Int), Reps K C (ns.map V.int) (ns.map PyData.int) := fun C ns => by
    induction ns with
    | nil => exact .nil
    | cons x xs ih => exact .cons (.int x) ih
  refine ⟨rfl, without H [], [scrD (ns.map .int)], [], fun _ _ h => (without_some h).1, without_noT H [], tb, fun a o h f => without_sameN H a o h (fun ps e => by rw [e] at f; cases f), .v (.scr (hF.monoN (without_sameN H)) (hi _ _)) .nil, List.nodup_nil, (fun a ha => by cases ha), ?_⟩
  rw [h ns hl]
  intro v H' Z' Fm' G A t r
  obtain ⟨r, _⟩ := r
  cases r
  rfl
end Oz

namespace Oz
open PySem PySem.Spec L2
open PyProof.Rows hiding St
variable [WD]

/-! ### reckoning with what a def does -/
theorem str_inj {a b : String} : (Str.ofString a = Str.ofString b) ↔ a = b := by
  constructor
  · intro h
    rw [Str.ofString_eq_toList, Str.ofString_eq_toList] at h
    have h2 : a.toList.map Char.toNat = b.toList.map Char.toNat := by
      have := congrArg (fun s : Str => s.cps.toList) h
      simpa using this
    have h3 : a.toList = b.toList := by
      refine List.map_inj_right (f := Char.toNat) (fun x y e => ?_) |>.mp h2
      have e2 : x.val.toNat = y.val.toNat := e
      exact Char.ext (UInt32.toNat_inj.mp e2)
    exact String.toList_inj.mp h3
  · intro h
    rw [h]
@[simp] theorem str_eq {a b : String} : (Str.ofString a = Str.ofString b) = (a = b) := propext str_inj
@[simp] theorem str_beq {a b : String} : (Str.ofString a == Str.ofString b) = (a == b) := by
  rw [Bool.eq_iff_iff]
  simp
section
variable {ρ : Ev}
@[simp] theorem x_seq {s t : Stx} : sSeq s t ρ = (match s ρ with | .next ρ' => t ρ' | r => r) := id rfl
@[simp] theorem x_if {c : Tx} {s t : Stx} : sIf c s t ρ = (match c ρ with | .bad => .bad | .exc x fs => .exc x fs ρ | .ok b => if b = true then s ρ else t ρ) := id rfl
@[simp] theorem x_asg {i : Nat} {p : Px} : sAsg i p ρ = (match p ρ with | .bad => .bad | .exc c fs => .exc c fs ρ | .ok r => (match setS i r ρ with | some ρ' => .next ρ' | none => .bad)) := id rfl
@[simp] theorem x_asgT {g : Tgx} {p : Px} : sAsgT g p ρ = (match p ρ with | .bad => .bad | .exc c fs => .exc c fs ρ | .ok r => (match g r ρ with | some ρ' => .next ρ' | none => .bad)) := id rfl
@[simp] theorem x_ret {p : Px} : sRet p ρ = (match p ρ with | .bad => .bad | .exc c fs => .exc c fs ρ | .ok r => if storable r = true then .ret r ρ else .bad) := id rfl
@[simp] theorem x_drop {p : Px} : sDrop p ρ = (match p ρ with | .bad => .bad | .exc c fs => .exc c fs ρ | .ok _ => .next ρ) := id rfl
@[simp] theorem x_next : sNext ρ = .next ρ := id rfl
@[simp] theorem x_for {src : Src} {g : Tgx} {b : Stx} : sFor src g b ρ = (match src ρ with | .bad => .bad | .exc c fs => .exc c fs ρ | .ok rs => loopS g b rs ρ) := id rfl
@[simp] theorem x_C {d : D} : pC d ρ = .ok ⟨.imm, d⟩ := id rfl
@[simp] theorem x_var {i : Nat} : pVar i ρ = (match ρ[i]? with | some (some ⟨.tab, _⟩) => .bad | some (some r) => .ok (vw r) | _ => .bad) := id rfl
@[simp] theorem x_p2 {f : R → R → Res R} {p q : Px} : p2 f p q ρ = ((p ρ).bind fun a => (q ρ).bind fun b => f a b) := id rfl
@[simp] theorem x_at2 {f : D → D → Option D} {a b : R} : at2 f a b = (match f a.d b.d with | some d => .ok ⟨.imm, d⟩ | none => .bad) := id rfl
@[simp] theorem x_i2 {f : Int → Int → Option D} {i j : Int} : i2 f (.int i) (.int j) = f i j := id rfl
@[simp] theorem x_and {p q : Px} : pAnd p q ρ = ((p ρ).bind fun r => match truth r.d with | some true => q ρ | some false => .ok r | none => .bad) := id rfl
@[simp] theorem x_or {p q : Px} : pOr p q ρ = ((p ρ).bind fun r => match truth r.d with | some true => .ok r | some false => q ρ | none => .bad) := id rfl
@[simp] theorem x_not {p : Px} : pNot p ρ = ((p ρ).bind fun r => match truth r.d with | some b => .ok ⟨.imm, .bool (!b)⟩ | none => .bad) := id rfl
@[simp] theorem x_pif {t : Tx} {p q : Px} : pIf t p q ρ = ((t ρ).bind fun b => if b = true then p ρ else q ρ) := id rfl
@[simp] theorem x_tand {t u : Tx} : tAndD t u ρ = ((t ρ).bind fun b => if b = true then u ρ else .ok false) := id rfl
@[simp] theorem x_tor {t u : Tx} : tOrD t u ρ = ((t ρ).bind fun b => if b = true then .ok true else u ρ) := id rfl
@[simp] theorem x_tnot {t : Tx} : tNotD t ρ = ((t ρ).bind fun b => .ok (!b)) := id rfl
@[simp] theorem x_val {p : Px} : tVal p ρ = ((p ρ).bind fun r => match r.d with | .bool b => .ok b | _ => .bad) := id rfl
@[simp] theorem x_tru {p : Px} : tTru p ρ = ((p ρ).bind fun r => match truth r.d with | some b => .ok b | none => .bad) := id rfl
@[simp] theorem x_yes : tYesD ρ = .ok true := id rfl
@[simp] theorem x_tup {ps : List Px} : pTup ps ρ = ((evs ps ρ).bind fun rs => match frzs rs with | some ds => if ds.length ≤ sizeLine then .ok ⟨.imm, .tuple ds⟩ else .bad | none => .bad) := id rfl
@[simp] theorem x_lst {ps : List Px} : pLst ps ρ = ((evs ps ρ).bind fun rs => match owns rs with | some ds => if ds.length ≤ sizeLine then .ok ⟨.own, .list ds⟩ else .bad | none => .bad) := id rfl
@[simp] theorem x_pB {f : List R → Res R} {ps : List Px} : pB f ps ρ = (evs ps ρ).bind f := id rfl
@[simp] theorem x_call {f : Fn} {md : List Md} {ps : List Px} : pCall f md ps ρ = ((evs ps ρ).bind fun rs => match pargs md rs with | some ds => (match f ds with | .ok r [] => .ok r | .exc c fs [] => .exc c fs | _ => .bad) | none => .bad) := id rfl
@[simp] theorem x_evs0 : evs [] ρ = .ok [] := id rfl
@[simp] theorem x_evs1 {p : Px} {ps : List Px} : evs (p :: ps) ρ = ((p ρ).bind fun r => (evs ps ρ).bind fun rs => .ok (r :: rs)) := id rfl
@[simp] theorem x_comp {vs : List Nat} {src : Src} {g : Tgx} {t : Tx} {p : Px} : pComp vs src g t p ρ = (if nov ρ = true then (src ρ).bind fun rs => match compE g t p (wipeE ρ vs) rs with | some ys => compR ys | none => .bad else .bad) := id rfl
@[simp] theorem x_srcS {p : Px} : srcS p ρ = ((p ρ).bind fun r => if r.s = .view then .bad else srcR r) := id rfl
@[simp] theorem x_srcC {p : Px} : srcC p ρ = (p ρ).bind srcR := id rfl
@[simp] theorem x_srcR1 {p : Px} : srcR1 p ρ = ((p ρ).bind fun r => match r.d with | .int j => if inR j = true then .ok (irng 0 j.toNat) else .bad | _ => .bad) := id rfl
@[simp] theorem x_srcR2 {p q : Px} : srcR2 p q ρ = ((p ρ).bind fun a => (q ρ).bind fun b => match a.d, b.d with | .int i, .int j => if inR i = true ∧ inR j = true then .ok (irng i (j - i).toNat) else .bad | _, _ => .bad) := id rfl
@[simp] theorem x_srcRl {s : Sx} {ds : List D} : srcR ⟨s, .list ds⟩ = .ok (ds.map (sub s)) := id rfl
@[simp] theorem x_srcRt {s : Sx} {ds : List D} : srcR ⟨s, .tuple ds⟩ = .ok (ds.map (sub s)) := id rfl
@[simp] theorem x_app {l : Plx} {p : Px} : sApp l p ρ = (match l ρ with | .bad => .bad | .exc c fs => .exc c fs ρ | .ok l => (match l.d with
    | .list ds => (match p ρ with | .bad => .bad | .exc c fs => .exc c fs ρ | .ok r => (match ownR r with | some d => if ds.length < sizeLine then putE l (.list (ds ++ [d])) ρ else .bad | none => .bad))
    | _ => .bad)) := id rfl
@[simp] theorem x_plN {i : Nat} : plN i ρ = (match ρ[i]? with | some (some ⟨.own, d⟩) => .ok ⟨i, d, id⟩ | some (some ⟨.brw, d⟩) => .ok ⟨i, d, id⟩ | _ => .bad) := id rfl
@[simp] theorem x_plI {l : Plx} {p : Px} : plI l p ρ = ((l ρ).bind fun l => (p ρ).bind fun r => match l.d, r.d with
  | .list ds, .int i => (match ixN ds.length i with
    | some j => (match ds[j]? with
      | some d => .ok ⟨l.i, d, fun y => l.put (.list (ds.set j y))⟩
      | none => .bad)
    | none => .bad)
  | _, _ => .bad) := id rfl
@[simp] theorem x_putE {l : Pl} {d : D} : putE l d ρ = (match ρ[l.i]? with | some (some ⟨s, _⟩) => .next (ρ.set l.i (some ⟨s, l.put d⟩)) | _ => .bad) := id rfl
@[simp] theorem x_retV {i : Nat} : sRetV i ρ = (match ρ[i]? with | some (some ⟨.own, d⟩) => .ret ⟨.own, d⟩ (ρ.set i none) | _ => sRet (pVar i) ρ) := id rfl
@[simp] theorem x_gN {i : Nat} {r : R} : gN i r ρ = setS i r ρ := id rfl
@[simp] theorem x_gsN0 : gsN [] ρ = some ρ := id rfl
@[simp] theorem x_gsC {t : Tgx} {u : Tgxs} {r : R} {rs : List R} : gsC t u (r :: rs) ρ = (match t r ρ with | some ρ' => u rs ρ' | none => none) := id rfl
@[simp] theorem x_gT {n : Nat} {t : Tgxs} {s : Sx} {ds : List D} : gT n t ⟨s, .tuple ds⟩ ρ = if ds.length = n then t (ds.map (sub s)) ρ else none := id rfl
@[simp] theorem x_cN {i : Nat} {r : R} : cN i r ρ = setC i r ρ := id rfl
@[simp] theorem x_fnD {n : Nat} {md : List Md} {b : Stx} {ds : List D} : fnD n md b ds = (match b (entE md ds n) with
  | .bad => .bad
  | .next ρ => exitE md ⟨.imm, .none⟩ ρ
  | .ret r ρ => exitE md r ρ
  | .exc c fs ρ => (match outsE md ρ with
    | some ms => .exc c fs ms
    | none => .bad)) := id rfl
end
@[simp] theorem gd_s {b : Bool} : gd b = b := gd_eq b
@[simp] theorem bind_ok' {α β : Type} (a : α) (f : α → Res β) : (Res.ok a).bind f = f a := id rfl
/-! statuses -/
@[simp] theorem lf_int {i : Int} : lf (.int i) = true := id rfl
@[simp] theorem lf_bool {b : Bool} : lf (.bool b) = true := id rfl
@[simp] theorem lf_str {x : Str} : lf (.str x) = true := id rfl
@[simp] theorem lf_none : lf .none = true := id rfl
@[simp] theorem lf_list {ds : List D} : lf (.list ds) = false := id rfl
@[simp] theorem lf_dict {es : List (D × D)} : lf (.dict es) = false := id rfl
@[simp] theorem lf_scr {ds : List D} : lf (scrD ds) = false := id rfl
@[simp] theorem lf_tup {ds : List D} : lf (.tuple ds) = lfs ds := id rfl
@[simp] theorem lfs_nil : lfs [] = true := id rfl
@[simp] theorem lfs_cons {d : D} {ds : List D} : lfs (d :: ds) = (lf d && lfs ds) := id rfl
theorem lfs_all {ds : List D} : lfs ds = ds.all lf := by
  induction ds with
  | nil => rfl
  | cons x xs ih => simp [ih]
@[simp] theorem lfs_map_int {ns : List Int} : lfs (ns.map .int) = true := by rw [lfs_all]; simp
@[simp] theorem vw_imm {d : D} : vw ⟨.imm, d⟩ = ⟨.imm, d⟩ := by unfold vw; split <;> rfl
@[simp] theorem vw_lf {s : Sx} {d : D} (h : lf d = true) : vw ⟨s, d⟩ = ⟨.imm, d⟩ := if_pos h
theorem vw_nlf {s : Sx} {d : D} (h : lf d = false) : vw ⟨s, d⟩ = (match s with | .own => ⟨.view, d⟩ | .brw => ⟨.view, d⟩ | s => ⟨s, d⟩) := by unfold vw; cases s <;> exact if_neg (by simp [h])
@[simp] theorem vw_own {d : D} (h : lf d = false) : vw ⟨.own, d⟩ = ⟨.view, d⟩ := vw_nlf h
@[simp] theorem vw_brw {d : D} (h : lf d = false) : vw ⟨.brw, d⟩ = ⟨.view, d⟩ := vw_nlf h
@[simp] theorem vw_out {d : D} (h : lf d = false) : vw ⟨.out, d⟩ = ⟨.out, d⟩ := vw_nlf h
@[simp] theorem vw_view {d : D} (h : lf d = false) : vw ⟨.view, d⟩ = ⟨.view, d⟩ := vw_nlf h
@[simp] theorem sub_imm {d : D} : sub .imm d = ⟨.imm, d⟩ := by unfold sub; split <;> rfl
@[simp] theorem sub_lf {s : Sx} {d : D} (h : lf d = true) : sub s d = ⟨.imm, d⟩ := if_pos h
theorem sub_nlf {s : Sx} {d : D} (h : lf d = false) : sub s d = (match s with | .imm => ⟨.imm, d⟩ | .out => ⟨.out, d⟩ | _ => ⟨.view, d⟩) := by unfold sub; cases s <;> exact if_neg (by simp [h])
@[simp] theorem sub_out {d : D} (h : lf d = false) : sub .out d = ⟨.out, d⟩ := sub_nlf h
@[simp] theorem sub_view {d : D} (h : lf d = false) : sub .view d = ⟨.view, d⟩ := sub_nlf h
@[simp] theorem sub_own {d : D} (h : lf d = false) : sub .own d = ⟨.view, d⟩ := sub_nlf h
@[simp] theorem frzR_imm {d : D} : frzR ⟨.imm, d⟩ = some d := id rfl
@[simp] theorem frzR_lf {s : Sx} {d : D} (h : lf d = true) : frzR ⟨s, d⟩ = some d := by unfold frzR; cases s <;> first | rfl | exact if_pos h
@[simp] theorem frzs_nil : frzs [] = some [] := id rfl
@[simp] theorem frzs_cons {r : R} {rs : List R} : frzs (r :: rs) = (match frzR r, frzs rs with | some d, some ds => some (d :: ds) | _, _ => none) := id rfl
@[simp] theorem ownR_own {d : D} : ownR ⟨.own, d⟩ = some d := id rfl
@[simp] theorem ownR_lf {s : Sx} {d : D} (h : lf d = true) : ownR ⟨s, d⟩ = some d := by unfold ownR; cases s <;> first | rfl | exact if_pos h
@[simp] theorem ownR_val {d : D} (h : isVal d = true) : ownR ⟨.imm, d⟩ = some d := by
  unfold ownR
  show (if lf d = true then some d else if Sx.imm = .imm ∧ isVal d = true then some d else none) = some d
  by_cases l : lf d = true
  · rw [if_pos l]
  · rw [if_neg l, if_pos ⟨rfl, h⟩]
@[simp] theorem isVal_tup {ds : List D} : isVal (.tuple ds) = true := id rfl
@[simp] theorem owns_nil : owns [] = some [] := id rfl
@[simp] theorem owns_cons {r : R} {rs : List R} : owns (r :: rs) = (match ownR r, owns rs with | some d, some ds => some (d :: ds) | _, _ => none) := id rfl
@[simp] theorem pargs_nil : pargs [] [] = some [] := id rfl
@[simp] theorem pargs_i {md : List Md} {r : R} {rs : List R} : pargs (.i :: md) (r :: rs) = (match frzR r, pargs md rs with | some d, some ds => some (d :: ds) | _, _ => none) := id rfl
@[simp] theorem pargs_v {md : List Md} {r : R} {rs : List R} : pargs (.v :: md) (r :: rs) = (match pargs md rs with | some ds => some (r.d :: ds) | none => none) := id rfl
@[simp] theorem entE_cons {m : Md} {md : List Md} {d : D} {ds : List D} {n : Nat} : entE (m :: md) (d :: ds) n = some (entR m d) :: entE md ds (n - 1) := id rfl
@[simp] theorem entE_nil {ds : List D} {n : Nat} : entE [] ds n = List.replicate n none := by cases ds <;> rfl
@[simp] theorem entR_i {d : D} : entR .i d = ⟨.imm, d⟩ := id rfl
@[simp] theorem entR_m {d : D} : entR .m d = ⟨.brw, d⟩ := id rfl
@[simp] theorem entR_v1 {d : D} (h : lf d = true) : entR .v d = ⟨.imm, d⟩ := if_pos h
@[simp] theorem entR_v0 {d : D} (h : lf d = false) : entR .v d = ⟨.out, d⟩ := if_neg (by simp [h])
@[simp] theorem outsE_nil {ρ : Ev} : outsE [] ρ = some [] := id rfl
@[simp] theorem outsE_i {md : List Md} {x : Option R} {ρ : Ev} : outsE (.i :: md) (x :: ρ) = outsE md ρ := id rfl
@[simp] theorem outsE_v {md : List Md} {x : Option R} {ρ : Ev} : outsE (.v :: md) (x :: ρ) = outsE md ρ := id rfl
@[simp] theorem outsE_m {md : List Md} {d : D} {ρ : Ev} : outsE (.m :: md) (some ⟨.brw, d⟩ :: ρ) = (match outsE md ρ with | some ds => some (d :: ds) | none => none) := id rfl
@[simp] theorem exitE_imm {md : List Md} {d : D} {ρ : Ev} : exitE md ⟨.imm, d⟩ ρ = (match outsE md ρ with | some ms => .ok ⟨.imm, d⟩ ms | none => .bad) := id rfl
@[simp] theorem exitE_own {md : List Md} {d : D} {ρ : Ev} : exitE md ⟨.own, d⟩ ρ = (match outsE md ρ with | some ms => .ok ⟨.own, d⟩ ms | none => .bad) := id rfl
@[simp] theorem sto_imm {d : D} : storable ⟨.imm, d⟩ = true := id rfl
@[simp] theorem sto_own {d : D} : storable ⟨.own, d⟩ = true := id rfl
@[simp] theorem sto_out {d : D} : storable ⟨.out, d⟩ = true := id rfl
@[simp] theorem x_setS {i : Nat} {r : R} {ρ : Ev} : setS i r ρ = (match ρ[i]? with | none => none | some (some ⟨.brw, _⟩) => none | some _ => if storable r = true then some (ρ.set i (some r)) else none) := id rfl
@[simp] theorem x_setC {i : Nat} {r : R} {ρ : Ev} : setC i r ρ = (match ρ[i]? with | none => none | some (some ⟨.brw, _⟩) => none | some _ => if r.s = .own ∨ r.s = .brw then none else some (ρ.set i (some r))) := id rfl
@[simp] theorem wipe0 {ρ : Ev} : wipeE ρ [] = ρ := id rfl
@[simp] theorem wipe1 {ρ : Ev} {v : Nat} {vs : List Nat} : wipeE ρ (v :: vs) = (wipeE ρ vs).set v none := id rfl
@[simp] theorem nov_nil : nov [] = true := id rfl
@[simp] theorem nov_none {ρ : Ev} : nov (none :: ρ) = nov ρ := id rfl
@[simp] theorem nov_imm {d : D} {ρ : Ev} : nov (some ⟨.imm, d⟩ :: ρ) = nov ρ := id rfl
@[simp] theorem nov_out {d : D} {ρ : Ev} : nov (some ⟨.out, d⟩ :: ρ) = nov ρ := id rfl
@[simp] theorem nov_own {d : D} {ρ : Ev} : nov (some ⟨.own, d⟩ :: ρ) = nov ρ := id rfl
@[simp] theorem nov_brw {d : D} {ρ : Ev} : nov (some ⟨.brw, d⟩ :: ρ) = nov ρ := id rfl
/-! indices -/
theorem ixN_nat {n k : Nat} (h : k < n) : ixN n (k : Int) = some k := by
  unfold ixN
  rw [if_pos (by omega), if_pos (by omega)]
  simp
@[simp] theorem ixN_lit {n k : Nat} : ixN n (no_index (@OfNat.ofNat Int k instOfNat)) = if k < n then some k else none := by
  by_cases h : k < n
  · rw [if_pos h]
    exact ixN_nat h
  · rw [if_neg h]
    unfold ixN
    have e : (@OfNat.ofNat Int k instOfNat) = (k : Int) := id rfl
    rw [e, if_pos (by omega), if_neg (by omega)]
theorem atI_ofNat {α : Type} {xs : List α} {k : Nat} : atI xs (k : Int) = xs[k]? := by
  unfold atI
  by_cases h : k < xs.length
  · rw [ixN_nat h]; rfl
  · have : ixN xs.length (k : Int) = none := by
      unfold ixN
      rw [if_pos (by omega), if_neg (by omega)]
    rw [this]
    exact (List.getElem?_eq_none (by omega)).symm
@[simp] theorem atI_lit {α : Type} {xs : List α} {k : Nat} : atI xs (no_index (@OfNat.ofNat Int k instOfNat)) = xs[k]? := atI_ofNat
theorem atI_some {α : Type} {xs : List α} {i : Int} (h0 : 0 ≤ i) (h : i < xs.length) : atI xs i = some (xs[i.toNat]'(by omega)) := by
  obtain ⟨k, rfl⟩ := Int.eq_ofNat_of_zero_le h0
  have hk : k < xs.length := by omega
  have e : atI xs (k : Int) = xs[k]? := atI_ofNat
  rw [e]
  simp [hk]
theorem ixN_some {n : Nat} {i : Int} (h0 : 0 ≤ i) (h : i < n) : ixN n i = some i.toNat := by
  unfold ixN
  rw [if_pos h0, if_pos h]
@[simp] theorem atI_map {α β : Type} {f : α → β} {xs : List α} {i : Int} : atI (xs.map f) i = (atI xs i).map f := by
  unfold atI
  rw [List.length_map]
  cases ixN xs.length i with
  | none => rfl
  | some j => simp
@[simp] theorem x_ixR_l {s : Sx} {ds : List D} {i : Int} {t : Sx} : ixR ⟨s, .list ds⟩ ⟨t, .int i⟩ = (match atI ds i with | some d => .ok (sub s d) | none => .bad) := id rfl
@[simp] theorem x_ixR_t {s : Sx} {ds : List D} {i : Int} {t : Sx} : ixR ⟨s, .tuple ds⟩ ⟨t, .int i⟩ = (match atI ds i with | some d => .ok (sub s d) | none => .bad) := id rfl
@[simp] theorem x_ixR_s {s : Sx} {ds : List D} {i : Int} {t : Sx} : ixR ⟨s, scrD ds⟩ ⟨t, .int i⟩ = (match atI ds i with | some d => .ok (sub .view d) | none => .bad) := id rfl
@[simp] theorem x_addI {s t : Sx} {i j : Int} : addR ⟨s, .int i⟩ ⟨t, .int j⟩ = .ok ⟨.imm, .int (i + j)⟩ := id rfl
@[simp] theorem x_addL {s t : Sx} {xs ys : List D} : addR ⟨s, .list xs⟩ ⟨t, .list ys⟩ = if xs.length + ys.length ≤ sizeLine then dnew (both s t) (xs ++ ys) else .bad := id rfl
@[simp] theorem x_addT {s t : Sx} {xs ys : List D} : addR ⟨s, .tuple xs⟩ ⟨t, .tuple ys⟩ = if xs.length + ys.length ≤ sizeLine then tnew (both s t) (xs ++ ys) else .bad := id rfl
@[simp] theorem fEq_ii {i j : Int} : fEq (.int i) (.int j) = some (i == j) := id rfl
@[simp] theorem fEq_ss {x y : Str} : fEq (.str x) (.str y) = some (x == y) := id rfl
@[simp] theorem fEq_sn {x : Str} : fEq (.str x) .none = some false := id rfl
@[simp] theorem fEq_ns {x : Str} : fEq .none (.str x) = some false := id rfl
@[simp] theorem fEq_in {i : Int} : fEq (.int i) .none = some false := id rfl
@[simp] theorem fEq_ni {i : Int} : fEq .none (.int i) = some false := id rfl
@[simp] theorem fEq_is {i : Int} {x : Str} : fEq (.int i) (.str x) = some false := id rfl
@[simp] theorem fEq_si {i : Int} {x : Str} : fEq (.str x) (.int i) = some false := id rfl
@[simp] theorem dBool_some {b : Bool} : dBool (some b) = some (.bool b) := id rfl
@[simp] theorem dNot_some {b : Bool} : dNot (some b) = some (.bool (!b)) := id rfl
@[simp] theorem x_b1 {f : D → Option D} {r : R} : b1 f [r] = (match f r.d with | some d => .ok ⟨.imm, d⟩ | none => .bad) := id rfl
@[simp] theorem x_len_l {ds : List D} : fLen (.list ds) = some (.int (ds.length : Int)) := id rfl
@[simp] theorem x_len_t {ds : List D} : fLen (.tuple ds) = some (.int (ds.length : Int)) := id rfl
@[simp] theorem x_len_s {ds : List D} : fLen (scrD ds) = some (.int (ds.length : Int)) := id rfl
@[simp] theorem x_b2i {f : Int → Int → Int} {s t : Sx} {i j : Int} : b2i f [⟨s, .int i⟩, ⟨t, .int j⟩] = .ok ⟨.imm, .int (f i j)⟩ := id rfl
@[simp] theorem x_tup_l {s : Sx} {ds : List D} : bTuple [⟨s, .list ds⟩] = tnew s ds := id rfl
@[simp] theorem x_tup_t {ds : List D} : bTuple [⟨.imm, .tuple ds⟩] = .ok ⟨.imm, .tuple ds⟩ := id rfl
@[simp] theorem x_list_l {s : Sx} {ds : List D} : bList [⟨s, .list ds⟩] = dnew s ds := id rfl
@[simp] theorem x_list_t {s : Sx} {ds : List D} : bList [⟨s, .tuple ds⟩] = dnew s ds := id rfl
@[simp] theorem tnew_imm {ds : List D} : tnew .imm ds = .ok ⟨.imm, .tuple ds⟩ := if_pos (.inr rfl)
@[simp] theorem tnew_lf {s : Sx} {ds : List D} (h : lfs ds = true) : tnew s ds = .ok ⟨.imm, .tuple ds⟩ := if_pos (.inl h)
@[simp] theorem dnew_lf {s : Sx} {ds : List D} (h : lfs ds = true) : dnew s ds = .ok ⟨.own, .list ds⟩ := if_pos h
@[simp] theorem items_l {ds : List D} : itemsD (.list ds) = some ds := id rfl
@[simp] theorem items_t {ds : List D} : itemsD (.tuple ds) = some ds := id rfl
@[simp] theorem truth_b {b : Bool} : truth (.bool b) = some b := id rfl
@[simp] theorem truth_i {i : Int} : truth (.int i) = some (i != 0) := id rfl
@[simp] theorem truth_n : truth .none = some false := id rfl
@[simp] theorem truth_l {ds : List D} : truth (.list ds) = some (!ds.isEmpty) := id rfl
@[simp] theorem truth_t {ds : List D} : truth (.tuple ds) = some (!ds.isEmpty) := id rfl
@[simp] theorem eqv_ss {x y : Str} : PyData.eqv (.str x) (.str y) = (x == y) := by simp [PyData.eqv]
@[simp] theorem eqv_ii {x y : Int} : PyData.eqv (.int x) (.int y) = (x == y) := by simp [PyData.eqv]
@[simp] theorem eqv_sn {x : Str} : PyData.eqv (.str x) .none = false := by simp [PyData.eqv]
@[simp] theorem eqv_ns {x : Str} : PyData.eqv .none (.str x) = false := by simp [PyData.eqv]
/-- an atom in a tuple of atoms -/
@[simp] theorem fIn_t {a : D} {ds : List D} (h1 : atomD a = true) (h2 : ds.all atomD = true) : fIn a (.tuple ds) = some (ds.any fun z => PyData.eqv z a) := by
  unfold fIn
  simp [h1, h2]
@[simp] theorem atom_i {i : Int} : atomD (.int i) = true := id rfl
@[simp] theorem atom_s {x : Str} : atomD (.str x) = true := id rfl
@[simp] theorem atom_n : atomD .none = true := id rfl
@[simp] theorem atom_b {b : Bool} : atomD (.bool b) = true := id rfl
@[simp] theorem x_eqF {a b : D} : eqF a b = dBool (fEq a b) := id rfl
@[simp] theorem x_neF {a b : D} : neF a b = dNot (fEq a b) := id rfl
@[simp] theorem x_inF {a b : D} : inF a b = dBool (fIn a b) := id rfl
@[simp] theorem x_ninF {a b : D} : ninF a b = dNot (fIn a b) := id rfl
/-! loops -/
@[simp] theorem loop_nil {g : Tgx} {b : Stx} {ρ : Ev} : loopS g b [] ρ = .next ρ := id rfl
theorem loop_cons {g : Tgx} {b : Stx} {ρ : Ev} {r : R} {rs : List R} : loopS g b (r :: rs) ρ = (match g r ρ with
    | none => .bad
    | some ρ1 => (match b ρ1 with
      | .next ρ2 => loopS g b rs ρ2
      | x => x)) := rfl
/-- to the end, by an invariant of what was taken and the frame -/
theorem loop_inv {α : Type} (I : List α → Ev → Prop) {g : Tgx} {b : Stx} {item : α → R} {xs : List α} {ρ : Ev} (h0 : I [] ρ)
    (hs : ∀ pre x post ρ, xs = pre ++ x :: post → I pre ρ → ∃ ρ1 ρ2, g (item x) ρ = some ρ1 ∧ b ρ1 = .next ρ2 ∧ I (pre ++ [x]) ρ2) :
    ∃ ρ', loopS g b (xs.map item) ρ = .next ρ' ∧ I xs ρ' := by
  have go : ∀ post pre ρ, xs = pre ++ post → I pre ρ → ∃ ρ', loopS g b (post.map item) ρ = .next ρ' ∧ I xs ρ' := by
    intro post
    induction post with
    | nil => intro pre ρ e h; rw [List.append_nil] at e; exact ⟨ρ, rfl, e ▸ h⟩
    | cons x post ih =>
      intro pre ρ e h
      obtain ⟨ρ1, ρ2, e1, e2, h2⟩ := hs pre x post ρ e h
      obtain ⟨ρ', e3, h3⟩ := ih (pre ++ [x]) ρ2 (by rw [e]; simp) h2
      refine ⟨ρ', ?_, h3⟩
      rw [List.map_cons, loop_cons, e1]
      simp only [e2]
      exact e3
  exact go xs [] ρ rfl h0
theorem comp_map {α : Type} {g : Tgx} {t : Tx} {p : Px} {ρ : Ev} {item : α → R} {xs : List α} {c : α → Bool} {f : α → R}
    (h : ∀ x ∈ xs, ∃ ρ1, g (item x) ρ = some ρ1 ∧ t ρ1 = .ok (c x) ∧ (c x = true → p ρ1 = .ok (f x))) : compE g t p ρ (xs.map item) = some ((xs.filter c).map f) := by
  induction xs with
  | nil => rfl
  | cons x xs ih =>
    obtain ⟨ρ1, e1, e2, e3⟩ := h x (by simp)
    have ih2 := ih fun y hy => h y (by simp [hy])
    rw [List.map_cons]
    unfold compE
    simp only [e1, e2]
    cases hc : c x with
    | false => simp [hc, ih2]
    | true => simp [hc, ih2, e3 hc]
theorem comp_map1 {α : Type} {g : Tgx} {p : Px} {ρ : Ev} {item : α → R} {xs : List α} {f : α → R}
    (h : ∀ x ∈ xs, ∃ ρ1, g (item x) ρ = some ρ1 ∧ p ρ1 = .ok (f x)) : compE g tYesD p ρ (xs.map item) = some (xs.map f) := by
  have := comp_map (t := tYesD) (c := fun _ => true) (f := f) fun x hx => let ⟨ρ1, e1, e2⟩ := h x hx; ⟨ρ1, e1, rfl, fun _ => e2⟩
  rw [this, List.filter_eq_self.mpr fun _ _ => rfl]
theorem owns_map {α : Type} {f : α → R} {e : α → D} {xs : List α} (h : ∀ x ∈ xs, ownR (f x) = some (e x)) : owns (xs.map f) = some (xs.map e) := by
  induction xs with
  | nil => rfl
  | cons x xs ih => simp [h x (by simp), ih fun y hy => h y (by simp [hy])]
theorem compR_own {α : Type} {f : α → R} {e : α → D} {xs : List α} (hl : xs.length ≤ sizeLine) (h : ∀ x ∈ xs, ownR (f x) = some (e x)) : compR (xs.map f) = .ok ⟨.own, .list (xs.map e)⟩ := by
  unfold compR
  rw [List.length_map, if_pos hl, owns_map h]
theorem irng_map {lo : Int} {n : Nat} : irng lo n = (List.range n).map fun (k : Nat) => (⟨.imm, .int (lo + (k : Int))⟩ : R) := rfl
end Oz

namespace Oz
open PySem PySem.Spec L2
open PyProof.Rows hiding St
variable [WD]

/-! ### data that == compares -/
structure Sh (n : Nat) (d : D) : Prop where
  c : d.canLay0 = true
  d : d.depth ≤ n
theorem canLayAll0_of {ds : List D} (h : ∀ d ∈ ds, d.canLay0 = true) : PyData.canLayAll0 ds = true := by
  induction ds with
  | nil => simp [PyData.canLayAll0]
  | cons x xs ih => simp [PyData.canLayAll0, h x (by simp), ih fun d hd => h d (by simp [hd])]
theorem depthAll_of {ds : List D} {n : Nat} (h : ∀ d ∈ ds, d.depth ≤ n) : PyData.depthAll ds ≤ n := by
  induction ds with
  | nil => simp [PyData.depthAll]
  | cons x xs ih => simp only [PyData.depthAll]; exact Nat.max_le.mpr ⟨h x (by simp), ih fun d hd => h d (by simp [hd])⟩
theorem Sh.int {n : Nat} {i : Int} : Sh n (.int i) := ⟨by simp [PyData.canLay0], by simp [PyData.depth]⟩
theorem Sh.bool {n : Nat} {b : Bool} : Sh n (.bool b) := ⟨by simp [PyData.canLay0], by simp [PyData.depth]⟩
theorem Sh.none {n : Nat} : Sh n .none := ⟨by simp [PyData.canLay0], by simp [PyData.depth]⟩
theorem Sh.str {n : Nat} {x : Str} (h : PyData.strOk x = true) : Sh n (.str x) := ⟨by simp [PyData.canLay0, h], by simp [PyData.depth]⟩
theorem strOk_of (s : String) : PyData.strOk (Str.ofString s) = true := by
  rw [Str.ofString_eq_toList]
  unfold PyData.strOk
  rw [Array.all_eq_true]
  intro i hi
  have : (s.toList.map Char.toNat)[i]'(by simpa using hi) < 0x110000 := by
    rw [List.getElem_map]
    have h := (s.toList[i]'(by simpa using hi)).valid
    have h2 : ∀ n : Nat, n.isValidChar → n < 0x110000 := fun n h => h.elim (fun h => by omega) fun h => h.2
    exact h2 _ h
  simpa using this
theorem Sh.lit {n : Nat} {w : String} : Sh n (.str (Str.ofString w)) := .str (strOk_of w)
theorem Sh.tup {n : Nat} {ds : List D} (h : ∀ d ∈ ds, Sh n d) : Sh (n + 1) (.tuple ds) := ⟨by simp only [PyData.canLay0]; exact canLayAll0_of fun d hd => (h d hd).c, by simp only [PyData.depth]; exact Nat.succ_le_succ (depthAll_of fun d hd => (h d hd).d)⟩
theorem Sh.list {n : Nat} {ds : List D} (h : ∀ d ∈ ds, Sh n d) : Sh (n + 1) (.list ds) := ⟨by simp only [PyData.canLay0]; exact canLayAll0_of fun d hd => (h d hd).c, by simp only [PyData.depth]; exact Nat.succ_le_succ (depthAll_of fun d hd => (h d hd).d)⟩
theorem Sh.le {n m : Nat} {d : D} (h : Sh n d) (l : n ≤ m) : Sh m d := ⟨h.c, Nat.le_trans h.d l⟩
theorem Sh.shaped {n : Nat} {d : D} (h : Sh n d) (l : n ≤ 64 := by decide) : SeqAt.shaped d = true := by
  unfold SeqAt.shaped
  rw [h.c, Bool.true_and]
  exact decide_eq_true (Nat.le_trans h.d l)
theorem fEq_shaped {a b : D} (ha : SeqAt.shaped a = true) (hb : SeqAt.shaped b = true) : fEq a b = some (PyData.eqv a b) := by
  have hc : (SeqAt.shaped a = true ∧ SeqAt.shaped b = true) := ⟨ha, hb⟩
  unfold fEq
  split <;> first | rfl | (simp [PyData.eqv]; done) | exact if_pos hc
theorem fEq_refl {a : D} (ha : SeqAt.shaped a = true) : fEq a a = some true := by
  rw [fEq_shaped ha ha, PySem.SeqAt.eqv_refl a (SeqAt.canLay_of_shaped ha)]
/-! ### appending at a place -/
end Oz

namespace Oz
open PySem PySem.Spec L2
open PyProof.Rows hiding St
variable [WD]

section
variable {K : PySem.W.Frag} {E : XK} {Z O H Z' O' H' : Hp} {σ : St} {ρ : Ev} {F F1 G F2 : List Addr} {l : Pl} {v : V} {s : Sx} {nx : St → Hp → Prop} {rt : VK}
/-- a place within a place -/
theorem PlAt.child {hd G0 : List Addr} {xs : List V} {ds : List D} {mk : List D → D} {j : Nat} {d : D} (p : PlAt K Z O H σ ρ F l v s F1 G F2) (eg : G = hd ++ G0) (qs : Owns K Z H xs ds G0) (hj : ds[j]? = some d)
    (reb : ∀ Z' H' ds' F', Same Z Z' → (∀ a ∈ hd, ∀ o, H a = some o → (∀ ps, o ≠ .tbl ps) → H' a = some o) → ds'.length = ds.length → Owns K Z' H' xs ds' F' → Own K Z' H' v (mk ds') (hd ++ F')) :
    ∃ x F1' G' F2', xs[j]? = some x ∧ PlAt K Z O H σ ρ F ⟨l.i, d, fun y => l.put (mk (ds.set j y))⟩ x s F1' G' F2' := by
  obtain ⟨x, A, Gi, B, h1, h2, h3, h4⟩ := qs.at hj
  refine ⟨x, F1 ++ (hd ++ A), Gi, B ++ F2, h1, ⟨p.slot, p.st, ?_, h3, fun Z' O' H' d' G' ez eo n k q' => ?_⟩⟩
  · rw [p.eq, eg, h2]
    simp
  · have q5 := h4 Z' H' x d' G' ez (fun c hc o h => k c (by
        rcases List.mem_append.mp hc with hc | hc
        · simp [hc]
        · simp [hc]) o h) q'
    rw [set_same h1] at q5
    have qn := reb Z' H' (ds.set j d') _ ez (fun a ha o h => k a (by simp [ha]) o h) (by simp) q5
    have sl := p.back Z' O' H' (mk (ds.set j d')) _ ez eo n (fun c hc o h => k c (by
        rcases List.mem_append.mp hc with hc | hc
        · simp [hc]
        · simp [hc]) o h) qn
    have ee : F1 ++ (hd ++ A) ++ (G' ++ (B ++ F2)) = F1 ++ ((hd ++ (A ++ (G' ++ B))) ++ F2) := by simp
    rw [ee]
    exact sl
/-- the root cell of a place is written: the frame behind -/
theorem PlAt.store {Z2 O2 H2 : Hp} {a0 : Addr} {o : HO} {dn : D} {Gn : List Addr} (pa : PlAt K Z2 O2 H2 σ ρ F l v s F1 G F2) (rl : Rel K Z O H σ ρ F) (n : nov ρ = true) (x : Ext [] Z O H Z2 O2 H2) (g2 : Good Z2 O2 H2) (ha : a0 ∈ G) (fo : fzn o = false)
    (qn : Own K Z2 (upd H2 a0 o) v dn Gn) (ndn : Gn.Nodup) (hn : ∀ c ∈ Gn, c ∈ G ∨ (H c = none ∧ O2 c = none)) (h : SRK K E Z O H σ ρ F nx rt (putE l dn ρ)) : nx σ (upd H2 a0 o) := by
  have rl2 := rl.ext x g2
  obtain ⟨rl3, n3, tr3⟩ := pa.wrote rl2 n ha fo qn ndn fun c hc => (hn c hc).imp id fun z => ⟨(fun w => by
    obtain ⟨o, h, _⟩ := rl.sl.live c w
    rw [z.1] at h
    cases h), z.2⟩
  obtain ⟨d0, hs0⟩ := pa.slot
  unfold putE at h
  rw [hs0] at h
  have tr12 : TrS Z O H σ ρ F Z2 O2 H2 σ ρ F := TrS.ext x
  refine h σ _ Z2 O2 _ rl3 n3 ⟨⟨tr12.tr.z, fun c o hc hn nn => ?_, tr12.tr.zn, fun c hc => ?_, fun c h => (tr3.tr.fr c h).elim .inl (tr12.tr.fr c), fun c hn h => tr3.tr.tab c hn (tr12.tr.tab c hn h)⟩, tr12.o, rfl, fun j d' hj => tr3.brw j d' hj, tr12.on⟩
  · exact tr3.tr.keep c o (tr12.tr.keep c o hc hn nn) hn nn
  · rcases List.mem_append.mp hc with hc | hc
    · left; rw [pa.eq]; simp [hc]
    · rcases List.mem_append.mp hc with hc | hc
      · rcases hn c hc with z | z
        · left; rw [pa.eq]; simp [z]
        · right; exact z.1
      · left; rw [pa.eq]; simp [hc]
theorem nodup_mid {A G B G' : List Addr} (h : (A ++ (G ++ B)).Nodup) (n : G'.Nodup) (d : ∀ c ∈ G', c ∉ A ++ (G ++ B)) : (A ++ (G' ++ B)).Nodup := by
  obtain ⟨n1, n2, n3⟩ := List.nodup_append.mp h
  obtain ⟨n4, n5, n6⟩ := List.nodup_append.mp n2
  refine List.nodup_append.mpr ⟨n1, List.nodup_append.mpr ⟨n, n5, fun a ha b hb e => d a ha (by rw [e]; simp [hb])⟩, fun a ha b hb e => ?_⟩
  rcases List.mem_append.mp hb with hb | hb
  · exact d b hb (by rw [← e]; simp [ha])
  · exact n3 a ha b (by simp [hb]) e
end

/-! ### l[p] = e, in a list -/
def sSetI (l : Plx) (p q : Px) : Stx := fun ρ => match q ρ with
  | .bad => .bad
  | .exc c fs => .exc c fs ρ
  | .ok r => (match ownR r with
    | none => .bad
    | some d => (match l ρ with
      | .bad => .bad
      | .exc c fs => .exc c fs ρ
      | .ok l => (match p ρ with
        | .bad => .bad
        | .exc c fs => .exc c fs ρ
        | .ok i => (match l.d, i.d with
          | .list ds, .int k => (match ixN ds.length k with
            | some j => putE l (.list (ds.set j d)) ρ
            | none => .bad)
          | _, _ => .bad))))
section
variable {X : Cx} {E : XK} {a b e : Expr} {l : Plx} {p q : Px} {pos apos cpos : Pos}
theorem s_setI (he : PE X e (tP X.K E q)) (hl : PE X a (tPl X.K E l)) (hp : PE X b (tP X.K E p)) (hg : ∀ {to ti : TE}, PE X a to → PE X b ti → PG X (.Subscript a b apos) (gSub to ti rSetL))
    (hs : swapsWithSole [.Subscript a b apos] e pos.line X.env = pure false := by rfl) (hw : swappedStores [.Subscript a b apos] e X.env = pure none := by rfl)
    (h1 : (assignEach [.Subscript a b apos] X.env).map (·.2) = [assign (.Subscript a b apos) X.env] := by rfl) : PS X (.Assign [.Subscript a b apos] e pos) (tS X.K E (sSetI l p q)) := by
  refine (ps_asg he (hg hl hp) hs hw h1).imp fun D σ H h => ?_
  obtain ⟨Z, O, ρ, F, rl, n, h⟩ := h
  refine ⟨Z, O, ρ, F, rl, ?_⟩
  unfold sSetI at h
  cases e1 : q ρ with
  | bad => rw [e1] at h; exact h.elim
  | exc c fs => rw [e1] at h; exact SRK.exc rl h
  | ok r =>
    rw [e1] at h
    simp only at h
    cases er : ownR r with
    | none => rw [er] at h; exact h.elim
    | some d =>
      rw [er] at h
      simp only at h
      intro y H1 Z1 O1 Gy x1 g1 q1 nd1 fr1
      have rl1 := rl.ext x1 g1
      refine ⟨Z1, O1, ρ, F, rl1, ?_⟩
      cases e2 : l ρ with
      | bad => rw [e2] at h; exact h.elim
      | exc c fs => rw [e2] at h; exact ExcK.ext (SRK.exc rl h) x1
      | ok l0 =>
        rw [e2] at h
        simp only at h
        intro v H2 Z2 O2 s F1 G F2 x2 g2 pa
        have rl2 := rl1.ext x2 g2
        refine ⟨Z2, O2, ρ, F, rl2, ?_⟩
        cases e3 : p ρ with
        | bad => rw [e3] at h; exact h.elim
        | exc c fs => rw [e3] at h; exact ExcK.ext (SRK.exc rl h) (x1.trans0 x2)
        | ok i =>
          rw [e3] at h
          simp only at h
          intro w H3 Z3 O3 Gi x3 g3 q3 nd3 fr3
          have pa3 := pa.ext x3
          obtain ⟨si, di⟩ := i
          cases el : l0.d with
          | list ds =>
            cases di with
            | int k =>
              rw [el] at h
              simp only at h
              cases ei : ixN ds.length k with
              | none => rw [ei] at h; exact h.elim
              | some j =>
                rw [ei] at h
                simp only at h
                have lk := q3.look g3
                cases lk
                have qo := pa3.own
                rw [el] at qo
                obtain ⟨a0, xs, G0, rfl, ha0, qs, eg⟩ := qo.lst_inv
                obtain ⟨hjn, _⟩ : j < ds.length ∧ True := ⟨(ixN_seq ei).2.1, trivial⟩
                obtain ⟨x, A, Gj, B, h1, h2, h3, h4⟩ := qs.at (List.getElem?_eq_getElem hjn)
                have x123 := (x1.trans0 x2).trans0 x3
                obtain ⟨G', qy, cG⟩ := ownR_ok g1 q1 er
                have sG : ∀ c ∈ G', c ∈ Gy := fun c hc => by
                  rcases cG with z | z
                  · rw [z] at hc; exact hc
                  · rw [z] at hc; cases hc
                have nG : G'.Nodup := by
                  rcases cG with z | z
                  · rw [z]; exact nd1
                  · rw [z]; exact List.nodup_nil
                have fG : ∀ c ∈ G', H c = none := fun c hc => (fr1 c (sG c hc)).1.elim id fun z => by cases z
                have oG : ∀ c ∈ G', O3 c = none := fun c hc => by
                  obtain ⟨o, hy, _⟩ := qy.live c hc
                  cases w : O3 c with
                  | none => rfl
                  | some o' =>
                    rcases (x2.trans0 x3).on c (by rw [w]; simp) with z | z | z
                    · exact absurd (fr1 c (sG c hc)).2 z
                    · rw [hy] at z; cases z
                    · cases z
                have nF := rl.nd
                rw [pa3.eq, eg] at nF
                have nGG : (a0 :: G0).Nodup := (List.nodup_append.mp (List.nodup_append.mp nF).2.1).1
                have aG0 : a0 ∉ G0 := (List.nodup_cons.mp nGG).1
                have inF : ∀ c ∈ a0 :: G0, c ∈ F := fun c hc => by rw [pa3.eq, eg]; simp only [List.mem_append]; exact .inr (.inl hc)
                have dF : ∀ c ∈ G', c ∉ F := fun c hc z => by
                  obtain ⟨o, hy, _⟩ := rl.sl.live c z
                  rw [fG c hc] at hy
                  cases hy
                refine ⟨a0, xs, k, j, rfl, rfl, ha0, by rw [qs.length]; exact ei, ?_⟩
                have kp : ∀ c, c ≠ a0 → ∀ o, H3 c = some o → upd H3 a0 (.lst (xs.set j y)) c = some o := fun c hc o h => by rw [upd_ne hc]; exact h
                have qn : Own X.K Z3 (upd H3 a0 (.lst (xs.set j y))) (.ref a0) (.list (ds.set j d)) (a0 :: (A ++ (G' ++ B))) := by
                  refine .lst upd_same (h4 Z3 _ y d G' (Same.refl _) (fun c hc o h _ => kp c (fun z => aG0 (by rw [h2, ← z]; rcases List.mem_append.mp hc with hc | hc <;> simp [hc])) o h) ?_)
                  exact Own.mono (x2.z.trans x3.z) (fun c hc o h n => kp c (fun z => dF c hc (inF c (by rw [z]; simp))) o (x3.h.s _ _ (x2.h.s _ _ h n) n)) qy
                refine pa3.store rl n x123 g3 (a0 := a0) (by rw [eg]; simp) rfl qn ?_ (fun c hc => ?_) h
                · refine List.nodup_cons.mpr ⟨fun z => ?_, nodup_mid (G := Gj) (by rw [← h2]; exact (List.nodup_cons.mp nGG).2) nG fun c hc z => dF c hc (inF c (by rw [h2]; exact List.mem_cons_of_mem _ z))⟩
                  rcases List.mem_append.mp z with z | z
                  · exact aG0 (by rw [h2]; simp [z])
                  · rcases List.mem_append.mp z with z | z
                    · exact dF a0 z (inF a0 (by simp))
                    · exact aG0 (by rw [h2]; simp [z])
                · rcases List.mem_cons.mp hc with z | z
                  · left; rw [eg, z]; simp
                  · rcases List.mem_append.mp z with z | z
                    · left; rw [eg, h2]; simp [z]
                    · rcases List.mem_append.mp z with z | z
                      · right; exact ⟨fG c z, oG c z⟩
                      · left; rw [eg, h2]; simp [z]
            | _ => rw [el] at h; exact h.elim
          | _ => rw [el] at h; exact h.elim
end
end Oz

namespace Oz
open PySem PySem.Spec L2
open PyProof.Rows hiding St
variable [WD]

/-! ### dicts -/
def keyOf : D → Option Key
  | .int i => some (.inl i)
  | .str x => some (.inr x)
  | _ => none
theorem keyOf_kd (k : Key) : keyOf (kd k) = some k := by cases k <;> rfl
def isDct (es : List (D × D)) : Bool := es.all fun e => (keyOf e.1).isSome
def lkD (k : Key) : List (D × D) → Option D
  | [] => none
  | (a, d) :: r => if keyOf a = some k then some d else lkD k r
def noD (k : Key) (es : List (D × D)) : Bool := es.all fun e => decide (¬ keyOf e.1 = some k)
def ukD (k : Key) : List (D × D) → Bool
  | [] => true
  | (a, _) :: r => if keyOf a = some k then noD k r else ukD k r
def ptD (k : Key) (d : D) : List (D × D) → List (D × D)
  | [] => [(kd k, d)]
  | (a, x) :: r => if keyOf a = some k then (a, d) :: r else (a, x) :: ptD k d r
theorem noD_val {k : Key} : ∀ {kvs : List (Key × V)} {es : List (D × D)}, es.map (·.1) = kvs.map (fun p => kd p.1) → noD k es = true → ∀ p ∈ kvs, ¬ p.1 = k
  | [], [], _, _ => fun p hp => by cases hp
  | (k1, v) :: kvs, (a, d) :: es, h, n => by
    simp only [List.map_cons, List.cons.injEq] at h
    obtain ⟨h1, h2⟩ := h
    unfold noD at n
    rw [List.all_cons] at n
    obtain ⟨n1, n2⟩ := Bool.and_eq_true_iff.mp n
    intro p hp
    rcases List.mem_cons.mp hp with z | z
    · rw [z]
      have := of_decide_eq_true n1
      rw [h1, keyOf_kd] at this
      exact fun e => this (by rw [show k1 = k from e])
    · exact noD_val h2 n2 p z
  | [], _ :: _, h, _ => by simp at h
  | _ :: _, [], h, _ => by simp at h
theorem lk_none {k : Key} : ∀ {kvs : List (Key × V)} {es : List (D × D)}, es.map (·.1) = kvs.map (fun p => kd p.1) → lkD k es = none → valV kvs k = none
  | [], [], _, _ => rfl
  | (k1, v) :: kvs, (a, d) :: es, h, n => by
    simp only [List.map_cons, List.cons.injEq] at h
    obtain ⟨h1, h2⟩ := h
    unfold lkD at n
    by_cases c : keyOf a = some k
    · rw [if_pos c] at n; cases n
    · rw [if_neg c] at n
      have hk : ¬ k1 = k := fun e => c (by rw [h1, keyOf_kd]; exact congrArg some e)
      rw [valV_neg (p := (k1, v)) hk]
      exact lk_none h2 n
  | [], _ :: _, h, _ => by simp at h
  | _ :: _, [], h, _ => by simp at h
theorem map_id_of {k : Key} {y : V} : ∀ {kvs : List (Key × V)}, (∀ p ∈ kvs, ¬ p.1 = k) → kvs.map (fun kv => if kv.1 = k then (kv.1, y) else kv) = kvs
  | [], _ => rfl
  | p :: kvs, h => by
    rw [List.map_cons, if_neg (h p (by simp)), map_id_of fun q hq => h q (by simp [hq])]
theorem lk_some {k : Key} : ∀ {kvs : List (Key × V)} {es : List (D × D)} {d : D}, es.map (·.1) = kvs.map (fun p => kd p.1) → lkD k es = some d →
    ∃ j x, valV kvs k = some x ∧ (kvs.map (·.2))[j]? = some x ∧ (es.map (·.2))[j]? = some d ∧
      (ukD k es = true → ∀ (y : V) (d' : D), (kvs.map (fun kv => if kv.1 = k then (kv.1, y) else kv)).map (·.2) = (kvs.map (·.2)).set j y ∧ (ptD k d' es).map (·.2) = (es.map (·.2)).set j d' ∧ (ptD k d' es).map (·.1) = (kvs.map (fun kv => if kv.1 = k then (kv.1, y) else kv)).map (fun p => kd p.1))
  | [], [], _, _, h => by simp [lkD] at h
  | (k1, v) :: kvs, (a, d0) :: es, d, h, n => by
    simp only [List.map_cons, List.cons.injEq] at h
    obtain ⟨h1, h2⟩ := h
    unfold lkD at n
    by_cases c : keyOf a = some k
    · rw [if_pos c] at n
      cases n
      have hk : k1 = k := by
        have := c
        rw [h1, keyOf_kd] at this
        exact Option.some.inj this
      refine ⟨0, v, valV_pos (p := (k1, v)) hk, rfl, rfl, fun u y d' => ?_⟩
      unfold ukD at u
      rw [if_pos c] at u
      unfold ptD
      rw [if_pos c]
      rw [List.map_cons, if_pos hk, map_id_of (noD_val h2 u)]
      refine ⟨rfl, rfl, ?_⟩
      rw [List.map_cons, List.map_cons, h1, h2]
    · rw [if_neg c] at n
      have hk : ¬ k1 = k := fun e => c (by rw [h1, keyOf_kd]; exact congrArg some e)
      obtain ⟨j, x, e1, e2, e3, e4⟩ := lk_some h2 n
      refine ⟨j + 1, x, by rw [valV_neg (p := (k1, v)) hk]; exact e1, by simpa using e2, by simpa using e3, fun u y d' => ?_⟩
      unfold ukD at u
      rw [if_neg c] at u
      obtain ⟨f1, f2, f3⟩ := e4 u y d'
      unfold ptD
      rw [if_neg c, List.map_cons, if_neg hk]
      refine ⟨?_, ?_, ?_⟩
      · rw [List.map_cons, f1, List.map_cons, List.set_cons_succ]
      · rw [List.map_cons, f2, List.map_cons, List.set_cons_succ]
      · rw [List.map_cons, f3, List.map_cons, h1]
  | [], _ :: _, _, h, _ => by simp at h
  | _ :: _, [], _, h, _ => by simp at h
theorem pt_new {k : Key} {d : D} : ∀ {es : List (D × D)}, lkD k es = none → ptD k d es = es ++ [(kd k, d)]
  | [], _ => rfl
  | (a, x) :: es, h => by
    unfold lkD at h
    unfold ptD
    by_cases c : keyOf a = some k
    · rw [if_pos c] at h; cases h
    · rw [if_neg c] at h
      rw [if_neg c, pt_new h]
      rfl
section
variable {K : PySem.W.Frag} {Z O H : Hp} {v : V}
theorem Own.dct_inv {es : List (D × D)} {G : List Addr} (q : Own K Z H v (.dict es) G) (hd : isDct es = true) : ∃ a kvs G0, v = .ref a ∧ H a = some (.dK kvs) ∧ es.map (·.1) = kvs.map (fun p => kd p.1) ∧ Owns K Z H (kvs.map (·.2)) (es.map (·.2)) G0 ∧ G = a :: G0 := by
  have nv : isVal (.dict es) = false := by
    unfold isVal
    split
    · rename_i e; cases e
    · rename_i e; cases e; simp [isDct, keyOf] at hd
    · rfl
    · rename_i h1 h2 h3; exact absurd rfl (h3 es)
  cases q with
  | imm r p => rw [nv] at p; cases p
  | dct h e r => exact ⟨_, _, _, rfl, h, e, r, rfl⟩
  | obj h h2 c e r => simp [isDct, keyOf] at hd
theorem Rep.dct_inv {C : Hp} {es : List (D × D)} (q : Rep K C v (.dict es)) (hd : isDct es = true) : ∃ a kvs, v = .ref a ∧ C a = some (.dK kvs) ∧ es.map (·.1) = kvs.map (fun p => kd p.1) ∧ Reps K C (kvs.map (·.2)) (es.map (·.2)) := by
  cases q with
  | scr h r => simp [isDct, keyOf] at hd
  | ptr a => simp [isDct, keyOf] at hd
  | dct h e r => exact ⟨_, _, rfl, h, e, r⟩
  | obj h c e r => simp [isDct, keyOf] at hd
theorem key_kV {k : Key} {d : D} {C : Hp} (h : keyOf d = some k) (r : Rep K C v d) : v = kV k := by
  cases r with
  | int i => cases h; rfl
  | str x => cases h; rfl
  | _ => cases h
end
/-- d[k], looked at -/
def keyR (a b : R) : Res R := match a.d, keyOf b.d with
  | .dict es, some k => if isDct es = true then (match lkD k es with
    | some d => .ok (sub a.s d)
    | none => .bad) else .bad
  | _, _ => .bad
theorem o_key {K : PySem.W.Frag} : Op2 K (fun x y H Q => ∃ a v, x = .ref a ∧ DGet H a y (some v) ∧ Q v H) keyR := by
  intro E Z O H x y a b F G Q g ra rb nd fo q
  obtain ⟨s, d⟩ := a
  obtain ⟨t, k0⟩ := b
  have lb := rb.look g
  cases d with
  | dict es =>
    have q2 : ResK K E (F ++ G) Z O H (match keyOf k0 with | some k => (if isDct es = true then (match lkD k es with | some d => .ok (sub s d) | none => .bad) else .bad) | none => .bad) Q := by
      unfold keyR at q
      simp only at q
      cases e : keyOf k0 with
      | none => rw [e] at q; exact q
      | some k => rw [e] at q; exact q
    cases e : keyOf k0 with
    | none => rw [e] at q2; exact q2.elim
    | some k =>
      rw [e] at q2
      simp only at q2
      by_cases c : isDct es = true
      · rw [if_pos c] at q2
        have la := ra.look g
        obtain ⟨p, kvs, ev, hp, hk, hr⟩ := la.dct_inv c
        cases e2 : lkD k es with
        | none => rw [e2] at q2; exact q2.elim
        | some d =>
          rw [e2] at q2
          obtain ⟨j, x, e3, e4, e5, _⟩ := lk_some hk e2
          obtain ⟨x', e6, rx⟩ := hr.get e5
          rw [e4] at e6
          cases e6
          refine ⟨p, x, ev, ?_, ?_⟩
          · rw [key_kV e lb, ← e3]
            exact DGet.k hp
          · refine OkK.sub g q2 rx (fun es1 => ?_) fun es1 => ?_
            · subst es1
              have r0 : Rep K Z _ (.dict es) := ra.1
              obtain ⟨p', kvs', ev', hp', hk', hr'⟩ := r0.dct_inv c
              rw [ev] at ev'
              cases ev'
              have := g.zh _ _ hp'
              rw [hp] at this
              cases this
              obtain ⟨x', e7, rx'⟩ := hr'.get e5
              rw [e4] at e7
              cases e7
              exact rx'
            · subst es1
              have r0 : Rep K O _ (.dict es) := ra.1
              obtain ⟨p', kvs', ev', hp', hk', hr'⟩ := r0.dct_inv c
              rw [ev] at ev'
              cases ev'
              have := g.oh _ _ hp'
              rw [hp] at this
              cases this
              obtain ⟨x', e7, rx'⟩ := hr'.get e5
              rw [e4] at e7
              cases e7
              exact rx'
      · rw [if_neg c] at q2; exact q2.elim
  | _ => exact q.elim
section
variable {X : Cx} {E : XK} {a b e : Expr} {l : Plx} {p q : Px} {pos apos : Pos}
theorem s_key (hu : X.A.units + 64 < cLine) (ha : PE X a (tP X.K E p)) (hb : PE X b (tP X.K E q)) (hs : NoSl b := by exact fun _ _ => rfl) : PE X (.Subscript a b pos) (tP X.K E (p2 keyR p q)) :=
  (pe_dget (by omega) ha hb hs).imp fun σ H Q h => tP_op2 o_key h
/-- the place of a key -/
def plK (l : Plx) (p : Px) : Plx := fun ρ => (l ρ).bind fun l => (p ρ).bind fun r => match l.d, keyOf r.d with
  | .dict es, some k => if isDct es = true ∧ ukD k es = true then (match lkD k es with
    | some d => .ok ⟨l.i, d, fun y => l.put (.dict (ptD k y es))⟩
    | none => .bad) else .bad
  | _, _ => .bad
theorem zip_mk : ∀ es : List (D × D), (es.map (·.1)).zip (es.map (·.2)) = es
  | [] => rfl
  | (a, b) :: es => by rw [List.map_cons, List.map_cons, List.zip_cons_cons, zip_mk es]
theorem ptD_zip {k : Key} {es : List (D × D)} {j : Nat} {d : D} {kvs : List (Key × V)} (hk : es.map (·.1) = kvs.map (fun p => kd p.1)) (h : ∀ (y : V) (d' : D), (kvs.map (fun kv => if kv.1 = k then (kv.1, y) else kv)).map (·.2) = (kvs.map (·.2)).set j y ∧ (ptD k d' es).map (·.2) = (es.map (·.2)).set j d' ∧ (ptD k d' es).map (·.1) = (kvs.map (fun kv => if kv.1 = k then (kv.1, y) else kv)).map (fun p => kd p.1)) (d' : D) :
    ptD k d' es = ((es.map (·.1)).zip ((es.map (·.2)).set j d')) := by
  obtain ⟨_, h2, h3⟩ := h .non d'
  have e1 : (kvs.map (fun kv => if kv.1 = k then (kv.1, V.non) else kv)).map (fun p => kd p.1) = kvs.map (fun p => kd p.1) := by
    rw [List.map_map]
    refine List.map_congr_left fun p _ => ?_
    show kd (if p.1 = k then (p.1, V.non) else p).1 = kd p.1
    by_cases c : p.1 = k
    · rw [if_pos c]
    · rw [if_neg c]
  rw [e1, ← hk] at h3
  rw [← h2, ← h3, zip_mk]
theorem zip_fst : ∀ {as bs : List D}, as.length = bs.length → (as.zip bs).map (·.1) = as ∧ (as.zip bs).map (·.2) = bs
  | [], [], _ => ⟨rfl, rfl⟩
  | a :: as, b :: bs, h => by
    obtain ⟨h1, h2⟩ := zip_fst (as := as) (bs := bs) (by simpa using h)
    exact ⟨by rw [List.zip_cons_cons, List.map_cons, h1], by rw [List.zip_cons_cons, List.map_cons, h2]⟩
  | [], _ :: _, h => by simp at h
  | _ :: _, [], h => by simp at h
theorem PlAt.key {K : PySem.W.Frag} {Z O H : Hp} {σ : St} {ρ : Ev} {F F1 G F2 : List Addr} {l : Pl} {v : V} {s : Sx} {es : List (D × D)} {k : Key} {d : D} (pa : PlAt K Z O H σ ρ F l v s F1 G F2) (e : l.d = .dict es) (hd : isDct es = true) (hu : ukD k es = true) (h : lkD k es = some d) :
    ∃ a kvs x F1' G' F2', v = .ref a ∧ H a = some (.dK kvs) ∧ valV kvs k = some x ∧ PlAt K Z O H σ ρ F ⟨l.i, d, fun y => l.put (.dict (ptD k y es))⟩ x s F1' G' F2' := by
  have q := pa.own
  rw [e] at q
  obtain ⟨a, kvs, G0, rfl, ha, hk, qs, eg⟩ := q.dct_inv hd
  obtain ⟨j, x, e1, e2, e3, e4⟩ := lk_some hk h
  obtain ⟨x', F1', G', F2', e5, pb⟩ := pa.child (hd := [a]) (mk := fun ds => .dict ((es.map (·.1)).zip ds)) eg qs e3 fun Z' H' ds' F' ez kp hl q' => by
    obtain ⟨z1, z2⟩ := zip_fst (as := es.map (·.1)) (bs := ds') (by rw [hl, List.length_map, List.length_map])
    exact .dct (kp a (by simp) _ ha nofun) (by rw [z1]; exact hk) (by rw [z2]; exact q')
  rw [e2] at e5
  cases e5
  refine ⟨a, kvs, x, F1', G', F2', rfl, ha, e1, ?_⟩
  have ee : (fun y => l.put (.dict (ptD k y es))) = fun y => l.put (.dict ((es.map (·.1)).zip ((es.map (·.2)).set j y))) := by
    funext y
    rw [ptD_zip (d := d) hk (e4 hu) y]
  rw [ee]
  exact pb
theorem s_plK (hu : X.A.units + 64 < cLine) (ha : PE X a (tPl X.K E l)) (hb : PE X b (tP X.K E p)) (hs : NoSl b := by exact fun _ _ => rfl) : PE X (.Subscript a b pos) (tPl X.K E (plK l p)) := by
  refine (pe_dget (by omega) ha hb hs).imp fun σ H Q h => ?_
  obtain ⟨Z, O, ρ, F, rl, h⟩ := h
  refine ⟨Z, O, ρ, F, rl, ?_⟩
  unfold plK at h
  cases e : l ρ with
  | bad => rw [e] at h; exact h.elim
  | exc c fs => rw [e] at h; exact h
  | ok l0 =>
    rw [e] at h
    simp only [Res.bind_ok] at h
    intro v H1 Z1 O1 s F1 G F2 x1 g1 pa
    have rl1 := rl.ext x1 g1
    refine ⟨Z1, O1, ρ, F, rl1, ?_⟩
    cases e2 : p ρ with
    | bad => rw [e2] at h; exact h.elim
    | exc c fs => rw [e2] at h; exact ExcK.ext h x1
    | ok r =>
      rw [e2] at h
      simp only [Res.bind_ok] at h
      intro y H2 Z2 O2 G2 x2 g2 q2 nd2 fr2
      have pa2 := pa.ext x2
      cases el : l0.d with
      | dict es =>
        cases ek : keyOf r.d with
        | none => rw [el, ek] at h; exact h.elim
        | some k =>
          rw [el, ek] at h
          simp only at h
          by_cases c : isDct es = true ∧ ukD k es = true
          · rw [if_pos c] at h
            cases ed : lkD k es with
            | none => rw [ed] at h; exact h.elim
            | some d =>
              rw [ed] at h
              obtain ⟨a', kvs, x', F1', G', F2', ev, ha', hx, pb⟩ := pa2.key el c.1 c.2 ed
              refine ⟨a', x', ev, ?_, h x' H2 Z2 O2 s F1' G' F2' (x1.trans0 x2) g2 pb⟩
              rw [key_kV ek (q2.look g2), ← hx]
              exact DGet.k ha'
          · rw [if_neg c] at h; exact h.elim
      | _ => rw [el] at h; cases ek : keyOf r.d <;> rw [ek] at h <;> exact h.elim
/-- l[k] = e, in a dict -/
def sPut (l : Plx) (p q : Px) : Stx := fun ρ => match q ρ with
  | .bad => .bad
  | .exc c fs => .exc c fs ρ
  | .ok r => (match ownR r with
    | none => .bad
    | some d => (match l ρ with
      | .bad => .bad
      | .exc c fs => .exc c fs ρ
      | .ok l => (match p ρ with
        | .bad => .bad
        | .exc c fs => .exc c fs ρ
        | .ok i => (match l.d, keyOf i.d with
          | .dict es, some k => if isDct es = true ∧ ukD k es = true ∧ es.length < sizeLine then putE l (.dict (ptD k d es)) ρ else .bad
          | _, _ => .bad))))
theorem s_put (hu : X.A.units + 64 < cLine) (he : PE X e (tP X.K E q)) (hl : PE X a (tPl X.K E l)) (hp : PE X b (tP X.K E p)) (hs : swapsWith e (some (.Subscript a b apos)) pos.line X.env = pure false := by rfl) : PS X (.Assign [.Subscript a b apos] e pos) (tS X.K E (sPut l p q)) := by
  refine (ps_dput (by omega) hl hp he hs).imp fun D σ H h => ?_
  obtain ⟨Z, O, ρ, F, rl, n, h⟩ := h
  refine ⟨Z, O, ρ, F, rl, ?_⟩
  unfold sPut at h
  cases e1 : q ρ with
  | bad => rw [e1] at h; exact h.elim
  | exc c fs => rw [e1] at h; exact SRK.exc rl h
  | ok r =>
    rw [e1] at h
    simp only at h
    cases er : ownR r with
    | none => rw [er] at h; exact h.elim
    | some d =>
      rw [er] at h
      simp only at h
      intro y H1 Z1 O1 Gy x1 g1 q1 nd1 fr1
      have rl1 := rl.ext x1 g1
      refine ⟨Z1, O1, ρ, F, rl1, ?_⟩
      cases e2 : l ρ with
      | bad => rw [e2] at h; exact h.elim
      | exc c fs => rw [e2] at h; exact ExcK.ext (SRK.exc rl h) x1
      | ok l0 =>
        rw [e2] at h
        simp only at h
        intro v H2 Z2 O2 s F1 G F2 x2 g2 pa
        have rl2 := rl1.ext x2 g2
        refine ⟨Z2, O2, ρ, F, rl2, ?_⟩
        cases e3 : p ρ with
        | bad => rw [e3] at h; exact h.elim
        | exc c fs => rw [e3] at h; exact ExcK.ext (SRK.exc rl h) (x1.trans0 x2)
        | ok i =>
          rw [e3] at h
          simp only at h
          intro w H3 Z3 O3 Gi x3 g3 q3 nd3 fr3
          have pa3 := pa.ext x3
          cases el : l0.d with
          | dict es =>
            cases ek : keyOf i.d with
            | none => rw [el, ek] at h; exact h.elim
            | some k =>
              rw [el, ek] at h
              simp only at h
              by_cases c : isDct es = true ∧ ukD k es = true ∧ es.length < sizeLine
              · rw [if_pos c] at h
                obtain ⟨c1, c2, c3⟩ := c
                have qo := pa3.own
                rw [el] at qo
                obtain ⟨a0, kvs, G0, rfl, ha0, hk, qs, eg⟩ := qo.dct_inv c1
                have x123 := (x1.trans0 x2).trans0 x3
                obtain ⟨G', qy, cG⟩ := ownR_ok g1 q1 er
                have sG : ∀ c ∈ G', c ∈ Gy := fun c hc => by
                  rcases cG with z | z
                  · rw [z] at hc; exact hc
                  · rw [z] at hc; cases hc
                have nG : G'.Nodup := by
                  rcases cG with z | z
                  · rw [z]; exact nd1
                  · rw [z]; exact List.nodup_nil
                have fG : ∀ c ∈ G', H c = none := fun c hc => (fr1 c (sG c hc)).1.elim id fun z => by cases z
                have oG : ∀ c ∈ G', O3 c = none := fun c hc => by
                  obtain ⟨o, hy, _⟩ := qy.live c hc
                  cases w : O3 c with
                  | none => rfl
                  | some o' =>
                    rcases (x2.trans0 x3).on c (by rw [w]; simp) with z | z | z
                    · exact absurd (fr1 c (sG c hc)).2 z
                    · rw [hy] at z; cases z
                    · cases z
                have nF := rl.nd
                rw [pa3.eq, eg] at nF
                have nGG : (a0 :: G0).Nodup := (List.nodup_append.mp (List.nodup_append.mp nF).2.1).1
                have aG0 : a0 ∉ G0 := (List.nodup_cons.mp nGG).1
                have inF : ∀ c ∈ a0 :: G0, c ∈ F := fun c hc => by rw [pa3.eq, eg]; simp only [List.mem_append]; exact .inr (.inl hc)
                have dF : ∀ c ∈ G', c ∉ F := fun c hc z => by
                  obtain ⟨o, hy, _⟩ := rl.sl.live c z
                  rw [fG c hc] at hy
                  cases hy
                have hlen : kvs.length = es.length := by
                  have := congrArg List.length hk
                  simpa using this.symm
                refine ⟨a0, _, rfl, by rw [key_kV ek (q3.look g3)]; exact DPut.k (k := k) (v := y) ha0 (by rw [hlen]; exact c3), ?_⟩
                have kp : ∀ o', ∀ c, c ≠ a0 → ∀ o, H3 c = some o → upd H3 a0 o' c = some o := fun o' c hc o h => by rw [upd_ne hc]; exact h
                have qy3 : ∀ o', Own X.K Z3 (upd H3 a0 o') y d G' := fun o' => Own.mono (x2.z.trans x3.z) (fun c hc o h n => kp o' c (fun z => dF c hc (inF c (by rw [z]; simp))) o (x3.h.s _ _ (x2.h.s _ _ h n) n)) qy
                cases ed : lkD k es with
                | some d0 =>
                  obtain ⟨j, x, e4, e5, e6, e7⟩ := lk_some hk ed
                  obtain ⟨f1, f2, f3⟩ := e7 c2 y d
                  obtain ⟨x', A, Gj, B, h1, h2, h3, h4⟩ := qs.at e6
                  have hput : putK kvs k y = kvs.map (fun kv => if kv.1 = k then (kv.1, y) else kv) := by
                    unfold putK
                    rw [valV_any, e4]
                    exact if_pos rfl
                  have qn : Own X.K Z3 (upd H3 a0 (.dK (putK kvs k y))) (.ref a0) (.dict (ptD k d es)) (a0 :: (A ++ (G' ++ B))) := by
                    refine .dct upd_same (by rw [f3, hput]) ?_
                    rw [hput, f1, f2]
                    exact h4 Z3 _ y d G' (Same.refl _) (fun c hc o h _ => kp _ c (fun z => aG0 (by rw [h2, ← z]; rcases List.mem_append.mp hc with hc | hc <;> simp [hc])) o h) (by rw [← hput]; exact qy3 _)
                  refine pa3.store rl n x123 g3 (a0 := a0) (by rw [eg]; simp) rfl qn ?_ (fun c hc => ?_) h
                  · refine List.nodup_cons.mpr ⟨fun z => ?_, nodup_mid (G := Gj) (by rw [← h2]; exact (List.nodup_cons.mp nGG).2) nG fun c hc z => dF c hc (inF c (by rw [h2]; exact List.mem_cons_of_mem _ z))⟩
                    rcases List.mem_append.mp z with z | z
                    · exact aG0 (by rw [h2]; simp [z])
                    · rcases List.mem_append.mp z with z | z
                      · exact dF a0 z (inF a0 (by simp))
                      · exact aG0 (by rw [h2]; simp [z])
                  · rcases List.mem_cons.mp hc with z | z
                    · left; rw [eg, z]; simp
                    · rcases List.mem_append.mp z with z | z
                      · left; rw [eg, h2]; simp [z]
                      · rcases List.mem_append.mp z with z | z
                        · right; exact ⟨fG c z, oG c z⟩
                        · left; rw [eg, h2]; simp [z]
                | none =>
                  have hv := lk_none hk ed
                  have hput : putK kvs k y = kvs ++ [(k, y)] := putK_new y hv
                  have hpt : ptD k d es = es ++ [(kd k, d)] := pt_new ed
                  have qn : Own X.K Z3 (upd H3 a0 (.dK (putK kvs k y))) (.ref a0) (.dict (ptD k d es)) (a0 :: (G0 ++ G')) := by
                    refine .dct upd_same (by rw [hpt, hput, List.map_append, List.map_append, hk]; rfl) ?_
                    rw [hput, hpt, List.map_append, List.map_append]
                    refine Owns.append (Owns.mono (Same.refl _) (fun c hc o h _ => kp _ c (fun z => aG0 (z ▸ hc)) o h) qs) (Owns.one ?_)
                    rw [← hput]
                    exact qy3 _
                  refine pa3.store rl n x123 g3 (a0 := a0) (by rw [eg]; simp) rfl qn ?_ (fun c hc => ?_) h
                  · refine List.nodup_cons.mpr ⟨fun z => ?_, List.nodup_append.mpr ⟨(List.nodup_cons.mp nGG).2, nG, fun u hu w hw e => dF w hw (inF w (by rw [← e]; exact List.mem_cons_of_mem _ hu))⟩⟩
                    rcases List.mem_append.mp z with z | z
                    · exact aG0 z
                    · exact dF a0 z (inF a0 (by simp))
                  · rcases List.mem_cons.mp hc with z | z
                    · left; rw [eg, z]; simp
                    · rcases List.mem_append.mp z with z | z
                      · left; rw [eg]; simp [z]
                      · right; exact ⟨fG c z, oG c z⟩
              · rw [if_neg c] at h; exact h.elim
          | _ => rw [el] at h; cases ek : keyOf i.d <;> rw [ek] at h <;> exact h.elim
end
end Oz

namespace Oz
open PySem PySem.Spec L2
open PyProof.Rows hiding St
variable [WD]

/-! ### expressions that change the frame: a statement's mirror that returns -/
def MRK (K : PySem.W.Frag) (E : XK) (Z O H : Hp) (σ : St) (ρ : Ev) (F : List Addr) (Q : VK) : SR → Prop
  | .bad => False
  | .next _ => False
  | .ret r ρ' => ∀ v H' Z' O' F' G, Rel K Z' O' H' σ ρ' F' → nov ρ' = true → RepR K Z' O' H' v r G → (F' ++ G).Nodup → (∀ a ∈ G, O' a = none) → Tr Z H F Z' H' (F' ++ G) → TrS Z O H σ ρ F Z' O' H' σ ρ' F' → Q v H'
  | .exc c fs ρ' => ∀ H' Z' O' F' d xs, Rel K Z' O' H' σ ρ' F' → TrS Z O H σ ρ F Z' O' H' σ ρ' F' → H' d = some (.xd xs) → xs.map (·.1) = fs.map (·.1) → Reps K Z' (xs.map (·.2)) (fs.map (·.2)) → E (.ref (He.ga K c)) (some d) H'
def tM (K : PySem.W.Frag) (E : XK) (s : Stx) : TE := fun σ H Q => ∃ Z O ρ F, Rel K Z O H σ ρ F ∧ nov ρ = true ∧ MRK K E Z O H σ ρ F Q (s ρ)
def tMT (K : PySem.W.Frag) (E : XK) (s : Stx) : TT := fun σ H Q => ∃ Z O ρ F, Rel K Z O H σ ρ F ∧ nov ρ = true ∧ match s ρ with
  | .ret ⟨_, .bool b⟩ ρ' => ∀ H' Z' O' F', Rel K Z' O' H' σ ρ' F' → nov ρ' = true → TrS Z O H σ ρ F Z' O' H' σ ρ' F' → Q b H'
  | .exc c fs ρ' => MRK K E Z O H σ ρ F (fun _ _ => True) (.exc c fs ρ')
  | _ => False
section
variable {K : PySem.W.Frag} {E : XK} {Z O H Z1 O1 H1 : Hp} {σ : St} {ρ ρ1 : Ev} {F F1 : List Addr} {Q Q' : VK}
theorem MRK.from {r : SR} (h : MRK K E Z O H σ ρ F Q r) (t : TrS Z O H σ ρ F Z1 O1 H1 σ ρ1 F1) : MRK K E Z1 O1 H1 σ ρ1 F1 Q r := by
  cases r with
  | bad => exact h
  | next ρ' => exact h
  | ret r ρ' => exact fun v H' Z' O' F' G q n w nd fo u u2 => h v H' Z' O' F' G q n w nd fo (t.tr.trans u) (t.trans u2)
  | exc c fs ρ' => exact fun H' Z' O' F' d xs q u hd e1 e2 => h H' Z' O' F' d xs q (t.trans u) hd e1 e2
/-- temporary things are left where they are -/
theorem Tr.sub {Z H Z' H' : Hp} {F F' G : List Addr} (t : Tr Z H F Z' H' (F' ++ G)) : Tr Z H F Z' H' F' := ⟨t.z, t.keep, t.zn, fun a ha => t.fn a (List.mem_append_left _ ha), t.fr, t.tab⟩
def mP (p : Px) : Stx := fun ρ => match p ρ with
  | .bad => .bad
  | .exc c fs => .exc c fs ρ
  | .ok r => .ret r ρ
/-- then the rest -/
def mBind (s : Stx) (k : R → Stx) : Stx := fun ρ => match s ρ with
  | .ret r ρ' => k r ρ'
  | .exc c fs ρ' => .exc c fs ρ'
  | _ => .bad
theorem mBind_ok {s : Stx} {k : R → Stx} (h : tM K E (mBind s k) σ H Q) {T : V → Hp → Prop}
    (next : ∀ (Z O H1 : Hp) (ρ : Ev) (F G : List Addr) (v : V) (r : R), Rel K Z O H1 σ ρ F → nov ρ = true → RepR K Z O H1 v r G → (F ++ G).Nodup → (∀ a ∈ G, O a = none) → (∀ r', MRK K E Z O H1 σ ρ F Q r' → MRK K E Z O H1 σ ρ F Q r') →
      (∃ Z0 O0 ρ0 F0, MRK K E Z0 O0 H σ ρ0 F0 Q (k r ρ) ∧ Tr Z0 H F0 Z H1 (F ++ G) ∧ TrS Z0 O0 H σ ρ0 F0 Z O H1 σ ρ F) → T v H1) : tM K E s σ H T := by
  obtain ⟨Z, O, ρ, F, rl, n, h⟩ := h
  refine ⟨Z, O, ρ, F, rl, n, ?_⟩
  unfold mBind at h
  cases e : s ρ with
  | bad => rw [e] at h; exact h.elim
  | next ρ' => rw [e] at h; exact h.elim
  | exc c fs ρ' => rw [e] at h; exact h
  | ret r ρ' =>
    rw [e] at h
    intro v H' Z' O' F' G rl' n' q nd fo t ts
    exact next Z' O' H' ρ' F' G v r rl' n' q nd fo (fun _ h => h) ⟨Z, O, ρ, F, h, t, ts⟩
def mAnd (s t : Stx) : Stx := mBind s fun r ρ => match truth r.d with
  | some true => t ρ
  | some false => .ret r ρ
  | none => .bad
def mOr (s t : Stx) : Stx := mBind s fun r ρ => match truth r.d with
  | some true => .ret r ρ
  | some false => t ρ
  | none => .bad
def mNot (s : Stx) : Stx := mBind s fun r ρ => match truth r.d with
  | some b => .ret ⟨.imm, .bool (!b)⟩ ρ
  | none => .bad
/-- a test -/
def mTru (s : Stx) : Stx := mBind s fun r ρ => match truth r.d with
  | some b => .ret ⟨.imm, .bool b⟩ ρ
  | none => .bad
def mTnot (s : Stx) : Stx := fun ρ => match s ρ with
  | .ret ⟨_, .bool b⟩ ρ' => .ret ⟨.imm, .bool (!b)⟩ ρ'
  | .exc c fs ρ' => .exc c fs ρ'
  | _ => .bad
def mT (t : Tx) : Stx := fun ρ => match t ρ with
  | .bad => .bad
  | .exc c fs => .exc c fs ρ
  | .ok b => .ret ⟨.imm, .bool b⟩ ρ
def mIfE (c s t : Stx) : Stx := fun ρ => match c ρ with
  | .ret ⟨_, .bool b⟩ ρ' => if b = true then s ρ' else t ρ'
  | .exc c fs ρ' => .exc c fs ρ'
  | _ => .bad
end
section
variable {X : Cx} {E : XK} {a b c e : Expr} {p : Px} {t : Tx} {s u w : Stx} {pos : Pos} {rest : List Expr}
end
end Oz

namespace Oz
open PySem PySem.Spec L2
open PyProof.Rows hiding St
variable [WD]

/-! ### statements over such expressions -/
def mRet (s : Stx) : Stx := fun ρ => match s ρ with
  | .ret r ρ' => if storable r = true then .ret r ρ' else .bad
  | .exc c fs ρ' => .exc c fs ρ'
  | _ => .bad
def mAsg (i : Nat) (s : Stx) : Stx := fun ρ => match s ρ with
  | .ret r ρ' => (match setS i r ρ' with
    | some ρ2 => .next ρ2
    | none => .bad)
  | .exc c fs ρ' => .exc c fs ρ'
  | _ => .bad
def mDrop (s : Stx) : Stx := fun ρ => match s ρ with
  | .ret _ ρ' => .next ρ'
  | .exc c fs ρ' => .exc c fs ρ'
  | _ => .bad
def mIf (c s t : Stx) : Stx := fun ρ => match c ρ with
  | .ret ⟨_, .bool b⟩ ρ' => if b = true then s ρ' else t ρ'
  | .exc c fs ρ' => .exc c fs ρ'
  | _ => .bad
section
variable {X : Cx} {E : XK} {e c : Expr} {s t w : Stx} {a b : List Stmt} {pos pos' : Pos} {x : Str}
theorem s_mret (he : PE X e (tM X.K E s)) : PS X (.Return (some e) pos) (tS X.K E (mRet s)) := by
  refine (ps_ret he).imp fun D σ H h => ?_
  obtain ⟨Z, O, ρ, F, rl, n, h⟩ := h
  refine ⟨Z, O, ρ, F, rl, n, ?_⟩
  unfold mRet at h
  cases e : s ρ with
  | bad => rw [e] at h; exact h.elim
  | next ρ' => rw [e] at h; exact h.elim
  | exc c fs ρ' => rw [e] at h; exact fun H' Z' O' F' d xs q u hd e1 e2 => h σ H' Z' O' F' d xs q u hd e1 e2
  | ret r ρ' =>
    rw [e] at h
    simp only at h
    by_cases c : storable r = true
    · rw [if_pos c] at h
      exact fun v H' Z' O' F' G rl' n' q nd fo t ts => h v σ H' Z' O' F' G rl' q nd fo t ts
    · rw [if_neg c] at h; exact h.elim
theorem s_mdrop (he : PE X e (tM X.K E s)) (hs : swapsWith e none pos.line X.env = pure false := by rfl) : PS X (.Expr e pos) (tS X.K E (mDrop s)) := by
  refine (ps_expr he hs).imp fun D σ H h => ?_
  obtain ⟨Z, O, ρ, F, rl, n, h⟩ := h
  refine ⟨Z, O, ρ, F, rl, n, ?_⟩
  unfold mDrop at h
  cases e : s ρ with
  | bad => rw [e] at h; exact h.elim
  | next ρ' => rw [e] at h; exact h.elim
  | exc c fs ρ' => rw [e] at h; exact fun H' Z' O' F' d xs q u hd e1 e2 => h σ H' Z' O' F' d xs q u hd e1 e2
  | ret r ρ' =>
    rw [e] at h
    exact fun v H' Z' O' F' G rl' n' q nd fo t ts => h σ H' Z' O' F' rl' n' ts
theorem s_masg (i : Nat) (hN : X.N.Nodup) (he : PE X e (tM X.K E s)) (hi : X.N[i]? = some x := by rfl) (hx : Loc X.env.scope x := by first | exact Or.inl rfl | exact Or.inr rfl) (hs : swapsWith e (some (.Name x pos')) pos.line X.env = pure false := by rfl)
    (hf : X.fn x = true ∨ X.env.scope.names.lookup x = some .local := by first | exact .inl rfl | exact .inr rfl | assumption) : PS X (.Assign [.Name x pos'] e pos) (tS X.K E (mAsg i s)) := by
  refine (ps_set hN hi hx he hs hf).imp fun D σ H h => ?_
  obtain ⟨Z, O, ρ, F, rl, n, h⟩ := h
  refine ⟨Z, O, ρ, F, rl, n, ?_⟩
  unfold mAsg at h
  cases e : s ρ with
  | bad => rw [e] at h; exact h.elim
  | next ρ' => rw [e] at h; exact h.elim
  | exc c fs ρ' => rw [e] at h; exact fun H' Z' O' F' d xs q u hd e1 e2 => h σ H' Z' O' F' d xs q u hd e1 e2
  | ret r ρ' =>
    rw [e] at h
    simp only at h
    intro v H' Z' O' F' G rl' n' q nd fo t ts
    cases z : setS i r ρ' with
    | none => rw [z] at h; exact h.elim
    | some ρ2 =>
      rw [z] at h
      obtain ⟨n1, n2, n3⟩ := List.nodup_append.mp nd
      obtain ⟨F2, rl2, nv2, sub, ln, bw⟩ := rl'.set n' q n2 (fun a ha hf => n3 a hf a ha rfl) fo z
      refine h _ H' Z' O' F2 rl2 nv2 ⟨⟨t.z, t.keep, t.zn, fun a ha => ?_, t.fr, t.tab⟩, ts.o, ln, fun j d hj => ?_, ts.on⟩
      · rcases sub a ha with y | y
        · exact t.fn a (List.mem_append_left _ y)
        · exact t.fn a (List.mem_append_right _ y)
      · obtain ⟨e1, d1, h1⟩ := ts.brw j d hj
        obtain ⟨e2, d2, h2⟩ := bw j d1 h1
        exact ⟨e2.trans e1, d2, h2⟩
theorem s_mif (hc : PT X c (tMT X.K E w)) (ha : PSs X a (tS X.K E s)) (hb : PSs X b (tS X.K E t)) : PS X (.If c a b pos) (tS X.K E (mIf w s t)) := by
  refine (ps_if hc ha hb).imp fun D σ H h => ?_
  obtain ⟨Z, O, ρ, F, rl, n, h⟩ := h
  refine ⟨Z, O, ρ, F, rl, n, ?_⟩
  unfold mIf at h
  cases e : w ρ with
  | bad => rw [e] at h; exact h.elim
  | next ρ' => rw [e] at h; exact h.elim
  | exc c fs ρ' => rw [e] at h; exact fun H' Z' O' F' d xs q u hd e1 e2 => h σ H' Z' O' F' d xs q u hd e1 e2
  | ret r ρ' =>
    rw [e] at h
    obtain ⟨sx, d⟩ := r
    cases d with
    | bool k =>
      intro H' Z' O' F' rl' n' ts
      cases k with
      | true => exact ⟨Z', O', ρ', F', rl', n', SRK.from h ts⟩
      | false => exact ⟨Z', O', ρ', F', rl', n', SRK.from h ts⟩
    | _ => exact h.elim
end

/-! ### arguments of which one is a name's own thing -/
inductive Ax where
  | p (e : Px)
  | n (j : Nat)
inductive AR where
  | p (r : R)
  | n (j : Nat) (r : R)
def evx : List Ax → Ev → Res (List AR)
  | [], _ => .ok []
  | .p e :: ks, ρ => (e ρ).bind fun r => if r.s = .view then .bad else (evx ks ρ).bind fun rs => .ok (.p r :: rs)
  | .n j :: ks, ρ => (match ρ[j]? with
    | some (some r) => (evx ks ρ).bind fun rs => .ok (.n j r :: rs)
    | _ => .bad)
inductive RepXs (K : PySem.W.Frag) (Z O H : Hp) (σ : St) : List V → List AR → List Addr → Prop
  | nil : RepXs K Z O H σ [] [] []
  | p {v : V} {vs : List V} {r : R} {rs : List AR} {F G : List Addr} : RepR K Z O H v r F → r.s ≠ .view → RepXs K Z O H σ vs rs G → RepXs K Z O H σ (v :: vs) (.p r :: rs) (F ++ G)
  | n {v : V} {vs : List V} {j : Nat} {r : R} {rs : List AR} {G : List Addr} : σ[j]? = some (some v) → RepXs K Z O H σ vs rs G → RepXs K Z O H σ (v :: vs) (.n j r :: rs) G
def tAX (K : PySem.W.Frag) (E : XK) (ks : List Ax) : TA := fun σ H Q => ∃ Z O ρ F, Rel K Z O H σ ρ F ∧ match evx ks ρ with
  | .bad => False
  | .exc c fs => ExcK K E Z O H c fs
  | .ok rs => ∀ vs H' Z' O' G, Ext [] Z O H Z' O' H' → Good Z' O' H' → RepXs K Z' O' H' σ vs rs G → G.Nodup → (∀ a ∈ G, H a = none ∧ O' a = none) → Q vs H'
section
variable {K : PySem.W.Frag} {Z O H Z' O' H' : Hp} {σ : St}
theorem RepXs.ext {W : List Addr} (e : Ext W Z O H Z' O' H') : ∀ {vs : List V} {rs : List AR} {F : List Addr}, RepXs K Z O H σ vs rs F → RepXs K Z' O' H' σ vs rs F
  | _, _, _, .nil => .nil
  | _, _, _, .p r h s => .p (r.ext e) h (RepXs.ext e s)
  | _, _, _, .n h s => .n h (RepXs.ext e s)
theorem RepXs.live : ∀ {vs : List V} {rs : List AR} {F : List Addr}, RepXs K Z O H σ vs rs F → ∀ a ∈ F, ∃ o, H a = some o ∧ fzn o = false
  | _, _, _, .nil, _, h => by cases h
  | _, _, _, .p r _ s, a, h => (List.mem_append.mp h).elim (r.live a) (s.live a)
  | _, _, _, .n _ s, a, h => s.live a h
end
section
variable {X : Cx} {E : XK} {e : Expr} {es : List Expr} {p : Px} {ks : List Ax} {x : Str} {pos : Pos}
theorem x_nil : PA X [] (tAX X.K E []) := by
  refine pa_nil.imp fun σ H Q h => ?_
  obtain ⟨Z, O, ρ, F, r, h⟩ := h
  exact h [] H Z O [] (Ext.refl _ _ _ _) r.g .nil List.nodup_nil fun a ha => by cases ha
theorem x_p (ha : PE X e (tP X.K E p)) (hr : PA X es (tAX X.K E ks)) (hs : starEach (e :: es) X.env = (false, eval e X.env) :: starEach es X.env := by rfl) : PA X (e :: es) (tAX X.K E (.p p :: ks)) := by
  refine (pa_cons ha hr hs).imp fun σ H Q h => ?_
  obtain ⟨Z, O, ρ, F, r, h⟩ := h
  refine ⟨Z, O, ρ, F, r, ?_⟩
  unfold evx at h
  cases z : p ρ with
  | bad => rw [z] at h; exact h.elim
  | exc c fs => rw [z] at h; exact h
  | ok a =>
    rw [z] at h
    simp only [Res.bind_ok] at h
    by_cases hv : a.s = .view
    · rw [if_pos hv] at h; exact h.elim
    · rw [if_neg hv] at h
      intro v H1 Z1 O1 G x1 g1 q1 nd fr
      refine ⟨Z1, O1, ρ, F, r.ext x1 g1, ?_⟩
      cases y : evx ks ρ with
      | bad => rw [y] at h; exact h.elim
      | exc c fs => rw [y] at h; exact ExcK.ext h x1
      | ok rs =>
        rw [y] at h
        simp only [Res.bind_ok] at h
        intro vs H2 Z2 O2 G2 x2 g2 q2 nd2 fr2
        refine h (v :: vs) H2 Z2 O2 (G ++ G2) (x1.trans0 x2) g2 (.p (q1.ext x2) hv q2) (nodup_fresh nd nd2 (fun c hc => let ⟨o, z, _⟩ := q1.live c hc; ⟨o, z⟩) fun c hc => (fr2 c hc).1) fun c hc => ?_
        rcases List.mem_append.mp hc with hc | hc
        · refine ⟨(fr c hc).1.elim id (fun z => by cases z), ?_⟩
          cases z : O2 c with
          | none => rfl
          | some o =>
            obtain ⟨o1, w1, _⟩ := q1.live c hc
            rcases x2.on c (by rw [z]; simp) with y | y | y
            · exact absurd (fr c hc).2 y
            · rw [w1] at y; cases y
            · cases y
        · exact ⟨x1.h.free (fr2 c hc).1, (fr2 c hc).2⟩
theorem x_n (j : Nat) (hr : PA X es (tAX X.K E ks)) (hN : X.N[j]? = some x := by rfl) (hv : Vis X.env.scope x := by first | exact Or.inl rfl | exact Or.inr (Or.inl rfl) | exact Or.inr (Or.inr rfl)) (hd : (x == ("__debug__" : Str)) = false := by decide)
    (hcd : (x == ("__classdict__" : Str)) = false := by decide) (hs : starEach (.Name x pos :: es) X.env = (false, eval (.Name x pos) X.env) :: starEach es X.env := by rfl) : PA X (.Name x pos :: es) (tAX X.K E (.n j :: ks)) := by
  refine (pa_cons (pe_var hN hv hd hcd) hr hs).imp fun σ H Q h => ?_
  obtain ⟨Z, O, ρ, F, r, h⟩ := h
  unfold evx at h
  cases z : ρ[j]? with
  | none => rw [z] at h; exact h.elim
  | some y =>
    cases y with
    | none => rw [z] at h; exact h.elim
    | some a =>
      rw [z] at h
      simp only at h
      obtain ⟨v, h1, G, h2⟩ := r.sl.get z
      refine ⟨v, h1, Z, O, ρ, F, r, ?_⟩
      cases y : evx ks ρ with
      | bad => rw [y] at h; exact h.elim
      | exc c fs => rw [y] at h; exact h
      | ok rs =>
        rw [y] at h
        simp only [Res.bind_ok] at h
        exact fun vs H2 Z2 O2 G2 x2 g2 q2 nd2 fr2 => h (v :: vs) H2 Z2 O2 G2 x2 g2 (.n h1 q2) nd2 fr2
end
/-- the names among them are those of the frame -/
theorem evx_names : ∀ {ks : List Ax} {ρ : Ev} {rs : List AR}, evx ks ρ = .ok rs → ∀ j r, AR.n j r ∈ rs → ρ[j]? = some (some r)
  | [], ρ, rs, h, j, r, m => by cases h; cases m
  | .p e :: ks, ρ, rs, h, j, r, m => by
    unfold evx at h
    cases z : e ρ with
    | bad => rw [z] at h; cases h
    | exc c fs => rw [z] at h; cases h
    | ok a =>
      rw [z] at h
      simp only [Res.bind_ok] at h
      by_cases hv : a.s = .view
      · rw [if_pos hv] at h; cases h
      · rw [if_neg hv] at h
        cases y : evx ks ρ with
        | bad => rw [y] at h; cases h
        | exc c fs => rw [y] at h; cases h
        | ok rs' =>
          rw [y] at h
          cases h
          rcases List.mem_cons.mp m with m | m
          · cases m
          · exact evx_names y j r m
  | .n i :: ks, ρ, rs, h, j, r, m => by
    unfold evx at h
    cases z : ρ[i]? with
    | none => rw [z] at h; cases h
    | some y =>
      cases y with
      | none => rw [z] at h; cases h
      | some a =>
        rw [z] at h
        simp only at h
        cases y : evx ks ρ with
        | bad => rw [y] at h; cases h
        | exc c fs => rw [y] at h; cases h
        | ok rs' =>
          rw [y] at h
          cases h
          rcases List.mem_cons.mp m with m | m
          · cases m; exact z
          · exact evx_names y j r m
end Oz

namespace Oz
open PySem PySem.Spec L2
open PyProof.Rows hiding St
variable [WD]

/-! ### a call that changes one thing -/
def xargs (i : Nat) : List Md → List AR → Option (List D)
  | [], [] => some []
  | .m :: md, .n j r :: rs => if j = i then (xargs i md rs).map (r.d :: ·) else none
  | .v :: md, .p r :: rs => (xargs i md rs).map (r.d :: ·)
  | .v :: md, .n j r :: rs => if j = i then none else if r.s = .tab then none else (xargs i md rs).map (r.d :: ·)
  | .i :: md, .p r :: rs => (match frzR r with
    | some d => (xargs i md rs).map (d :: ·)
    | none => none)
  | .i :: md, .n j r :: rs => if j = i then none else (match frzR r with
    | some d => (xargs i md rs).map (d :: ·)
    | none => none)
  | _, _ => none
def nm : List Md → Nat
  | [] => 0
  | .m :: md => nm md + 1
  | .i :: md => nm md
  | .v :: md => nm md
def isOB (s : Sx) : Bool := match s with
  | .own => true
  | .brw => true
  | _ => false
/-- the frame behind, with what came out -/
def mOut (i : Nat) (s : Sx) (fr : FR) (ρ : Ev) : SR := match fr with
  | .ok r [d'] => .ret r (ρ.set i (some ⟨s, d'⟩))
  | .exc c fs [d'] => .exc c fs (ρ.set i (some ⟨s, d'⟩))
  | _ => .bad
def mCall (f : Fn) (md : List Md) (i : Nat) (ks : List Ax) : Stx := fun ρ => match evx ks ρ with
  | .bad => .bad
  | .exc c fs => .exc c fs ρ
  | .ok rs => (match xargs i md rs with
    | none => .bad
    | some ds => (match ρ[i]? with
      | some (some ⟨s, _⟩) => if isOB s = true ∧ nm md = 1 then mOut i s (f ds) ρ else .bad
      | _ => .bad))
section
variable {K : PySem.W.Frag} {E : XK} {Z O H : Hp} {σ : St} {ρ : Ev} {F : List Addr} {i : Nat} {vi : V} {Gi : List Addr} {d0 : D}
theorem map_some {α β : Type} {f : α → β} {o : Option α} {y : β} (h : o.map f = some y) : ∃ x, o = some x ∧ y = f x := by
  cases o with
  | none => cases h
  | some x => cases h; exact ⟨x, rfl, rfl⟩
/-- everything at the heap without what is changed -/
theorem xargs_ok {W : Hp} (zo : Same Z O) (zw : Same Z W) (ow : Same O W) (tz : ∀ a o, W a = some o → fzn o = true → Z a = some o) (no : NoT O) (own : Own K Z H vi d0 Gi) (hsi : σ[i]? = some (some vi))
    (hn : ∀ j r, j ≠ i → ρ[j]? = some (some r) → ∃ v Fj, σ[j]? = some (some v) ∧ RepS K Z O W v r Fj) (hi : ∀ r, ρ[i]? = some (some r) → r.d = d0) :
    ∀ {md : List Md} {rs : List AR} {vs : List V} {G : List Addr} {ds : List D}, (∀ a ∈ G, ∀ o, H a = some o → (∀ ps, o ≠ .tbl ps) → W a = some o) → (∀ j r, AR.n j r ∈ rs → ρ[j]? = some (some r)) → RepXs K Z O H σ vs rs G → xargs i md rs = some ds → nm md ≤ 1 →
      Args K Z W H md vs ds (if nm md = 1 then Gi else []) ∧ vs.length = md.length ∧
      (∀ Z' H' ms Fm, Outs K Z' H' md vs ms Fm → if nm md = 1 then ∃ d', ms = [d'] ∧ Own K Z' H' vi d' Fm else ms = [] ∧ Fm = [])
  | [], [], _, _, _, _, _, .nil, e, _ => by
    cases e
    refine ⟨.nil, rfl, fun _ _ _ _ h => ?_⟩
    cases h
    exact ⟨rfl, rfl⟩
  | .m :: md, .n j r :: rs, _, _, _, kp, nb, .n (v := v) hv q, e, l => by
    unfold xargs at e
    by_cases c : j = i
    · rw [if_pos c] at e
      have c2 := c.symm
      subst c2
      obtain ⟨ds', e1, rfl⟩ := map_some e
      have l0 : nm md = 0 := by unfold nm at l; omega
      obtain ⟨i1, i2, i3⟩ := xargs_ok zo zw ow tz no own hsi hn hi kp (fun j r m => nb j r (List.mem_cons_of_mem _ m)) q e1 (by omega)
      rw [if_neg (by omega)] at i1
      have ev : v = vi := by
        rw [hsi] at hv
        exact (Option.some.inj (Option.some.inj hv)).symm
      subst ev
      have ed : r.d = d0 := hi r (nb _ _ (List.mem_cons_self ..))
      have n1 : nm (.m :: md) = 1 := by unfold nm; omega
      rw [n1]
      refine ⟨?_, congrArg (· + 1) i2, fun Z' H' ms Fm h => ?_⟩
      · have := Args.m (ds := ds') own i1
        rw [List.append_nil] at this
        rw [if_pos rfl, ed]
        exact this
      · rw [if_pos rfl]
        cases h with
        | m h1 h2 =>
          have := i3 _ _ _ _ h2
          rw [if_neg (by omega)] at this
          obtain ⟨rfl, rfl⟩ := this
          exact ⟨_, rfl, by rw [List.append_nil]; exact h1⟩
    · rw [if_neg c] at e; cases e
  | .v :: md, .p r :: rs, _, _, _, kp, nb, .p q nv s, e, l => by
    unfold xargs at e
    obtain ⟨ds', e1, rfl⟩ := map_some e
    have n1 : nm (.v :: md) = nm md := rfl
    obtain ⟨i1, i2, i3⟩ := xargs_ok zo zw ow tz no own hsi hn hi (fun a ha => kp a (List.mem_append_right _ ha)) (fun j r m => nb j r (List.mem_cons_of_mem _ m)) s e1 l
    rw [n1]
    refine ⟨.v (RepR.look ⟨zo, ow, tz, no⟩ (q.keep nv (Same.refl _) (Same.refl _) fun a ha => kp a (List.mem_append_left _ ha))) i1, congrArg (· + 1) i2, fun Z' H' ms Fm h => ?_⟩
    cases h with
    | v h => exact i3 _ _ _ _ h
  | .v :: md, .n j r :: rs, _, _, _, kp, nb, .n (v := v) hv s, e, l => by
    unfold xargs at e
    by_cases c : j = i
    · rw [if_pos c] at e; cases e
    · rw [if_neg c] at e
      by_cases ct : r.s = .tab
      · rw [if_pos ct] at e; cases e
      rw [if_neg ct] at e
      obtain ⟨ds', e1, rfl⟩ := map_some e
      have n1 : nm (.v :: md) = nm md := rfl
      obtain ⟨i1, i2, i3⟩ := xargs_ok zo zw ow tz no own hsi hn hi kp (fun j r m => nb j r (List.mem_cons_of_mem _ m)) s e1 l
      obtain ⟨v', Fj, h1, h2⟩ := hn j r c (nb _ _ (List.mem_cons_self ..))
      replace h2 := h2.rep ct
      rw [hv] at h1
      cases h1
      rw [n1]
      refine ⟨.v (RepR.look ⟨zo, ow, tz, no⟩ h2) i1, congrArg (· + 1) i2, fun Z' H' ms Fm h => ?_⟩
      cases h with
      | v h => exact i3 _ _ _ _ h
  | .i :: md, .p r :: rs, _, _, _, kp, nb, .p q nv s, e, l => by
    unfold xargs at e
    cases ef : frzR r with
    | none => rw [ef] at e; cases e
    | some d =>
      rw [ef] at e
      obtain ⟨ds', e1, rfl⟩ := map_some e
      have n1 : nm (.i :: md) = nm md := rfl
      obtain ⟨i1, i2, i3⟩ := xargs_ok zo zw ow tz no own hsi hn hi (fun a ha => kp a (List.mem_append_right _ ha)) (fun j r m => nb j r (List.mem_cons_of_mem _ m)) s e1 l
      rw [n1]
      refine ⟨.i (frzR_ok ⟨zo, ow, tz, no⟩ (q.keep nv (Same.refl _) (Same.refl _) fun a ha => kp a (List.mem_append_left _ ha)) ef) i1, congrArg (· + 1) i2, fun Z' H' ms Fm h => ?_⟩
      cases h with
      | i h => exact i3 _ _ _ _ h
  | .i :: md, .n j r :: rs, _, _, _, kp, nb, .n (v := v) hv s, e, l => by
    unfold xargs at e
    by_cases c : j = i
    · rw [if_pos c] at e; cases e
    · rw [if_neg c] at e
      cases ef : frzR r with
      | none => rw [ef] at e; cases e
      | some d =>
        rw [ef] at e
        obtain ⟨ds', e1, rfl⟩ := map_some e
        have n1 : nm (.i :: md) = nm md := rfl
        obtain ⟨i1, i2, i3⟩ := xargs_ok zo zw ow tz no own hsi hn hi kp (fun j r m => nb j r (List.mem_cons_of_mem _ m)) s e1 l
        obtain ⟨v', Fj, h1, h2⟩ := hn j r c (nb _ _ (List.mem_cons_self ..))
        replace h2 : RepR K Z O W v' r Fj := by
          rcases h2 with h2 | ⟨ct, a, xs, es, _, e2, _⟩
          · exact h2
          · obtain ⟨s, d⟩ := r
            cases ct
            cases e2
            cases ef
        rw [hv] at h1
        cases h1
        rw [n1]
        refine ⟨.i (frzR_ok ⟨zo, ow, tz, no⟩ h2 ef) i1, congrArg (· + 1) i2, fun Z' H' ms Fm h => ?_⟩
        cases h with
        | i h => exact i3 _ _ _ _ h
  | .m :: _, .p _ :: _, _, _, _, _, _, _, e, _ => by cases e
  | [], _ :: _, _, _, _, _, _, _, e, _ => by cases e
  | .m :: _, [], _, _, _, _, _, _, e, _ => by cases e
  | .i :: _, [], _, _, _, _, _, _, e, _ => by cases e
  | .v :: _, [], _, _, _, _, _, _, e, _ => by cases e
end
section
variable {K : PySem.W.Frag} {E : XK}
theorem outer_none {O Z' : Hp} {a : Addr} (h1 : O a = none) (h2 : Z' a = none) : oNew O Z' a = none := by rw [oNew_none h1]; exact h2
/-- behind a call that changed the thing in slot i -/
theorem after_call {Z O H Z' H' : Hp} {σ : St} {ρ : Ev} {F F1 Gi F2 Fm G : List Addr} {i : Nat} {vi : V} {s : Sx} {d d' : D} {md : List Md} {vs : List V} {ms : List D} (rl : Rel K Z O H σ ρ F) (n : nov ρ = true) (ef : F = F1 ++ (Gi ++ F2)) (hsi : σ[i]? = some (some vi)) (hi : ρ[i]? = some (some ⟨s, d⟩)) (hs : isOB s = true)
    (h5 : ∀ (x' : Option V) (y' : Option R) (G' : List Addr) (Z' O' H' : Hp), Same Z Z' → Same O O' → (SameN H H' ∨ nov ρ = true) → (∀ a ∈ F1 ++ F2, ∀ o, H a = some o → (∀ ps, o ≠ .tbl ps) → H' a = some o) → SlotR K Z' O' H' x' y' G' → Slots K Z' O' H' (σ.set i x') (ρ.set i y') (F1 ++ (G' ++ F2)))
    (A : After K md vs Z H Gi ms Z' H' Fm G) (ow : Own K Z' H' vi d' Fm) :
    Rel K Z' (oNew O Z') H' σ (ρ.set i (some ⟨s, d'⟩)) (F1 ++ (Fm ++ F2)) ∧ nov (ρ.set i (some ⟨s, d'⟩)) = true ∧ ((F1 ++ (Fm ++ F2)) ++ G).Nodup ∧ (∀ a ∈ G, oNew O Z' a = none) ∧ Tr Z H F Z' H' ((F1 ++ (Fm ++ F2)) ++ G) ∧ TrS Z O H σ ρ F Z' (oNew O Z') H' σ (ρ.set i (some ⟨s, d'⟩)) (F1 ++ (Fm ++ F2)) := by
  have nF := rl.nd
  rw [ef] at nF
  obtain ⟨n1, n2, n3⟩ := List.nodup_append.mp nF
  obtain ⟨n4, n5, n6⟩ := List.nodup_append.mp n2
  have inG : ∀ a ∈ Gi, a ∈ F := fun a ha => by rw [ef]; simp [ha]
  have in1 : ∀ a ∈ F1, a ∈ F := fun a ha => by rw [ef]; simp [ha]
  have in2 : ∀ a ∈ F2, a ∈ F := fun a ha => by rw [ef]; simp [ha]
  have g1 : ∀ a ∈ F1, a ∉ Gi := fun a ha z => n3 a ha a (List.mem_append_left _ z) rfl
  have g2 : ∀ a ∈ F2, a ∉ Gi := fun a ha z => n6 a z a ha rfl
  have live : ∀ a ∈ F, H a ≠ none := fun a ha z => by
    obtain ⟨o, h, _⟩ := rl.sl.live a ha
    rw [z] at h; cases h
  have zF : ∀ a ∈ F, Z a = none := fun a ha => rl.g.zo.free (rl.fo a ha)
  have hO : Same O H' := fun a o h => by
    refine A.tr.keep a o (rl.g.oh _ _ h) (fun z => ?_) fun ps e => rl.g.nt a ps (by rw [h, e])
    rw [rl.fo a (inG a z)] at h
    cases h
  have zz : ∀ a, a ∈ F → a ∉ Gi → Z' a = none := fun a ha hg => by
    cases w : Z' a with
    | none => rfl
    | some o =>
      rcases A.tr.zn a (by rw [w]; simp) with z | z | z
      · exact absurd (zF a ha) z
      · exact absurd z hg
      · exact absurd z (live a ha)
  have fn1 : ∀ a ∈ Fm ++ G, a ∉ F1 ∧ a ∉ F2 := fun a ha => by
    rcases A.tr.fn a ha with z | z
    · exact ⟨fun y => g1 a y z, fun y => g2 a y z⟩
    · exact ⟨fun y => live a (in1 a y) z, fun y => live a (in2 a y) z⟩
  have oN : ∀ a ∈ Fm ++ G, oNew O Z' a = none := fun a ha => outer_none (by
    rcases A.tr.fn a ha with z | z
    · exact rl.fo a (inG a z)
    · exact none_of rl.g.oh z) (A.zf a ha)
  have sl := h5 (some vi) (some ⟨s, d'⟩) Fm Z' (oNew O Z') H' A.tr.z oNew_same (.inr n) (fun a ha o h nn => A.tr.keep a o h (by
    rcases List.mem_append.mp ha with ha | ha
    · exact g1 a ha
    · exact g2 a ha) nn) (by
      cases s with
      | own => exact .inl ow
      | brw => exact .inl ow
      | _ => cases hs)
  rw [set_same hsi] at sl
  obtain ⟨m1, m2, m3⟩ := List.nodup_append.mp A.nd
  have nd2 : ((F1 ++ (Fm ++ F2)) ++ G).Nodup := by
    refine List.nodup_append.mpr ⟨List.nodup_append.mpr ⟨n1, List.nodup_append.mpr ⟨m1, n5, fun a ha b hb e => (fn1 a (List.mem_append_left _ ha)).2 (e ▸ hb)⟩, fun a ha b hb e => ?_⟩, m2, fun a ha b hb e => ?_⟩
    · rcases List.mem_append.mp hb with hb | hb
      · exact (fn1 b (List.mem_append_left _ hb)).1 (e ▸ ha)
      · exact n3 a ha b (List.mem_append_right _ hb) e
    · rcases List.mem_append.mp ha with ha | ha
      · exact (fn1 b (List.mem_append_right _ hb)).1 (e ▸ ha)
      · rcases List.mem_append.mp ha with ha | ha
        · exact m3 a ha b hb e
        · exact (fn1 b (List.mem_append_right _ hb)).2 (e ▸ ha)
  have tr : Tr Z H F Z' H' ((F1 ++ (Fm ++ F2)) ++ G) := by
    refine ⟨A.tr.z, fun a o h hn nn => A.tr.keep a o h (fun z => hn (inG a z)) nn, fun a h => (A.tr.zn a h).imp id fun z => z.imp (inG a) id, fun a ha => ?_, fun a h => (A.tr.fr a h).imp (inG a) id, fun a hn h => A.tr.tab a (fun z => hn (inG a z)) h⟩
    have key : ∀ a ∈ Fm ++ G, a ∈ F ∨ H a = none := fun a ha => (A.tr.fn a ha).imp (inG a) id
    rcases List.mem_append.mp ha with ha | ha
    · rcases List.mem_append.mp ha with ha | ha
      · exact .inl (in1 a ha)
      · rcases List.mem_append.mp ha with ha | ha
        · exact key a (List.mem_append_left _ ha)
        · exact .inl (in2 a ha)
    · exact key a (List.mem_append_right _ ha)
  have nv : nov (ρ.set i (some ⟨s, d'⟩)) = true := nov_set n fun d e => by
    cases e
    cases hs
  refine ⟨⟨oNew_good hO A.zh A.tz rl.g.nt A.nt, (List.nodup_append.mp nd2).1, fun a ha => ?_, sl, A.tb⟩, nv, nd2, fun a ha => oN a (List.mem_append_right _ ha), tr, tr.sub, oNew_same, rfl, fun j dj hj => ⟨rfl, ?_⟩, fun a h => ?_⟩
  · rcases List.mem_append.mp ha with ha | ha
    · exact outer_none (rl.fo a (in1 a ha)) (zz a (in1 a ha) (g1 a ha))
    · rcases List.mem_append.mp ha with ha | ha
      · exact oN a (List.mem_append_left _ ha)
      · exact outer_none (rl.fo a (in2 a ha)) (zz a (in2 a ha) (g2 a ha))
  · by_cases ij : i = j
    · subst ij
      rw [hj] at hi
      cases hi
      obtain ⟨hl, _⟩ := List.getElem?_eq_some_iff.mp hj
      exact ⟨d', List.getElem?_set_self hl⟩
    · exact ⟨dj, by rw [List.getElem?_set_ne ij]; exact hj⟩
  · cases w : O a with
    | some x => exact .inl (by simp)
    | none =>
      rw [oNew_none w] at h
      rcases A.tr.zn a h with z | z | z
      · exact absurd (rl.g.zo.free w) z
      · exact .inr (.inl (inG a z))
      · exact .inr (.inr z)
/-- the promise of a def that changes one thing, at the state behind its arguments -/
theorem spF_call {Z O H : Hp} {σ : St} {ρ : Ev} {F : List Addr} {Q : VK} {f : Fn} {md : List Md} {i : Nat} {rs : List AR} {ds : List D} {vs : List V} {Gt : List Addr} {s : Sx} {d : D} (rl : Rel K Z O H σ ρ F) (n : nov ρ = true) (hnb : ∀ j r, AR.n j r ∈ rs → ρ[j]? = some (some r))
    (q : RepXs K Z O H σ vs rs Gt) (dj : ∀ a ∈ Gt, a ∉ F) (ea : xargs i md rs = some ds) (hi : ρ[i]? = some (some ⟨s, d⟩)) (hs : isOB s = true) (h1 : nm md = 1) (h : MRK K E Z O H σ ρ F Q (mOut i s (f ds) ρ)) : spF K md f vs H Q E := by
  obtain ⟨hl, _⟩ := List.getElem?_eq_some_iff.mp hi
  obtain ⟨x, y, F1, Gi, F2, e1, e2, e3, e4, h5⟩ := rl.sl.focus hl
  rw [hi] at e2
  cases e2
  cases x with
  | none => exact e4.elim
  | some vi =>
    have ow : Own K Z H vi d Gi := by
      cases s with
      | own => exact RepS.rep e4 nofun
      | brw => exact RepS.rep e4 nofun
      | _ => cases hs
    have inG : ∀ a ∈ Gi, a ∈ F := fun a ha => by rw [e3]; simp [ha]
    have nF := rl.nd
    rw [e3] at nF
    obtain ⟨n1, n2, n3⟩ := List.nodup_append.mp nF
    obtain ⟨n4, n5, n6⟩ := List.nodup_append.mp n2
    have ww : ∀ a o, H a = some o → a ∉ Gi → (∀ ps, o ≠ .tbl ps) → without H Gi a = some o := fun a o h hn nn => by unfold without; rw [if_neg hn, h]; exact noTb_of nn
    have ow' : Same O (without H Gi) := fun a o h => ww a o (rl.g.oh _ _ h) (fun z => by rw [rl.fo a (inG a z)] at h; cases h) fun ps e => rl.g.nt a ps (by rw [h, e])
    have zw' : Same Z (without H Gi) := rl.g.zo.trans ow'
    have tz' : ∀ a o, without H Gi a = some o → fzn o = true → Z a = some o := fun a o h f => rl.g.tz a o (without_some h).1 f
    have sw := h5 none none [] Z O (without H Gi) (Same.refl _) (Same.refl _) (.inr n) (fun a ha o h nn => ww a o h (by
      rcases List.mem_append.mp ha with ha | ha
      · exact fun z => n3 a ha a (List.mem_append_left _ z) rfl
      · exact fun z => n6 a z a ha rfl) nn) rfl
    obtain ⟨i1, i2, i3⟩ := xargs_ok (K := K) rl.g.zo zw' ow' tz' rl.g.nt ow e1 (fun j r hj hr => by
      obtain ⟨v, hv, Fj, q⟩ := sw.get (i := j) (r := r) (by rw [List.getElem?_set_ne (fun z => hj z.symm)]; exact hr)
      rw [List.getElem?_set_ne (fun z => hj z.symm)] at hv
      exact ⟨v, Fj, hv, q⟩) (fun r hr => by rw [hi] at hr; cases hr; rfl) (md := md) (rs := rs) (vs := vs) (fun a ha o h nn => ww a o h (fun z => dj a ha (inG a z)) nn) hnb q ea (by omega)
    rw [if_pos h1] at i1
    refine ⟨i2, Z, ds, Gi, rl.g.zh, rl.g.ntz, rl.tb, rl.g.tz, i1, n4, fun a ha => rl.g.zo.free (rl.fo a (inG a ha)), ?_⟩
    unfold mOut at h
    cases ef : f ds with
    | bad => rw [ef] at h; exact h.elim
    | ok r ms =>
      rw [ef] at h
      match ms, h with
      | [], h => exact h.elim
      | _ :: _ :: _, h => exact h.elim
      | [d'], h =>
        intro v H' Z' Fm G A t rr
        have o1 := i3 _ _ _ _ A.outs
        rw [if_pos h1] at o1
        obtain ⟨d2, ed, ow2⟩ := o1
        cases ed
        obtain ⟨rl', nv', nd', fo', tr', ts'⟩ := after_call rl n e3 e1 hi hs h5 A ow2
        exact h v H' Z' (oNew O Z') _ G rl' nv' (RetR.move rr t) nd' fo' tr' ts'
    | exc c fs ms =>
      rw [ef] at h
      match ms, h with
      | [], h => exact h.elim
      | _ :: _ :: _, h => exact h.elim
      | [d'], h =>
        intro H' Z' Fm d0 xs A hd ek rk
        have o1 := i3 _ _ _ _ A.outs
        rw [if_pos h1] at o1
        obtain ⟨d2, ed, ow2⟩ := o1
        cases ed
        obtain ⟨rl', nv', nd', fo', tr', ts'⟩ := after_call rl n e3 e1 hi hs h5 A ow2
        exact h H' Z' (oNew O Z') _ d0 xs rl' ts' hd ek rk
theorem mCall_ok {σ : St} {H : Hp} {Q : VK} {f : Fn} {md : List Md} {i : Nat} {ks : List Ax} (h : tM K E (mCall f md i ks) σ H Q) : tAX K E ks σ H fun vs H1 => spF K md f vs H1 Q E := by
  obtain ⟨Z, O, ρ, F, rl, n, h⟩ := h
  refine ⟨Z, O, ρ, F, rl, ?_⟩
  unfold mCall at h
  cases e : evx ks ρ with
  | bad => rw [e] at h; exact h.elim
  | exc c fs =>
    rw [e] at h
    exact fun H' Z' O' d xs x g q a b => h H' Z' O' F d xs (rl.ext x g) (TrS.ext x) q a b
  | ok rs =>
    rw [e] at h
    simp only at h
    intro vs H1 Z1 O1 Gt x1 g1 q nd fr
    cases ea : xargs i md rs with
    | none => rw [ea] at h; exact h.elim
    | some ds =>
      rw [ea] at h
      simp only at h
      cases hi : ρ[i]? with
      | none => rw [hi] at h; exact h.elim
      | some y =>
        cases y with
        | none => rw [hi] at h; exact h.elim
        | some r =>
          obtain ⟨s, d⟩ := r
          rw [hi] at h
          simp only at h
          by_cases c : isOB s = true ∧ nm md = 1
          · rw [if_pos c] at h
            exact spF_call (rl.ext x1 g1) n (evx_names e) q (fun a ha z => by
              obtain ⟨o, w, _⟩ := rl.sl.live a z
              rw [(fr a ha).1] at w
              cases w) ea hi c.1 c.2 (MRK.from h (TrS.ext x1))
          · rw [if_neg c] at h; exact h.elim
end
section
variable {X : Cx} {E : XK} {CX : CXT} {k k' : Nat} {ps : List Str} {md : List Md} {m : Fn} {x : Str} {p pos : Pos} {e : Expr} {es : List Expr} {ks : List Ax} {i : Nat}
theorem s_mcall (i : Nat) (c : Cal CX X.prog X.w X.K X.mg X.base k x ps md m) (hr : Room k' X.A) (hx : Passes CX X E) (ha : PA X (e :: es) (tAX X.K E ks)) (hg : Gl X x := by rfl) (hk : k ≤ k' := by decide)
    (hdb : (x == ("__debug__" : Str)) = false := by decide) (he : starEach (e :: es) X.env = (false, eval e X.env) :: starEach es X.env := by rfl) (hpl : (backTo pos (starEach es X.env)).any (·.1) = false := by rfl) :
    PE X (.Call (.Name x p) (e :: es) [] pos) (tM X.K E (mCall m md i ks)) := by
  obtain ⟨f, fd, F, b, kp, hm⟩ := c.ex
  refine (pe_call F (hr.mono hk) hg hm kp b .nil hx ha hdb he hpl).imp fun σ H Q h => ?_
  obtain ⟨Z, O, ρ, F, rl, q⟩ := mCall_ok h
  refine ⟨Z, O, ρ, F, rl, ?_⟩
  cases e : evx ks ρ with
  | bad => rw [e] at q; exact q
  | exc c fs => rw [e] at q; exact q
  | ok rs =>
    rw [e] at q
    intro vs H' Z' O' G a1 a2 a3 a4 a5
    show spF X.K md m (vs ++ []) H' Q E
    rw [List.append_nil]
    exact q vs H' Z' O' G a1 a2 a3 a4 a5
end
end Oz

namespace Oz
open PySem PySem.Spec L2
open PyProof.Rows hiding St
variable [WD]

/-! ### objects -/
theorem lkF_none {f : Str} : ∀ {fs : List (Str × V)} {es : List (D × D)}, es.map (·.1) = fs.map (fun p => PyData.str p.1) → lkD (.inr f) es = none → fs.lookup f = none
  | [], [], _, _ => rfl
  | (g, v) :: fs, (a, d) :: es, h, n => by
    simp only [List.map_cons, List.cons.injEq] at h
    obtain ⟨h1, h2⟩ := h
    unfold lkD at n
    by_cases c : keyOf a = some (.inr f)
    · rw [if_pos c] at n; cases n
    · rw [if_neg c] at n
      have hg : ¬ f = g := fun e => c (by rw [h1, e]; rfl)
      have hb : (f == g) = false := beq_eq_false_iff_ne.mpr hg
      simp only [List.lookup, hb]
      exact lkF_none h2 n
  | [], _ :: _, h, _ => by simp at h
  | _ :: _, [], h, _ => by simp at h
theorem lkF_some {f : Str} : ∀ {fs : List (Str × V)} {es : List (D × D)} {d : D}, es.map (·.1) = fs.map (fun p => PyData.str p.1) → lkD (.inr f) es = some d →
    ∃ j x, fs.lookup f = some x ∧ (fs.map (·.2))[j]? = some x ∧ (es.map (·.2))[j]? = some d ∧
      ∀ (y : V) (d' : D), (putF f y fs).map (·.2) = (fs.map (·.2)).set j y ∧ (ptD (.inr f) d' es).map (·.2) = (es.map (·.2)).set j d' ∧ (ptD (.inr f) d' es).map (·.1) = es.map (·.1) ∧ (putF f y fs).map (·.1) = fs.map (·.1)
  | [], [], _, _, h => by simp [lkD] at h
  | (g, v) :: fs, (a, d0) :: es, d, h, n => by
    simp only [List.map_cons, List.cons.injEq] at h
    obtain ⟨h1, h2⟩ := h
    unfold lkD at n
    by_cases c : keyOf a = some (.inr f)
    · rw [if_pos c] at n
      cases n
      have hg : g = f := by
        rw [h1] at c
        have : (Sum.inr g : Key) = .inr f := Option.some.inj c
        cases this
        rfl
      have hb : (f == g) = true := beq_iff_eq.mpr hg.symm
      refine ⟨0, v, by simp only [List.lookup, hb], rfl, rfl, fun y d' => ?_⟩
      unfold ptD putF
      rw [if_pos c, if_pos hg]
      exact ⟨rfl, rfl, rfl, rfl⟩
    · rw [if_neg c] at n
      have hg : ¬ f = g := fun e => c (by rw [h1, e]; rfl)
      have hb : (f == g) = false := beq_eq_false_iff_ne.mpr hg
      obtain ⟨j, x, e1, e2, e3, e4⟩ := lkF_some h2 n
      refine ⟨j + 1, x, by simp only [List.lookup, hb]; exact e1, by simpa using e2, by simpa using e3, fun y d' => ?_⟩
      obtain ⟨f1, f2, f3, f4⟩ := e4 y d'
      unfold ptD putF
      rw [if_neg c, if_neg fun e => hg e.symm]
      refine ⟨?_, ?_, ?_, ?_⟩
      · rw [List.map_cons, f1, List.map_cons, List.set_cons_succ]
      · rw [List.map_cons, f2, List.map_cons, List.set_cons_succ]
      · rw [List.map_cons, f3, List.map_cons]
      · rw [List.map_cons, f4, List.map_cons]
  | [], _ :: _, _, h, _ => by simp at h
  | _ :: _, [], _, h, _ => by simp at h
theorem putF_new {f : Str} {y : V} : ∀ {fs : List (Str × V)}, fs.lookup f = none → putF f y fs = fs ++ [(f, y)]
  | [], _ => rfl
  | (g, v) :: fs, h => by
    by_cases e : f = g
    · have hb : (f == g) = true := beq_iff_eq.mpr e
      simp only [List.lookup, hb] at h
      cases h
    · have hb : (f == g) = false := beq_eq_false_iff_ne.mpr e
      simp only [List.lookup, hb] at h
      unfold putF
      rw [if_neg fun z => e z.symm, putF_new h]
      rfl
/-- what an object of the class c has -/
def unO (c : Str) (d : D) : Option (List (D × D)) := match d with
  | .dict ((.none, .str c') :: es) => if c' = c then some es else none
  | _ => none
theorem unO_some {c : Str} {d : D} {es : List (D × D)} (h : unO c d = some es) : d = objD c es := by
  unfold unO at h
  split at h
  · rename_i c' es'
    by_cases e : c' = c
    · rw [if_pos e] at h; cases h; rw [e]; rfl
    · rw [if_neg e] at h; cases h
  · cases h
section
variable {K : PySem.W.Frag} {Z O H C : Hp} {v : V}
theorem Own.obj_inv {c : Str} {es : List (D × D)} {G : List Addr} (q : Own K Z H v (objD c es) G) : ∃ a dx fs G0, v = .ref a ∧ H a = some (.ins (He.ga K c) dx fs) ∧ H dx = some (.own a) ∧ es.map (·.1) = fs.map (fun p => PyData.str p.1) ∧ Owns K Z H (fs.map (·.2)) (es.map (·.2)) G0 ∧ G = a :: dx :: G0 := by
  unfold objD at q
  generalize hd : PyData.dict ((PyData.none, PyData.str c) :: es) = d at q
  cases q with
  | imm r p => subst hd; cases p
  | lst h r => cases hd
  | dct h e r =>
    cases hd
    have m : PyData.none ∈ _ := e ▸ (List.mem_map.mpr ⟨_, List.mem_cons_self, rfl⟩)
    obtain ⟨p, _, hp⟩ := List.mem_map.mp m
    cases hk : p.1 <;> rw [hk] at hp <;> cases hp
  | obj h h2 ec e r =>
    cases hd
    subst ec
    exact ⟨_, _, _, _, rfl, h, h2, e, r, rfl⟩
theorem Rep.obj_inv {c : Str} {es : List (D × D)} (q : Rep K C v (objD c es)) : ∃ a dx fs, v = .ref a ∧ C a = some (.ins (He.ga K c) dx fs) ∧ es.map (·.1) = fs.map (fun p => PyData.str p.1) ∧ Reps K C (fs.map (·.2)) (es.map (·.2)) := by
  unfold objD at q
  generalize hd : PyData.dict ((PyData.none, PyData.str c) :: es) = d at q
  cases q with
  | scr h r => cases hd
  | dct h e r =>
    cases hd
    have m : PyData.none ∈ _ := e ▸ (List.mem_map.mpr ⟨_, List.mem_cons_self, rfl⟩)
    obtain ⟨p, _, hp⟩ := List.mem_map.mp m
    cases hk : p.1 <;> rw [hk] at hp <;> cases hp
  | obj h ec e r =>
    cases hd
    subst ec
    exact ⟨_, _, _, rfl, h, e, r⟩
  | _ => cases hd
end
def fldR (c f : Str) (r : R) : Res R := match unO c r.d with
  | some es => (match lkD (.inr f) es with
    | some d => .ok (sub r.s d)
    | none => .bad)
  | none => .bad
def pFld (c f : Str) (p : Px) : Px := fun ρ => (p ρ).bind fun r => fldR c f r
def plF (c f : Str) (l : Plx) : Plx := fun ρ => (l ρ).bind fun l => match unO c l.d with
  | some es => (match lkD (.inr f) es with
    | some d => .ok ⟨l.i, d, fun y => l.put (objD c (ptD (.inr f) y es))⟩
    | none => .bad)
  | none => .bad
def sFldS (c f : Str) (l : Plx) (q : Px) : Stx := fun ρ => match q ρ with
  | .bad => .bad
  | .exc c fs => .exc c fs ρ
  | .ok r => (match ownR r with
    | none => .bad
    | some d => (match l ρ with
      | .bad => .bad
      | .exc c fs => .exc c fs ρ
      | .ok l => (match unO c l.d with
        | some es => if es.length < 1000 then putE l (objD c (ptD (.inr f) d es)) ρ else .bad
        | none => .bad)))
section
variable {X : Cx} {E : XK} {o e : Expr} {l : Plx} {p q : Px} {pos pos' apos : Pos} {c f : Str}
theorem s_fld (cl : Cls X.K (He.ga X.K c)) (na : NoAttr X.K (He.ga X.K c) f) (ha : PE X o (tP X.K E p)) (hb : attributeBase o f X.env (eval o X.env) = eval o X.env := by rfl) : PE X (.Attribute o f pos) (tP X.K E (pFld c f p)) := by
  refine (pe_fld ha hb).imp fun σ H Q h => ?_
  refine tP_bind (k := fun r _ => fldR c f r) h fun Z O H1 Z1 O1 ρ F G v r rl x1 r1 q1 nd fr h2 => ?_
  obtain ⟨s, d⟩ := r
  have h3 : ResK X.K E [] Z1 O1 H1 (fldR c f ⟨s, d⟩) Q := ResK.ext h2 x1 fun a ha => by cases ha
  unfold fldR at h3
  simp only at h3
  cases eo : unO c d with
  | none => rw [eo] at h3; exact h3.elim
  | some es =>
    rw [eo] at h3
    simp only at h3
    have ed := unO_some eo
    subst ed
    cases e2 : lkD (.inr f) es with
    | none => rw [e2] at h3; exact h3.elim
    | some d =>
      rw [e2] at h3
      have la := q1.look r1.g
      obtain ⟨a, dx, fs, ev, ha, hk, hr⟩ := la.obj_inv
      obtain ⟨j, x, e3, e4, e5, _⟩ := lkF_some hk e2
      obtain ⟨x', e6, rx⟩ := hr.get e5
      rw [e4] at e6
      cases e6
      refine ⟨a, _, dx, fs, x, ev, ha, cl, na, e3, OkK.sub r1.g h3 rx (fun es1 => ?_) fun es1 => ?_⟩
      · subst es1
        have r0 : Rep X.K Z1 _ (objD c es) := q1.1
        obtain ⟨a', dx', fs', ev', ha', hk', hr'⟩ := r0.obj_inv
        rw [ev] at ev'
        cases ev'
        have := r1.g.zh _ _ ha'
        rw [ha] at this
        cases this
        obtain ⟨x', e7, rx'⟩ := hr'.get e5
        rw [e4] at e7
        cases e7
        exact rx'
      · subst es1
        have r0 : Rep X.K O1 _ (objD c es) := q1.1
        obtain ⟨a', dx', fs', ev', ha', hk', hr'⟩ := r0.obj_inv
        rw [ev] at ev'
        cases ev'
        have := r1.g.oh _ _ ha'
        rw [ha] at this
        cases this
        obtain ⟨x', e7, rx'⟩ := hr'.get e5
        rw [e4] at e7
        cases e7
        exact rx'
theorem PlAt.fld {K : PySem.W.Frag} {Z O H : Hp} {σ : St} {ρ : Ev} {F F1 G F2 : List Addr} {l : Pl} {v : V} {s : Sx} {es : List (D × D)} {d : D} (pa : PlAt K Z O H σ ρ F l v s F1 G F2) (e : l.d = objD c es) (h : lkD (.inr f) es = some d) :
    ∃ a dx fs x F1' G' F2', v = .ref a ∧ H a = some (.ins (He.ga K c) dx fs) ∧ fs.lookup f = some x ∧ PlAt K Z O H σ ρ F ⟨l.i, d, fun y => l.put (objD c (ptD (.inr f) y es))⟩ x s F1' G' F2' := by
  have q := pa.own
  rw [e] at q
  obtain ⟨a, dx, fs, G0, rfl, ha, hdx, hk, qs, eg⟩ := q.obj_inv
  obtain ⟨j, x, e1, e2, e3, e4⟩ := lkF_some hk h
  obtain ⟨x', F1', G', F2', e5, pb⟩ := pa.child (hd := [a, dx]) (mk := fun ds => objD c ((es.map (·.1)).zip ds)) eg qs e3 fun Z' H' ds' F' ez kp hl q' => by
    obtain ⟨z1, z2⟩ := zip_fst (as := es.map (·.1)) (bs := ds') (by rw [hl, List.length_map, List.length_map])
    exact .obj (kp a (by simp) _ ha nofun) (kp dx (by simp) _ hdx nofun) rfl (by rw [z1]; exact hk) (by rw [z2]; exact q')
  rw [e2] at e5
  cases e5
  refine ⟨a, dx, fs, x, F1', G', F2', rfl, ha, e1, ?_⟩
  have ee : (fun y => l.put (objD c (ptD (.inr f) y es))) = fun y => l.put (objD c ((es.map (·.1)).zip ((es.map (·.2)).set j y))) := by
    funext y
    obtain ⟨_, f2, f3, _⟩ := e4 .non y
    rw [← f2, ← f3, zip_mk]
  rw [ee]
  exact pb
theorem s_plF (cl : Cls X.K (He.ga X.K c)) (na : NoAttr X.K (He.ga X.K c) f) (ha : PE X o (tPl X.K E l)) (hb : attributeBase o f X.env (eval o X.env) = eval o X.env := by rfl) : PE X (.Attribute o f pos) (tPl X.K E (plF c f l)) := by
  refine (pe_fld ha hb).imp fun σ H Q h => ?_
  obtain ⟨Z, O, ρ, F, rl, h⟩ := h
  refine ⟨Z, O, ρ, F, rl, ?_⟩
  unfold plF at h
  cases e : l ρ with
  | bad => rw [e] at h; exact h.elim
  | exc c fs => rw [e] at h; exact h
  | ok l0 =>
    rw [e] at h
    simp only [Res.bind_ok] at h
    intro v H1 Z1 O1 s F1 G F2 x1 g1 pa
    cases eo : unO c l0.d with
    | none => rw [eo] at h; exact h.elim
    | some es =>
      rw [eo] at h
      simp only at h
      cases e2 : lkD (.inr f) es with
      | none => rw [e2] at h; exact h.elim
      | some d =>
        rw [e2] at h
        obtain ⟨a, dx, fs, x, F1', G', F2', ev, ha, hx, pb⟩ := pa.fld (unO_some eo) e2
        exact ⟨a, _, dx, fs, x, ev, ha, cl, na, hx, h x H1 Z1 O1 s F1' G' F2' x1 g1 pb⟩
theorem s_fldS (cl : Cls X.K (He.ga X.K c)) (na : NoAttr X.K (He.ga X.K c) f) (hl : PE X o (tPl X.K E l)) (he : PE X e (tP X.K E q)) (hs : swapsWith e (some (.Attribute o f pos')) pos.line X.env = pure false := by rfl) : PS X (.Assign [.Attribute o f pos'] e pos) (tS X.K E (sFldS c f l q)) := by
  refine (ps_fld hl he hs).imp fun D σ H h => ?_
  obtain ⟨Z, O, ρ, F, rl, n, h⟩ := h
  refine ⟨Z, O, ρ, F, rl, ?_⟩
  unfold sFldS at h
  cases e1 : q ρ with
  | bad => rw [e1] at h; exact h.elim
  | exc c fs => rw [e1] at h; exact SRK.exc rl h
  | ok r =>
    rw [e1] at h
    simp only at h
    cases er : ownR r with
    | none => rw [er] at h; exact h.elim
    | some d =>
      rw [er] at h
      simp only at h
      intro y H1 Z1 O1 Gy x1 g1 q1 nd1 fr1
      have rl1 := rl.ext x1 g1
      refine ⟨Z1, O1, ρ, F, rl1, ?_⟩
      cases e2 : l ρ with
      | bad => rw [e2] at h; exact h.elim
      | exc c fs => rw [e2] at h; exact ExcK.ext (SRK.exc rl h) x1
      | ok l0 =>
        rw [e2] at h
        simp only at h
        intro v H3 Z3 O3 s F1 G F2 x2 g3 pa3
        cases eo : unO c l0.d with
        | none => rw [eo] at h; exact h.elim
        | some es =>
          rw [eo] at h
          simp only at h
          by_cases cc : es.length < 1000
          · rw [if_pos cc] at h
            have qo := pa3.own
            rw [unO_some eo] at qo
            obtain ⟨a0, dx, fs, G0, rfl, ha0, hdx, hk, qs, eg⟩ := qo.obj_inv
            have x123 := x1.trans0 x2
            obtain ⟨G', qy, cG⟩ := ownR_ok g1 q1 er
            have sG : ∀ c ∈ G', c ∈ Gy := fun c hc => by
              rcases cG with z | z
              · rw [z] at hc; exact hc
              · rw [z] at hc; cases hc
            have nG : G'.Nodup := by
              rcases cG with z | z
              · rw [z]; exact nd1
              · rw [z]; exact List.nodup_nil
            have fG : ∀ c ∈ G', H c = none := fun c hc => (fr1 c (sG c hc)).1.elim id fun z => by cases z
            have oG : ∀ c ∈ G', O3 c = none := fun c hc => by
              obtain ⟨o, hy, _⟩ := qy.live c hc
              cases w : O3 c with
              | none => rfl
              | some o' =>
                rcases x2.on c (by rw [w]; simp) with z | z | z
                · exact absurd (fr1 c (sG c hc)).2 z
                · rw [hy] at z; cases z
                · cases z
            have nF := rl.nd
            rw [pa3.eq, eg] at nF
            have nGG : (a0 :: dx :: G0).Nodup := (List.nodup_append.mp (List.nodup_append.mp nF).2.1).1
            have aG1 : a0 ∉ dx :: G0 := (List.nodup_cons.mp nGG).1
            have aG0 : a0 ∉ G0 := fun z => aG1 (List.mem_cons_of_mem _ z)
            have axd : a0 ≠ dx := fun z => aG1 (by rw [z]; simp)
            have nG1 := (List.nodup_cons.mp nGG).2
            have dG0 : dx ∉ G0 := (List.nodup_cons.mp nG1).1
            have inF : ∀ c ∈ a0 :: dx :: G0, c ∈ F := fun c hc => by rw [pa3.eq, eg]; simp only [List.mem_append]; exact .inr (.inl hc)
            have dF : ∀ c ∈ G', c ∉ F := fun c hc z => by
              obtain ⟨o, hy, _⟩ := rl.sl.live c z
              rw [fG c hc] at hy
              cases hy
            have hlen : fs.length = es.length := by
              have := congrArg List.length hk
              simpa using this.symm
            refine ⟨a0, _, dx, fs, rfl, ha0, cl, na, by rw [hlen]; exact cc, ?_⟩
            have kp : ∀ o', ∀ c, c ≠ a0 → ∀ o, H3 c = some o → upd H3 a0 o' c = some o := fun o' c hc o h => by rw [upd_ne hc]; exact h
            have qy3 : ∀ o', Own X.K Z3 (upd H3 a0 o') y d G' := fun o' => Own.mono x2.z (fun c hc o h n => kp o' c (fun z => dF c hc (inF c (by rw [z]; simp))) o (x2.h.s _ _ h n)) qy
            cases ed : lkD (.inr f) es with
            | some d0 =>
              obtain ⟨j, x, e4, e5, e6, e7⟩ := lkF_some hk ed
              obtain ⟨f1, f2, f3, f4⟩ := e7 y d
              obtain ⟨x', A, Gj, B, h1, h2, h3, h4⟩ := qs.at e6
              have hkeys : (ptD (.inr f) d es).map (·.1) = (putF f y fs).map (fun p => PyData.str p.1) := by
                rw [f3, hk]
                have := congrArg (List.map PyData.str) f4
                rw [List.map_map, List.map_map] at this
                exact this.symm
              have qn : Own X.K Z3 (upd H3 a0 (.ins (He.ga X.K c) dx (putF f y fs))) (.ref a0) (objD c (ptD (.inr f) d es)) (a0 :: dx :: (A ++ (G' ++ B))) := by
                refine .obj upd_same (kp _ dx axd.symm _ hdx) rfl hkeys ?_
                rw [f1, f2]
                exact h4 Z3 _ y d G' (Same.refl _) (fun c hc o h _ => kp _ c (fun z => aG0 (by rw [h2, ← z]; rcases List.mem_append.mp hc with hc | hc <;> simp [hc])) o h) (qy3 _)
              refine pa3.store rl n x123 g3 (a0 := a0) (by rw [eg]; simp) rfl qn ?_ (fun c hc => ?_) h
              · have nn : (A ++ (G' ++ B)).Nodup := nodup_mid (G := Gj) (by rw [← h2]; exact (List.nodup_cons.mp nG1).2) nG fun c hc z => dF c hc (inF c (by rw [h2]; exact List.mem_cons_of_mem _ (List.mem_cons_of_mem _ z)))
                have nin : ∀ c, c ∈ a0 :: dx :: G0 → c ∉ G0 → c ∉ A ++ (G' ++ B) := fun c hc hn z => by
                  rcases List.mem_append.mp z with z | z
                  · exact hn (by rw [h2]; simp [z])
                  · rcases List.mem_append.mp z with z | z
                    · exact dF c z (inF c hc)
                    · exact hn (by rw [h2]; simp [z])
                refine List.nodup_cons.mpr ⟨fun z => ?_, List.nodup_cons.mpr ⟨nin dx (by simp) dG0, nn⟩⟩
                rcases List.mem_cons.mp z with z | z
                · exact axd z
                · exact nin a0 (by simp) aG0 z
              · rcases List.mem_cons.mp hc with z | z
                · left; rw [eg, z]; simp
                · rcases List.mem_cons.mp z with z | z
                  · left; rw [eg, z]; simp
                  · rcases List.mem_append.mp z with z | z
                    · left; rw [eg, h2]; simp [z]
                    · rcases List.mem_append.mp z with z | z
                      · right; exact ⟨fG c z, oG c z⟩
                      · left; rw [eg, h2]; simp [z]
            | none =>
              have hput : putF f y fs = fs ++ [(f, y)] := putF_new (lkF_none hk ed)
              have hpt : ptD (.inr f) d es = es ++ [(.str f, d)] := pt_new ed
              have qn : Own X.K Z3 (upd H3 a0 (.ins (He.ga X.K c) dx (putF f y fs))) (.ref a0) (objD c (ptD (.inr f) d es)) (a0 :: dx :: (G0 ++ G')) := by
                refine .obj upd_same (kp _ dx axd.symm _ hdx) rfl (by rw [hpt, hput, List.map_append, List.map_append, hk]; rfl) ?_
                rw [hpt, List.map_append, hput, List.map_append]
                refine Owns.append (Owns.mono (Same.refl _) (fun c hc o h _ => kp _ c (fun z => aG0 (z ▸ hc)) o h) qs) (Owns.one ?_)
                exact qy3 _
              refine pa3.store rl n x123 g3 (a0 := a0) (by rw [eg]; simp) rfl qn ?_ (fun c hc => ?_) h
              · have nn : (G0 ++ G').Nodup := List.nodup_append.mpr ⟨(List.nodup_cons.mp nG1).2, nG, fun u hu w hw e => dF w hw (inF w (by rw [← e]; exact List.mem_cons_of_mem _ (List.mem_cons_of_mem _ hu)))⟩
                have nin : ∀ c, c ∈ a0 :: dx :: G0 → c ∉ G0 → c ∉ G0 ++ G' := fun c hc hn z => by
                  rcases List.mem_append.mp z with z | z
                  · exact hn z
                  · exact dF c z (inF c hc)
                refine List.nodup_cons.mpr ⟨fun z => ?_, List.nodup_cons.mpr ⟨nin dx (by simp) dG0, nn⟩⟩
                rcases List.mem_cons.mp z with z | z
                · exact axd z
                · exact nin a0 (by simp) aG0 z
              · rcases List.mem_cons.mp hc with z | z
                · left; rw [eg, z]; simp
                · rcases List.mem_cons.mp z with z | z
                  · left; rw [eg, z]; simp
                  · rcases List.mem_append.mp z with z | z
                    · left; rw [eg]; simp [z]
                    · right; exact ⟨fG c z, oG c z⟩
          · rw [if_neg cc] at h; exact h.elim
end
end Oz

namespace Oz
open PySem PySem.Spec L2
open PyProof.Rows hiding St
variable [WD]

/-! ### methods -/
structure CalM (CX : CXT) (P : Program) (w : World) (K : PySem.W.Frag) (mg : Str → Option Value) (base : Heap) (k : Nat) (c m : Str) (ps : List Str) (md : List Md) (g : Fn) : Prop where
  cl : Cls K (He.ga K c)
  ex : ∃ f fd, FnOk P w K mg base CX k f fd ps (spF K md g) ∧ Binds K fd ps [] ∧ Meth K (He.ga K c) m f
theorem calM_of {CX : CXT} {P : Program} {w : World} {K : PySem.W.Frag} {mg : Str → Option Value} {base : Heap} {c x qual : Str} {params : Arguments} {body : List Stmt} {scope : Scope} {ps : List Str} {k : Nat} {md : List Md} {m : Fn}
    (cl : Cls K (He.ga K c)) (T : ∃ f fd, FunD K x qual params body scope [] [] f fd ∧ Meth K (He.ga K c) x f)
    (hb : ∀ (kV doc pm : Value) (an : Option Addr) (cdv ct : Value) (us : List Value), us.length = ps.length → bindArgs (PySem.W.fnOf x qual params body scope .none kV doc pm an cdv ct) ⟨us, []⟩ = pure (ps.zip us))
    (B : ∀ f fd, FunD K x qual params body scope [] [] f fd → FnOk P w K mg base CX k f fd ps (spF K md m)) :
    CalM CX P w K mg base k c x ps md m := by
  obtain ⟨f, fd, F, hm⟩ := T
  exact ⟨cl, f, fd, B f fd F, F.bindsN hb, hm⟩
/-- x.m(..), x an object that the call changes -/
def mMeth (c mn : Str) (f : Fn) (md : List Md) (i : Nat) (ks : List Ax) : Stx := fun ρ => match ρ[i]? with
  | some (some ⟨_, d⟩) => (match unO c d with
    | some es => if lkD (.inr mn) es = none then mCall f md i (.n i :: ks) ρ else .bad
    | none => .bad)
  | _ => .bad
/-- o.m(..), o looked at -/
def pMeth (c mn : Str) (f : Fn) (md : List Md) (p : Px) (ps : List Px) : Px := fun ρ => (p ρ).bind fun r => match unO c r.d with
  | some es => if lkD (.inr mn) es = none then ((evs ps ρ).bind fun rs => match pargs md (r :: rs) with
    | some ds => (match f ds with
      | .ok r [] => .ok r
      | .exc c fs [] => .exc c fs
      | _ => .bad)
    | none => .bad) else .bad
  | none => .bad
section
variable {K : PySem.W.Frag} {E : XK} {Z O H : Hp} {σ : St} {ρ : Ev} {F : List Addr} {Q : VK}
theorem mMeth_ok {c mn : Str} {f : Fn} {md : List Md} {i : Nat} {ks : List Ax} (h : tM K E (mMeth c mn f md i ks) σ H Q) : tVar i σ H fun x H1 => ∃ a dx fs, x = .ref a ∧ H1 a = some (.ins (He.ga K c) dx fs) ∧ fs.lookup mn = none ∧
    tAX K E ks σ H1 fun vs H2 => spF K md f (x :: vs) H2 Q E := by
  obtain ⟨Z, O, ρ, F, rl, n, h⟩ := h
  unfold mMeth at h
  cases hi : ρ[i]? with
  | none => rw [hi] at h; exact h.elim
  | some y =>
    cases y with
    | none => rw [hi] at h; exact h.elim
    | some r =>
      obtain ⟨s, d⟩ := r
      rw [hi] at h
      simp only at h
      cases eo : unO c d with
      | none => rw [eo] at h; exact h.elim
      | some es =>
        rw [eo] at h
        simp only at h
        by_cases cc : lkD (.inr mn) es = none
        · rw [if_pos cc] at h
          have ed := unO_some eo
          subst ed
          obtain ⟨v, hv, G, q⟩ := rl.sl.get hi
          replace q : RepR K Z O H v ⟨s, objD c es⟩ G := by
            rcases q with q | ⟨_, _, _, _, _, e2, _⟩
            · exact q
            · cases e2
          have lk := q.look rl.g
          obtain ⟨a, dx, fs, ev, ha, hk, hr⟩ := lk.obj_inv
          refine ⟨v, hv, a, dx, fs, ev, ha, lkF_none hk cc, Z, O, ρ, F, rl, ?_⟩
          unfold mCall evx at h
          rw [hi] at h
          simp only at h
          cases e : evx ks ρ with
          | bad => rw [e] at h; exact h.elim
          | exc c fs =>
            rw [e] at h
            exact fun H' Z' O' d xs x g q a b => h H' Z' O' F d xs (rl.ext x g) (TrS.ext x) q a b
          | ok rs =>
            rw [e] at h
            simp only [Res.bind_ok] at h
            intro vs H1 Z1 O1 Gt x1 g1 q nd fr
            cases ea : xargs i md (.n i ⟨s, objD c es⟩ :: rs) with
            | none => rw [ea] at h; exact h.elim
            | some ds =>
              rw [ea] at h
              simp only at h
              by_cases c2 : isOB s = true ∧ Oz.nm md = 1
              · rw [if_pos c2] at h
                refine spF_call (rs := .n i ⟨s, objD c es⟩ :: rs) (rl.ext x1 g1) n (fun j r m => ?_) (.n hv q) (fun a ha z => by
                  obtain ⟨o, w, _⟩ := rl.sl.live a z
                  rw [(fr a ha).1] at w
                  cases w) ea hi c2.1 c2.2 (MRK.from h (TrS.ext x1))
                rcases List.mem_cons.mp m with m | m
                · cases m; exact hi
                · exact evx_names e j r m
              · rw [if_neg c2] at h; exact h.elim
        · rw [if_neg cc] at h; exact h.elim
theorem pMeth_ok {c mn : Str} {f : Fn} {md : List Md} {p : Px} {ps : List Px} (h : tP K E (pMeth c mn f md p ps) σ H Q) : tP K E p σ H fun x H1 => ∃ a dx fs, x = .ref a ∧ H1 a = some (.ins (He.ga K c) dx fs) ∧ fs.lookup mn = none ∧
    tA K E ps σ H1 fun vs H2 => spF K md f (x :: vs) H2 Q E := by
  refine tP_bind (k := fun r ρ => match unO c r.d with
    | some es => if lkD (.inr mn) es = none then ((evs ps ρ).bind fun rs => match pargs md (r :: rs) with
      | some ds => (match f ds with
        | .ok r [] => .ok r
        | .exc c fs [] => .exc c fs
        | _ => .bad)
      | none => .bad) else .bad
    | none => .bad) h fun Z O H1 Z1 O1 ρ F G v r rl x1 r1 q1 nd fr h2 => ?_
  cases eo : unO c r.d with
  | none => simp only [eo] at h2; exact h2.elim
  | some es =>
    simp only [eo] at h2
    by_cases cc : lkD (.inr mn) es = none
    · rw [if_pos cc] at h2
      have lk := q1.look r1.g
      rw [unO_some eo] at lk
      obtain ⟨a, dx, fs, ev, ha, hk, hr⟩ := lk.obj_inv
      refine ⟨a, dx, fs, ev, ha, lkF_none hk cc, Z1, O1, ρ, F, r1, ?_⟩
      cases e : evs ps ρ with
      | bad => rw [e] at h2; exact h2.elim
      | exc c fs => rw [e] at h2; exact ExcK.ext h2 x1
      | ok rs =>
        rw [e] at h2
        simp only [Res.bind_ok] at h2
        intro vs H2 Z2 O2 G2 x2 g2 q2 nd2 fr2
        refine call_ok (W := G ++ G2) g2 (r1.tb.ext x2.h) (.cons (q1.ext x2) q2) (ResK.ext h2 (x1.trans0 x2) fun a ha => ?_)
        rcases List.mem_append.mp ha with ha | ha
        · exact (fr a ha).1
        · exact x1.h.free (fr2 a ha).1
    · rw [if_neg cc] at h2; exact h2.elim
end
section
variable {X : Cx} {E : XK} {CX : CXT} {k k' : Nat} {ps : List Str} {md : List Md} {g : Fn} {c m x : Str} {p pos apos : Pos} {e o : Expr} {es : List Expr} {ks : List Ax} {qs : List Px} {q : Px} {i : Nat}
theorem s_mmeth {pl : Sem Bool} (i : Nat) (cal : CalM CX X.prog X.w X.K X.mg X.base k c m ps md g) (hr : Room k' X.A) (hx : Passes CX X E) (ha : PA X (e :: es) (tAX X.K E ks)) (hN : X.N[i]? = some x := by rfl) (hk : k ≤ k' := by decide) (hv : Vis X.env.scope x := by first | exact Or.inl rfl | exact Or.inr (Or.inl rfl) | exact Or.inr (Or.inr rfl)) (hd : (x == ("__debug__" : Str)) = false := by decide)
    (hcd : (x == ("__classdict__" : Str)) = false := by decide)
    (hst : starEach (e :: es) X.env = (false, eval e X.env) :: starEach es X.env := by rfl) (hpl : (backTo pos (starEach es X.env)).any (·.1) = false := by rfl)
    (ht : eval (.Call (.Attribute (.Name x p) m apos) (e :: es) [] pos) X.env = (do
      let ov ← eval (.Name x p) X.env
      standAt apos.atName
      let (f, first) ← holding [ov] (getMethod ov m pl)
      callWith pos f first (backTo pos (starEach (e :: es) X.env)) (backToKw pos (keywordEach [] X.env))) := by rfl) :
    PE X (.Call (.Attribute (.Name x p) m apos) (e :: es) [] pos) (tM X.K E (mMeth c m g md i ks)) := by
  obtain ⟨f, fd, F, b, hm⟩ := cal.ex
  refine (pe_meth (pe_var hN hv hd hcd) cal.cl hm F (hr.mono hk) b .nil hx ha hst hpl ht).imp fun σ H Q h => ?_
  obtain ⟨v, hv, a, dx, fs, ev, ha, hl, h2⟩ := mMeth_ok h
  refine ⟨v, hv, a, dx, fs, ev, ha, hl, ?_⟩
  have e2 : (fun (vs : List V) (H2 : Hp) => spF X.K md g (v :: (vs ++ [])) H2 Q E) = fun vs H2 => spF X.K md g (v :: vs) H2 Q E := by
    funext vs H2
    rw [List.append_nil]
  rw [e2]
  exact h2
theorem s_mmeth0 {pl : Sem Bool} (i : Nat) (cal : CalM CX X.prog X.w X.K X.mg X.base k c m ps md g) (hr : Room k' X.A) (hx : Passes CX X E) (hN : X.N[i]? = some x := by rfl) (hk : k ≤ k' := by decide) (hv : Vis X.env.scope x := by first | exact Or.inl rfl | exact Or.inr (Or.inl rfl) | exact Or.inr (Or.inr rfl)) (hd : (x == ("__debug__" : Str)) = false := by decide)
    (hcd : (x == ("__classdict__" : Str)) = false := by decide)
    (ht : eval (.Call (.Attribute (.Name x p) m apos) [] [] pos) X.env = (do
      let ov ← eval (.Name x p) X.env
      standAt apos.atName
      let (f, first) ← holding [ov] (getMethod ov m pl)
      callWith pos f first (backTo pos (starEach [] X.env)) (backToKw pos (keywordEach [] X.env))) := by rfl) :
    PE X (.Call (.Attribute (.Name x p) m apos) [] [] pos) (tM X.K E (mMeth c m g md i [])) := by
  obtain ⟨f, fd, F, b, hm⟩ := cal.ex
  refine (pe_meth0 (pe_var hN hv hd hcd) cal.cl hm F (hr.mono hk) b .nil hx ht).imp fun σ H Q h => ?_
  obtain ⟨v, hv, a, dx, fs, ev, ha, hl, h2⟩ := mMeth_ok h
  refine ⟨v, hv, a, dx, fs, ev, ha, hl, ?_⟩
  obtain ⟨Z, O, ρ, F, rl, h2⟩ := h2
  have := h2 [] H Z O [] (Ext.refl _ _ _ _) rl.g .nil List.nodup_nil fun a ha => by cases ha
  exact this
theorem s_meth {pl : Sem Bool} (cal : CalM CX X.prog X.w X.K X.mg X.base k c m ps md g) (hr : Room k' X.A) (hx : Passes CX X E) (ho : PE X o (tP X.K E q)) (ha : PA X (e :: es) (tA X.K E qs)) (hk : k ≤ k' := by decide)
    (hst : starEach (e :: es) X.env = (false, eval e X.env) :: starEach es X.env := by rfl) (hpl : (backTo pos (starEach es X.env)).any (·.1) = false := by rfl)
    (ht : eval (.Call (.Attribute o m apos) (e :: es) [] pos) X.env = (do
      let ov ← eval o X.env
      standAt apos.atName
      let (f, first) ← holding [ov] (getMethod ov m pl)
      callWith pos f first (backTo pos (starEach (e :: es) X.env)) (backToKw pos (keywordEach [] X.env))) := by rfl) :
    PE X (.Call (.Attribute o m apos) (e :: es) [] pos) (tP X.K E (pMeth c m g md q qs)) := by
  obtain ⟨f, fd, F, b, hm⟩ := cal.ex
  refine (pe_meth ho cal.cl hm F (hr.mono hk) b .nil hx ha hst hpl ht).imp fun σ H Q h => ?_
  have h2 := pMeth_ok h
  obtain ⟨Z, O, ρ, F, rl, h2⟩ := h2
  refine ⟨Z, O, ρ, F, rl, ?_⟩
  cases e : q ρ with
  | bad => rw [e] at h2; exact h2
  | exc c fs => rw [e] at h2; exact h2
  | ok r =>
    rw [e] at h2
    intro v H' Z' O' G a1 a2 a3 a4 a5
    obtain ⟨a, dx, fs, ev, ha, hl, h3⟩ := h2 v H' Z' O' G a1 a2 a3 a4 a5
    refine ⟨a, dx, fs, ev, ha, hl, ?_⟩
    have e2 : (fun (vs : List V) (H2 : Hp) => spF X.K md g (v :: (vs ++ [])) H2 Q E) = fun vs H2 => spF X.K md g (v :: vs) H2 Q E := by
      funext vs H2
      rw [List.append_nil]
    rw [e2]
    exact h3
end
/-! ### a new object -/
structure CalI (CX : CXT) (P : Program) (w : World) (K : PySem.W.Frag) (mg : Str → Option Value) (base : Heap) (k : Nat) (c : Str) (ps : List Str) (md : List Md) (g : Fn) : Prop where
  hm : mg c = some (.ref (He.ga K c))
  ex : ∃ f fd, FnOk P w K mg base CX k f fd ps (spF K (.m :: md) g) ∧ Binds K fd ps [] ∧ Mk K (He.ga K c) f
theorem calI_of {CX : CXT} {P : Program} {w : World} {K : PySem.W.Frag} {mg : Str → Option Value} {base : Heap} {c x qual : Str} {params : Arguments} {body : List Stmt} {scope : Scope} {ps : List Str} {k : Nat} {md : List Md} {m : Fn}
    (hm : mg c = some (.ref (He.ga K c))) (T : ∃ f fd, FunD K x qual params body scope [] [] f fd ∧ Mk K (He.ga K c) f)
    (hb : ∀ (kV doc pm : Value) (an : Option Addr) (cdv ct : Value) (us : List Value), us.length = ps.length → bindArgs (PySem.W.fnOf x qual params body scope .none kV doc pm an cdv ct) ⟨us, []⟩ = pure (ps.zip us))
    (B : ∀ f fd, FunD K x qual params body scope [] [] f fd → FnOk P w K mg base CX k f fd ps (spF K (.m :: md) m)) :
    CalI CX P w K mg base k c ps md m := by
  obtain ⟨f, fd, F, hm2⟩ := T
  exact ⟨hm, f, fd, B f fd F, F.bindsN hb, hm2⟩
def mkR (c : Str) (g : Fn) (md : List Md) (rs : List R) : Res R := match pargs md rs with
  | some ds => (match g (objD c [] :: ds) with
    | .ok ⟨.imm, .none⟩ [d'] => .ok ⟨.own, d'⟩
    | .exc c fs [_] => .exc c fs
    | _ => .bad)
  | none => .bad
def pMake (c : Str) (g : Fn) (md : List Md) (ps : List Px) : Px := fun ρ => (evs ps ρ).bind fun rs => mkR c g md rs
section
variable {K : PySem.W.Frag} {E : XK} {Z O H : Hp} {Q : VK} {W : List Addr}
theorem args_own {H0 H H' : Hp} : ∀ {md : List Md} {vs : List V} {ds : List D}, Args K Z H0 H md vs ds [] → nm md = 0 → Args K Z H0 H' md vs ds []
  | [], _, _, .nil, _ => .nil
  | .i :: md, _, _, .i r s, n => .i r (args_own s n)
  | .v :: md, _, _, .v r s, n => .v r (args_own s n)
  | .m :: md, _, _, a, n => by simp [Oz.nm] at n
theorem pargs_nm : ∀ {md : List Md} {rs : List R} {ds : List D}, pargs md rs = some ds → nm md = 0
  | [], [], _, _ => rfl
  | .i :: md, r :: rs, ds, e => by
    unfold pargs at e
    cases h1 : frzR r with
    | none => rw [h1] at e; cases e
    | some d =>
      rw [h1] at e
      cases h2 : pargs md rs with
      | none => rw [h2] at e; cases e
      | some ds' => exact pargs_nm (md := md) h2
  | .v :: md, r :: rs, ds, e => by
    unfold pargs at e
    cases h2 : pargs md rs with
    | none => rw [h2] at e; cases e
    | some ds' => exact pargs_nm (md := md) h2
  | [], _ :: _, _, e => by cases e
  | .m :: _, _, _, e => by cases e
  | .i :: _, [], _, e => by cases e
  | .v :: _, [], _, e => by cases e
theorem make_ok {c : Str} {md : List Md} {g : Fn} {rs : List R} {vs : List V} {G : List Addr} (gd : Good Z O H) (tb : Tabs K H) (q : RepRs K Z O H vs rs G) (h : ResK K E W Z O H (mkR c g md rs) Q) (x dx : Addr) (hx : H x = none) (hdx : H dx = none) (ne : dx ≠ x) :
    spF K (.m :: md) g (.ref x :: vs) (upd (upd H dx (.own x)) x (.ins (He.ga K c) dx [])) (fun v H2 => v = .non ∧ Q (.ref x) H2) E := by
  generalize hH2 : upd (upd H dx (.own x)) x (.ins (He.ga K c) dx []) = H2
  have e1 : H2 x = some (.ins (He.ga K c) dx []) := by rw [← hH2]; exact upd_same
  have e2 : H2 dx = some (.own x) := by rw [← hH2, upd_ne ne]; exact upd_same
  have sm : Same H H2 := fun a o z => by
    rw [← hH2, upd_ne (fun w => by rw [w, hx] at z; cases z), upd_ne (fun w => by rw [w, hdx] at z; cases z)]
    exact z
  have back : ∀ a o, H2 a = some o → a ≠ x → a ≠ dx → H a = some o := fun a o z n1 n2 => by rw [← hH2, upd_ne n1, upd_ne n2] at z; exact z
  have sw : SameN H (without H2 [x, dx]) := fun a o z nn => by
    unfold without
    rw [if_neg (fun m => by
      rcases List.mem_cons.mp m with m | m
      · rw [m, hx] at z; cases z
      · simp at m; rw [m, hdx] at z; cases z), sm a o z]
    exact noTb_of nn
  unfold mkR at h
  cases ea : pargs md rs with
  | none => rw [ea] at h; exact h.elim
  | some ds =>
    rw [ea] at h
    simp only at h
    obtain ⟨i1, i2, i3, i4⟩ := pargs_ok gd q ea
    have n0 := pargs_nm ea
    have ar : Args K Z (without H2 [x, dx]) H2 (.m :: md) (.ref x :: vs) (objD c [] :: ds) ([x, dx] ++ []) := .m (.obj e1 e2 rfl rfl .nil) (args_own (Args.monoV sw i1) n0)
    rw [List.append_nil] at ar
    refine ⟨congrArg (· + 1) i2, Z, objD c [] :: ds, [x, dx], gd.zh.trans sm, gd.ntz, tb.ext (toT sm), fun a o z f => ?_, ar, by simp [ne.symm], fun a ha => ?_, ?_⟩
    · by_cases n1 : a = x
      · rw [n1, e1] at z; cases z; cases f
      · by_cases n2 : a = dx
        · rw [n2, e2] at z; cases z; cases f
        · exact gd.tz a o (back a o z n1 n2) f
    · rcases List.mem_cons.mp ha with m | m
      · rw [m]; exact none_of gd.zh hx
      · simp at m; rw [m]; exact none_of gd.zh hdx
    · have newF : ∀ {Z' H' : Hp} {Fm G' : List Addr} {ms : List D}, After K (.m :: md) (.ref x :: vs) Z H2 [x, dx] ms Z' H' Fm G' → Ext [] Z O H Z' (oNew O Z') H' ∧ Good Z' (oNew O Z') H' ∧ (∀ a ∈ Fm ++ G', H a = none ∧ oNew O Z' a = none) := fun {Z' H' Fm G' ms} A => by
        have fx : ∀ a, H2 a = none → H a = none := fun a z => sm.free z
        have inn : ∀ a ∈ [x, dx], H a = none := fun a ha => by
          rcases List.mem_cons.mp ha with m | m
          · rw [m]; exact hx
          · simp at m; rw [m]; exact hdx
        have sH : SameT H H' := ⟨fun a o z n => A.tr.keep a o (sm a o z) (fun m => by rw [inn a m] at z; cases z) n, fun a z => (A.tr.fr a z).elim (inn a) (fx a), fun a z => A.tr.tab a (fun m => tabG_ne z (inn a m)) ((toT sm).tab a z)⟩
        have zn : ∀ a, Z' a ≠ none → Z a ≠ none ∨ H a = none := fun a z => (A.tr.zn a z).imp id fun y => y.elim (inn a) (fx a)
        have fn : ∀ a ∈ Fm ++ G', H a = none := fun a ha => (A.tr.fn a ha).elim (inn a) (fx a)
        refine ⟨⟨sH, A.tr.z, oNew_same, fun a z => (zn a z).imp id .inl, fun a z => ?_⟩, oNew_good (gd.ohT sH) A.zh A.tz gd.nt A.nt, fun a ha => ⟨fn a ha, outer_none (none_of gd.oh (fn a ha)) (A.zf a ha)⟩⟩
        cases w : O a with
        | some o => exact .inl (by simp)
        | none =>
          rw [oNew_none w] at z
          rcases zn a z with y | y
          · exact absurd (gd.zo.free w) y
          · exact .inr (.inl y)
      cases ef : g (objD c [] :: ds) with
      | bad => rw [ef] at h; exact h.elim
      | ok r ms =>
        rw [ef] at h
        obtain ⟨s, d⟩ := r
        have h3 : s = .imm ∧ d = .none ∧ ∃ d', ms = [d'] ∧ OkK K W Z O H ⟨.own, d'⟩ Q := by
          cases s with
          | imm =>
            cases d with
            | none =>
              match ms, h with
              | [], h => exact h.elim
              | _ :: _ :: _, h => exact h.elim
              | [d'], h => exact ⟨rfl, rfl, d', rfl, h⟩
            | _ => exact h.elim
          | _ => exact h.elim
        obtain ⟨rfl, rfl, d', rfl, h4⟩ := h3
        intro v H' Z' Fm G' A t rr
        obtain ⟨x1, g1, f1⟩ := newF A
        obtain ⟨rr, _⟩ := rr
        cases rr
        refine ⟨rfl, ?_⟩
        cases A with
        | mk tr zh tz nd zf nt tb outs =>
          cases outs with
          | m o1 o2 =>
            have o3 := i3 _ _ _ _ o2
            obtain ⟨rfl, _⟩ := o3
            rw [List.append_nil] at nd f1
            exact h4 (.ref x) H' Z' (oNew O Z') _ (x1.mono fun a ha => by cases ha) g1 o1 (List.nodup_append.mp nd).1 fun a ha => ⟨.inl (f1 a (List.mem_append_left _ ha)).1, (f1 a (List.mem_append_left _ ha)).2⟩
      | exc c2 fs ms =>
        rw [ef] at h
        match ms, h with
        | [], h => exact h.elim
        | _ :: _ :: _, h => exact h.elim
        | [d'], h =>
          intro H' Z' Fm d0 xs A hd ek rk
          obtain ⟨x1, g1, f1⟩ := newF A
          exact h H' Z' (oNew O Z') d0 xs x1 g1 hd ek rk
end
section
variable {X : Cx} {E : XK} {CX : CXT} {k k' : Nat} {ps : List Str} {md : List Md} {g : Fn} {c : Str} {p pos : Pos} {e : Expr} {es : List Expr} {qs : List Px}
theorem s_make (cal : CalI CX X.prog X.w X.K X.mg X.base k c ps md g) (hr : Room k' X.A) (hx : Passes CX X E) (ha : PA X (e :: es) (tA X.K E qs)) (hg : Gl X c := by rfl) (hk : k + 1 ≤ k' := by decide)
    (hdb : (c == ("__debug__" : Str)) = false := by decide) (he : starEach (e :: es) X.env = (false, eval e X.env) :: starEach es X.env := by rfl) (hpl : (backTo pos (starEach es X.env)).any (·.1) = false := by rfl) :
    PE X (.Call (.Name c p) (e :: es) [] pos) (tP X.K E (pMake c g md qs)) := by
  obtain ⟨f, fd, F, b, M⟩ := cal.ex
  refine (pe_make M F (hr.mono hk) hg cal.hm b .nil hx ha hdb he hpl).imp fun σ H Q h => ?_
  refine tA_bind h fun Z O H1 G vs rs gd q nd fo h2 tb => ?_
  intro x dx h3 h4 ne
  rw [List.append_nil]
  exact make_ok gd tb q h2 x dx h3 h4 ne
end
end Oz

namespace Oz
open PySem PySem.Spec L2
open PyProof.Rows hiding St
variable [WD]

/-! ### constants of the module -/
section
variable {X : Cx} {E : XK} {x : Str} {pos : Pos}
end
/-! ### slices -/
def cutD (ds : List D) (lo hi : Option Int) : List D := (ds.drop (HT.sIx ds.length 0 lo)).take (HT.sIx ds.length ds.length hi - HT.sIx ds.length 0 lo)
def evO : Option Px → Ev → Res (Option Int)
  | none, _ => .ok none
  | some p, ρ => (p ρ).bind fun r => match r.d with
    | .int i => .ok (some i)
    | _ => .bad
def cutR (r : R) (lo hi : Option Int) : Res R := match r.d with
  | .list ds => dnew r.s (cutD ds lo hi)
  | .tuple ds => tnew r.s (cutD ds lo hi)
  | _ => .bad
def pSl (p : Px) (lo hi : Option Px) : Px := fun ρ => (p ρ).bind fun r => (evO lo ρ).bind fun l => (evO hi ρ).bind fun u => cutR r l u
section
variable {K : PySem.W.Frag} {E : XK} {Z O H Z1 O1 H1 : Hp} {σ : St} {ρ : Ev} {F : List Addr} {Q : VK}
end
section
variable {X : Cx} {E : XK} {e a b : Expr} {p q r : Px} {pos p2 : Pos}
end
/-! ### a list repeated -/
noncomputable def mulR (a b : R) : Res R := match a.d, b.d with
  | .int i, .int j => at2 fMul ⟨.imm, .int i⟩ ⟨.imm, .int j⟩
  | .list ds, .int k => if gd (decide (-(2 ^ 63) ≤ k ∧ k < 2 ^ 63)) = true ∧ ds.length * k.toNat ≤ sizeLine ∧ isOB a.s = true then dnew .view (List.replicate k.toNat ds).flatten else .bad
  | _, _ => .bad
theorem Reps.rep {K : PySem.W.Frag} {C : Hp} {vs : List V} {ds : List D} (h : Reps K C vs ds) : ∀ n : Nat, Reps K C (List.replicate n vs).flatten (List.replicate n ds).flatten
  | 0 => .nil
  | n + 1 => by
    rw [List.replicate_succ, List.replicate_succ, List.flatten_cons, List.flatten_cons]
    exact h.append (h.rep n)
theorem o_mul2 {K : PySem.W.Frag} : Op2 K (fun x y H Q => rI CMul (fun i j => .int (i * j)) x y H Q ∨ rRep x y H Q) mulR := by
  intro E Z O H x y a b F G Q g ra rb nd fo q
  obtain ⟨s, da⟩ := a
  obtain ⟨t, db⟩ := b
  have la := ra.look g
  have lb := rb.look g
  cases da with
  | int i => cases db with
    | int j =>
      cases la
      cases lb
      exact .inl (o_mul E Z O H _ _ ⟨.imm, .int i⟩ ⟨.imm, .int j⟩ [] [] Q g ⟨.int i, rfl⟩ ⟨.int j, rfl⟩ List.nodup_nil (fun c hc => by cases hc) (by
        have q2 : ResK K E (F ++ G) Z O H (at2 fMul ⟨.imm, .int i⟩ ⟨.imm, .int j⟩) Q := q
        unfold at2 at q2 ⊢
        cases e : fMul (PyData.int i) (PyData.int j) with
        | none => simp only [e] at q2; exact q2.elim
        | some d =>
          simp only [e] at q2 ⊢
          exact fun v H' Z' O' G' x g' r n f => q2 v H' Z' O' G' (x.mono fun c hc => by cases hc) g' r n fun c hc => ⟨.inl ((f c hc).1.elim id fun z => by cases z), (f c hc).2⟩))
    | _ => exact q.elim
  | list ds => cases db with
    | int k =>
      have q2 : ResK K E (F ++ G) Z O H (if gd (decide (-(2 ^ 63) ≤ k ∧ k < 2 ^ 63)) = true ∧ ds.length * k.toNat ≤ sizeLine ∧ isOB s = true then dnew .view (List.replicate k.toNat ds).flatten else .bad) Q := q
      by_cases c : gd (decide (-(2 ^ 63) ≤ k ∧ k < 2 ^ 63)) = true ∧ ds.length * k.toNat ≤ sizeLine ∧ isOB s = true
      · rw [if_pos c] at q2
        obtain ⟨c1, c2, c3⟩ := c
        have c4 := of_decide_eq_true (gd_el c1)
        cases lb
        cases la with
        | lst ha rv =>
          exact .inr ⟨_, k, _, rfl, rfl, ha, c4.1, c4.2, by rw [rv.length]; exact c2, fun p np => dnew_ok (s := .view) g q2 (rv.rep _) (fun es => by cases es) np⟩
      · rw [if_neg c] at q2; exact q2.elim
    | _ => exact q.elim
  | _ => cases db <;> exact q.elim
theorem op_mul2 {X : Cx} : OpR X (binaryOp .Mult) (fun x y H Q => rI CMul (fun i j => .int (i * j)) x y H Q ∨ rRep x y H Q) := OpR.or op_mul op_rep
/-! ### the head's Hook, with a check of one's own -/
noncomputable section
end
end Oz

namespace Oz
open PySem PySem.Spec L2
open PyProof.Rows hiding St
variable [WD]

/-! ### what one owns lasts from now on -/
def frzE (i : Nat) (ρ : Ev) : Ev := match ρ[i]? with
  | some (some ⟨.own, d⟩) => ρ.set i (some ⟨.imm, d⟩)
  | _ => ρ
def sFrz (i : Nat) (s : Stx) : Stx := fun ρ => s (frzE i ρ)
section
variable {K : PySem.W.Frag} {Z O H : Hp} {σ : St} {ρ : Ev} {F : List Addr}
theorem frz_ok (rl : Rel K Z O H σ ρ F) (n : nov ρ = true) (i : Nat) : ∃ Z' O' F', Rel K Z' O' H σ (frzE i ρ) F' ∧ nov (frzE i ρ) = true ∧ TrS Z O H σ ρ F Z' O' H σ (frzE i ρ) F' := by
  have same : ∃ Z' O' F', Rel K Z' O' H σ ρ F' ∧ nov ρ = true ∧ TrS Z O H σ ρ F Z' O' H σ ρ F' := ⟨Z, O, F, rl, n, TrS.refl _ _ _ _ _ _⟩
  unfold frzE
  cases e : ρ[i]? with
  | none => exact same
  | some y =>
    cases y with
    | none => exact same
    | some r =>
      obtain ⟨s, d⟩ := r
      cases s with
      | own =>
        obtain ⟨hl, _⟩ := List.getElem?_eq_some_iff.mp e
        obtain ⟨x, y, F1, G, F2, h1, h2, h3, h4, h5⟩ := rl.sl.focus hl
        rw [e] at h2
        cases h2
        cases x with
        | none => exact h4.elim
        | some v =>
          have ow : Own K Z H v d G := RepS.rep h4 nofun
          have nF := rl.nd
          rw [h3] at nF
          obtain ⟨n1, n2, n3⟩ := List.nodup_append.mp nF
          obtain ⟨n4, n5, n6⟩ := List.nodup_append.mp n2
          have inF : ∀ a ∈ G, a ∈ F := fun a ha => by rw [h3]; simp [ha]
          have oG : ∀ a ∈ G, O a = none := fun a ha => rl.fo a (inF a ha)
          have zG : ∀ a ∈ G, Z a = none := fun a ha => rl.g.zo.free (oG a ha)
          let Z' : Hp := fun a => if a ∈ G then H a else Z a
          let O' : Hp := fun a => if a ∈ G then H a else O a
          have z1 : ∀ a, a ∈ G → Z' a = H a := fun a ha => if_pos ha
          have z0 : ∀ a, a ∉ G → Z' a = Z a := fun a ha => if_neg ha
          have o1 : ∀ a, a ∈ G → O' a = H a := fun a ha => if_pos ha
          have o0 : ∀ a, a ∉ G → O' a = O a := fun a ha => if_neg ha
          have zz : Same Z Z' := fun a o h => by
            rw [z0 a fun ha => by rw [zG a ha] at h; cases h]; exact h
          have oo : Same O O' := fun a o h => by
            rw [o0 a fun ha => by rw [oG a ha] at h; cases h]; exact h
          have gd : Good Z' O' H := by
            refine ⟨fun a o h => ?_, fun a o h => ?_, fun a o h f => zz a o (rl.g.tz a o h f), fun a ps h => ?_⟩
            rotate_right
            · by_cases ha : a ∈ G
              · rw [o1 a ha] at h; exact ow.ntb a ha ps h
              · rw [o0 a ha] at h; exact rl.g.nt a ps h
            · by_cases ha : a ∈ G
              · rw [z1 a ha] at h; rw [o1 a ha]; exact h
              · rw [z0 a ha] at h; rw [o0 a ha]; exact rl.g.zo a o h
            · by_cases ha : a ∈ G
              · rw [o1 a ha] at h; exact h
              · rw [o0 a ha] at h; exact rl.g.oh a o h
          have rp : Rep K Z' v d := Own.rep (Same.refl Z') (Own.mono zz (fun a ha o h _ => by rw [z1 a ha]; exact h) ow)
          have sl := h5 (some v) (some ⟨.imm, d⟩) [] Z' O' H zz oo (.inl fun _ _ q _ => q) (fun a _ o h _ => h) (.inl ⟨rp, rfl⟩)
          rw [set_same h1] at sl
          have sb : (F1 ++ ([] ++ F2)).Sublist F := by
            rw [h3, List.nil_append]
            exact List.Sublist.append (List.Sublist.refl _) (List.sublist_append_right _ _)
          have nG : ∀ a ∈ F1 ++ ([] ++ F2), a ∉ G := fun a ha z => by
            rcases List.mem_append.mp ha with ha | ha
            · exact n3 a ha a (List.mem_append_left _ z) rfl
            · exact n6 a z a (by simpa using ha) rfl
          refine ⟨Z', O', _, ⟨gd, rl.nd.sublist sb, fun a ha => by rw [o0 a (nG a ha)]; exact rl.fo a (sb.subset ha), sl, rl.tb⟩, nov_set n (fun d' e' => by cases e'), ⟨⟨zz, fun a o h _ _ => h, fun a h => ?_, fun a ha => .inl (sb.subset ha), fun a h => .inr h, fun a _ h => h⟩, oo, rfl, fun j dj hj => ⟨rfl, dj, ?_⟩, fun a h => ?_⟩⟩
          · by_cases ha : a ∈ G
            · exact .inr (.inl (inF a ha))
            · rw [z0 a ha] at h; exact .inl h
          · have ne : i ≠ j := fun z => by rw [z] at e; rw [e] at hj; cases hj
            rw [List.getElem?_set_ne ne]
            exact hj
          · by_cases ha : a ∈ G
            · exact .inr (.inl (inF a ha))
            · rw [o0 a ha] at h; exact .inl h
      | _ => exact same
end
theorem s_frz {X : Cx} {E : XK} {st : Stmt} {s : Stx} (i : Nat) (h : PS X st (tS X.K E s)) : PS X st (tS X.K E (sFrz i s)) := h.imp fun D σ H q => by
  obtain ⟨Z, O, ρ, F, rl, n, q⟩ := q
  obtain ⟨Z', O', F', rl', n', tr⟩ := frz_ok rl n i
  exact ⟨Z', O', _, F', rl', n', SRK.from q tr⟩

/-! ### reckoning, continued -/
section
variable {ρ : Ev}
@[simp] theorem x_frz {i : Nat} {s : Stx} : sFrz i s ρ = s (frzE i ρ) := id rfl
@[simp] theorem x_frzE {i : Nat} : frzE i ρ = (match ρ[i]? with | some (some ⟨.own, d⟩) => ρ.set i (some ⟨.imm, d⟩) | _ => ρ) := id rfl
@[simp] theorem x_setI {l : Plx} {p q : Px} : sSetI l p q ρ = (match q ρ with
  | .bad => .bad
  | .exc c fs => .exc c fs ρ
  | .ok r => (match ownR r with
    | none => .bad
    | some d => (match l ρ with
      | .bad => .bad
      | .exc c fs => .exc c fs ρ
      | .ok l => (match p ρ with
        | .bad => .bad
        | .exc c fs => .exc c fs ρ
        | .ok i => (match l.d, i.d with
          | .list ds, .int k => (match ixN ds.length k with
            | some j => putE l (.list (ds.set j d)) ρ
            | none => .bad)
          | _, _ => .bad))))) := id rfl
@[simp] theorem x_put {l : Plx} {p q : Px} : sPut l p q ρ = (match q ρ with
  | .bad => .bad
  | .exc c fs => .exc c fs ρ
  | .ok r => (match ownR r with
    | none => .bad
    | some d => (match l ρ with
      | .bad => .bad
      | .exc c fs => .exc c fs ρ
      | .ok l => (match p ρ with
        | .bad => .bad
        | .exc c fs => .exc c fs ρ
        | .ok i => (match l.d, keyOf i.d with
          | .dict es, some k => if isDct es = true ∧ ukD k es = true ∧ es.length < sizeLine then putE l (.dict (ptD k d es)) ρ else .bad
          | _, _ => .bad))))) := id rfl
@[simp] theorem x_fldS {c f : Str} {l : Plx} {q : Px} : sFldS c f l q ρ = (match q ρ with
  | .bad => .bad
  | .exc c fs => .exc c fs ρ
  | .ok r => (match ownR r with
    | none => .bad
    | some d => (match l ρ with
      | .bad => .bad
      | .exc c fs => .exc c fs ρ
      | .ok l => (match unO c l.d with
        | some es => if es.length < 1000 then putE l (objD c (ptD (.inr f) d es)) ρ else .bad
        | none => .bad)))) := id rfl
@[simp] theorem x_plK {l : Plx} {p : Px} : plK l p ρ = ((l ρ).bind fun l => (p ρ).bind fun r => match l.d, keyOf r.d with
  | .dict es, some k => if isDct es = true ∧ ukD k es = true then (match lkD k es with
    | some d => .ok ⟨l.i, d, fun y => l.put (.dict (ptD k y es))⟩
    | none => .bad) else .bad
  | _, _ => .bad) := id rfl
@[simp] theorem x_plF {c f : Str} {l : Plx} : plF c f l ρ = ((l ρ).bind fun l => match unO c l.d with
  | some es => (match lkD (.inr f) es with
    | some d => .ok ⟨l.i, d, fun y => l.put (objD c (ptD (.inr f) y es))⟩
    | none => .bad)
  | none => .bad) := id rfl
@[simp] theorem x_fld {c f : Str} {p : Px} : pFld c f p ρ = ((p ρ).bind fun r => match unO c r.d with
  | some es => (match lkD (.inr f) es with
    | some d => .ok (sub r.s d)
    | none => .bad)
  | none => .bad) := id rfl
@[simp] theorem x_keyR {a b : R} : keyR a b = (match a.d, keyOf b.d with
  | .dict es, some k => if isDct es = true then (match lkD k es with
    | some d => .ok (sub a.s d)
    | none => .bad) else .bad
  | _, _ => .bad) := id rfl
@[simp] theorem x_unO {c : Str} {es : List (D × D)} : unO c (objD c es) = some es := by unfold unO objD; simp
@[simp] theorem lf_obj {c : Str} {es : List (D × D)} : lf (objD c es) = false := id rfl
@[simp] theorem x_mP {p : Px} : mP p ρ = (match p ρ with | .bad => .bad | .exc c fs => .exc c fs ρ | .ok r => .ret r ρ) := id rfl
@[simp] theorem x_mBind {s : Stx} {k : R → Stx} : mBind s k ρ = (match s ρ with | .ret r ρ' => k r ρ' | .exc c fs ρ' => .exc c fs ρ' | _ => .bad) := id rfl
@[simp] theorem x_mAnd {s t : Stx} : mAnd s t ρ = (match s ρ with | .ret r ρ' => (match truth r.d with | some true => t ρ' | some false => .ret r ρ' | none => .bad) | .exc c fs ρ' => .exc c fs ρ' | _ => .bad) := id rfl
@[simp] theorem x_mOr {s t : Stx} : mOr s t ρ = (match s ρ with | .ret r ρ' => (match truth r.d with | some true => .ret r ρ' | some false => t ρ' | none => .bad) | .exc c fs ρ' => .exc c fs ρ' | _ => .bad) := id rfl
@[simp] theorem x_mNot {s : Stx} : mNot s ρ = (match s ρ with | .ret r ρ' => (match truth r.d with | some b => .ret ⟨.imm, .bool (!b)⟩ ρ' | none => .bad) | .exc c fs ρ' => .exc c fs ρ' | _ => .bad) := id rfl
@[simp] theorem x_mTru {s : Stx} : mTru s ρ = (match s ρ with | .ret r ρ' => (match truth r.d with | some b => .ret ⟨.imm, .bool b⟩ ρ' | none => .bad) | .exc c fs ρ' => .exc c fs ρ' | _ => .bad) := id rfl
@[simp] theorem x_mTnot {s : Stx} : mTnot s ρ = (match s ρ with | .ret ⟨_, .bool b⟩ ρ' => .ret ⟨.imm, .bool (!b)⟩ ρ' | .exc c fs ρ' => .exc c fs ρ' | _ => .bad) := id rfl
@[simp] theorem x_mT {t : Tx} : mT t ρ = (match t ρ with | .bad => .bad | .exc c fs => .exc c fs ρ | .ok b => .ret ⟨.imm, .bool b⟩ ρ) := id rfl
@[simp] theorem x_mIfE {c s t : Stx} : mIfE c s t ρ = (match c ρ with | .ret ⟨_, .bool b⟩ ρ' => if b = true then s ρ' else t ρ' | .exc c fs ρ' => .exc c fs ρ' | _ => .bad) := id rfl
@[simp] theorem x_mIf {c s t : Stx} : mIf c s t ρ = (match c ρ with | .ret ⟨_, .bool b⟩ ρ' => if b = true then s ρ' else t ρ' | .exc c fs ρ' => .exc c fs ρ' | _ => .bad) := id rfl
@[simp] theorem x_mRet {s : Stx} : mRet s ρ = (match s ρ with | .ret r ρ' => if storable r = true then .ret r ρ' else .bad | .exc c fs ρ' => .exc c fs ρ' | _ => .bad) := id rfl
@[simp] theorem x_mAsg {i : Nat} {s : Stx} : mAsg i s ρ = (match s ρ with | .ret r ρ' => (match setS i r ρ' with | some ρ2 => .next ρ2 | none => .bad) | .exc c fs ρ' => .exc c fs ρ' | _ => .bad) := id rfl
@[simp] theorem x_mDrop {s : Stx} : mDrop s ρ = (match s ρ with | .ret _ ρ' => .next ρ' | .exc c fs ρ' => .exc c fs ρ' | _ => .bad) := id rfl
@[simp] theorem x_evx0 : evx [] ρ = .ok [] := id rfl
@[simp] theorem x_evxp {e : Px} {ks : List Ax} : evx (.p e :: ks) ρ = ((e ρ).bind fun r => if r.s = .view then .bad else (evx ks ρ).bind fun rs => .ok (.p r :: rs)) := id rfl
@[simp] theorem x_evxn {j : Nat} {ks : List Ax} : evx (.n j :: ks) ρ = (match ρ[j]? with | some (some r) => (evx ks ρ).bind fun rs => .ok (.n j r :: rs) | _ => .bad) := id rfl
@[simp] theorem x_mCall {f : Fn} {md : List Md} {i : Nat} {ks : List Ax} : mCall f md i ks ρ = (match evx ks ρ with
  | .bad => .bad
  | .exc c fs => .exc c fs ρ
  | .ok rs => (match xargs i md rs with
    | none => .bad
    | some ds => (match ρ[i]? with
      | some (some ⟨s, _⟩) => if isOB s = true ∧ nm md = 1 then mOut i s (f ds) ρ else .bad
      | _ => .bad))) := id rfl
@[simp] theorem x_mMeth {c mn : Str} {f : Fn} {md : List Md} {i : Nat} {ks : List Ax} : mMeth c mn f md i ks ρ = (match ρ[i]? with
  | some (some ⟨_, d⟩) => (match unO c d with
    | some es => if lkD (.inr mn) es = none then mCall f md i (.n i :: ks) ρ else .bad
    | none => .bad)
  | _ => .bad) := id rfl
@[simp] theorem x_mOut {i : Nat} {s : Sx} {r : R} {d' : D} : mOut i s (.ok r [d']) ρ = .ret r (ρ.set i (some ⟨s, d'⟩)) := id rfl
@[simp] theorem x_mOutX {i : Nat} {s : Sx} {c : Str} {fs : List (Str × D)} {d' : D} : mOut i s (.exc c fs [d']) ρ = .exc c fs (ρ.set i (some ⟨s, d'⟩)) := id rfl
@[simp] theorem xa_nil {i : Nat} : xargs i [] [] = some [] := id rfl
@[simp] theorem xa_m {i j : Nat} {md : List Md} {r : R} {rs : List AR} : xargs i (.m :: md) (.n j r :: rs) = if j = i then (xargs i md rs).map (r.d :: ·) else none := id rfl
@[simp] theorem xa_vp {i : Nat} {md : List Md} {r : R} {rs : List AR} : xargs i (.v :: md) (.p r :: rs) = (xargs i md rs).map (r.d :: ·) := id rfl
@[simp] theorem xa_vn {i j : Nat} {md : List Md} {r : R} {rs : List AR} : xargs i (.v :: md) (.n j r :: rs) = if j = i then none else if r.s = .tab then none else (xargs i md rs).map (r.d :: ·) := id rfl
@[simp] theorem nm0 : nm [] = 0 := id rfl
@[simp] theorem nmm {md : List Md} : nm (.m :: md) = nm md + 1 := id rfl
@[simp] theorem nmv {md : List Md} : nm (.v :: md) = nm md := id rfl
@[simp] theorem nmi {md : List Md} : nm (.i :: md) = nm md := id rfl
@[simp] theorem ob_own : isOB .own = true := id rfl
@[simp] theorem ob_brw : isOB .brw = true := id rfl
@[simp] theorem x_make {c : Str} {g : Fn} {md : List Md} {ps : List Px} : pMake c g md ps ρ = ((evs ps ρ).bind fun rs => match pargs md rs with
  | some ds => (match g (objD c [] :: ds) with
    | .ok ⟨.imm, .none⟩ [d'] => .ok ⟨.own, d'⟩
    | .exc c fs [_] => .exc c fs
    | _ => .bad)
  | none => .bad) := id rfl
@[simp] theorem x_neg {p : Px} : pNeg p ρ = ((p ρ).bind fun r => match r.d with | .int i => .ok ⟨.imm, .int (-i)⟩ | _ => .bad) := id rfl
@[simp] theorem x_sl {p : Px} {lo hi : Option Px} : pSl p lo hi ρ = ((p ρ).bind fun r => (evO lo ρ).bind fun l => (evO hi ρ).bind fun u => cutR r l u) := id rfl
@[simp] theorem x_evO0 : evO none ρ = .ok none := id rfl
@[simp] theorem x_evO1 {p : Px} : evO (some p) ρ = ((p ρ).bind fun r => match r.d with | .int i => .ok (some i) | _ => .bad) := id rfl
end
@[simp] theorem x_cutT {s : Sx} {ds : List D} {l u : Option Int} : cutR ⟨s, .tuple ds⟩ l u = tnew s (cutD ds l u) := id rfl
@[simp] theorem x_cutL {s : Sx} {ds : List D} {l u : Option Int} : cutR ⟨s, .list ds⟩ l u = dnew s (cutD ds l u) := id rfl
@[simp] theorem x_isN {b : D} : isF b .none = some (.bool (match b with | .none => true | _ => false)) := by cases b <;> rfl
@[simp] theorem x_isnN {b : D} : isnF b .none = some (.bool (match b with | .none => false | _ => true)) := by cases b <;> rfl
@[simp] theorem x_mul_ii {s t : Sx} {i j : Int} : mulR ⟨s, .int i⟩ ⟨t, .int j⟩ = (match fMul (.int i) (.int j) with | some d => .ok ⟨.imm, d⟩ | none => .bad) := id rfl
@[simp] theorem keyOf_i {i : Int} : keyOf (.int i) = some (.inl i) := id rfl
@[simp] theorem keyOf_s {x : Str} : keyOf (.str x) = some (.inr x) := id rfl
@[simp] theorem lkD_nil {k : Key} : lkD k [] = none := id rfl
@[simp] theorem lkD_cons {k : Key} {a d : D} {r : List (D × D)} : lkD k ((a, d) :: r) = if keyOf a = some k then some d else lkD k r := id rfl
@[simp] theorem ptD_nil {k : Key} {d : D} : ptD k d [] = [(kd k, d)] := id rfl
@[simp] theorem ptD_cons {k : Key} {a x d : D} {r : List (D × D)} : ptD k d ((a, x) :: r) = if keyOf a = some k then (a, d) :: r else (a, x) :: ptD k d r := id rfl
@[simp] theorem kd_s {x : Str} : kd (.inr x) = .str x := id rfl
@[simp] theorem kd_i {x : Int} : kd (.inl x) = .int x := id rfl
end Oz

namespace Oz
open PySem PySem.Spec L2
open PyProof.Rows hiding St
variable [WD]

/-! ### slots that nobody reads any more -/
def mskE : List Bool → Ev → Ev
  | [], ρ => ρ
  | _ :: _, [] => []
  | true :: bs, x :: ρ => x :: mskE bs ρ
  | false :: bs, x :: ρ => (match x with
    | some ⟨.brw, d⟩ => some ⟨.brw, d⟩
    | _ => none) :: mskE bs ρ
section
variable {K : PySem.W.Frag} {E : XK} {Z O H Z1 O1 H1 : Hp} {σ σ1 : St} {ρ ρ1 : Ev} {F F1 : List Addr} {nx : St → Hp → Prop} {rt : VK}
theorem Slots.msk : ∀ (bs : List Bool) {σ : List (Option V)} {ρ : Ev} {F : List Addr}, Slots K Z O H σ ρ F → ∃ F', Slots K Z O H σ (mskE bs ρ) F' ∧ F'.Sublist F
  | [], _, _, F, s => ⟨F, s, List.Sublist.refl _⟩
  | _ :: _, _, _, _, .nil => ⟨[], .nil, List.Sublist.refl _⟩
  | true :: bs, _, _, F, .non s => by
    obtain ⟨F', h1, h2⟩ := Slots.msk bs s
    exact ⟨F', .non h1, h2⟩
  | true :: bs, _, _, _, .val r s => by
    obtain ⟨F', h1, h2⟩ := Slots.msk bs s
    exact ⟨_, .val r h1, List.Sublist.append (List.Sublist.refl _) h2⟩
  | false :: bs, _, _, F, .non s => by
    obtain ⟨F', h1, h2⟩ := Slots.msk bs s
    exact ⟨F', .non h1, h2⟩
  | false :: bs, _, _, _, .val (r := r) q s => by
    obtain ⟨F', h1, h2⟩ := Slots.msk bs s
    obtain ⟨s, d⟩ := r
    cases s with
    | brw => exact ⟨_, .val q h1, List.Sublist.append (List.Sublist.refl _) h2⟩
    | _ => exact ⟨F', .non h1, h2.trans (List.sublist_append_right _ _)⟩
theorem nov_msk : ∀ (bs : List Bool) {ρ : Ev}, nov ρ = true → nov (mskE bs ρ) = true
  | [], _, n => n
  | _ :: _, [], n => n
  | true :: bs, x :: ρ, n => by
    have n1 : (_ && nov ρ) = true := n
    obtain ⟨n2, n3⟩ := Bool.and_eq_true_iff.mp n1
    show (_ && nov (mskE bs ρ)) = true
    rw [nov_msk bs n3, Bool.and_true]
    exact n2
  | false :: bs, x :: ρ, n => by
    have n1 : (_ && nov ρ) = true := n
    obtain ⟨n2, n3⟩ := Bool.and_eq_true_iff.mp n1
    show (_ && nov (mskE bs ρ)) = true
    rw [nov_msk bs n3, Bool.and_true]
    cases x with
    | none => rfl
    | some r =>
      obtain ⟨s, d⟩ := r
      cases s <;> rfl
theorem msk_brw : ∀ (bs : List Bool) {ρ : Ev} {j : Nat} {d : D}, ρ[j]? = some (some (R.mk .brw d)) → (mskE bs ρ)[j]? = some (some (R.mk .brw d))
  | [], _, _, _, h => h
  | _ :: _, [], _, _, h => h
  | true :: bs, x :: ρ, 0, _, h => h
  | true :: bs, x :: ρ, j + 1, _, h => by
    have := msk_brw bs (ρ := ρ) (j := j) (by simpa using h)
    simpa [mskE] using this
  | false :: bs, x :: ρ, 0, _, h => by
    simp at h
    subst h
    rfl
  | false :: bs, x :: ρ, j + 1, _, h => by
    have := msk_brw bs (ρ := ρ) (j := j) (by simpa using h)
    simpa [mskE] using this
theorem Rel.msk (rl : Rel K Z O H σ ρ F) (bs : List Bool) : ∃ F', Rel K Z O H σ (mskE bs ρ) F' ∧ F'.Sublist F := by
  obtain ⟨F', h1, h2⟩ := rl.sl.msk bs
  exact ⟨F', ⟨rl.g, rl.nd.sublist h2, fun a ha => rl.fo a (h2.subset ha), h1, rl.tb⟩, h2⟩
theorem TrS.msk (t : TrS Z O H σ ρ F Z1 O1 H1 σ1 ρ1 F1) (bs : List Bool) {F' : List Addr} (h : F'.Sublist F1) : TrS Z O H σ ρ F Z1 O1 H1 σ1 (mskE bs ρ1) F' :=
  ⟨⟨t.tr.z, t.tr.keep, t.tr.zn, fun a ha => t.tr.fn a (h.subset ha), t.tr.fr, t.tr.tab⟩, t.o, t.len, fun j d hj => by
    obtain ⟨e, d', h'⟩ := t.brw j d hj
    exact ⟨e, d', msk_brw bs h'⟩, t.on⟩
def sEnd (ks rs : List Bool) (s : Stx) : Stx := fun ρ => match s ρ with
  | .bad => .bad
  | .next ρ' => .next (mskE ks ρ')
  | .ret r ρ' => .ret r (mskE rs ρ')
  | .exc c fs ρ' => .exc c fs (mskE rs ρ')
def sPre (ks : List Bool) (s : Stx) : Stx := fun ρ => s (mskE ks ρ)
theorem SRK.fin {r : SR} {ks rs : List Bool} (h : SRK K E Z O H σ ρ F nx rt (match r with
    | .bad => .bad
    | .next ρ' => .next (mskE ks ρ')
    | .ret r ρ' => .ret r (mskE rs ρ')
    | .exc c fs ρ' => .exc c fs (mskE rs ρ'))) : SRK K E Z O H σ ρ F nx rt r := by
  cases r with
  | bad => exact h
  | next ρ' =>
    intro σ' H' Z' O' F' q n u
    obtain ⟨F2, rl, sb⟩ := q.msk ks
    exact h σ' H' Z' O' F2 rl (nov_msk ks n) (u.msk ks sb)
  | ret r ρ' =>
    intro v σ' H' Z' O' F' G q w nd fo u u2
    obtain ⟨F2, rl, sb⟩ := q.msk rs
    have sb2 : (F2 ++ G).Sublist (F' ++ G) := List.Sublist.append sb (List.Sublist.refl _)
    exact h v σ' H' Z' O' F2 G rl w (nd.sublist sb2) fo ⟨u.z, u.keep, u.zn, fun a ha => u.fn a (sb2.subset ha), u.fr, u.tab⟩ (u2.msk rs sb)
  | exc c fs ρ' =>
    intro σ' H' Z' O' F' d xs q u hd e1 e2
    obtain ⟨F2, rl, sb⟩ := q.msk rs
    exact h σ' H' Z' O' F2 d xs rl (u.msk rs sb) hd e1 e2
theorem tS_end {s : Stx} {ks rs : List Bool} {D : Ends} (h : tS K E (sEnd ks rs s) D σ H) : tS K E s D σ H := by
  obtain ⟨Z, O, ρ, F, rl, n, h⟩ := h
  exact ⟨Z, O, ρ, F, rl, n, SRK.fin h⟩
theorem tS_pre {s : Stx} {ks : List Bool} {D : Ends} (h : tS K E (sPre ks s) D σ H) : tS K E s D σ H := by
  obtain ⟨Z, O, ρ, F, rl, n, h⟩ := h
  obtain ⟨F2, rl2, sb⟩ := rl.msk ks
  exact ⟨Z, O, _, F2, rl2, nov_msk ks n, SRK.from h ((TrS.refl Z O H σ ρ F).msk ks sb)⟩
end
section
variable {X : Cx} {E : XK} {st : Stmt} {ss : List Stmt} {s : Stx}
theorem s_end (ks rs : List Bool) (h : PS X st (tS X.K E s)) : PS X st (tS X.K E (sEnd ks rs s)) := h.imp fun _ _ _ q => tS_end q
theorem s_ends (ks rs : List Bool) (h : PSs X ss (tS X.K E s)) : PSs X ss (tS X.K E (sEnd ks rs s)) := h.imp fun _ _ _ q => tS_end q
theorem s_pre (ks : List Bool) (h : PS X st (tS X.K E s)) : PS X st (tS X.K E (sPre ks s)) := h.imp fun _ _ _ q => tS_pre q
end
@[simp] theorem mskE_nil {ρ : Ev} : mskE [] ρ = ρ := by cases ρ <;> rfl
@[simp] theorem mskE_nil2 {bs : List Bool} : mskE bs [] = [] := by cases bs <;> rfl
@[simp] theorem mskE_t {bs : List Bool} {x : Option R} {ρ : Ev} : mskE (true :: bs) (x :: ρ) = x :: mskE bs ρ := rfl
@[simp] theorem mskE_f0 {bs : List Bool} {ρ : Ev} : mskE (false :: bs) (none :: ρ) = none :: mskE bs ρ := rfl
@[simp] theorem mskE_fi {bs : List Bool} {d : D} {ρ : Ev} : mskE (false :: bs) (some ⟨.imm, d⟩ :: ρ) = none :: mskE bs ρ := rfl
@[simp] theorem mskE_fo {bs : List Bool} {d : D} {ρ : Ev} : mskE (false :: bs) (some ⟨.out, d⟩ :: ρ) = none :: mskE bs ρ := rfl
@[simp] theorem mskE_fw {bs : List Bool} {d : D} {ρ : Ev} : mskE (false :: bs) (some ⟨.own, d⟩ :: ρ) = none :: mskE bs ρ := rfl
@[simp] theorem mskE_fv {bs : List Bool} {d : D} {ρ : Ev} : mskE (false :: bs) (some ⟨.view, d⟩ :: ρ) = none :: mskE bs ρ := rfl
@[simp] theorem mskE_fb {bs : List Bool} {d : D} {ρ : Ev} : mskE (false :: bs) (some ⟨.brw, d⟩ :: ρ) = some ⟨.brw, d⟩ :: mskE bs ρ := rfl
section
variable {ρ : Ev}
@[simp] theorem x_end {ks rs : List Bool} {s : Stx} : sEnd ks rs s ρ = (match s ρ with
  | .bad => .bad
  | .next ρ' => .next (mskE ks ρ')
  | .ret r ρ' => .ret r (mskE rs ρ')
  | .exc c fs ρ' => .exc c fs (mskE rs ρ')) := id rfl
@[simp] theorem x_pre {ks : List Bool} {s : Stx} : sPre ks s ρ = s (mskE ks ρ) := id rfl
end
end Oz

namespace Oz
open PySem PySem.Spec L2
open PyProof.Rows hiding St
variable [WD]

/-! ### loops over frames of one shape -/
/-- one turn -/
def stp (g : Tgx) (b : Stx) (r : R) (ρ : Ev) : SR := match g r ρ with
  | none => .bad
  | some ρ1 => b ρ1
theorem x_stp {g : Tgx} {b : Stx} {r : R} {ρ : Ev} : stp g b r ρ = (match g r ρ with
  | none => .bad
  | some ρ1 => b ρ1) := rfl
theorem loop_c {g : Tgx} {b : Stx} {r : R} {rs : List R} {ρ : Ev} : loopS g b (r :: rs) ρ = (match stp g b r ρ with
  | .next ρ2 => loopS g b rs ρ2
  | x => x) := by
  rw [loop_cons]
  unfold stp
  cases g r ρ <;> rfl
/-- to the end: the frame is env of a state, the state keeps I of what was taken -/
theorem loop_st {α σ : Type} (env : σ → Ev) (I : List α → σ → Prop) {g : Tgx} {b : Stx} {item : α → R} (xs : List α) (s0 : σ) (h0 : I [] s0)
    (hs : ∀ pre x post s, xs = pre ++ x :: post → I pre s → ∃ s', stp g b (item x) (env s) = .next (env s') ∧ I (pre ++ [x]) s') :
    ∃ s', loopS g b (xs.map item) (env s0) = .next (env s') ∧ I xs s' := by
  obtain ⟨ρ', e, s', rfl, h⟩ := loop_inv (g := g) (b := b) (item := item) (xs := xs) (ρ := env s0) (fun pre ρ => ∃ s, ρ = env s ∧ I pre s) ⟨s0, rfl, h0⟩ (by
    rintro pre x post ρ hx ⟨s, rfl, hI⟩
    obtain ⟨s', e, h⟩ := hs pre x post s hx hI
    unfold stp at e
    cases q : g (item x) (env s) with
    | none => rw [q] at e; cases e
    | some ρ1 => rw [q] at e; exact ⟨ρ1, env s', rfl, e, s', rfl, h⟩)
  exact ⟨s', e, h⟩
/-- the place in a range -/
theorem pre_rng {n : Nat} {pre post : List Nat} {x : Nat} (h : List.range n = pre ++ x :: post) : x = pre.length ∧ pre.length < n := by
  have h1 := congrArg List.length h
  simp at h1
  have h2 := congrArg (fun l => l[pre.length]?) h
  simp at h2
  rw [List.getElem?_range (by omega)] at h2
  simp at h2
  exact ⟨h2.symm, by omega⟩
theorem inR_of {i : Int} (h0 : 0 ≤ i) (h : i < 1000000) : inR i = true := by
  have h1 : (-4611686018427387904 : Int) ≤ i := by omega
  have h2 : i < 4611686018427387904 := by omega
  rw [inR_eq]; simp [h1, h2]
@[simp] theorem both_ii : both .imm .imm = .imm := rfl
@[simp] theorem lfs_app {xs ys : List D} : lfs (xs ++ ys) = (lfs xs && lfs ys) := lfs_append xs ys
end Oz

namespace Oz
open PySem PySem.Spec L2
open PyProof.Rows hiding St
variable [WD]

/-! ### a second name for what stands at a key -/
open Classical in
noncomputable def ali (f : Nat → SR) : SR := if h : ∃ r, ∀ a, f a = r then Classical.choose h else .bad
theorem ali_eq {f : Nat → SR} {r : SR} (h : ∀ a, f a = r) : ali f = r := by
  have hx : ∃ r, ∀ a, f a = r := ⟨r, h⟩
  unfold ali
  rw [dif_pos hx]
  have := Classical.choose_spec hx 0
  rw [← this, h 0]
theorem ali_all {P : SR → Prop} (hb : ¬ P .bad) {f : Nat → SR} (h : P (ali f)) (a : Nat) : P (f a) := by
  unfold ali at h
  by_cases hx : ∃ r, ∀ a, f a = r
  · rw [dif_pos hx] at h
    rw [Classical.choose_spec hx a]
    exact h
  · rw [dif_neg hx] at h
    exact absurd h hb
def isPtr (a : Nat) (o : Option D) : Bool := match o with
  | some (.dict [(.bool false, .int i)]) => decide (i = (a : Int))
  | _ => false
theorem isPtr_ok {a : Nat} {o : Option D} (h : isPtr a o = true) : o = some (ptrD a) := by
  unfold isPtr at h
  split at h
  · rw [of_decide_eq_true h]; rfl
  · cases h
@[simp] theorem isPtr_self {a : Nat} : isPtr a (some (ptrD a)) = true := by simp [isPtr, ptrD]
def backE (i j : Nat) (k : Str) (a : Nat) (ρ : Ev) : Option Ev := match ρ[i]?, ρ[j]? with
  | some (some ⟨s, .dict es⟩), some (some ⟨.brw, d⟩) => if (i ≠ j ∧ isOB s = true) ∧ isDct es = true ∧ ukD (.inr k) es = true ∧ isPtr a (lkD (.inr k) es) = true ∧ nov ρ = true then some ((ρ.set j none).set i (some ⟨s, .dict (ptD (.inr k) d es)⟩)) else none
  | _, _ => none
def backS (i j : Nat) (k : Str) (a : Nat) : SR → SR
  | .bad => .bad
  | .next ρ => (match backE i j k a ρ with
    | some ρ' => .next ρ'
    | none => .bad)
  | .ret r ρ => (match backE i j k a ρ with
    | some ρ' => .ret r ρ'
    | none => .bad)
  | .exc c fs ρ => (match backE i j k a ρ with
    | some ρ' => .exc c fs ρ'
    | none => .bad)
noncomputable def sAli (i j : Nat) (k : Str) (body : Stx) : Stx := fun ρ => match plK (plN i) (pC (.str k)) ρ with
  | .ok l => (match ρ[j]?, l.d, ρ[i]? with
    | some (some ⟨.brw, _⟩), _, _ => .bad
    | some _, .list ds, some (some ⟨s, _⟩) => if i ≠ j ∧ l.i = i then ali fun a => backS i j k a (body ((ρ.set i (some ⟨s, l.put (ptrD a)⟩)).set j (some ⟨.brw, .list ds⟩))) else .bad
    | _, _, _ => .bad)
  | _ => .bad
section
variable {K : PySem.W.Frag} {E : XK} {Z O H : Hp} {σ : St} {ρ ρ' : Ev} {F : List Addr} {i j : Nat} {k : Str} {a : Addr}
theorem Own.ptr_inv {v : V} {G : List Addr} (q : Own K Z H v (ptrD a) G) : v = .ref a ∧ G = [] := by
  unfold ptrD at q
  generalize hd : PyData.dict [(PyData.bool false, PyData.int (a : Nat))] = d at q
  cases q with
  | imm r p =>
    subst hd
    generalize hd2 : PyData.dict [(PyData.bool false, PyData.int (a : Nat))] = d2 at r
    cases r with
    | ptr b =>
      unfold ptrD at hd2
      simp only [PyData.dict.injEq, List.cons.injEq, Prod.mk.injEq, PyData.int.injEq, true_and, and_true] at hd2
      have : (a : Nat) = b := Int.ofNat_inj.mp hd2
      exact ⟨by rw [this], rfl⟩
    | scr h r => cases hd2
    | dct h e r =>
      cases hd2
      have m : PyData.bool false ∈ _ := e ▸ (List.mem_map.mpr ⟨_, List.mem_cons_self, rfl⟩)
      obtain ⟨p, _, hp⟩ := List.mem_map.mp m
      cases hk : p.1 <;> rw [hk] at hp <;> cases hp
    | obj h c e r => cases hd2
    | _ => cases hd2
  | lst h r => cases hd
  | dct h e r =>
    cases hd
    have m : PyData.bool false ∈ _ := e ▸ (List.mem_map.mpr ⟨_, List.mem_cons_self, rfl⟩)
    obtain ⟨p, _, hp⟩ := List.mem_map.mp m
    cases hk : p.1 <;> rw [hk] at hp <;> cases hp
  | obj h h2 ec e r => cases hd
theorem backE_some (h : backE i j k a ρ = some ρ') : ∃ s es d, ρ[i]? = some (some ⟨s, .dict es⟩) ∧ ρ[j]? = some (some ⟨.brw, d⟩) ∧ (i ≠ j ∧ isOB s = true) ∧ isDct es = true ∧ ukD (.inr k) es = true ∧ lkD (.inr k) es = some (ptrD a) ∧ nov ρ = true ∧ ρ' = (ρ.set j none).set i (some ⟨s, .dict (ptD (.inr k) d es)⟩) := by
  unfold backE at h
  split at h
  · rename_i s es d e1 e2
    by_cases c : (i ≠ j ∧ isOB s = true) ∧ isDct es = true ∧ ukD (.inr k) es = true ∧ isPtr a (lkD (.inr k) es) = true ∧ nov ρ = true
    · rw [if_pos c] at h
      obtain ⟨c1, c2, c3, c4, c5⟩ := c
      exact ⟨s, es, d, e1, e2, c1, c2, c3, isPtr_ok c4, c5, (Option.some.inj h).symm⟩
    · rw [if_neg c] at h; cases h
  · cases h
theorem back_brw (h : backE i j k a ρ = some ρ') {n : Nat} {d : D} (hn : n ≠ j) (e : ρ[n]? = some (some (R.mk .brw d))) : ∃ d', ρ'[n]? = some (some (R.mk .brw d')) := by
  obtain ⟨s, es, d0, e1, e2, ⟨c0, _⟩, _, _, _, _, rfl⟩ := backE_some h
  by_cases ni : i = n
  · subst ni
    rw [e] at e1
    cases e1
    obtain ⟨hl, _⟩ := List.getElem?_eq_some_iff.mp e
    exact ⟨_, List.getElem?_set_self (by simpa using hl)⟩
  · exact ⟨d, by rw [List.getElem?_set_ne ni, List.getElem?_set_ne (Ne.symm hn)]; exact e⟩
theorem back_ok (rl : Rel K Z O H σ ρ F) (hj : σ[j]? = some (some (.ref a))) (h : backE i j k a ρ = some ρ') : ∃ F', Rel K Z O H σ ρ' F' ∧ nov ρ' = true ∧ ∀ c ∈ F', c ∈ F := by
  obtain ⟨s, es, d, e1, e2, ⟨c0, c1⟩, c2, c3, c4, n, rfl⟩ := backE_some h
  obtain ⟨hl, _⟩ := List.getElem?_eq_some_iff.mp e2
  obtain ⟨x, y, F1, G, F2, h1, h2, h3, h4, h5⟩ := rl.sl.focus hl
  rw [e2] at h2
  cases h2
  rw [hj] at h1
  cases h1
  have ow : Own K Z H (.ref a) d G := RepS.rep h4 nofun
  have sl := h5 (some (.ref a)) none [] Z O H (Same.refl _) (Same.refl _) (.inl fun _ _ q _ => q) (fun a _ o q _ => q) rfl
  rw [set_same hj] at sl
  have nF := rl.nd
  rw [h3] at nF
  have p0 : (F1 ++ (G ++ F2)).Perm (G ++ (F1 ++ F2)) := by
    rw [← List.append_assoc, ← List.append_assoc]
    exact List.Perm.append_right F2 List.perm_append_comm
  have nG := p0.nodup_iff.mp nF
  have n1 : nov (ρ.set j none) = true := nov_set n fun d e => by cases e
  have rl1 : Rel K Z O H σ (ρ.set j none) (F1 ++ ([] ++ F2)) := ⟨rl.g, by rw [List.nil_append]; exact (List.nodup_append.mp nG).2.1, fun c hc => rl.fo c (by
    rw [h3]
    rcases List.mem_append.mp hc with hc | hc
    · simp [hc]
    · simp at hc; simp [hc]), sl, rl.tb⟩
  have ei : (ρ.set j none)[i]? = some (some ⟨s, .dict es⟩) := by rw [List.getElem?_set_ne (Ne.symm c0)]; exact e1
  have pn : plN i (ρ.set j none) = .ok ⟨i, .dict es, id⟩ := by
    unfold plN
    rw [ei]
    cases s with
    | own => rfl
    | brw => rfl
    | _ => cases c1
  obtain ⟨v, s', A1, A2, A3, g1, pa⟩ := plN_ok rl1 pn
  obtain ⟨b, kvs, x, B1, B2, B3, g2, g3, g4, pb⟩ := pa.key rfl c2 c3 c4
  have hs : s' = s := by
    obtain ⟨d0, hd0⟩ := pa.slot
    have hd1 : (ρ.set j none)[i]? = some (some ⟨s', d0⟩) := hd0
    rw [ei] at hd1
    cases hd1
    rfl
  subst hs
  have ob : Own K Z H x (ptrD a) B2 := pb.own
  obtain ⟨rfl, rfl⟩ := ob.ptr_inv
  have sl2 := pb.back Z O H d G (Same.refl _) (Same.refl _) n1 (fun c _ o q _ => q) ow
  have eF : F1 ++ ([] ++ F2) = B1 ++ ([] ++ B3) := pb.eq
  rw [List.nil_append, List.nil_append] at eF
  have p1 : (B1 ++ (G ++ B3)).Perm (G ++ (F1 ++ F2)) := by
    rw [eF, ← List.append_assoc, ← List.append_assoc]
    exact List.Perm.append_right B3 List.perm_append_comm
  have sub : ∀ c ∈ B1 ++ (G ++ B3), c ∈ F := fun c hc => by
    have := p0.mem_iff.mpr (p1.mem_iff.mp hc)
    rw [h3]
    exact this
  refine ⟨_, ⟨rl.g, p1.nodup_iff.mpr nG, fun c hc => rl.fo c (sub c hc), sl2, rl.tb⟩, nov_set n1 fun d' e => ?_, sub⟩
  cases e
  cases c1
/-- the way in -/
theorem ali_in {l : Pl} {v : V} {s : Sx} {F1 G F2 : List Addr} {ds : List D} {y : Option R} (rl : Rel K Z O H σ ρ F) (n : nov ρ = true) (pa : PlAt K Z O H σ ρ F l v s F1 G F2) (el : l.d = .list ds) (ej : ρ[j]? = some y) (nb : ∀ d, y ≠ some ⟨.brw, d⟩) (ne : l.i ≠ j) :
    ∃ a Fa, v = .ref a ∧ Rel K Z O H (σ.set j (some v)) ((ρ.set l.i (some ⟨s, l.put (ptrD a)⟩)).set j (some ⟨.brw, .list ds⟩)) Fa ∧ nov ((ρ.set l.i (some ⟨s, l.put (ptrD a)⟩)).set j (some ⟨.brw, .list ds⟩)) = true ∧
      TrS Z O H σ ρ F Z O H (σ.set j (some v)) ((ρ.set l.i (some ⟨s, l.put (ptrD a)⟩)).set j (some ⟨.brw, .list ds⟩)) Fa := by
  have ow := pa.own
  rw [el] at ow
  obtain ⟨a, xs, G0, rfl, _, _, _⟩ := ow.lst_inv
  have sl := pa.back Z O H (ptrD a) [] (Same.refl _) (Same.refl _) n (fun c _ o q _ => q) (.imm (.ptr a) rfl)
  obtain ⟨hl, _⟩ := List.getElem?_eq_some_iff.mp ej
  obtain ⟨x, y', A, Gj, B, h1, h2, h3, h4, h5⟩ := sl.focus (i := j) (by simpa using hl)
  have sl2 := h5 (some (.ref a)) (some ⟨.brw, .list ds⟩) G Z O H (Same.refl _) (Same.refl _) (.inl fun _ _ q _ => q) (fun c _ o q _ => q) (.inl ow)
  have nF := rl.nd
  rw [pa.eq] at nF
  have p0 : (F1 ++ (G ++ F2)).Perm (G ++ (F1 ++ F2)) := by
    rw [← List.append_assoc, ← List.append_assoc]
    exact List.Perm.append_right F2 List.perm_append_comm
  have nG := p0.nodup_iff.mp nF
  rw [List.nil_append] at h3
  rw [h3] at nG
  have p1 : (A ++ (G ++ B)).Perm (G ++ (A ++ B)) := by
    rw [← List.append_assoc, ← List.append_assoc]
    exact List.Perm.append_right B List.perm_append_comm
  have sb : (G ++ (A ++ B)).Sublist (G ++ (A ++ (Gj ++ B))) := List.Sublist.append (List.Sublist.refl _) (List.Sublist.append (List.Sublist.refl _) (List.sublist_append_right _ _))
  have sub : ∀ c ∈ A ++ (G ++ B), c ∈ F := fun c hc => by
    have := sb.subset (p1.mem_iff.mp hc)
    rw [← h3] at this
    rw [pa.eq]
    exact p0.mem_iff.mpr this
  refine ⟨a, _, rfl, ⟨rl.g, p1.nodup_iff.mpr (nG.sublist sb), fun c hc => rl.fo c (sub c hc), sl2, rl.tb⟩, nov_set (nov_set n fun d e => ?_) (fun d e => by cases e), ⟨⟨Same.refl _, fun c o q _ _ => q, fun c q => .inl q, fun c hc => .inl (sub c hc), fun c h => .inr h, fun c _ h => h⟩, Same.refl _, by simp, fun m d hm => ?_, fun c q => .inl q⟩⟩
  · cases e
    rcases pa.st with z | z <;> cases z
  · have mj : m ≠ j := fun z => by
      rw [z, ej] at hm
      exact nb d (Option.some.inj hm)
    rw [List.getElem?_set_ne (Ne.symm mj), List.getElem?_set_ne (Ne.symm mj)]
    refine ⟨rfl, ?_⟩
    by_cases mi : l.i = m
    · subst mi
      obtain ⟨d0, h0⟩ := pa.slot
      rw [hm] at h0
      cases h0
      obtain ⟨hl2, _⟩ := List.getElem?_eq_some_iff.mp hm
      exact ⟨_, List.getElem?_set_self hl2⟩
    · exact ⟨d, by rw [List.getElem?_set_ne mi]; exact hm⟩
theorem SRK.back {Z1 O1 H1 : Hp} {σ1 : St} {ρ1 : Ev} {F1 : List Addr} {nx : St → Hp → Prop} {rt : VK} {r : SR} (t : TrS Z O H σ ρ F Z1 O1 H1 σ1 ρ1 F1) (hj : σ1[j]? = some (some (.ref a))) (hb : ∃ d, ρ1[j]? = some (some (R.mk .brw d)))
    (nj : ∀ d, ρ[j]? ≠ some (some (R.mk .brw d))) (h : SRK K E Z O H σ ρ F nx rt (backS i j k a r)) : SRK K E Z1 O1 H1 σ1 ρ1 F1 nx rt r := by
  obtain ⟨db, hb⟩ := hb
  have fin : ∀ {σ' : St} {H' Z' O' : Hp} {F' F'' : List Addr} {ρ' ρ'' : Ev}, backE i j k a ρ' = some ρ'' → (∀ c ∈ F'', c ∈ F') → TrS Z1 O1 H1 σ1 ρ1 F1 Z' O' H' σ' ρ' F' → TrS Z O H σ ρ F Z' O' H' σ' ρ'' F'' := fun {σ' H' Z' O' F' F'' ρ' ρ''} e sb u => by
    have w := t.trans u
    refine ⟨⟨w.tr.z, w.tr.keep, w.tr.zn, fun c hc => w.tr.fn c (sb c hc), w.tr.fr, w.tr.tab⟩, w.o, w.len, fun m d hm => ?_, w.on⟩
    obtain ⟨q1, d1, q2⟩ := w.brw m d hm
    exact ⟨q1, back_brw e (fun z => nj d (z ▸ hm)) q2⟩
  have at_ : ∀ {σ' : St} {H' Z' O' : Hp} {F' : List Addr} {ρ' : Ev}, TrS Z1 O1 H1 σ1 ρ1 F1 Z' O' H' σ' ρ' F' → σ'[j]? = some (some (.ref a)) := fun u => by rw [(u.brw j db hb).1]; exact hj
  cases r with
  | bad => exact h
  | next ρ' =>
    intro σ' H' Z' O' F' rl n u
    have h2 : SRK K E Z O H σ ρ F nx rt (match backE i j k a ρ' with | some ρ' => .next ρ' | none => .bad) := h
    cases e : backE i j k a ρ' with
    | none => rw [e] at h2; exact h2.elim
    | some ρ'' =>
      rw [e] at h2
      obtain ⟨F'', rl2, n2, sb⟩ := back_ok rl (at_ u) e
      exact h2 σ' H' Z' O' F'' rl2 n2 (fin e sb u)
  | ret r ρ' =>
    intro v σ' H' Z' O' F' G rl w nd fo u u2
    have h2 : SRK K E Z O H σ ρ F nx rt (match backE i j k a ρ' with | some ρ' => .ret r ρ' | none => .bad) := h
    cases e : backE i j k a ρ' with
    | none => rw [e] at h2; exact h2.elim
    | some ρ'' =>
      rw [e] at h2
      obtain ⟨F'', rl2, n2, sb⟩ := back_ok rl (at_ u2) e
      have w2 := fin e sb u2
      obtain ⟨d1, d2, d3⟩ := List.nodup_append.mp nd
      have u' := t.tr.trans u
      refine h2 v σ' H' Z' O' F'' G rl2 w ?_ fo ⟨u'.z, u'.keep, u'.zn, fun c hc => ?_, u'.fr, u'.tab⟩ w2
      · rw [List.nodup_append]
        exact ⟨rl2.nd, d2, fun x hx y hy => d3 x (sb x hx) y hy⟩
      · rcases List.mem_append.mp hc with hc | hc
        · exact u'.fn c (List.mem_append_left _ (sb c hc))
        · exact u'.fn c (List.mem_append_right _ hc)
  | exc c fs ρ' =>
    intro σ' H' Z' O' F' d xs rl u hd e1 e2
    have h2 : SRK K E Z O H σ ρ F nx rt (match backE i j k a ρ' with | some ρ' => .exc c fs ρ' | none => .bad) := h
    cases e : backE i j k a ρ' with
    | none => rw [e] at h2; exact h2.elim
    | some ρ'' =>
      rw [e] at h2
      obtain ⟨F'', rl2, n2, sb⟩ := back_ok rl (at_ u) e
      exact h2 σ' H' Z' O' F'' d xs rl2 (fin e sb u) hd e1 e2
end
theorem s_ali {X : Cx} {E : XK} {e : Expr} {rest : List Stmt} {body : Stx} {x k : Str} {pos pos' : Pos} (i j : Nat) (hN : X.N.Nodup) (he : PE X e (tPl X.K E (plK (plN i) (pC (.str k))))) (hr : PSs X rest (tS X.K E body)) (hi : X.N[j]? = some x := by rfl)
    (hx : Loc X.env.scope x := by first | exact Or.inl rfl | exact Or.inr rfl) (hs : swapsWith e (some (.Name x pos')) pos.line X.env = pure false := by rfl)
    (hf : X.fn x = true ∨ X.env.scope.names.lookup x = some .local := by first | exact .inl rfl | exact .inr rfl | assumption) : PSs X (.Assign [.Name x pos'] e pos :: rest) (tS X.K E (sAli i j k body)) := by
  refine (pss_cons (ps_set hN hi hx he hs hf) hr).imp fun D σ H h => ?_
  obtain ⟨Z, O, ρ, F, rl, n, h⟩ := h
  refine ⟨Z, O, ρ, F, rl, ?_⟩
  unfold sAli at h
  cases el : plK (plN i) (pC (.str k)) ρ with
  | bad => rw [el] at h; exact h.elim
  | exc c fs => rw [el] at h; exact h.elim
  | ok l =>
    rw [el] at h
    intro v H1 Z1 O1 s F1 G F2 x1 g1 pa
    have rl1 := rl.ext x1 g1
    have h0 : SRK X.K E Z O H σ ρ F D.nx D.rt (match ρ[j]?, l.d, ρ[i]? with
      | some (some ⟨.brw, _⟩), _, _ => .bad
      | some _, .list ds, some (some ⟨s, _⟩) => if i ≠ j ∧ l.i = i then ali fun a => backS i j k a (body ((ρ.set i (some ⟨s, l.put (ptrD a)⟩)).set j (some ⟨.brw, .list ds⟩))) else .bad
      | _, _, _ => .bad) := h
    split at h0
    · exact h0.elim
    · rename_i y ds s2 d2 nb ej ed ei
      by_cases c : i ≠ j ∧ l.i = i
      · rw [if_pos c] at h0
        obtain ⟨c1, c2⟩ := c
        have nj : ∀ d, ρ[j]? ≠ some (some (R.mk .brw d)) := fun d z => by
          rw [ej] at z
          cases z
          exact nb d rfl
        obtain ⟨a, Fa, rfl, rla, na, ta⟩ := ali_in rl1 n pa ed ej (fun d z => nj d (by rw [ej, z])) (by rw [c2]; exact c1)
        rw [c2] at rla na ta
        have ss : s2 = s := by
          obtain ⟨d0, hd0⟩ := pa.slot
          rw [c2, ei] at hd0
          cases hd0
          rfl
        subst ss
        have t0 : TrS Z O H σ ρ F Z1 O1 H1 σ ρ F := TrS.ext x1
        have h1 := ali_all (P := SRK X.K E Z O H σ ρ F D.nx D.rt) (fun z => z) h0 a
        have hjl : j < σ.length := by
          rw [rl1.sl.length]
          exact (List.getElem?_eq_some_iff.mp ej).1
        refine ⟨Z1, O1, _, Fa, rla, na, SRK.back (t0.trans ta) (List.getElem?_set_self hjl) ⟨_, List.getElem?_set_self ?_⟩ nj h1⟩
        rw [List.length_set]
        exact (List.getElem?_eq_some_iff.mp ej).1
      · rw [if_neg c] at h0; exact h0.elim
    · exact h0.elim
end Oz

namespace PySem
open Sem (wp)
open AutoSeq1 (wpAny_loadPart')
end PySem
namespace Oz
open PySem PySem.Spec L2
open PyProof.Rows hiding St
variable [WD]

/-! ### enumerate -/
def enR (i : Nat) (r : R) : R := ⟨r.s, .tuple [.int (i : Nat), r.d]⟩
def enumR (rs : List R) : List R := rs.mapIdx enR
section
variable {K : PySem.W.Frag} {E : XK} {Z O H Z' O' H' : Hp} {F G : List Addr}
end
def srcE (p : Px) : Src := fun ρ => (p ρ).bind fun r => if r.s = .view then .bad else (srcR r).bind fun rs => .ok (enumR rs)
def srcEc (p : Px) : Src := fun ρ => (p ρ).bind fun r => (srcR r).bind fun rs => .ok (enumR rs)
section
variable {K : PySem.W.Frag} {E : XK}
end
@[simp] theorem x_srcE {p : Px} {ρ : Ev} : srcE p ρ = ((p ρ).bind fun r => if r.s = .view then .bad else (srcR r).bind fun rs => .ok (enumR rs)) := id rfl
@[simp] theorem x_srcEc {p : Px} {ρ : Ev} : srcEc p ρ = ((p ρ).bind fun r => (srcR r).bind fun rs => .ok (enumR rs)) := id rfl
end Oz

namespace Oz
open PySem PySem.Spec L2
open PyProof.Rows hiding St
variable [WD]

/-! ### a displayed dict -/
theorem tP_mono {K : PySem.W.Frag} {E : XK} {p : Px} {σ : St} {H : Hp} {Q Q' : VK} (h : tP K E p σ H Q) (i : ∀ v H', Q v H' → Q' v H') : tP K E p σ H Q' := by
  obtain ⟨Z, O, ρ, F, rl, h⟩ := h
  refine ⟨Z, O, ρ, F, rl, ?_⟩
  cases e : p ρ with
  | bad => rw [e] at h; exact h
  | exc c fs => rw [e] at h; exact h
  | ok r => rw [e] at h; exact fun v H' Z' O' G a b c d e => i _ _ (h v H' Z' O' G a b c d e)
theorem tA_cons {K : PySem.W.Frag} {E : XK} {p : Px} {ps : List Px} {σ : St} {H : Hp} {Q : List V → Hp → Prop} (h : tA K E (p :: ps) σ H Q) : tP K E p σ H fun v H1 => tA K E ps σ H1 fun vs H2 => Q (v :: vs) H2 := by
  obtain ⟨Z, O, ρ, F, r, h⟩ := h
  refine ⟨Z, O, ρ, F, r, ?_⟩
  have h1 : match ((p ρ).bind fun r => (evs ps ρ).bind fun rs => (Res.ok (r :: rs) : Res (List R))) with
    | .bad => False
    | .ok rs => OksK K Z O H rs Q
    | .exc c fs => ExcK K E Z O H c fs := h
  cases z : p ρ with
  | bad => rw [z] at h1; exact h1.elim
  | exc c fs => rw [z] at h1; exact h1
  | ok a =>
    rw [z] at h1
    intro v H1 Z1 O1 G x1 g1 q1 nd fr
    refine ⟨Z1, O1, ρ, F, r.ext x1 g1, ?_⟩
    cases y : evs ps ρ with
    | bad => rw [y] at h1; exact h1.elim
    | exc c fs => rw [y] at h1; exact ExcK.ext h1 x1
    | ok rs =>
      rw [y] at h1
      intro vs H2 Z2 O2 G2 x2 g2 q2 nd2 fr2
      have h2 : OksK K Z O H (a :: rs) Q := h1
      refine h2 (v :: vs) H2 Z2 O2 (G ++ G2) (x1.trans0 x2) g2 (.cons (q1.ext x2) q2) (nodup_fresh nd nd2 (fun c hc => let ⟨o, z, _⟩ := q1.live c hc; ⟨o, z⟩) fun c hc => (fr2 c hc).1) fun c hc => ?_
      rcases List.mem_append.mp hc with hc | hc
      · refine ⟨(fr c hc).1.elim id (fun z => by cases z), ?_⟩
        cases z : O2 c with
        | none => rfl
        | some o =>
          obtain ⟨o1, w1, _⟩ := q1.live c hc
          rcases x2.on c (by rw [z]; simp) with y | y | y
          · exact absurd (fr c hc).2 y
          · rw [w1] at y; cases y
          · cases y
      · exact ⟨x1.h.free (fr2 c hc).1, (fr2 c hc).2⟩
def flatP : List (Px × Px) → List Px
  | [] => []
  | (k, v) :: r => k :: v :: flatP r
def flatV : List (V × V) → List V
  | [] => []
  | (k, v) :: r => k :: v :: flatV r
theorem flatV_inj : ∀ {xs ys : List (V × V)}, flatV xs = flatV ys → xs = ys
  | [], [], _ => rfl
  | (a, b) :: xs, (c, d) :: ys, h => by
    simp only [flatV, List.cons.injEq] at h
    rw [h.1, h.2.1, flatV_inj h.2.2]
  | [], _ :: _, h => by simp [flatV] at h
  | _ :: _, [], h => by simp [flatV] at h
theorem tPairs_of {K : PySem.W.Frag} {E : XK} {σ : St} : ∀ (kps : List (Px × Px)) {H : Hp} {Q : List V → Hp → Prop}, tA K E (flatP kps) σ H Q → tPairs (kps.map fun p : Px × Px => (tP K E p.1, tP K E p.2)) σ H fun ps H' => Q (flatV ps) H'
  | [], H, Q, h => by
    obtain ⟨Z, O, ρ, F, r, h⟩ := h
    have h2 : OksK K Z O H [] Q := h
    exact h2 [] H Z O [] (Ext.refl _ _ _ _) r.g .nil List.nodup_nil fun a ha => by cases ha
  | (k, v) :: kps, H, Q, h => by
    refine tP_mono (tA_cons h) fun x H1 h1 => ?_
    refine tP_mono (tA_cons h1) fun y H2 h2 => ?_
    exact tPairs_of kps h2
def pairsR : List R → Option (List (Key × D))
  | k :: v :: rs => (match keyOf k.d, ownR v, pairsR rs with
    | some k, some d, some r => some ((k, d) :: r)
    | _, _, _ => none)
  | [] => some []
  | _ => none
def pDct (ps : List Px) : Px := fun ρ => (evs ps ρ).bind fun rs => match pairsR rs with
  | some kds => if (kds.map (·.1)).Nodup ∧ kds.length ≤ 15 then .ok ⟨.own, .dict (kds.map fun p => (kd p.1, p.2))⟩ else .bad
  | none => .bad
section
variable {K : PySem.W.Frag} {Z O H : Hp}
theorem pairs_ok (g : Good Z O H) : ∀ {rs : List R} {vs : List V} {G : List Addr} {kds : List (Key × D)}, RepRs K Z O H vs rs G → pairsR rs = some kds → G.Nodup →
    ∃ kvs : List (Key × V), ∃ G', vs = flatV (kvs.map fun kv => (kV kv.1, kv.2)) ∧ kvs.map (·.1) = kds.map (·.1) ∧ Owns K Z H (kvs.map (·.2)) (kds.map (·.2)) G' ∧ G'.Nodup ∧ ∀ c ∈ G', c ∈ G
  | [], _, _, kds, .nil, e, nd => by
    cases e
    exact ⟨[], [], rfl, rfl, .nil, List.nodup_nil, fun c hc => hc⟩
  | [_], _, _, kds, .cons _ .nil, e, nd => by cases e
  | k :: v :: rs, _, _, kds, .cons (F := F1) qk (.cons (F := F2) (G := G2) qv qs), e, nd => by
    unfold pairsR at e
    cases e1 : keyOf k.d with
    | none => rw [e1] at e; cases e
    | some kk =>
      cases e2 : ownR v with
      | none => rw [e1, e2] at e; cases e
      | some d =>
        cases e3 : pairsR rs with
        | none => rw [e1, e2, e3] at e; cases e
        | some r =>
          rw [e1, e2, e3] at e
          cases e
          obtain ⟨n1, n2, n3⟩ := List.nodup_append.mp nd
          obtain ⟨n4, n5, n6⟩ := List.nodup_append.mp n2
          obtain ⟨kvs, G', h1, h2, h3, h4, h5⟩ := pairs_ok g qs e3 n5
          obtain ⟨Gv, ow, cG⟩ := ownR_ok g qv e2
          have sv : ∀ c ∈ Gv, c ∈ F2 := fun c hc => by
            rcases cG with z | z
            · rw [z] at hc; exact hc
            · rw [z] at hc; cases hc
          have nv : Gv.Nodup := by
            rcases cG with z | z
            · rw [z]; exact n4
            · rw [z]; exact List.nodup_nil
          refine ⟨(kk, _) :: kvs, Gv ++ G', ?_, ?_, .cons ow h3, ?_, fun c hc => ?_⟩
          · rw [key_kV e1 (qk.look g), h1]
            rfl
          · rw [List.map_cons, h2]; rfl
          · rw [List.nodup_append]
            exact ⟨nv, h4, fun a ha b hb => n6 a (sv a ha) b (h5 b hb)⟩
          · rcases List.mem_append.mp hc with hc | hc
            · exact List.mem_append_right _ (List.mem_append_left _ (sv c hc))
            · exact List.mem_append_right _ (List.mem_append_right _ (h5 c hc))
theorem valV_none {k : Key} : ∀ {kvs : List (Key × V)}, (∀ p ∈ kvs, p.1 ≠ k) → valV kvs k = none
  | [], _ => rfl
  | p :: kvs, h => by
    rw [valV_neg (h p (by simp))]
    exact valV_none fun q hq => h q (by simp [hq])
theorem merge_nd : ∀ {more kvs : List (Key × V)}, (kvs.map (·.1) ++ more.map (·.1)).Nodup → mergeK kvs more = kvs ++ more
  | [], kvs, _ => by rw [List.append_nil]; rfl
  | (k, v) :: more, kvs, h => by
    have hk : valV kvs k = none := valV_none fun p hp e => (List.nodup_append.mp h).2.2 p.1 (List.mem_map.mpr ⟨p, hp, rfl⟩) k (by simp) e
    show mergeK (putK kvs k v) more = _
    rw [putK_new v hk, merge_nd (by simpa using h)]
    simp
end
theorem tPairs_mono {K : PySem.W.Frag} {E : XK} {σ : St} : ∀ (kps : List (Px × Px)) {H : Hp} {A B : List (V × V) → Hp → Prop}, tPairs (kps.map fun p : Px × Px => (tP K E p.1, tP K E p.2)) σ H A → (∀ ps H', A ps H' → B ps H') → tPairs (kps.map fun p : Px × Px => (tP K E p.1, tP K E p.2)) σ H B
  | [], H, A, B, h, i => i _ _ h
  | (k, v) :: kps, H, A, B, h, i => tP_mono (show tP K E k σ H _ from h) fun x H1 h1 => tP_mono (show tP K E v σ H1 _ from h1) fun y H2 h2 => tPairs_mono kps h2 fun ps H' q => i _ _ q
theorem s_dct {X : Cx} {E : XK} {pos : Pos} {keys : List (Option Expr)} {values : List Expr} {kps : List (Px × Px)} (h : PPs X pos keys values (kps.map fun p : Px × Px => (tP X.K E p.1, tP X.K E p.2))) (hall : keys.all (·.isSome) = true := by rfl) (hl : keys.length = values.length := by rfl) (h0 : keys ≠ [] := by exact fun z => nomatch z)
    (h15 : keys.length ≤ 15 := by decide) : PE X (.Dict keys values pos) (tP X.K E (pDct (flatP kps))) := by
  refine (pe_disp h hall hl h0 h15).imp fun σ H Q h => ?_
  obtain ⟨Z, O, ρ, F, rl, h⟩ := h
  intro p np
  obtain ⟨x0, g0⟩ := ext_new rl.g (o := .dK []) np rfl
  have h1 : ResK X.K E [] Z O H ((evs (flatP kps) ρ).bind fun rs => match pairsR rs with
    | some kds => if (kds.map (·.1)).Nodup ∧ kds.length ≤ 15 then .ok ⟨.own, .dict (kds.map fun p => (kd p.1, p.2))⟩ else .bad
    | none => .bad) Q := h
  have key : tA X.K E (flatP kps) σ (upd H p (.dK [])) fun vs H2 => ∀ ps, vs = flatV ps → H2 p = some (.dK []) ∧ ∃ kvs : List (Key × V), ps = kvs.map (fun kv => (kV kv.1, kv.2)) ∧ kvs.length ≤ 15 ∧ Q (.ref p) (upd H2 p (.dK (mergeK [] kvs))) := by
    refine ⟨Z, O, ρ, F, rl.ext x0 g0, ?_⟩
    cases e : evs (flatP kps) ρ with
    | bad => rw [e] at h1; exact h1.elim
    | exc c fs => rw [e] at h1; exact ExcK.ext h1 x0
    | ok rs =>
      rw [e] at h1
      intro vs H2 Z2 O2 G x2 g2 q2 nd fr ps hps
      have hp2 : H2 p = some (.dK []) := x2.h.s _ _ upd_same nofun
      refine ⟨hp2, ?_⟩
      have h2 : ResK X.K E [] Z O H (match pairsR rs with
        | some kds => if (kds.map (·.1)).Nodup ∧ kds.length ≤ 15 then .ok ⟨.own, .dict (kds.map fun p => (kd p.1, p.2))⟩ else .bad
        | none => .bad) Q := h1
      cases e2 : pairsR rs with
      | none => rw [e2] at h2; exact h2.elim
      | some kds =>
        rw [e2] at h2
        have h3 : ResK X.K E [] Z O H (if (kds.map (·.1)).Nodup ∧ kds.length ≤ 15 then .ok ⟨.own, .dict (kds.map fun p => (kd p.1, p.2))⟩ else .bad) Q := h2
        by_cases c : (kds.map (·.1)).Nodup ∧ kds.length ≤ 15
        · rw [if_pos c] at h3
          obtain ⟨kvs, G', k1, k2, k3, k4, k5⟩ := pairs_ok g2 q2 e2 nd
          have hlen : kvs.length = kds.length := by
            have := congrArg List.length k2
            simpa using this
          have em : mergeK [] kvs = kvs := by
            have := merge_nd (more := kvs) (kvs := []) (by rw [k2]; simpa using c.1)
            simpa using this
          refine ⟨kvs, flatV_inj (hps.symm.trans k1), by rw [hlen]; exact c.2, ?_⟩
          rw [em]
          have pG : p ∉ G' := fun z => by
            have := (fr p (k5 p z)).1
            rw [upd_same] at this
            cases this
          have o2 : O2 p = none := by
            cases w : O2 p with
            | none => rfl
            | some o =>
              rcases x2.on p (by rw [w]; simp) with z | z | z
              · exact absurd (rl.g.oh.free np) z
              · rw [upd_same] at z; cases z
              · cases z
          have x3 := x0.trans0 x2
          have sm : SameT H (upd H2 p (.dK kvs)) := x3.h.updN np ⟨fun ps z => (by rw [hp2] at z; cases z), fun _ _ z => (by rw [hp2] at z; cases z)⟩
          refine h3 (.ref p) (upd H2 p (.dK kvs)) Z2 O2 (p :: G') ⟨sm, x3.z, x3.o, x3.zn, x3.on⟩ ⟨g2.zo, fun a o ha => ?_, fun a o ha f => ?_, g2.nt⟩ ?_ (List.nodup_cons.mpr ⟨pG, k4⟩) fun a ha => ?_
          · have ne : a ≠ p := fun z => by rw [z, o2] at ha; cases ha
            rw [upd_ne ne]
            exact g2.oh a o ha
          · by_cases z : a = p
            · rw [z, upd_same] at ha; cases ha; cases f
            · rw [upd_ne z] at ha; exact g2.tz a o ha f
          · refine Own.dct upd_same ?_ ?_
            · rw [List.map_map]
              show kds.map (fun p => kd p.1) = kvs.map (fun p => kd p.1)
              have e3 : kds.map (fun p => kd p.1) = (kds.map (·.1)).map kd := by rw [List.map_map]; rfl
              have e4 : kvs.map (fun p => kd p.1) = (kvs.map (·.1)).map kd := by rw [List.map_map]; rfl
              rw [e3, e4, k2]
            · rw [List.map_map]
              refine Owns.mono (Same.refl _) (fun a ha o h _ => ?_) k3
              have ne : a ≠ p := fun z => pG (by rw [← z]; exact ha)
              rw [upd_ne ne]
              exact h
          · rcases List.mem_cons.mp ha with z | z
            · rw [z]; exact ⟨.inl np, o2⟩
            · exact ⟨.inl (x0.h.free (fr a (k5 a z)).1), (fr a (k5 a z)).2⟩
        · rw [if_neg c] at h3; exact h3.elim
  have w := tPairs_of kps key
  exact tPairs_mono kps w fun ps H2 hh => hh ps rfl

/-! ### l.pop(i), its answer dropped -/
def sPop (l : Plx) (p : Px) : Stx := fun ρ => match l ρ with
  | .bad => .bad
  | .exc c fs => .exc c fs ρ
  | .ok l => (match l.d with
    | .list ds => (match p ρ with
      | .bad => .bad
      | .exc c fs => .exc c fs ρ
      | .ok r => (match r.d with
        | .int i => (match ixN ds.length i with
          | some k => if ds.length ≤ sizeLine then putE l (.list (ds.eraseIdx k)) ρ else .bad
          | none => .bad)
        | _ => .bad))
    | _ => .bad)
theorem Owns.erase {K : PySem.W.Frag} {Z H : Hp} : ∀ {xs : List V} {ds : List D} {F : List Addr} (k : Nat), Owns K Z H xs ds F → ∃ F', Owns K Z H (xs.eraseIdx k) (ds.eraseIdx k) F' ∧ F'.Sublist F
  | _, _, _, _, .nil => ⟨[], .nil, List.Sublist.refl _⟩
  | _, _, _, 0, .cons (F := F) (G := G) q s => ⟨G, s, List.sublist_append_right _ _⟩
  | _, _, _, k + 1, .cons (F := F) (G := G) q s => by
    obtain ⟨F', h1, h2⟩ := Owns.erase k s
    exact ⟨F ++ F', .cons q h1, List.Sublist.append (List.Sublist.refl _) h2⟩
section
variable {X : Cx} {E : XK} {a b : Expr} {l : Plx} {p : Px} {pos apos cpos : Pos}
theorem s_pop (hl : PE X a (tPl X.K E l)) (hp : PE X b (tP X.K E p)) (hst : starEach [b] X.env = (false, eval b X.env) :: starEach [] X.env := by rfl)
    (h : ∀ {to : TE} {t : TA}, PE X a to → PA X [b] t → PS X (.Expr (.Call (.Attribute a "pop" apos) [b] [] cpos) pos) (tDrop (tBM X.K "list" rPopAt to t))) : PS X (.Expr (.Call (.Attribute a "pop" apos) [b] [] cpos) pos) (tS X.K E (sPop l p)) := by
  refine (h hl (pa_cons hp pa_nil hst)).imp fun D σ H h => ?_
  obtain ⟨Z, O, ρ, F, rl, n, h⟩ := h
  refine ⟨Z, O, ρ, F, rl, ?_⟩
  unfold sPop at h
  cases e : l ρ with
  | bad => rw [e] at h; exact h.elim
  | exc c fs => rw [e] at h; exact SRK.exc rl h
  | ok l0 =>
    rw [e] at h
    simp only at h
    intro v H1 Z1 O1 s F1 G F2 x1 g1 pa
    have rl1 := rl.ext x1 g1
    cases el : l0.d with
    | list ds =>
      rw [el] at h
      simp only at h
      have q := pa.own
      rw [el] at q
      obtain ⟨a0, xs, G0, rfl, ha0, qs, eg⟩ := q.lst_inv
      refine ⟨.inl ⟨rfl, _, .inl (.inl ha0)⟩, Z1, O1, ρ, F, rl1, ?_⟩
      cases e2 : p ρ with
      | bad => rw [e2] at h; exact h.elim
      | exc c fs => rw [e2] at h; exact ExcK.ext (SRK.exc rl h) x1
      | ok r =>
        rw [e2] at h
        simp only at h
        intro y H2 Z2 O2 G2 x2 g2 q2 nd2 fr2
        cases er : r.d with
        | int i =>
          rw [er] at h
          simp only at h
          cases ei : ixN ds.length i with
          | none => rw [ei] at h; exact h.elim
          | some k =>
            rw [ei] at h
            simp only at h
            by_cases c : ds.length ≤ sizeLine
            · rw [if_pos c] at h
              have pa2 := pa.ext x2
              have rl2 := rl1.ext x2 g2
              have ha2 := x2.h.l ha0
              have qs2 : Owns X.K Z2 H2 xs ds G0 := Owns.mono x2.z (fun a _ o q n => x2.h.s a o q n) qs
              have lk := q2.look g2
              rw [er] at lk
              cases lk
              obtain ⟨k1, k2, k3, k4⟩ := ixN_seq ei
              have hx : k < xs.length := by rw [qs.length]; exact k2
              have hs : sizeLine = 16777216 := rfl
              obtain ⟨G', qe, sb⟩ := qs2.erase k
              have nF := rl.nd
              rw [pa2.eq, eg] at nF
              have nGG : (a0 :: G0).Nodup := (List.nodup_append.mp (List.nodup_append.mp nF).2.1).1
              have aG0 : a0 ∉ G0 := (List.nodup_cons.mp nGG).1
              have aG' : a0 ∉ G' := fun z => aG0 (sb.subset z)
              have qn : Own X.K Z2 (upd H2 a0 (.lst (xs.eraseIdx k))) (.ref a0) (.list (ds.eraseIdx k)) (a0 :: G') := by
                refine .lst upd_same (Owns.mono (Same.refl _) (fun c hc o h _ => ?_) qe)
                have ne : c ≠ a0 := fun z => aG' (by rw [← z]; exact hc)
                rw [upd_ne ne]
                exact h
              refine ⟨a0, xs, i, k, xs[k], rfl, rfl, ha2, by omega, by omega, by rw [qs.length]; exact k1, by simp [hx], ?_⟩
              exact pa2.store rl n (x1.trans0 x2) g2 (a0 := a0) (by rw [eg]; simp) rfl qn (List.nodup_cons.mpr ⟨aG', (List.nodup_cons.mp nGG).2.sublist sb⟩) (fun c hc => by
                left
                rw [eg]
                rcases List.mem_cons.mp hc with z | z
                · simp [z]
                · exact List.mem_cons_of_mem _ (sb.subset z)) h
            · rw [if_neg c] at h; exact h.elim
        | _ => rw [er] at h; exact h.elim
    | _ => rw [el] at h; exact h.elim
end
/-! ### a dict of the module -/
def pGet (kds : List (Str × D)) (p : Px) : Px := fun ρ => (p ρ).bind fun r => match r.d with
  | .str z => (match kds.lookup z with
    | some d => .ok ⟨.imm, d⟩
    | none => .bad)
  | _ => .bad
/-! ### is, is not: None or bools -/
def isF2 (a b : D) : Option D := match a, b with
  | _, .none => some (.bool (isNon a))
  | .bool x, .bool y => some (.bool (decide (x = y)))
  | _, _ => none
def isnF2 (a b : D) : Option D := match a, b with
  | _, .none => some (.bool (!isNon a))
  | .bool x, .bool y => some (.bool (!decide (x = y)))
  | _, _ => none
/-! ### isinstance -/
def tyD : D → Option String
  | .none => some "NoneType"
  | .bool _ => some "bool"
  | .int _ => some "int"
  | .str _ => some "str"
  | .list _ => some "list"
  | .tuple _ => some "tuple"
  | .dict es => if isDct es = true then some "dict" else none
/-- an instance of T? -/
def isiD (T : String) (d : D) : Option Bool := (tyD d).map fun t => t == T || (t == "bool" && T == "int")
def pIsi (T : String) (p : Px) : Px := fun ρ => (p ρ).bind fun r => match isiD T r.d with
  | some b => .ok ⟨.imm, .bool b⟩
  | none => .bad
/-! ### reckoning -/
section
variable {ρ : Ev}
@[simp] theorem x_dct {ps : List Px} : pDct ps ρ = ((evs ps ρ).bind fun rs => match pairsR rs with
  | some kds => if (kds.map (·.1)).Nodup ∧ kds.length ≤ 15 then .ok ⟨.own, .dict (kds.map fun p => (kd p.1, p.2))⟩ else .bad
  | none => .bad) := id rfl
@[simp] theorem x_pop {l : Plx} {p : Px} : sPop l p ρ = (match l ρ with
  | .bad => .bad
  | .exc c fs => .exc c fs ρ
  | .ok l => (match l.d with
    | .list ds => (match p ρ with
      | .bad => .bad
      | .exc c fs => .exc c fs ρ
      | .ok r => (match r.d with
        | .int i => (match ixN ds.length i with
          | some k => if ds.length ≤ sizeLine then putE l (.list (ds.eraseIdx k)) ρ else .bad
          | none => .bad)
        | _ => .bad))
    | _ => .bad)) := id rfl
@[simp] theorem x_get {kds : List (Str × D)} {p : Px} : pGet kds p ρ = ((p ρ).bind fun r => match r.d with
  | .str z => (match kds.lookup z with
    | some d => .ok ⟨.imm, d⟩
    | none => .bad)
  | _ => .bad) := id rfl
@[simp] theorem x_isi {T : String} {p : Px} : pIsi T p ρ = ((p ρ).bind fun r => match isiD T r.d with
  | some b => .ok ⟨.imm, .bool b⟩
  | none => .bad) := id rfl
end
@[simp] theorem flatP_nil : flatP [] = [] := rfl
@[simp] theorem flatP_cons {k v : Px} {r : List (Px × Px)} : flatP ((k, v) :: r) = k :: v :: flatP r := rfl
@[simp] theorem pairsR_nil : pairsR [] = some [] := rfl
@[simp] theorem pairsR_cons {k v : R} {rs : List R} : pairsR (k :: v :: rs) = (match keyOf k.d, ownR v, pairsR rs with
    | some k, some d, some r => some ((k, d) :: r)
    | _, _, _ => none) := rfl
@[simp] theorem x_is2N {b : D} : isF2 b .none = some (.bool (match b with | .none => true | _ => false)) := by cases b <;> rfl
@[simp] theorem x_isn2N {b : D} : isnF2 b .none = some (.bool (match b with | .none => false | _ => true)) := by cases b <;> rfl
@[simp] theorem x_is2B {a b : Bool} : isF2 (.bool a) (.bool b) = some (.bool (decide (a = b))) := rfl
@[simp] theorem x_isn2B {a b : Bool} : isnF2 (.bool a) (.bool b) = some (.bool (!decide (a = b))) := rfl
@[simp] theorem isi_none {T : String} : isiD T .none = some ("NoneType" == T || ("NoneType" == "bool" && T == "int")) := rfl
@[simp] theorem isi_bool {T : String} {b : Bool} : isiD T (.bool b) = some ("bool" == T || ("bool" == "bool" && T == "int")) := rfl
@[simp] theorem isi_int {T : String} {b : Int} : isiD T (.int b) = some ("int" == T || ("int" == "bool" && T == "int")) := rfl
@[simp] theorem isi_str {T : String} {b : Str} : isiD T (.str b) = some ("str" == T || ("str" == "bool" && T == "int")) := rfl
@[simp] theorem isi_list {T : String} {b : List D} : isiD T (.list b) = some ("list" == T || ("list" == "bool" && T == "int")) := rfl
@[simp] theorem isi_tuple {T : String} {b : List D} : isiD T (.tuple b) = some ("tuple" == T || ("tuple" == "bool" && T == "int")) := rfl
/-! ### the head's Hook: tables with text keys, and a check -/
noncomputable section
end
end Oz

namespace Oz
open PySem PySem.Spec L2
open PyProof.Rows hiding St
variable [WD]
/-! ### reckoning with dicts -/
@[simp] theorem isDct_nil : isDct [] = true := rfl
@[simp] theorem isDct_cons {a d : D} {es : List (D × D)} : isDct ((a, d) :: es) = ((keyOf a).isSome && isDct es) := rfl
@[simp] theorem ukD_nil {k : Key} : ukD k [] = true := rfl
@[simp] theorem ukD_cons {k : Key} {a d : D} {es : List (D × D)} : ukD k ((a, d) :: es) = if keyOf a = some k then noD k es else ukD k es := rfl
@[simp] theorem noD_nil {k : Key} : noD k [] = true := rfl
@[simp] theorem noD_cons {k : Key} {a d : D} {es : List (D × D)} : noD k ((a, d) :: es) = (!decide (keyOf a = some k) && noD k es) := by
  simp [noD]
@[simp] theorem lf_ptr {a : Nat} : lf (ptrD a) = false := rfl
section
variable {ρ : Ev}
theorem x_ali {i j : Nat} {k : Str} {body : Stx} : sAli i j k body ρ = (match plK (plN i) (pC (.str k)) ρ with
  | .ok l => (match ρ[j]?, l.d, ρ[i]? with
    | some (some ⟨.brw, _⟩), _, _ => .bad
    | some _, .list ds, some (some ⟨s, _⟩) => if i ≠ j ∧ l.i = i then ali fun a => backS i j k a (body ((ρ.set i (some ⟨s, l.put (ptrD a)⟩)).set j (some ⟨.brw, .list ds⟩))) else .bad
    | _, _, _ => .bad)
  | _ => .bad) := rfl
@[simp] theorem back_bad {i j a : Nat} {k : Str} : backS i j k a .bad = .bad := rfl
@[simp] theorem back_next {i j a : Nat} {k : Str} {ρ : Ev} : backS i j k a (.next ρ) = (match backE i j k a ρ with
    | some ρ' => .next ρ'
    | none => .bad) := rfl
@[simp] theorem back_ret {i j a : Nat} {k : Str} {r : R} {ρ : Ev} : backS i j k a (.ret r ρ) = (match backE i j k a ρ with
    | some ρ' => .ret r ρ'
    | none => .bad) := rfl
@[simp] theorem x_backE {i j : Nat} {k : Str} {a : Nat} : backE i j k a ρ = (match ρ[i]?, ρ[j]? with
  | some (some ⟨s, .dict es⟩), some (some ⟨.brw, d⟩) => if (i ≠ j ∧ isOB s = true) ∧ isDct es = true ∧ ukD (.inr k) es = true ∧ isPtr a (lkD (.inr k) es) = true ∧ nov ρ = true then some ((ρ.set j none).set i (some ⟨s, .dict (ptD (.inr k) d es)⟩)) else none
  | _, _ => none) := id rfl
end
@[simp] theorem ali_const {r : SR} : ali (fun _ => r) = r := ali_eq fun _ => rfl
@[simp] theorem x_int_i {i : Int} : fInt (.int i) = some (.int i) := rfl
@[simp] theorem x_int_b {b : Bool} : fInt (.bool b) = some (.int (if b then 1 else 0)) := rfl
end Oz

namespace Oz
open PySem PySem.Spec L2
open PyProof.Rows hiding St
variable [WD]

/-! ### a list of one's own, given to another slot -/
def plugs (a : Nat) (d : D) : List D → Option (List D)
  | [] => none
  | x :: xs => if isPtr a (some x) = true then some (d :: xs) else (plugs a d xs).map (x :: ·)
def plugE (a : Nat) (d : D) : List (D × D) → Option (List (D × D))
  | [] => none
  | (k, x) :: xs => if isPtr a (some x) = true then some ((k, d) :: xs) else (plugE a d xs).map ((k, x) :: ·)
def plug (a : Nat) (d : D) (t : D) : Option D := match t with
  | .list xs => (plugs a d xs).map .list
  | .dict es => (plugE a d es).map .dict
  | _ => none
def gvE (j x a : Nat) (d : D) (ρ : Ev) : Option Ev := match ρ[x]? with
  | some (some ⟨.imm, t⟩) => if isPtr a (some t) = true ∧ nov ρ = true then some ((ρ.set j none).set x (some ⟨.own, d⟩)) else none
  | some (some ⟨.own, t⟩) => (match plug a d t with
    | some t' => if nov ρ = true then some ((ρ.set j none).set x (some ⟨.own, t'⟩)) else none
    | none => none)
  | some (some ⟨.brw, t⟩) => (match plug a d t with
    | some t' => if nov ρ = true then some ((ρ.set j none).set x (some ⟨.brw, t'⟩)) else none
    | none => none)
  | _ => none
def gvS (j x a : Nat) (d : D) : SR → SR
  | .next ρ => (match gvE j x a d ρ with
    | some ρ' => .next ρ'
    | none => .bad)
  | _ => .bad
noncomputable def sGive (j x : Nat) (s : Stx) : Stx := fun ρ => match ρ[j]? with
  | some (some ⟨.own, .list ds⟩) => if j ≠ x then ali fun a => gvS j x a (.list ds) (s (ρ.set j (some ⟨.imm, ptrD a⟩))) else .bad
  | _ => .bad
theorem plugs_at {a : Nat} {d : D} : ∀ {ds ds' : List D}, plugs a d ds = some ds' → ∃ i, ds[i]? = some (ptrD a) ∧ ds' = ds.set i d
  | [], _, h => by cases h
  | x :: xs, ds', h => by
    unfold plugs at h
    by_cases c : isPtr a (some x) = true
    · rw [if_pos c] at h
      cases h
      have e := Option.some.inj (isPtr_ok c)
      exact ⟨0, by rw [e]; rfl, rfl⟩
    · rw [if_neg c] at h
      cases e : plugs a d xs with
      | none => rw [e] at h; cases h
      | some ys =>
        rw [e] at h
        cases h
        obtain ⟨i, h1, h2⟩ := plugs_at e
        exact ⟨i + 1, by simpa using h1, by rw [h2]; rfl⟩
theorem plugE_at {a : Nat} {d : D} : ∀ {es es' : List (D × D)}, plugE a d es = some es' → es'.map (·.1) = es.map (·.1) ∧ ∃ i, (es.map (·.2))[i]? = some (ptrD a) ∧ es'.map (·.2) = (es.map (·.2)).set i d
  | [], _, h => by cases h
  | (k, x) :: xs, es', h => by
    unfold plugE at h
    by_cases c : isPtr a (some x) = true
    · rw [if_pos c] at h
      cases h
      have e := Option.some.inj (isPtr_ok c)
      exact ⟨rfl, 0, by rw [e]; rfl, rfl⟩
    · rw [if_neg c] at h
      cases e : plugE a d xs with
      | none => rw [e] at h; cases h
      | some ys =>
        rw [e] at h
        cases h
        obtain ⟨h0, i, h1, h2⟩ := plugE_at e
        refine ⟨by simp [h0], i + 1, by simpa using h1, ?_⟩
        show x :: ys.map (·.2) = x :: ((xs.map (·.2)).set i d)
        rw [h2]
section
variable {K : PySem.W.Frag} {E : XK} {Z O H : Hp} {σ : St} {ρ ρ' : Ev} {F : List Addr} {j x : Nat} {a : Addr} {d : D}
theorem plugs_ok {xs : List V} {ds ds' : List D} {G Gd : List Addr} (q : Owns K Z H xs ds G) (w : Own K Z H (.ref a) d Gd) (h : plugs a d ds = some ds') : ∃ G', Owns K Z H xs ds' G' ∧ G'.Perm (G ++ Gd) := by
  obtain ⟨i, h1, rfl⟩ := plugs_at h
  obtain ⟨y, A, G0, B, e1, e2, e3, e4⟩ := q.at h1
  obtain ⟨rfl, rfl⟩ := e3.ptr_inv
  have z := e4 Z H (.ref a) d Gd (Same.refl _) (fun a _ o h _ => h) w
  rw [set_same e1] at z
  refine ⟨_, z, ?_⟩
  rw [e2, List.nil_append, List.append_assoc]
  exact List.Perm.append_left A List.perm_append_comm
theorem plug_ok {v : V} {t t' : D} {G Gd : List Addr} (q : Own K Z H v t G) (w : Own K Z H (.ref a) d Gd) (h : plug a d t = some t') : ∃ G', Own K Z H v t' G' ∧ G'.Perm (G ++ Gd) := by
  unfold plug at h
  cases t with
  | list xs =>
    simp only at h
    cases e : plugs a d xs with
    | none => rw [e] at h; cases h
    | some ys =>
      rw [e] at h
      cases h
      obtain ⟨b, vs, G0, rfl, hb, qs, rfl⟩ := q.lst_inv
      obtain ⟨G', q', pm⟩ := plugs_ok qs w e
      exact ⟨b :: G', .lst hb q', List.Perm.cons b pm⟩
  | dict es =>
    simp only at h
    cases e : plugE a d es with
    | none => rw [e] at h; cases h
    | some es' =>
      rw [e] at h
      cases h
      obtain ⟨k1, i, h1, h2⟩ := plugE_at e
      have core : ∀ {vs : List V} {G0 : List Addr}, Owns K Z H vs (es.map (·.2)) G0 → ∃ G', Owns K Z H vs (es'.map (·.2)) G' ∧ G'.Perm (G0 ++ Gd) := fun {vs G0} qs => by
        obtain ⟨y, A, G1, B, e1, e2, e3, e4⟩ := qs.at h1
        obtain ⟨rfl, rfl⟩ := e3.ptr_inv
        have z := e4 Z H (.ref a) d Gd (Same.refl _) (fun a _ o h _ => h) w
        rw [set_same e1] at z
        rw [h2]
        refine ⟨_, z, ?_⟩
        rw [e2, List.nil_append, List.append_assoc]
        exact List.Perm.append_left A List.perm_append_comm
      generalize hd : PyData.dict es = t at q
      cases q with
      | imm r p =>
        subst hd
        generalize hd2 : PyData.dict es = t2 at r
        cases r with
        | ptr b =>
          unfold ptrD at hd2
          cases hd2
          simp [plugE, isPtr] at e
        | scr _ _ => cases hd2; cases p
        | dct hh k r =>
          cases hd2
          rename_i bb kvs
          cases hkv : kvs with
          | nil => subst hkv; simp at k; subst k; cases p
          | cons y ys =>
            subst hkv
            cases es with
            | nil => simp at k
            | cons e0 es =>
              obtain ⟨k1, v1⟩ := e0
              simp only [List.map_cons, List.cons.injEq] at k
              obtain ⟨k0, _⟩ := k
              obtain ⟨y1, y2⟩ := y
              subst k0
              cases y1 <;> cases p
        | obj _ _ _ _ => cases hd2; cases p
        | _ => cases hd2
      | lst _ _ => cases hd
      | dct hh k r =>
        cases hd
        obtain ⟨G', q', pm⟩ := core r
        exact ⟨_ :: G', .dct hh (by rw [k1]; exact k) q', List.Perm.cons _ pm⟩
      | obj hh hh2 c k r =>
        cases hd
        rename_i es0 _
        cases es' with
        | nil => simp at k1
        | cons e0 es'' =>
          obtain ⟨ka, va⟩ := e0
          simp only [List.map_cons, List.cons.injEq] at k1
          obtain ⟨k1, k2⟩ := k1
          cases i with
          | zero => simp [ptrD] at h1
          | succ i =>
            simp only [List.map_cons, List.set_cons_succ, List.cons.injEq] at h2
            obtain ⟨h2, h3⟩ := h2
            have h1' : (es0.map (·.2))[i]? = some (ptrD a) := by simpa using h1
            obtain ⟨y, A, G1, B, e1, e2, e3, e4⟩ := r.at h1'
            obtain ⟨rfl, rfl⟩ := e3.ptr_inv
            have z := e4 Z H (.ref a) d Gd (Same.refl _) (fun a _ o h _ => h) w
            rw [set_same e1, ← h3] at z
            subst k1 h2
            refine ⟨_, .obj hh hh2 c (by rw [k2]; exact k) z, ?_⟩
            rw [e2, List.nil_append]
            refine List.Perm.cons _ (List.Perm.cons _ ?_)
            show (A ++ (Gd ++ B)).Perm ((A ++ B) ++ Gd)
            rw [List.append_assoc]
            exact List.Perm.append_left A List.perm_append_comm
  | _ => cases h
theorem gvE_some (h : gvE j x a d ρ = some ρ') : nov ρ = true ∧ ∃ s t s' t', ρ[x]? = some (some ⟨s, t⟩) ∧ ρ' = (ρ.set j none).set x (some ⟨s', t'⟩) ∧ ((s = .imm ∧ t = ptrD a ∧ s' = .own ∧ t' = d) ∨ ((s = .own ∨ s = .brw) ∧ s' = s ∧ plug a d t = some t')) := by
  unfold gvE at h
  split at h
  · rename_i t e
    by_cases c : isPtr a (some t) = true ∧ nov ρ = true
    · rw [if_pos c] at h
      cases h
      exact ⟨c.2, _, _, _, _, e, rfl, .inl ⟨rfl, Option.some.inj (isPtr_ok c.1), rfl, rfl⟩⟩
    · rw [if_neg c] at h; cases h
  · rename_i t e
    cases p : plug a d t with
    | none => rw [p] at h; cases h
    | some t' =>
      rw [p] at h
      simp only at h
      by_cases c : nov ρ = true
      · rw [if_pos c] at h
        cases h
        exact ⟨c, _, _, _, _, e, rfl, .inr ⟨.inl rfl, rfl, p⟩⟩
      · rw [if_neg c] at h; cases h
  · rename_i t e
    cases p : plug a d t with
    | none => rw [p] at h; cases h
    | some t' =>
      rw [p] at h
      simp only at h
      by_cases c : nov ρ = true
      · rw [if_pos c] at h
        cases h
        exact ⟨c, _, _, _, _, e, rfl, .inr ⟨.inr rfl, rfl, p⟩⟩
      · rw [if_neg c] at h; cases h
  · cases h
theorem gv_ok {G : List Addr} (rl : Rel K Z O H σ ρ F) (jx : j ≠ x) (w : Own K Z H (.ref a) d G) (nG : G.Nodup) (dj : ∀ c ∈ G, c ∉ F) (oG : ∀ c ∈ G, O c = none) (h : gvE j x a d ρ = some ρ') :
    ∃ F', Rel K Z O H σ ρ' F' ∧ nov ρ' = true ∧ (∀ c ∈ F', c ∈ F ∨ c ∈ G) ∧ ∀ (m : Nat) (dm : D), m ≠ j → ρ[m]? = some (some (R.mk .brw dm)) → ∃ d', ρ'[m]? = some (some (R.mk .brw d')) := by
  obtain ⟨n, s, t, s', t', e1, rfl, cs⟩ := gvE_some h
  obtain ⟨hlx, _⟩ := List.getElem?_eq_some_iff.mp e1
  -- slot j emptied
  have sj : ∃ F0, Rel K Z O H σ (ρ.set j none) F0 ∧ ∀ c ∈ F0, c ∈ F := by
    by_cases hl : j < ρ.length
    · obtain ⟨y, y', F1, G1, F2, h1, h2, h3, h4, h5⟩ := rl.sl.focus hl
      have sl := h5 y none [] Z O H (Same.refl _) (Same.refl _) (.inl fun _ _ q _ => q) (fun a _ o q _ => q) (by cases y <;> rfl)
      rw [set_same h1] at sl
      have sb : (F1 ++ ([] ++ F2)).Sublist F := by
        rw [h3, List.nil_append]
        exact List.Sublist.append (List.Sublist.refl _) (List.sublist_append_right _ _)
      exact ⟨_, ⟨rl.g, rl.nd.sublist sb, fun c hc => rl.fo c (sb.subset hc), sl, rl.tb⟩, fun c hc => sb.subset hc⟩
    · have : ρ.set j none = ρ := List.set_eq_of_length_le (by omega)
      rw [this]
      exact ⟨F, rl, fun c hc => hc⟩
  obtain ⟨F0, rl0, sb0⟩ := sj
  have n0 : nov (ρ.set j none) = true := nov_set n fun d e => by cases e
  have ex : (ρ.set j none)[x]? = some (some ⟨s, t⟩) := by rw [List.getElem?_set_ne jx]; exact e1
  obtain ⟨hl0, _⟩ := List.getElem?_eq_some_iff.mp ex
  obtain ⟨y, y', F1, G1, F2, h1, h2, h3, h4, h5⟩ := rl0.sl.focus hl0
  rw [ex] at h2
  cases h2
  have brw : ∀ (m : Nat) (dm : D), m ≠ j → ρ[m]? = some (some (R.mk .brw dm)) → (s' = s ∨ s ≠ .brw) → ∃ d', ((ρ.set j none).set x (some ⟨s', t'⟩))[m]? = some (some (R.mk .brw d')) := fun m dm hm hb hs => by
    by_cases mx : x = m
    · subst mx
      rw [e1] at hb
      cases hb
      rcases hs with rfl | hs
      · exact ⟨t', List.getElem?_set_self (by simpa using hlx)⟩
      · exact absurd rfl hs
    · exact ⟨dm, by rw [List.getElem?_set_ne mx, List.getElem?_set_ne (Ne.symm hm)]; exact hb⟩
  have dj0 : ∀ c ∈ G, c ∉ F0 := fun c hc z => dj c hc (sb0 c z)
  have nd0 := rl0.nd
  rw [h3] at nd0
  obtain ⟨m1, m2, m3⟩ := List.nodup_append.mp nd0
  obtain ⟨m4, m5, m6⟩ := List.nodup_append.mp m2
  have fin : ∀ {Gn : List Addr}, (∃ v, y = some v ∧ Own K Z H v t' Gn) → (s' = .own ∨ s' = .brw) → Gn.Nodup → (∀ c ∈ Gn, c ∈ G1 ∨ c ∈ G) →
      ∃ F', Rel K Z O H σ ((ρ.set j none).set x (some ⟨s', t'⟩)) F' ∧ nov ((ρ.set j none).set x (some ⟨s', t'⟩)) = true ∧ ∀ c ∈ F', c ∈ F ∨ c ∈ G := fun {Gn} hv hs nn sub => by
    obtain ⟨v, rfl, ov⟩ := hv
    have sl := h5 (some v) (some ⟨s', t'⟩) Gn Z O H (Same.refl _) (Same.refl _) (.inl fun _ _ q _ => q) (fun a _ o q _ => q) (by rcases hs with rfl | rfl <;> exact .inl ov)
    rw [set_same h1] at sl
    have inF : ∀ c ∈ F1 ++ (Gn ++ F2), c ∈ F ∨ c ∈ G := fun c hc => by
      rcases List.mem_append.mp hc with hc | hc
      · exact .inl (sb0 c (by rw [h3]; simp [hc]))
      · rcases List.mem_append.mp hc with hc | hc
        · exact (sub c hc).imp (fun z => sb0 c (by rw [h3]; simp [z])) id
        · exact .inl (sb0 c (by rw [h3]; simp [hc]))
    refine ⟨_, ⟨rl.g, ?_, fun c hc => (inF c hc).elim (rl.fo c) (oG c), sl, rl.tb⟩, nov_set n0 fun d' e => ?_, inF⟩
    · rw [List.nodup_append]
      refine ⟨m1, ?_, fun c hc b hb e => ?_⟩
      · rw [List.nodup_append]
        refine ⟨nn, m5, fun c hc b hb e => ?_⟩
        subst e
        rcases sub c hc with z | z
        · exact m6 c z c hb rfl
        · exact dj0 c z (by rw [h3]; simp [hb])
      · subst e
        rcases List.mem_append.mp hb with hb | hb
        · rcases sub c hb with z | z
          · exact m3 c hc c (List.mem_append_left _ z) rfl
          · exact dj0 c z (by rw [h3]; simp [hc])
        · exact m3 c hc c (List.mem_append_right _ hb) rfl
    · cases e
      rcases hs with z | z <;> cases z
  rcases cs with ⟨rfl, rfl, rfl, rfl⟩ | ⟨hs, rfl, hp⟩
  · cases y with
    | none => exact h4.elim
    | some v =>
      have h6 : Rep K Z v (ptrD a) ∧ G1 = [] := RepS.rep h4 nofun
      have e6 : v = .ref a := (Own.ptr_inv (H := H) (.imm h6.1 rfl)).1
      subst e6
      obtain ⟨F', r1, r2, r3⟩ := fin ⟨_, rfl, w⟩ (.inl rfl) nG fun c hc => .inr hc
      exact ⟨F', r1, r2, r3, fun m dm hm hb => brw m dm hm hb (.inr fun z => by cases z)⟩
  · cases y with
    | none => exact h4.elim
    | some v =>
      have ov : Own K Z H v t G1 := by rcases hs with rfl | rfl <;> exact RepS.rep h4 nofun
      obtain ⟨Gn, on', pm⟩ := plug_ok ov w hp
      have nn : (G1 ++ G).Nodup := by
        rw [List.nodup_append]
        exact ⟨m4, nG, fun c hc b hb e => by subst e; exact dj0 c hb (by rw [h3]; simp [hc])⟩
      obtain ⟨F', r1, r2, r3⟩ := fin ⟨v, rfl, on'⟩ hs (pm.nodup_iff.mpr nn) fun c hc => List.mem_append.mp (pm.mem_iff.mp hc)
      exact ⟨F', r1, r2, r3, fun m dm hm hb => brw m dm hm hb (.inl rfl)⟩
theorem tS_give {s : Stx} {D : Ends} (h : tS K E (sGive j x s) D σ H) : tS K E s D σ H := by
  obtain ⟨Z, O, ρ, F, rl, n, h⟩ := h
  unfold sGive at h
  split at h
  · rename_i ds ej
    by_cases jx : j ≠ x
    · rw [if_pos jx] at h
      obtain ⟨hl, _⟩ := List.getElem?_eq_some_iff.mp ej
      obtain ⟨y, y', F1, G, F2, h1, h2, h3, h4, h5⟩ := rl.sl.focus hl
      rw [ej] at h2
      cases h2
      cases y with
      | none => exact h4.elim
      | some v =>
        have ow : Own K Z H v (.list ds) G := RepS.rep h4 nofun
        obtain ⟨a, xs, G0, rfl, _, _, _⟩ := ow.lst_inv
        have h6 := ali_all (P := SRK K E Z O H σ ρ F D.nx D.rt) (fun z => z) h a
        have sl := h5 (some (.ref a)) (some ⟨.imm, ptrD a⟩) [] Z O H (Same.refl _) (Same.refl _) (.inl fun _ _ q _ => q) (fun a _ o q _ => q) (.inl ⟨.ptr a, rfl⟩)
        rw [set_same h1] at sl
        have nF := rl.nd
        rw [h3] at nF
        obtain ⟨m1, m2, m3⟩ := List.nodup_append.mp nF
        obtain ⟨m4, m5, m6⟩ := List.nodup_append.mp m2
        have sb : (F1 ++ ([] ++ F2)).Sublist F := by
          rw [h3, List.nil_append]
          exact List.Sublist.append (List.Sublist.refl _) (List.sublist_append_right _ _)
        have dG : ∀ c ∈ G, c ∉ F1 ++ ([] ++ F2) := fun c hc z => by
          rcases List.mem_append.mp z with z | z
          · exact m3 c z c (List.mem_append_left _ hc) rfl
          · exact m6 c hc c (by simpa using z) rfl
        have inF : ∀ c ∈ G, c ∈ F := fun c hc => by rw [h3]; simp [hc]
        refine ⟨Z, O, ρ.set j (some ⟨.imm, ptrD a⟩), F1 ++ ([] ++ F2), ⟨rl.g, rl.nd.sublist sb, fun c hc => rl.fo c (sb.subset hc), sl, rl.tb⟩, nov_set n (fun d e => by cases e), ?_⟩
        cases es : s (ρ.set j (some ⟨.imm, ptrD a⟩)) with
        | bad => rw [es] at h6; exact h6
        | ret r ρ' => rw [es] at h6; exact h6.elim
        | exc c fs ρ' => rw [es] at h6; exact h6.elim
        | next ρ' =>
          rw [es] at h6
          have h7 : SRK K E Z O H σ ρ F D.nx D.rt (match gvE j x a (.list ds) ρ' with | some ρ' => .next ρ' | none => .bad) := h6
          intro σ' H' Z' O' F' rl' n' tr
          cases eg : gvE j x a (.list ds) ρ' with
          | none => rw [eg] at h7; exact h7.elim
          | some ρ'' =>
            rw [eg] at h7
            have live : ∀ c ∈ G, ∃ o, H c = some o := fun c hc => let ⟨o, q, _⟩ := ow.live c hc; ⟨o, q⟩
            have ow' : Own K Z' H' (.ref a) (.list ds) G := Own.mono tr.tr.z (fun c hc o q n => tr.tr.keep c o q (dG c hc) n) ow
            have oG' : ∀ c ∈ G, O' c = none := fun c hc => by
              cases w : O' c with
              | none => rfl
              | some o =>
                obtain ⟨o1, q⟩ := live c hc
                rcases tr.on c (by rw [w]; simp) with z | z | z
                · exact absurd (rl.fo c (inF c hc)) z
                · exact absurd z (dG c hc)
                · rw [q] at z; cases z
            have dG' : ∀ c ∈ G, c ∉ F' := fun c hc z => by
              obtain ⟨o1, q⟩ := live c hc
              rcases tr.tr.fn c z with w | w
              · exact dG c hc w
              · rw [q] at w; cases w
            obtain ⟨F'', r1, r2, r3, r4⟩ := gv_ok rl' jx ow' m4 dG' oG' eg
            refine h7 σ' H' Z' O' F'' r1 r2 ⟨⟨tr.tr.z, fun c o q hn n => tr.tr.keep c o q (fun z => hn (sb.subset z)) n, fun c q => (tr.tr.zn c q).imp id fun z => z.imp (fun z => sb.subset z) id, fun c hc => ?_, fun c h => (tr.tr.fr c h).imp (fun z => sb.subset z) id, fun c hn h => tr.tr.tab c (fun z => hn (sb.subset z)) h⟩, tr.o, tr.len, fun m dm hm => ?_, fun c q => (tr.on c q).imp id fun z => z.imp (fun z => sb.subset z) id⟩
            · rcases r3 c hc with z | z
              · exact (tr.tr.fn c z).imp (fun z => sb.subset z) id
              · exact .inl (inF c z)
            · have mj : m ≠ j := fun z => by rw [z, ej] at hm; cases hm
              obtain ⟨q1, d1, q2⟩ := tr.brw m dm (by rw [List.getElem?_set_ne (Ne.symm mj)]; exact hm)
              exact ⟨q1, r4 m d1 mj q2⟩
    · rw [if_neg jx] at h; exact h.elim
  · exact h.elim
end
theorem s_give {X : Cx} {E : XK} {st : Stmt} {s : Stx} (j x : Nat) (h : PS X st (tS X.K E s)) : PS X st (tS X.K E (sGive j x s)) := h.imp fun _ _ _ q => tS_give q
/-! ### reckoning -/
@[simp] theorem isPtr_none {a : Nat} : isPtr a none = false := rfl
@[simp] theorem isPtr_list {a : Nat} {ds : List D} : isPtr a (some (.list ds)) = false := rfl
@[simp] theorem isPtr_lf {a : Nat} {d : D} (h : lf d = true) : isPtr a (some d) = false := by
  cases e : isPtr a (some d) with
  | false => rfl
  | true =>
    have := Option.some.inj (isPtr_ok e)
    subst this
    cases h
@[simp] theorem plugs_nil {a : Nat} {d : D} : plugs a d [] = none := rfl
@[simp] theorem plugs_cons {a : Nat} {d x : D} {xs : List D} : plugs a d (x :: xs) = if isPtr a (some x) = true then some (d :: xs) else (plugs a d xs).map (x :: ·) := rfl
@[simp] theorem plugE_nil {a : Nat} {d : D} : plugE a d [] = none := rfl
@[simp] theorem plugE_cons {a : Nat} {d k x : D} {xs : List (D × D)} : plugE a d ((k, x) :: xs) = if isPtr a (some x) = true then some ((k, d) :: xs) else (plugE a d xs).map ((k, x) :: ·) := rfl
@[simp] theorem plug_l {a : Nat} {d : D} {xs : List D} : plug a d (.list xs) = (plugs a d xs).map .list := rfl
@[simp] theorem plug_d {a : Nat} {d : D} {es : List (D × D)} : plug a d (.dict es) = (plugE a d es).map .dict := rfl
section
variable {ρ : Ev}
@[simp] theorem x_give {j x : Nat} {s : Stx} : sGive j x s ρ = (match ρ[j]? with
  | some (some ⟨.own, .list ds⟩) => if j ≠ x then ali fun a => gvS j x a (.list ds) (s (ρ.set j (some ⟨.imm, ptrD a⟩))) else .bad
  | _ => .bad) := id rfl
@[simp] theorem x_gvS {j x a : Nat} {d : D} : gvS j x a d (.next ρ) = (match gvE j x a d ρ with
    | some ρ' => .next ρ'
    | none => .bad) := id rfl
@[simp] theorem x_gvE {j x a : Nat} {d : D} : gvE j x a d ρ = (match ρ[x]? with
  | some (some ⟨.imm, t⟩) => if isPtr a (some t) = true ∧ nov ρ = true then some ((ρ.set j none).set x (some ⟨.own, d⟩)) else none
  | some (some ⟨.own, t⟩) => (match plug a d t with
    | some t' => if nov ρ = true then some ((ρ.set j none).set x (some ⟨.own, t'⟩)) else none
    | none => none)
  | some (some ⟨.brw, t⟩) => (match plug a d t with
    | some t' => if nov ρ = true then some ((ρ.set j none).set x (some ⟨.brw, t'⟩)) else none
    | none => none)
  | _ => none) := id rfl
end
@[simp] theorem isVal_ptr {a : Nat} : isVal (ptrD a) = true := rfl
@[simp] theorem ownR_ptr {a : Nat} : ownR ⟨.imm, ptrD a⟩ = some (ptrD a) := ownR_val rfl
/-! ### equality of data, reckoned -/
@[simp] theorem eqv_bb {x y : Bool} : PyData.eqv (.bool x) (.bool y) = (x == y) := by simp [PyData.eqv]
@[simp] theorem eqv_tt {xs ys : List D} : PyData.eqv (.tuple xs) (.tuple ys) = PyData.eqvAll xs ys := by simp [PyData.eqv]
@[simp] theorem eqv_ll {xs ys : List D} : PyData.eqv (.list xs) (.list ys) = PyData.eqvAll xs ys := by simp [PyData.eqv]
@[simp] theorem eqvAll_nn : PyData.eqvAll [] [] = true := by simp [PyData.eqvAll]
@[simp] theorem eqvAll_cn {x : D} {xs : List D} : PyData.eqvAll (x :: xs) [] = false := by simp [PyData.eqvAll]
@[simp] theorem eqvAll_nc {x : D} {xs : List D} : PyData.eqvAll [] (x :: xs) = false := by simp [PyData.eqvAll]
@[simp] theorem eqvAll_cc {x y : D} {xs ys : List D} : PyData.eqvAll (x :: xs) (y :: ys) = (PyData.eqv x y && PyData.eqvAll xs ys) := by simp [PyData.eqvAll]
theorem loop_same {α : Type} {g : Tgx} {b : Stx} {item : α → R} {ρ : Ev} : ∀ {xs : List α}, (∀ x ∈ xs, stp g b (item x) ρ = .next ρ) → loopS g b (xs.map item) ρ = .next ρ
  | [], _ => rfl
  | x :: xs, h => by
    rw [List.map_cons, loop_c, h x (by simp)]
    exact loop_same fun y hy => h y (by simp [hy])
end Oz

/-! Oz32: l.count("text"), l a list of texts. -/
namespace Oz
open PySem PySem.Spec PyProof.Rows L2
variable [WD]
/-- texts alone -/
def isSt : D → Bool
  | .str _ => true
  | _ => false
def pCnt (p : Px) (k : Str) : Px := fun ρ => (p ρ).bind fun r => match r.d with
  | .list ds => if ds.all isSt = true then .ok ⟨.imm, .int (countIn (.str k) ds)⟩ else .bad
  | _ => .bad
@[simp] theorem pCnt_eq {p : Px} {k : Str} {ρ : Ev} : pCnt p k ρ = (p ρ).bind fun r => match r.d with
  | .list ds => if ds.all isSt = true then .ok ⟨.imm, .int (countIn (.str k) ds)⟩ else .bad
  | _ => .bad := rfl
@[simp] theorem isSt_str {x : Str} : isSt (.str x) = true := rfl
end Oz

/-! Oz33: sorted(xs), xs a list of data without lists and dicts. -/
namespace Oz
open PySem PySem.Spec PyProof.Rows L2
variable [WD]
mutual
theorem lf_pl : ∀ {d : D}, lf d = true → pl d = true
  | .none, _ => rfl
  | .bool _, _ => rfl
  | .int _, _ => rfl
  | .str _, _ => rfl
  | .tuple xs, h => by
    have q : lfs xs = true := by simpa [lf] using h
    have := lfs_pls q
    simpa [pl] using this
  | .list _, h => by simp [lf] at h
  | .dict _, h => by simp [lf] at h
theorem lfs_pls : ∀ {ds : List D}, lfs ds = true → pls ds = true
  | [], _ => rfl
  | d :: ds, h => by
    have q : (_ && _) = true := h
    obtain ⟨q1, q2⟩ := Bool.and_eq_true_iff.mp q
    show (_ && _) = true
    rw [lf_pl q1, lfs_pls q2]
    rfl
end
def tupC : D → Bool
  | .tuple (_ :: _) => true
  | _ => false
def noTup : D → Bool
  | .none => false
  | .tuple _ => false
  | _ => true
def okSort (ds : List D) : Bool := lfs ds && (ds.all (fun d => ds.all fun e => PySem.W.alike d e) && ((ds.all tupC || ds.all noTup) && (ds.all (fun d => decide (d.depth ≤ 60)) && decide (ds.length ≤ sizeLine))))
def sortD (ds : List D) : List D := ds.mergeSort (PySem.W.dataLe false fun d => d)
structure OkSort (ds : List D) : Prop where
  lf : lfs ds = true
  al : PySem.W.AllAlike ds
  so : PySem.W.Sortable ds
  dp : ∀ d ∈ ds, d.depth ≤ 60
  le : ds.length ≤ sizeLine
theorem okSort_el {ds : List D} (h : okSort ds = true) : OkSort ds := by
  unfold okSort at h
  simp only [Bool.and_eq_true, Bool.or_eq_true, List.all_eq_true, decide_eq_true_eq] at h
  obtain ⟨h1, h2, h3, h4, h5⟩ := h
  refine ⟨h1, fun d hd e he => h2 d hd e he, ?_, h4, h5⟩
  rcases h3 with h3 | h3
  · refine .inl fun d hd => ?_
    have := h3 d hd
    cases d with
    | tuple xs => cases xs with
      | nil => cases this
      | cons x r => exact ⟨x, r, rfl⟩
    | _ => cases this
  · refine .inr fun d hd => ?_
    have := h3 d hd
    cases d with
    | none => cases this
    | tuple xs => cases this
    | _ => exact ⟨by simp, by simp⟩
theorem sortD_perm (ds : List D) : (sortD ds).Perm ds := List.mergeSort_perm _ _
theorem sortD_lfs {ds : List D} (h : lfs ds = true) : lfs (sortD ds) = true := by
  rw [lfs_all, List.all_eq_true] at h ⊢
  exact fun d hd => h d ((sortD_perm ds).mem_iff.mp hd)
open PySem.W in
def rSortD (K : PySem.W.Frag) : List V → Hp → VK → Prop := fun vs H Q => ∃ (a : Addr) (xs : List V) (ds : List D) (P : V → D → Prop), vs = [.ref a] ∧ SqL K H a xs ∧ DpAll K H xs ds ∧ OkSort ds ∧ EachIs P xs ds ∧
  ∀ zs l, EachIs P zs (sortD ds) → H l = none → Q (.ref l) (upd H l (.lst zs))
section
open PySem.W
theorem each_both {α β γ : Type} {R : α → β → Prop} {P : α → γ → Prop} : ∀ {xs : List α} {us : List β} {ds : List γ}, Paired R xs us → EachIs P xs ds → EachIs (fun u d => ∃ x, R x u ∧ P x d) us ds
  | _, _, _, .nil, .nil => .nil
  | _, _, _, .cons h t, .cons h2 t2 => .cons ⟨_, h, h2⟩ (each_both t t2)
theorem each_out {P : V → D → Prop} : ∀ {us : List Value} {ds : List D}, EachIs (fun u d => ∃ x, RelV x u ∧ P x d) us ds → ∃ zs, Vals zs us ∧ EachIs P zs ds
  | _, _, .nil => ⟨[], .nil, .nil⟩
  | _, _, .cons ⟨x, h1, h2⟩ t => by
    obtain ⟨zs, e1, e2⟩ := each_out t
    exact ⟨x :: zs, .cons h1 e1, .cons h2 e2⟩
theorem cr_sortD {X : Cx} (hu : X.A.units + 65 < cLine) : CallR X (.builtin "sorted") (rSortD X.K) := by
  intro pins s σ H vs us Q I r h
  obtain ⟨a, xs, ds, P, rfl, hs, hd, ok, hp, q⟩ := h
  obtain ⟨its, rv, hl, hz⟩ := I.list hs
  rw [Vals.ref1 r]
  obtain ⟨as, ra⟩ := Dp.readsAll I ds xs its hd rv
  have idm : ds.map (fun d => d) = ds := List.map_id' ds
  have er : EachIs (fun v b => ∃ as, Reads s.heap v ((fun d => d) b) as) its ds := readsAll_each (fun d => d) (by rw [idm]; exact ra)
  have e : EachIs (fun u d => ∃ x, RelV x u ∧ P x d) its ds := each_both rv hp
  refine sorted_data (enc := fun d => d) hl.isList e er (by rw [idm]; exact ok.al) (by rw [idm]; exact ok.so) ok.le (fun b hb => by have := ok.dp b hb; show X.A.units + 2 + b.depth < cLine; omega) fun out ho eo => ?_
  obtain ⟨zs, k1, k2⟩ := each_out eo
  obtain ⟨ep, he'⟩ := PyProof.Rows.sortedAll_at s.heap its out.toArray
  have hlen : zs.length ≤ sizeLine := by rw [k1.length, ho]; exact ok.le
  exact ⟨.ref _, upd H (s.heap.objs.size + 1) (.lst zs), I.laid (t' := s.toks) (fun _ _ => PyProof.Rows.sortedAll_old) (Nat.le_succ _) ⟨hlen, out, ep, k1, he'⟩, rfl, q _ _ k2 (I.hok.fresh (Nat.le_succ _))⟩
theorem each_reps {K : PySem.W.Frag} {C : Hp} : ∀ {xs : List V} {ds : List D}, Reps K C xs ds → EachIs (Rep K C) xs ds
  | _, _, .nil => .nil
  | _, _, .cons h t => .cons h (each_reps t)
theorem reps_each {K : PySem.W.Frag} {C : Hp} : ∀ {xs : List V} {ds : List D}, EachIs (Rep K C) xs ds → Reps K C xs ds
  | _, _, .nil => .nil
  | _, _, .cons h t => .cons h (reps_each t)
end
def bSorted : List R → Res R
  | [r] => (match r.d with
    | .list ds => if okSort ds = true then .ok ⟨.own, .list (sortD ds)⟩ else .bad
    | _ => .bad)
  | _ => .bad
theorem b_sorted {K : PySem.W.Frag} : BOk K (rSortD K) bSorted := fun E Z O H vs rs G Q g q nd fo k => by
  match rs, q, k with
  | [], _, k => exact k.elim
  | _ :: _ :: _, _, k => exact k.elim
  | [r], q, k =>
    obtain ⟨v, rfl, q1⟩ := q.one
    obtain ⟨s, d⟩ := r
    cases d with
    | list ds =>
      have k2 : ResK K E G Z O H (if okSort ds = true then .ok ⟨.own, .list (sortD ds)⟩ else .bad) Q := k
      by_cases c : okSort ds = true
      · rw [if_pos c] at k2
        have ok := okSort_el c
        have l1 := q1.look g
        cases l1 with
        | lst h r =>
          refine ⟨_, _, ds, Rep K H, rfl, .inl (.inl h), Reps.dp r (lfs_pls ok.lf), ok, each_reps r, fun zs l hz nl => ?_⟩
          have rz := reps_each hz
          have hl := sortD_lfs ok.lf
          have k3 : ResK K E G Z O H (dnew .view (sortD ds)) Q := by
            unfold dnew
            rw [if_pos hl]
            exact k2
          exact dnew_ok g k3 rz (fun e => by cases e) nl
      · rw [if_neg c] at k2
        exact k2.elim
    | _ => exact k.elim
@[simp] theorem x_sorted {s : Sx} {ds : List D} : bSorted [⟨s, .list ds⟩] = if okSort ds = true then .ok ⟨.own, .list (sortD ds)⟩ else .bad := id rfl
end Oz

/-! Oz34: a generator expression over a tuple; any and all of it (turned from the library's rules over texts). -/
namespace Oz
open PySem PySem.Spec PyProof.Rows L2
variable [WD]
/-! ### tables that grow -/
/-- the table has grown by code objects that hold none -/
def GrownF (ps ps' : Array Value) : Prop := (∃ more, ps' = ps ++ more) ∧ TriplesOk ps'.toList ∧ ∀ pos, nestP pos = true → codeAmong pos ps'.toList = codeAmong pos ps.toList
theorem GrownF.refl {ps : Array Value} (t : TriplesOk ps.toList) : GrownF ps ps := ⟨⟨#[], by simp⟩, t, fun _ _ => rfl⟩
theorem GrownF.trans {a b c : Array Value} (x : GrownF a b) (y : GrownF b c) : GrownF a c := by
  obtain ⟨⟨m, rfl⟩, _, x3⟩ := x
  obtain ⟨⟨n, rfl⟩, y2, y3⟩ := y
  exact ⟨⟨m ++ n, by rw [Array.append_assoc]⟩, y2, fun pos h => (y3 pos h).trans (x3 pos h)⟩
/-- H' is H, but that the table at P may have grown -/
structure TabbedQ (P : Addr) (H H' : Hp) : Prop where
  keep : ∀ b o, b ≠ P → H b = some o → H' b = some o
  tb : ∀ {n : Bool}, TabQ n H P → TabQ n H' P
  new : ∀ b o, H b = none → H' b = some o → fzn o = false
  g : GxR.TabG H' P
theorem TabbedQ.tab {P : Addr} {H H' : Hp} (t : TabbedQ P H H') (hP : GxR.TabG H P) {n : Bool} (b : Addr) (h : TabQ n H b) : TabQ n H' b := by
  by_cases e : b = P
  · subst e; exact t.tb h
  · obtain ⟨⟨ps, h1, h2⟩, h3⟩ := h
    obtain ⟨qs, q1, q2⟩ := hP
    refine ⟨⟨ps, t.keep b _ e h1, h2⟩, fun en ps' h4 pos cv hn h5 => ?_⟩
    rw [t.keep b _ e h1] at h4
    cases h4
    obtain ⟨c, P2, z1, z0, z2, z3⟩ := h3 en ps h1 pos cv hn h5
    refine ⟨c, P2, z1, z0, t.keep c _ (fun y => by rw [y, q1] at z2; cases z2) z2, ?_⟩
    by_cases y : P2 = P
    · rw [y]; exact t.g
    · obtain ⟨p3, w1, w2⟩ := z3
      exact ⟨p3, t.keep P2 _ y w1, w2⟩
section
variable {X : Cx} {pins : List (Addr × Obj)} {σ : L2.St} {H : Hp} {s : Shared}
end
end Oz

/-! Oz35: elements of a generator expression, by values: its own name, captured names, t[i], ==. -/
namespace Oz
open PySem PySem.Spec PyProof.Rows L2
variable [WD]
/-- the generator's own frame: x stands for v, which reads as d; captured names read as cap tells -/
structure GF (cenv : Env) (x : Str) (s : Shared) (v : Value) (d : D) (cap : List (Str × D)) : Prop where
  kd : cenv.scope.kind = .function
  xl : cenv.kindOf x = some .local
  ns : ∃ m, s.heap.Ns cenv.locals m ∧ m x = some v
  it : ∃ as, Reads s.heap v d as
  cp : ∀ y dy, cap.lookup y = some dy → cenv.kindOf y = some .free ∧ ∃ c u as, cenv.cells.lookup y = some c ∧ s.heap.IsCell c (some u) ∧ Reads s.heap u dy as
theorem GF.keeps {cenv : Env} {x : Str} {s s' : Shared} {v : Value} {d : D} {cap : List (Str × D)} (g : GF cenv x s v d cap) (k : Keeps s s') : GF cenv x s' v d cap := by
  obtain ⟨h', tk, rfl, k⟩ := k
  obtain ⟨m, hn, hm⟩ := g.ns
  obtain ⟨as, ra⟩ := g.it
  refine ⟨g.kd, g.xl, ⟨m, hn.keeps k, hm⟩, ⟨as, PyProof.Rows.Reads.keeps k ra⟩, fun y dy e => ?_⟩
  obtain ⟨h1, c, u, bs, h2, h3, h4⟩ := g.cp y dy e
  refine ⟨h1, c, u, bs, h2, ?_, PyProof.Rows.Reads.keeps k h4⟩
  obtain ⟨o, e1, e2⟩ := h3
  exact ⟨o, k _ _ e1, e2⟩
abbrev ElF := D → List (Str × D) → Option D
section
variable {prog : Program} {w : World} {x : Str} {pos : Pos}
end
/-! ### from the def's frame to the generator's -/
section
variable {h h' : Heap} {P : Addr}
mutual
/-- no row reads off a table of code objects -/
theorem reads_but (hP : ∃ ps, h.get? P = some { cls := .none, data := .fields ps }) (k : ∀ b o, b ≠ P → h.get? b = some o → h'.get? b = some o) : ∀ {v : Value} {d : D} {as : List Addr}, Reads h v d as → pl d = true → Reads h' v d as
  | _, _, _, .none, _ => .none
  | _, _, _, .bool b, _ => .bool b
  | _, _, _, .int i t, _ => .int i t
  | _, _, _, .str x t, _ => .str x t
  | _, _, _, .list (a := a) h1 h2 h3 h4, p => by
    have ne : a ≠ P := fun z => by
      obtain ⟨ps, hp⟩ := hP
      rw [z, hp] at h1
      cases h1
      cases h2
    exact .list (k _ _ ne h1) h2 h3 (readsAll_but hP k h4 (by simpa [pl] using p))
  | _, _, _, .tuple (a := a) h1 h2 h3 h4, p => by
    have ne : a ≠ P := fun z => by
      obtain ⟨ps, hp⟩ := hP
      rw [z, hp] at h1
      cases h1
      cases h2
    exact .tuple (k _ _ ne h1) h2 h3 (readsAll_but hP k h4 (by simpa [pl] using p))
  | _, _, _, .dict _ _ _ _ _, p => by simp [pl] at p
theorem readsAll_but (hP : ∃ ps, h.get? P = some { cls := .none, data := .fields ps }) (k : ∀ b o, b ≠ P → h.get? b = some o → h'.get? b = some o) : ∀ {vs : List Value} {ds : List D} {as : List Addr}, ReadsAll h vs ds as → pls ds = true → ReadsAll h' vs ds as
  | _, _, _, .nil, _ => .nil
  | _, _, _, .cons r t, p => by
    have q : (_ && _) = true := p
    obtain ⟨q1, q2⟩ := Bool.and_eq_true_iff.mp q
    exact .cons (reads_but hP k r q1) (readsAll_but hP k t q2)
end
end
structure CapOk (X : Cx) (scope : Scope) (cs : List (Str × Nat)) : Prop where
  ok : ∀ q ∈ cs, X.N[q.2]? = some q.1 ∧ X.env.scope.names.lookup q.1 = some .cell ∧ scope.names.lookup q.1 = some .free ∧ (q.1, NameKind.free) ∈ scope.names
end Oz

/-! Oz36: any/all of a generator expression over a tuple as an expression of the layer. -/
namespace Oz
open PySem PySem.Spec PyProof.Rows L2
variable [WD]
section
variable {X : Cx} {E : XK} {c P : Addr} {elt iter : Expr} {x : Str} {px pf pos gpos : Pos} {scope : Scope} {p : Px} {f : ElF} {cs : List (Str × Nat)} {k : Nat}
end
end Oz

/-! Oz37: the head's Hook with tables of code objects: markers at K's end name them. -/
namespace Oz
open PySem PySem.Spec L2
open PyProof.Rows hiding St
variable [WD]
/-- the law's end with tables -/
theorem lawAt {l : PySem.W.OpenLaw} {w : World} {K : PySem.W.Frag} {k n : Nat} {x : Str} {mg : Str → Option Value} {fa : Addr} {h : Heap} {fi : List He.Fa} {fn : List He.DefD} {ck : PySem.W.Frag → Bool} {dn : List (Str × List Str)} {tf : List He.Defn} (KX : K.In h) (c : SaysZ fi fn ck dn tf w h K) {fd : FuncData} {m : Fn}
    (hb : ∀ (s : Shared) (u : Value), BindsTo s fd ⟨[u], []⟩ [(x, u)]) (ht : ∀ ns : List Int, ns.length ≤ n → m [scrD (ns.map .int)] = .ok ⟨.imm, .bool true⟩ [])
    (F : ∀ base : Heap, K.In base → base.Ns mainGlobals mg → (∀ p ∈ tf, GxR.TabB base mg (He.cT K p).1 (He.cT K p).2) → FnOk l.prog w K mg base CX0 k fa fd [x] (spF K [.v] m)) : LamX.LawAtS l w K CX0 k n x mg fa h := by
  refine ⟨fd, tf.map (He.cT K), spF K [.v] m, fun p hp => ?_, fun p hp => ?_, fun p hp => ?_, hb, fun H a ns hl _ hH hS => ?_, fun base b1 b2 b3 => F base b1 b2 fun p hp => by
    have t := b3 _ (List.mem_map.mpr ⟨p, hp, rfl⟩)
    exact ⟨t.code, t.bm, t.gP⟩⟩
  · obtain ⟨q, hq, rfl⟩ := List.mem_map.mp hp
    exact c.empty q hq
  · obtain ⟨q, hq, rfl⟩ := List.mem_map.mp hp
    exact c.out q hq
  · obtain ⟨q, hq, rfl⟩ := List.mem_map.mp hp
    exact PySem.W.codeHd_of_K KX (c.hd q hq)
  · refine law_spT ht H a ns hl (fun P hP => ?_) hS
    rw [c.tk] at hP
    obtain ⟨q, hq, rfl⟩ := List.mem_map.mp hP
    have e0 := hH _ (List.mem_map.mpr ⟨q, hq, rfl⟩)
    exact ⟨⟨#[], e0, trivial⟩, fun _ ps e pos cv _ z => by
      rw [e0] at e
      cases e
      simp [codeAmong] at z⟩
end Oz

/-! Oz38: x in t within an element of a generator expression, t a tuple of ints. -/
namespace Oz
open PySem PySem.Spec PyProof.Rows L2
variable [WD]
end Oz

/-! Oz39: a def's code object by its name; the law's end with tables, K told by the Hook. -/
namespace Oz
open PySem PySem.Spec L2
open PyProof.Rows hiding St
theorem walk_ofTsE {l : PySem.W.OpenLaw} {n k : Nat} {q : Program} {loose : List Str} {XP : (Str → Option Value) → Heap → Prop} {YP : World → Heap → Prop} {d : DefRec} {x : Str}
    (hn : l.most = some n) (hn2 : n ≤ sizeLine) (hdf : d.params.defaults = []) (hr : Room k callerA)
    (F : ∀ (w : World) (mg : Str → Option Value) (fa : Addr) (h : Heap), YP w h → h.Ns mainGlobals mg → mg d.name = some (.ref fa) → ∃ K : PySem.W.Frag, K.In h ∧ LamX.LawAtS l w K CX0 k n x mg fa h) :
    PySem.W.WalkO q loose XP YP l.row.toRowW d [] (fun f vs => PySem.call f vs) := by
  refine Att.attach_callB hn hdf fun w s₀ s₁ mg mb fa o pm cd doc a vs ns G Y ho hd hcd hmg hobj hints hlen hbits hg => ?_
  obtain ⟨K, KX, fd, cs, sp, hT, nT, C, hb, hsp, hF⟩ := F w mg fa _ Y G.T.g hmg
  exact LamX.law_callTs KX G.T.g G.T.b G.T.builtins G.T.nolimit hg hT nT C G.T.bmain hobj hints (Nat.le_trans hlen hn2) hr hF hb (fun H hH hS => hsp H a ns hlen hbits hH hS) fun H e s' z => z
end Oz

/-! Oz40: Oz34 over a list. -/
namespace Oz
open PySem PySem.Spec PyProof.Rows L2
variable [WD]
section
variable {X : Cx} {pins : List (Addr × Obj)} {σ : L2.St} {H : Hp} {s : Shared}
end
/-! ### as expressions of the layer -/
section
variable {X : Cx} {E : XK} {c P : Addr} {elt iter : Expr} {x : Str} {px pf pos gpos : Pos} {scope : Scope} {p : Px} {f : ElF} {cs : List (Str × Nat)} {k : Nat}
end
end Oz

/-! Oz41: generator expressions whose element walks a generator expression of its own (turned from the library's rules for quiet elements). -/
namespace Oz
open PySem PySem.Spec PyProof.Rows L2
variable [WD]
/-- what an element may do to the generators -/
def GenStep (a b : Array GenState) : Prop := a.size ≤ b.size ∧ (AllBare a → AllBare b)
theorem GenStep.refl (a : Array GenState) : GenStep a a := ⟨Nat.le_refl _, id⟩
theorem GenStep.trans {a b c : Array GenState} (x : GenStep a b) (y : GenStep b c) : GenStep a c := ⟨Nat.le_trans x.1 y.1, fun h => y.2 (x.2 h)⟩
/-- the table at T is in order, and has grown by flat code objects -/
def TGrow (T : Addr) (h h' : Heap) : Prop := ∀ ps : Array Value, h.get? T = some (PySem.W.tabObj ps) → TriplesOk ps.toList → ∃ ps' : Array Value, h'.get? T = some (PySem.W.tabObj ps') ∧ GrownF ps ps'
theorem TGrow.refl (T : Addr) (h : Heap) : TGrow T h h := fun ps e t => ⟨ps, e, GrownF.refl t⟩
theorem TGrow.trans {T : Addr} {h h1 h2 : Heap} (a : TGrow T h h1) (b : TGrow T h1 h2) : TGrow T h h2 := fun ps e t => by
  obtain ⟨ps1, e1, g1⟩ := a ps e t
  obtain ⟨ps2, e2, g2⟩ := b ps1 e1 g1.2.1
  exact ⟨ps2, e2, g1.trans g2⟩
theorem TGrow.kept {T : Addr} {h h' : Heap} (k : ∀ o, h.get? T = some o → h'.get? T = some o) : TGrow T h h' := fun ps e t => ⟨ps, k _ e, GrownF.refl t⟩
def TOk (T : Addr) (h : Heap) : Prop := ∃ ps : Array Value, h.get? T = some (PySem.W.tabObj ps) ∧ TriplesOk ps.toList
theorem TOk.grow {T : Addr} {h h' : Heap} (x : TOk T h) (g : TGrow T h h') : TOk T h' := by
  obtain ⟨ps, e, t⟩ := x
  obtain ⟨ps', e', g'⟩ := g ps e t
  exact ⟨ps', e', g'.2.1⟩
theorem TOk.kept {T : Addr} {h h' : Heap} (x : TOk T h) (k : ∀ o, h.get? T = some o → h'.get? T = some o) : TOk T h' := x.grow (TGrow.kept k)
def SinceN (C : Addr) (wr : List Addr) (T : Addr) (s₀ s : Shared) : Prop :=
  ∃ h' tk gs, s = { s₀ with heap := h', toks := tk, gens := gs } ∧ (∀ b o, b ≠ C → b ∉ wr → s₀.heap.get? b = some o → h'.get? b = some o) ∧ TGrow T s₀.heap h' ∧ GenStep s₀.gens gs
theorem SinceN.refl (C : Addr) (wr : List Addr) (T : Addr) (s : Shared) : SinceN C wr T s s := ⟨s.heap, s.toks, s.gens, rfl, fun _ _ _ _ e => e, TGrow.refl _ _, GenStep.refl _⟩
theorem SinceN.step {C : Addr} {wr : List Addr} {T : Addr} {s₀ s : Shared} (x : SinceN C wr T s₀ s) {h' : Heap} {tk : Nat} {gs : Array GenState} (hk : ∀ b o, b ≠ C → b ∉ wr → s.heap.get? b = some o → h'.get? b = some o) (hT : TGrow T s.heap h') (hg : GenStep s.gens gs) :
    SinceN C wr T s₀ { s with heap := h', toks := tk, gens := gs } := by
  obtain ⟨h₁, tk₁, gs₁, rfl, hk₁, hT₁, hg₁⟩ := x
  exact ⟨h', tk, gs, rfl, fun b o hC hw e => hk b o hC hw (hk₁ b o hC hw e), hT₁.trans hT, hg₁.trans hg⟩
def ElStep (T : Addr) (s s' : Shared) : Prop := ∃ h' tk gs, s' = { s with heap := h', toks := tk, gens := gs } ∧ (∀ b o, b ≠ T → s.heap.get? b = some o → h'.get? b = some o) ∧ TGrow T s.heap h' ∧ GenStep s.gens gs
def tt : Nat → Bool := fun _ => true
section
variable {prog : Program} {w : World} {A : Around}
structure QuietN (prog : Program) (w : World) (cenv : Env) (x : Str) (elt : Expr) (fp wr : List Addr) (T : Addr) (P : Nat → Value → Prop) (F : Nat → Value → Prop) (href : Heap) (D : Nat) : Prop where
  elt : ∀ (A' : Around) E' i v (s₂ : Shared) m₂, A'.handled = none → A'.depth ≤ D → P i v → s₂.heap.Ns cenv.locals m₂ → m₂ x = some v → (∀ b ∈ fp, b ∉ wr → ∀ o, href.get? b = some o → s₂.heap.get? b = some o) → TOk T s₂.heap →
    wpAny (model prog w) A' (eval elt cenv) (fun y s₃ => F i y ∧ ElStep T s₂ s₃) E' s₂

structure MovN (wr : List Addr) (T : Addr) (s s' : Shared) : Prop where
  heap : ∀ b o, b ∉ wr → s.heap.get? b = some o → s'.heap.get? b = some o
  tab : TGrow T s.heap s'.heap
  gens : AllBare s.gens → AllBare s'.gens
  drawn : s'.drawn = s.drawn
  os : s'.os = s.os
theorem MovN.trans {wr : List Addr} {T : Addr} {s s' s'' : Shared} (x : MovN wr T s s') (y : MovN wr T s' s'') : MovN wr T s s'' :=
  ⟨fun b o hb e => y.heap b o hb (x.heap b o hb e), x.tab.trans y.tab, fun h => y.gens (x.gens h), y.drawn.trans x.drawn, y.os.trans x.os⟩
structure WalksN (prog : Program) (w : World) (A : Around) (I : Addr) (wr : List Addr) (T : Addr) (n : Nat) (P : Nat → Value → Prop) (St : Nat → Shared → Prop) : Prop where
  item : ∀ i (s : Shared) (Q : Option Value → Shared → Prop) (E : Value → Shared → Prop), i < n → St i s →
    (∀ v s', P i v → St (i + 1) s' → MovN wr T s s' → Q (some v) s') → wpAny (model prog w) A (pyNext (.ref I)) Q E s
  done : ∀ (s : Shared) (Q : Option Value → Shared → Prop) (E : Value → Shared → Prop), St n s → (∀ s', MovN wr T s s' → Q none s') → wpAny (model prog w) A (pyNext (.ref I)) Q E s
  self : ∀ i (s : Shared) (Q : Value → Shared → Prop) (E : Value → Shared → Prop), St i s → Q (.ref I) s → wpAny (model prog w) A (pyIter (.ref I)) Q E s
end
end Oz

/-! Oz42: any/all over Oz41's generators; a generator expression within the frame of another. -/
namespace Oz
open PySem PySem.Spec PyProof.Rows L2
variable [WD]
section
variable {prog : Program} {w : World} {A : Around} {E : Value → Shared → Prop} {s : Shared}
end
section
variable {prog : Program} {w : World} {A : Around} {R : Result → Shared → Prop} {I T : Addr} {wr : List Addr} {n : Nat} {P : Nat → Value → Prop} {St : Nat → Shared → Prop}
end
section
variable {prog : Program} {w : World} {A : Around} {E : Value → Shared → Prop} {s : Shared}
end
/-! ### the module, seen from a generator's frame -/
structure GMod (mg : Str → Option Value) (h : Heap) : Prop where
  glob : h.Ns mainGlobals mg
  bm : ∃ bm ob, mg "__builtins__" = some (.ref bm) ∧ bm ≠ builtinsNs ∧ h.get? bm = some ob ∧ ob.cls = .type "module" ∧ ob.dict = some builtinsNs ∧ ob.data = .plain
  blt : ∃ mb, h.Ns builtinsNs mb ∧ ∀ x : Str, x ≠ "__name__" → mb x = bootBuiltins x
theorem ns_ne_tab {h : Heap} {a T : Addr} {m : Str → Option Value} {ps : Array Value} (n : h.Ns a m) (e : h.get? T = some (PySem.W.tabObj ps)) : a ≠ T := fun z => by
  obtain ⟨o, es, ep, ho, hd, _⟩ := n
  rw [z, e] at ho
  cases ho
  cases hd
theorem GMod.but {mg : Str → Option Value} {h h' : Heap} {T : Addr} (M : GMod mg h) (hT : ∃ ps, h.get? T = some (PySem.W.tabObj ps)) (k : ∀ b o, b ≠ T → h.get? b = some o → h'.get? b = some o) : GMod mg h' := by
  obtain ⟨ps, hT⟩ := hT
  obtain ⟨bm, ob, e1, e2, e3, e4, e5, e6⟩ := M.bm
  obtain ⟨mb, f1, f2⟩ := M.blt
  refine ⟨M.glob.at' fun o e => k _ o (ns_ne_tab M.glob hT) e, ⟨bm, ob, e1, e2, k _ _ (fun z => ?_) e3, e4, e5, e6⟩, mb, f1.at' fun o e => k _ o (ns_ne_tab f1 hT) e, f2⟩
  rw [z, hT] at e3
  cases e3
  cases e4
/-! ### a generator expression over a tuple, in the frame of another one -/
section
variable {prog : Program} {w : World} {A : Around} {E : Value → Shared → Prop} {s : Shared} {mg : Str → Option Value}
end
end Oz

/-! Oz43: all(any(..) for x in l), any(all(..) for x in l) as expressions of the layer. -/
namespace Oz
open PySem PySem.Spec PyProof.Rows L2
variable [WD]
/-! ### rows read over a heap in which tables may have changed -/
section
variable {h h' : Heap}
mutual
theorem reads_nt (k : ∀ b o, o.cls ≠ .none → h.get? b = some o → h'.get? b = some o) : ∀ {v : Value} {d : D} {as : List Addr}, Reads h v d as → pl d = true → Reads h' v d as
  | _, _, _, .none, _ => .none
  | _, _, _, .bool b, _ => .bool b
  | _, _, _, .int i t, _ => .int i t
  | _, _, _, .str x t, _ => .str x t
  | _, _, _, .list (a := a) h1 h2 h3 h4, p => .list (k _ _ (by rw [h2]; nofun) h1) h2 h3 (readsAll_nt k h4 (by simpa [pl] using p))
  | _, _, _, .tuple (a := a) h1 h2 h3 h4, p => .tuple (k _ _ (by rw [h2]; nofun) h1) h2 h3 (readsAll_nt k h4 (by simpa [pl] using p))
  | _, _, _, .dict _ _ _ _ _, p => by simp [pl] at p
theorem readsAll_nt (k : ∀ b o, o.cls ≠ .none → h.get? b = some o → h'.get? b = some o) : ∀ {vs : List Value} {ds : List D} {as : List Addr}, ReadsAll h vs ds as → pls ds = true → ReadsAll h' vs ds as
  | _, _, _, .nil, _ => .nil
  | _, _, _, .cons r t, p => by
    have q : (_ && _) = true := p
    obtain ⟨q1, q2⟩ := Bool.and_eq_true_iff.mp q
    exact .cons (reads_nt k r q1) (readsAll_nt k t q2)
end
end
theorem GMod.nt {mg : Str → Option Value} {h h' : Heap} (M : GMod mg h) (k : ∀ b o, o.cls ≠ .none → h.get? b = some o → h'.get? b = some o) (kd : ∀ b o, (∃ es ep, o.data = .dict es ep) → h.get? b = some o → h'.get? b = some o) : GMod mg h' := by
  obtain ⟨bm, ob, e1, e2, e3, e4, e5, e6⟩ := M.bm
  obtain ⟨mb, f1, f2⟩ := M.blt
  have nk : ∀ {a : Addr} {m : Str → Option Value}, h.Ns a m → h'.Ns a m := fun {a m} n => by
    obtain ⟨o, es, ep, ho, hd, r⟩ := n
    exact ⟨o, es, ep, kd _ _ ⟨es, ep, hd⟩ ho, hd, r⟩
  exact ⟨nk M.glob, ⟨bm, ob, e1, e2, k _ _ (by rw [e4]; nofun) e3, e4, e5, e6⟩, mb, nk f1, f2⟩
/-! ### an element that is any or all of a generator expression over a tuple -/
structure GC (mg : Str → Option Value) (cenv : Env) (s : Shared) (c T : Addr) : Prop where
  code : cenv.code = .ref c
  glob : cenv.globals = mainGlobals
  blt : cenv.builtins = builtinsNs
  hd : PySem.W.CodeHd s.heap c T
  tok : TOk T s.heap
  mod : GMod mg s.heap
  lim : s.heap.NoLimit
section
variable {prog : Program} {w : World} {mg : Str → Option Value} {scope scope2 : Scope} {x y : Str} {fs : List Str} {elt2 iter2 : Expr} {py pf pos gpos : Pos} {g f2 : ElF}
end
end Oz

/-! Oz44: the outer generator expression over a list, its table of code objects tracked. -/
namespace Oz
open PySem PySem.Spec PyProof.Rows L2
variable [WD]
section
variable {X : Cx} {pins : List (Addr × Obj)} {σ : L2.St} {H : Hp} {s : Shared}
end
/-! ### as expressions of the layer -/
section
variable {X : Cx} {E : XK} {c P : Addr} {elt iter : Expr} {x : Str} {px pf pos gpos : Pos} {scope : Scope} {p : Px} {f : ElF} {cs : List (Str × Nat)} {k : Nat}
end
end Oz

/-! Oz45: repr of a tuple, where no repr is under way. -/
namespace Oz
open PySem PySem.Spec PyProof.Rows L2
variable [WD]
def okShow (d : D) : Bool := (match d with
  | .tuple _ => true
  | _ => false) && (pl d && (d.showable && (!d.hasDict && (decide (d.depth ≤ 60) && (d.leavesShort 13 && decide (d.bulk ≤ 1048576))))))
structure OkShow (d : D) : Prop where
  tu : ∃ ds, d = .tuple ds
  pl : pl d = true
  sh : d.showable = true
  nd : d.hasDict = false
  dp : d.depth ≤ 60
  sz : d.shown.length ≤ sizeLine
def bRepr : List R → Res R
  | [r] => if okShow r.d = true then .ok ⟨.imm, .str r.d.shown⟩ else .bad
  | _ => .bad
@[simp] theorem x_repr {r : R} : bRepr [r] = if okShow r.d = true then .ok ⟨.imm, .str r.d.shown⟩ else .bad := id rfl
end Oz

/-! Oz46: the law's end where the law's own body is to know that no repr is under way (turned from the library's end with tables). -/
namespace Oz
open PySem PySem.Spec PyProof.Rows L2
variable [WD]
/-- the promise of a def where no repr is under way -/
structure FnG (P : Program) (w : World) (K : PySem.W.Frag) (mg : Str → Option Value) (base : Heap) (CX : CXT) (k : Nat) (f : Addr) (fd : FuncData) (ps : List Str) (sp : Sp) : Prop where
  len : ∀ vs H Q E, sp vs H Q E → vs.length = ps.length
  run : ∀ (A : Around) (outer : List Env) (s : Shared) (H : Hp) (args : PySem.Args) (us : List Value) (vs : List V) (Q : VK) (E : XK), A.guards = some [] → Room k A → Env0 P w K mg base A outer s H → BindsTo s fd args (ps.zip us) → Vals vs us → sp vs H Q E →
    codeAny (model P w) A (.call (.ref f) args) (CR CX outer P w H s Q E) s
section
variable {P : Program} {w : World} {K : PySem.W.Frag} {mg : Str → Option Value} {base : Heap} {x qual : Str} {params : Arguments} {body : List Stmt} {scope : Scope} {f : Addr} {fd : FuncData}
end
end Oz

/-! Oz47: dicts with tuple keys: `found = {}`, `found[key] = True`. -/
namespace Oz
open PySem PySem.Spec L2
open PyProof.Rows hiding St
variable [WD]

/-! ### the frame with a table -/
section
variable {K : PySem.W.Frag} {E : XK} {Z O H Z1 O1 H1 : Hp} {σ : St} {ρ ρ' : Ev} {F G : List Addr} {v : V} {r : R} {i : Nat}
theorem TabR.cell {es : List D} {d : D} (h : RepS K Z O H v ⟨.tab, d⟩ G) (e : d = .list es) : ∃ a xs, v = .ref a ∧ H a = some (.ext (tdO a xs)) ∧ KeysAt K Z xs es ∧ G = [a] := by
  rcases h with h | ⟨_, a, xs, es', e1, e2, h, k, e3⟩
  · exact h.elim
  · have : es' = es := by
      have := e2.symm.trans e
      injection this
    subst this
    exact ⟨a, xs, e1, h, k, e3⟩
end

/-! ### found = {} -/
section
variable {X : Cx} {E : XK} {x : Str} {pos pos' p' : Pos}
end
end Oz

/-! Oz48: `found[key] = True`. -/
namespace Oz
open PySem PySem.Spec L2
open PyProof.Rows hiding St
variable [WD]
/-- how a table grows -/
def tput (xs : List (NestedKey × Addr)) (k : NestedKey) (b : Addr) : List (NestedKey × Addr) := if k ∈ xs.map (·.1) then xs else xs ++ [(k, b)]
section
variable {X : Cx} {E : XK} {o ix value : Expr} {pos pos' : Pos} {to ti : TE}
end
/-- the key at the data's side -/
def keyT : D → Option (List NestedKey)
  | .tuple ds => keysB ds
  | _ => none
def tabPut (d : D) (es : List D) : List D := if keyT d ∈ es.map keyT then es else es ++ [d]
theorem KeysAt.put {K : PySem.W.Frag} {Z : Hp} {b : Addr} {ds : List D} {ks : List NestedKey} (e : keysB ds = some ks) (r : Rep K Z (.ref b) (.tuple ds)) {xs : List (NestedKey × Addr)} {es : List D} (h : KeysAt K Z xs es) : KeysAt K Z (tput xs (.tup ks) b) (tabPut (.tuple ds) es) := by
  have key : ∀ {xs : List (NestedKey × Addr)} {es : List D}, KeysAt K Z xs es → (NestedKey.tup ks ∈ xs.map (·.1) ↔ keyT (.tuple ds) ∈ es.map keyT) := by
    intro xs es h
    induction h with
    | nil => simp
    | cons h1 _ _ ih =>
      simp only [List.map_cons, List.mem_cons, ih]
      show _ ∨ _ ↔ keysB ds = keysB _ ∨ _
      rw [e, h1]
      simp
  have app : ∀ {xs : List (NestedKey × Addr)} {es : List D}, KeysAt K Z xs es → KeysAt K Z (xs ++ [(.tup ks, b)]) (es ++ [.tuple ds]) := by
    intro xs es h
    induction h with
    | nil => exact .cons e r .nil
    | cons h1 h2 _ ih => exact .cons h1 h2 ih
  unfold tput tabPut
  by_cases c : NestedKey.tup ks ∈ xs.map (·.1)
  · rw [if_pos c, if_pos ((key h).mp c)]; exact h
  · rw [if_neg c, if_neg (fun z => c ((key h).mpr z))]; exact app h
theorem KeysAt.length {K : PySem.W.Frag} {Z : Hp} : ∀ {xs : List (NestedKey × Addr)} {es : List D}, KeysAt K Z xs es → xs.length = es.length
  | _, _, .nil => rfl
  | _, _, .cons _ _ t => congrArg (· + 1) t.length
section
variable {X : Cx} {E : XK} {x : Str} {pos pos' p' p0 : Pos} {ix : Expr} {p : Px} {j : Tok}
end
end Oz

/-! Oz49: sorted(found, key=f): the keys of a table, by what a def says of them. -/
namespace Oz
open PySem PySem.Spec L2 PySem.Calls PySem.W
open PyProof.Rows hiding St
variable [WD]
noncomputable section
def keyF (fn : Fn) (e : D) : D := match fn [e] with
  | .ok ⟨.imm, k⟩ [] => k
  | _ => .none
def keyOk (fn : Fn) (e : D) : Bool := match fn [e] with
  | .ok ⟨.imm, _⟩ [] => true
  | _ => false
def okSortK (fn : Fn) (es : List D) : Bool := es.all (keyOk fn) && (lfs es && okSort (es.map (keyF fn)))
def sortKD (fn : Fn) (es : List D) : List D := es.mergeSort (PySem.W.dataLe false (keyF fn))
section
variable {X : Cx} {pins : List (Addr × Obj)} {σ : St} {Z O H : Hp} {s : Shared} {k : Nat} {f B kS : Addr} {fd : FuncData} {ps : List Str} {fn : Fn}
end
/-- between two calls of the key -/
structure JK (X : Cx) (pins : List (Addr × Obj)) (σ : St) (Z O H : Hp) (B kS : Addr) (e1 : Nat) (ks : List D) (s' : Shared) (H' Z' O' : Hp) (kA : Array Value) (e : Nat) : Prop where
  I : Inv X pins σ H' s'
  ex : Ext [] Z O H Z' O' H'
  g : Good Z' O' H'
  tb : Tabs X.K H'
  nB : H' B = none
  nS : H' kS = none
  gS : s'.heap.get? kS = some (seqObj "list" kA e)
  gB : s'.heap.get? B = some (seqObj "list" #[] e1)
  ks : EachIs (fun u k => ∃ x, RelV x u ∧ Rep X.K Z' x k) kA.toList ks
section
variable {X : Cx} {pins : List (Addr × Obj)} {σ : St} {Z O H : Hp} {s : Shared} {k : Nat} {f B kS : Addr} {fd : FuncData} {ps : List Str} {fn : Fn} {e1 : Nat} {vs : List Value} {es : List D} {P : PySem.Fin → Shared → Prop} {E : Value → Shared → Prop}
end
end
end Oz

/-! Oz50: sorted(found, key=f), as an expression. -/
namespace Oz
open PySem PySem.Spec L2 PySem.Calls PySem.W
open PyProof.Rows hiding St
variable [WD]
noncomputable section
section
variable {X : Cx} {pins : List (Addr × Obj)} {σ : St} {Z O H : Hp} {s : Shared} {k : Nat} {f B : Addr} {fd : FuncData} {ps : List Str} {fn : Fn} {n : Nat} {vs : List Value} {es : List D} {P : PySem.Fin → Shared → Prop} {E : Value → Shared → Prop}
end
end
section
variable {X : Cx} {E : XK} {k k' : Nat} {fn : Fn} {ps : List Str} {x y : Str} {p pos p0 p1 p2 kpos : Pos}
end
end Oz

/-! Oz51: a method of a thing in a place (self.pool.put(x)) that the call changes. -/
namespace Oz
open PySem PySem.Spec L2
open PyProof.Rows hiding St
variable [WD]
def nvw (r : R) : Bool := match r.s with
  | .view => false
  | _ => true
def mOutP (l : Pl) (fr : FR) (ρ : Ev) : SR := match ρ[l.i]? with
  | some (some ⟨s, _⟩) => (match fr with
    | .ok r [d'] => .ret r (ρ.set l.i (some ⟨s, l.put d'⟩))
    | .exc c fs [d'] => .exc c fs (ρ.set l.i (some ⟨s, l.put d'⟩))
    | _ => .bad)
  | _ => .bad
def mMethP (c mn : Str) (f : Fn) (md : List Md) (l : Plx) (ps : List Px) : Stx := fun ρ => match l ρ with
  | .bad => .bad
  | .exc c fs => .exc c fs ρ
  | .ok l => (match unO c l.d with
    | none => .bad
    | some es => if lkD (.inr mn) es = none then (match evs ps ρ with
      | .bad => .bad
      | .exc c fs => .exc c fs ρ
      | .ok rs => if rs.all nvw = true then (match pargs md rs with
        | some ds => mOutP l (f (l.d :: ds)) ρ
        | none => .bad) else .bad) else .bad)
section
variable {K : PySem.W.Frag} {E : XK}
end
section
variable {X : Cx} {E : XK} {CX : CXT} {k k' : Nat} {ps : List Str} {md : List Md} {g : Fn} {c m x : Str} {p pos apos : Pos} {e o : Expr} {es : List Expr} {qs : List Px} {l : Plx}
end
/-! ### reckoning -/
section
variable {ρ : Ev}
@[simp] theorem x_nvw {s : Sx} {d : D} : nvw ⟨s, d⟩ = (match s with | .view => false | _ => true) := id rfl
@[simp] theorem x_mOutP {i : Nat} {d : D} {pt : D → D} {fr : FR} : mOutP ⟨i, d, pt⟩ fr ρ = (match ρ[i]? with
  | some (some ⟨s, _⟩) => (match fr with
    | .ok r [d'] => .ret r (ρ.set i (some ⟨s, pt d'⟩))
    | .exc c fs [d'] => .exc c fs (ρ.set i (some ⟨s, pt d'⟩))
    | _ => .bad)
  | _ => .bad) := id rfl
@[simp] theorem x_mMethP {c mn : Str} {f : Fn} {md : List Md} {l : Plx} {ps : List Px} : mMethP c mn f md l ps ρ = (match l ρ with
  | .bad => .bad
  | .exc c fs => .exc c fs ρ
  | .ok l => (match unO c l.d with
    | none => .bad
    | some es => if lkD (.inr mn) es = none then (match evs ps ρ with
      | .bad => .bad
      | .exc c fs => .exc c fs ρ
      | .ok rs => if rs.all nvw = true then (match pargs md rs with
        | some ds => mOutP l (f (l.d :: ds)) ρ
        | none => .bad) else .bad) else .bad)) := id rfl
end
end Oz

/-! Oz52: a, b = p, q with plain local names. -/
namespace Oz
open PySem PySem.Spec L2
open PyProof.Rows hiding St
variable [WD]
def sPar (i j : Nat) (p q : Px) : Stx := fun ρ => match evs [p, q] ρ with
  | .bad => .bad
  | .exc c fs => .exc c fs ρ
  | .ok [a, b] => (match setS i a ρ with
    | some ρ1 => (match setS j b ρ1 with
      | some ρ2 => .next ρ2
      | none => .bad)
    | none => .bad)
  | .ok _ => .bad
@[simp] theorem x_par {i j : Nat} {p q : Px} {ρ : Ev} : sPar i j p q ρ = (match evs [p, q] ρ with
  | .bad => .bad
  | .exc c fs => .exc c fs ρ
  | .ok [a, b] => (match setS i a ρ with
    | some ρ1 => (match setS j b ρ1 with
      | some ρ2 => .next ρ2
      | none => .bad)
    | none => .bad)
  | .ok _ => .bad) := id rfl
end Oz

/-! Oz53: [e for x in xs if t for y in ys if u]. -/
namespace Oz
open PySem PySem.Spec L2
open PyProof.Rows hiding St
variable [WD]
section
variable {K : PySem.W.Frag} {E : XK}
end
def comp2E (vs1 : List Nat) (g : Tgx) (t : Tx) (src1 : Src) (g1 : Tgx) (t1 : Tx) (p : Px) (ρ0 : Ev) : List R → Option (List R)
  | [] => some []
  | r :: rs => (match g r ρ0 with
    | none => none
    | some ρ1 => if nov ρ1 = true then (match t ρ1 with
      | .ok b => if b = true then (match src1 ρ1 with
        | .ok rs1 => (match compE g1 t1 p (wipeE ρ1 vs1) rs1 with
          | some ys => (match comp2E vs1 g t src1 g1 t1 p ρ0 rs with
            | some zs => some (ys ++ zs)
            | none => none)
          | none => none)
        | _ => none) else comp2E vs1 g t src1 g1 t1 p ρ0 rs
      | _ => none) else none)
def pComp2 (vs : List Nat) (src : Src) (g : Tgx) (t : Tx) (vs1 : List Nat) (src1 : Src) (g1 : Tgx) (t1 : Tx) (p : Px) : Px := fun ρ => if nov ρ = true then (src ρ).bind fun rs => match comp2E vs1 g t src1 g1 t1 p (wipeE ρ vs) rs with
  | some ys => compR ys
  | none => .bad else .bad
section
variable {K : PySem.W.Frag} {E : XK}
end
end Oz

/-! Oz54: rules for two fors; l.extend(m); max, min of a list of ints; a < b < c of ints; what is never reached. -/
namespace Oz
open PySem PySem.Spec L2
open PyProof.Rows hiding St
variable [WD]
/-! ### two fors -/
section
variable {X : Cx} {E : XK} {elt tg iter tg1 iter1 : Expr} {ifs ifs1 : List Expr} {scope : Scope} {own : List (Str × Nat)} {vs1 : List Nat} {pos : Pos} {is is1 : List Nat} {w w1 : TI} {src src1 : Src} {t t1 : TG} {g g1 : Tgx} {tt tt1 : Tx} {p : Px}
end
@[simp] theorem x_comp2 {vs vs1 : List Nat} {src src1 : Src} {g g1 : Tgx} {t t1 : Tx} {p : Px} {ρ : Ev} : pComp2 vs src g t vs1 src1 g1 t1 p ρ = (if nov ρ = true then (src ρ).bind fun rs => match comp2E vs1 g t src1 g1 t1 p (wipeE ρ vs) rs with | some ys => compR ys | none => .bad else .bad) := id rfl
/-! ### l.extend(m) -/
def sExt (l : Plx) (p : Px) : Stx := fun ρ => match l ρ with
  | .bad => .bad
  | .exc c fs => .exc c fs ρ
  | .ok l => (match l.d with
    | .list ds => (match p ρ with
      | .bad => .bad
      | .exc c fs => .exc c fs ρ
      | .ok r => (match r.d with
        | .list es => if lfs es = true ∧ ds.length + es.length ≤ sizeLine then putE l (.list (ds ++ es)) ρ else .bad
        | _ => .bad))
    | _ => .bad)
section
variable {X : Cx} {E : XK} {a b : Expr} {l : Plx} {p : Px} {pos apos cpos : Pos}
end
@[simp] theorem x_ext {l : Plx} {p : Px} {ρ : Ev} : sExt l p ρ = (match l ρ with
  | .bad => .bad
  | .exc c fs => .exc c fs ρ
  | .ok l => (match l.d with
    | .list ds => (match p ρ with
      | .bad => .bad
      | .exc c fs => .exc c fs ρ
      | .ok r => (match r.d with
        | .list es => if lfs es = true ∧ ds.length + es.length ≤ sizeLine then putE l (.list (ds ++ es)) ρ else .bad
        | _ => .bad))
    | _ => .bad)) := id rfl
/-! ### max(l), min(l) -/
section
variable {K : PySem.W.Frag}
end
/-! ### p < q < c, of ints -/
def pChI (f f' : Int → Int → Bool) (p q c : Px) : Px := fun ρ => (p ρ).bind fun a => (q ρ).bind fun b => match a.d, b.d with
  | .int i, .int j => if f i j = true then (c ρ).bind fun e => (match e.d with
    | .int k => .ok ⟨.imm, .bool (f' j k)⟩
    | _ => .bad) else .ok ⟨.imm, .bool false⟩
  | _, _ => .bad
section
variable {X : Cx} {E : XK} {a b c : Expr} {p q r : Px} {pos : Pos} {op op' : CmpOp} {f f' : Int → Int → Bool}
end
@[simp] theorem x_chI {f f' : Int → Int → Bool} {p q c : Px} {ρ : Ev} : pChI f f' p q c ρ = ((p ρ).bind fun a => (q ρ).bind fun b => match a.d, b.d with
  | .int i, .int j => if f i j = true then (c ρ).bind fun e => (match e.d with
    | .int k => .ok ⟨.imm, .bool (f' j k)⟩
    | _ => .bad) else .ok ⟨.imm, .bool false⟩
  | _, _ => .bad) := id rfl
/-! ### what is never reached -/
def sBad : Stx := fun _ => .bad
@[simp] theorem x_sBad {ρ : Ev} : sBad ρ = .bad := id rfl
end Oz

/-! Oz55: sorted(l, key=f) of a list. -/
namespace Oz
open PySem PySem.Spec L2 PySem.Calls PySem.W
open PyProof.Rows hiding St
variable [WD]
noncomputable section
section
variable {X : Cx} {pins : List (Addr × Obj)} {σ : St} {Z O H : Hp} {s : Shared} {k : Nat} {f B : Addr} {fd : FuncData} {ps : List Str} {fn : Fn} {n : Nat} {vs : List Value} {es : List D}
end
end
noncomputable def pSortKL (p : Px) (fn : Fn) : Px := fun ρ => (p ρ).bind fun r => match r.d with
  | .list es => if okSortK fn es = true then .ok ⟨.own, .list (sortKD fn es)⟩ else .bad
  | _ => .bad
section
variable {X : Cx} {E : XK} {k k' : Nat} {fn : Fn} {ps : List Str} {y : Str} {p0 p2 pos kpos : Pos} {e : Expr} {p : Px}
end
@[simp] theorem x_sortKL {p : Px} {fn : Fn} {ρ : Ev} : pSortKL p fn ρ = ((p ρ).bind fun r => match r.d with
  | .list es => if okSortK fn es = true then .ok ⟨.own, .list (sortKD fn es)⟩ else .bad
  | _ => .bad) := id rfl
end Oz

/-! Oz56: min(l) of a list of alike frozen data. -/
namespace Oz
open PySem PySem.Spec L2 PySem.Calls PySem.W
open PyProof.Rows hiding St
variable [WD]
noncomputable section
section
variable {prog : Program} {w : World} {A : Around} {E : Value → Shared → Prop} {s : Shared}
end
def nonN : D → Bool
  | .none => false
  | _ => true
def okMin (ds : List D) : Bool := lfs ds && (ds.all (fun d => ds.all fun e => PySem.W.alike d e) && (ds.all nonN && ds.all (fun d => decide (d.depth ≤ 60))))
structure OkMin (ds : List D) : Prop where
  lf : lfs ds = true
  al : PySem.W.AlikeAll ds
  dp : PyData.depthAll ds ≤ 60
def bMin : List R → Res R
  | [r] => (match r.d with
    | .list (d :: ds) => if okMin (d :: ds) = true then .ok ⟨.imm, PySem.W.minD d ds⟩ else .bad
    | _ => .bad)
  | _ => .bad
@[simp] theorem x_minD {s : Sx} {d : D} {ds : List D} : bMin [⟨s, .list (d :: ds)⟩] = if okMin (d :: ds) = true then .ok ⟨.imm, PySem.W.minD d ds⟩ else .bad := id rfl
end
end Oz

/-! Oz57: dicts {int: True}: comprehensions with one for and with two, in, sorted. -/
namespace Oz
open PySem PySem.Spec L2 PySem.Calls PySem.W
open PyProof.Rows hiding St
variable [WD]
noncomputable section
/-! ### a dict of ints as data -/
def dI (ns : List Int) : D := .dict (ns.map fun n => (.int n, .bool true))
def addK (ns : List Int) (n : Int) : List Int := if n ∈ ns then ns else ns ++ [n]
def dKv (ns : List Int) : List (Key × V) := ns.map fun n => (.inl n, .bl true)
/-! ### two fors -/
section
variable {prog : Program} {w : World} {A : Around} {R : Result → Shared → Prop} {s : Shared} {kx vx t0 i0 t1 i1 : Expr} {ifs0 ifs1 : List Expr} {scope : Scope} {pos : Pos} {it : Value} {D : Addr} {env : Env}
end
section
variable {X : Cx}
end
end
end Oz

/-! Oz58: {k: True for x in xs if t [for y in ys if u]} with int keys, as data. -/
namespace Oz
open PySem PySem.Spec L2 PySem.Calls PySem.W
open PyProof.Rows hiding St
variable [WD]
noncomputable section
def dcE (g : Tgx) (t : Tx) (p : Px) (ρ0 : Ev) : List R → List Int → Option (List Int)
  | [], ns => some ns
  | r :: rs, ns => (match g r ρ0 with
    | none => none
    | some ρ1 => (match t ρ1 with
      | .ok b => if b = true then (match p ρ1 with
        | .ok y => (match y.d with
          | .int n => if ns.length < sizeLine then dcE g t p ρ0 rs (addK ns n) else none
          | _ => none)
        | _ => none) else dcE g t p ρ0 rs ns
      | _ => none))
def pDc (vs : List Nat) (src : Src) (g : Tgx) (t : Tx) (p : Px) : Px := fun ρ => if nov ρ = true then (src ρ).bind fun rs => match dcE g t p (wipeE ρ vs) rs [] with
  | some ns => .ok ⟨.own, dI ns⟩
  | none => .bad else .bad
def dc2E (vs1 : List Nat) (g : Tgx) (t : Tx) (src1 : Src) (g1 : Tgx) (t1 : Tx) (p : Px) (ρ0 : Ev) : List R → List Int → Option (List Int)
  | [], ns => some ns
  | r :: rs, ns => (match g r ρ0 with
    | none => none
    | some ρ1 => if nov ρ1 = true then (match t ρ1 with
      | .ok b => if b = true then (match src1 ρ1 with
        | .ok rs1 => (match dcE g1 t1 p (wipeE ρ1 vs1) rs1 ns with
          | some ms => dc2E vs1 g t src1 g1 t1 p ρ0 rs ms
          | none => none)
        | _ => none) else dc2E vs1 g t src1 g1 t1 p ρ0 rs ns
      | _ => none) else none)
def pDc2 (vs : List Nat) (src : Src) (g : Tgx) (t : Tx) (vs1 : List Nat) (src1 : Src) (g1 : Tgx) (t1 : Tx) (p : Px) : Px := fun ρ => if nov ρ = true then (src ρ).bind fun rs => match dc2E vs1 g t src1 g1 t1 p (wipeE ρ vs) rs [] with
  | some ns => .ok ⟨.own, dI ns⟩
  | none => .bad else .bad
/-- the dict so far -/
structure AccD (Z O H : Hp) (L : Addr) (ns : List Int) : Prop where
  at_ : H L = some (.dK (dKv ns))
  zl : Z L = none
  ol : O L = none
section
variable {K : PySem.W.Frag} {E : XK} {Hs Z O H Z' O' H' : Hp} {L : Addr} {ns : List Int}
theorem AccD.ext (a : AccD Z O H L ns) (e : Ext [] Z O H Z' O' H') : AccD Z' O' H' L ns := by
  have nn : ∀ {C C' : Hp}, (∀ c, C' c ≠ none → C c ≠ none ∨ H c = none ∨ c ∈ ([] : List Addr)) → ∀ {c : Addr}, C c = none → (∃ o, H c = some o) → C' c = none := fun {C C'} h {c} h1 h2 => by
    cases w : C' c with
    | none => rfl
    | some x =>
      obtain ⟨o, h3⟩ := h2
      rcases h c (by rw [w]; simp) with z | z | z
      · exact absurd h1 z
      · rw [h3] at z; cases z
      · cases z
  exact ⟨e.h.s _ _ a.at_ nofun, nn e.zn a.zl ⟨_, a.at_⟩, nn e.on a.ol ⟨_, a.at_⟩⟩
theorem AccD.push (g : Good Z O H) (a : AccD Z O H L ns) {n : Int} : Good Z O (upd H L (.dK (dKv (addK ns n)))) ∧ AccD Z O (upd H L (.dK (dKv (addK ns n)))) L (addK ns n) := by
  refine ⟨⟨g.zo, fun c o h => ?_, fun c o h f => ?_, g.nt⟩, ⟨upd_same, a.zl, a.ol⟩⟩
  · have ne : c ≠ L := fun z => by rw [z, a.ol] at h; cases h
    rw [upd_ne ne]
    exact g.oh c o h
  · by_cases z : c = L
    · rw [z, upd_same] at h; cases h; cases f
    · rw [upd_ne z] at h; exact g.tz c o h f
theorem reps_bl : ∀ (ns : List Int), Reps K Z (ns.map fun _ => V.bl true) (ns.map fun _ => PyData.bool true)
  | [] => .nil
  | _ :: ns => .cons (.bl true) (reps_bl ns)
theorem own_dI (h : H L = some (.dK (dKv ns))) : Own K Z H (.ref L) (dI ns) [L] := by
  have hv : Owns K Z H (ns.map fun _ => V.bl true) (ns.map fun _ => PyData.bool true) [] := .of_reps (reps_bl ns) (by simp [isVal])
  unfold dI
  refine .dct h ?_ ?_
  · simp [dKv, kd, Function.comp_def]
  · have e1 : (dKv ns).map (·.2) = ns.map fun _ => V.bl true := by simp [dKv, Function.comp_def]
    have e2 : (ns.map fun n => (PyData.int n, PyData.bool true)).map (·.2) = ns.map fun _ => PyData.bool true := by simp [Function.comp_def]
    rw [e1, e2]
    exact hv
end
section
variable {X : Cx} {E : XK} {kx tg iter tg1 iter1 : Expr} {ifs ifs1 : List Expr} {scope : Scope} {own : List (Str × Nat)} {vs1 : List Nat} {pos : Pos} {is is1 : List Nat} {w w1 : TI} {src src1 : Src} {t t1 : TG} {g g1 : Tgx} {tt tt1 : Tx} {p : Px}
end
end
@[simp] theorem x_dc [WD] {vs : List Nat} {src : Src} {g : Tgx} {t : Tx} {p : Px} {ρ : Ev} : pDc vs src g t p ρ = (if nov ρ = true then (src ρ).bind fun rs => match dcE g t p (wipeE ρ vs) rs [] with
  | some ns => .ok ⟨.own, dI ns⟩
  | none => .bad else .bad) := id rfl
@[simp] theorem x_dc2 [WD] {vs vs1 : List Nat} {src src1 : Src} {g g1 : Tgx} {t t1 : Tx} {p : Px} {ρ : Ev} : pDc2 vs src g t vs1 src1 g1 t1 p ρ = (if nov ρ = true then (src ρ).bind fun rs => match dc2E vs1 g t src1 g1 t1 p (wipeE ρ vs) rs [] with
  | some ns => .ok ⟨.own, dI ns⟩
  | none => .bad else .bad) := id rfl
end Oz

/-! Oz59: in and sorted of a dict {int: True}. -/
namespace Oz
open PySem PySem.Spec L2 PySem.Calls PySem.W
open PyProof.Rows hiding St
variable [WD]
noncomputable section
def kvI : List (D × D) → Option (List Int)
  | [] => some []
  | (.int n, .bool true) :: r => (kvI r).map (n :: ·)
  | _ => none
def dIof : D → Option (List Int)
  | .dict es => kvI es
  | _ => none
@[simp] theorem dIof_dI {ns : List Int} : dIof (dI ns) = some ns := by
  show kvI _ = _
  induction ns with
  | nil => rfl
  | cons n ns ih => simp [kvI, ih]
theorem kvI_eq : ∀ {es : List (D × D)} {ns : List Int}, kvI es = some ns → es = ns.map fun n => (.int n, .bool true)
  | [], ns, h => by cases h; rfl
  | (a, b) :: r, ns, h => by
    cases a with
    | int n => cases b with
      | bool c => cases c with
        | true =>
          have h2 : (kvI r).map (n :: ·) = some ns := h
          cases e : kvI r with
          | none => rw [e] at h2; cases h2
          | some ms =>
            rw [e] at h2
            cases h2
            rw [kvI_eq e]
            rfl
        | false => cases h
      | _ => cases h
    | _ => cases b <;> cases h
theorem dIof_eq {d : D} {ns : List Int} (h : dIof d = some ns) : d = dI ns := by
  cases d with
  | dict es => rw [show es = _ from kvI_eq h]; rfl
  | _ => cases h
theorem keys_int : ∀ {ns : List Int} {kvs : List (Key × V)}, ns.map PyData.int = kvs.map (fun p => kd p.1) → kvs.map (·.1) = ns.map Sum.inl
  | [], [], _ => rfl
  | [], _ :: _, h => by simp at h
  | _ :: _, [], h => by simp at h
  | n :: ns, (k, v) :: kvs, h => by
    rw [List.map_cons, List.map_cons] at h
    injection h with h1 h2
    have hk : k = .inl n := by
      cases k with
      | inl i => cases h1; rfl
      | inr x => cases h1
    rw [List.map_cons, List.map_cons, keys_int h2, hk]
theorem rep_dI {K : PySem.W.Frag} {C : Hp} {v : V} {ns : List Int} (r : Rep K C v (dI ns)) : ∃ a kvs, v = .ref a ∧ C a = some (.dK kvs) ∧ kvs.map (·.1) = ns.map Sum.inl := by
  have hd : isDct (ns.map fun n => ((PyData.int n : D), (PyData.bool true : D))) = true := by simp [isDct, keyOf]
  obtain ⟨a, kvs, e, h, hk, _⟩ := Rep.dct_inv r hd
  refine ⟨a, kvs, e, h, keys_int ?_⟩
  rw [← hk, List.map_map]
  rfl
def inK (a b : D) : Option D := match a, dIof b with
  | .int i, some ns => some (.bool (decide (i ∈ ns)))
  | _, _ => none
def ninK (a b : D) : Option D := match a, dIof b with
  | .int i, some ns => some (.bool (!decide (i ∈ ns)))
  | _, _ => none
@[simp] theorem x_inK {i : Int} {ns : List Int} : inK (.int i) (dI ns) = some (.bool (decide (i ∈ ns))) := by simp [inK]
@[simp] theorem x_ninK {i : Int} {ns : List Int} : ninK (.int i) (dI ns) = some (.bool (!decide (i ∈ ns))) := by simp [ninK]
/-! ### sorted -/
def rSortDk (K : PySem.W.Frag) : List V → Hp → VK → Prop := fun vs H Q => ∃ (a : Addr) (kvs : List (Key × V)) (ns : List Int), vs = [.ref a] ∧ H a = some (.dK kvs) ∧ kvs.map (·.1) = ns.map Sum.inl ∧
  ∀ (ns' : List Int) (p : Addr), ns'.Perm ns → ns'.Pairwise (· ≤ ·) → H p = none → Q (.ref p) (upd H p (.lst (ns'.map V.int)))
theorem ints_of_items {P : Program} {w : World} : ∀ {kvs : List (Key × Value)} {us : List Value} {ns : List Int}, kvs.map (·.1) = ns.map Sum.inl → us.length = kvs.length → (∀ (j : Nat) (v : Value), us[j]? = some v → ∃ k x, kvs[j]? = some (k, x) ∧ (mixKind P w).is k v = true) → IntsAre us ns
  | [], [], [], _, _, _ => .nil
  | [], [], _ :: _, h, _, _ => by simp at h
  | [], _ :: _, _, _, h, _ => by simp at h
  | _ :: _, [], _, _, h, _ => by simp at h
  | (k, x) :: kvs, u :: us, [], h, _, _ => by simp at h
  | (k, x) :: kvs, u :: us, n :: ns, h, hl, hv => by
    rw [List.map_cons, List.map_cons] at h
    injection h with h1 h2
    obtain ⟨k', x', e, hk⟩ := hv 0 u rfl
    simp only [List.getElem?_cons_zero, Option.some.injEq, Prod.mk.injEq] at e
    obtain ⟨e1, e2⟩ := e
    subst e1
    have h1 : k = Sum.inl n := h1
    rw [h1] at hk
    rcases keyIs_shape (k := Sum.inl n) (v := u) hk with ⟨i, t, e3, e4⟩ | ⟨y, t, e3, _⟩
    · cases e3
      rw [e4]
      exact .cons n t (ints_of_items h2 (by simpa using hl) fun j v hj => by simpa using hv (j + 1) v (by simpa using hj))
    · cases e3
theorem kv_keys : ∀ {kvs : List (Key × V)} {vs : List (Key × Value)}, KV kvs vs → vs.map (·.1) = kvs.map (·.1)
  | _, _, .nil => rfl
  | _, _, .cons h t => by rw [List.map_cons, List.map_cons, kv_keys t, h.1]
theorem cr_sortDk {X : Cx} (hc : X.calm = true := by rfl) : CallR X (.builtin "sorted") (rSortDk X.K) := by
  intro pins s σ H vs us Q I r h
  obtain ⟨a, kvs, ns, rfl, ha, hk, q⟩ := h
  rw [Vals.ref1 r]
  obtain ⟨z, hd, vs, rel, dd⟩ := dk_of I.hok ha
  obtain ⟨ep, hat⟩ := dd.dictAt
  have hlv : vs.length ≤ sizeLine := by rw [← rel.length]; exact z
  have hk2 : vs.map (·.1) = ns.map Sum.inl := by
    rw [← hk]
    exact kv_keys rel
  have hlen : vs.length = ns.length := by
    have := congrArg List.length hk2
    simpa using this
  have hh : X.A.handled = none := I.ok.hd hc
  refine call_function_entry kind_sorted plain_sorted entry_sorted (args_sorted1 _) ?_
  unfold Builtin.«sorted»
  refine wpAny_bind (m := checkCount "sorted" 1 1 _) (wpAny_pure ?_)
  refine wpAny_bind (kdu_collect (A := X.A.in1) (kdl_dict (knd := mixKind X.prog X.w) (kvs := vs) (ep := ep) hd) hh hat hlv fun h' tk acc hkp hacc => ?_)
  have hl : acc.toList.length = vs.length := by rw [Array.length_toList]; exact hacc.1
  have hi : IntsAre acc.toList ns := ints_of_items hk2 hl fun j v e => hacc.2 j v (by rw [← Array.getElem?_toList]; exact e)
  refine wpAny_bind (wpAny_newList ?_ (by rw [hl]; exact hlv))
  have hob : (h'.push { cls := .type "list", data := .seq acc.toList.toArray }).get? h'.objs.size = some (seqObj "list" acc.toList.toArray 0) := Heap.get?_push_size _ rfl
  have keep : ∀ b o, s.heap.get? b = some o → (h'.push { cls := .type "list", data := .seq acc.toList.toArray }).get? b = some o := fun b o e => Heap.get?_push_of_some _ (hkp b o e)
  have I' : Inv X pins σ H { s with heap := h', toks := tk } := I.kept hkp
  refine wpAny_bind (wpAny_holding (wpAny_call_entry PyProof.Rows.slot_list_sort ⟨_, hob, rfl⟩ PyProof.Rows.entry_list_sort
    (SrtO.list_sort_ord SrtO.swo_int hob (by rw [hl]; exact hlv) (fun h2 => SrtO.ints_sortable hi h2) fun out h1 h2 => ⟨.none, rfl, ?_⟩) (PyProof.Rows.args_list_sort _)))
  obtain ⟨k1, k2, k3⟩ := SrtO.ints_out hi h1 h2
  obtain ⟨ep2, he'⟩ := PyProof.Rows.sortedHeap_at (vs := acc.toList) (out := out.toArray) hob
  have hlen2 : ((out.map SrtO.iv).map V.int).length ≤ sizeLine := by
    rw [List.length_map, k2.length_eq, ← hlen]
    exact hlv
  refine wpAny_pure ⟨_, rfl, .ref h'.objs.size, upd H h'.objs.size (.lst ((out.map SrtO.iv).map V.int)), I'.laid (t' := tk) (fun b u hu => ?_) (Nat.le_refl _) ⟨hlen2, out, ep2, vals_of_ints k1, he'⟩, rfl, q _ _ k2 k3 (I'.hok.fresh (Nat.le_refl _))⟩
  have hlt : b < h'.objs.size := Heap.lt_size hu
  rw [PyProof.Rows.sortedHeap_old (Nat.ne_of_lt hlt) (by rw [size_push']; exact Nat.lt_succ_of_lt hlt)]
  exact Heap.get?_push_of_some _ hu
def leI (a b : Int) : Bool := decide (a ≤ b)
theorem sorted_uniq {ns ns' : List Int} (h : ns'.Perm ns) (hp : ns'.Pairwise (· ≤ ·)) : ns' = ns.mergeSort leI := by
  refine List.Perm.eq_of_pairwise (le := fun a b => a ≤ b) (fun a b _ _ h1 h2 => by omega) hp ?_ (h.trans (List.mergeSort_perm _ _).symm)
  have := List.pairwise_mergeSort (le := leI) (fun a b c h1 h2 => by unfold leI at *; simp at *; omega) (fun a b => by unfold leI; simp; omega) ns
  exact this.imp fun {a b} h => by unfold leI at h; simpa using h
def bSortDk : List R → Res R
  | [r] => (match dIof r.d with
    | some ns => .ok ⟨.own, .list ((ns.mergeSort leI).map .int)⟩
    | none => .bad)
  | _ => .bad
theorem b_sortDk {K : PySem.W.Frag} : BOk K (rSortDk K) bSortDk := fun E Z O H vs rs G Q g q nd fo k => by
  match rs, q, k with
  | [], _, k => exact k.elim
  | _ :: _ :: _, _, k => exact k.elim
  | [r], q, k =>
    obtain ⟨v, rfl, q1⟩ := q.one
    obtain ⟨s, d⟩ := r
    have k2 : ResK K E G Z O H (match dIof d with
      | some ns => .ok ⟨.own, .list ((ns.mergeSort leI).map .int)⟩
      | none => .bad) Q := k
    cases e : dIof d with
    | none => rw [e] at k2; exact k2.elim
    | some ns =>
      rw [e] at k2
      have := dIof_eq e
      subst this
      obtain ⟨a, kvs, rfl, ha, hk⟩ := rep_dI (q1.look g)
      refine ⟨a, kvs, ns, rfl, ha, hk, fun ns' p hp hs np => ?_⟩
      have es := sorted_uniq hp hs
      subst es
      have hl : lfs ((ns.mergeSort leI).map PyData.int) = true := by simp
      have k3 : ResK K E G Z O H (dnew .view ((ns.mergeSort leI).map .int)) Q := by
        unfold dnew
        rw [if_pos hl]
        exact k2
      have rz : ∀ {C : Hp} (ms : List Int), Reps K C (ms.map V.int) (ms.map .int) := fun {C} ms => by
        induction ms with
        | nil => exact .nil
        | cons m ms ih => exact .cons (.int m) ih
      exact dnew_ok g k3 (rz _) (fun e => by cases e) np
@[simp] theorem x_sortDk {s : Sx} {ns : List Int} : bSortDk [⟨s, dI ns⟩] = .ok ⟨.own, .list ((ns.mergeSort leI).map .int)⟩ := by
  show (match dIof (dI ns) with
    | some ns => (Res.ok ⟨.own, .list ((ns.mergeSort leI).map .int)⟩ : Res R)
    | none => .bad) = _
  rw [dIof_dI]
/-! ### d[n] = True -/
theorem ptD_dI (ns : List Int) (n : Int) : ptD (.inl n) (.bool true) (ns.map fun n => ((PyData.int n : D), (PyData.bool true : D))) = (addK ns n).map fun n => (.int n, .bool true) := by
  unfold addK
  induction ns with
  | nil => rfl
  | cons m ns ih =>
    rw [List.map_cons]
    unfold ptD
    by_cases c : m = n
    · subst c
      simp [keyOf]
    · have c2 : ¬ keyOf (PyData.int m) = some (.inl n) := by simpa [keyOf] using c
      rw [if_neg c2, ih]
      have c3 : ¬ n = m := fun z => c z.symm
      by_cases c4 : n ∈ ns <;> simp [c3, c4]
theorem isDct_dI (ns : List Int) : isDct (ns.map fun n => ((PyData.int n : D), (PyData.bool true : D))) = true := by simp [isDct, keyOf]
theorem ukD_dI {ns : List Int} (h : ns.Nodup) (n : Int) : ukD (.inl n) (ns.map fun n => ((PyData.int n : D), (PyData.bool true : D))) = true := by
  induction ns with
  | nil => rfl
  | cons m ns ih =>
    obtain ⟨h1, h2⟩ := List.nodup_cons.mp h
    rw [List.map_cons]
    unfold ukD
    by_cases c : m = n
    · subst c
      have : keyOf (PyData.int m) = some (.inl m) := rfl
      rw [if_pos this]
      simp only [noD, List.all_map, List.all_eq_true]
      intro x hx
      have : ¬ x = m := fun z => h1 (z ▸ hx)
      simp [keyOf, this]
    · have c2 : ¬ keyOf (PyData.int m) = some (.inl n) := by simpa [keyOf] using c
      rw [if_neg c2]
      exact ih h2
theorem addK_nd {ns : List Int} (h : ns.Nodup) (n : Int) : (addK ns n).Nodup := by
  unfold addK
  split
  · exact h
  · rename_i c
    rw [List.nodup_append]
    exact ⟨h, by simp, fun x hx y hy z => c (by rw [List.mem_singleton.mp hy] at z; exact z ▸ hx)⟩
end
end Oz

/-! Oz60: what an expression makes anew lasts from then on (a list to be put into a tuple). -/
namespace Oz
open PySem PySem.Spec L2
open PyProof.Rows hiding St
variable [WD]
def fzR (r : R) : R := match r.s with
  | .own => ⟨.imm, r.d⟩
  | _ => r
def pFz (p : Px) : Px := fun ρ => (p ρ).bind fun r => .ok (fzR r)
section
variable {K : PySem.W.Frag} {E : XK} {Z O H : Hp} {Q : VK} {p : Px} {σ : L2.St}
end
@[simp] theorem x_fz {p : Px} {ρ : Ev} : pFz p ρ = (p ρ).bind fun r => .ok (fzR r) := id rfl
@[simp] theorem fzR_own {d : D} : fzR ⟨.own, d⟩ = ⟨.imm, d⟩ := id rfl
@[simp] theorem fzR_imm {d : D} : fzR ⟨.imm, d⟩ = ⟨.imm, d⟩ := id rfl
end Oz

/-! Oz61: l[p] += e of ints, in a list; {}. -/
namespace Oz
open PySem PySem.Spec L2
open PyProof.Rows hiding St
variable [WD]
def sAugI (l : Plx) (p q : Px) : Stx := fun ρ => match l ρ with
  | .bad => .bad
  | .exc c fs => .exc c fs ρ
  | .ok l => (match p ρ with
    | .bad => .bad
    | .exc c fs => .exc c fs ρ
    | .ok i => (match l.d, i.d with
      | .list ds, .int k => if 0 ≤ k then (match ds[k.toNat]? with
        | some (.int x) => (match q ρ with
          | .bad => .bad
          | .exc c fs => .exc c fs ρ
          | .ok r => (match r.d with
            | .int y => putE l (.list (ds.set k.toNat (.int (x + y)))) ρ
            | _ => .bad))
        | _ => .bad) else .bad
      | _, _ => .bad))
def rGetL : V → V → Hp → VK → Prop := fun o i H Q => ∃ p xs k v, o = .ref p ∧ i = .int k ∧ H p = some (.lst xs) ∧ 0 ≤ k ∧ xs[k.toNat]? = some v ∧ Q v H
theorem get_list {X : Cx} : PGet X rGetL := by
  intro pins s σ H o i ov iv Q I ro ri h
  obtain ⟨p, xs, k, v, rfl, rfl, hp, h0, hv, q⟩ := h
  cases ro
  obtain ⟨t, rfl⟩ := ri
  obtain ⟨its, n, r, ho, hz⟩ := I.lst hp
  obtain ⟨w, ew, rw'⟩ := Vals.get r hv
  have hl := r.length
  have hlt : k.toNat < its.length := (List.getElem?_eq_some_iff.mp ew).1
  obtain ⟨its2, n2, r2, ho2, hz2⟩ := I.lst hp
  have hn := line63
  have hz3 : its.length ≤ sizeLine := by rw [← hl]; exact hz
  exact wpAny_getItem_list (items := its.toArray) ⟨_, ho, rfl, n, rfl⟩ h0 (by omega) (by simpa using ew) ⟨v, H, I, rw', q⟩
section
variable {X : Cx} {E : XK} {a b e : Expr} {l : Plx} {p q : Px} {pos apos : Pos}
theorem s_augI (hl : PE X a (tPl X.K E l)) (hp : PE X b (tP X.K E p)) (he : PE X e (tP X.K E q))
    (ha : ∀ ov iv new, augStore b ov iv new = (do holding [new, ov, iv] (setItem ov iv new); release [new, ov, iv] []; pure .next) := by intros; rfl) : PS X (.AugAssign (.Subscript a b apos) .Add e pos) (tS X.K E (sAugI l p q)) := by
  refine (ps_augS hl hp get_list he ip_add set_list ha).imp fun D σ H h => ?_
  obtain ⟨Z, O, ρ, F, rl, n, h⟩ := h
  refine ⟨Z, O, ρ, F, rl, ?_⟩
  unfold sAugI at h
  cases e2 : l ρ with
  | bad => rw [e2] at h; exact h.elim
  | exc c fs => rw [e2] at h; exact SRK.exc rl h
  | ok l0 =>
    rw [e2] at h
    simp only at h
    intro v H2 Z2 O2 s F1 G F2 x2 g2 pa
    have rl2 := rl.ext x2 g2
    refine ⟨Z2, O2, ρ, F, rl2, ?_⟩
    cases e3 : p ρ with
    | bad => rw [e3] at h; exact h.elim
    | exc c fs => rw [e3] at h; exact ExcK.ext (SRK.exc rl h) x2
    | ok i =>
      rw [e3] at h
      simp only at h
      intro w H3 Z3 O3 Gi x3 g3 q3 nd3 fr3
      have pa3 := pa.ext x3
      obtain ⟨si, di⟩ := i
      cases el : l0.d with
      | list ds =>
        cases di with
        | int k =>
          rw [el] at h
          simp only at h
          by_cases k0 : 0 ≤ k
          rotate_left
          · rw [if_neg k0] at h; exact h.elim
          rw [if_pos k0] at h
          cases ex : ds[k.toNat]? with
          | none => rw [ex] at h; exact h.elim
          | some dx => cases dx with
            | int xi =>
              rw [ex] at h
              simp only at h
              have lk := q3.look g3
              cases lk
              have hjn : k.toNat < ds.length := (List.getElem?_eq_some_iff.mp ex).1
              have x23 := x2.trans0 x3
              have rl3 := rl.ext x23 g3
              have qo := pa3.own
              rw [el] at qo
              obtain ⟨a0, xs, G0, rfl, ha0, qs, eg⟩ := qo.lst_inv
              obtain ⟨xv, A, Gj, B, h1, h2, h3, h4⟩ := qs.at ex
              have hxv : xv = .int xi := by
                cases h3 with
                | imm r _ => cases r; rfl
              subst hxv
              refine ⟨a0, xs, k, .int xi, rfl, rfl, ha0, k0, h1, ?_⟩
              refine ⟨Z3, O3, ρ, F, rl3, ?_⟩
              cases e4 : q ρ with
              | bad => rw [e4] at h; exact h.elim
              | exc c fs => rw [e4] at h; exact ExcK.ext (SRK.exc rl h) x23
              | ok r =>
                rw [e4] at h
                simp only at h
                intro y H4 Z4 O4 Gy x4 g4 q4 nd4 fr4
                obtain ⟨sr, dr⟩ := r
                cases dr with
                | int yi =>
                  simp only at h
                  have lk4 := q4.look g4
                  cases lk4
                  refine ⟨xi, yi, rfl, rfl, ?_⟩
                  have x24 := x23.trans0 x4
                  have pa4 := pa3.ext x4
                  have qo4 := pa4.own
                  rw [el] at qo4
                  obtain ⟨a1, xs1, G1, ea, ha1, qs1, eg1⟩ := qo4.lst_inv
                  cases ea
                  obtain ⟨xv1, A1, Gj1, B1, h11, h12, h13, h14⟩ := qs1.at ex
                  have hxs : xs1 = xs := by
                    have := x4.h.l ha0
                    rw [ha1] at this
                    cases this
                    rfl
                  subst hxs
                  have hj : ixN xs1.length k = some k.toNat := by rw [qs1.length]; exact ixN_some k0 (by omega)
                  refine ⟨a0, xs1, k, k.toNat, rfl, rfl, ha1, hj, ?_⟩
                  have nF := rl.nd
                  rw [pa4.eq, eg1] at nF
                  have nGG : (a0 :: G1).Nodup := (List.nodup_append.mp (List.nodup_append.mp nF).2.1).1
                  have aG0 : a0 ∉ G1 := (List.nodup_cons.mp nGG).1
                  have kp : ∀ c, c ≠ a0 → ∀ o, H4 c = some o → upd H4 a0 (.lst (xs1.set k.toNat (.int (xi + yi)))) c = some o := fun c hc o h => by rw [upd_ne hc]; exact h
                  have qn : Own X.K Z4 (upd H4 a0 (.lst (xs1.set k.toNat (.int (xi + yi))))) (.ref a0) (.list (ds.set k.toNat (.int (xi + yi)))) (a0 :: (A1 ++ ([] ++ B1))) :=
                    .lst upd_same (h14 Z4 _ (.int (xi + yi)) (.int (xi + yi)) [] (Same.refl _) (fun c hc o h _ => kp c (fun z => aG0 (by rw [h12, ← z]; rcases List.mem_append.mp hc with hc | hc <;> simp [hc])) o h) (.imm (.int _) rfl))
                  refine pa4.store rl n x24 g4 (a0 := a0) (by rw [eg1]; simp) rfl qn ?_ (fun c hc => ?_) h
                  · refine List.nodup_cons.mpr ⟨fun z => ?_, nodup_mid (G := Gj1) (by rw [← h12]; exact (List.nodup_cons.mp nGG).2) List.nodup_nil fun c hc z => by cases hc⟩
                    rcases List.mem_append.mp z with z | z
                    · exact aG0 (by rw [h12]; simp [z])
                    · exact aG0 (by rw [h12]; simp at z; simp [z])
                  · rcases List.mem_cons.mp hc with z | z
                    · left; rw [eg1, z]; simp
                    · rcases List.mem_append.mp z with z | z
                      · left; rw [eg1, h12]; simp [z]
                      · left; rw [eg1, h12]; simp at z; simp [z]
                | _ => exact h.elim
            | _ => rw [ex] at h; exact h.elim
        | _ => rw [el] at h; exact h.elim
      | _ => rw [el] at h; exact h.elim
/-- {} -/
theorem s_dempty {dpos : Pos} : PE X (.Dict [] [] dpos) (tP X.K E (pDct (flatP []))) := pe_dnewK.imp fun σ H Q h => by
  obtain ⟨Z, O, ρ, F, rl, h⟩ := h
  have h1 : OkK X.K [] Z O H ⟨.own, dI []⟩ Q := by
    have : pDct (flatP []) ρ = .ok ⟨.own, dI []⟩ := rfl
    rw [this] at h
    exact h
  intro p np
  obtain ⟨x0, g0⟩ := ext_new rl.g (o := .dK []) np rfl
  refine h1 _ _ Z O [p] x0 g0 (own_dI (ns := []) upd_same) (by simp) fun c hc => ?_
  rw [List.mem_singleton.mp hc]
  exact ⟨.inl np, none_of rl.g.oh np⟩
end
@[simp] theorem x_augI {l : Plx} {p q : Px} {ρ : Ev} : sAugI l p q ρ = (match l ρ with
  | .bad => .bad
  | .exc c fs => .exc c fs ρ
  | .ok l => (match p ρ with
    | .bad => .bad
    | .exc c fs => .exc c fs ρ
    | .ok i => (match l.d, i.d with
      | .list ds, .int k => if 0 ≤ k then (match ds[k.toNat]? with
        | some (.int x) => (match q ρ with
          | .bad => .bad
          | .exc c fs => .exc c fs ρ
          | .ok r => (match r.d with
            | .int y => putE l (.list (ds.set k.toNat (.int (x + y)))) ρ
            | _ => .bad))
        | _ => .bad) else .bad
      | _, _ => .bad))) := id rfl
end Oz

/-! Oz62: __init__ of an own exception over ValueError: super().__init__(what); self.what = what -/
namespace Oz
open PySem PySem.Spec L2
open PyProof.Rows hiding St
def spXi (D : Addr) : Sp := fun vs H Q _ => ∃ (a : Addr) (y : V), vs = [.ref a, y] ∧ H a = some (exo a D none) ∧ ∀ dx, H dx = none → dx ≠ a → Q .non (upd (upd H dx (exd dx [("what", y)])) a (exo a D (some dx)))
/-- what the written part says of such a class -/
structure XiOk (P : Program) (K : PySem.W.Frag) (D f : Addr) (p : XiPos) (cc cda : Addr) (fd : FuncData) : Prop where
  T : OexC K D
  lk : ∃ (name qual : Str) (dV kV doc pm ct oc : Value) (an od : Option Addr) (osl : Array (Option Value)), fd = PySem.W.fnX name qual (ixPars p) (ixBody p) ixScope [("__class__", cc)] dV kV doc pm an (.ref cda) ct ∧ K.lookup f = some ⟨oc, od, .func fd, osl⟩ ∧ PySem.W.codeIn K (.ref cda) qual = true
  code : ∃ (ccl : Value) (cdd : Option Addr) (vs : Array Value) (ccs : Array (Option Value)) (file : Str) (tf : Tok), K.lookup cda = some ⟨ccl, cdd, .fields vs, ccs⟩ ∧ vs[2]? = some (.str file tf) ∧ ((P.main.file : Str) == file) = true
  cell : ∃ (cl : Value) (cld : Option Addr) (csl : Array (Option Value)), K.lookup cc = some ⟨cl, cld, .cell (some (.ref D)), csl⟩
  sub : PySem.W.mroIn K D (.ref D) = some true
  ot : PySem.W.nsIn K cStatics "thirdparty.any" = some none
  sup : PySem.W.ks_superIn K D D "__init__" = some (some (.builtin "ValueError.__init__"))
  ve : PySem.W.subIn K (.ref D) (.type "ValueError") = some true
  no : PySem.W.findIn K (.ref D) "what" = some none
  top : (P.main.scope.names.lookup ("super" : Str)).isSome = false
/-- the call's steps, at its places in the text -/
def XiCall (p : XiPos) : Prop := ∀ (qual : Str) (L f cc : Addr) (cd : Value), ∃ pl : Sem Bool, eval (.Call (.Attribute (.Call (.Name "super" p.p0) [] [] p.p1) "__init__" p.p2) [.Name "what" p.p3] [] p.p4) (PySem.W.envX qual ixScope L f cd [("__class__", cc)]) = (do
      let ov ← attributeBase (.Call (.Name "super" p.p0) [] [] p.p1) "__init__" (PySem.W.envX qual ixScope L f cd [("__class__", cc)]) (eval (.Call (.Name "super" p.p0) [] [] p.p1) (PySem.W.envX qual ixScope L f cd [("__class__", cc)]))
      standAt p.p2.atName
      let (g, first) ← holding [ov] (getMethod ov "__init__" pl)
      callWith p.p4 g first (backTo p.p4 (starEach [.Name "what" p.p3] (PySem.W.envX qual ixScope L f cd [("__class__", cc)]))) [])
theorem fn_xinit {CX : CXT} {P : Program} {w : World} {K : PySem.W.Frag} {mg : Str → Option Value} {base : Heap} {D f cc cda : Addr} {p : XiPos} {fd : FuncData} (O : XiOk P K D f p cc cda fd) (XC : XiCall p) (hsup : mg "super" = none) : FnOk P w K mg base CX 1 f fd ["self", "what"] (spXi D) := by
  obtain ⟨name, qual, dV, kV, doc, pm, ct, oc, an, od, osl, efd, lk, hcd⟩ := O.lk
  subst efd
  refine ⟨fun vs H Q E ⟨a, y, e, _⟩ => by rw [e]; rfl, fun A outer s H args us vs Q E hr e0 hb r ⟨a, y, ev, ea, hq⟩ => ?_⟩
  subst ev
  have KX : K.In s.heap := e0.mod.kin.keeps fun b o e => (e0.bs b o e).1
  have lim : s.heap.NoLimit := e0.mod.nolimit.keeps fun b o e => (e0.bs b o e).1
  cases r with
  | @cons _ u0 _ ur ra rw' =>
  obtain rfl : u0 = Value.ref a := ra
  cases rw' with
  | @cons _ u1 _ ur2 ry rn =>
  cases rn
  refine PySem.ks_codeAny_call_defAt (fd := PySem.W.fnX name qual (ixPars p) (ixBody p) ixScope [("__class__", cc)] dV kV doc pm an (.ref cda) ct) (body := ixBody p) (binds := (["self", "what"] : List Str).zip [Value.ref a, u1]) hr.depth (KX _ _ lk) rfl lim (PySem.W.codeRec_of KX hcd) rfl hb (show ∀ x ∈ ixScope.names, x.2 ≠ NameKind.cell by decide) (by
    intro x hx
    simp only [List.zip_cons_cons, List.zip_nil_left, List.mem_cons, List.not_mem_nil, or_false] at hx
    rcases hx with rfl | rfl <;> rfl) (fun h₁ hns kp => ?_)
  have S : NdefX.NScope ["self", "what", "__class__"] ["self", "what"] ["__class__"] ixScope := NdefX.nscope_by (by decide)
  obtain ⟨cl, cld, csl, hcell⟩ := O.cell
  have hcc : s.heap.get? cc = some ⟨cl, cld, .cell (some (.ref D)), csl⟩ := KX _ _ hcell
  have bcc : base.get? cc = some ⟨cl, cld, .cell (some (.ref D)), csl⟩ := e0.mod.kin _ _ hcell
  have C : NdefX.CellsAt [("__class__", cc)] ["__class__"] [none] s.heap H := by
    refine ⟨rfl, fun y c h => ?_, fun x y c h1 h2 => ?_, fun i y h => ?_⟩
    · have : (y, c) ∈ [(("__class__" : Str), cc)] := PySem.mem_of_lookup h
      simp at this
      obtain ⟨rfl, rfl⟩ := this
      exact ⟨(e0.bs _ _ bcc).2, _, ⟨_, hcc, rfl⟩⟩
    · have h1 : (x, c) ∈ [(("__class__" : Str), cc)] := PySem.mem_of_lookup h1
      have h2 : (y, c) ∈ [(("__class__" : Str), cc)] := PySem.mem_of_lookup h2
      simp at h1 h2
      rw [h1.1, h2.1]
    · cases i with
      | succ i => simp at h
      | zero =>
        simp at h
        subst h
        exact ⟨cc, rfl, fun v hv => by simp at hv⟩
  have I := NdefX.inv_startN (CX := CX) (E := E) (tk := s.toks + ((["self", "what"] : List Str).zip [Value.ref a, u1]).length) (F := ⟨name, qual, ixPars p, ixBody p, ixScope, [("__class__", cc)], cda⟩) (f := f) S hr.hd e0 (vs := [.ref a, y]) (us := [Value.ref a, u1]) rfl (.cons rfl (.cons ry .nil)) C hns kp
  obtain ⟨t1, ho⟩ := exo_at I.hok ea
  obtain ⟨ccl, cdd, cvs, ccs, file, tf, hcda, hvs, hfile⟩ := O.code
  have K1 : K.In h₁ := KX.keeps kp
  obtain ⟨oD, cdD, hD1, hD2, hcls⟩ : ∃ oD cdD, h₁.get? D = some oD ∧ oD.data = .cls cdD ∧ PySem.W.clsIn K D = some cdD := by
    obtain ⟨nm, q, N, bs, bm, sn, sub, ab, col, dd, k0, k1, k2, k3, k5, hC, hbm⟩ := O.T.cls
    exact ⟨_, _, K1 _ _ hC, rfl, by unfold PySem.W.clsIn; rw [hC] <;> rfl⟩
  have hlook : ∀ (x : Str) (u : Value), (x = "self" ∧ u = Value.ref a) ∨ (x = "what" ∧ u = u1) → (((["self", "what"] : List Str).zip [Value.ref a, u1]).reverse.lookup x) = some u := by
    rintro x u (⟨rfl, rfl⟩ | ⟨rfl, rfl⟩) <;> rfl
  have hII : PySem.W.InstAt h₁ a ({ cls := .ref D, dict := none, data := .fields #[.ref t1, .none, .none, .none, .bool false, .none] } : Obj) D none := ⟨ho, rfl, rfl, trivial⟩
  show _root_.PySem.wpAt (model P w) _ (.func (ixBody p) (PySem.W.envX qual ixScope s.heap.objs.size f (.ref cda) [("__class__", cc)])) (execs (ixBody p) (PySem.W.envX qual ixScope s.heap.objs.size f (.ref cda) [("__class__", cc)])) _ _ _
  unfold ixBody
  obtain ⟨pl, hpl⟩ := XC qual s.heap.objs.size f cc (.ref cda)
  refine PySem.ks_wpAt_execs_cons (PySem.ks_wpAt_Expr_any (PySem.ks_wpAt_MethodCall (pl := pl) ?_ hpl))
  · refine PySem.ks_wpAt_super_base (env := PySem.W.envX qual ixScope s.heap.objs.size f (.ref cda) [("__class__", cc)]) rfl rfl (by decide) rfl (K1 _ _ lk) rfl rfl rfl (K1 _ _ hcda) rfl hvs hfile O.top ?_
    obtain ⟨mb, b1, b2⟩ := e0.mod.blt
    have bk : ∀ b o, base.get? b = some o → h₁.get? b = some o := fun b o e => kp b o (e0.bs b o e).1
    refine PySem.W.ks_loadName_global (env := PySem.W.envX qual ixScope s.heap.objs.size f (.ref cda) [("__class__", cc)]) rfl rfl (Calls.loadGlobal_builtin (env := PySem.W.envX qual ixScope s.heap.objs.size f (.ref cda) [("__class__", cc)]) (e0.mod.glob.keeps bk) hsup (b1.keeps bk) ((b2 _ (by decide)).trans PyProof.Rows.Boot.«super») ⟨rfl, ?_⟩)
    refine wpAny_loadName_free (env := PySem.W.envX qual ixScope s.heap.objs.size f (.ref cda) [("__class__", cc)]) rfl rfl rfl ⟨_, K1 _ _ hcell, rfl⟩ ?_
    refine wpAny_loadName_local (env := PySem.W.envX qual ixScope s.heap.objs.size f (.ref cda) [("__class__", cc)]) rfl rfl hns (hlook "self" _ (.inl ⟨rfl, rfl⟩)) ?_
    refine PySem.ks_wpAny_isType_cls hD1 hD2 ⟨rfl, ?_⟩
    refine PySem.ks_wpAny_call_super hD1 hD2 ho rfl (fun c e => by cases e) (PySem.W.looks_mroIn K1 O.sub) (fun h2 eso k2 => ?_)
    have K2 : K.In h2 := K1.keeps k2
    have I2 : PySem.W.InstAt h2 a ({ cls := .ref D, dict := none, data := .fields #[.ref t1, .none, .none, .none, .bool false, .none] } : Obj) D none := ⟨k2 _ _ ho, rfl, rfl, trivial⟩
    have hal : PySem.W.alongIn K "__init__" ((cdD.mro.dropWhile (· != .ref D)).drop 1) = some (some (.builtin "ValueError.__init__")) := by
      have := O.sup
      unfold PySem.W.ks_superIn at this
      rw [hcls] at this
      exact this
    refine PySem.W.kxs_getMethod PySem.W.kxs_ValueError eso (PySem.W.looks_opaque K2 O.ot) (l₀ := cdD.mro) (fun A Q E s k q => wpAny_bind ((PySem.W.looks_clsIn K2 hcls) A _ E s k (wpAny_pure q))) rfl K2 hal (I2.type.andThen (PySem.W.looks_subIn K2 O.ve)) (PySem.W.ks_ne K2 I2 hcls) (by decide) ?_
    have hu : (h2.push (PySem.W.kxs_mw "ValueError.__init__" a)).get? h2.objs.size = some (PySem.W.kxs_mw "ValueError.__init__" a) := Heap.get?_push_at rfl rfl
    have kp3 : ∀ b o, h2.get? b = some o → (h2.push (PySem.W.kxs_mw "ValueError.__init__" a)).get? b = some o := fun b o e => Heap.get?_push_of_some _ e
    have hst : starEach [Expr.Name "what" p.p3] (PySem.W.envX qual ixScope s.heap.objs.size f (.ref cda) [("__class__", cc)]) = (false, eval (.Name "what" p.p3) (PySem.W.envX qual ixScope s.heap.objs.size f (.ref cda) [("__class__", cc)])) :: starEach [] (PySem.W.envX qual ixScope s.heap.objs.size f (.ref cda) [("__class__", cc)]) := rfl
    show wpAny _ _ (callWith p.p4 (.ref h2.objs.size) [] (backTo p.p4 (starEach [Expr.Name "what" p.p3] (PySem.W.envX qual ixScope s.heap.objs.size f (.ref cda) [("__class__", cc)]))) []) _ _ _
    rw [hst]
    refine PySem.W.kxs_callWith (i := "ValueError.__init__") (x := a) rfl ?_
    refine Calls.evalArgs_plain ?_
    refine PyProof.Rows.spliced_more (rest := []) ?_ hst
    have hns3 : (h2.push (PySem.W.kxs_mw "ValueError.__init__" a)).Ns s.heap.objs.size (fun x => (((["self", "what"] : List Str).zip [Value.ref a, u1]).reverse.lookup x)) := (hns.keeps k2).keeps kp3
    refine wpAny_Name (wpAny_loadName_local rfl rfl hns3 (hlook "what" u1 (.inr ⟨rfl, rfl⟩)) ?_) (by decide)
    refine PyProof.Rows.spliced_none ?_
    refine ⟨hu, ?_⟩
    obtain ⟨nm, q, N, bs, bm, sn, sub, ab, col, dd, k0, k1, k2', k3, k5, hC, hbm⟩ := O.T.cls
    have K3 : K.In (h2.push (PySem.W.kxs_mw "ValueError.__init__" a)) := K2.keeps kp3
    have ho3 := kp3 _ _ (k2 _ _ ho)
    have FB := PySem.F.excBase_ValueError
    show wpAny _ _ (call (.ref h2.objs.size) [u1]) _ _ _
    refine wpAny_call (codeAny_of_tree ?_)
    show wpAny _ _ (callAny (.ref h2.objs.size) ⟨[u1], []⟩) _ _ _
    simp only [callAny]
    refine wpAny_bind (wpAny_load hu ?_)
    simp only [PySem.W.kxs_mw, show (Value.type "method-wrapper" == Value.type "method" || Value.type "method-wrapper" == Value.type "builtin_function_or_method" || Value.type "method-wrapper" == Value.type "method-wrapper") = true by decide, if_true]
    refine PySem.W.KFB.if_so (by decide) ?_
    refine wpAny_bind (PySem.W.check_bound_init FB.toExcCallFacts (K3 _ _ hC) ho3 rfl ?_)
    refine wpAny_bind (wpAny_pure (wpAny_pure ?_))
    refine ⟨PySem.plainId_quiet FB.init.plain _, codeAny_builtin FB.initEntry ?_⟩
    refine PySem.W.exc_init_tree (cls := .ref D) (t0 := t1) (dv := none) (c2 := .none) (c3 := .none) (b4 := .bool false) ho3 (by rw [sizeLine_eq]; simp) fun h4 k4 ho4 _ => ?_
    have I4 := I.write (t' := s.toks + ((["self", "what"] : List Str).zip [Value.ref a, u1]).length + 1) (x := a) (e := a) (o := exo a D none) (by rw [ea]; exact True.intro) (.inl rfl) (fun b o hb e => k4 b o hb (kp3 b o (k2 b o e))) ⟨_, ho4⟩ (exo_ok ho4)
    have eu : upd H a (exo a D none) = H := by
      funext b
      by_cases hb : b = a
      · rw [hb, upd_same, ea]
      · rw [upd_ne hb]
    rw [eu] at I4
    refine wpAt_of_wpAny ?_
    have hq2 : tOst K "what" (tVar 0) (tVar 1) { nx := fun _ H' => Q .non H', rt := Q } (NdefX.startF ["self", "what", "__class__"] [.ref a, y] [none]) H := ⟨y, rfl, .ref a, rfl, a, D, rfl, O.T, O.no, .inl ⟨ea, hq⟩⟩
    have run : PSs (NdefX.ncx CX P w K mg base ["self", "what", "__class__"] ⟨name, qual, ixPars p, ixBody p, ixScope, [("__class__", cc)], cda⟩ f A outer s H E) [.Assign [.Attribute (.Name "self" p.p6) "what" p.p7] (.Name "what" p.p8) p.p9] (tOst K "what" (tVar 0) (tVar 1)) :=
      pss_one (ps_ost (pe_var (i := 0) (x := "self") rfl (.inl rfl) (by decide) (by decide)) (pe_var (i := 1) (x := "what") rfl (.inl rfl) (by decide) (by decide)) rfl)
    refine wpAny_mono (run.run [] _ _ H { nx := fun _ H' => Q .non H', rt := Q } I4 hq2) (fun fl s' hs => ?_) fun e s' hs => hs
    cases fl with
    | ret u =>
      obtain ⟨v, σ', H', J, rv, q⟩ := hs
      exact ⟨v, H', J.os, J.bare, J.base, J.hok, rv, q⟩
    | next =>
      obtain ⟨σ', H', J, q⟩ := hs
      exact ⟨.non, H', J.os, J.bare, J.base, J.hok, rfl, q⟩
    | brk =>
      obtain ⟨_, _, _, q⟩ := hs
      exact False.elim q
    | cont =>
      obtain ⟨_, _, _, q⟩ := hs
      exact False.elim q
end Oz

/-! Oz63: raise c("..") and try: return f(..) / except c as e: return e.what, c an own exception -/
namespace Oz
open PySem PySem.Spec L2
open PyProof.Rows hiding St
structure Rfs (P : Program) (K : PySem.W.Frag) (mg : Str → Option Value) (c : Str) : Prop where
  ex : ∃ (p : XiPos) (cc cda fI : Addr) (fd : FuncData), XiOk P K (He.ga K c) fI p cc cda fd ∧ XiCall p ∧ Binds K fd ["self", "what"] [] ∧ PySem.W.findIn K (.ref (He.ga K c)) "__init__" = some (some (.ref fI)) ∧ PySem.W.typeIn K (.ref fI) = some (.type "function")
  at_ : mg c = some (.ref (He.ga K c))
  xf : XfC K (He.ga K c)
  sup : mg "super" = none
  self : PySem.W.exmOne K (.ref (He.ga K c)) (.ref (He.ga K c)) = some true
variable [WD]
def sRse (c : Str) (d : D) : Stx := fun ρ => .exc c [("what", d)] ρ
theorem s_raise {X : Cx} {E : XK} {c t : Str} {j} {p q pos pos' : Pos} {k : Nat} (R : Rfs X.prog X.K X.mg c) (hr : Room k X.A) (tk : Takes X (fun cls d _ H => E cls d H)) (hk : 2 ≤ k := by decide) (hc : X.calm = true := by rfl) (hg : Gl X c := by rfl) (hdb : (c == ("__debug__" : Str)) = false := by decide) :
    PS X (.Raise (some (.Call (.Name c p) [.Constant (.str t) j q] [] pos)) none pos') (tS X.K E (sRse c (.str t))) := by
  obtain ⟨xp, cc, cda, fI, fd, O, XC, hb, iC, tI⟩ := R.ex
  refine (ps_raise hc tk (pmk_oex (CX := CX0) O.T iC tI (fn_xinit O XC R.sup) (hr.mono hk) hb .nil passE hg R.at_ (pa_cons pe_str pa_nil) hdb)).imp fun D σ H h => ?_
  obtain ⟨Z, O', ρ, F, rl, nv, h⟩ := h
  refine ⟨by simp, fun a na => ?_⟩
  refine ⟨a, .str t, rfl, upd_same, fun dx nd ne => ?_⟩
  have nd1 : H dx = none := by rw [upd_ne ne] at nd; exact nd
  refine ⟨rfl, dx, [("what", .str t)], upd_same, by rw [upd_ne ne]; exact upd_same, nd1, ?_⟩
  have eh : upd (del (upd (upd (upd H a (exo a (He.ga X.K c) none)) dx (exd dx [("what", V.str t)])) a (exo a (He.ga X.K c) (some dx))) a) dx (.xd [("what", V.str t)]) = upd H dx (.xd [("what", V.str t)]) := by
    funext b
    by_cases h1 : b = dx
    · rw [h1, upd_same, upd_same]
    · rw [upd_ne h1, upd_ne h1]
      by_cases h2 : b = a
      · rw [h2, del_same, na]
      · rw [del_ne h2, upd_ne h2, upd_ne h1, upd_ne h2]
  rw [eh]
  obtain ⟨ex, g⟩ := ext_new rl.g nd1 (o := .xd [("what", V.str t)]) rfl
  exact h σ _ Z O' F dx _ (rl.ext ex g) (TrS.ext ex) upd_same rfl (.cons (.str t) .nil)
def tryE (y : Option (Option R)) (fs : List (Str × D)) (ρ : Ev) : SR := match y, fs with
  | some none, [(f, d)] => if f = "what" then .ret ⟨.imm, d⟩ ρ else .bad
  | _, _ => .bad
/-- try: return f(..) / except c as n: return n.what -/
def sTry (i : Nat) (c : Str) (m : Fn) (md : List Md) (qs : List Px) : Stx := fun ρ => match pCall m md qs ρ with
  | .bad => .bad
  | .ok r => if storable r = true then .ret r ρ else .bad
  | .exc c' fs => if c' = c then tryE ρ[i]? fs ρ else .bad
section
variable {X : Cx} {E : XK} {c n x : Str} {i k k' : Nat} {md : List Md} {ps : List Str} {m : Fn} {p np p1 p2 p3 rp pos pos' pos'' : Pos} {e : Expr} {es : List Expr} {qs : List Px}
end
end Oz

/-! Oz64: the head's Hook with own exceptions -/
namespace Oz
open PySem PySem.Spec L2
open PyProof.Rows hiding St
theorem oexB_ok {K : PySem.W.Frag} {C : Addr} (h : oexB K C = true) : ∃ nm q N bs bm sn sub ab col dd k0 k1 k2 k3 k5, K.lookup C = some (excClassObj nm q C N bs bm true sn sub ab col dd k0 k1 k2 k3 k5 "ValueError.__new__") ∧ PySem.HandSPX.refsVE bm = true := by
  unfold oexB at h
  split at h
  · rename_i dd cd sl ho
    split at h
    · rename_i C' bm k0 k1 k2 k3 n k5 hm hs
      simp only [Bool.and_eq_true, beq_iff_eq, Bool.not_eq_true'] at h
      obtain ⟨rfl, rfl, hdel, hdict, ht⟩ := h
      obtain ⟨nm, bs, mro, ns, qn, hd, sn, sub, ab, col, del⟩ := cd
      dsimp only at hm hdel hdict
      subst hm hdel hdict
      refine ⟨nm, qn, ns, bs, bm, sn, sub, ab, col, dd, k0, k1, k2, k3, k5, ?_, ht⟩
      rw [ho]
      have : sl = #[k0, k1, k2, k3, some (.builtin "ValueError.__new__"), k5] := by
        rw [← Array.toList_inj]
        exact hs
      rw [this]
    · cases h
  · cases h
theorem rfs_of {P : Program} {K : PySem.W.Frag} {mg : Str → Option Value} {fl : Str} {r : RfD} (h1 : rfW K r.c = r.val) (h2 : rfB K fl r.c = true) (hfl : P.main.file = fl) (htop : (P.main.scope.names.lookup ("super" : Str)).isSome = false) (XC : XiCall r.p) (hat : mg r.c = some (.ref (He.ga K r.c))) (hsup : mg "super" = none) : Rfs P K mg r.c := by
  unfold rfB at h2
  simp only [Bool.and_eq_true, decide_eq_true_eq] at h2
  obtain ⟨a1, a2, a3, a4, a5, a6, a7, a8, a9, b1, b2, b3, b4, b5, b6⟩ := h2
  have key : ∃ (cc cda : Addr) (fd : FuncData), XiOk P K (He.ga K r.c) (He.ma K (He.ga K r.c) "__init__") r.p cc cda fd ∧ Binds K fd ["self", "what"] [] := by
    unfold rfW RfD.val at h1
    unfold initB at a2
    cases q : K.lookup (He.ma K (He.ga K r.c) "__init__") with
    | none => rw [q] at a2; cases a2
    | some o =>
      obtain ⟨oc, od, dt, osl⟩ := o
      rw [q] at a2 h1
      cases dt with
      | func fd =>
        obtain ⟨n1, n2, n3, n4, n5, n6, n7, n8, n9, n10, n11, n12, n13, n14, n15⟩ := fd
        have e2 : (some (n3, n4, n5, n6, n7.map (·.1), n15) : RfW) = (some (ixPars r.p, FuncBody.stmts (ixBody r.p), ixScope, mainGlobals, [("__class__" : Str)], builtinsNs) : RfW) := h1
        simp only [Option.some.injEq, Prod.mk.injEq] at e2
        obtain ⟨h1, h2, h3, h4, h5, h6⟩ := e2
        subst h1 h2 h3 h4 h6
        dsimp only at a2
        split at a2
        · rename_i cda y cc
          obtain ⟨w1, w2⟩ := Bool.and_eq_true_iff.mp a2
          obtain ⟨w3, w4⟩ := Bool.and_eq_true_iff.mp w2
          have hy : y = "__class__" := by simpa using h5
          subst hy
          refine ⟨cc, cda, _, ⟨⟨oexB_ok a1, a3, a4, a5, a6⟩, ⟨n1, n2, .none, n9, n10, n11, n14, oc, n12, od, osl, rfl, q, w1⟩, ?_, ?_, a9, b1, b2, b3, b4, htop⟩, ?_⟩
          · split at w3
            · rename_i vs _ hv
              split at w3
              · rename_i file tf hf
                exact ⟨_, _, vs, _, file, tf, hv, hf, by rw [hfl]; exact w3⟩
              · cases w3
            · cases w3
          · split at w4
            · rename_i D _ hv
              have : D = He.ga K r.c := by simpa using w4
              subst this
              exact ⟨_, _, _, hv⟩
            · cases w4
          · refine .all fun us hl => ?_
            cases us with
            | nil => simp at hl
            | cons a us =>
              cases us with
              | nil => simp at hl
              | cons b us =>
                cases us with
                | nil => rfl
                | cons _ _ => simp at hl
        · cases a2
      | _ => cases a2
  obtain ⟨cc, cda, fd, O, hb⟩ := key
  exact ⟨⟨r.p, cc, cda, _, fd, O, XC, hb, a7, a8⟩, hat, xfB_ok b5, hsup, b6⟩
theorem SaysE.rf {fa : List He.Fa} {fn : List He.DefD} {ck : PySem.W.Frag → Bool} {dn : List (Str × List Str)} {tf : List He.Defn} {rs : List RfD} {fl : Str} {w : World} {h : Heap} {K : PySem.W.Frag} (c : SaysE fa fn ck dn tf rs fl w h K) {P : Program} {mg : Str → Option Value} (i : Nat) {r : RfD} (hi : rs[i]? = some r := by rfl) (hfl : P.main.file = fl) (htop : (P.main.scope.names.lookup ("super" : Str)).isSome = false) (XC : XiCall r.p) (hat : mg r.c = some (.ref (He.ga K r.c))) (hsup : mg "super" = none) : Rfs P K mg r.c := by
  have e := congrArg (fun l => l[i]?) c.r1
  simp only [List.getElem?_map, hi, Option.map_some, Option.some.injEq] at e
  exact rfs_of e (List.all_eq_true.mp c.r2 r (List.mem_of_getElem? hi)) hfl htop XC hat hsup
end Oz

/-! Oz65: list(range(n)); the simp lemmas of raise and try -/
namespace Oz
open PySem PySem.Spec L2
open PyProof.Rows hiding St
variable [WD]
def rgD (n : Int) : List D := (List.range n.toNat).map fun i => PyData.int ((i : Nat) : Int)
noncomputable def pLRg (p : Px) : Px := fun ρ => (p ρ).bind fun r => match r.d with
  | .int n => if gd (decide (0 ≤ n ∧ n ≤ 1000000)) = true then dnew .own (rgD n) else .bad
  | _ => .bad
@[simp] theorem x_lRg {p : Px} {ρ : Ev} : pLRg p ρ = ((p ρ).bind fun r => match r.d with
  | .int n => if gd (decide (0 ≤ n ∧ n ≤ 1000000)) = true then dnew .own (rgD n) else .bad
  | _ => .bad) := id rfl
@[simp] theorem x_rse {c : Str} {d : PyData} {ρ : Ev} : sRse c d ρ = .exc c [("what", d)] ρ := id rfl
@[simp] theorem x_tryE1 {f : Str} {d : PyData} {ρ : Ev} : tryE (some none) [(f, d)] ρ = if f = "what" then .ret ⟨.imm, d⟩ ρ else .bad := id rfl
@[simp] theorem x_try {i : Nat} {c : Str} {m : Fn} {md : List Md} {qs : List Px} {ρ : Ev} : sTry i c m md qs ρ = (match pCall m md qs ρ with
  | .bad => .bad
  | .ok r => if storable r = true then .ret r ρ else .bad
  | .exc c' fs => if c' = c then tryE ρ[i]? fs ρ else .bad) := id rfl
end Oz

/-! Oz66: a law whose own body calls what may raise, and never lets anything out -/
namespace Oz
open PySem PySem.Spec L2
open PyProof.Rows hiding St
variable [WD]
end Oz

/-! Oz67: any and all of a generator expression whose element is any expression: its frame is a context of its own. -/
namespace Oz
open PySem PySem.Spec PyProof.Rows L2
variable [WD]
section
variable {X : Cx} {pins : List (Addr × Obj)} {σ : L2.St} {H : Hp} {s : Shared}
end
/-! ### its turns -/
def GEnd (Y : Cx) (Qa : Hp → Prop) (_ : Nat) (_ s₁ : Shared) : Prop := ∃ σ' H', Inv Y [] σ' H' s₁ ∧ Qa H'
def GYld (Y : Cx) (all : Bool) (Q : Bool → Hp → Prop) : Protocol := fun _ _ v s kap => ∃ b σ' H', v = .bool b ∧ Inv Y [] σ' H' s ∧ (if b = all then ∀ s'' : Shared, s''.heap = s.heap → s''.os = s.os → AllBare s''.gens → kap (.send .none) s'' else Q b H')
section
variable {Y : Cx} {A : Around} {scope : Scope} {elt tg iter : Expr} {gpos : Pos} {fp : List Addr} {a it : Addr} {go : Obj} {tn : Nat → Heap → Prop} {J : It} {g : TG} {te : TE} {all : Bool} {W : Nat → Nat → Hp → Prop} {Q : Bool → Hp → Prop} {σ0 : L2.St} {vs : List Nat}
end
end Oz

/-! Oz68: any and all over Oz67's generators; the generator expression made. -/
namespace Oz
open PySem PySem.Spec PyProof.Rows L2
variable [WD]
section
variable {Y : Cx} {A : Around} {a g : Nat} {Q : Bool → Hp → Prop} {R : Result → Shared → Prop}
end
/-! ### the generator expression made -/
structure GRd (X : Cx) (pins : List (Addr × Obj)) (σ : L2.St) (all : Bool) (Q : VK) (a : Nat) (s5 : Shared) (Y : Cx) (n g : Nat) : Prop where
  pr : Y.prog = X.prog
  w : Y.w = X.w
  pin : ∀ σ' H' s', Inv Y [] σ' H' s' → s'.heap.IsGen a g
  gen : s5.heap.IsGen a g
  lim : s5.heap.NoLimit
  go : ∃ gs, s5.gens[g]? = some gs ∧ gs.Goes (model Y.prog Y.w) X.A.in1.in1 (fun n s₀ r s₁ => r = .ok .next ∧ GEnd Y (fun H' => Q (.bl all) H') n s₀ s₁) (GYld Y all fun b H' => Q (.bl b) H') n (.send .none) (s5.setGen g .running)
  fin : ∀ b σ' H' s' s'', Inv Y [] σ' H' s' → Q (.bl b) H' → s''.os = s'.os → (∀ b o, s'.heap.get? b = some o → s''.heap.get? b = some o) → AllBare s''.gens → EP X pins σ Q (.bool b) s''
section
variable {X : Cx} {pins : List (Addr × Obj)} {σ : L2.St} {H : Hp} {s : Shared}
end
end Oz

/-! Oz69: any(e for t in xs), all(e for t in xs), e any expression: rules. -/
namespace Oz
open PySem PySem.Spec PyProof.Rows L2
variable [WD]
section
variable {X : Cx} {pins : List (Addr × Obj)} {σ : L2.St} {H : Hp} {s : Shared}
end
/-! ### its mirror -/
def anyE (all : Bool) (g : Tgx) (p : Px) (ρ0 : Ev) : List R → Option Bool
  | [] => some all
  | r :: rs => (match g r ρ0 with
    | none => none
    | some ρ1 => (match p ρ1 with
      | .ok ⟨_, .bool b⟩ => if b = all then anyE all g p ρ0 rs else some b
      | _ => none))
def pAnyX (all : Bool) (vs : List Nat) (src : Src) (g : Tgx) (p : Px) : Px := fun ρ => if nov ρ = true then (src ρ).bind fun rs => (match anyE all g p (wipeE ρ vs) rs with
  | some b => .ok ⟨.imm, .bool b⟩
  | none => .bad) else .bad
section
variable {X : Cx} {E : XK} {P : Addr} {all : Bool} {vs is : List Nat} {w : TI} {src : Src} {t : TG} {g : Tgx} {p : Px} {σ : L2.St} {H : Hp} {Q : VK}
end
section
variable {X : Cx} {E : XK} {c P : Addr} {elt tg iter : Expr} {pf pos gpos : Pos} {scope : Scope} {own : List (Str × Nat)} {is : List Nat} {w : TI} {src : Src} {t : TG} {g : Tgx} {p : Px} {k : Nat}
end
@[simp] theorem x_anyX {all : Bool} {vs : List Nat} {src : Src} {g : Tgx} {p : Px} {ρ : Ev} : pAnyX all vs src g p ρ = if nov ρ = true then (src ρ).bind fun rs => (match anyE all g p (wipeE ρ vs) rs with
  | some b => .ok ⟨.imm, .bool b⟩
  | none => .bad) else .bad := id rfl
end Oz

/-! Oz70: zip of two lists, for comprehensions and generator expressions. -/
namespace Oz
open PySem PySem.Spec L2
open PyProof.Rows hiding St
variable [WD]
def zpR (r r' : R) : R := ⟨if r.s = .imm ∧ r'.s = .imm then .imm else .view, .tuple [r.d, r'.d]⟩
section
variable {K : PySem.W.Frag} {E : XK} {Z O H Z' O' H' : Hp} {G G' : List Addr}
end
def srcZ (p q : Px) : Src := fun ρ => (p ρ).bind fun r => (q ρ).bind fun r' => match r.d, r'.d with
  | .list ds, .list ds' => .ok (List.zipWith zpR (ds.map (Oz.sub r.s)) (ds'.map (Oz.sub r'.s)))
  | _, _ => .bad
section
variable {K : PySem.W.Frag} {E : XK}
end
@[simp] theorem x_srcZ {p q : Px} {ρ : Ev} : srcZ p q ρ = ((p ρ).bind fun r => (q ρ).bind fun r' => match r.d, r'.d with
  | .list ds, .list ds' => .ok (List.zipWith zpR (ds.map (Oz.sub r.s)) (ds'.map (Oz.sub r'.s)))
  | _, _ => .bad) := id rfl
end Oz

/-! Oz71: max(l, default=i) of a list of ints. -/
namespace Oz
open PySem PySem.Spec L2 PySem.Calls PySem.W
open PyProof.Rows hiding St
variable [WD]
noncomputable section
def mxI (i : Int) : List Int → Int
  | [] => i
  | n :: ns => ns.foldl max n
end
noncomputable def pMaxDf (i : Int) (p : Px) : Px := fun ρ => (p ρ).bind fun r => match r.d with
  | .list ds => (match intsD ds with
    | some ns => .ok ⟨.imm, .int (mxI i ns)⟩
    | none => .bad)
  | _ => .bad
section
variable {X : Cx} {E : XK} {p0 pos kpos cpos : Pos} {e : Expr} {p : Px} {i : Int} {j : Option Str}
end
@[simp] theorem x_maxDf {i : Int} {p : Px} {ρ : Ev} : pMaxDf i p ρ = ((p ρ).bind fun r => match r.d with
  | .list ds => (match intsD ds with
    | some ns => .ok ⟨.imm, .int (mxI i ns)⟩
    | none => .bad)
  | _ => .bad) := id rfl
end Oz

/-! Oz72: while, with at most so many turns. -/
namespace Oz
open PySem PySem.Spec L2
open PyProof.Rows hiding St
variable [WD]
def whileS (t : Tx) (b : Stx) : Nat → Ev → SR
  | 0, _ => .bad
  | n + 1, ρ => (match t ρ with
    | .bad => .bad
    | .exc c fs => .exc c fs ρ
    | .ok false => .next ρ
    | .ok true => (match b ρ with
      | .next ρ' => whileS t b n ρ'
      | x => x))
def sWhile (n : Nat) (t : Tx) (b : Stx) : Stx := fun ρ => whileS t b n ρ
@[simp] theorem x_while {n : Nat} {t : Tx} {b : Stx} {ρ : Ev} : sWhile n t b ρ = whileS t b n ρ := id rfl
end Oz

namespace Oz
open PySem PySem.Spec L2
open PyProof.Rows hiding St
variable [WD]
/-! ### a list's display that lasts -/
def pLstF (ps : List Px) : Px := fun ρ => (evs ps ρ).bind fun rs => match frzs rs with
  | some ds => if ds.length ≤ sizeLine then .ok ⟨.imm, .list ds⟩ else .bad
  | none => .bad
section
variable {X : Cx} {E : XK} {es : List Expr} {ps : List Px} {pos : Pos}
end
@[simp] theorem x_lstF {ps : List Px} {ρ : Ev} : pLstF ps ρ = ((evs ps ρ).bind fun rs => match frzs rs with | some ds => if ds.length ≤ sizeLine then .ok ⟨.imm, .list ds⟩ else .bad | none => .bad) := id rfl
end Oz

/-! Oz74: t[::-1] of a tuple. -/
namespace Oz
open PySem PySem.Spec L2 HT
open PyProof.Rows hiding St
section
variable {prog : Program} {w : World} {A : Around} {E : Value → Shared → Prop} {s : Shared}
end
theorem Reps.reverse {K : PySem.W.Frag} {C : Hp} : ∀ {vs : List V} {ds : List D}, Reps K C vs ds → Reps K C vs.reverse ds.reverse
  | _, _, .nil => .nil
  | _, _, .cons h hs => by rw [List.reverse_cons, List.reverse_cons]; exact (Reps.reverse hs).append (.cons h .nil)
variable [WD]
def pRevT (p : Px) : Px := fun ρ => (p ρ).bind fun r => match r.d with
  | .tuple ds => tnew r.s ds.reverse
  | _ => .bad
section
variable {K : PySem.W.Frag} {E : XK} {H : Hp} {σ : St} {Q : VK}
end
section
variable {X : Cx} {E : XK} {e : Expr} {p : Px} {k : Nat} {p1 p2 p3 pos : Pos}
end
@[simp] theorem x_revT {p : Px} {ρ : Ev} : pRevT p ρ = (p ρ).bind fun r => match r.d with
  | .tuple ds => tnew r.s ds.reverse
  | _ => .bad := id rfl
end Oz

/-! Oz75: a list of one's own that is given to another slot and looked at behind that. -/
namespace Oz
open PySem PySem.Spec L2
open PyProof.Rows hiding St
variable [WD]
def kpE (j x a : Nat) (ρ : Ev) : Option Ev := match ρ[j]? with
  | some (some ⟨.brw, d⟩) => gvE j x a d (ρ.set j none)
  | _ => none
def kpS (j x a : Nat) : SR → SR
  | .bad => .bad
  | .next ρ => (match kpE j x a ρ with
    | some ρ' => .next ρ'
    | none => .bad)
  | .ret r ρ => (match kpE j x a ρ with
    | some ρ' => .ret r ρ'
    | none => .bad)
  | .exc c fs ρ => (match kpE j x a ρ with
    | some ρ' => .exc c fs ρ'
    | none => .bad)
def kpB (j a : Nat) (ds : List D) (s2 : Stx) : SR → SR
  | .next ρ => (match ρ[j]? with
    | some (some ⟨.imm, t⟩) => if isPtr a (some t) = true then s2 (ρ.set j (some ⟨.brw, .list ds⟩)) else .bad
    | _ => .bad)
  | _ => .bad
noncomputable def sKeep (j x : Nat) (s1 s2 : Stx) : Stx := fun ρ => match ρ[j]? with
  | some (some ⟨.own, .list ds⟩) => if j ≠ x then ali fun a => kpS j x a (kpB j a ds s2 (s1 (ρ.set j (some ⟨.imm, ptrD a⟩)))) else .bad
  | _ => .bad
section
variable {K : PySem.W.Frag} {E : XK} {Z O H : Hp} {σ : St} {ρ ρ' : Ev} {F : List Addr} {j x : Nat} {a : Addr} {d : D}
theorem kp_nov (h : kpE j x a ρ = some ρ') : nov ρ = true := by
  unfold kpE at h
  split at h
  · rename_i d e
    have n := (gvE_some h).1
    unfold nov at n ⊢
    rw [List.all_eq_true] at n ⊢
    intro y hy
    obtain ⟨i, hi⟩ := List.getElem?_of_mem hy
    by_cases ij : j = i
    · subst ij
      rw [e] at hi
      cases hi
      rfl
    · exact n y (List.mem_of_getElem? (i := i) (by rw [List.getElem?_set_ne ij]; exact hi))
  · cases h
theorem kp_ok (rl : Rel K Z O H σ ρ F) (jx : j ≠ x) (n : nov ρ = true) (hj : σ[j]? = some (some (.ref a))) (h : kpE j x a ρ = some ρ') :
    ∃ F', Rel K Z O H σ ρ' F' ∧ nov ρ' = true ∧ (∀ c ∈ F', c ∈ F) ∧ ∀ (m : Nat) (dm : D), m ≠ j → ρ[m]? = some (some (R.mk .brw dm)) → ∃ d', ρ'[m]? = some (some (R.mk .brw d')) := by
  unfold kpE at h
  split at h
  · rename_i d e
    obtain ⟨hl, _⟩ := List.getElem?_eq_some_iff.mp e
    obtain ⟨y, y', F1, G, F2, h1, h2, h3, h4, h5⟩ := rl.sl.focus hl
    rw [e] at h2
    cases h2
    rw [hj] at h1
    cases h1
    have ow : Own K Z H (.ref a) d G := RepS.rep h4 nofun
    have sl := h5 (some (.ref a)) none [] Z O H (Same.refl _) (Same.refl _) (.inl fun _ _ q _ => q) (fun a _ o q _ => q) rfl
    rw [set_same hj] at sl
    have nF := rl.nd
    rw [h3] at nF
    obtain ⟨m1, m2, m3⟩ := List.nodup_append.mp nF
    obtain ⟨m4, m5, m6⟩ := List.nodup_append.mp m2
    have sb : (F1 ++ ([] ++ F2)).Sublist F := by
      rw [h3, List.nil_append]
      exact List.Sublist.append (List.Sublist.refl _) (List.sublist_append_right _ _)
    have dG : ∀ c ∈ G, c ∉ F1 ++ ([] ++ F2) := fun c hc z => by
      rcases List.mem_append.mp z with z | z
      · exact m3 c z c (List.mem_append_left _ hc) rfl
      · exact m6 c hc c (by simpa using z) rfl
    have inF : ∀ c ∈ G, c ∈ F := fun c hc => by rw [h3]; simp [hc]
    obtain ⟨F', r1, r2, r3, r4⟩ := gv_ok ⟨rl.g, rl.nd.sublist sb, fun c hc => rl.fo c (sb.subset hc), sl, rl.tb⟩ jx ow m4 dG (fun c hc => rl.fo c (inF c hc)) h
    exact ⟨F', r1, r2, fun c hc => (r3 c hc).elim (fun z => sb.subset z) (inF c), fun m dm hm hb => r4 m dm hm (by rw [List.getElem?_set_ne (Ne.symm hm)]; exact hb)⟩
  · cases h
theorem SRK.kp {Z1 O1 H1 : Hp} {σ1 : St} {ρ1 : Ev} {F1 : List Addr} {nx : St → Hp → Prop} {rt : VK} {r : SR} (jx : j ≠ x) (t : TrS Z O H σ ρ F Z1 O1 H1 σ1 ρ1 F1) (hj : σ1[j]? = some (some (.ref a))) (hb : ∃ d, ρ1[j]? = some (some (R.mk .brw d)))
    (nj : ∀ d, ρ[j]? ≠ some (some (R.mk .brw d))) (h : SRK K E Z O H σ ρ F nx rt (kpS j x a r)) : SRK K E Z1 O1 H1 σ1 ρ1 F1 nx rt r := by
  obtain ⟨db, hb⟩ := hb
  have fin : ∀ {σ' : St} {H' Z' O' : Hp} {F' F'' : List Addr} {ρ' ρ'' : Ev}, (∀ (m : Nat) (dm : D), m ≠ j → ρ'[m]? = some (some (R.mk .brw dm)) → ∃ d', ρ''[m]? = some (some (R.mk .brw d'))) → (∀ c ∈ F'', c ∈ F') → TrS Z1 O1 H1 σ1 ρ1 F1 Z' O' H' σ' ρ' F' → TrS Z O H σ ρ F Z' O' H' σ' ρ'' F'' := fun {σ' H' Z' O' F' F'' ρ' ρ''} e sb u => by
    have w := t.trans u
    refine ⟨⟨w.tr.z, w.tr.keep, w.tr.zn, fun c hc => w.tr.fn c (sb c hc), w.tr.fr, w.tr.tab⟩, w.o, w.len, fun m d hm => ?_, w.on⟩
    obtain ⟨q1, d1, q2⟩ := w.brw m d hm
    exact ⟨q1, e m d1 (fun z => nj d (z ▸ hm)) q2⟩
  have at_ : ∀ {σ' : St} {H' Z' O' : Hp} {F' : List Addr} {ρ' : Ev}, TrS Z1 O1 H1 σ1 ρ1 F1 Z' O' H' σ' ρ' F' → σ'[j]? = some (some (.ref a)) := fun u => by rw [(u.brw j db hb).1]; exact hj
  cases r with
  | bad => exact h
  | next ρ' =>
    intro σ' H' Z' O' F' rl n u
    have h2 : SRK K E Z O H σ ρ F nx rt (match kpE j x a ρ' with | some ρ' => .next ρ' | none => .bad) := h
    cases e : kpE j x a ρ' with
    | none => rw [e] at h2; exact h2.elim
    | some ρ'' =>
      rw [e] at h2
      obtain ⟨F'', rl2, n2, sb, bw⟩ := kp_ok rl jx n (at_ u) e
      exact h2 σ' H' Z' O' F'' rl2 n2 (fin bw sb u)
  | ret r ρ' =>
    intro v σ' H' Z' O' F' G rl w nd fo u u2
    have h2 : SRK K E Z O H σ ρ F nx rt (match kpE j x a ρ' with | some ρ' => .ret r ρ' | none => .bad) := h
    cases e : kpE j x a ρ' with
    | none => rw [e] at h2; exact h2.elim
    | some ρ'' =>
      rw [e] at h2
      obtain ⟨F'', rl2, n2, sb, bw⟩ := kp_ok rl jx (kp_nov e) (at_ u2) e
      have w2 := fin bw sb u2
      obtain ⟨d1, d2, d3⟩ := List.nodup_append.mp nd
      have u' := t.tr.trans u
      refine h2 v σ' H' Z' O' F'' G rl2 w ?_ fo ⟨u'.z, u'.keep, u'.zn, fun c hc => ?_, u'.fr, u'.tab⟩ w2
      · rw [List.nodup_append]
        exact ⟨rl2.nd, d2, fun x hx y hy => d3 x (sb x hx) y hy⟩
      · rcases List.mem_append.mp hc with hc | hc
        · exact u'.fn c (List.mem_append_left _ (sb c hc))
        · exact u'.fn c (List.mem_append_right _ hc)
  | exc c fs ρ' =>
    intro σ' H' Z' O' F' d xs rl u hd e1 e2
    have h2 : SRK K E Z O H σ ρ F nx rt (match kpE j x a ρ' with | some ρ' => .exc c fs ρ' | none => .bad) := h
    cases e : kpE j x a ρ' with
    | none => rw [e] at h2; exact h2.elim
    | some ρ'' =>
      rw [e] at h2
      obtain ⟨F'', rl2, n2, sb, bw⟩ := kp_ok rl jx (kp_nov e) (at_ u) e
      exact h2 σ' H' Z' O' F'' d xs rl2 (fin bw sb u) hd e1 e2
end
/-! ### reckoning -/
section
variable {ρ : Ev}
@[simp] theorem x_keep {j x : Nat} {s1 s2 : Stx} : sKeep j x s1 s2 ρ = (match ρ[j]? with
  | some (some ⟨.own, .list ds⟩) => if j ≠ x then ali fun a => kpS j x a (kpB j a ds s2 (s1 (ρ.set j (some ⟨.imm, ptrD a⟩)))) else .bad
  | _ => .bad) := id rfl
@[simp] theorem x_kpB {j a : Nat} {ds : List D} {s2 : Stx} : kpB j a ds s2 (.next ρ) = (match ρ[j]? with
    | some (some ⟨.imm, t⟩) => if isPtr a (some t) = true then s2 (ρ.set j (some ⟨.brw, .list ds⟩)) else .bad
    | _ => .bad) := id rfl
@[simp] theorem x_kpE {j x a : Nat} : kpE j x a ρ = (match ρ[j]? with
  | some (some ⟨.brw, d⟩) => gvE j x a d (ρ.set j none)
  | _ => none) := id rfl
@[simp] theorem x_kpSn {j x a : Nat} : kpS j x a (.next ρ) = (match kpE j x a ρ with
    | some ρ' => .next ρ'
    | none => .bad) := id rfl
@[simp] theorem x_kpSr {j x a : Nat} {r : R} : kpS j x a (.ret r ρ) = (match kpE j x a ρ with
    | some ρ' => .ret r ρ'
    | none => .bad) := id rfl
end
end Oz

/-! Oz76: tuple * int. -/
namespace Oz
open PySem PySem.Spec L2
open PyProof.Rows hiding St
variable [WD]
/-- a tuple, k times -/
def mulT (a b : R) : Res R := match a.d, b.d with
  | .tuple ds, .int k => if k = 1 then .ok (vw a) else if (2 ≤ k ∧ k ≤ 1000) ∧ ds.length ≤ 1000 ∧ ds.isEmpty = false then tnew a.s (List.replicate k.toNat ds).flatten else .bad
  | _, _ => .bad
@[simp] theorem x_mulT {s t : Sx} {ds : List D} {k : Int} : mulT ⟨s, .tuple ds⟩ ⟨t, .int k⟩ = if k = 1 then .ok (vw ⟨s, .tuple ds⟩) else if (2 ≤ k ∧ k ≤ 1000) ∧ ds.length ≤ 1000 ∧ ds.isEmpty = false then tnew s (List.replicate k.toNat ds).flatten else .bad := id rfl
end Oz

/-! Oz77: try: return o.m(..) / except c as e: return e.what, m a method that may change o. -/
namespace Oz
open PySem PySem.Spec L2
open PyProof.Rows hiding St
section
variable {X : Cx} {CX : CXT} {k : Nat} {C f : Addr} {fd : FuncData} {ps : List Str} {sp : Sp} {E : L2.St → XK} {m : Str} {pos apos : Pos} {e o : Expr} {es : List Expr} {ta : TE} {t : TA}
def tMethE (C : Addr) (m : Str) (sp : Sp) (E : L2.St → XK) (ta : TE) (t : TA) : TE := fun σ H Q => ta σ H fun x H1 => ∃ a dx fs, x = .ref a ∧ H1 a = some (.ins C dx fs) ∧ fs.lookup m = none ∧
  t σ H1 fun vs H2 => sp (x :: vs) H2 Q (E σ)
theorem pe_methE {pl : Sem Bool} (he : PE X o ta) (c : Cls X.K C) (hm : Meth X.K C m f) (F : FnOk X.prog X.w X.K X.mg X.base CX k f fd ps sp) (hr : Room k X.A) (hb : Binds X.K fd ps []) (hx : ∀ σ, PassesAt CX X σ (E σ)) (ha : PA X (e :: es) t)
    (hst : starEach (e :: es) X.env = (false, eval e X.env) :: starEach es X.env := by rfl) (hpl : (backTo pos (starEach es X.env)).any (·.1) = false := by rfl)
    (ht : eval (.Call (.Attribute o m apos) (e :: es) [] pos) X.env = (do
      let ov ← eval o X.env
      standAt apos.atName
      let (f, first) ← holding [ov] (getMethod ov m pl)
      callWith pos f first (backTo pos (starEach (e :: es) X.env)) (backToKw pos (keywordEach [] X.env))) := by rfl) :
    PE X (.Call (.Attribute o m apos) (e :: es) [] pos) (tMethE C m sp E ta t) := by
  refine ⟨fun pins s σ H Q I h => ?_⟩
  refine PySem.W.methodCall_KW (pl := pl) (thn (he.run pins s σ H _ I h) fun u s1 ⟨x, H1, I1, rx, a, dx, fs, ex, ea, l, q⟩ => ?_) ht
  subst ex
  obtain rfl : u = Value.ref a := rx
  refine getmeth_ok I1 ea c hm l ?_
  refine PySem.W.callWith_K (first := [.ref a]) (h₀ := X.base) I.ok.mod.kin hm.kp (thn (ha.run pos pins s1 σ H1 _ I1 q) fun us s2 ⟨vs, H2, I2, r, q2⟩ => ⟨I2.kIn, ?_⟩) hst hpl
  exact run_fnS (us := .ref a :: us) (vs := .ref a :: vs) F hr hb (hx σ) I2 (.cons rfl r) q2
end
variable [WD]
def sTryM (i : Nat) (c : Str) (s : Stx) : Stx := fun ρ => match s ρ with
  | .ret r ρ' => if storable r = true then .ret r ρ' else .bad
  | .exc c' fs ρ' => if c' = c then tryE ρ'[i]? fs ρ' else .bad
  | _ => .bad
section
variable {X : Cx} {E : XK} {c cN n x mn : Str} {i j k k' : Nat} {md : List Md} {ps : List Str} {m : Fn} {p np p1 p2 p3 rp pos pos' pos'' apos : Pos} {e : Expr} {es : List Expr} {ks : List Ax}
theorem s_tryM {pl : Sem Bool} (j : Nat) (R : Rfs X.prog X.K X.mg c) (hs : X.stack = X.env :: X.outer) (hf : X.env.frame = some X.env.locals) (hN : X.N.Nodup) (cal : CalM (CX X.prog X.w) X.prog X.w X.K X.mg X.base k cN mn ps md m) (hr : Room k' X.A)
    (ha : ∀ pn xe E', PA (X.tr pn xe) (e :: es) (tAX X.K E' ks)) (hj : X.N[j]? = some x := by rfl) (hk : k ≤ k' := by decide) (hi : X.N[i]? = some n := by rfl) (hln : X.env.kindOf n = some .local := by rfl) (hgc : Gl X c := by rfl) (hdc : (c == ("__debug__" : Str)) = false := by decide)
    (hdn : (n == ("__debug__" : Str)) = false := by decide) (hdd : (n == ("__classdict__" : Str)) = false := by decide)
    (hv : Vis X.env.scope x := by first | exact Or.inl rfl | exact Or.inr (Or.inl rfl) | exact Or.inr (Or.inr rfl)) (hd : (x == ("__debug__" : Str)) = false := by decide) (hcd : (x == ("__classdict__" : Str)) = false := by decide)
    (he : starEach (e :: es) X.env = (false, eval e X.env) :: starEach es X.env := by rfl) (hpl : (backTo pos (starEach es X.env)).any (·.1) = false := by rfl) (hb : attributeBase (.Name n p1) "what" X.env (eval (.Name n p1) X.env) = eval (.Name n p1) X.env := by rfl)
    (ht : eval (.Call (.Attribute (.Name x p) mn apos) (e :: es) [] pos) X.env = (do
      let ov ← eval (.Name x p) X.env
      standAt apos.atName
      let (f, first) ← holding [ov] (getMethod ov mn pl)
      callWith pos f first (backTo pos (starEach (e :: es) X.env)) (backToKw pos (keywordEach [] X.env))) := by rfl) :
    PS X (.Try [.Return (some (.Call (.Attribute (.Name x p) mn apos) (e :: es) [] pos)) rp] [.ExceptHandler (some (.Name c np)) (some n) [.Return (some (.Attribute (.Name n p1) "what" p2)) p3] pos'] [] [] pos'') (tS X.K E (sTryM i c (mMeth cN mn m md j ks))) := by
  obtain ⟨f, fd, Fo, bi, hmeth⟩ := cal.ex
  obtain ⟨xp, cc, cda, fI, fdI, O, XC, hbI, iC, tI⟩ := R.ex
  refine (ps_try_as (X := X) (i := i) (c := .ref (He.ga X.K c)) (Wout := fun _ _ _ _ => False) (tb := fun W => tRet (tMethE (He.ga X.K cN) mn (spF X.K md m) (WE W) (tVar j) (fun σ H Q => tAX X.K (WE W σ) ks σ H Q))) (ts := fun a cls d => tRet (tXf a cls d (He.ga X.K c) "what" (tVar i))) hs hf hN hi hln ⟨hgc, hdc, .inl R.at_⟩ (fun _ _ ⟨_, _, _, _, _, _, _, _, _, _, _, _, _, _, _, _, w⟩ => w.elim)
    (fun W pn xe tkW _ => pss_one (ps_ret (pe_methE (X := X.tr pn xe) (CX := CX X.prog X.w) (pe_var (X := X.tr pn xe) (i := j) hj hv hd hcd) cal.cl hmeth Fo (hr.mono hk) bi (fun σ => passAt tkW σ) ⟨fun ps pins s σ H Q I h => (ha pn xe (WE W σ)).run ps pins s σ H Q I h⟩ he hpl ht)))
    (fun a oe cls d pn hz hfl => pss_one (ps_ret (pe_xf (X := X) R.xf O.no hz hfl (pe_var (i := i) hi (.inl hln) hdn hdd) hb)))).imp fun D σ H h => ?_
  obtain ⟨Z, O', ρ, F, rl, nv, h⟩ := h
  have key : tM X.K (WE (wAs X.K (.ref (He.ga X.K c)) i (fun a cls d => tRet (tXf a cls d (He.ga X.K c) "what" (tVar i))) (fun _ _ _ _ => False) D) σ) (mMeth cN mn m md j ks) σ H D.rt := by
    refine ⟨Z, O', ρ, F, rl, nv, ?_⟩
    unfold sTryM at h
    cases e : mMeth cN mn m md j ks ρ with
    | bad => rw [e] at h; exact h.elim
    | next ρ' => rw [e] at h; exact h.elim
    | ret r ρ' =>
      rw [e] at h
      intro v H1 Z1 O1 F1 G rl1 n1 q nd fo tr tr2
      have h1 : SRK X.K E Z O' H σ ρ F D.nx D.rt (if storable r = true then .ret r ρ' else .bad) := h
      by_cases cs : storable r = true
      · rw [if_pos cs] at h1
        exact h1 v σ H1 Z1 O1 F1 G rl1 q nd fo tr tr2
      · rw [if_neg cs] at h1
        exact h1.elim
    | exc c' fs ρ' =>
      rw [e] at h
      intro H1 Z1 O1 F1 dd xs rl1 tr1 hd1 e1 e2
      by_cases cc' : c' = c
      · subst cc'
        have h1 : SRK X.K E Z O' H σ ρ F D.nx D.rt (if c' = c' then tryE ρ'[i]? fs ρ' else .bad) := h
        rw [if_pos rfl] at h1
        have h2 : ∃ d, ρ'[i]? = some none ∧ fs = [(("what" : Str), d)] ∧ SRK X.K E Z O' H σ ρ F D.nx D.rt (.ret ⟨.imm, d⟩ ρ') := by
          clear h
          unfold tryE at h1
          split at h1
          · rename_i f d er
            by_cases ew : f = "what"
            · rw [if_pos ew] at h1
              exact ⟨d, er, by rw [ew], h1⟩
            · rw [if_neg ew] at h1; exact h1.elim
          · exact h1.elim
        obtain ⟨d, er, ef, h3⟩ := h2
        subst ef
        obtain ⟨hl, _⟩ := List.getElem?_eq_some_iff.mp er
        obtain ⟨sx, _, _, _, _, hsx, _⟩ := rl1.sl.focus hl
        obtain ⟨hls, _⟩ := List.getElem?_eq_some_iff.mp hsx
        obtain ⟨v, ex⟩ : ∃ v, xs = [(("what" : Str), v)] := by
          cases xs with
          | nil => simp at e1
          | cons y ys =>
            cases ys with
            | nil =>
              obtain ⟨y1, y2⟩ := y
              simp at e1
              exact ⟨y2, by rw [e1]⟩
            | cons z zs => simp at e1
        subst ex
        have rv : Rep X.K Z1 v d := by
          cases e2 with
          | cons r _ => exact r
        have fin : D.rt v H1 := by
          refine h3 v σ H1 Z1 O1 F1 [] rl1 ⟨rv, rfl⟩ (by rw [List.append_nil]; exact rl1.nd) (fun a ha => by cases ha) ?_ tr1
          rw [List.append_nil]
          exact tr1.tr
        refine ⟨true, R.self, fun _ a na => ?_, fun z => by cases z⟩
        refine ⟨.ref a, List.getElem?_set_self hls, rfl, rfl, dd, _, v, rfl, hd1, rfl, fin⟩
      · have h1 : SRK X.K E Z O' H σ ρ F D.nx D.rt (if c' = c then tryE ρ'[i]? fs ρ' else .bad) := h
        rw [if_neg cc'] at h1
        exact h1.elim
  exact mMeth_ok key
end
section
variable {X : Cx} {E : XK} {CX : CXT} {k k' : Nat} {ps : List Str} {md : List Md} {g : Fn} {c m : Str} {pos apos : Pos} {o : Expr} {q : Px}
/-- o.m(), o looked at -/
theorem s_meth0 {pl : Sem Bool} (cal : CalM CX X.prog X.w X.K X.mg X.base k c m ps md g) (hr : Room k' X.A) (hx : Passes CX X E) (ho : PE X o (tP X.K E q)) (hk : k ≤ k' := by decide)
    (ht : eval (.Call (.Attribute o m apos) [] [] pos) X.env = (do
      let ov ← eval o X.env
      standAt apos.atName
      let (f, first) ← holding [ov] (getMethod ov m pl)
      callWith pos f first (backTo pos (starEach [] X.env)) (backToKw pos (keywordEach [] X.env))) := by rfl) :
    PE X (.Call (.Attribute o m apos) [] [] pos) (tP X.K E (pMeth c m g md q [])) := by
  obtain ⟨f, fd, F, b, hm⟩ := cal.ex
  refine (pe_meth0 ho cal.cl hm F (hr.mono hk) b .nil hx ht).imp fun σ H Q h => ?_
  have h2 := pMeth_ok h
  obtain ⟨Z, O, ρ, F, rl, h2⟩ := h2
  refine ⟨Z, O, ρ, F, rl, ?_⟩
  cases e : q ρ with
  | bad => rw [e] at h2; exact h2
  | exc c fs => rw [e] at h2; exact h2
  | ok r =>
    rw [e] at h2
    intro v H' Z' O' G a1 a2 a3 a4 a5
    obtain ⟨a, dx, fs, ev, ha, hl, h3⟩ := h2 v H' Z' O' G a1 a2 a3 a4 a5
    refine ⟨a, dx, fs, ev, ha, hl, ?_⟩
    obtain ⟨Z1, O1, ρ1, F1, rl1, h4⟩ := h3
    have := h4 [] H' Z1 O1 [] (Ext.refl _ _ _ _) rl1.g .nil List.nodup_nil fun a ha => by cases ha
    exact this
end
@[simp] theorem x_tryM {i : Nat} {c : Str} {s : Stx} {ρ : Ev} : sTryM i c s ρ = (match s ρ with
  | .ret r ρ' => if storable r = true then .ret r ρ' else .bad
  | .exc c' fs ρ' => if c' = c then tryE ρ'[i]? fs ρ' else .bad
  | _ => .bad) := id rfl
end Oz

/-! Oz78: operations whose left side changes an argument. -/
namespace Oz
open PySem PySem.Spec L2
open PyProof.Rows hiding St
variable [WD]
def mOp2 (f : R → R → Res R) (s : Stx) (q : Px) : Stx := mBind s fun r ρ => if r.s = .imm then (match q ρ with
  | .bad => .bad
  | .exc c fs => .exc c fs ρ
  | .ok r2 => (match f r r2 with
    | .bad => .bad
    | .exc c fs => .exc c fs ρ
    | .ok r3 => .ret r3 ρ)) else .bad
section
variable {K : PySem.W.Frag} {E : XK} {H : Hp} {σ : L2.St} {Q : VK}
theorem mOp2_ok {T : R2} {f : R → R → Res R} {s : Stx} {q : Px} (hf : Op2 K T f) (h : tM K E (mOp2 f s q) σ H Q) : tM K E s σ H fun x H1 => tP K E q σ H1 fun y H2 => T x y H2 Q := by
  refine mBind_ok h fun Z O H1 ρ F G v r rl n q1 nd fo _ ⟨Z0, O0, ρ0, F0, h2, tr, ts⟩ => ?_
  obtain ⟨st, d⟩ := r
  by_cases es : st = .imm
  · subst es
    obtain ⟨q1, rfl⟩ := q1
    refine ⟨Z, O, ρ, F, rl, ?_⟩
    have h3 : MRK K E Z0 O0 H σ ρ0 F0 Q (match q ρ with
      | .bad => .bad
      | .exc c fs => .exc c fs ρ
      | .ok r2 => (match f ⟨.imm, d⟩ r2 with
        | .bad => .bad
        | .exc c fs => .exc c fs ρ
        | .ok r3 => .ret r3 ρ)) := h2
    cases e : q ρ with
    | bad => rw [e] at h3; exact h3.elim
    | exc c fs =>
      rw [e] at h3
      exact fun H' Z' O' dd xs x g q a b => h3 H' Z' O' F dd xs (rl.ext x g) (ts.trans (TrS.ext x)) q a b
    | ok r2 =>
      rw [e] at h3
      intro y H2 Z2 O2 G2 x2 g2 q2 nd2 fr2
      have hn2 : ∀ a ∈ G2, H1 a = none := fun a ha => (fr2 a ha).1.elim id fun z => by cases z
      have r1 : RepR K Z2 O2 H2 v ⟨.imm, d⟩ [] := RepR.ext (F := []) ⟨q1, rfl⟩ x2
      refine hf E Z2 O2 H2 v y ⟨.imm, d⟩ r2 [] G2 Q g2 r1 q2 (by simpa using nd2) (fun c hc => (fr2 c (by simpa using hc)).2) ?_
      simp only at h3
      cases e3 : f ⟨.imm, d⟩ r2 with
      | bad => rw [e3] at h3; exact h3.elim
      | exc c fs =>
        rw [e3] at h3
        intro H3 Z3 O3 dd xs x3 g3 hd e1 e2
        have xx : Ext [] Z O H1 Z3 O3 H3 := x2.trans x3 fun c hc => .inl (hn2 c (by simpa using hc))
        exact h3 H3 Z3 O3 F dd xs (rl.ext xx g3) (ts.trans (TrS.ext xx)) hd e1 e2
      | ok r3 =>
        rw [e3] at h3
        intro v3 H3 Z3 O3 G3 x3 g3 q3 nd3 fr3
        have xx : Ext [] Z O H1 Z3 O3 H3 := x2.trans x3 fun c hc => .inl (hn2 c (by simpa using hc))
        have hn3 : ∀ a ∈ G3, H1 a = none := fun a ha => (fr3 a ha).1.elim (fun z => x2.h.free z) fun z => hn2 a (by simpa using z)
        refine h3 v3 H3 Z3 O3 F G3 (rl.ext xx g3) n q3 ?_ (fun a ha => (fr3 a ha).2) (ts.tr.trans (Ext.tr xx hn3)) (ts.trans (TrS.ext xx))
        exact nodup_fresh rl.nd nd3 (fun a ha => let ⟨o, z, _⟩ := rl.sl.live a ha; ⟨o, z⟩) hn3
  · have h3 : MRK K E Z0 O0 H σ ρ0 F0 Q (if st = .imm then _ else SR.bad) := h2
    rw [if_neg es] at h3
    exact h3.elim
end
section
variable {X : Cx} {E : XK} {a b : Expr} {s : Stx} {q : Px} {pos : Pos}
end
@[simp] theorem x_mOp2 {f : R → R → Res R} {s : Stx} {q : Px} {ρ : Ev} : mOp2 f s q ρ = mBind s (fun r ρ => if r.s = .imm then (match q ρ with
  | .bad => .bad
  | .exc c fs => .exc c fs ρ
  | .ok r2 => (match f r r2 with
    | .bad => .bad
    | .exc c fs => .exc c fs ρ
    | .ok r3 => .ret r3 ρ)) else .bad) ρ := id rfl
end Oz

/-! Oz79: list displays whose items change an argument. -/
namespace Oz
open PySem PySem.Spec L2
open PyProof.Rows hiding St
variable [WD]
def mLsts : List Stx → List D → Stx
  | [], acc => fun ρ => if acc.length ≤ sizeLine then (match dnew .imm acc with
    | .ok r => .ret r ρ
    | _ => .bad) else .bad
  | s :: ss, acc => mBind s fun r ρ => if r.s = .imm then mLsts ss (acc ++ [r.d]) ρ else .bad
def mLst (ss : List Stx) : Stx := mLsts ss []
section
variable {K : PySem.W.Frag} {E : XK} {σ : L2.St} {Q : VK}
end
section
variable {X : Cx} {E : XK} {e : Expr} {es : List Expr} {s : Stx} {ss : List Stx} {pos : Pos}
end
@[simp] theorem x_mLst {ss : List Stx} : mLst ss = mLsts ss [] := rfl
@[simp] theorem x_mLsts_n {acc : List D} {ρ : Ev} : mLsts [] acc ρ = if acc.length ≤ sizeLine then (match dnew .imm acc with
    | .ok r => .ret r ρ
    | _ => .bad) else .bad := id rfl
@[simp] theorem x_mLsts_c {s : Stx} {ss : List Stx} {acc : List D} {ρ : Ev} : mLsts (s :: ss) acc ρ = mBind s (fun r ρ => if r.s = .imm then mLsts ss (acc ++ [r.d]) ρ else .bad) ρ := id rfl
end Oz

/-! Oz80: operations whose right side changes an argument (the left one lasts). -/
namespace Oz
open PySem PySem.Spec L2
open PyProof.Rows hiding St
variable [WD]
section
variable {K : PySem.W.Frag} {E : XK} {Z0 O0 H0 Z O H Z' O' H' : Hp} {σ σ0 : L2.St} {ρ ρ0 : Ev} {F F0 G G' W : List Addr} {Q : VK}
end
def mOp2R (f : R → R → Res R) (p : Px) (s : Stx) : Stx := fun ρ => match p ρ with
  | .bad => .bad
  | .exc c fs => .exc c fs ρ
  | .ok a => if a.s = .imm then (match s ρ with
    | .ret r ρ' => (match f a r with
      | .bad => .bad
      | .exc c fs => .exc c fs ρ'
      | .ok r3 => .ret r3 ρ')
    | .exc c fs ρ' => .exc c fs ρ'
    | _ => .bad) else .bad
section
variable {K : PySem.W.Frag} {E : XK} {H : Hp} {σ : L2.St} {Q : VK}
end
section
variable {X : Cx} {E : XK} {a b : Expr} {s : Stx} {q : Px} {pos : Pos}
end
@[simp] theorem x_mOp2R {f : R → R → Res R} {p : Px} {s : Stx} {ρ : Ev} : mOp2R f p s ρ = (match p ρ with
  | .bad => .bad
  | .exc c fs => .exc c fs ρ
  | .ok a => if a.s = .imm then (match s ρ with
    | .ret r ρ' => (match f a r with
      | .bad => .bad
      | .exc c fs => .exc c fs ρ'
      | .ok r3 => .ret r3 ρ')
    | .exc c fs ρ' => .exc c fs ρ'
    | _ => .bad) else .bad) := id rfl
end Oz

/-! Oz81: tests that compare what changes an argument; methods with generator expressions. -/
namespace Oz
open PySem PySem.Spec L2
open PyProof.Rows hiding St
variable [WD]
def mVal (s : Stx) : Stx := mBind s fun r ρ => match r.d with
  | .bool b => .ret ⟨.imm, .bool b⟩ ρ
  | _ => .bad
section
variable {K : PySem.W.Frag} {E : XK} {H : Hp} {σ : L2.St}
theorem mVal_ok {s : Stx} {Q : Bool → Hp → Prop} (h : tMT K E (mVal s) σ H Q) : tM K E s σ H fun x H' => ∃ k, x = .bl k ∧ Q k H' := by
  obtain ⟨Z, O, ρ, F, rl, n, h⟩ := h
  refine ⟨Z, O, ρ, F, rl, n, ?_⟩
  unfold mVal mBind at h
  cases e : s ρ with
  | bad => rw [e] at h; exact h.elim
  | next ρ' => rw [e] at h; exact h.elim
  | exc c fs ρ' => rw [e] at h; exact h
  | ret r ρ' =>
    rw [e] at h
    simp only at h
    intro v H' Z' O' F' G rl' n' q nd fo t ts
    obtain ⟨st, d⟩ := r
    cases d with
    | bool b =>
      have lk := q.look rl'.g
      cases lk
      exact ⟨b, rfl, h H' Z' O' F' rl' n' ts⟩
    | _ => exact h.elim
end
section
variable {X : Cx} {E : XK} {a b : Expr} {s : Stx} {q : Px} {pos : Pos} {op : CmpOp} {T : R2} {f : R → R → Res R}
theorem m_tcmp (ho : OpR X (compareOp op) T) (hf : Op2 X.K T f) (ha : PE X a (tM X.K E s)) (hb : PE X b (tP X.K E q)) (hm : behindInMarks op b = false) : PT X (.Compare a [op] [b] pos) (tMT X.K E (mVal (mOp2 f s q))) :=
  (pt_cmpR ho ha hb hm).imp fun σ H Q h => mOp2_ok hf (mVal_ok h)
end
@[simp] theorem x_mVal {s : Stx} : mVal s = mBind s fun r ρ => match r.d with
  | .bool b => .ret ⟨.imm, .bool b⟩ ρ
  | _ => .bad := rfl
end Oz

/-! Oz82: try with a body of several statements: what an exception finds depends on the slots at its time. -/
namespace Oz
open PySem PySem.Spec L2
open PyProof.Rows hiding St
variable [WD]
def SRKW (K : PySem.W.Frag) (W : WX) (Z O H : Hp) (σ : St) (ρ : Ev) (F : List Addr) (nx : St → Hp → Prop) (rt : VK) : SR → Prop
  | .bad => False
  | .next ρ' => ∀ σ' H' Z' O' F', Rel K Z' O' H' σ' ρ' F' → nov ρ' = true → TrS Z O H σ ρ F Z' O' H' σ' ρ' F' → nx σ' H'
  | .ret r ρ' => ∀ v σ' H' Z' O' F' G, Rel K Z' O' H' σ' ρ' F' → RepR K Z' O' H' v r G → (F' ++ G).Nodup → (∀ a ∈ G, O' a = none) → Tr Z H F Z' H' (F' ++ G) → TrS Z O H σ ρ F Z' O' H' σ' ρ' F' → rt v H'
  | .exc c fs ρ' => ∀ σ' H' Z' O' F' d xs, Rel K Z' O' H' σ' ρ' F' → TrS Z O H σ ρ F Z' O' H' σ' ρ' F' → H' d = some (.xd xs) → xs.map (·.1) = fs.map (·.1) → Reps K Z' (xs.map (·.2)) (fs.map (·.2)) → W (.ref (He.ga K c)) (some d) σ' H'
def tSW (K : PySem.W.Frag) (W : WX) (s : Stx) : TS := fun D σ H => ∃ Z O ρ F, Rel K Z O H σ ρ F ∧ nov ρ = true ∧ SRKW K W Z O H σ ρ F D.nx D.rt (s ρ)
section
variable {K : PySem.W.Frag} {W : WX} {Z O H Z1 O1 H1 : Hp} {σ σ1 : St} {ρ ρ1 : Ev} {F F1 : List Addr} {nx : St → Hp → Prop} {rt : VK}
theorem SRKW.from {r : SR} (h : SRKW K W Z O H σ ρ F nx rt r) (t : TrS Z O H σ ρ F Z1 O1 H1 σ1 ρ1 F1) : SRKW K W Z1 O1 H1 σ1 ρ1 F1 nx rt r := by
  cases r with
  | bad => exact h
  | next ρ' => exact fun σ' H' Z' O' F' q n u => h σ' H' Z' O' F' q n (t.trans u)
  | ret r ρ' => exact fun v σ' H' Z' O' F' G q w nd fo u u2 => h v σ' H' Z' O' F' G q w nd fo (t.tr.trans u) (t.trans u2)
  | exc c fs ρ' => exact fun σ' H' Z' O' F' d xs q u hd e1 e2 => h σ' H' Z' O' F' d xs q (t.trans u) hd e1 e2
theorem SRKW.exc {c : Str} {fs : List (Str × D)} (rl : Rel K Z O H σ ρ F) (h : SRKW K W Z O H σ ρ F nx rt (.exc c fs ρ)) : ExcK K (WE W σ) Z O H c fs := fun H' Z' O' d xs e g q a b =>
  h σ H' Z' O' F d xs (rl.ext e g) (TrS.ext e) q a b
theorem tSW_expr {p : Px} {s : R → Ev → SR} {D : Ends} (h : tSW K W (fun ρ => match p ρ with
      | .bad => .bad
      | .exc c fs => .exc c fs ρ
      | .ok r => s r ρ) D σ H) {T : V → Hp → Prop}
    (next : ∀ (Z0 O0 Z O H1 : Hp) (ρ : Ev) (F G : List Addr) (v : V) (r : R), Rel K Z O H1 σ ρ F → nov ρ = true → RepR K Z O H1 v r G → G.Nodup → (∀ a ∈ G, a ∉ F) → (∀ a ∈ G, O a = none) → (∀ a ∈ G, H a = none) → TrS Z0 O0 H σ ρ F Z O H1 σ ρ F → SRKW K W Z0 O0 H σ ρ F D.nx D.rt (s r ρ) → T v H1) : tP K (WE W σ) p σ H T := by
  obtain ⟨Z, O, ρ, F, rl, n, h⟩ := h
  refine ⟨Z, O, ρ, F, rl, ?_⟩
  have h1 : SRKW K W Z O H σ ρ F D.nx D.rt (match p ρ with
      | .bad => .bad
      | .exc c fs => .exc c fs ρ
      | .ok r => s r ρ) := h
  cases e : p ρ with
  | bad => rw [e] at h1; exact h1.elim
  | exc c fs => rw [e] at h1; exact SRKW.exc rl h1
  | ok r =>
    rw [e] at h1
    intro v H1 Z1 O1 G x1 g1 q nd fr
    have hn : ∀ a ∈ G, H a = none := fun a ha => (fr a ha).1.elim id fun z => by cases z
    refine next Z O Z1 O1 H1 ρ F G v r (rl.ext x1 g1) n q nd (fun a ha z => ?_) (fun a ha => (fr a ha).2) hn (TrS.ext x1) h1
    obtain ⟨o, w, _⟩ := rl.sl.live a z
    rw [hn a ha] at w
    cases w
end
section
variable {X : Cx} {W : WX} {e c : Expr} {p : Px} {t : Tx} {a b : List Stmt} {st : Stmt} {rest : List Stmt} {s u : Stx} {pos pos' : Pos} {x : Str}
theorem w_asg (i : Nat) (hN : X.N.Nodup) (he : ∀ E', PE X e (tP X.K E' p)) (hi : X.N[i]? = some x := by rfl) (hx : Loc X.env.scope x := by first | exact Or.inl rfl | exact Or.inr rfl) (hs : swapsWith e (some (.Name x pos')) pos.line X.env = pure false := by rfl)
    (hf : X.fn x = true ∨ X.env.scope.names.lookup x = some .local := by first | exact .inl rfl | exact .inr rfl | assumption) : PS X (.Assign [.Name x pos'] e pos) (tSW X.K W (sAsg i p)) := by
  have he2 : PE X e (fun σ H Q => tP X.K (WE W σ) p σ H Q) := ⟨fun pins s σ H Q I h => (he (WE W σ)).run pins s σ H Q I h⟩
  refine (ps_set hN hi hx he2 hs hf).imp fun D σ H h => ?_
  refine tSW_expr (s := fun r ρ => match setS i r ρ with | some ρ' => .next ρ' | none => .bad) h fun Z0 O0 Z O H1 ρ F G v r rl n q nd dj fo fh tr h2 => ?_
  cases z : setS i r ρ with
  | none => rw [z] at h2; exact h2.elim
  | some ρ' =>
    rw [z] at h2
    obtain ⟨F', rl', n', sub, ln, bw⟩ := rl.set n q nd dj fo z
    refine h2 _ H1 Z O F' rl' n' ⟨⟨tr.tr.z, tr.tr.keep, tr.tr.zn, fun a ha => ?_, tr.tr.fr, tr.tr.tab⟩, tr.o, ln, bw, tr.on⟩
    exact (sub a ha).imp id (fh a)
theorem w_mret (he : PE X e (fun σ H Q => tM X.K (WE W σ) s σ H Q)) : PS X (.Return (some e) pos) (tSW X.K W (mRet s)) := by
  refine (ps_ret he).imp fun D σ H h => ?_
  obtain ⟨Z, O, ρ, F, rl, n, h⟩ := h
  refine ⟨Z, O, ρ, F, rl, n, ?_⟩
  unfold mRet at h
  cases e : s ρ with
  | bad => rw [e] at h; exact h.elim
  | next ρ' => rw [e] at h; exact h.elim
  | exc c fs ρ' => rw [e] at h; exact fun H' Z' O' F' d xs q u hd e1 e2 => h σ H' Z' O' F' d xs q u hd e1 e2
  | ret r ρ' =>
    rw [e] at h
    simp only at h
    by_cases c : storable r = true
    · rw [if_pos c] at h
      exact fun v H' Z' O' F' G rl' n' q nd fo t ts => h v σ H' Z' O' F' G rl' q nd fo t ts
    · rw [if_neg c] at h; exact h.elim
theorem w_last (h : PS X st (tSW X.K W s)) : PSs X [st] (tSW X.K W s) := pss_one h
theorem w_nil : PSs X [] (tSW X.K W sNext) := pss_nil.imp fun D σ H h => by
  obtain ⟨Z, O, ρ, F, rl, n, h⟩ := h
  exact h σ H Z O F rl n (TrS.refl _ _ _ _ _ _)
theorem w_cons (h1 : PS X st (tSW X.K W s)) (h2 : PSs X rest (tSW X.K W u)) : PSs X (st :: rest) (tSW X.K W (sSeq s u)) := by
  refine (pss_cons h1 h2).imp fun D σ H h => ?_
  obtain ⟨Z, O, ρ, F, rl, n, h⟩ := h
  refine ⟨Z, O, ρ, F, rl, n, ?_⟩
  unfold sSeq at h
  cases e : s ρ with
  | bad => rw [e] at h; exact h
  | ret r ρ' => rw [e] at h; exact h
  | exc c fs ρ' => rw [e] at h; exact h
  | next ρ' =>
    rw [e] at h
    have h2 : SRKW X.K W Z O H σ ρ F D.nx D.rt (u ρ') := h
    exact fun σ' H' Z' O' F' rl' n' tr => ⟨Z', O', ρ', F', rl', n', SRKW.from h2 tr⟩
theorem w_if (hc : ∀ E', PT X c (tT X.K E' t)) (ha : PSs X a (tSW X.K W s)) (hb : PSs X b (tSW X.K W u)) : PS X (.If c a b pos) (tSW X.K W (sIf t s u)) := by
  have hc2 : PT X c (fun σ H Q => tT X.K (WE W σ) t σ H Q) := ⟨fun pins s σ H Q I h => (hc (WE W σ)).run pins s σ H Q I h⟩
  refine (ps_if hc2 ha hb).imp fun D σ H h => ?_
  obtain ⟨Z, O, ρ, F, rl, n, h⟩ := h
  refine ⟨Z, O, ρ, F, rl, ?_⟩
  unfold sIf at h
  cases e : t ρ with
  | bad => rw [e] at h; exact h.elim
  | exc c fs => rw [e] at h; exact SRKW.exc rl h
  | ok k =>
    rw [e] at h
    intro H1 Z1 O1 x1 g1
    have h2 : SRKW X.K W Z O H σ ρ F D.nx D.rt (if k = true then s ρ else u ρ) := h
    cases k with
    | true => exact ⟨Z1, O1, ρ, F, rl.ext x1 g1, n, SRKW.from h2 (TrS.ext x1)⟩
    | false => exact ⟨Z1, O1, ρ, F, rl.ext x1 g1, n, SRKW.from h2 (TrS.ext x1)⟩
end
section
variable {X : Cx} {W : WX} {c cN n x m : Str} {i j k k' : Nat} {md : List Md} {ps : List Str} {g : Fn} {p pos apos : Pos} {e : Expr} {es : List Expr} {ks : List Ax} {qs : List Px} {s : Stx}
/-- an effect that raises nothing -/
theorem w_pure (he : ∀ E', PE X e (tM X.K E' s)) : PE X e (fun σ H Q => tM X.K (WE W σ) s σ H Q) := ⟨fun pins st σ H Q I h => (he (WE W σ)).run pins st σ H Q I h⟩
/-- x.m(..) that may raise -/
theorem w_meth {pl : Sem Bool} (tk : Takes X W) (j : Nat) (cal : CalM (CX X.prog X.w) X.prog X.w X.K X.mg X.base k cN m ps md g) (hr : Room k' X.A) (ha : ∀ E', PA X (e :: es) (tAX X.K E' ks)) (hj : X.N[j]? = some x := by rfl) (hk : k ≤ k' := by decide)
    (hv : Vis X.env.scope x := by first | exact Or.inl rfl | exact Or.inr (Or.inl rfl) | exact Or.inr (Or.inr rfl)) (hd : (x == ("__debug__" : Str)) = false := by decide) (hcd : (x == ("__classdict__" : Str)) = false := by decide)
    (he : starEach (e :: es) X.env = (false, eval e X.env) :: starEach es X.env := by rfl) (hpl : (backTo pos (starEach es X.env)).any (·.1) = false := by rfl)
    (ht : eval (.Call (.Attribute (.Name x p) m apos) (e :: es) [] pos) X.env = (do
      let ov ← eval (.Name x p) X.env
      standAt apos.atName
      let (f, first) ← holding [ov] (getMethod ov m pl)
      callWith pos f first (backTo pos (starEach (e :: es) X.env)) (backToKw pos (keywordEach [] X.env))) := by rfl) :
    PE X (.Call (.Attribute (.Name x p) m apos) (e :: es) [] pos) (fun σ H Q => tM X.K (WE W σ) (mMeth cN m g md j ks) σ H Q) := by
  obtain ⟨f, fd, Fo, bi, hmeth⟩ := cal.ex
  refine (pe_methE (CX := CX X.prog X.w) (E := WE W) (pe_var (i := j) hj hv hd hcd) cal.cl hmeth Fo (hr.mono hk) bi (fun σ => passAt tk σ) (t := fun σ H Q => tAX X.K (WE W σ) ks σ H Q) ⟨fun ps pins s σ H Q I h => (ha (WE W σ)).run ps pins s σ H Q I h⟩ he hpl ht).imp fun σ H Q h => ?_
  exact mMeth_ok h
end
/-- try: s / except c as n: return n.what -/
def sTryG (i : Nat) (c : Str) (s : Stx) : Stx := fun ρ => match s ρ with
  | .exc c' fs ρ' => if c' = c then tryE ρ'[i]? fs ρ' else .bad
  | r => r
/-- try: s / except c: h -/
def sTryN (c : Str) (s h : Stx) : Stx := fun ρ => match s ρ with
  | .exc c' fs ρ' => if c' = c ∧ nov ρ' = true then h ρ' else .bad
  | r => r
section
variable {X : Cx} {E : XK} {c n : Str} {i : Nat} {s h : Stx} {np p1 p2 p3 pos' pos'' : Pos} {body suite : List Stmt} {b₀ : Stmt}
theorem s_tryG (R : Rfs X.prog X.K X.mg c) (hs : X.stack = X.env :: X.outer) (hf : X.env.frame = some X.env.locals) (hN : X.N.Nodup)
    (hb : ∀ (W : WX) pn xe, Takes (X.tr pn xe) W → PSs (X.tr pn xe) body (tSW X.K W s)) (hi : X.N[i]? = some n := by rfl) (hln : X.env.kindOf n = some .local := by rfl) (hgc : Gl X c := by rfl) (hdc : (c == ("__debug__" : Str)) = false := by decide)
    (hdn : (n == ("__debug__" : Str)) = false := by decide) (hdd : (n == ("__classdict__" : Str)) = false := by decide)
    (hba : attributeBase (.Name n p1) "what" X.env (eval (.Name n p1) X.env) = eval (.Name n p1) X.env := by rfl) :
    PS X (.Try body [.ExceptHandler (some (.Name c np)) (some n) [.Return (some (.Attribute (.Name n p1) "what" p2)) p3] pos'] [] [] pos'') (tS X.K E (sTryG i c s)) := by
  obtain ⟨xp, cc, cda, fI, fdI, O, XC, hbI, iC, tI⟩ := R.ex
  refine (ps_try_as (X := X) (i := i) (c := .ref (He.ga X.K c)) (Wout := fun _ _ _ _ => False) (tb := fun W => tSW X.K W s) (ts := fun a cls d => tRet (tXf a cls d (He.ga X.K c) "what" (tVar i))) hs hf hN hi hln ⟨hgc, hdc, .inl R.at_⟩ (fun _ _ ⟨_, _, _, _, _, _, _, _, _, _, _, _, _, _, _, _, w⟩ => w.elim)
    (fun W pn xe tkW _ => hb W pn xe tkW)
    (fun a oe cls d pn hz hfl => pss_one (ps_ret (pe_xf (X := X) R.xf O.no hz hfl (pe_var (i := i) hi (.inl hln) hdn hdd) hba)))).imp fun D σ H h => ?_
  obtain ⟨Z, O', ρ, F, rl, nv, h⟩ := h
  refine ⟨Z, O', ρ, F, rl, nv, ?_⟩
  unfold sTryG at h
  cases e : s ρ with
  | bad => rw [e] at h; exact h
  | next ρ' => rw [e] at h; exact h
  | ret r ρ' => rw [e] at h; exact h
  | exc c' fs ρ' =>
    rw [e] at h
    intro σ' H1 Z1 O1 F1 dd xs rl1 tr1 hd1 e1 e2
    by_cases cc' : c' = c
    · subst cc'
      have h1 : SRK X.K E Z O' H σ ρ F D.nx D.rt (if c' = c' then tryE ρ'[i]? fs ρ' else .bad) := h
      rw [if_pos rfl] at h1
      have h2 : ∃ d, ρ'[i]? = some none ∧ fs = [(("what" : Str), d)] ∧ SRK X.K E Z O' H σ ρ F D.nx D.rt (.ret ⟨.imm, d⟩ ρ') := by
        clear h
        unfold tryE at h1
        split at h1
        · rename_i f d er
          by_cases ew : f = "what"
          · rw [if_pos ew] at h1
            exact ⟨d, er, by rw [ew], h1⟩
          · rw [if_neg ew] at h1; exact h1.elim
        · exact h1.elim
      obtain ⟨d, er, ef, h3⟩ := h2
      subst ef
      obtain ⟨hl, _⟩ := List.getElem?_eq_some_iff.mp er
      obtain ⟨sx, _, _, _, _, hsx, _⟩ := rl1.sl.focus hl
      obtain ⟨hls, _⟩ := List.getElem?_eq_some_iff.mp hsx
      obtain ⟨v, ex⟩ : ∃ v, xs = [(("what" : Str), v)] := by
        cases xs with
        | nil => simp at e1
        | cons y ys =>
          cases ys with
          | nil =>
            obtain ⟨y1, y2⟩ := y
            simp at e1
            exact ⟨y2, by rw [e1]⟩
          | cons z zs => simp at e1
      subst ex
      have rv : Rep X.K Z1 v d := by
        cases e2 with
        | cons r _ => exact r
      have fin : D.rt v H1 := by
        refine h3 v σ' H1 Z1 O1 F1 [] rl1 ⟨rv, rfl⟩ (by rw [List.append_nil]; exact rl1.nd) (fun a ha => by cases ha) ?_ tr1
        rw [List.append_nil]
        exact tr1.tr
      refine ⟨true, R.self, fun _ a na => ?_, fun z => by cases z⟩
      refine ⟨.ref a, List.getElem?_set_self hls, rfl, rfl, dd, _, v, rfl, hd1, rfl, fin⟩
    · have h1 : SRK X.K E Z O' H σ ρ F D.nx D.rt (if c' = c then tryE ρ'[i]? fs ρ' else .bad) := h
      rw [if_neg cc'] at h1
      exact h1.elim
end
@[simp] theorem x_tryG {i : Nat} {c : Str} {s : Stx} {ρ : Ev} : sTryG i c s ρ = (match s ρ with
  | .exc c' fs ρ' => if c' = c then tryE ρ'[i]? fs ρ' else .bad
  | r => r) := id rfl
@[simp] theorem x_tryN {c : Str} {s h : Stx} {ρ : Ev} : sTryN c s h ρ = (match s ρ with
  | .exc c' fs ρ' => if c' = c ∧ nov ρ' = true then h ρ' else .bad
  | r => r) := id rfl
@[simp] theorem x_pMeth {c mn : Str} {f : Fn} {md : List Md} {p : Px} {ps : List Px} {ρ : Ev} : pMeth c mn f md p ps ρ = ((p ρ).bind fun r => match unO c r.d with
  | some es => if lkD (.inr mn) es = none then ((evs ps ρ).bind fun rs => match pargs md (r :: rs) with
    | some ds => (match f ds with
      | .ok r [] => .ok r
      | .exc c fs [] => .exc c fs
      | _ => .bad)
    | none => .bad) else .bad
  | none => .bad) := id rfl
end Oz

/-! Oz83: l[p] op= e and o.f op= e of ints; l.index(e) of ints. -/
namespace Oz
open PySem PySem.Spec L2
open PyProof.Rows hiding St
variable [WD]
def sAugF (f : Int → Int → Int) (l : Plx) (p q : Px) : Stx := fun ρ => match l ρ with
  | .bad => .bad
  | .exc c fs => .exc c fs ρ
  | .ok l => (match p ρ with
    | .bad => .bad
    | .exc c fs => .exc c fs ρ
    | .ok i => (match l.d, i.d with
      | .list ds, .int k => if 0 ≤ k then (match ds[k.toNat]? with
        | some (.int x) => (match q ρ with
          | .bad => .bad
          | .exc c fs => .exc c fs ρ
          | .ok r => (match r.d with
            | .int y => putE l (.list (ds.set k.toNat (.int (f x y)))) ρ
            | _ => .bad))
        | _ => .bad) else .bad
      | _, _ => .bad))
/-- o.n op= e, of ints -/
def sFldA (F : Int → Int → Int) (c f : Str) (l : Plx) (q : Px) : Stx := fun ρ => match l ρ with
  | .bad => .bad
  | .exc c fs => .exc c fs ρ
  | .ok l => (match unO c l.d with
    | some es => (match lkD (.inr f) es with
      | some (.int x) => (match q ρ with
        | .bad => .bad
        | .exc c fs => .exc c fs ρ
        | .ok r => (match r.d with
          | .int y => if es.length < 1000 then putE l (objD c (ptD (.inr f) (.int (F x y)) es)) ρ else .bad
          | _ => .bad))
      | _ => .bad)
    | none => .bad)
section
variable {X : Cx} {E : XK} {a b e : Expr} {l : Plx} {p q : Px} {pos apos : Pos} {op : Operator} {f : Int → Int → Int} {c fN : Str}
theorem s_augF (hl : PE X a (tPl X.K E l)) (hp : PE X b (tP X.K E p)) (he : PE X e (tP X.K E q)) (ip : PIp X op (ipI f))
    (ha : ∀ ov iv new, augStore b ov iv new = (do holding [new, ov, iv] (setItem ov iv new); release [new, ov, iv] []; pure .next) := by intros; rfl) : PS X (.AugAssign (.Subscript a b apos) op e pos) (tS X.K E (sAugF f l p q)) := by
  refine (ps_augS hl hp get_list he ip set_list ha).imp fun D σ H h => ?_
  obtain ⟨Z, O, ρ, F, rl, n, h⟩ := h
  refine ⟨Z, O, ρ, F, rl, ?_⟩
  unfold sAugF at h
  cases e2 : l ρ with
  | bad => rw [e2] at h; exact h.elim
  | exc c fs => rw [e2] at h; exact SRK.exc rl h
  | ok l0 =>
    rw [e2] at h
    simp only at h
    intro v H2 Z2 O2 s F1 G F2 x2 g2 pa
    have rl2 := rl.ext x2 g2
    refine ⟨Z2, O2, ρ, F, rl2, ?_⟩
    cases e3 : p ρ with
    | bad => rw [e3] at h; exact h.elim
    | exc c fs => rw [e3] at h; exact ExcK.ext (SRK.exc rl h) x2
    | ok i =>
      rw [e3] at h
      simp only at h
      intro w H3 Z3 O3 Gi x3 g3 q3 nd3 fr3
      have pa3 := pa.ext x3
      obtain ⟨si, di⟩ := i
      cases el : l0.d with
      | list ds =>
        cases di with
        | int k =>
          rw [el] at h
          simp only at h
          by_cases k0 : 0 ≤ k
          rotate_left
          · rw [if_neg k0] at h; exact h.elim
          rw [if_pos k0] at h
          cases ex : ds[k.toNat]? with
          | none => rw [ex] at h; exact h.elim
          | some dx => cases dx with
            | int xi =>
              rw [ex] at h
              simp only at h
              have lk := q3.look g3
              cases lk
              have hjn : k.toNat < ds.length := (List.getElem?_eq_some_iff.mp ex).1
              have x23 := x2.trans0 x3
              have rl3 := rl.ext x23 g3
              have qo := pa3.own
              rw [el] at qo
              obtain ⟨a0, xs, G0, rfl, ha0, qs, eg⟩ := qo.lst_inv
              obtain ⟨xv, A, Gj, B, h1, h2, h3, h4⟩ := qs.at ex
              have hxv : xv = .int xi := by
                cases h3 with
                | imm r _ => cases r; rfl
              subst hxv
              refine ⟨a0, xs, k, .int xi, rfl, rfl, ha0, k0, h1, ?_⟩
              refine ⟨Z3, O3, ρ, F, rl3, ?_⟩
              cases e4 : q ρ with
              | bad => rw [e4] at h; exact h.elim
              | exc c fs => rw [e4] at h; exact ExcK.ext (SRK.exc rl h) x23
              | ok r =>
                rw [e4] at h
                simp only at h
                intro y H4 Z4 O4 Gy x4 g4 q4 nd4 fr4
                obtain ⟨sr, dr⟩ := r
                cases dr with
                | int yi =>
                  simp only at h
                  have lk4 := q4.look g4
                  cases lk4
                  refine ⟨xi, yi, rfl, rfl, ?_⟩
                  have x24 := x23.trans0 x4
                  have pa4 := pa3.ext x4
                  have qo4 := pa4.own
                  rw [el] at qo4
                  obtain ⟨a1, xs1, G1, ea, ha1, qs1, eg1⟩ := qo4.lst_inv
                  cases ea
                  obtain ⟨xv1, A1, Gj1, B1, h11, h12, h13, h14⟩ := qs1.at ex
                  have hxs : xs1 = xs := by
                    have := x4.h.l ha0
                    rw [ha1] at this
                    cases this
                    rfl
                  subst hxs
                  have hj : ixN xs1.length k = some k.toNat := by rw [qs1.length]; exact ixN_some k0 (by omega)
                  refine ⟨a0, xs1, k, k.toNat, rfl, rfl, ha1, hj, ?_⟩
                  have nF := rl.nd
                  rw [pa4.eq, eg1] at nF
                  have nGG : (a0 :: G1).Nodup := (List.nodup_append.mp (List.nodup_append.mp nF).2.1).1
                  have aG0 : a0 ∉ G1 := (List.nodup_cons.mp nGG).1
                  have kp : ∀ c, c ≠ a0 → ∀ o, H4 c = some o → upd H4 a0 (.lst (xs1.set k.toNat (.int (f xi yi)))) c = some o := fun c hc o h => by rw [upd_ne hc]; exact h
                  have qn : Own X.K Z4 (upd H4 a0 (.lst (xs1.set k.toNat (.int (f xi yi))))) (.ref a0) (.list (ds.set k.toNat (.int (f xi yi)))) (a0 :: (A1 ++ ([] ++ B1))) :=
                    .lst upd_same (h14 Z4 _ (.int (f xi yi)) (.int (f xi yi)) [] (Same.refl _) (fun c hc o h _ => kp c (fun z => aG0 (by rw [h12, ← z]; rcases List.mem_append.mp hc with hc | hc <;> simp [hc])) o h) (.imm (.int _) rfl))
                  refine pa4.store rl n x24 g4 (a0 := a0) (by rw [eg1]; simp) rfl qn ?_ (fun c hc => ?_) h
                  · refine List.nodup_cons.mpr ⟨fun z => ?_, nodup_mid (G := Gj1) (by rw [← h12]; exact (List.nodup_cons.mp nGG).2) List.nodup_nil fun c hc z => by cases hc⟩
                    rcases List.mem_append.mp z with z | z
                    · exact aG0 (by rw [h12]; simp [z])
                    · exact aG0 (by rw [h12]; simp at z; simp [z])
                  · rcases List.mem_cons.mp hc with z | z
                    · left; rw [eg1, z]; simp
                    · rcases List.mem_append.mp z with z | z
                      · left; rw [eg1, h12]; simp [z]
                      · left; rw [eg1, h12]; simp at z; simp [z]
                | _ => exact h.elim
            | _ => rw [ex] at h; exact h.elim
        | _ => rw [el] at h; exact h.elim
      | _ => rw [el] at h; exact h.elim
theorem s_fldA (cl : Cls X.K (He.ga X.K c)) (na : NoAttr X.K (He.ga X.K c) fN) (hl : PE X a (tPl X.K E l)) (he : PE X e (tP X.K E q)) (ip : InOp X op fun x y H Q => ∃ i j, x = .int i ∧ y = .int j ∧ Q (.int (f i j)) H) : PS X (.AugAssign (.Attribute a fN apos) op e pos) (tS X.K E (sFldA f c fN l q)) := by
  refine (ps_fldaug hl he ip).imp fun D σ H h => ?_
  obtain ⟨Z, O, ρ, F, rl, n, h⟩ := h
  refine ⟨Z, O, ρ, F, rl, ?_⟩
  unfold sFldA at h
  cases e2 : l ρ with
  | bad => rw [e2] at h; exact h.elim
  | exc c fs => rw [e2] at h; exact SRK.exc rl h
  | ok l0 =>
    rw [e2] at h
    simp only at h
    intro v H1 Z1 O1 s F1 G F2 x1 g1 pa
    cases eo : unO c l0.d with
    | none => rw [eo] at h; exact h.elim
    | some es =>
      rw [eo] at h
      simp only at h
      cases ed : lkD (.inr fN) es with
      | none => rw [ed] at h; exact h.elim
      | some dd => cases dd with
        | int xi =>
          rw [ed] at h
          simp only at h
          have rl1 := rl.ext x1 g1
          have qo := pa.own
          rw [unO_some eo] at qo
          obtain ⟨a0, dx, fs, G0, rfl, ha0, hdx, hk, qs, eg⟩ := qo.obj_inv
          obtain ⟨j, x, e4, e5, e6, e7⟩ := lkF_some hk ed
          obtain ⟨x', A, Gj, B, h1, h2, h3, h4⟩ := qs.at e6
          rw [e5] at h1
          cases h1
          have hxv : x = .int xi := by
            cases h3 with
            | imm r _ => cases r; rfl
          subst hxv
          refine ⟨a0, _, dx, fs, .int xi, rfl, ha0, cl, na, e4, ?_⟩
          refine ⟨Z1, O1, ρ, F, rl1, ?_⟩
          cases e1 : q ρ with
          | bad => rw [e1] at h; exact h.elim
          | exc c fs => rw [e1] at h; exact ExcK.ext (SRK.exc rl h) x1
          | ok r =>
            rw [e1] at h
            simp only at h
            intro y H2 Z2 O2 Gy x2 g2 q2 nd2 fr2
            obtain ⟨sr, dr⟩ := r
            cases dr with
            | int yi =>
              simp only at h
              have lk := q2.look g2
              cases lk
              by_cases cc : es.length < 1000
              · rw [if_pos cc] at h
                refine ⟨xi, yi, rfl, rfl, ?_⟩
                have x12 := x1.trans0 x2
                have pa2 := pa.ext x2
                have qo2 := pa2.own
                rw [unO_some eo] at qo2
                obtain ⟨a1, dx1, fs1, G1, ea, ha1, hdx1, hk1, qs1, eg1⟩ := qo2.obj_inv
                cases ea
                obtain ⟨j1, x1', e41, e51, e61, e71⟩ := lkF_some hk1 ed
                obtain ⟨x'1, A1, Gj1, B1, h11, h12, h13, h14⟩ := qs1.at e61
                obtain ⟨f1, f2, f3, f4⟩ := e71 (.int (f xi yi)) (.int (f xi yi))
                have hlen : fs1.length = es.length := by
                  have := congrArg List.length hk1
                  simpa using this.symm
                have nF := rl.nd
                rw [pa2.eq, eg1] at nF
                have nGG : (a0 :: dx1 :: G1).Nodup := (List.nodup_append.mp (List.nodup_append.mp nF).2.1).1
                have aG1 : a0 ∉ dx1 :: G1 := (List.nodup_cons.mp nGG).1
                have aG0 : a0 ∉ G1 := fun z => aG1 (List.mem_cons_of_mem _ z)
                have axd : a0 ≠ dx1 := fun z => aG1 (by rw [z]; simp)
                have nG1 := (List.nodup_cons.mp nGG).2
                have dG0 : dx1 ∉ G1 := (List.nodup_cons.mp nG1).1
                have hl1 : (putF fN (V.int (f xi yi)) fs1).length < 1000 := by
                  have := congrArg List.length f4
                  rw [List.length_map, List.length_map] at this
                  omega
                refine ⟨dx1, fs1, ha1, by omega, ?_⟩
                have kp : ∀ o', ∀ c, c ≠ a0 → ∀ o, H2 c = some o → upd H2 a0 o' c = some o := fun o' c hc o h => by rw [upd_ne hc]; exact h
                have hkeys : (ptD (.inr fN) (.int (f xi yi)) es).map (·.1) = (putF fN (V.int (f xi yi)) fs1).map (fun p => PyData.str p.1) := by
                  rw [f3, hk1]
                  have := congrArg (List.map PyData.str) f4
                  rw [List.map_map, List.map_map] at this
                  exact this.symm
                have qn : Own X.K Z2 (upd H2 a0 (.ins (He.ga X.K c) dx1 (putF fN (.int (f xi yi)) fs1))) (.ref a0) (objD c (ptD (.inr fN) (.int (f xi yi)) es)) (a0 :: dx1 :: (A1 ++ ([] ++ B1))) := by
                  refine .obj upd_same (kp _ dx1 axd.symm _ hdx1) rfl hkeys ?_
                  rw [f1, f2]
                  exact h14 Z2 _ (.int (f xi yi)) (.int (f xi yi)) [] (Same.refl _) (fun c hc o h _ => kp _ c (fun z => aG0 (by rw [h12, ← z]; rcases List.mem_append.mp hc with hc | hc <;> simp [hc])) o h) (.imm (.int _) rfl)
                refine pa2.store rl n x12 g2 (a0 := a0) (by rw [eg1]; simp) rfl qn ?_ (fun c hc => ?_) h
                · have nn : (A1 ++ ([] ++ B1)).Nodup := nodup_mid (G := Gj1) (by rw [← h12]; exact (List.nodup_cons.mp nG1).2) List.nodup_nil fun c hc z => by cases hc
                  have nin : ∀ c, c ∉ G1 → c ∉ A1 ++ ([] ++ B1) := fun c hn z => by
                    rcases List.mem_append.mp z with z | z
                    · exact hn (by rw [h12]; simp [z])
                    · exact hn (by rw [h12]; simp at z; simp [z])
                  refine List.nodup_cons.mpr ⟨fun z => ?_, List.nodup_cons.mpr ⟨nin dx1 dG0, nn⟩⟩
                  rcases List.mem_cons.mp z with z | z
                  · exact axd z
                  · exact nin a0 aG0 z
                · rcases List.mem_cons.mp hc with z | z
                  · left; rw [eg1, z]; simp
                  · rcases List.mem_cons.mp z with z | z
                    · left; rw [eg1, z]; simp
                    · rcases List.mem_append.mp z with z | z
                      · left; rw [eg1, h12]; simp [z]
                      · left; rw [eg1, h12]; simp at z; simp [z]
              · rw [if_neg cc] at h; exact h.elim
            | _ => exact h.elim
        | _ => rw [ed] at h; exact h.elim
end
/-! ### list.index of ints -/
def isIn : D → Bool
  | .int _ => true
  | _ => false
theorem ints_of {K : PySem.W.Frag} {C : Hp} : ∀ {xs : List V} {ds : List D}, Reps K C xs ds → ds.all isIn = true → ∃ ys : List Int, xs = ys.map V.int ∧ ds = ys.map PyData.int
  | _, _, .nil, _ => ⟨[], rfl, rfl⟩
  | _, _, .cons r s, h => by
    rw [List.all_cons] at h
    obtain ⟨h1, h2⟩ := Bool.and_eq_true_iff.mp h
    obtain ⟨ys, e1, e2⟩ := ints_of s h2
    cases r with
    | int x => exact ⟨x :: ys, by rw [e1]; rfl, by rw [e2]; rfl⟩
    | _ => cases h1
def intD : D → Int
  | .int i => i
  | _ => 0
def pIdx (p q : Px) : Px := fun ρ => (p ρ).bind fun r => match r.d with
  | .list ds => if ds.all isIn = true then (q ρ).bind fun s => match s.d with
    | .int i => (match (ds.map intD).idxOf? i with
      | some j => .ok ⟨.imm, .int (j : Int)⟩
      | none => .bad)
    | _ => .bad else .bad
  | _ => .bad
theorem idxOf_some {i : Int} : ∀ {ys : List Int} {j : Nat}, ys.idxOf? i = some j → ys[j]? = some i ∧ ∀ (m : Nat) (z : Int), m < j → ys[m]? = some z → z ≠ i := by
  intro ys j h
  rw [List.idxOf?, List.findIdx?_eq_some_iff_getElem] at h
  obtain ⟨hl, h1, h2⟩ := h
  refine ⟨by rw [List.getElem?_eq_getElem hl]; simpa using h1, fun m z hm hz e => ?_⟩
  obtain ⟨hl2, hz2⟩ := List.getElem?_eq_some_iff.mp hz
  have := h2 m hm
  rw [hz2, e] at this
  simp at this
theorem s_idx {X : Cx} {E : XK} {a b : Expr} {p q : Px} {apos pos : Pos} (ha : PE X a (tP X.K E p)) (hb : PE X b (tP X.K E q)) (hst : starEach [b] X.env = (false, eval b X.env) :: starEach [] X.env := by rfl)
    (h : ∀ {to : TE} {t : TA}, PE X a to → PA X [b] t → PE X (.Call (.Attribute a "index" apos) [b] [] pos) (tBM X.K "list" (rIndex X.K) to t)) :
    PE X (.Call (.Attribute a "index" apos) [b] [] pos) (tP X.K E (pIdx p q)) := by
  refine (h ha (pa_cons hb pa_nil hst)).imp fun σ H Q h => ?_
  obtain ⟨Z, O, ρ, F, rl, h⟩ := h
  refine ⟨Z, O, ρ, F, rl, ?_⟩
  have h1 : ResK X.K E [] Z O H ((p ρ).bind fun r => match r.d with
    | .list ds => if ds.all isIn = true then (q ρ).bind fun s => match s.d with
      | .int i => (match (ds.map intD).idxOf? i with
        | some j => .ok ⟨.imm, .int (j : Int)⟩
        | none => .bad)
      | _ => .bad else .bad
    | _ => .bad) Q := h
  cases e : p ρ with
  | bad => rw [e] at h1; exact h1.elim
  | exc c fs => rw [e] at h1; exact h1
  | ok a =>
    rw [e] at h1
    simp only [Res.bind_ok] at h1
    intro v H1 Z1 O1 G x1 g1 q1 nd fr
    cases ed : a.d with
    | list ds =>
      rw [ed] at h1
      simp only at h1
      by_cases c : ds.all isIn = true
      · rw [if_pos c] at h1
        have lk := q1.look g1
        rw [ed] at lk
        cases lk with
        | lst hH rs =>
          obtain ⟨ys, e1, e2⟩ := ints_of rs c
          refine ⟨.inl ⟨rfl, _, .inl (.inl hH)⟩, Z1, O1, ρ, F, rl.ext x1 g1, ?_⟩
          cases e3 : q ρ with
          | bad => rw [e3] at h1; exact h1.elim
          | exc c fs => rw [e3] at h1; exact ExcK.ext h1 x1
          | ok s =>
            rw [e3] at h1
            simp only [Res.bind_ok] at h1
            intro w H2 Z2 O2 G2 x2 g2 q2 nd2 fr2
            cases es : s.d with
            | int i =>
              rw [es] at h1
              simp only at h1
              have em : ds.map intD = ys := by
                rw [e2, List.map_map]
                exact (List.map_congr_left fun _ _ => rfl).trans (List.map_id ys)
              rw [em] at h1
              cases ej : ys.idxOf? i with
              | none => rw [ej] at h1; exact h1.elim
              | some j =>
                rw [ej] at h1
                simp only at h1
                have lk2 := q2.look g2
                rw [es] at lk2
                cases lk2
                obtain ⟨k1, k2⟩ := idxOf_some ej
                refine ⟨_, ys.map V.int, .int i, j, .int i, rfl, rfl, ?_, rfl, ?_, ?_, ?_, ?_, ?_⟩
                · rw [← e1]; exact .of (x2.h.l hH)
                · rw [List.all_map]; exact List.all_eq_true.mpr fun _ _ => rfl
                · rw [List.getElem?_map, k1]; rfl
                · simp [eqV]
                · intro m z' hm hz
                  rw [List.getElem?_map] at hz
                  cases ez : ys[m]? with
                  | none => rw [ez] at hz; cases hz
                  | some z =>
                    rw [ez] at hz
                    cases hz
                    have := k2 m z hm ez
                    simpa [eqV] using this
                · exact h1 _ H2 Z2 O2 [] (x1.trans0 x2) g2 ⟨.int _, rfl⟩ List.nodup_nil fun a ha => by cases ha
            | _ => rw [es] at h1; exact h1.elim
      · rw [if_neg c] at h1; exact h1.elim
    | _ => rw [ed] at h1; exact h1.elim
@[simp] theorem x_augF {f : Int → Int → Int} {l : Plx} {p q : Px} {ρ : Ev} : sAugF f l p q ρ = (match l ρ with
  | .bad => .bad
  | .exc c fs => .exc c fs ρ
  | .ok l => (match p ρ with
    | .bad => .bad
    | .exc c fs => .exc c fs ρ
    | .ok i => (match l.d, i.d with
      | .list ds, .int k => if 0 ≤ k then (match ds[k.toNat]? with
        | some (.int x) => (match q ρ with
          | .bad => .bad
          | .exc c fs => .exc c fs ρ
          | .ok r => (match r.d with
            | .int y => putE l (.list (ds.set k.toNat (.int (f x y)))) ρ
            | _ => .bad))
        | _ => .bad) else .bad
      | _, _ => .bad))) := id rfl
@[simp] theorem x_fldA {F : Int → Int → Int} {c f : Str} {l : Plx} {q : Px} {ρ : Ev} : sFldA F c f l q ρ = (match l ρ with
  | .bad => .bad
  | .exc c fs => .exc c fs ρ
  | .ok l => (match unO c l.d with
    | some es => (match lkD (.inr f) es with
      | some (.int x) => (match q ρ with
        | .bad => .bad
        | .exc c fs => .exc c fs ρ
        | .ok r => (match r.d with
          | .int y => if es.length < 1000 then putE l (objD c (ptD (.inr f) (.int (F x y)) es)) ρ else .bad
          | _ => .bad))
      | _ => .bad)
    | none => .bad)) := id rfl
@[simp] theorem x_idx {p q : Px} {ρ : Ev} : pIdx p q ρ = ((p ρ).bind fun r => match r.d with
  | .list ds => if ds.all isIn = true then (q ρ).bind fun s => match s.d with
    | .int i => (match (ds.map intD).idxOf? i with
      | some j => .ok ⟨.imm, .int (j : Int)⟩
      | none => .bad)
    | _ => .bad else .bad
  | _ => .bad) := id rfl
end Oz

/-! Oz84: a list of one's own, given deeper into another slot's tree (o.f[i] = l). -/
namespace Oz
open PySem PySem.Spec L2
open PyProof.Rows hiding St
variable [WD]
def plgs (f : D → Option D) : List D → Option (List D)
  | [] => none
  | x :: xs => (match f x with
    | some y => some (y :: xs)
    | none => (plgs f xs).map (x :: ·))
def plgE (f : D → Option D) : List (D × D) → Option (List (D × D))
  | [] => none
  | (k, x) :: xs => (match f x with
    | some y => some ((k, y) :: xs)
    | none => (plgE f xs).map ((k, x) :: ·))
def plg (k a : Nat) (d : D) (t : D) : Option D := match k with
  | 0 => if isPtr a (some t) = true then some d else none
  | k + 1 => (match t with
    | .list xs => (plgs (plg k a d) xs).map .list
    | .dict es => (plgE (plg k a d) es).map .dict
    | _ => none)
theorem plgs_at {f : D → Option D} : ∀ {ds ds' : List D}, plgs f ds = some ds' → ∃ i x y, ds[i]? = some x ∧ f x = some y ∧ ds' = ds.set i y
  | [], _, h => by cases h
  | x :: xs, ds', h => by
    unfold plgs at h
    cases c : f x with
    | some y =>
      rw [c] at h
      cases h
      exact ⟨0, x, y, rfl, c, rfl⟩
    | none =>
      rw [c] at h
      cases e : plgs f xs with
      | none => rw [e] at h; cases h
      | some ys =>
        rw [e] at h
        cases h
        obtain ⟨i, x1, y1, h1, h2, h3⟩ := plgs_at e
        exact ⟨i + 1, x1, y1, by simpa using h1, h2, by rw [h3]; rfl⟩
theorem plgE_at {f : D → Option D} : ∀ {es es' : List (D × D)}, plgE f es = some es' → es'.map (·.1) = es.map (·.1) ∧ ∃ i x y, (es.map (·.2))[i]? = some x ∧ f x = some y ∧ es'.map (·.2) = (es.map (·.2)).set i y
  | [], _, h => by cases h
  | (k, x) :: xs, es', h => by
    unfold plgE at h
    cases c : f x with
    | some y =>
      rw [c] at h
      cases h
      exact ⟨rfl, 0, x, y, rfl, c, rfl⟩
    | none =>
      rw [c] at h
      cases e : plgE f xs with
      | none => rw [e] at h; cases h
      | some ys =>
        rw [e] at h
        cases h
        obtain ⟨h0, i, x1, y1, h1, h2, h3⟩ := plgE_at e
        refine ⟨by simp [h0], i + 1, x1, y1, by simpa using h1, h2, ?_⟩
        show x :: ys.map (·.2) = x :: ((xs.map (·.2)).set i y1)
        rw [h3]
theorem plg_int {k a : Nat} {d : D} {i : Int} : plg k a d (.int i) = none := by
  cases k with
  | zero => rfl
  | succ k => rfl
theorem plg_str {k a : Nat} {d : D} {i : Str} : plg k a d (.str i) = none := by
  cases k with
  | zero => rfl
  | succ k => rfl
section
variable {K : PySem.W.Frag} {E : XK} {Z O H : Hp} {σ : St} {ρ ρ' : Ev} {F : List Addr} {j x k : Nat} {a : Addr} {d : D}
theorem perm_mid {A G1 G' B Gd : List Addr} (pm : G'.Perm (G1 ++ Gd)) : (A ++ (G' ++ B)).Perm ((A ++ (G1 ++ B)) ++ Gd) := by
  rw [List.append_assoc, List.append_assoc]
  refine List.Perm.append_left A ?_
  refine (List.Perm.append_right B pm).trans ?_
  rw [List.append_assoc]
  exact List.Perm.append_left G1 List.perm_append_comm
theorem plg_ok : ∀ {k : Nat} {v : V} {t t' : D} {G Gd : List Addr}, Own K Z H v t G → Own K Z H (.ref a) d Gd → plg k a d t = some t' → ∃ G', Own K Z H v t' G' ∧ G'.Perm (G ++ Gd)
  | 0, v, t, t', G, Gd, q, w, h => by
    unfold plg at h
    by_cases c : isPtr a (some t) = true
    · rw [if_pos c] at h
      cases h
      have e := Option.some.inj (isPtr_ok c)
      subst e
      obtain ⟨rfl, rfl⟩ := q.ptr_inv
      exact ⟨Gd, w, List.Perm.refl _⟩
    · rw [if_neg c] at h; cases h
  | k + 1, v, t, t', G, Gd, q, w, h => by
    unfold plg at h
    cases t with
    | list xs =>
      simp only at h
      cases e : plgs (plg k a d) xs with
      | none => rw [e] at h; cases h
      | some ys =>
        rw [e] at h
        cases h
        obtain ⟨b, vs, G0, rfl, hb, qs, rfl⟩ := q.lst_inv
        obtain ⟨i, x1, y1, h1, h2, rfl⟩ := plgs_at e
        obtain ⟨y, A, G1, B, e1, e2, e3, e4⟩ := qs.at h1
        obtain ⟨G1', q1, pm1⟩ := plg_ok e3 w h2
        have z := e4 Z H y y1 G1' (Same.refl _) (fun a _ o h _ => h) q1
        rw [set_same e1] at z
        refine ⟨_, .lst hb z, ?_⟩
        rw [e2]
        exact List.Perm.cons b (perm_mid pm1)
    | dict es =>
      simp only at h
      cases e : plgE (plg k a d) es with
      | none => rw [e] at h; cases h
      | some es' =>
        rw [e] at h
        cases h
        obtain ⟨k1, i, x1, y1, h1, hx, h2⟩ := plgE_at e
        have core : ∀ {vs : List V} {G0 : List Addr}, Owns K Z H vs (es.map (·.2)) G0 → ∃ G', Owns K Z H vs (es'.map (·.2)) G' ∧ G'.Perm (G0 ++ Gd) := fun {vs G0} qs => by
          obtain ⟨y, A, G1, B, e1, e2, e3, e4⟩ := qs.at h1
          obtain ⟨G1', q1, pm1⟩ := plg_ok e3 w hx
          have z := e4 Z H y y1 G1' (Same.refl _) (fun a _ o h _ => h) q1
          rw [set_same e1] at z
          rw [h2]
          refine ⟨_, z, ?_⟩
          rw [e2]
          exact perm_mid pm1
        generalize hd : PyData.dict es = t at q
        cases q with
        | imm r p =>
          subst hd
          generalize hd2 : PyData.dict es = t2 at r
          cases r with
          | ptr b =>
            unfold ptrD at hd2
            cases hd2
            simp [plgE, plg_int] at e
          | scr _ _ => cases hd2; cases p
          | dct hh k r =>
            cases hd2
            rename_i bb kvs
            cases hkv : kvs with
            | nil => subst hkv; simp at k; subst k; cases p
            | cons y ys =>
              subst hkv
              cases es with
              | nil => simp at k
              | cons e0 es =>
                obtain ⟨k1, v1⟩ := e0
                simp only [List.map_cons, List.cons.injEq] at k
                obtain ⟨k0, _⟩ := k
                obtain ⟨y1, y2⟩ := y
                subst k0
                cases y1 <;> cases p
          | obj _ _ _ _ => cases hd2; cases p
          | _ => cases hd2
        | lst _ _ => cases hd
        | dct hh k r =>
          cases hd
          obtain ⟨G', q', pm⟩ := core r
          exact ⟨_ :: G', .dct hh (by rw [k1]; exact k) q', List.Perm.cons _ pm⟩
        | obj hh hh2 c k r =>
          cases hd
          rename_i es0 _
          cases es' with
          | nil => simp at k1
          | cons e0 es'' =>
            obtain ⟨ka, va⟩ := e0
            simp only [List.map_cons, List.cons.injEq] at k1
            obtain ⟨k1, k2⟩ := k1
            cases i with
            | zero =>
              simp at h1
              subst h1
              rw [plg_str] at hx
              cases hx
            | succ i =>
              simp only [List.map_cons, List.set_cons_succ, List.cons.injEq] at h2
              obtain ⟨h2, h3⟩ := h2
              have h1' : (es0.map (·.2))[i]? = some x1 := by simpa using h1
              obtain ⟨y, A, G1, B, e1, e2, e3, e4⟩ := r.at h1'
              obtain ⟨G1', q1, pm1⟩ := plg_ok e3 w hx
              have z := e4 Z H y y1 G1' (Same.refl _) (fun a _ o h _ => h) q1
              rw [set_same e1, ← h3] at z
              subst k1 h2
              refine ⟨_, .obj hh hh2 c (by rw [k2]; exact k) z, ?_⟩
              rw [e2]
              exact List.Perm.cons _ (List.Perm.cons _ (perm_mid pm1))
    | _ => cases h
end
def gvF (k j x a : Nat) (d : D) (ρ : Ev) : Option Ev := match ρ[x]? with
  | some (some ⟨.imm, t⟩) => if isPtr a (some t) = true ∧ nov ρ = true then some ((ρ.set j none).set x (some ⟨.own, d⟩)) else none
  | some (some ⟨.own, t⟩) => (match plg k a d t with
    | some t' => if nov ρ = true then some ((ρ.set j none).set x (some ⟨.own, t'⟩)) else none
    | none => none)
  | some (some ⟨.brw, t⟩) => (match plg k a d t with
    | some t' => if nov ρ = true then some ((ρ.set j none).set x (some ⟨.brw, t'⟩)) else none
    | none => none)
  | _ => none
def gvG (k j x a : Nat) (d : D) : SR → SR
  | .next ρ => (match gvF k j x a d ρ with
    | some ρ' => .next ρ'
    | none => .bad)
  | _ => .bad
noncomputable def sGivD (k j x : Nat) (s : Stx) : Stx := fun ρ => match ρ[j]? with
  | some (some ⟨.own, .list ds⟩) => if j ≠ x then ali fun a => gvG k j x a (.list ds) (s (ρ.set j (some ⟨.imm, ptrD a⟩))) else .bad
  | _ => .bad
section
variable {K : PySem.W.Frag} {E : XK} {Z O H : Hp} {σ : St} {ρ ρ' : Ev} {F : List Addr} {j x k : Nat} {a : Addr} {d : D}
theorem gvF_some (h : gvF k j x a d ρ = some ρ') : nov ρ = true ∧ ∃ s t s' t', ρ[x]? = some (some ⟨s, t⟩) ∧ ρ' = (ρ.set j none).set x (some ⟨s', t'⟩) ∧ ((s = .imm ∧ t = ptrD a ∧ s' = .own ∧ t' = d) ∨ ((s = .own ∨ s = .brw) ∧ s' = s ∧ plg k a d t = some t')) := by
  unfold gvF at h
  split at h
  · rename_i t e
    by_cases c : isPtr a (some t) = true ∧ nov ρ = true
    · rw [if_pos c] at h
      cases h
      exact ⟨c.2, _, _, _, _, e, rfl, .inl ⟨rfl, Option.some.inj (isPtr_ok c.1), rfl, rfl⟩⟩
    · rw [if_neg c] at h; cases h
  · rename_i t e
    cases p : plg k a d t with
    | none => rw [p] at h; cases h
    | some t' =>
      rw [p] at h
      simp only at h
      by_cases c : nov ρ = true
      · rw [if_pos c] at h
        cases h
        exact ⟨c, _, _, _, _, e, rfl, .inr ⟨.inl rfl, rfl, p⟩⟩
      · rw [if_neg c] at h; cases h
  · rename_i t e
    cases p : plg k a d t with
    | none => rw [p] at h; cases h
    | some t' =>
      rw [p] at h
      simp only at h
      by_cases c : nov ρ = true
      · rw [if_pos c] at h
        cases h
        exact ⟨c, _, _, _, _, e, rfl, .inr ⟨.inr rfl, rfl, p⟩⟩
      · rw [if_neg c] at h; cases h
  · cases h
theorem gvF_ok {G : List Addr} (rl : Rel K Z O H σ ρ F) (jx : j ≠ x) (w : Own K Z H (.ref a) d G) (nG : G.Nodup) (dj : ∀ c ∈ G, c ∉ F) (oG : ∀ c ∈ G, O c = none) (h : gvF k j x a d ρ = some ρ') :
    ∃ F', Rel K Z O H σ ρ' F' ∧ nov ρ' = true ∧ (∀ c ∈ F', c ∈ F ∨ c ∈ G) ∧ ∀ (m : Nat) (dm : D), m ≠ j → ρ[m]? = some (some (R.mk .brw dm)) → ∃ d', ρ'[m]? = some (some (R.mk .brw d')) := by
  obtain ⟨n, s, t, s', t', e1, rfl, cs⟩ := gvF_some h
  obtain ⟨hlx, _⟩ := List.getElem?_eq_some_iff.mp e1
  -- slot j emptied
  have sj : ∃ F0, Rel K Z O H σ (ρ.set j none) F0 ∧ ∀ c ∈ F0, c ∈ F := by
    by_cases hl : j < ρ.length
    · obtain ⟨y, y', F1, G1, F2, h1, h2, h3, h4, h5⟩ := rl.sl.focus hl
      have sl := h5 y none [] Z O H (Same.refl _) (Same.refl _) (.inl fun _ _ q _ => q) (fun a _ o q _ => q) (by cases y <;> rfl)
      rw [set_same h1] at sl
      have sb : (F1 ++ ([] ++ F2)).Sublist F := by
        rw [h3, List.nil_append]
        exact List.Sublist.append (List.Sublist.refl _) (List.sublist_append_right _ _)
      exact ⟨_, ⟨rl.g, rl.nd.sublist sb, fun c hc => rl.fo c (sb.subset hc), sl, rl.tb⟩, fun c hc => sb.subset hc⟩
    · have : ρ.set j none = ρ := List.set_eq_of_length_le (by omega)
      rw [this]
      exact ⟨F, rl, fun c hc => hc⟩
  obtain ⟨F0, rl0, sb0⟩ := sj
  have n0 : nov (ρ.set j none) = true := nov_set n fun d e => by cases e
  have ex : (ρ.set j none)[x]? = some (some ⟨s, t⟩) := by rw [List.getElem?_set_ne jx]; exact e1
  obtain ⟨hl0, _⟩ := List.getElem?_eq_some_iff.mp ex
  obtain ⟨y, y', F1, G1, F2, h1, h2, h3, h4, h5⟩ := rl0.sl.focus hl0
  rw [ex] at h2
  cases h2
  have brw : ∀ (m : Nat) (dm : D), m ≠ j → ρ[m]? = some (some (R.mk .brw dm)) → (s' = s ∨ s ≠ .brw) → ∃ d', ((ρ.set j none).set x (some ⟨s', t'⟩))[m]? = some (some (R.mk .brw d')) := fun m dm hm hb hs => by
    by_cases mx : x = m
    · subst mx
      rw [e1] at hb
      cases hb
      rcases hs with rfl | hs
      · exact ⟨t', List.getElem?_set_self (by simpa using hlx)⟩
      · exact absurd rfl hs
    · exact ⟨dm, by rw [List.getElem?_set_ne mx, List.getElem?_set_ne (Ne.symm hm)]; exact hb⟩
  have dj0 : ∀ c ∈ G, c ∉ F0 := fun c hc z => dj c hc (sb0 c z)
  have nd0 := rl0.nd
  rw [h3] at nd0
  obtain ⟨m1, m2, m3⟩ := List.nodup_append.mp nd0
  obtain ⟨m4, m5, m6⟩ := List.nodup_append.mp m2
  have fin : ∀ {Gn : List Addr}, (∃ v, y = some v ∧ Own K Z H v t' Gn) → (s' = .own ∨ s' = .brw) → Gn.Nodup → (∀ c ∈ Gn, c ∈ G1 ∨ c ∈ G) →
      ∃ F', Rel K Z O H σ ((ρ.set j none).set x (some ⟨s', t'⟩)) F' ∧ nov ((ρ.set j none).set x (some ⟨s', t'⟩)) = true ∧ ∀ c ∈ F', c ∈ F ∨ c ∈ G := fun {Gn} hv hs nn sub => by
    obtain ⟨v, rfl, ov⟩ := hv
    have sl := h5 (some v) (some ⟨s', t'⟩) Gn Z O H (Same.refl _) (Same.refl _) (.inl fun _ _ q _ => q) (fun a _ o q _ => q) (by rcases hs with rfl | rfl <;> exact .inl ov)
    rw [set_same h1] at sl
    have inF : ∀ c ∈ F1 ++ (Gn ++ F2), c ∈ F ∨ c ∈ G := fun c hc => by
      rcases List.mem_append.mp hc with hc | hc
      · exact .inl (sb0 c (by rw [h3]; simp [hc]))
      · rcases List.mem_append.mp hc with hc | hc
        · exact (sub c hc).imp (fun z => sb0 c (by rw [h3]; simp [z])) id
        · exact .inl (sb0 c (by rw [h3]; simp [hc]))
    refine ⟨_, ⟨rl.g, ?_, fun c hc => (inF c hc).elim (rl.fo c) (oG c), sl, rl.tb⟩, nov_set n0 fun d' e => ?_, inF⟩
    · rw [List.nodup_append]
      refine ⟨m1, ?_, fun c hc b hb e => ?_⟩
      · rw [List.nodup_append]
        refine ⟨nn, m5, fun c hc b hb e => ?_⟩
        subst e
        rcases sub c hc with z | z
        · exact m6 c z c hb rfl
        · exact dj0 c z (by rw [h3]; simp [hb])
      · subst e
        rcases List.mem_append.mp hb with hb | hb
        · rcases sub c hb with z | z
          · exact m3 c hc c (List.mem_append_left _ z) rfl
          · exact dj0 c z (by rw [h3]; simp [hc])
        · exact m3 c hc c (List.mem_append_right _ hb) rfl
    · cases e
      rcases hs with z | z <;> cases z
  rcases cs with ⟨rfl, rfl, rfl, rfl⟩ | ⟨hs, rfl, hp⟩
  · cases y with
    | none => exact h4.elim
    | some v =>
      have h6 : Rep K Z v (ptrD a) ∧ G1 = [] := RepS.rep h4 nofun
      have e6 : v = .ref a := (Own.ptr_inv (H := H) (.imm h6.1 rfl)).1
      subst e6
      obtain ⟨F', r1, r2, r3⟩ := fin ⟨_, rfl, w⟩ (.inl rfl) nG fun c hc => .inr hc
      exact ⟨F', r1, r2, r3, fun m dm hm hb => brw m dm hm hb (.inr fun z => by cases z)⟩
  · cases y with
    | none => exact h4.elim
    | some v =>
      have ov : Own K Z H v t G1 := by rcases hs with rfl | rfl <;> exact RepS.rep h4 nofun
      obtain ⟨Gn, on', pm⟩ := plg_ok ov w hp
      have nn : (G1 ++ G).Nodup := by
        rw [List.nodup_append]
        exact ⟨m4, nG, fun c hc b hb e => by subst e; exact dj0 c hb (by rw [h3]; simp [hc])⟩
      obtain ⟨F', r1, r2, r3⟩ := fin ⟨v, rfl, on'⟩ hs (pm.nodup_iff.mpr nn) fun c hc => List.mem_append.mp (pm.mem_iff.mp hc)
      exact ⟨F', r1, r2, r3, fun m dm hm hb => brw m dm hm hb (.inl rfl)⟩
theorem tS_givD {s : Stx} {D : Ends} (h : tS K E (sGivD k j x s) D σ H) : tS K E s D σ H := by
  obtain ⟨Z, O, ρ, F, rl, n, h⟩ := h
  unfold sGivD at h
  split at h
  · rename_i ds ej
    by_cases jx : j ≠ x
    · rw [if_pos jx] at h
      obtain ⟨hl, _⟩ := List.getElem?_eq_some_iff.mp ej
      obtain ⟨y, y', F1, G, F2, h1, h2, h3, h4, h5⟩ := rl.sl.focus hl
      rw [ej] at h2
      cases h2
      cases y with
      | none => exact h4.elim
      | some v =>
        have ow : Own K Z H v (.list ds) G := RepS.rep h4 nofun
        obtain ⟨a, xs, G0, rfl, _, _, _⟩ := ow.lst_inv
        have h6 := ali_all (P := SRK K E Z O H σ ρ F D.nx D.rt) (fun z => z) h a
        have sl := h5 (some (.ref a)) (some ⟨.imm, ptrD a⟩) [] Z O H (Same.refl _) (Same.refl _) (.inl fun _ _ q _ => q) (fun a _ o q _ => q) (.inl ⟨.ptr a, rfl⟩)
        rw [set_same h1] at sl
        have nF := rl.nd
        rw [h3] at nF
        obtain ⟨m1, m2, m3⟩ := List.nodup_append.mp nF
        obtain ⟨m4, m5, m6⟩ := List.nodup_append.mp m2
        have sb : (F1 ++ ([] ++ F2)).Sublist F := by
          rw [h3, List.nil_append]
          exact List.Sublist.append (List.Sublist.refl _) (List.sublist_append_right _ _)
        have dG : ∀ c ∈ G, c ∉ F1 ++ ([] ++ F2) := fun c hc z => by
          rcases List.mem_append.mp z with z | z
          · exact m3 c z c (List.mem_append_left _ hc) rfl
          · exact m6 c hc c (by simpa using z) rfl
        have inF : ∀ c ∈ G, c ∈ F := fun c hc => by rw [h3]; simp [hc]
        refine ⟨Z, O, ρ.set j (some ⟨.imm, ptrD a⟩), F1 ++ ([] ++ F2), ⟨rl.g, rl.nd.sublist sb, fun c hc => rl.fo c (sb.subset hc), sl, rl.tb⟩, nov_set n (fun d e => by cases e), ?_⟩
        cases es : s (ρ.set j (some ⟨.imm, ptrD a⟩)) with
        | bad => rw [es] at h6; exact h6
        | ret r ρ' => rw [es] at h6; exact h6.elim
        | exc c fs ρ' => rw [es] at h6; exact h6.elim
        | next ρ' =>
          rw [es] at h6
          have h7 : SRK K E Z O H σ ρ F D.nx D.rt (match gvF k j x a (.list ds) ρ' with | some ρ' => .next ρ' | none => .bad) := h6
          intro σ' H' Z' O' F' rl' n' tr
          cases eg : gvF k j x a (.list ds) ρ' with
          | none => rw [eg] at h7; exact h7.elim
          | some ρ'' =>
            rw [eg] at h7
            have live : ∀ c ∈ G, ∃ o, H c = some o := fun c hc => let ⟨o, q, _⟩ := ow.live c hc; ⟨o, q⟩
            have ow' : Own K Z' H' (.ref a) (.list ds) G := Own.mono tr.tr.z (fun c hc o q n => tr.tr.keep c o q (dG c hc) n) ow
            have oG' : ∀ c ∈ G, O' c = none := fun c hc => by
              cases w : O' c with
              | none => rfl
              | some o =>
                obtain ⟨o1, q⟩ := live c hc
                rcases tr.on c (by rw [w]; simp) with z | z | z
                · exact absurd (rl.fo c (inF c hc)) z
                · exact absurd z (dG c hc)
                · rw [q] at z; cases z
            have dG' : ∀ c ∈ G, c ∉ F' := fun c hc z => by
              obtain ⟨o1, q⟩ := live c hc
              rcases tr.tr.fn c z with w | w
              · exact dG c hc w
              · rw [q] at w; cases w
            obtain ⟨F'', r1, r2, r3, r4⟩ := gvF_ok rl' jx ow' m4 dG' oG' eg
            refine h7 σ' H' Z' O' F'' r1 r2 ⟨⟨tr.tr.z, fun c o q hn n => tr.tr.keep c o q (fun z => hn (sb.subset z)) n, fun c q => (tr.tr.zn c q).imp id fun z => z.imp (fun z => sb.subset z) id, fun c hc => ?_, fun c h => (tr.tr.fr c h).imp (fun z => sb.subset z) id, fun c hn h => tr.tr.tab c (fun z => hn (sb.subset z)) h⟩, tr.o, tr.len, fun m dm hm => ?_, fun c q => (tr.on c q).imp id fun z => z.imp (fun z => sb.subset z) id⟩
            · rcases r3 c hc with z | z
              · exact (tr.tr.fn c z).imp (fun z => sb.subset z) id
              · exact .inl (inF c z)
            · have mj : m ≠ j := fun z => by rw [z, ej] at hm; cases hm
              obtain ⟨q1, d1, q2⟩ := tr.brw m dm (by rw [List.getElem?_set_ne (Ne.symm mj)]; exact hm)
              exact ⟨q1, r4 m d1 mj q2⟩
    · rw [if_neg jx] at h; exact h.elim
  · exact h.elim
end
theorem s_givD {X : Cx} {E : XK} {st : Stmt} {s : Stx} (k j x : Nat) (h : PS X st (tS X.K E s)) : PS X st (tS X.K E (sGivD k j x s)) := h.imp fun _ _ _ q => tS_givD q
section
variable {ρ : Ev}
@[simp] theorem x_givD {k j x : Nat} {s : Stx} : sGivD k j x s ρ = (match ρ[j]? with
  | some (some ⟨.own, .list ds⟩) => if j ≠ x then ali fun a => gvG k j x a (.list ds) (s (ρ.set j (some ⟨.imm, ptrD a⟩))) else .bad
  | _ => .bad) := id rfl
@[simp] theorem x_gvG {k j x a : Nat} {d : D} : gvG k j x a d (.next ρ) = (match gvF k j x a d ρ with
    | some ρ' => .next ρ'
    | none => .bad) := id rfl
@[simp] theorem x_gvF {k j x a : Nat} {d : D} : gvF k j x a d ρ = (match ρ[x]? with
  | some (some ⟨.imm, t⟩) => if isPtr a (some t) = true ∧ nov ρ = true then some ((ρ.set j none).set x (some ⟨.own, d⟩)) else none
  | some (some ⟨.own, t⟩) => (match plg k a d t with
    | some t' => if nov ρ = true then some ((ρ.set j none).set x (some ⟨.own, t'⟩)) else none
    | none => none)
  | some (some ⟨.brw, t⟩) => (match plg k a d t with
    | some t' => if nov ρ = true then some ((ρ.set j none).set x (some ⟨.brw, t'⟩)) else none
    | none => none)
  | _ => none) := id rfl
end
@[simp] theorem plg_0 {a : Nat} {d t : D} : plg 0 a d t = if isPtr a (some t) = true then some d else none := rfl
@[simp] theorem plg_l {k a : Nat} {d : D} {xs : List D} : plg (k + 1) a d (.list xs) = (plgs (plg k a d) xs).map .list := rfl
@[simp] theorem plg_d {k a : Nat} {d : D} {es : List (D × D)} : plg (k + 1) a d (.dict es) = (plgE (plg k a d) es).map .dict := rfl
@[simp] theorem plgs_nil {f : D → Option D} : plgs f [] = none := rfl
@[simp] theorem plgs_cons {f : D → Option D} {x : D} {xs : List D} : plgs f (x :: xs) = (match f x with | some y => some (y :: xs) | none => (plgs f xs).map (x :: ·)) := rfl
@[simp] theorem plgE_nil {f : D → Option D} : plgE f [] = none := rfl
@[simp] theorem plgE_cons {f : D → Option D} {k x : D} {xs : List (D × D)} : plgE f ((k, x) :: xs) = (match f x with | some y => some ((k, y) :: xs) | none => (plgE f xs).map ((k, x) :: ·)) := rfl
theorem plgs_none {f : D → Option D} {xs : List D} (h : ∀ x ∈ xs, f x = none) : plgs f xs = none := by
  induction xs with
  | nil => rfl
  | cons x xs ih => rw [plgs_cons, h x (by simp), ih fun y hy => h y (by simp [hy])]; rfl
theorem plgs_set {f : D → Option D} {y z : D} (hy : f y = some z) : ∀ {xs : List D} {i : Nat}, (∀ x ∈ xs, f x = none) → i < xs.length → plgs f (xs.set i y) = some (xs.set i z)
  | [], i, _, hi => by simp at hi
  | x :: xs, 0, h, hi => by rw [List.set_cons_zero, plgs_cons, hy]; rfl
  | x :: xs, i + 1, h, hi => by
    rw [List.set_cons_succ, plgs_cons, h x (by simp), plgs_set hy (fun y hy => h y (by simp [hy])) (by simpa using hi)]
    rfl
theorem plg_lf {k a : Nat} {d t : D} (h : lf t = true) : plg k a d t = none := by
  cases k with
  | zero => rw [plg_0, if_neg (by rw [isPtr_lf h]; decide)]
  | succ k =>
    unfold plg
    cases t with
    | list xs => cases h
    | dict es => cases h
    | _ => rfl
end Oz

namespace Law
open PySem PySem.Spec L2 Oz
open PyProof.Rows hiding St
structure Txt [WD] (P : Program) (w : World) (K : PySem.W.Frag) (mg : Str → Option Value) (base : Heap) : Prop where
  hw : w = WD.w
  f__law_begun : ∃ f fd, FunD K "_law_begun" "_law_begun" (defArgs st__law_begun) (defBody st__law_begun) (defScope st__law_begun) [] [] f fd ∧ mg "_law_begun" = some (.ref f)
  f_Trail___init__ : ∃ f fd, FunD K "__init__" "Trail.__init__" (defArgs st_Trail___init__) (defBody st_Trail___init__) (defScope st_Trail___init__) [] [] f fd ∧ Mk K (He.ga K "Trail") f
  f_Trail_evidence : ∃ f fd, FunD K "evidence" "Trail.evidence" (defArgs st_Trail_evidence) (defBody st_Trail_evidence) (defScope st_Trail_evidence) [] [] f fd ∧ Meth K (He.ga K "Trail") "evidence" f
  f__law_evidence : ∃ f fd, FunD K "_law_evidence" "_law_evidence" (defArgs st__law_evidence) (defBody st__law_evidence) (defScope st__law_evidence) [] [] f fd ∧ mg "_law_evidence" = some (.ref f)
  f_Trail_history : ∃ f fd, FunD K "history" "Trail.history" (defArgs st_Trail_history) (defBody st_Trail_history) (defScope st_Trail_history) [] [] f fd ∧ Meth K (He.ga K "Trail") "history" f
  f_Trail_numbers : ∃ f fd, FunD K "numbers" "Trail.numbers" (defArgs st_Trail_numbers) (defBody st_Trail_numbers) (defScope st_Trail_numbers) [] [] f fd ∧ Meth K (He.ga K "Trail") "numbers" f
  f_Trail_dishonest : ∃ f fd, FunD K "dishonest" "Trail.dishonest" (defArgs st_Trail_dishonest) (defBody st_Trail_dishonest) (defScope st_Trail_dishonest) [] [] f fd ∧ Meth K (He.ga K "Trail") "dishonest" f
  f_Trail_stock : ∃ f fd, FunD K "stock" "Trail.stock" (defArgs st_Trail_stock) (defBody st_Trail_stock) (defScope st_Trail_stock) [] [] f fd ∧ Meth K (He.ga K "Trail") "stock" f
  f__law_is_it : ∃ f fd, FunD K "_law_is_it" "_law_is_it" (defArgs st__law_is_it) (defBody st__law_is_it) (defScope st__law_is_it) [] [] f fd ∧ mg "_law_is_it" = some (.ref f)
  f__law_draws : ∃ f fd, FunD K "_law_draws" "_law_draws" (defArgs st__law_draws) (defBody st__law_draws) (defScope st__law_draws) [] [] f fd ∧ mg "_law_draws" = some (.ref f)
  f__law_parties : ∃ f fd, FunD K "_law_parties" "_law_parties" (defArgs st__law_parties) (defBody st__law_parties) (defScope st__law_parties) [] [] f fd ∧ mg "_law_parties" = some (.ref f)
  f__law_deed : ∃ f fd, FunD K "_law_deed" "_law_deed" (defArgs st__law_deed) (defBody st__law_deed) (defScope st__law_deed) [] [] f fd ∧ mg "_law_deed" = some (.ref f)
  f__law_why_not : ∃ f fd, FunD K "_law_why_not" "_law_why_not" (defArgs st__law_why_not) (defBody st__law_why_not) (defScope st__law_why_not) [] [] f fd ∧ mg "_law_why_not" = some (.ref f)
  f_Trail_omit : ∃ f fd, FunD K "omit" "Trail.omit" (defArgs st_Trail_omit) (defBody st_Trail_omit) (defScope st_Trail_omit) [] [] f fd ∧ Meth K (He.ga K "Trail") "omit" f
  f_Trail_next_number : ∃ f fd, FunD K "next_number" "Trail.next_number" (defArgs st_Trail_next_number) (defBody st_Trail_next_number) (defScope st_Trail_next_number) [] [] f fd ∧ Meth K (He.ga K "Trail") "next_number" f
  f_Trail_make : ∃ f fd, FunD K "make" "Trail.make" (defArgs st_Trail_make) (defBody st_Trail_make) (defScope st_Trail_make) [] [] f fd ∧ Meth K (He.ga K "Trail") "make" f
  f_Trail_check_stock : ∃ f fd, FunD K "check_stock" "Trail.check_stock" (defArgs st_Trail_check_stock) (defBody st_Trail_check_stock) (defScope st_Trail_check_stock) [] [] f fd ∧ Meth K (He.ga K "Trail") "check_stock" f
  f_Trail_treat : ∃ f fd, FunD K "treat" "Trail.treat" (defArgs st_Trail_treat) (defBody st_Trail_treat) (defScope st_Trail_treat) [] [] f fd ∧ Meth K (He.ga K "Trail") "treat" f
  f_Trail_note : ∃ f fd, FunD K "note" "Trail.note" (defArgs st_Trail_note) (defBody st_Trail_note) (defScope st_Trail_note) [] [] f fd ∧ Meth K (He.ga K "Trail") "note" f
  f_Trail_move : ∃ f fd, FunD K "move" "Trail.move" (defArgs st_Trail_move) (defBody st_Trail_move) (defScope st_Trail_move) [] [] f fd ∧ Meth K (He.ga K "Trail") "move" f
  f_Trail_hand : ∃ f fd, FunD K "hand" "Trail.hand" (defArgs st_Trail_hand) (defBody st_Trail_hand) (defScope st_Trail_hand) [] [] f fd ∧ Meth K (He.ga K "Trail") "hand" f
  f_Trail_inspect : ∃ f fd, FunD K "inspect" "Trail.inspect" (defArgs st_Trail_inspect) (defBody st_Trail_inspect) (defScope st_Trail_inspect) [] [] f fd ∧ Meth K (He.ga K "Trail") "inspect" f
  f_Trail_pass_on : ∃ f fd, FunD K "pass_on" "Trail.pass_on" (defArgs st_Trail_pass_on) (defBody st_Trail_pass_on) (defScope st_Trail_pass_on) [] [] f fd ∧ Meth K (He.ga K "Trail") "pass_on" f
  f_Trail_dump : ∃ f fd, FunD K "dump" "Trail.dump" (defArgs st_Trail_dump) (defBody st_Trail_dump) (defScope st_Trail_dump) [] [] f fd ∧ Meth K (He.ga K "Trail") "dump" f
  f_Trail_conjure : ∃ f fd, FunD K "conjure" "Trail.conjure" (defArgs st_Trail_conjure) (defBody st_Trail_conjure) (defScope st_Trail_conjure) [] [] f fd ∧ Meth K (He.ga K "Trail") "conjure" f
  f_Trail_sign : ∃ f fd, FunD K "sign" "Trail.sign" (defArgs st_Trail_sign) (defBody st_Trail_sign) (defScope st_Trail_sign) [] [] f fd ∧ Meth K (He.ga K "Trail") "sign" f
  f_Trail_write : ∃ f fd, FunD K "write" "Trail.write" (defArgs st_Trail_write) (defBody st_Trail_write) (defScope st_Trail_write) [] [] f fd ∧ Meth K (He.ga K "Trail") "write" f
  f__law_told : ∃ f fd, FunD K "_law_told" "_law_told" (defArgs st__law_told) (defBody st__law_told) (defScope st__law_told) [] [] f fd ∧ mg "_law_told" = some (.ref f)
  f__law_cell : ∃ f fd, FunD K "_law_cell" "_law_cell" (defArgs st__law_cell) (defBody st__law_cell) (defScope st__law_cell) [] [] f fd ∧ mg "_law_cell" = some (.ref f)
  f__law_noted : ∃ f fd, FunD K "_law_noted" "_law_noted" (defArgs st__law_noted) (defBody st__law_noted) (defScope st__law_noted) [] [] f fd ∧ mg "_law_noted" = some (.ref f)
  f__law_lied : ∃ f fd, FunD K "_law_lied" "_law_lied" (defArgs st__law_lied) (defBody st__law_lied) (defScope st__law_lied) [] [] f fd ∧ mg "_law_lied" = some (.ref f)
  f__law_honest : ∃ f fd, FunD K "_law_honest" "_law_honest" (defArgs st__law_honest) (defBody st__law_honest) (defScope st__law_honest) [] [] f fd ∧ mg "_law_honest" = some (.ref f)
  f__law_did : ∃ f fd, FunD K "_law_did" "_law_did" (defArgs st__law_did) (defBody st__law_did) (defScope st__law_did) [] [] f fd ∧ mg "_law_did" = some (.ref f)
  f__law_modelled : ∃ f fd, FunD K "_law_modelled" "_law_modelled" (defArgs st__law_modelled) (defBody st__law_modelled) (defScope st__law_modelled) [] [] f fd ∧ mg "_law_modelled" = some (.ref f)
  f__law_written : ∃ f fd, FunD K "_law_written" "_law_written" (defArgs st__law_written) (defBody st__law_written) (defScope st__law_written) [] [] f fd ∧ mg "_law_written" = some (.ref f)
  f_law : ∃ f fd, FunD K "law" "law" (defArgs st_law) (defBody st_law) (defScope st_law) [] [] f fd ∧ mg "law" = some (.ref f)
  cl_Trail : Cls K (He.ga K "Trail")
  g_Trail : mg "Trail" = some (.ref (He.ga K "Trail"))
  na_Trail_kinds : NoAttr K (He.ga K "Trail") "kinds"
  na_Trail_parties : NoAttr K (He.ga K "Trail") "parties"
  na_Trail_stocks : NoAttr K (He.ga K "Trail") "stocks"
  na_Trail_files : NoAttr K (He.ga K "Trail") "files"
  na_Trail_finds : NoAttr K (He.ga K "Trail") "finds"
  na_Trail_events : NoAttr K (He.ga K "Trail") "events"
  na_Trail_last : NoAttr K (He.ga K "Trail") "last"
  na_Trail_liars : NoAttr K (He.ga K "Trail") "liars"
  b_range : mg "range" = none
  b_tuple : mg "tuple" = none
  b_list : mg "list" = none
  b_sorted : mg "sorted" = none
  b_len : mg "len" = none
  b_int : mg "int" = none
  rf_Refused : Rfs P K mg "Refused"
section
noncomputable def c__law_begun_0 : Px := pC (.int 0)
noncomputable def q__law_begun_0 : Px := pComp [5] (srcR1 (pVar 0)) (cN 5) (tYesD) (c__law_begun_0)
noncomputable def c__law_begun_1 : Px := q__law_begun_0
noncomputable def q__law_begun_1 : Px := pComp [4] (srcC (pVar 1)) (cN 4) (tYesD) (c__law_begun_1)
noncomputable def c__law_begun_2 : Px := pLst []
noncomputable def q__law_begun_2 : Px := pComp [4] (srcC (pVar 1)) (cN 4) (tYesD) (c__law_begun_2)
noncomputable def b__law_begun : Stx := sSeq (sAsg 2 q__law_begun_1) (sSeq (sGive 2 3 (sAsg 3 (pDct (flatP [(pC (.str "kinds"), pVar 0), (pC (.str "parties"), pVar 1), (pC (.str "stock"), pVar 2), (pC (.str "files"), q__law_begun_2)])))) (sSeq (sPut (plN 3) (pC (.str "finds")) (pLst [])) (sSeq (sPut (plN 3) (pC (.str "events")) (pLst [])) (sSeq (sPut (plN 3) (pC (.str "last")) (pC (.int 0))) (sSeq (sPut (plN 3) (pC (.str "liars")) (pLst [])) (sRetV 3))))))
noncomputable def m__law_begun : Fn := fnD 6 [.v, .v] b__law_begun
noncomputable def c_Trail___init___0 : Px := p2 mulR (pLst [pC (.int 0)]) (pVar 1)
noncomputable def q_Trail___init___0 : Px := pComp [3] (srcC (pFld "Trail" "parties" (pVar 0))) (cN 3) (tYesD) (c_Trail___init___0)
noncomputable def c_Trail___init___1 : Px := pLst []
noncomputable def q_Trail___init___1 : Px := pComp [3] (srcC (pFld "Trail" "parties" (pVar 0))) (cN 3) (tYesD) (c_Trail___init___1)
noncomputable def b_Trail___init__ : Stx := sSeq (sFldS "Trail" "kinds" (plN 0) (pVar 1)) (sSeq (sFldS "Trail" "parties" (plN 0) (pB bTuple [pVar 2])) (sSeq (sFldS "Trail" "stocks" (plN 0) (q_Trail___init___0)) (sSeq (sFldS "Trail" "files" (plN 0) (q_Trail___init___1)) (sSeq (sFldS "Trail" "finds" (plN 0) (pLst [])) (sSeq (sFldS "Trail" "events" (plN 0) (pLst [])) (sSeq (sFldS "Trail" "last" (plN 0) (pC (.int 0))) (sFldS "Trail" "liars" (plN 0) (pDct (flatP [])))))))))
noncomputable def m_Trail___init__ : Fn := fnD 4 [.m, .v, .v] b_Trail___init__
noncomputable def c_Trail_evidence_0 : Px := pB bTuple [pVar 1]
noncomputable def q_Trail_evidence_0 : Px := pComp [1] (srcC (pFld "Trail" "files" (pVar 0))) (cN 1) (tYesD) (c_Trail_evidence_0)
noncomputable def b_Trail_evidence : Stx := sRet (pTup [pFld "Trail" "kinds" (pVar 0), pFld "Trail" "parties" (pVar 0), pB bTuple [q_Trail_evidence_0], pB bTuple [pFld "Trail" "finds" (pVar 0)]])
noncomputable def m_Trail_evidence : Fn := fnD 2 [.v] b_Trail_evidence
noncomputable def c__law_evidence_0 : Px := pB bTuple [pVar 2]
noncomputable def q__law_evidence_0 : Px := pComp [2] (srcC (p2 keyR (pVar 0) (pC (.str "files")))) (cN 2) (tYesD) (c__law_evidence_0)
noncomputable def b__law_evidence : Stx := sSeq (sAsg 1 (pB bTuple [q__law_evidence_0])) (sRet (pTup [p2 keyR (pVar 0) (pC (.str "kinds")), p2 keyR (pVar 0) (pC (.str "parties")), pVar 1, pB bTuple [p2 keyR (pVar 0) (pC (.str "finds"))]]))
noncomputable def m__law_evidence : Fn := fnD 3 [.v] b__law_evidence
noncomputable def b_Trail_history : Stx := sRet (pB bList [pFld "Trail" "events" (pVar 0)])
noncomputable def m_Trail_history : Fn := fnD 1 [.v] b_Trail_history
noncomputable def b_Trail_numbers : Stx := sFrz 0 (sRet (pFld "Trail" "last" (pVar 0)))
noncomputable def m_Trail_numbers : Fn := fnD 1 [.v] b_Trail_numbers
noncomputable def b_Trail_dishonest : Stx := sRet (pB bTuple [pB bSortDk [pFld "Trail" "liars" (pVar 0)]])
noncomputable def m_Trail_dishonest : Fn := fnD 1 [.v] b_Trail_dishonest
noncomputable def b_Trail_stock : Stx := sFrz 0 (sRet (p2 ixR (p2 ixR (pFld "Trail" "stocks" (pVar 0)) (pVar 1)) (pVar 2)))
noncomputable def m_Trail_stock : Fn := fnD 3 [.v, .v, .v] b_Trail_stock
noncomputable def l__law_is_it_0 : Stx := sEnd [true, true, true, false] [false, false, false, false] (sIf (tVal (p2 (at2 neF) (pMeth "Trail" "stock" m_Trail_stock [.v, .v, .v] (pVar 0) [pVar 2, pVar 3]) (p2 ixR (p2 ixR (p2 keyR (pVar 1) (pC (.str "stock"))) (pVar 2)) (pVar 3)))) (sRet (pC (.bool false))) (sNext))
noncomputable def f__law_is_it_0 : Stx := sPre [true, true, true, false] (sFor (srcR1 (p2 keyR (pVar 1) (pC (.str "kinds")))) (gN 3) (l__law_is_it_0))
noncomputable def l__law_is_it_1 : Stx := sEnd [true, true, false, false] [false, false, false, false] (f__law_is_it_0)
noncomputable def f__law_is_it_1 : Stx := sEnd [false, false, false, false] [false, false, false, false] (sPre [true, true, false, false] (sFor (srcR1 (pB (b1 fLen) [p2 keyR (pVar 1) (pC (.str "parties"))])) (gN 2) (l__law_is_it_1)))
noncomputable def b__law_is_it : Stx := sSeq (sIf (tOrD (tVal (p2 (at2 neF) (pMeth "Trail" "evidence" m_Trail_evidence [.v] (pVar 0) []) (pCall m__law_evidence [.v] [pVar 1]))) (tVal (p2 (at2 neF) (pMeth "Trail" "history" m_Trail_history [.v] (pVar 0) []) (p2 keyR (pVar 1) (pC (.str "events")))))) (sRet (pC (.bool false))) (sNext)) (sSeq (sIf (tOrD (tVal (p2 (at2 neF) (pMeth "Trail" "numbers" m_Trail_numbers [.v] (pVar 0) []) (p2 keyR (pVar 1) (pC (.str "last"))))) (tVal (p2 (at2 neF) (pMeth "Trail" "dishonest" m_Trail_dishonest [.v] (pVar 0) []) (pB bTuple [pB bSorted [p2 keyR (pVar 1) (pC (.str "liars"))]])))) (sRet (pC (.bool false))) (sNext)) (sSeq (f__law_is_it_1) (sRet (pC (.bool true)))))
noncomputable def m__law_is_it : Fn := fnD 4 [.v, .v] b__law_is_it
noncomputable def l__law_draws_0 : Stx := sEnd [true, true, true, true, false, false] [false, false, false, false, false, false] (sIf (tTru (pVar 3)) (sSeq (sApp (plN 2) (p2 (at2 fMod) (pB (b1 fInt) [pVar 0]) (pC (.int 1009)))) (sAsg 0 (p2 (at2 fDiv) (pVar 0) (pC (.int 1009))))) (sSeq (sAsg 5 (p2 (at2 fMod) (pB (b1 fInt) [p2 addR (p2 mulR (pVar 0) (pC (.int 48271))) (p2 mulR (pVar 4) (pC (.int 69621)))]) (pC (.int 2147483647)))) (sApp (plN 2) (p2 (at2 fMod) (pB (b1 fInt) [p2 addR (p2 addR (p2 mulR (pVar 5) (pVar 5)) (p2 mulR (pVar 0) (pC (.int 31)))) (pVar 4)]) (pC (.int 1000003))))))
noncomputable def f__law_draws_0 : Stx := sEnd [false, false, true, false, false, false] [false, false, false, false, false, false] (sPre [true, true, true, true, false, false] (sFor (srcR1 (pVar 1)) (gN 4) (l__law_draws_0)))
noncomputable def b__law_draws : Stx := sSeq (sAsg 2 (pLst [])) (sSeq (sAsg 3 (p2 (at2 fGe) (pVar 0) (p2 (at2 fPow) (pC (.int 10)) (pC (.int 18))))) (sSeq (f__law_draws_0) (sRetV 2)))
noncomputable def m__law_draws : Fn := fnD 6 [.v, .v] b__law_draws
noncomputable def c__law_parties_0 : Px := p2 ixR (pVar 3) (p2 (at2 fMod) (pB (b1 fInt) [p2 ixR (pVar 2) (p2 addR (pC (.int 1)) (pVar 4))]) (pC (.int 4)))
noncomputable def q__law_parties_0 : Px := pComp [4] (srcR1 (p2 addR (pC (.int 1)) (p2 (at2 fMod) (pB (b1 fInt) [p2 ixR (pVar 2) (pC (.int 0))]) (pVar 1)))) (cN 4) (tYesD) (c__law_parties_0)
noncomputable def b__law_parties : Stx := sSeq (sAsg 2 (pCall m__law_draws [.v, .v] [pVar 0, pC (.int 10)])) (sSeq (sAsg 3 (pLst [pTup [pC (.bool true), pC (.bool false)], pTup [pC (.bool false), pC (.bool false)], pTup [pC (.bool false), pC (.bool true)], pTup [pC (.bool true), pC (.bool true)]])) (sRet (pB bTuple [q__law_parties_0])))
noncomputable def m__law_parties : Fn := fnD 5 [.v, .v] b__law_parties
noncomputable def b__law_deed : Stx := sSeq (sAsg 3 (pCall m__law_draws [.v, .v] [pVar 0, pC (.int 8)])) (sSeq (sAsg 4 (pB (b1 fLen) [p2 keyR (pVar 1) (pC (.str "parties"))])) (sSeq (sAsg 5 (pLst [pC (.str "make"), pC (.str "make"), pC (.str "hand"), pC (.str "hand"), pC (.str "hand"), pC (.str "treat"), pC (.str "inspect")])) (sSeq (sIf (tVal (p2 (at2 fLt) (p2 (at2 fMod) (pB (b1 fInt) [p2 ixR (pVar 3) (pC (.int 0))]) (pC (.int 10))) (pVar 2))) (sAsg 5 (pLst [pC (.str "pass"), pC (.str "dump"), pC (.str "conjure"), pC (.str "sign"), pC (.str "write"), pC (.str "omit"), pC (.str "pass")])) (sNext)) (sSeq (sAsg 6 (p2 (at2 fMod) (pB (b1 fInt) [p2 ixR (pVar 3) (pC (.int 2))]) (pVar 4))) (sSeq (sAsg 7 (p2 (at2 fMod) (pB (b1 fInt) [p2 ixR (pVar 3) (pC (.int 4))]) (p2 keyR (pVar 1) (pC (.str "kinds"))))) (sSeq (sAsg 8 (p2 ixR (pVar 5) (p2 (at2 fMod) (pB (b1 fInt) [p2 ixR (pVar 3) (pC (.int 1))]) (pC (.int 7))))) (sSeq (sAsg 9 (p2 addR (pC (.int 1)) (p2 (at2 fMod) (pB (b1 fInt) [p2 ixR (pVar 3) (pC (.int 5))]) (pC (.int 60))))) (sSeq (sAsg 10 (p2 ixR (p2 ixR (p2 keyR (pVar 1) (pC (.str "stock"))) (pVar 6)) (pVar 7))) (sSeq (sIf (tAndD (tVal (p2 (at2 inF) (pVar 8) (pTup [pC (.str "hand"), pC (.str "treat"), pC (.str "pass"), pC (.str "dump")]))) (tAndD (tVal (p2 (at2 fGt) (pVar 10) (pC (.int 0)))) (tVal (p2 (at2 fGt) (p2 (at2 fMod) (pB (b1 fInt) [p2 ixR (pVar 3) (pC (.int 6))]) (pC (.int 5))) (pC (.int 0)))))) (sAsg 9 (p2 addR (pC (.int 1)) (p2 (at2 fMod) (pB (b1 fInt) [p2 ixR (pVar 3) (pC (.int 5))]) (pVar 10)))) (sNext)) (sRet (pTup [pVar 8, pVar 6, p2 (at2 fMod) (pB (b1 fInt) [p2 ixR (pVar 3) (pC (.int 3))]) (pVar 4), pVar 7, pVar 9, p2 (at2 eqF) (p2 (at2 fMod) (pB (b1 fInt) [p2 ixR (pVar 3) (pC (.int 7))]) (pC (.int 2))) (pC (.int 0))])))))))))))
noncomputable def m__law_deed : Fn := fnD 11 [.v, .v, .v] b__law_deed
noncomputable def c__law_why_not_0 : Px := p2 ixR (pVar 8) (pC (.int 0))
noncomputable def q__law_why_not_0 : Px := pComp [8] (srcC (p2 ixR (p2 keyR (pVar 0) (pC (.str "files"))) (pVar 3))) (cN 8) (tYesD) (c__law_why_not_0)
noncomputable def b__law_why_not : Stx := sSeq (sAsgT (gT 6 (gsC (gN 2) (gsC (gN 3) (gsC (gN 4) (gsC (gN 5) (gsC (gN 6) (gsC (gN 7) (gsN)))))))) (pVar 1)) (sSeq (sIf (tAndD (tVal (p2 (at2 inF) (pVar 2) (pTup [pC (.str "hand"), pC (.str "pass"), pC (.str "sign")]))) (tVal (p2 (at2 eqF) (pVar 3) (pVar 4)))) (sRet (pC (.str "same party"))) (sNext)) (sSeq (sIf (tAndD (tVal (p2 (at2 inF) (pVar 2) (pTup [pC (.str "make"), pC (.str "conjure")]))) (tNotD (tTru (p2 ixR (p2 ixR (p2 keyR (pVar 0) (pC (.str "parties"))) (pVar 3)) (pC (.int 0)))))) (sRet (pC (.str "party does not make waste"))) (sNext)) (sSeq (sIf (tAndD (tVal (p2 (at2 eqF) (pVar 2) (pC (.str "treat")))) (tNotD (tTru (p2 ixR (p2 ixR (p2 keyR (pVar 0) (pC (.str "parties"))) (pVar 3)) (pC (.int 1)))))) (sRet (pC (.str "party does not treat waste"))) (sNext)) (sSeq (sIf (tAndD (tVal (p2 (at2 inF) (pVar 2) (pTup [pC (.str "treat"), pC (.str "hand"), pC (.str "pass"), pC (.str "dump")]))) (tVal (p2 (at2 fLt) (p2 ixR (p2 ixR (p2 keyR (pVar 0) (pC (.str "stock"))) (pVar 3)) (pVar 5)) (pVar 6)))) (sRet (pC (.str "not enough waste"))) (sNext)) (sSeq (sIf (tAndD (tVal (p2 (at2 eqF) (pVar 2) (pC (.str "omit")))) (tVal (p2 (at2 ninF) (pVar 6) (q__law_why_not_0)))) (sRet (pC (.str "no such entry"))) (sNext)) (sRet (pC (.str ""))))))))
noncomputable def m__law_why_not : Fn := fnD 9 [.v, .v] b__law_why_not
noncomputable def c_Trail_omit_0 : Px := pVar 4
noncomputable def ct_Trail_omit_0 : Tx := tVal (p2 (at2 neF) (p2 ixR (pVar 4) (pC (.int 0))) (pVar 2))
noncomputable def q_Trail_omit_0 : Px := pComp [4] (srcC (p2 ixR (pFld "Trail" "files" (pVar 0)) (pVar 1))) (cN 4) (ct_Trail_omit_0) (c_Trail_omit_0)
noncomputable def b_Trail_omit : Stx := sSeq (sAsg 3 q_Trail_omit_0) (sSeq (sIf (tVal (p2 (at2 eqF) (pB (b1 fLen) [pVar 3]) (pB (b1 fLen) [p2 ixR (pFld "Trail" "files" (pVar 0)) (pVar 1)]))) (sRse "Refused" (.str "no such entry")) (sNext)) (sSeq (sGivD 2 3 0 (sSetI (plF "Trail" "files" (plN 0)) (pVar 1) (pVar 3))) (sPut (plF "Trail" "liars" (plN 0)) (pVar 1) (pC (.bool true)))))
noncomputable def m_Trail_omit : Fn := fnD 5 [.m, .v, .v] b_Trail_omit
noncomputable def b_Trail_next_number : Stx := sSeq (sFldA (fun i j => i + j) "Trail" "last" (plN 0) (pC (.int 1))) (sRet (pFld "Trail" "last" (pVar 0)))
noncomputable def m_Trail_next_number : Fn := fnD 1 [.m] b_Trail_next_number
noncomputable def b_Trail_make : Stx := sSeq (sIf (tNotD (tTru (p2 ixR (p2 ixR (pFld "Trail" "parties" (pVar 0)) (pVar 1)) (pC (.int 0))))) (sRse "Refused" (.str "party does not make waste")) (sNext)) (sSeq (mAsg 4 (mMeth "Trail" "next_number" m_Trail_next_number [.m] 0 [])) (sSeq (sAugI (plI (plF "Trail" "stocks" (plN 0)) (pVar 1)) (pVar 2) (pVar 3)) (sSeq (sApp (plI (plF "Trail" "files" (plN 0)) (pVar 1)) (pTup [pVar 4, pC (.str "made"), pVar 2, pVar 3])) (sSeq (sApp (plF "Trail" "events" (plN 0)) (pTup [pC (.str "made"), pVar 4, pVar 1, pVar 2, pVar 3])) (sRetV 4)))))
noncomputable def m_Trail_make : Fn := fnD 5 [.m, .v, .v, .v] b_Trail_make
noncomputable def b_Trail_check_stock : Stx := sIf (tVal (p2 (at2 fLt) (p2 ixR (p2 ixR (pFld "Trail" "stocks" (pVar 0)) (pVar 1)) (pVar 2)) (pVar 3))) (sRse "Refused" (.str "not enough waste")) (sNext)
noncomputable def m_Trail_check_stock : Fn := fnD 4 [.v, .v, .v, .v] b_Trail_check_stock
noncomputable def b_Trail_treat : Stx := sSeq (sIf (tNotD (tTru (p2 ixR (p2 ixR (pFld "Trail" "parties" (pVar 0)) (pVar 1)) (pC (.int 1))))) (sRse "Refused" (.str "party does not treat waste")) (sNext)) (sSeq (sDrop (pMeth "Trail" "check_stock" m_Trail_check_stock [.v, .v, .v, .v] (pVar 0) [pVar 1, pVar 2, pVar 3])) (sSeq (mAsg 4 (mMeth "Trail" "next_number" m_Trail_next_number [.m] 0 [])) (sSeq (sAugF (fun i j => i - j) (plI (plF "Trail" "stocks" (plN 0)) (pVar 1)) (pVar 2) (pVar 3)) (sSeq (sApp (plI (plF "Trail" "files" (plN 0)) (pVar 1)) (pTup [pVar 4, pC (.str "treated"), pVar 2, pVar 3])) (sSeq (sApp (plF "Trail" "events" (plN 0)) (pTup [pC (.str "treated"), pVar 4, pVar 1, pVar 2, pVar 3])) (sRetV 4))))))
noncomputable def m_Trail_treat : Fn := fnD 5 [.m, .v, .v, .v] b_Trail_treat
noncomputable def b_Trail_note : Stx := sSeq (mAsg 6 (mMeth "Trail" "next_number" m_Trail_next_number [.m] 0 [])) (sSeq (sApp (plI (plF "Trail" "files" (plN 0)) (pVar 1)) (pTup [pVar 6, pC (.str "gave"), pVar 3, pVar 4, pVar 2, pVar 5])) (sSeq (sApp (plI (plF "Trail" "files" (plN 0)) (pVar 2)) (pTup [pVar 6, pC (.str "took"), pVar 3, pVar 4, pVar 1, pVar 5])) (sRetV 6)))
noncomputable def m_Trail_note : Fn := fnD 7 [.m, .v, .v, .v, .v, .v] b_Trail_note
noncomputable def b_Trail_move : Stx := sSeq (sAugF (fun i j => i - j) (plI (plF "Trail" "stocks" (plN 0)) (pVar 1)) (pVar 3) (pVar 4)) (sAugI (plI (plF "Trail" "stocks" (plN 0)) (pVar 2)) (pVar 3) (pVar 4))
noncomputable def m_Trail_move : Fn := fnD 5 [.m, .v, .v, .v, .v] b_Trail_move
noncomputable def b_Trail_hand : Stx := sSeq (sIf (tVal (p2 (at2 eqF) (pVar 1) (pVar 2))) (sRse "Refused" (.str "same party")) (sNext)) (sSeq (sDrop (pMeth "Trail" "check_stock" m_Trail_check_stock [.v, .v, .v, .v] (pVar 0) [pVar 1, pVar 3, pVar 4])) (sSeq (mAsg 6 (mMeth "Trail" "note" m_Trail_note [.m, .v, .v, .v, .v, .v] 0 [.n 1, .n 2, .n 3, .n 4, .n 5])) (sSeq (mDrop (mMeth "Trail" "move" m_Trail_move [.m, .v, .v, .v, .v] 0 [.n 1, .n 2, .n 3, .n 4])) (sSeq (sApp (plF "Trail" "events" (plN 0)) (pTup [pC (.str "handed"), pVar 6, pVar 1, pVar 2, pVar 3, pVar 4, pVar 5])) (sRetV 6)))))
noncomputable def m_Trail_hand : Fn := fnD 7 [.m, .v, .v, .v, .v, .v] b_Trail_hand
noncomputable def b_Trail_inspect : Stx := sSeq (sAsg 3 (p2 ixR (p2 ixR (pFld "Trail" "stocks" (pVar 0)) (pVar 1)) (pVar 2))) (sSeq (mAsg 4 (mMeth "Trail" "next_number" m_Trail_next_number [.m] 0 [])) (sSeq (sApp (plF "Trail" "finds" (plN 0)) (pTup [pVar 4, pVar 1, pVar 2, pVar 3])) (sSeq (sApp (plF "Trail" "events" (plN 0)) (pTup [pC (.str "found"), pVar 4, pVar 1, pVar 2, pVar 3])) (sRetV 3))))
noncomputable def m_Trail_inspect : Fn := fnD 5 [.m, .v, .v] b_Trail_inspect
noncomputable def b_Trail_pass_on : Stx := sSeq (sIf (tVal (p2 (at2 eqF) (pVar 1) (pVar 2))) (sRse "Refused" (.str "same party")) (sNext)) (sSeq (sDrop (pMeth "Trail" "check_stock" m_Trail_check_stock [.v, .v, .v, .v] (pVar 0) [pVar 1, pVar 3, pVar 4])) (sSeq (mDrop (mMeth "Trail" "move" m_Trail_move [.m, .v, .v, .v, .v] 0 [.n 1, .n 2, .n 3, .n 4])) (sSeq (sPut (plF "Trail" "liars" (plN 0)) (pVar 1) (pC (.bool true))) (sSeq (sPut (plF "Trail" "liars" (plN 0)) (pVar 2) (pC (.bool true))) (sApp (plF "Trail" "events" (plN 0)) (pTup [pC (.str "passed"), pVar 1, pVar 2, pVar 3, pVar 4]))))))
noncomputable def m_Trail_pass_on : Fn := fnD 5 [.m, .v, .v, .v, .v] b_Trail_pass_on
noncomputable def b_Trail_dump : Stx := sSeq (sDrop (pMeth "Trail" "check_stock" m_Trail_check_stock [.v, .v, .v, .v] (pVar 0) [pVar 1, pVar 2, pVar 3])) (sSeq (sAugF (fun i j => i - j) (plI (plF "Trail" "stocks" (plN 0)) (pVar 1)) (pVar 2) (pVar 3)) (sSeq (sPut (plF "Trail" "liars" (plN 0)) (pVar 1) (pC (.bool true))) (sApp (plF "Trail" "events" (plN 0)) (pTup [pC (.str "dumped"), pVar 1, pVar 2, pVar 3]))))
noncomputable def m_Trail_dump : Fn := fnD 4 [.m, .v, .v, .v] b_Trail_dump
noncomputable def b_Trail_conjure : Stx := sSeq (sIf (tNotD (tTru (p2 ixR (p2 ixR (pFld "Trail" "parties" (pVar 0)) (pVar 1)) (pC (.int 0))))) (sRse "Refused" (.str "party does not make waste")) (sNext)) (sSeq (sAugI (plI (plF "Trail" "stocks" (plN 0)) (pVar 1)) (pVar 2) (pVar 3)) (sSeq (sPut (plF "Trail" "liars" (plN 0)) (pVar 1) (pC (.bool true))) (sApp (plF "Trail" "events" (plN 0)) (pTup [pC (.str "conjured"), pVar 1, pVar 2, pVar 3]))))
noncomputable def m_Trail_conjure : Fn := fnD 4 [.m, .v, .v, .v] b_Trail_conjure
noncomputable def b_Trail_sign : Stx := sSeq (sIf (tVal (p2 (at2 eqF) (pVar 1) (pVar 2))) (sRse "Refused" (.str "same party")) (sNext)) (sSeq (sPut (plF "Trail" "liars" (plN 0)) (pVar 1) (pC (.bool true))) (sSeq (sPut (plF "Trail" "liars" (plN 0)) (pVar 2) (pC (.bool true))) (mRet (mMeth "Trail" "note" m_Trail_note [.m, .v, .v, .v, .v, .v] 0 [.n 1, .n 2, .n 3, .n 4, .n 5]))))
noncomputable def m_Trail_sign : Fn := fnD 6 [.m, .v, .v, .v, .v, .v] b_Trail_sign
noncomputable def b_Trail_write : Stx := sSeq (sAsg 6 (p2 (at2 inF) (pVar 2) (pTup [pC (.str "gave"), pC (.str "took")]))) (sSeq (sIf (tAndD (tTru (pVar 6)) (tVal (p2 (at2 eqF) (pVar 5) (pVar 1)))) (sRse "Refused" (.str "same party")) (sNext)) (sSeq (mAsg 7 (mMeth "Trail" "next_number" m_Trail_next_number [.m] 0 [])) (sSeq (sPut (plF "Trail" "liars" (plN 0)) (pVar 1) (pC (.bool true))) (sSeq (sAsg 8 (pIf (tTru (pVar 6)) (pTup [pVar 7, pVar 2, pVar 3, pVar 4, pVar 5, pC (.bool false)]) (pTup [pVar 7, pVar 2, pVar 3, pVar 4]))) (sSeq (sApp (plI (plF "Trail" "files" (plN 0)) (pVar 1)) (pVar 8)) (sRetV 7))))))
noncomputable def m_Trail_write : Fn := fnD 9 [.m, .v, .v, .v, .v, .v] b_Trail_write
noncomputable def b__law_told : Stx := sSeq (sAsgT (gT 6 (gsC (gN 2) (gsC (gN 3) (gsC (gN 4) (gsC (gN 5) (gsC (gN 6) (gsC (gN 7) (gsN)))))))) (pVar 1)) (sTryG 9 "Refused" (sSeq (sIf (tVal (p2 (at2 eqF) (pVar 2) (pC (.str "make")))) (mRet (mMeth "Trail" "make" m_Trail_make [.m, .v, .v, .v] 0 [.n 3, .n 5, .n 6])) (sNext)) (sSeq (sIf (tVal (p2 (at2 eqF) (pVar 2) (pC (.str "treat")))) (mRet (mMeth "Trail" "treat" m_Trail_treat [.m, .v, .v, .v] 0 [.n 3, .n 5, .n 6])) (sNext)) (sSeq (sIf (tVal (p2 (at2 eqF) (pVar 2) (pC (.str "hand")))) (mRet (mMeth "Trail" "hand" m_Trail_hand [.m, .v, .v, .v, .v, .v] 0 [.n 3, .n 4, .n 5, .n 6, .n 7])) (sNext)) (sSeq (sIf (tVal (p2 (at2 eqF) (pVar 2) (pC (.str "inspect")))) (mRet (mMeth "Trail" "inspect" m_Trail_inspect [.m, .v, .v] 0 [.n 3, .n 5])) (sNext)) (sSeq (sIf (tVal (p2 (at2 eqF) (pVar 2) (pC (.str "pass")))) (mRet (mMeth "Trail" "pass_on" m_Trail_pass_on [.m, .v, .v, .v, .v] 0 [.n 3, .n 4, .n 5, .n 6])) (sNext)) (sSeq (sIf (tVal (p2 (at2 eqF) (pVar 2) (pC (.str "dump")))) (mRet (mMeth "Trail" "dump" m_Trail_dump [.m, .v, .v, .v] 0 [.n 3, .n 5, .n 6])) (sNext)) (sSeq (sIf (tVal (p2 (at2 eqF) (pVar 2) (pC (.str "conjure")))) (mRet (mMeth "Trail" "conjure" m_Trail_conjure [.m, .v, .v, .v] 0 [.n 3, .n 5, .n 6])) (sNext)) (sSeq (sIf (tVal (p2 (at2 eqF) (pVar 2) (pC (.str "sign")))) (mRet (mMeth "Trail" "sign" m_Trail_sign [.m, .v, .v, .v, .v, .v] 0 [.n 3, .n 4, .n 5, .n 6, .n 7])) (sNext)) (sSeq (sIf (tVal (p2 (at2 eqF) (pVar 2) (pC (.str "write")))) (sSeq (sAsg 8 (p2 ixR (pLst [pC (.str "made"), pC (.str "treated"), pC (.str "gave"), pC (.str "took")]) (p2 addR (pB (b1 fInt) [pVar 7]) (p2 mulR (pC (.int 2)) (pB (b1 fInt) [p2 (at2 neF) (pVar 3) (pVar 4)]))))) (mRet (mMeth "Trail" "write" m_Trail_write [.m, .v, .v, .v, .v, .v] 0 [.n 3, .n 8, .n 5, .n 6, .n 4]))) (sNext)) (mRet (mMeth "Trail" "omit" m_Trail_omit [.m, .v, .v] 0 [.n 3, .n 6]))))))))))))
noncomputable def m__law_told : Fn := fnD 10 [.m, .v] b__law_told
noncomputable def b__law_cell : Stx := sSeq (sIf (tVal (p2 (at2 fLt) (pVar 1) (pB (b1 fLen) [pVar 0]))) (sFrz 0 (sRet (p2 ixR (pVar 0) (pVar 1)))) (sNext)) (sRet (pC (.int 0)))
noncomputable def m__law_cell : Fn := fnD 2 [.v, .v] b__law_cell
noncomputable def b__law_noted : Stx := sSeq (sPut (plN 0) (pC (.str "last")) (p2 addR (p2 keyR (pVar 0) (pC (.str "last"))) (pC (.int 1)))) (sSeq (sApp (plI (plK (plN 0) (pC (.str "files"))) (pVar 1)) (pTup [p2 keyR (pVar 0) (pC (.str "last")), pC (.str "gave"), pVar 3, pVar 4, pVar 2, pVar 5])) (sApp (plI (plK (plN 0) (pC (.str "files"))) (pVar 2)) (pTup [p2 keyR (pVar 0) (pC (.str "last")), pC (.str "took"), pVar 3, pVar 4, pVar 1, pVar 5])))
noncomputable def m__law_noted : Fn := fnD 6 [.m, .v, .v, .v, .v, .v] b__law_noted
noncomputable def l__law_lied_0 : Stx := sEnd [true, false, false, false, false, false, false, false, true, false, false, false] [true, false, false, false, false, false, false, false, false, false, false, false] (sIf (tVal (p2 (at2 ninF) (pVar 11) (p2 keyR (pVar 0) (pC (.str "liars"))))) (sApp (plK (plN 0) (pC (.str "liars"))) (pVar 11)) (sNext))
noncomputable def f__law_lied_0 : Stx := sEnd [true, false, false, false, false, false, false, false, false, false, false, false] [true, false, false, false, false, false, false, false, false, false, false, false] (sPre [true, false, false, false, false, false, false, false, true, false, false, false] (sFrz 8 (sFor (srcS (pVar 8)) (gN 11) (l__law_lied_0))))
noncomputable def b__law_lied : Stx := sAli 0 7 "stock" (sSeq (sAsg 8 (pLst [pVar 2])) (sSeq (sEnd [true, false, false, false, false, false, false, false, true, false, false, false] [true, false, false, false, false, false, false, false, false, false, false, false] (sIf (tAndD (tVal (p2 (at2 eqF) (pVar 1) (pC (.str "pass")))) (tAndD (tVal (p2 (at2 neF) (pVar 2) (pVar 3))) (tVal (p2 (at2 fGe) (p2 ixR (p2 ixR (pVar 7) (pVar 2)) (pVar 4)) (pVar 5))))) (sSeq (sSetI (plI (plN 7) (pVar 2)) (pVar 4) (p2 (at2 fSub) (p2 ixR (p2 ixR (pVar 7) (pVar 2)) (pVar 4)) (pVar 5))) (sSeq (sSetI (plI (plN 7) (pVar 3)) (pVar 4) (p2 addR (p2 ixR (p2 ixR (pVar 7) (pVar 3)) (pVar 4)) (pVar 5))) (sSeq (sApp (plK (plN 0) (pC (.str "events"))) (pTup [pC (.str "passed"), pVar 2, pVar 3, pVar 4, pVar 5])) (sAsg 8 (pLst [pVar 2, pVar 3]))))) (sIf (tAndD (tVal (p2 (at2 eqF) (pVar 1) (pC (.str "dump")))) (tVal (p2 (at2 fGe) (p2 ixR (p2 ixR (pVar 7) (pVar 2)) (pVar 4)) (pVar 5)))) (sSeq (sSetI (plI (plN 7) (pVar 2)) (pVar 4) (p2 (at2 fSub) (p2 ixR (p2 ixR (pVar 7) (pVar 2)) (pVar 4)) (pVar 5))) (sApp (plK (plN 0) (pC (.str "events"))) (pTup [pC (.str "dumped"), pVar 2, pVar 4, pVar 5]))) (sIf (tAndD (tVal (p2 (at2 eqF) (pVar 1) (pC (.str "conjure")))) (tTru (p2 ixR (p2 ixR (p2 keyR (pVar 0) (pC (.str "parties"))) (pVar 2)) (pC (.int 0))))) (sSeq (sSetI (plI (plN 7) (pVar 2)) (pVar 4) (p2 addR (p2 ixR (p2 ixR (pVar 7) (pVar 2)) (pVar 4)) (pVar 5))) (sApp (plK (plN 0) (pC (.str "events"))) (pTup [pC (.str "conjured"), pVar 2, pVar 4, pVar 5]))) (sIf (tAndD (tVal (p2 (at2 eqF) (pVar 1) (pC (.str "sign")))) (tVal (p2 (at2 neF) (pVar 2) (pVar 3)))) (sSeq (mDrop (mCall m__law_noted [.m, .v, .v, .v, .v, .v] 0 [.n 0, .n 2, .n 3, .n 4, .n 5, .n 6])) (sAsg 8 (pLst [pVar 2, pVar 3]))) (sIf (tVal (p2 (at2 eqF) (pVar 1) (pC (.str "write")))) (sSeq (sPut (plN 0) (pC (.str "last")) (p2 addR (p2 keyR (pVar 0) (pC (.str "last"))) (pC (.int 1)))) (sSeq (sAsg 9 (p2 ixR (pLst [pC (.str "made"), pC (.str "treated"), pC (.str "gave"), pC (.str "took")]) (p2 addR (pB (b1 fInt) [pVar 6]) (p2 mulR (pC (.int 2)) (pB (b1 fInt) [p2 (at2 neF) (pVar 2) (pVar 3)]))))) (sSeq (sAsg 10 (pIf (tVal (p2 (at2 inF) (pVar 9) (pTup [pC (.str "gave"), pC (.str "took")]))) (pTup [pVar 3, pC (.bool false)]) (pTup []))) (sApp (plI (plK (plN 0) (pC (.str "files"))) (pVar 2)) (p2 addR (pTup [p2 keyR (pVar 0) (pC (.str "last")), pVar 9, pVar 4, pVar 5]) (pVar 10)))))) (sIf (tAndD (tVal (p2 (at2 eqF) (pVar 1) (pC (.str "omit")))) (tVal (p2 (at2 fGt) (pB (b1 fLen) [p2 ixR (p2 keyR (pVar 0) (pC (.str "files"))) (pVar 2)]) (pC (.int 0))))) (sPop (plI (plK (plN 0) (pC (.str "files"))) (pVar 2)) (p2 (at2 fMod) (pB (b1 fInt) [pVar 5]) (pB (b1 fLen) [p2 ixR (p2 keyR (pVar 0) (pC (.str "files"))) (pVar 2)]))) (sRet (pC (.bool false)))))))))) (sSeq (f__law_lied_0) (sRet (pC (.bool true))))))
noncomputable def m__law_lied : Fn := fnD 12 [.m, .v, .v, .v, .v, .v, .v] b__law_lied
noncomputable def b__law_honest : Stx := sAli 0 7 "stock" (sSeq (sIf (tAndD (tVal (p2 (at2 eqF) (pVar 1) (pC (.str "make")))) (tTru (p2 ixR (p2 ixR (p2 keyR (pVar 0) (pC (.str "parties"))) (pVar 2)) (pC (.int 0))))) (sSeq (sPut (plN 0) (pC (.str "last")) (p2 addR (p2 keyR (pVar 0) (pC (.str "last"))) (pC (.int 1)))) (sSeq (sSetI (plI (plN 7) (pVar 2)) (pVar 4) (p2 addR (p2 ixR (p2 ixR (pVar 7) (pVar 2)) (pVar 4)) (pVar 5))) (sSeq (sApp (plI (plK (plN 0) (pC (.str "files"))) (pVar 2)) (pTup [p2 keyR (pVar 0) (pC (.str "last")), pC (.str "made"), pVar 4, pVar 5])) (sApp (plK (plN 0) (pC (.str "events"))) (pTup [pC (.str "made"), p2 keyR (pVar 0) (pC (.str "last")), pVar 2, pVar 4, pVar 5]))))) (sIf (tAndD (tVal (p2 (at2 eqF) (pVar 1) (pC (.str "treat")))) (tAndD (tTru (p2 ixR (p2 ixR (p2 keyR (pVar 0) (pC (.str "parties"))) (pVar 2)) (pC (.int 1)))) (tVal (p2 (at2 fGe) (p2 ixR (p2 ixR (pVar 7) (pVar 2)) (pVar 4)) (pVar 5))))) (sSeq (sPut (plN 0) (pC (.str "last")) (p2 addR (p2 keyR (pVar 0) (pC (.str "last"))) (pC (.int 1)))) (sSeq (sSetI (plI (plN 7) (pVar 2)) (pVar 4) (p2 (at2 fSub) (p2 ixR (p2 ixR (pVar 7) (pVar 2)) (pVar 4)) (pVar 5))) (sSeq (sApp (plI (plK (plN 0) (pC (.str "files"))) (pVar 2)) (pTup [p2 keyR (pVar 0) (pC (.str "last")), pC (.str "treated"), pVar 4, pVar 5])) (sApp (plK (plN 0) (pC (.str "events"))) (pTup [pC (.str "treated"), p2 keyR (pVar 0) (pC (.str "last")), pVar 2, pVar 4, pVar 5]))))) (sIf (tAndD (tVal (p2 (at2 eqF) (pVar 1) (pC (.str "hand")))) (tAndD (tVal (p2 (at2 neF) (pVar 2) (pVar 3))) (tVal (p2 (at2 fGe) (p2 ixR (p2 ixR (pVar 7) (pVar 2)) (pVar 4)) (pVar 5))))) (sSeq (mDrop (mCall m__law_noted [.m, .v, .v, .v, .v, .v] 0 [.n 0, .n 2, .n 3, .n 4, .n 5, .n 6])) (sSeq (sSetI (plI (plN 7) (pVar 2)) (pVar 4) (p2 (at2 fSub) (p2 ixR (p2 ixR (pVar 7) (pVar 2)) (pVar 4)) (pVar 5))) (sSeq (sSetI (plI (plN 7) (pVar 3)) (pVar 4) (p2 addR (p2 ixR (p2 ixR (pVar 7) (pVar 3)) (pVar 4)) (pVar 5))) (sApp (plK (plN 0) (pC (.str "events"))) (pTup [pC (.str "handed"), p2 keyR (pVar 0) (pC (.str "last")), pVar 2, pVar 3, pVar 4, pVar 5, pVar 6]))))) (sIf (tVal (p2 (at2 eqF) (pVar 1) (pC (.str "inspect")))) (sSeq (sPut (plN 0) (pC (.str "last")) (p2 addR (p2 keyR (pVar 0) (pC (.str "last"))) (pC (.int 1)))) (sSeq (sApp (plK (plN 0) (pC (.str "finds"))) (pTup [p2 keyR (pVar 0) (pC (.str "last")), pVar 2, pVar 4, p2 ixR (p2 ixR (pVar 7) (pVar 2)) (pVar 4)])) (sApp (plK (plN 0) (pC (.str "events"))) (pTup [pC (.str "found"), p2 keyR (pVar 0) (pC (.str "last")), pVar 2, pVar 4, p2 ixR (p2 ixR (pVar 7) (pVar 2)) (pVar 4)])))) (sRet (pC (.bool false))))))) (sRet (pC (.bool true))))
noncomputable def m__law_honest : Fn := fnD 8 [.m, .v, .v, .v, .v, .v, .v] b__law_honest
noncomputable def b__law_did : Stx := sSeq (sAsgT (gT 6 (gsC (gN 2) (gsC (gN 3) (gsC (gN 4) (gsC (gN 5) (gsC (gN 6) (gsC (gN 7) (gsN)))))))) (pVar 1)) (sSeq (sIf (tVal (p2 (at2 inF) (pVar 2) (pTup [pC (.str "make"), pC (.str "treat"), pC (.str "hand"), pC (.str "inspect")]))) (mRet (mCall m__law_honest [.m, .v, .v, .v, .v, .v, .v] 0 [.n 0, .n 2, .n 3, .n 4, .n 5, .n 6, .n 7])) (sNext)) (mRet (mCall m__law_lied [.m, .v, .v, .v, .v, .v, .v] 0 [.n 0, .n 2, .n 3, .n 4, .n 5, .n 6, .n 7])))
noncomputable def m__law_did : Fn := fnD 8 [.m, .v] b__law_did
noncomputable def c__law_modelled_0 : Px := p2 ixR (pVar 9) (pC (.int 0))
noncomputable def q__law_modelled_0 : Px := pComp [9] (srcC (p2 ixR (p2 keyR (pVar 0) (pC (.str "files"))) (pVar 3))) (cN 9) (tYesD) (c__law_modelled_0)
noncomputable def b__law_modelled : Stx := sSeq (sAsgT (gT 6 (gsC (gN 2) (gsC (gN 3) (gsC (gN 4) (gsC (gN 5) (gsC (gN 6) (gsC (gN 7) (gsN)))))))) (pVar 1)) (sSeq (sEnd [true, true, true, true, false, true, false, false, false, false] [true, false, false, false, false, false, false, false, false, false] (sIf (tVal (p2 (at2 eqF) (pVar 2) (pC (.str "omit")))) (sSeq (sAsg 8 (pIdx (q__law_modelled_0) (pVar 6))) (sSeq (mDrop (mCall m__law_did [.m, .v] 0 [.n 0, .p (pTup [pVar 2, pVar 3, pVar 4, pVar 5, pVar 8, pVar 7])])) (sRet (pC .none)))) (sNext))) (sSeq (mDrop (mCall m__law_did [.m, .v] 0 [.n 0, .n 1])) (sSeq (sIf (tVal (p2 (at2 eqF) (pVar 2) (pC (.str "inspect")))) (sRet (p2 ixR (p2 ixR (p2 keyR (pVar 0) (pC (.str "stock"))) (pVar 3)) (pVar 5))) (sNext)) (sRet (pIf (tVal (p2 (at2 inF) (pVar 2) (pTup [pC (.str "make"), pC (.str "treat"), pC (.str "hand"), pC (.str "sign"), pC (.str "write")]))) (p2 keyR (pVar 0) (pC (.str "last"))) (pC .none))))))
noncomputable def m__law_modelled : Fn := fnD 10 [.m, .v] b__law_modelled
noncomputable def b__law_written : Stx := sTryM 2 "Refused" (mMeth "Trail" "write" m_Trail_write [.m, .v, .v, .v, .v, .v] 0 [.p (pC (.int 0)), .n 1, .p (pC (.int 0)), .p (pC (.int 1)), .p (pC (.int 0))])
noncomputable def m__law_written : Fn := fnD 3 [.m, .v] b__law_written
noncomputable def t_law_0 : Stx := sSeq (sIf (tVal (p2 (at2 eqF) (pVar 5) (pC (.str "")))) (mAsg 5 (mCall m__law_modelled [.m, .v] 1 [.n 1, .n 4])) (sNext)) (sIf (tOrD (tVal (p2 (at2 neF) (pVar 6) (pVar 5))) (tNotD (tTru (pCall m__law_is_it [.v, .v] [pVar 2, pVar 1])))) (sRet (pC (.bool false))) (sNext))
noncomputable def t_law_1 : Stx := sSeq (mAsg 6 (mCall m__law_told [.m, .v] 2 [.n 2, .n 4])) (t_law_0)
noncomputable def t_law_2 : Stx := sSeq (sAsg 5 (pCall m__law_why_not [.v, .v] [pVar 1, pVar 4])) (t_law_1)
noncomputable def l_law_0 : Stx := sEnd [true, true, true, false, false, false, false, false] [false, false, false, false, false, false, false, false] (sSeq (sAsg 4 (pCall m__law_deed [.v, .v, .v] [pCall m__law_cell [.v, .v] [pVar 0, p2 addR (pC (.int 2)) (pVar 3)], pVar 1, pC (.int 4)])) (t_law_2))
noncomputable def f_law_0 : Stx := sEnd [false, true, true, false, false, false, false, false] [false, false, false, false, false, false, false, false] (sPre [true, true, true, false, false, false, false, false] (sFor (srcR1 (p2 (at2 fMod) (pCall m__law_cell [.v, .v] [pVar 0, pC (.int 0)]) (pC (.int 51)))) (gN 3) (l_law_0)))
noncomputable def l_law_1 : Stx := sEnd [false, true, true, false, false, false, false, false] [false, false, false, false, false, false, false, false] (mIf (mVal (mOp2 (at2 neF) (mCall m__law_written [.m, .v] 2 [.n 2, .n 7]) (pC (.str "same party")))) (sRet (pC (.bool false))) (sNext))
noncomputable def f_law_1 : Stx := sEnd [false, true, true, false, false, false, false, false] [false, false, false, false, false, false, false, false] (sPre [false, true, true, false, false, false, false, false] (sFor (srcS (pLst [pC (.str "gave"), pC (.str "took")])) (gN 7) (l_law_1)))
noncomputable def t_law_3 : Stx := sSeq (f_law_1) (sRet (pCall m__law_is_it [.v, .v] [pVar 2, pVar 1]))
noncomputable def t_law_4 : Stx := sSeq (f_law_0) (t_law_3)
noncomputable def t_law_5 : Stx := sSeq (sAsg 2 (pMake "Trail" m_Trail___init__ [.v, .v] [p2 keyR (pVar 1) (pC (.str "kinds")), pB bList [p2 keyR (pVar 1) (pC (.str "parties"))]])) (t_law_4)
noncomputable def b_law : Stx := sSeq (sAsg 1 (pCall m__law_begun [.v, .v] [p2 addR (pC (.int 1)) (p2 (at2 fMod) (p2 (at2 fDiv) (pCall m__law_cell [.v, .v] [pVar 0, pC (.int 1)]) (pC (.int 7))) (pC (.int 2))), pCall m__law_parties [.v, .v] [pCall m__law_cell [.v, .v] [pVar 0, pC (.int 1)], pC (.int 5)]])) (t_law_5)
noncomputable def m_law : Fn := fnD 8 [.v] b_law
end
section
variable [WD] {P : Program} {w : World} {K : PySem.W.Frag} {mg : Str → Option Value} {base : Heap}
theorem sc__law_begun : FnScope ["_law_kinds", "_law_parties_here", "_law_stock", "_law_world_here", "_law_party", "_law_kind"] ["_law_kinds", "_law_parties_here"] (defScope st__law_begun) := ⟨rfl, rfl, rfl, by decide +kernel, rfl, by decide +kernel, by decide +kernel⟩
theorem ok__law_begun (T : Txt P w K mg base) {f : Addr} {fd : FuncData} (F : FunD K "_law_begun" "_law_begun" (defArgs st__law_begun) (defBody st__law_begun) (defScope st__law_begun) [] [] f fd) : FnOk P w K mg base CX0 1 f fd ["_law_kinds", "_law_parties_here"] (spF K [.v, .v] m__law_begun) := by
  have B : ∀ (cdv : Value) (A : Around) (outer : List Env) (s : Shared) (H : Hp) (E : XK), Room 0 (A.deeper (envOfC "_law_begun" (defScope st__law_begun) s.heap.objs.size f cdv)) → PSs (cxOf CX0 P w K mg base ["_law_kinds", "_law_parties_here", "_law_stock", "_law_world_here", "_law_party", "_law_kind"] "_law_begun" (defScope st__law_begun) f cdv A outer s H E) (defBody st__law_begun) (tS K E b__law_begun) := by
    intro cdv A outer s H E hr
    have hu := hu64 hr
    have hu5 := hu65 hr
    exact s_cons (s_asgComp 2 (own := [("_law_party", 4)]) rfl sc__law_begun.nd rfl rfl (sw_true rfl rfl rfl rfl) (pi_seq (s_var 1)) (srcC_ok) (blkB_ok (by kernel_rfl)) (c_name) (by decide) (fun _ _ _ _ _ => pg_name (i := 4) sc__law_begun.nd rfl (by first | exact Or.inl rfl | exact Or.inr rfl)) (fun _ _ _ _ _ => s_ifs0) (fun _ _ _ _ _ => s_comp (own := [("_law_kind", 5)]) rfl sc__law_begun.nd (pi_range1 (by rfl) T.b_range (s_acons (s_var 0) (s_anil))) (srcR1_ok.c) (blkB_ok (by kernel_rfl)) (c_name) (by decide) (fun _ _ _ _ _ => pg_name (i := 5) sc__law_begun.nd rfl (by first | exact Or.inl rfl | exact Or.inr rfl)) (fun _ _ _ _ _ => s_ifs0) (fun _ _ _ _ _ => s_int))) (s_cons (s_give 2 3 (s_asg 3 sc__law_begun.nd (s_dct (kps := [(pC (.str "kinds"), pVar 0), (pC (.str "parties"), pVar 1), (pC (.str "stock"), pVar 2), (pC (.str "files"), q__law_begun_2)]) (pps_cons (s_str) (s_var 0) (pps_cons (s_str) (s_var 1) (pps_cons (s_str) (s_var 2) (pps_cons (s_str) (s_comp (own := [("_law_party", 4)]) rfl sc__law_begun.nd (pi_seq (s_var 1)) (srcC_ok) (blkB_ok (by kernel_rfl)) (c_name) (by decide) (fun _ _ _ _ _ => pg_name (i := 4) sc__law_begun.nd rfl (by first | exact Or.inl rfl | exact Or.inr rfl)) (fun _ _ _ _ _ => s_ifs0) (fun _ _ _ _ _ => s_lst (s_anil))) (pps_nil)))))))) (s_cons (s_put hu (s_lst (s_anil)) (s_plN 3) (s_str)) (s_cons (s_put hu (s_lst (s_anil)) (s_plN 3) (s_str)) (s_cons (s_put hu (s_int) (s_plN 3) (s_str)) (s_cons (s_put hu (s_lst (s_anil)) (s_plN 3) (s_str)) (s_last (s_retV 3)))))))
  have e : m__law_begun = fnD 6 [.v, .v] b__law_begun := rfl
  rw [e]
  exact fn_body F sc__law_begun rfl (by decide) B
theorem cal__law_begun (T : Txt P w K mg base) : Cal CX0 P w K mg base 1 "_law_begun" ["_law_kinds", "_law_parties_here"] [.v, .v] m__law_begun :=
  cal_of T.f__law_begun (fun _ _ _ _ _ _ us hl => match us, hl with | [_, _], _ => rfl) fun f fd F => ok__law_begun T F
theorem sc_Trail___init__ : FnScope ["self", "kinds", "parties", "party"] ["self", "kinds", "parties"] (defScope st_Trail___init__) := ⟨rfl, rfl, rfl, by decide +kernel, rfl, by decide +kernel, by decide +kernel⟩
theorem ok_Trail___init__ (T : Txt P w K mg base) {f : Addr} {fd : FuncData} (F : FunD K "__init__" "Trail.__init__" (defArgs st_Trail___init__) (defBody st_Trail___init__) (defScope st_Trail___init__) [] [] f fd) : FnOk P w K mg base CX0 1 f fd ["self", "kinds", "parties"] (spF K [.m, .v, .v] m_Trail___init__) := by
  have B : ∀ (cdv : Value) (A : Around) (outer : List Env) (s : Shared) (H : Hp) (E : XK), Room 0 (A.deeper (envOfC "Trail.__init__" (defScope st_Trail___init__) s.heap.objs.size f cdv)) → PSs (cxOf CX0 P w K mg base ["self", "kinds", "parties", "party"] "Trail.__init__" (defScope st_Trail___init__) f cdv A outer s H E) (defBody st_Trail___init__) (tS K E b_Trail___init__) := by
    intro cdv A outer s H E hr
    have hu := hu64 hr
    have hu5 := hu65 hr
    exact s_cons (s_fldS T.cl_Trail T.na_Trail_kinds (s_plN 0) (s_var 1)) (s_cons (s_fldS T.cl_Trail T.na_Trail_parties (s_plN 0) (s_callTy b_tuple call_tuple_of (by rfl) T.b_tuple PyProof.Rows.boot_tuple (s_acons (s_var 2) (s_anil)))) (s_cons (s_fldS T.cl_Trail T.na_Trail_stocks (s_plN 0) (s_comp (own := [("party", 3)]) rfl sc_Trail___init__.nd (pi_seq (s_fld T.cl_Trail T.na_Trail_parties (s_var 0))) (srcC_ok) (blkB_ok (by kernel_rfl)) (c_name) (by decide) (fun _ _ _ _ _ => pg_name (i := 3) sc_Trail___init__.nd rfl (by first | exact Or.inl rfl | exact Or.inr rfl)) (fun _ _ _ _ _ => s_ifs0) (fun _ _ _ _ _ => s_op op_mul2 o_mul2 (s_lst (s_acons (s_int) (s_anil))) (s_var 1)))) (s_cons (s_fldS T.cl_Trail T.na_Trail_files (s_plN 0) (s_comp (own := [("party", 3)]) rfl sc_Trail___init__.nd (pi_seq (s_fld T.cl_Trail T.na_Trail_parties (s_var 0))) (srcC_ok) (blkB_ok (by kernel_rfl)) (c_name) (by decide) (fun _ _ _ _ _ => pg_name (i := 3) sc_Trail___init__.nd rfl (by first | exact Or.inl rfl | exact Or.inr rfl)) (fun _ _ _ _ _ => s_ifs0) (fun _ _ _ _ _ => s_lst (s_anil)))) (s_cons (s_fldS T.cl_Trail T.na_Trail_finds (s_plN 0) (s_lst (s_anil))) (s_cons (s_fldS T.cl_Trail T.na_Trail_events (s_plN 0) (s_lst (s_anil))) (s_cons (s_fldS T.cl_Trail T.na_Trail_last (s_plN 0) (s_int)) (s_last (s_fldS T.cl_Trail T.na_Trail_liars (s_plN 0) (s_dempty)))))))))
  have e : m_Trail___init__ = fnD 4 [.m, .v, .v] b_Trail___init__ := rfl
  rw [e]
  exact fn_body F sc_Trail___init__ rfl (by decide) B
theorem cal_Trail___init__ (T : Txt P w K mg base) : CalI CX0 P w K mg base 1 "Trail" ["self", "kinds", "parties"] [.v, .v] m_Trail___init__ :=
  calI_of T.g_Trail T.f_Trail___init__ (fun _ _ _ _ _ _ us hl => match us, hl with | [_, _, _], _ => rfl) fun f fd F => ok_Trail___init__ T F
theorem sc_Trail_evidence : FnScope ["self", "file"] ["self"] (defScope st_Trail_evidence) := ⟨rfl, rfl, rfl, by decide +kernel, rfl, by decide +kernel, by decide +kernel⟩
theorem ok_Trail_evidence (T : Txt P w K mg base) {f : Addr} {fd : FuncData} (F : FunD K "evidence" "Trail.evidence" (defArgs st_Trail_evidence) (defBody st_Trail_evidence) (defScope st_Trail_evidence) [] [] f fd) : FnOk P w K mg base CX0 1 f fd ["self"] (spF K [.v] m_Trail_evidence) := by
  have B : ∀ (cdv : Value) (A : Around) (outer : List Env) (s : Shared) (H : Hp) (E : XK), Room 0 (A.deeper (envOfC "Trail.evidence" (defScope st_Trail_evidence) s.heap.objs.size f cdv)) → PSs (cxOf CX0 P w K mg base ["self", "file"] "Trail.evidence" (defScope st_Trail_evidence) f cdv A outer s H E) (defBody st_Trail_evidence) (tS K E b_Trail_evidence) := by
    intro cdv A outer s H E hr
    have hu := hu64 hr
    have hu5 := hu65 hr
    exact s_last (s_ret (s_tup (s_acons (s_fld T.cl_Trail T.na_Trail_kinds (s_var 0)) (s_acons (s_fld T.cl_Trail T.na_Trail_parties (s_var 0)) (s_acons (s_callTy b_tuple call_tuple_of (by rfl) T.b_tuple PyProof.Rows.boot_tuple (s_acons (s_comp (own := [("file", 1)]) rfl sc_Trail_evidence.nd (pi_seq (s_fld T.cl_Trail T.na_Trail_files (s_var 0))) (srcC_ok) (blkB_ok (by kernel_rfl)) (c_name) (by decide) (fun _ _ _ _ _ => pg_name (i := 1) sc_Trail_evidence.nd rfl (by first | exact Or.inl rfl | exact Or.inr rfl)) (fun _ _ _ _ _ => s_ifs0) (fun _ _ _ _ _ => s_callTy b_tuple call_tuple_of (by rfl) T.b_tuple PyProof.Rows.boot_tuple (s_acons (s_var 1) (s_anil)))) (s_anil))) (s_acons (s_callTy b_tuple call_tuple_of (by rfl) T.b_tuple PyProof.Rows.boot_tuple (s_acons (s_fld T.cl_Trail T.na_Trail_finds (s_var 0)) (s_anil))) (s_anil)))))))
  have e : m_Trail_evidence = fnD 2 [.v] b_Trail_evidence := rfl
  rw [e]
  exact fn_body F sc_Trail_evidence rfl (by decide) B
theorem cal_Trail_evidence (T : Txt P w K mg base) : CalM CX0 P w K mg base 1 "Trail" "evidence" ["self"] [.v] m_Trail_evidence :=
  calM_of T.cl_Trail T.f_Trail_evidence (fun _ _ _ _ _ _ us hl => match us, hl with | [_], _ => rfl) fun f fd F => ok_Trail_evidence T F
theorem sc__law_evidence : FnScope ["_law_world_here", "_law_files", "_law_file"] ["_law_world_here"] (defScope st__law_evidence) := ⟨rfl, rfl, rfl, by decide +kernel, rfl, by decide +kernel, by decide +kernel⟩
theorem ok__law_evidence (T : Txt P w K mg base) {f : Addr} {fd : FuncData} (F : FunD K "_law_evidence" "_law_evidence" (defArgs st__law_evidence) (defBody st__law_evidence) (defScope st__law_evidence) [] [] f fd) : FnOk P w K mg base CX0 1 f fd ["_law_world_here"] (spF K [.v] m__law_evidence) := by
  have B : ∀ (cdv : Value) (A : Around) (outer : List Env) (s : Shared) (H : Hp) (E : XK), Room 0 (A.deeper (envOfC "_law_evidence" (defScope st__law_evidence) s.heap.objs.size f cdv)) → PSs (cxOf CX0 P w K mg base ["_law_world_here", "_law_files", "_law_file"] "_law_evidence" (defScope st__law_evidence) f cdv A outer s H E) (defBody st__law_evidence) (tS K E b__law_evidence) := by
    intro cdv A outer s H E hr
    have hu := hu64 hr
    have hu5 := hu65 hr
    exact s_cons (s_asg 1 sc__law_evidence.nd (s_callTy b_tuple call_tuple_of (by rfl) T.b_tuple PyProof.Rows.boot_tuple (s_acons (s_comp (own := [("_law_file", 2)]) rfl sc__law_evidence.nd (pi_seq (s_key hu (s_var 0) (s_str))) (srcC_ok) (blkB_ok (by kernel_rfl)) (c_name) (by decide) (fun _ _ _ _ _ => pg_name (i := 2) sc__law_evidence.nd rfl (by first | exact Or.inl rfl | exact Or.inr rfl)) (fun _ _ _ _ _ => s_ifs0) (fun _ _ _ _ _ => s_callTy b_tuple call_tuple_of (by rfl) T.b_tuple PyProof.Rows.boot_tuple (s_acons (s_var 2) (s_anil)))) (s_anil)))) (s_last (s_ret (s_tup (s_acons (s_key hu (s_var 0) (s_str)) (s_acons (s_key hu (s_var 0) (s_str)) (s_acons (s_var 1) (s_acons (s_callTy b_tuple call_tuple_of (by rfl) T.b_tuple PyProof.Rows.boot_tuple (s_acons (s_key hu (s_var 0) (s_str)) (s_anil))) (s_anil))))))))
  have e : m__law_evidence = fnD 3 [.v] b__law_evidence := rfl
  rw [e]
  exact fn_body F sc__law_evidence rfl (by decide) B
theorem cal__law_evidence (T : Txt P w K mg base) : Cal CX0 P w K mg base 1 "_law_evidence" ["_law_world_here"] [.v] m__law_evidence :=
  cal_of T.f__law_evidence (fun _ _ _ _ _ _ us hl => match us, hl with | [_], _ => rfl) fun f fd F => ok__law_evidence T F
theorem sc_Trail_history : FnScope ["self"] ["self"] (defScope st_Trail_history) := ⟨rfl, rfl, rfl, by decide +kernel, rfl, by decide +kernel, by decide +kernel⟩
theorem ok_Trail_history (T : Txt P w K mg base) {f : Addr} {fd : FuncData} (F : FunD K "history" "Trail.history" (defArgs st_Trail_history) (defBody st_Trail_history) (defScope st_Trail_history) [] [] f fd) : FnOk P w K mg base CX0 1 f fd ["self"] (spF K [.v] m_Trail_history) := by
  have B : ∀ (cdv : Value) (A : Around) (outer : List Env) (s : Shared) (H : Hp) (E : XK), Room 0 (A.deeper (envOfC "Trail.history" (defScope st_Trail_history) s.heap.objs.size f cdv)) → PSs (cxOf CX0 P w K mg base ["self"] "Trail.history" (defScope st_Trail_history) f cdv A outer s H E) (defBody st_Trail_history) (tS K E b_Trail_history) := by
    intro cdv A outer s H E hr
    have hu := hu64 hr
    have hu5 := hu65 hr
    exact s_last (s_ret (s_callTy b_list call_list_of (by rfl) T.b_list PyProof.Rows.boot_list (s_acons (s_fld T.cl_Trail T.na_Trail_events (s_var 0)) (s_anil))))
  have e : m_Trail_history = fnD 1 [.v] b_Trail_history := rfl
  rw [e]
  exact fn_body F sc_Trail_history rfl (by decide) B
theorem cal_Trail_history (T : Txt P w K mg base) : CalM CX0 P w K mg base 1 "Trail" "history" ["self"] [.v] m_Trail_history :=
  calM_of T.cl_Trail T.f_Trail_history (fun _ _ _ _ _ _ us hl => match us, hl with | [_], _ => rfl) fun f fd F => ok_Trail_history T F
theorem sc_Trail_numbers : FnScope ["self"] ["self"] (defScope st_Trail_numbers) := ⟨rfl, rfl, rfl, by decide +kernel, rfl, by decide +kernel, by decide +kernel⟩
theorem ok_Trail_numbers (T : Txt P w K mg base) {f : Addr} {fd : FuncData} (F : FunD K "numbers" "Trail.numbers" (defArgs st_Trail_numbers) (defBody st_Trail_numbers) (defScope st_Trail_numbers) [] [] f fd) : FnOk P w K mg base CX0 1 f fd ["self"] (spF K [.v] m_Trail_numbers) := by
  have B : ∀ (cdv : Value) (A : Around) (outer : List Env) (s : Shared) (H : Hp) (E : XK), Room 0 (A.deeper (envOfC "Trail.numbers" (defScope st_Trail_numbers) s.heap.objs.size f cdv)) → PSs (cxOf CX0 P w K mg base ["self"] "Trail.numbers" (defScope st_Trail_numbers) f cdv A outer s H E) (defBody st_Trail_numbers) (tS K E b_Trail_numbers) := by
    intro cdv A outer s H E hr
    have hu := hu64 hr
    have hu5 := hu65 hr
    exact s_last (s_frz 0 (s_ret (s_fld T.cl_Trail T.na_Trail_last (s_var 0))))
  have e : m_Trail_numbers = fnD 1 [.v] b_Trail_numbers := rfl
  rw [e]
  exact fn_body F sc_Trail_numbers rfl (by decide) B
theorem cal_Trail_numbers (T : Txt P w K mg base) : CalM CX0 P w K mg base 1 "Trail" "numbers" ["self"] [.v] m_Trail_numbers :=
  calM_of T.cl_Trail T.f_Trail_numbers (fun _ _ _ _ _ _ us hl => match us, hl with | [_], _ => rfl) fun f fd F => ok_Trail_numbers T F
theorem sc_Trail_dishonest : FnScope ["self"] ["self"] (defScope st_Trail_dishonest) := ⟨rfl, rfl, rfl, by decide +kernel, rfl, by decide +kernel, by decide +kernel⟩
theorem ok_Trail_dishonest (T : Txt P w K mg base) {f : Addr} {fd : FuncData} (F : FunD K "dishonest" "Trail.dishonest" (defArgs st_Trail_dishonest) (defBody st_Trail_dishonest) (defScope st_Trail_dishonest) [] [] f fd) : FnOk P w K mg base CX0 1 f fd ["self"] (spF K [.v] m_Trail_dishonest) := by
  have B : ∀ (cdv : Value) (A : Around) (outer : List Env) (s : Shared) (H : Hp) (E : XK), Room 0 (A.deeper (envOfC "Trail.dishonest" (defScope st_Trail_dishonest) s.heap.objs.size f cdv)) → PSs (cxOf CX0 P w K mg base ["self"] "Trail.dishonest" (defScope st_Trail_dishonest) f cdv A outer s H E) (defBody st_Trail_dishonest) (tS K E b_Trail_dishonest) := by
    intro cdv A outer s H E hr
    have hu := hu64 hr
    have hu5 := hu65 hr
    exact s_last (s_ret (s_callTy b_tuple call_tuple_of (by rfl) T.b_tuple PyProof.Rows.boot_tuple (s_acons (s_callB b_sortDk (cr_sortDk) (by rfl) T.b_sorted PyProof.Rows.boot_sorted (s_acons (s_fld T.cl_Trail T.na_Trail_liars (s_var 0)) (s_anil))) (s_anil))))
  have e : m_Trail_dishonest = fnD 1 [.v] b_Trail_dishonest := rfl
  rw [e]
  exact fn_body F sc_Trail_dishonest rfl (by decide) B
theorem cal_Trail_dishonest (T : Txt P w K mg base) : CalM CX0 P w K mg base 1 "Trail" "dishonest" ["self"] [.v] m_Trail_dishonest :=
  calM_of T.cl_Trail T.f_Trail_dishonest (fun _ _ _ _ _ _ us hl => match us, hl with | [_], _ => rfl) fun f fd F => ok_Trail_dishonest T F
theorem sc_Trail_stock : FnScope ["self", "party", "kind"] ["self", "party", "kind"] (defScope st_Trail_stock) := ⟨rfl, rfl, rfl, by decide +kernel, rfl, by decide +kernel, by decide +kernel⟩
theorem ok_Trail_stock (T : Txt P w K mg base) {f : Addr} {fd : FuncData} (F : FunD K "stock" "Trail.stock" (defArgs st_Trail_stock) (defBody st_Trail_stock) (defScope st_Trail_stock) [] [] f fd) : FnOk P w K mg base CX0 1 f fd ["self", "party", "kind"] (spF K [.v, .v, .v] m_Trail_stock) := by
  have B : ∀ (cdv : Value) (A : Around) (outer : List Env) (s : Shared) (H : Hp) (E : XK), Room 0 (A.deeper (envOfC "Trail.stock" (defScope st_Trail_stock) s.heap.objs.size f cdv)) → PSs (cxOf CX0 P w K mg base ["self", "party", "kind"] "Trail.stock" (defScope st_Trail_stock) f cdv A outer s H E) (defBody st_Trail_stock) (tS K E b_Trail_stock) := by
    intro cdv A outer s H E hr
    have hu := hu64 hr
    have hu5 := hu65 hr
    exact s_last (s_frz 0 (s_ret (s_ix ix_seq o_ix (s_ix ix_seq o_ix (s_fld T.cl_Trail T.na_Trail_stocks (s_var 0)) (s_var 1)) (s_var 2))))
  have e : m_Trail_stock = fnD 3 [.v, .v, .v] b_Trail_stock := rfl
  rw [e]
  exact fn_body F sc_Trail_stock rfl (by decide) B
theorem cal_Trail_stock (T : Txt P w K mg base) : CalM CX0 P w K mg base 1 "Trail" "stock" ["self", "party", "kind"] [.v, .v, .v] m_Trail_stock :=
  calM_of T.cl_Trail T.f_Trail_stock (fun _ _ _ _ _ _ us hl => match us, hl with | [_, _, _], _ => rfl) fun f fd F => ok_Trail_stock T F
theorem sc__law_is_it : FnScope ["_law_trail", "_law_world_here", "_law_party", "_law_kind"] ["_law_trail", "_law_world_here"] (defScope st__law_is_it) := ⟨rfl, rfl, rfl, by decide +kernel, rfl, by decide +kernel, by decide +kernel⟩
theorem ok__law_is_it (T : Txt P w K mg base) {f : Addr} {fd : FuncData} (F : FunD K "_law_is_it" "_law_is_it" (defArgs st__law_is_it) (defBody st__law_is_it) (defScope st__law_is_it) [] [] f fd) : FnOk P w K mg base CX0 2 f fd ["_law_trail", "_law_world_here"] (spF K [.v, .v] m__law_is_it) := by
  have c_Trail_evidence : CalM CX0 P w K mg base 1 "Trail" "evidence" ["self"] [.v] m_Trail_evidence := cal_Trail_evidence T
  have c__law_evidence : Cal CX0 P w K mg base 1 "_law_evidence" ["_law_world_here"] [.v] m__law_evidence := cal__law_evidence T
  have c_Trail_history : CalM CX0 P w K mg base 1 "Trail" "history" ["self"] [.v] m_Trail_history := cal_Trail_history T
  have c_Trail_numbers : CalM CX0 P w K mg base 1 "Trail" "numbers" ["self"] [.v] m_Trail_numbers := cal_Trail_numbers T
  have c_Trail_dishonest : CalM CX0 P w K mg base 1 "Trail" "dishonest" ["self"] [.v] m_Trail_dishonest := cal_Trail_dishonest T
  have c_Trail_stock : CalM CX0 P w K mg base 1 "Trail" "stock" ["self", "party", "kind"] [.v, .v, .v] m_Trail_stock := cal_Trail_stock T
  have B : ∀ (cdv : Value) (A : Around) (outer : List Env) (s : Shared) (H : Hp) (E : XK), Room 1 (A.deeper (envOfC "_law_is_it" (defScope st__law_is_it) s.heap.objs.size f cdv)) → PSs (cxOf CX0 P w K mg base ["_law_trail", "_law_world_here", "_law_party", "_law_kind"] "_law_is_it" (defScope st__law_is_it) f cdv A outer s H E) (defBody st__law_is_it) (tS K E b__law_is_it) := by
    intro cdv A outer s H E hr
    have hu := hu64 hr
    have hu5 := hu65 hr
    exact s_cons (s_ifS ((s_tor (s_tcmp (op_ne2 hu) o_ne (s_meth0 c_Trail_evidence hr passE (s_var 0)) (s_callC c__law_evidence hr passE (s_acons (s_var 1) (s_anil))) rfl) (s_tor1 (s_tcmp (op_ne2 hu) o_ne (s_meth0 c_Trail_history hr passE (s_var 0)) (s_key hu (s_var 1) (s_str)) rfl))).pt) (s_last (s_ret (s_bl))) (s_nil)) (s_cons (s_ifS ((s_tor (s_tcmp (op_ne2 hu) o_ne (s_meth0 c_Trail_numbers hr passE (s_var 0)) (s_key hu (s_var 1) (s_str)) rfl) (s_tor1 (s_tcmp (op_ne2 hu) o_ne (s_meth0 c_Trail_dishonest hr passE (s_var 0)) (s_callTy b_tuple call_tuple_of (by rfl) T.b_tuple PyProof.Rows.boot_tuple (s_acons (s_callB b_sorted (cr_sortD hu5) (by rfl) T.b_sorted PyProof.Rows.boot_sorted (s_acons (s_key hu (s_var 1) (s_str)) (s_anil))) (s_anil))) rfl))).pt) (s_last (s_ret (s_bl))) (s_nil)) (s_cons (s_end [false, false, false, false] [false, false, false, false] (s_pre [true, true, false, false] (s_for (passes_of rfl) rfl (pi_range1 (by rfl) T.b_range (s_acons (s_callB b_len call_lenA (by rfl) T.b_len boot_len (s_acons (s_key hu (s_var 1) (s_str)) (s_anil))) (s_anil))) (srcR1_ok) (pg_name (i := 2) sc__law_is_it.nd rfl (by first | exact Or.inl rfl | exact Or.inr rfl)) (g_name) (s_ends [true, true, false, false] [false, false, false, false] (s_last (s_pre [true, true, true, false] (s_for (passes_of rfl) rfl (pi_range1 (by rfl) T.b_range (s_acons (s_key hu (s_var 1) (s_str)) (s_anil))) (srcR1_ok) (pg_name (i := 3) sc__law_is_it.nd rfl (by first | exact Or.inl rfl | exact Or.inr rfl)) (g_name) (s_ends [true, true, true, false] [false, false, false, false] (s_last (s_ifS (s_tcmp (op_ne2 hu) o_ne (s_meth c_Trail_stock hr passE (s_var 0) (s_acons (s_var 2) (s_acons (s_var 3) (s_anil)))) (s_ix ix_seq o_ix (s_ix ix_seq o_ix (s_key hu (s_var 1) (s_str)) (s_var 2)) (s_var 3)) rfl) (s_last (s_ret (s_bl))) (s_nil))))))))))) (s_last (s_ret (s_bl)))))
  have e : m__law_is_it = fnD 4 [.v, .v] b__law_is_it := rfl
  rw [e]
  exact fn_body F sc__law_is_it rfl (by decide) B
theorem cal__law_is_it (T : Txt P w K mg base) : Cal CX0 P w K mg base 2 "_law_is_it" ["_law_trail", "_law_world_here"] [.v, .v] m__law_is_it :=
  cal_of T.f__law_is_it (fun _ _ _ _ _ _ us hl => match us, hl with | [_, _], _ => rfl) fun f fd F => ok__law_is_it T F
theorem sc__law_draws : FnScope ["_law_cell_here", "_law_count", "_law_found", "_law_is_wide", "_law_k", "_law_mixed"] ["_law_cell_here", "_law_count"] (defScope st__law_draws) := ⟨rfl, rfl, rfl, by decide +kernel, rfl, by decide +kernel, by decide +kernel⟩
theorem ok__law_draws (T : Txt P w K mg base) {f : Addr} {fd : FuncData} (F : FunD K "_law_draws" "_law_draws" (defArgs st__law_draws) (defBody st__law_draws) (defScope st__law_draws) [] [] f fd) : FnOk P w K mg base CX0 1 f fd ["_law_cell_here", "_law_count"] (spF K [.v, .v] m__law_draws) := by
  have B : ∀ (cdv : Value) (A : Around) (outer : List Env) (s : Shared) (H : Hp) (E : XK), Room 0 (A.deeper (envOfC "_law_draws" (defScope st__law_draws) s.heap.objs.size f cdv)) → PSs (cxOf CX0 P w K mg base ["_law_cell_here", "_law_count", "_law_found", "_law_is_wide", "_law_k", "_law_mixed"] "_law_draws" (defScope st__law_draws) f cdv A outer s H E) (defBody st__law_draws) (tS K E b__law_draws) := by
    intro cdv A outer s H E hr
    have hu := hu64 hr
    have hu5 := hu65 hr
    exact s_cons (s_asg 2 sc__law_draws.nd (s_lst (s_anil))) (s_cons (s_asg 3 sc__law_draws.nd (s_cmp op_ge o_ge (s_var 0) (s_op op_pow o_pow (s_int) (s_int)) rfl)) (s_cons (s_end [false, false, true, false, false, false] [false, false, false, false, false, false] (s_pre [true, true, true, true, false, false] (s_for (passes_of rfl) rfl (pi_range1 (by rfl) T.b_range (s_acons (s_var 1) (s_anil))) (srcR1_ok) (pg_name (i := 4) sc__law_draws.nd rfl (by first | exact Or.inl rfl | exact Or.inr rfl)) (g_name) (s_ends [true, true, true, true, false, false] [false, false, false, false, false, false] (s_last (s_ifS (s_tru (s_var 3)) (s_cons (s_app (s_plN 2) (s_op op_mod o_mod (s_callTy b_int call_int1 (by rfl) T.b_int PyProof.Rows.boot_int (s_acons (s_var 0) (s_anil))) (s_int)) rfl (fun hl ha => ps_expr (pe_bm PySem.F.plainAttrs_list PySem.F.slot_list_append PySem.F.type_list_append mt_append hl ha))) (s_last (s_asg 0 sc__law_draws.nd (s_op op_fdiv o_div (s_var 0) (s_int))))) (s_cons (s_asg 5 sc__law_draws.nd (s_op op_mod o_mod (s_callTy b_int call_int1 (by rfl) T.b_int PyProof.Rows.boot_int (s_acons (s_op op_add4 o_add (s_op op_mul2 o_mul2 (s_var 0) (s_int)) (s_op op_mul2 o_mul2 (s_var 4) (s_int))) (s_anil))) (s_int))) (s_last (s_app (s_plN 2) (s_op op_mod o_mod (s_callTy b_int call_int1 (by rfl) T.b_int PyProof.Rows.boot_int (s_acons (s_op op_add4 o_add (s_op op_add4 o_add (s_op op_mul2 o_mul2 (s_var 5) (s_var 5)) (s_op op_mul2 o_mul2 (s_var 0) (s_int))) (s_var 4)) (s_anil))) (s_int)) rfl (fun hl ha => ps_expr (pe_bm PySem.F.plainAttrs_list PySem.F.slot_list_append PySem.F.type_list_append mt_append hl ha))))))))))) (s_last (s_retV 2))))
  have e : m__law_draws = fnD 6 [.v, .v] b__law_draws := rfl
  rw [e]
  exact fn_body F sc__law_draws rfl (by decide) B
theorem cal__law_draws (T : Txt P w K mg base) : Cal CX0 P w K mg base 1 "_law_draws" ["_law_cell_here", "_law_count"] [.v, .v] m__law_draws :=
  cal_of T.f__law_draws (fun _ _ _ _ _ _ us hl => match us, hl with | [_, _], _ => rfl) fun f fd F => ok__law_draws T F
theorem sc__law_parties : FnScope ["_law_cell_here", "_law_most", "_law_draws_here", "_law_rows", "_law_k"] ["_law_cell_here", "_law_most"] (defScope st__law_parties) := ⟨rfl, rfl, rfl, by decide +kernel, rfl, by decide +kernel, by decide +kernel⟩
theorem ok__law_parties (T : Txt P w K mg base) {f : Addr} {fd : FuncData} (F : FunD K "_law_parties" "_law_parties" (defArgs st__law_parties) (defBody st__law_parties) (defScope st__law_parties) [] [] f fd) : FnOk P w K mg base CX0 2 f fd ["_law_cell_here", "_law_most"] (spF K [.v, .v] m__law_parties) := by
  have c__law_draws : Cal CX0 P w K mg base 1 "_law_draws" ["_law_cell_here", "_law_count"] [.v, .v] m__law_draws := cal__law_draws T
  have B : ∀ (cdv : Value) (A : Around) (outer : List Env) (s : Shared) (H : Hp) (E : XK), Room 1 (A.deeper (envOfC "_law_parties" (defScope st__law_parties) s.heap.objs.size f cdv)) → PSs (cxOf CX0 P w K mg base ["_law_cell_here", "_law_most", "_law_draws_here", "_law_rows", "_law_k"] "_law_parties" (defScope st__law_parties) f cdv A outer s H E) (defBody st__law_parties) (tS K E b__law_parties) := by
    intro cdv A outer s H E hr
    have hu := hu64 hr
    have hu5 := hu65 hr
    exact s_cons (s_asg 2 sc__law_parties.nd (s_callC c__law_draws hr passE (s_acons (s_var 0) (s_acons (s_int) (s_anil))))) (s_cons (s_asg 3 sc__law_parties.nd (s_lst (s_acons (s_tup (s_acons (s_bl) (s_acons (s_bl) (s_anil)))) (s_acons (s_tup (s_acons (s_bl) (s_acons (s_bl) (s_anil)))) (s_acons (s_tup (s_acons (s_bl) (s_acons (s_bl) (s_anil)))) (s_acons (s_tup (s_acons (s_bl) (s_acons (s_bl) (s_anil)))) (s_anil))))))) (s_last (s_ret (s_callTy b_tuple call_tuple_of (by rfl) T.b_tuple PyProof.Rows.boot_tuple (s_acons (s_comp (own := [("_law_k", 4)]) rfl sc__law_parties.nd (pi_range1 (by rfl) T.b_range (s_acons (s_op op_add4 o_add (s_int) (s_op op_mod o_mod (s_callTy b_int call_int1 (by rfl) T.b_int PyProof.Rows.boot_int (s_acons (s_ix ix_seq o_ix (s_var 2) (s_int)) (s_anil))) (s_var 1))) (s_anil))) (srcR1_ok.c) (blkB_ok (by kernel_rfl)) (c_name) (by decide) (fun _ _ _ _ _ => pg_name (i := 4) sc__law_parties.nd rfl (by first | exact Or.inl rfl | exact Or.inr rfl)) (fun _ _ _ _ _ => s_ifs0) (fun _ _ _ _ _ => s_ix ix_seq o_ix (s_var 3) (s_op op_mod o_mod (s_callTy b_int call_int1 (by rfl) T.b_int PyProof.Rows.boot_int (s_acons (s_ix ix_seq o_ix (s_var 2) (s_op op_add4 o_add (s_int) (s_var 4))) (s_anil))) (s_int)))) (s_anil))))))
  have e : m__law_parties = fnD 5 [.v, .v] b__law_parties := rfl
  rw [e]
  exact fn_body F sc__law_parties rfl (by decide) B
theorem cal__law_parties (T : Txt P w K mg base) : Cal CX0 P w K mg base 2 "_law_parties" ["_law_cell_here", "_law_most"] [.v, .v] m__law_parties :=
  cal_of T.f__law_parties (fun _ _ _ _ _ _ us hl => match us, hl with | [_, _], _ => rfl) fun f fd F => ok__law_parties T F
theorem sc__law_deed : FnScope ["_law_cell_here", "_law_world_here", "_law_lying", "_law_draws_here", "_law_many", "_law_words", "_law_party", "_law_kind", "_law_word", "_law_amount", "_law_stock"] ["_law_cell_here", "_law_world_here", "_law_lying"] (defScope st__law_deed) := ⟨rfl, rfl, rfl, by decide +kernel, rfl, by decide +kernel, by decide +kernel⟩
theorem ok__law_deed (T : Txt P w K mg base) {f : Addr} {fd : FuncData} (F : FunD K "_law_deed" "_law_deed" (defArgs st__law_deed) (defBody st__law_deed) (defScope st__law_deed) [] [] f fd) : FnOk P w K mg base CX0 2 f fd ["_law_cell_here", "_law_world_here", "_law_lying"] (spF K [.v, .v, .v] m__law_deed) := by
  have c__law_draws : Cal CX0 P w K mg base 1 "_law_draws" ["_law_cell_here", "_law_count"] [.v, .v] m__law_draws := cal__law_draws T
  have B : ∀ (cdv : Value) (A : Around) (outer : List Env) (s : Shared) (H : Hp) (E : XK), Room 1 (A.deeper (envOfC "_law_deed" (defScope st__law_deed) s.heap.objs.size f cdv)) → PSs (cxOf CX0 P w K mg base ["_law_cell_here", "_law_world_here", "_law_lying", "_law_draws_here", "_law_many", "_law_words", "_law_party", "_law_kind", "_law_word", "_law_amount", "_law_stock"] "_law_deed" (defScope st__law_deed) f cdv A outer s H E) (defBody st__law_deed) (tS K E b__law_deed) := by
    intro cdv A outer s H E hr
    have hu := hu64 hr
    have hu5 := hu65 hr
    exact s_cons (s_asg 3 sc__law_deed.nd (s_callC c__law_draws hr passE (s_acons (s_var 0) (s_acons (s_int) (s_anil))))) (s_cons (s_asg 4 sc__law_deed.nd (s_callB b_len call_lenA (by rfl) T.b_len boot_len (s_acons (s_key hu (s_var 1) (s_str)) (s_anil)))) (s_cons (s_asg 5 sc__law_deed.nd (s_lst (s_acons (s_str) (s_acons (s_str) (s_acons (s_str) (s_acons (s_str) (s_acons (s_str) (s_acons (s_str) (s_acons (s_str) (s_anil)))))))))) (s_cons (s_ifS (s_tcmp op_lt o_lt (s_op op_mod o_mod (s_callTy b_int call_int1 (by rfl) T.b_int PyProof.Rows.boot_int (s_acons (s_ix ix_seq o_ix (s_var 3) (s_int)) (s_anil))) (s_int)) (s_var 2) rfl) (s_last (s_asg 5 sc__law_deed.nd (s_lst (s_acons (s_str) (s_acons (s_str) (s_acons (s_str) (s_acons (s_str) (s_acons (s_str) (s_acons (s_str) (s_acons (s_str) (s_anil))))))))))) (s_nil)) (s_cons (s_asg 6 sc__law_deed.nd (s_op op_mod o_mod (s_callTy b_int call_int1 (by rfl) T.b_int PyProof.Rows.boot_int (s_acons (s_ix ix_seq o_ix (s_var 3) (s_int)) (s_anil))) (s_var 4))) (s_cons (s_asg 7 sc__law_deed.nd (s_op op_mod o_mod (s_callTy b_int call_int1 (by rfl) T.b_int PyProof.Rows.boot_int (s_acons (s_ix ix_seq o_ix (s_var 3) (s_int)) (s_anil))) (s_key hu (s_var 1) (s_str)))) (s_cons (s_asg 8 sc__law_deed.nd (s_ix ix_seq o_ix (s_var 5) (s_op op_mod o_mod (s_callTy b_int call_int1 (by rfl) T.b_int PyProof.Rows.boot_int (s_acons (s_ix ix_seq o_ix (s_var 3) (s_int)) (s_anil))) (s_int)))) (s_cons (s_asg 9 sc__law_deed.nd (s_op op_add4 o_add (s_int) (s_op op_mod o_mod (s_callTy b_int call_int1 (by rfl) T.b_int PyProof.Rows.boot_int (s_acons (s_ix ix_seq o_ix (s_var 3) (s_int)) (s_anil))) (s_int)))) (s_cons (s_asg 10 sc__law_deed.nd (s_ix ix_seq o_ix (s_ix ix_seq o_ix (s_key hu (s_var 1) (s_str)) (s_var 6)) (s_var 7))) (s_cons (s_ifS ((s_tand (s_tcmp (op_in3 hu5) o_in (s_var 8) (s_tup (s_acons (s_str) (s_acons (s_str) (s_acons (s_str) (s_acons (s_str) (s_anil)))))) rfl) (s_tand (s_tcmp op_gt o_gt (s_var 10) (s_int) rfl) (s_tand1 (s_tcmp op_gt o_gt (s_op op_mod o_mod (s_callTy b_int call_int1 (by rfl) T.b_int PyProof.Rows.boot_int (s_acons (s_ix ix_seq o_ix (s_var 3) (s_int)) (s_anil))) (s_int)) (s_int) rfl)))).pt) (s_last (s_asg 9 sc__law_deed.nd (s_op op_add4 o_add (s_int) (s_op op_mod o_mod (s_callTy b_int call_int1 (by rfl) T.b_int PyProof.Rows.boot_int (s_acons (s_ix ix_seq o_ix (s_var 3) (s_int)) (s_anil))) (s_var 10))))) (s_nil)) (s_last (s_ret (s_tup (s_acons (s_var 8) (s_acons (s_var 6) (s_acons (s_op op_mod o_mod (s_callTy b_int call_int1 (by rfl) T.b_int PyProof.Rows.boot_int (s_acons (s_ix ix_seq o_ix (s_var 3) (s_int)) (s_anil))) (s_var 4)) (s_acons (s_var 7) (s_acons (s_var 9) (s_acons (s_cmp (op_eq2 hu) o_eq (s_op op_mod o_mod (s_callTy b_int call_int1 (by rfl) T.b_int PyProof.Rows.boot_int (s_acons (s_ix ix_seq o_ix (s_var 3) (s_int)) (s_anil))) (s_int)) (s_int) rfl) (s_anil)))))))))))))))))))
  have e : m__law_deed = fnD 11 [.v, .v, .v] b__law_deed := rfl
  rw [e]
  exact fn_body F sc__law_deed rfl (by decide) B
theorem cal__law_deed (T : Txt P w K mg base) : Cal CX0 P w K mg base 2 "_law_deed" ["_law_cell_here", "_law_world_here", "_law_lying"] [.v, .v, .v] m__law_deed :=
  cal_of T.f__law_deed (fun _ _ _ _ _ _ us hl => match us, hl with | [_, _, _], _ => rfl) fun f fd F => ok__law_deed T F
theorem sc__law_why_not : FnScope ["_law_world_here", "_law_deed_here", "_law_word", "_law_party", "_law_other", "_law_kind", "_law_amount", "_law_is_sealed", "_law_row"] ["_law_world_here", "_law_deed_here"] (defScope st__law_why_not) := ⟨rfl, rfl, rfl, by decide +kernel, rfl, by decide +kernel, by decide +kernel⟩
theorem ok__law_why_not (T : Txt P w K mg base) {f : Addr} {fd : FuncData} (F : FunD K "_law_why_not" "_law_why_not" (defArgs st__law_why_not) (defBody st__law_why_not) (defScope st__law_why_not) [] [] f fd) : FnOk P w K mg base CX0 1 f fd ["_law_world_here", "_law_deed_here"] (spF K [.v, .v] m__law_why_not) := by
  have B : ∀ (cdv : Value) (A : Around) (outer : List Env) (s : Shared) (H : Hp) (E : XK), Room 0 (A.deeper (envOfC "_law_why_not" (defScope st__law_why_not) s.heap.objs.size f cdv)) → PSs (cxOf CX0 P w K mg base ["_law_world_here", "_law_deed_here", "_law_word", "_law_party", "_law_other", "_law_kind", "_law_amount", "_law_is_sealed", "_law_row"] "_law_why_not" (defScope st__law_why_not) f cdv A outer s H E) (defBody st__law_why_not) (tS K E b__law_why_not) := by
    intro cdv A outer s H E hr
    have hu := hu64 hr
    have hu5 := hu65 hr
    exact s_cons (s_asgT (s_var 1) (pg_tup rfl (pgs_cons (pg_name (i := 2) sc__law_why_not.nd rfl (by first | exact Or.inl rfl | exact Or.inr rfl)) (pgs_cons (pg_name (i := 3) sc__law_why_not.nd rfl (by first | exact Or.inl rfl | exact Or.inr rfl)) (pgs_cons (pg_name (i := 4) sc__law_why_not.nd rfl (by first | exact Or.inl rfl | exact Or.inr rfl)) (pgs_cons (pg_name (i := 5) sc__law_why_not.nd rfl (by first | exact Or.inl rfl | exact Or.inr rfl)) (pgs_cons (pg_name (i := 6) sc__law_why_not.nd rfl (by first | exact Or.inl rfl | exact Or.inr rfl)) (pgs_cons (pg_name (i := 7) sc__law_why_not.nd rfl (by first | exact Or.inl rfl | exact Or.inr rfl)) (pgs_nil)))))))) (g_tup (gs_cons (g_name) (gs_cons (g_name) (gs_cons (g_name) (gs_cons (g_name) (gs_cons (g_name) (gs_cons (g_name) (gs_nil))))))))) (s_cons (s_ifS ((s_tand (s_tcmp (op_in3 hu5) o_in (s_var 2) (s_tup (s_acons (s_str) (s_acons (s_str) (s_acons (s_str) (s_anil))))) rfl) (s_tand1 (s_tcmp (op_eq2 hu) o_eq (s_var 3) (s_var 4) rfl))).pt) (s_last (s_ret (s_str))) (s_nil)) (s_cons (s_ifS ((s_tand (s_tcmp (op_in3 hu5) o_in (s_var 2) (s_tup (s_acons (s_str) (s_acons (s_str) (s_anil)))) rfl) (s_tand1 (s_tnot (s_tru (s_ix ix_seq o_ix (s_ix ix_seq o_ix (s_key hu (s_var 0) (s_str)) (s_var 3)) (s_int)))))).pt) (s_last (s_ret (s_str))) (s_nil)) (s_cons (s_ifS ((s_tand (s_tcmp (op_eq2 hu) o_eq (s_var 2) (s_str) rfl) (s_tand1 (s_tnot (s_tru (s_ix ix_seq o_ix (s_ix ix_seq o_ix (s_key hu (s_var 0) (s_str)) (s_var 3)) (s_int)))))).pt) (s_last (s_ret (s_str))) (s_nil)) (s_cons (s_ifS ((s_tand (s_tcmp (op_in3 hu5) o_in (s_var 2) (s_tup (s_acons (s_str) (s_acons (s_str) (s_acons (s_str) (s_acons (s_str) (s_anil)))))) rfl) (s_tand1 (s_tcmp op_lt o_lt (s_ix ix_seq o_ix (s_ix ix_seq o_ix (s_key hu (s_var 0) (s_str)) (s_var 3)) (s_var 5)) (s_var 6) rfl))).pt) (s_last (s_ret (s_str))) (s_nil)) (s_cons (s_ifS ((s_tand (s_tcmp (op_eq2 hu) o_eq (s_var 2) (s_str) rfl) (s_tand1 (s_tcmp (op_nin3 hu5) o_nin (s_var 6) (s_comp (own := [("_law_row", 8)]) rfl sc__law_why_not.nd (pi_seq (s_ix ix_seq o_ix (s_key hu (s_var 0) (s_str)) (s_var 3))) (srcC_ok) (blkB_ok (by kernel_rfl)) (c_name) (by decide) (fun _ _ _ _ _ => pg_name (i := 8) sc__law_why_not.nd rfl (by first | exact Or.inl rfl | exact Or.inr rfl)) (fun _ _ _ _ _ => s_ifs0) (fun _ _ _ _ _ => s_ix ix_seq o_ix (s_var 8) (s_int))) rfl))).pt) (s_last (s_ret (s_str))) (s_nil)) (s_last (s_ret (s_str))))))))
  have e : m__law_why_not = fnD 9 [.v, .v] b__law_why_not := rfl
  rw [e]
  exact fn_body F sc__law_why_not rfl (by decide) B
theorem cal__law_why_not (T : Txt P w K mg base) : Cal CX0 P w K mg base 1 "_law_why_not" ["_law_world_here", "_law_deed_here"] [.v, .v] m__law_why_not :=
  cal_of T.f__law_why_not (fun _ _ _ _ _ _ us hl => match us, hl with | [_, _], _ => rfl) fun f fd F => ok__law_why_not T F
theorem sc_Trail_omit : FnScope ["self", "party", "number", "kept", "entry"] ["self", "party", "number"] (defScope st_Trail_omit) := ⟨rfl, rfl, rfl, by decide +kernel, rfl, by decide +kernel, by decide +kernel⟩
theorem ok_Trail_omit (T : Txt P w K mg base) {f : Addr} {fd : FuncData} (F : FunD K "omit" "Trail.omit" (defArgs st_Trail_omit) (defBody st_Trail_omit) (defScope st_Trail_omit) [] [] f fd) : FnOk P w K mg base (L2.CX P w) 3 f fd ["self", "party", "number"] (spF K [.m, .v, .v] m_Trail_omit) := by
  have B : ∀ (cdv : Value) (A : Around) (outer : List Env) (s : Shared) (H : Hp) (E : XK), Room 2 (A.deeper (envOfC "Trail.omit" (defScope st_Trail_omit) s.heap.objs.size f cdv)) → PSs (cxOf (L2.CX P w) P w K mg base ["self", "party", "number", "kept", "entry"] "Trail.omit" (defScope st_Trail_omit) f cdv A outer s H E) (defBody st_Trail_omit) (tS K E b_Trail_omit) := by
    intro cdv A outer s H E hr
    have hu := hu64 hr
    have hu5 := hu65 hr
    exact s_cons (s_asgComp 3 (own := [("entry", 4)]) rfl sc_Trail_omit.nd rfl rfl (sw_true rfl rfl rfl rfl) (pi_seq (s_ix ix_seq o_ix (s_fld T.cl_Trail T.na_Trail_files (s_var 0)) (s_var 1))) (srcC_ok) (blkB_ok (by kernel_rfl)) (c_name) (by decide) (fun _ _ _ _ _ => pg_name (i := 4) sc_Trail_omit.nd rfl (by first | exact Or.inl rfl | exact Or.inr rfl)) (fun _ _ _ _ _ => s_ifs1 (s_tcmp (op_ne2 hu) o_ne (s_ix ix_seq o_ix (s_var 4) (s_int)) (s_var 2) rfl)) (fun _ _ _ _ _ => s_var 4)) (s_cons (s_ifS (s_tcmp (op_eq2 hu) o_eq (s_callB b_len call_lenA (by rfl) T.b_len boot_len (s_acons (s_var 3) (s_anil))) (s_callB b_len call_lenA (by rfl) T.b_len boot_len (s_acons (s_ix ix_seq o_ix (s_fld T.cl_Trail T.na_Trail_files (s_var 0)) (s_var 1)) (s_anil))) rfl) (s_last (s_raise T.rf_Refused hr (takes_of rfl rfl rfl rfl))) (s_nil)) (s_cons (s_givD 2 3 0 (s_setI (s_var 3) (s_plF T.cl_Trail T.na_Trail_files (s_plN 0)) (s_var 1) (fun ho hi => pg_sub ho hi set_list))) (s_last (s_put hu (s_bl) (s_plF T.cl_Trail T.na_Trail_liars (s_plN 0)) (s_var 1)))))
  have e : m_Trail_omit = fnD 5 [.m, .v, .v] b_Trail_omit := rfl
  rw [e]
  exact fn_body F sc_Trail_omit rfl (by decide) B
theorem cal_Trail_omit (T : Txt P w K mg base) : CalM (L2.CX P w) P w K mg base 3 "Trail" "omit" ["self", "party", "number"] [.m, .v, .v] m_Trail_omit :=
  calM_of T.cl_Trail T.f_Trail_omit (fun _ _ _ _ _ _ us hl => match us, hl with | [_, _, _], _ => rfl) fun f fd F => ok_Trail_omit T F
theorem sc_Trail_next_number : FnScope ["self"] ["self"] (defScope st_Trail_next_number) := ⟨rfl, rfl, rfl, by decide +kernel, rfl, by decide +kernel, by decide +kernel⟩
theorem ok_Trail_next_number (T : Txt P w K mg base) {f : Addr} {fd : FuncData} (F : FunD K "next_number" "Trail.next_number" (defArgs st_Trail_next_number) (defBody st_Trail_next_number) (defScope st_Trail_next_number) [] [] f fd) : FnOk P w K mg base CX0 1 f fd ["self"] (spF K [.m] m_Trail_next_number) := by
  have B : ∀ (cdv : Value) (A : Around) (outer : List Env) (s : Shared) (H : Hp) (E : XK), Room 0 (A.deeper (envOfC "Trail.next_number" (defScope st_Trail_next_number) s.heap.objs.size f cdv)) → PSs (cxOf CX0 P w K mg base ["self"] "Trail.next_number" (defScope st_Trail_next_number) f cdv A outer s H E) (defBody st_Trail_next_number) (tS K E b_Trail_next_number) := by
    intro cdv A outer s H E hr
    have hu := hu64 hr
    have hu5 := hu65 hr
    exact s_cons (s_fldA T.cl_Trail T.na_Trail_last (s_plN 0) (s_int) in_add) (s_last (s_ret (s_fld T.cl_Trail T.na_Trail_last (s_var 0))))
  have e : m_Trail_next_number = fnD 1 [.m] b_Trail_next_number := rfl
  rw [e]
  exact fn_body F sc_Trail_next_number rfl (by decide) B
theorem cal_Trail_next_number (T : Txt P w K mg base) : CalM CX0 P w K mg base 1 "Trail" "next_number" ["self"] [.m] m_Trail_next_number :=
  calM_of T.cl_Trail T.f_Trail_next_number (fun _ _ _ _ _ _ us hl => match us, hl with | [_], _ => rfl) fun f fd F => ok_Trail_next_number T F
theorem sc_Trail_make : FnScope ["self", "party", "kind", "amount", "number"] ["self", "party", "kind", "amount"] (defScope st_Trail_make) := ⟨rfl, rfl, rfl, by decide +kernel, rfl, by decide +kernel, by decide +kernel⟩
theorem ok_Trail_make (T : Txt P w K mg base) {f : Addr} {fd : FuncData} (F : FunD K "make" "Trail.make" (defArgs st_Trail_make) (defBody st_Trail_make) (defScope st_Trail_make) [] [] f fd) : FnOk P w K mg base (L2.CX P w) 3 f fd ["self", "party", "kind", "amount"] (spF K [.m, .v, .v, .v] m_Trail_make) := by
  have c_Trail_next_number : CalM CX0 P w K mg base 1 "Trail" "next_number" ["self"] [.m] m_Trail_next_number := cal_Trail_next_number T
  have B : ∀ (cdv : Value) (A : Around) (outer : List Env) (s : Shared) (H : Hp) (E : XK), Room 2 (A.deeper (envOfC "Trail.make" (defScope st_Trail_make) s.heap.objs.size f cdv)) → PSs (cxOf (L2.CX P w) P w K mg base ["self", "party", "kind", "amount", "number"] "Trail.make" (defScope st_Trail_make) f cdv A outer s H E) (defBody st_Trail_make) (tS K E b_Trail_make) := by
    intro cdv A outer s H E hr
    have hu := hu64 hr
    have hu5 := hu65 hr
    exact s_cons (s_ifS (s_tnot (s_tru (s_ix ix_seq o_ix (s_ix ix_seq o_ix (s_fld T.cl_Trail T.na_Trail_parties (s_var 0)) (s_var 1)) (s_int)))) (s_last (s_raise T.rf_Refused hr (takes_of rfl rfl rfl rfl))) (s_nil)) (s_cons (s_masg 4 sc_Trail_make.nd (s_mmeth0 0 c_Trail_next_number hr passE)) (s_cons (s_augI (s_plI (s_plF T.cl_Trail T.na_Trail_stocks (s_plN 0)) (s_var 1)) (s_var 2) (s_var 3)) (s_cons (s_app (s_plI (s_plF T.cl_Trail T.na_Trail_files (s_plN 0)) (s_var 1)) (s_tup (s_acons (s_var 4) (s_acons (s_str) (s_acons (s_var 2) (s_acons (s_var 3) (s_anil)))))) rfl (fun hl ha => ps_expr (pe_bm PySem.F.plainAttrs_list PySem.F.slot_list_append PySem.F.type_list_append mt_append hl ha))) (s_cons (s_app (s_plF T.cl_Trail T.na_Trail_events (s_plN 0)) (s_tup (s_acons (s_str) (s_acons (s_var 4) (s_acons (s_var 1) (s_acons (s_var 2) (s_acons (s_var 3) (s_anil))))))) rfl (fun hl ha => ps_expr (pe_bm PySem.F.plainAttrs_list PySem.F.slot_list_append PySem.F.type_list_append mt_append hl ha))) (s_last (s_retV 4))))))
  have e : m_Trail_make = fnD 5 [.m, .v, .v, .v] b_Trail_make := rfl
  rw [e]
  exact fn_body F sc_Trail_make rfl (by decide) B
theorem cal_Trail_make (T : Txt P w K mg base) : CalM (L2.CX P w) P w K mg base 3 "Trail" "make" ["self", "party", "kind", "amount"] [.m, .v, .v, .v] m_Trail_make :=
  calM_of T.cl_Trail T.f_Trail_make (fun _ _ _ _ _ _ us hl => match us, hl with | [_, _, _, _], _ => rfl) fun f fd F => ok_Trail_make T F
theorem sc_Trail_check_stock : FnScope ["self", "party", "kind", "amount"] ["self", "party", "kind", "amount"] (defScope st_Trail_check_stock) := ⟨rfl, rfl, rfl, by decide +kernel, rfl, by decide +kernel, by decide +kernel⟩
theorem ok_Trail_check_stock (T : Txt P w K mg base) {f : Addr} {fd : FuncData} (F : FunD K "check_stock" "Trail.check_stock" (defArgs st_Trail_check_stock) (defBody st_Trail_check_stock) (defScope st_Trail_check_stock) [] [] f fd) : FnOk P w K mg base (L2.CX P w) 3 f fd ["self", "party", "kind", "amount"] (spF K [.v, .v, .v, .v] m_Trail_check_stock) := by
  have B : ∀ (cdv : Value) (A : Around) (outer : List Env) (s : Shared) (H : Hp) (E : XK), Room 2 (A.deeper (envOfC "Trail.check_stock" (defScope st_Trail_check_stock) s.heap.objs.size f cdv)) → PSs (cxOf (L2.CX P w) P w K mg base ["self", "party", "kind", "amount"] "Trail.check_stock" (defScope st_Trail_check_stock) f cdv A outer s H E) (defBody st_Trail_check_stock) (tS K E b_Trail_check_stock) := by
    intro cdv A outer s H E hr
    have hu := hu64 hr
    have hu5 := hu65 hr
    exact s_last (s_ifS (s_tcmp op_lt o_lt (s_ix ix_seq o_ix (s_ix ix_seq o_ix (s_fld T.cl_Trail T.na_Trail_stocks (s_var 0)) (s_var 1)) (s_var 2)) (s_var 3) rfl) (s_last (s_raise T.rf_Refused hr (takes_of rfl rfl rfl rfl))) (s_nil))
  have e : m_Trail_check_stock = fnD 4 [.v, .v, .v, .v] b_Trail_check_stock := rfl
  rw [e]
  exact fn_body F sc_Trail_check_stock rfl (by decide) B
theorem cal_Trail_check_stock (T : Txt P w K mg base) : CalM (L2.CX P w) P w K mg base 3 "Trail" "check_stock" ["self", "party", "kind", "amount"] [.v, .v, .v, .v] m_Trail_check_stock :=
  calM_of T.cl_Trail T.f_Trail_check_stock (fun _ _ _ _ _ _ us hl => match us, hl with | [_, _, _, _], _ => rfl) fun f fd F => ok_Trail_check_stock T F
theorem sc_Trail_treat : FnScope ["self", "party", "kind", "amount", "number"] ["self", "party", "kind", "amount"] (defScope st_Trail_treat) := ⟨rfl, rfl, rfl, by decide +kernel, rfl, by decide +kernel, by decide +kernel⟩
theorem ok_Trail_treat (T : Txt P w K mg base) {f : Addr} {fd : FuncData} (F : FunD K "treat" "Trail.treat" (defArgs st_Trail_treat) (defBody st_Trail_treat) (defScope st_Trail_treat) [] [] f fd) : FnOk P w K mg base (L2.CX P w) 4 f fd ["self", "party", "kind", "amount"] (spF K [.m, .v, .v, .v] m_Trail_treat) := by
  have c_Trail_check_stock : CalM (L2.CX P w) P w K mg base 3 "Trail" "check_stock" ["self", "party", "kind", "amount"] [.v, .v, .v, .v] m_Trail_check_stock := cal_Trail_check_stock T
  have c_Trail_next_number : CalM CX0 P w K mg base 1 "Trail" "next_number" ["self"] [.m] m_Trail_next_number := cal_Trail_next_number T
  have B : ∀ (cdv : Value) (A : Around) (outer : List Env) (s : Shared) (H : Hp) (E : XK), Room 3 (A.deeper (envOfC "Trail.treat" (defScope st_Trail_treat) s.heap.objs.size f cdv)) → PSs (cxOf (L2.CX P w) P w K mg base ["self", "party", "kind", "amount", "number"] "Trail.treat" (defScope st_Trail_treat) f cdv A outer s H E) (defBody st_Trail_treat) (tS K E b_Trail_treat) := by
    intro cdv A outer s H E hr
    have hu := hu64 hr
    have hu5 := hu65 hr
    exact s_cons (s_ifS (s_tnot (s_tru (s_ix ix_seq o_ix (s_ix ix_seq o_ix (s_fld T.cl_Trail T.na_Trail_parties (s_var 0)) (s_var 1)) (s_int)))) (s_last (s_raise T.rf_Refused hr (takes_of rfl rfl rfl rfl))) (s_nil)) (s_cons (s_drop (s_meth c_Trail_check_stock hr (passes_call (takes_of rfl rfl rfl rfl) fun _ _ _ _ h => h) (s_var 0) (s_acons (s_var 1) (s_acons (s_var 2) (s_acons (s_var 3) (s_anil)))))) (s_cons (s_masg 4 sc_Trail_treat.nd (s_mmeth0 0 c_Trail_next_number hr passE)) (s_cons (s_augF (s_plI (s_plF T.cl_Trail T.na_Trail_stocks (s_plN 0)) (s_var 1)) (s_var 2) (s_var 3) ip_sub) (s_cons (s_app (s_plI (s_plF T.cl_Trail T.na_Trail_files (s_plN 0)) (s_var 1)) (s_tup (s_acons (s_var 4) (s_acons (s_str) (s_acons (s_var 2) (s_acons (s_var 3) (s_anil)))))) rfl (fun hl ha => ps_expr (pe_bm PySem.F.plainAttrs_list PySem.F.slot_list_append PySem.F.type_list_append mt_append hl ha))) (s_cons (s_app (s_plF T.cl_Trail T.na_Trail_events (s_plN 0)) (s_tup (s_acons (s_str) (s_acons (s_var 4) (s_acons (s_var 1) (s_acons (s_var 2) (s_acons (s_var 3) (s_anil))))))) rfl (fun hl ha => ps_expr (pe_bm PySem.F.plainAttrs_list PySem.F.slot_list_append PySem.F.type_list_append mt_append hl ha))) (s_last (s_retV 4)))))))
  have e : m_Trail_treat = fnD 5 [.m, .v, .v, .v] b_Trail_treat := rfl
  rw [e]
  exact fn_body F sc_Trail_treat rfl (by decide) B
theorem cal_Trail_treat (T : Txt P w K mg base) : CalM (L2.CX P w) P w K mg base 4 "Trail" "treat" ["self", "party", "kind", "amount"] [.m, .v, .v, .v] m_Trail_treat :=
  calM_of T.cl_Trail T.f_Trail_treat (fun _ _ _ _ _ _ us hl => match us, hl with | [_, _, _, _], _ => rfl) fun f fd F => ok_Trail_treat T F
theorem sc_Trail_note : FnScope ["self", "giver", "taker", "kind", "amount", "is_sealed", "number"] ["self", "giver", "taker", "kind", "amount", "is_sealed"] (defScope st_Trail_note) := ⟨rfl, rfl, rfl, by decide +kernel, rfl, by decide +kernel, by decide +kernel⟩
theorem ok_Trail_note (T : Txt P w K mg base) {f : Addr} {fd : FuncData} (F : FunD K "note" "Trail.note" (defArgs st_Trail_note) (defBody st_Trail_note) (defScope st_Trail_note) [] [] f fd) : FnOk P w K mg base CX0 2 f fd ["self", "giver", "taker", "kind", "amount", "is_sealed"] (spF K [.m, .v, .v, .v, .v, .v] m_Trail_note) := by
  have c_Trail_next_number : CalM CX0 P w K mg base 1 "Trail" "next_number" ["self"] [.m] m_Trail_next_number := cal_Trail_next_number T
  have B : ∀ (cdv : Value) (A : Around) (outer : List Env) (s : Shared) (H : Hp) (E : XK), Room 1 (A.deeper (envOfC "Trail.note" (defScope st_Trail_note) s.heap.objs.size f cdv)) → PSs (cxOf CX0 P w K mg base ["self", "giver", "taker", "kind", "amount", "is_sealed", "number"] "Trail.note" (defScope st_Trail_note) f cdv A outer s H E) (defBody st_Trail_note) (tS K E b_Trail_note) := by
    intro cdv A outer s H E hr
    have hu := hu64 hr
    have hu5 := hu65 hr
    exact s_cons (s_masg 6 sc_Trail_note.nd (s_mmeth0 0 c_Trail_next_number hr passE)) (s_cons (s_app (s_plI (s_plF T.cl_Trail T.na_Trail_files (s_plN 0)) (s_var 1)) (s_tup (s_acons (s_var 6) (s_acons (s_str) (s_acons (s_var 3) (s_acons (s_var 4) (s_acons (s_var 2) (s_acons (s_var 5) (s_anil)))))))) rfl (fun hl ha => ps_expr (pe_bm PySem.F.plainAttrs_list PySem.F.slot_list_append PySem.F.type_list_append mt_append hl ha))) (s_cons (s_app (s_plI (s_plF T.cl_Trail T.na_Trail_files (s_plN 0)) (s_var 2)) (s_tup (s_acons (s_var 6) (s_acons (s_str) (s_acons (s_var 3) (s_acons (s_var 4) (s_acons (s_var 1) (s_acons (s_var 5) (s_anil)))))))) rfl (fun hl ha => ps_expr (pe_bm PySem.F.plainAttrs_list PySem.F.slot_list_append PySem.F.type_list_append mt_append hl ha))) (s_last (s_retV 6))))
  have e : m_Trail_note = fnD 7 [.m, .v, .v, .v, .v, .v] b_Trail_note := rfl
  rw [e]
  exact fn_body F sc_Trail_note rfl (by decide) B
theorem cal_Trail_note (T : Txt P w K mg base) : CalM CX0 P w K mg base 2 "Trail" "note" ["self", "giver", "taker", "kind", "amount", "is_sealed"] [.m, .v, .v, .v, .v, .v] m_Trail_note :=
  calM_of T.cl_Trail T.f_Trail_note (fun _ _ _ _ _ _ us hl => match us, hl with | [_, _, _, _, _, _], _ => rfl) fun f fd F => ok_Trail_note T F
theorem sc_Trail_move : FnScope ["self", "giver", "taker", "kind", "amount"] ["self", "giver", "taker", "kind", "amount"] (defScope st_Trail_move) := ⟨rfl, rfl, rfl, by decide +kernel, rfl, by decide +kernel, by decide +kernel⟩
theorem ok_Trail_move (T : Txt P w K mg base) {f : Addr} {fd : FuncData} (F : FunD K "move" "Trail.move" (defArgs st_Trail_move) (defBody st_Trail_move) (defScope st_Trail_move) [] [] f fd) : FnOk P w K mg base CX0 1 f fd ["self", "giver", "taker", "kind", "amount"] (spF K [.m, .v, .v, .v, .v] m_Trail_move) := by
  have B : ∀ (cdv : Value) (A : Around) (outer : List Env) (s : Shared) (H : Hp) (E : XK), Room 0 (A.deeper (envOfC "Trail.move" (defScope st_Trail_move) s.heap.objs.size f cdv)) → PSs (cxOf CX0 P w K mg base ["self", "giver", "taker", "kind", "amount"] "Trail.move" (defScope st_Trail_move) f cdv A outer s H E) (defBody st_Trail_move) (tS K E b_Trail_move) := by
    intro cdv A outer s H E hr
    have hu := hu64 hr
    have hu5 := hu65 hr
    exact s_cons (s_augF (s_plI (s_plF T.cl_Trail T.na_Trail_stocks (s_plN 0)) (s_var 1)) (s_var 3) (s_var 4) ip_sub) (s_last (s_augI (s_plI (s_plF T.cl_Trail T.na_Trail_stocks (s_plN 0)) (s_var 2)) (s_var 3) (s_var 4)))
  have e : m_Trail_move = fnD 5 [.m, .v, .v, .v, .v] b_Trail_move := rfl
  rw [e]
  exact fn_body F sc_Trail_move rfl (by decide) B
theorem cal_Trail_move (T : Txt P w K mg base) : CalM CX0 P w K mg base 1 "Trail" "move" ["self", "giver", "taker", "kind", "amount"] [.m, .v, .v, .v, .v] m_Trail_move :=
  calM_of T.cl_Trail T.f_Trail_move (fun _ _ _ _ _ _ us hl => match us, hl with | [_, _, _, _, _], _ => rfl) fun f fd F => ok_Trail_move T F
theorem sc_Trail_hand : FnScope ["self", "giver", "taker", "kind", "amount", "is_sealed", "number"] ["self", "giver", "taker", "kind", "amount", "is_sealed"] (defScope st_Trail_hand) := ⟨rfl, rfl, rfl, by decide +kernel, rfl, by decide +kernel, by decide +kernel⟩
theorem ok_Trail_hand (T : Txt P w K mg base) {f : Addr} {fd : FuncData} (F : FunD K "hand" "Trail.hand" (defArgs st_Trail_hand) (defBody st_Trail_hand) (defScope st_Trail_hand) [] [] f fd) : FnOk P w K mg base (L2.CX P w) 4 f fd ["self", "giver", "taker", "kind", "amount", "is_sealed"] (spF K [.m, .v, .v, .v, .v, .v] m_Trail_hand) := by
  have c_Trail_check_stock : CalM (L2.CX P w) P w K mg base 3 "Trail" "check_stock" ["self", "party", "kind", "amount"] [.v, .v, .v, .v] m_Trail_check_stock := cal_Trail_check_stock T
  have c_Trail_note : CalM CX0 P w K mg base 2 "Trail" "note" ["self", "giver", "taker", "kind", "amount", "is_sealed"] [.m, .v, .v, .v, .v, .v] m_Trail_note := cal_Trail_note T
  have c_Trail_move : CalM CX0 P w K mg base 1 "Trail" "move" ["self", "giver", "taker", "kind", "amount"] [.m, .v, .v, .v, .v] m_Trail_move := cal_Trail_move T
  have B : ∀ (cdv : Value) (A : Around) (outer : List Env) (s : Shared) (H : Hp) (E : XK), Room 3 (A.deeper (envOfC "Trail.hand" (defScope st_Trail_hand) s.heap.objs.size f cdv)) → PSs (cxOf (L2.CX P w) P w K mg base ["self", "giver", "taker", "kind", "amount", "is_sealed", "number"] "Trail.hand" (defScope st_Trail_hand) f cdv A outer s H E) (defBody st_Trail_hand) (tS K E b_Trail_hand) := by
    intro cdv A outer s H E hr
    have hu := hu64 hr
    have hu5 := hu65 hr
    exact s_cons (s_ifS (s_tcmp (op_eq2 hu) o_eq (s_var 1) (s_var 2) rfl) (s_last (s_raise T.rf_Refused hr (takes_of rfl rfl rfl rfl))) (s_nil)) (s_cons (s_drop (s_meth c_Trail_check_stock hr (passes_call (takes_of rfl rfl rfl rfl) fun _ _ _ _ h => h) (s_var 0) (s_acons (s_var 1) (s_acons (s_var 3) (s_acons (s_var 4) (s_anil)))))) (s_cons (s_masg 6 sc_Trail_hand.nd (s_mmeth 0 c_Trail_note hr passE (x_n 1 (x_n 2 (x_n 3 (x_n 4 (x_n 5 (x_nil)))))))) (s_cons (s_mdrop (s_mmeth 0 c_Trail_move hr passE (x_n 1 (x_n 2 (x_n 3 (x_n 4 (x_nil))))))) (s_cons (s_app (s_plF T.cl_Trail T.na_Trail_events (s_plN 0)) (s_tup (s_acons (s_str) (s_acons (s_var 6) (s_acons (s_var 1) (s_acons (s_var 2) (s_acons (s_var 3) (s_acons (s_var 4) (s_acons (s_var 5) (s_anil))))))))) rfl (fun hl ha => ps_expr (pe_bm PySem.F.plainAttrs_list PySem.F.slot_list_append PySem.F.type_list_append mt_append hl ha))) (s_last (s_retV 6))))))
  have e : m_Trail_hand = fnD 7 [.m, .v, .v, .v, .v, .v] b_Trail_hand := rfl
  rw [e]
  exact fn_body F sc_Trail_hand rfl (by decide) B
theorem cal_Trail_hand (T : Txt P w K mg base) : CalM (L2.CX P w) P w K mg base 4 "Trail" "hand" ["self", "giver", "taker", "kind", "amount", "is_sealed"] [.m, .v, .v, .v, .v, .v] m_Trail_hand :=
  calM_of T.cl_Trail T.f_Trail_hand (fun _ _ _ _ _ _ us hl => match us, hl with | [_, _, _, _, _, _], _ => rfl) fun f fd F => ok_Trail_hand T F
theorem sc_Trail_inspect : FnScope ["self", "party", "kind", "amount", "number"] ["self", "party", "kind"] (defScope st_Trail_inspect) := ⟨rfl, rfl, rfl, by decide +kernel, rfl, by decide +kernel, by decide +kernel⟩
theorem ok_Trail_inspect (T : Txt P w K mg base) {f : Addr} {fd : FuncData} (F : FunD K "inspect" "Trail.inspect" (defArgs st_Trail_inspect) (defBody st_Trail_inspect) (defScope st_Trail_inspect) [] [] f fd) : FnOk P w K mg base CX0 2 f fd ["self", "party", "kind"] (spF K [.m, .v, .v] m_Trail_inspect) := by
  have c_Trail_next_number : CalM CX0 P w K mg base 1 "Trail" "next_number" ["self"] [.m] m_Trail_next_number := cal_Trail_next_number T
  have B : ∀ (cdv : Value) (A : Around) (outer : List Env) (s : Shared) (H : Hp) (E : XK), Room 1 (A.deeper (envOfC "Trail.inspect" (defScope st_Trail_inspect) s.heap.objs.size f cdv)) → PSs (cxOf CX0 P w K mg base ["self", "party", "kind", "amount", "number"] "Trail.inspect" (defScope st_Trail_inspect) f cdv A outer s H E) (defBody st_Trail_inspect) (tS K E b_Trail_inspect) := by
    intro cdv A outer s H E hr
    have hu := hu64 hr
    have hu5 := hu65 hr
    exact s_cons (s_asg 3 sc_Trail_inspect.nd (s_ix ix_seq o_ix (s_ix ix_seq o_ix (s_fld T.cl_Trail T.na_Trail_stocks (s_var 0)) (s_var 1)) (s_var 2))) (s_cons (s_masg 4 sc_Trail_inspect.nd (s_mmeth0 0 c_Trail_next_number hr passE)) (s_cons (s_app (s_plF T.cl_Trail T.na_Trail_finds (s_plN 0)) (s_tup (s_acons (s_var 4) (s_acons (s_var 1) (s_acons (s_var 2) (s_acons (s_var 3) (s_anil)))))) rfl (fun hl ha => ps_expr (pe_bm PySem.F.plainAttrs_list PySem.F.slot_list_append PySem.F.type_list_append mt_append hl ha))) (s_cons (s_app (s_plF T.cl_Trail T.na_Trail_events (s_plN 0)) (s_tup (s_acons (s_str) (s_acons (s_var 4) (s_acons (s_var 1) (s_acons (s_var 2) (s_acons (s_var 3) (s_anil))))))) rfl (fun hl ha => ps_expr (pe_bm PySem.F.plainAttrs_list PySem.F.slot_list_append PySem.F.type_list_append mt_append hl ha))) (s_last (s_retV 3)))))
  have e : m_Trail_inspect = fnD 5 [.m, .v, .v] b_Trail_inspect := rfl
  rw [e]
  exact fn_body F sc_Trail_inspect rfl (by decide) B
theorem cal_Trail_inspect (T : Txt P w K mg base) : CalM CX0 P w K mg base 2 "Trail" "inspect" ["self", "party", "kind"] [.m, .v, .v] m_Trail_inspect :=
  calM_of T.cl_Trail T.f_Trail_inspect (fun _ _ _ _ _ _ us hl => match us, hl with | [_, _, _], _ => rfl) fun f fd F => ok_Trail_inspect T F
theorem sc_Trail_pass_on : FnScope ["self", "giver", "taker", "kind", "amount"] ["self", "giver", "taker", "kind", "amount"] (defScope st_Trail_pass_on) := ⟨rfl, rfl, rfl, by decide +kernel, rfl, by decide +kernel, by decide +kernel⟩
theorem ok_Trail_pass_on (T : Txt P w K mg base) {f : Addr} {fd : FuncData} (F : FunD K "pass_on" "Trail.pass_on" (defArgs st_Trail_pass_on) (defBody st_Trail_pass_on) (defScope st_Trail_pass_on) [] [] f fd) : FnOk P w K mg base (L2.CX P w) 4 f fd ["self", "giver", "taker", "kind", "amount"] (spF K [.m, .v, .v, .v, .v] m_Trail_pass_on) := by
  have c_Trail_check_stock : CalM (L2.CX P w) P w K mg base 3 "Trail" "check_stock" ["self", "party", "kind", "amount"] [.v, .v, .v, .v] m_Trail_check_stock := cal_Trail_check_stock T
  have c_Trail_move : CalM CX0 P w K mg base 1 "Trail" "move" ["self", "giver", "taker", "kind", "amount"] [.m, .v, .v, .v, .v] m_Trail_move := cal_Trail_move T
  have B : ∀ (cdv : Value) (A : Around) (outer : List Env) (s : Shared) (H : Hp) (E : XK), Room 3 (A.deeper (envOfC "Trail.pass_on" (defScope st_Trail_pass_on) s.heap.objs.size f cdv)) → PSs (cxOf (L2.CX P w) P w K mg base ["self", "giver", "taker", "kind", "amount"] "Trail.pass_on" (defScope st_Trail_pass_on) f cdv A outer s H E) (defBody st_Trail_pass_on) (tS K E b_Trail_pass_on) := by
    intro cdv A outer s H E hr
    have hu := hu64 hr
    have hu5 := hu65 hr
    exact s_cons (s_ifS (s_tcmp (op_eq2 hu) o_eq (s_var 1) (s_var 2) rfl) (s_last (s_raise T.rf_Refused hr (takes_of rfl rfl rfl rfl))) (s_nil)) (s_cons (s_drop (s_meth c_Trail_check_stock hr (passes_call (takes_of rfl rfl rfl rfl) fun _ _ _ _ h => h) (s_var 0) (s_acons (s_var 1) (s_acons (s_var 3) (s_acons (s_var 4) (s_anil)))))) (s_cons (s_mdrop (s_mmeth 0 c_Trail_move hr passE (x_n 1 (x_n 2 (x_n 3 (x_n 4 (x_nil))))))) (s_cons (s_put hu (s_bl) (s_plF T.cl_Trail T.na_Trail_liars (s_plN 0)) (s_var 1)) (s_cons (s_put hu (s_bl) (s_plF T.cl_Trail T.na_Trail_liars (s_plN 0)) (s_var 2)) (s_last (s_app (s_plF T.cl_Trail T.na_Trail_events (s_plN 0)) (s_tup (s_acons (s_str) (s_acons (s_var 1) (s_acons (s_var 2) (s_acons (s_var 3) (s_acons (s_var 4) (s_anil))))))) rfl (fun hl ha => ps_expr (pe_bm PySem.F.plainAttrs_list PySem.F.slot_list_append PySem.F.type_list_append mt_append hl ha))))))))
  have e : m_Trail_pass_on = fnD 5 [.m, .v, .v, .v, .v] b_Trail_pass_on := rfl
  rw [e]
  exact fn_body F sc_Trail_pass_on rfl (by decide) B
theorem cal_Trail_pass_on (T : Txt P w K mg base) : CalM (L2.CX P w) P w K mg base 4 "Trail" "pass_on" ["self", "giver", "taker", "kind", "amount"] [.m, .v, .v, .v, .v] m_Trail_pass_on :=
  calM_of T.cl_Trail T.f_Trail_pass_on (fun _ _ _ _ _ _ us hl => match us, hl with | [_, _, _, _, _], _ => rfl) fun f fd F => ok_Trail_pass_on T F
theorem sc_Trail_dump : FnScope ["self", "party", "kind", "amount"] ["self", "party", "kind", "amount"] (defScope st_Trail_dump) := ⟨rfl, rfl, rfl, by decide +kernel, rfl, by decide +kernel, by decide +kernel⟩
theorem ok_Trail_dump (T : Txt P w K mg base) {f : Addr} {fd : FuncData} (F : FunD K "dump" "Trail.dump" (defArgs st_Trail_dump) (defBody st_Trail_dump) (defScope st_Trail_dump) [] [] f fd) : FnOk P w K mg base (L2.CX P w) 4 f fd ["self", "party", "kind", "amount"] (spF K [.m, .v, .v, .v] m_Trail_dump) := by
  have c_Trail_check_stock : CalM (L2.CX P w) P w K mg base 3 "Trail" "check_stock" ["self", "party", "kind", "amount"] [.v, .v, .v, .v] m_Trail_check_stock := cal_Trail_check_stock T
  have B : ∀ (cdv : Value) (A : Around) (outer : List Env) (s : Shared) (H : Hp) (E : XK), Room 3 (A.deeper (envOfC "Trail.dump" (defScope st_Trail_dump) s.heap.objs.size f cdv)) → PSs (cxOf (L2.CX P w) P w K mg base ["self", "party", "kind", "amount"] "Trail.dump" (defScope st_Trail_dump) f cdv A outer s H E) (defBody st_Trail_dump) (tS K E b_Trail_dump) := by
    intro cdv A outer s H E hr
    have hu := hu64 hr
    have hu5 := hu65 hr
    exact s_cons (s_drop (s_meth c_Trail_check_stock hr (passes_call (takes_of rfl rfl rfl rfl) fun _ _ _ _ h => h) (s_var 0) (s_acons (s_var 1) (s_acons (s_var 2) (s_acons (s_var 3) (s_anil)))))) (s_cons (s_augF (s_plI (s_plF T.cl_Trail T.na_Trail_stocks (s_plN 0)) (s_var 1)) (s_var 2) (s_var 3) ip_sub) (s_cons (s_put hu (s_bl) (s_plF T.cl_Trail T.na_Trail_liars (s_plN 0)) (s_var 1)) (s_last (s_app (s_plF T.cl_Trail T.na_Trail_events (s_plN 0)) (s_tup (s_acons (s_str) (s_acons (s_var 1) (s_acons (s_var 2) (s_acons (s_var 3) (s_anil)))))) rfl (fun hl ha => ps_expr (pe_bm PySem.F.plainAttrs_list PySem.F.slot_list_append PySem.F.type_list_append mt_append hl ha))))))
  have e : m_Trail_dump = fnD 4 [.m, .v, .v, .v] b_Trail_dump := rfl
  rw [e]
  exact fn_body F sc_Trail_dump rfl (by decide) B
theorem cal_Trail_dump (T : Txt P w K mg base) : CalM (L2.CX P w) P w K mg base 4 "Trail" "dump" ["self", "party", "kind", "amount"] [.m, .v, .v, .v] m_Trail_dump :=
  calM_of T.cl_Trail T.f_Trail_dump (fun _ _ _ _ _ _ us hl => match us, hl with | [_, _, _, _], _ => rfl) fun f fd F => ok_Trail_dump T F
theorem sc_Trail_conjure : FnScope ["self", "party", "kind", "amount"] ["self", "party", "kind", "amount"] (defScope st_Trail_conjure) := ⟨rfl, rfl, rfl, by decide +kernel, rfl, by decide +kernel, by decide +kernel⟩
theorem ok_Trail_conjure (T : Txt P w K mg base) {f : Addr} {fd : FuncData} (F : FunD K "conjure" "Trail.conjure" (defArgs st_Trail_conjure) (defBody st_Trail_conjure) (defScope st_Trail_conjure) [] [] f fd) : FnOk P w K mg base (L2.CX P w) 3 f fd ["self", "party", "kind", "amount"] (spF K [.m, .v, .v, .v] m_Trail_conjure) := by
  have B : ∀ (cdv : Value) (A : Around) (outer : List Env) (s : Shared) (H : Hp) (E : XK), Room 2 (A.deeper (envOfC "Trail.conjure" (defScope st_Trail_conjure) s.heap.objs.size f cdv)) → PSs (cxOf (L2.CX P w) P w K mg base ["self", "party", "kind", "amount"] "Trail.conjure" (defScope st_Trail_conjure) f cdv A outer s H E) (defBody st_Trail_conjure) (tS K E b_Trail_conjure) := by
    intro cdv A outer s H E hr
    have hu := hu64 hr
    have hu5 := hu65 hr
    exact s_cons (s_ifS (s_tnot (s_tru (s_ix ix_seq o_ix (s_ix ix_seq o_ix (s_fld T.cl_Trail T.na_Trail_parties (s_var 0)) (s_var 1)) (s_int)))) (s_last (s_raise T.rf_Refused hr (takes_of rfl rfl rfl rfl))) (s_nil)) (s_cons (s_augI (s_plI (s_plF T.cl_Trail T.na_Trail_stocks (s_plN 0)) (s_var 1)) (s_var 2) (s_var 3)) (s_cons (s_put hu (s_bl) (s_plF T.cl_Trail T.na_Trail_liars (s_plN 0)) (s_var 1)) (s_last (s_app (s_plF T.cl_Trail T.na_Trail_events (s_plN 0)) (s_tup (s_acons (s_str) (s_acons (s_var 1) (s_acons (s_var 2) (s_acons (s_var 3) (s_anil)))))) rfl (fun hl ha => ps_expr (pe_bm PySem.F.plainAttrs_list PySem.F.slot_list_append PySem.F.type_list_append mt_append hl ha))))))
  have e : m_Trail_conjure = fnD 4 [.m, .v, .v, .v] b_Trail_conjure := rfl
  rw [e]
  exact fn_body F sc_Trail_conjure rfl (by decide) B
theorem cal_Trail_conjure (T : Txt P w K mg base) : CalM (L2.CX P w) P w K mg base 3 "Trail" "conjure" ["self", "party", "kind", "amount"] [.m, .v, .v, .v] m_Trail_conjure :=
  calM_of T.cl_Trail T.f_Trail_conjure (fun _ _ _ _ _ _ us hl => match us, hl with | [_, _, _, _], _ => rfl) fun f fd F => ok_Trail_conjure T F
theorem sc_Trail_sign : FnScope ["self", "giver", "taker", "kind", "amount", "is_sealed"] ["self", "giver", "taker", "kind", "amount", "is_sealed"] (defScope st_Trail_sign) := ⟨rfl, rfl, rfl, by decide +kernel, rfl, by decide +kernel, by decide +kernel⟩
theorem ok_Trail_sign (T : Txt P w K mg base) {f : Addr} {fd : FuncData} (F : FunD K "sign" "Trail.sign" (defArgs st_Trail_sign) (defBody st_Trail_sign) (defScope st_Trail_sign) [] [] f fd) : FnOk P w K mg base (L2.CX P w) 3 f fd ["self", "giver", "taker", "kind", "amount", "is_sealed"] (spF K [.m, .v, .v, .v, .v, .v] m_Trail_sign) := by
  have c_Trail_note : CalM CX0 P w K mg base 2 "Trail" "note" ["self", "giver", "taker", "kind", "amount", "is_sealed"] [.m, .v, .v, .v, .v, .v] m_Trail_note := cal_Trail_note T
  have B : ∀ (cdv : Value) (A : Around) (outer : List Env) (s : Shared) (H : Hp) (E : XK), Room 2 (A.deeper (envOfC "Trail.sign" (defScope st_Trail_sign) s.heap.objs.size f cdv)) → PSs (cxOf (L2.CX P w) P w K mg base ["self", "giver", "taker", "kind", "amount", "is_sealed"] "Trail.sign" (defScope st_Trail_sign) f cdv A outer s H E) (defBody st_Trail_sign) (tS K E b_Trail_sign) := by
    intro cdv A outer s H E hr
    have hu := hu64 hr
    have hu5 := hu65 hr
    exact s_cons (s_ifS (s_tcmp (op_eq2 hu) o_eq (s_var 1) (s_var 2) rfl) (s_last (s_raise T.rf_Refused hr (takes_of rfl rfl rfl rfl))) (s_nil)) (s_cons (s_put hu (s_bl) (s_plF T.cl_Trail T.na_Trail_liars (s_plN 0)) (s_var 1)) (s_cons (s_put hu (s_bl) (s_plF T.cl_Trail T.na_Trail_liars (s_plN 0)) (s_var 2)) (s_last (s_mret (s_mmeth 0 c_Trail_note hr passE (x_n 1 (x_n 2 (x_n 3 (x_n 4 (x_n 5 (x_nil)))))))))))
  have e : m_Trail_sign = fnD 6 [.m, .v, .v, .v, .v, .v] b_Trail_sign := rfl
  rw [e]
  exact fn_body F sc_Trail_sign rfl (by decide) B
theorem cal_Trail_sign (T : Txt P w K mg base) : CalM (L2.CX P w) P w K mg base 3 "Trail" "sign" ["self", "giver", "taker", "kind", "amount", "is_sealed"] [.m, .v, .v, .v, .v, .v] m_Trail_sign :=
  calM_of T.cl_Trail T.f_Trail_sign (fun _ _ _ _ _ _ us hl => match us, hl with | [_, _, _, _, _, _], _ => rfl) fun f fd F => ok_Trail_sign T F
theorem sc_Trail_write : FnScope ["self", "party", "deed", "kind", "amount", "other", "is_copy", "number", "entry"] ["self", "party", "deed", "kind", "amount", "other"] (defScope st_Trail_write) := ⟨rfl, rfl, rfl, by decide +kernel, rfl, by decide +kernel, by decide +kernel⟩
theorem ok_Trail_write (T : Txt P w K mg base) {f : Addr} {fd : FuncData} (F : FunD K "write" "Trail.write" (defArgs st_Trail_write) (defBody st_Trail_write) (defScope st_Trail_write) [] [] f fd) : FnOk P w K mg base (L2.CX P w) 3 f fd ["self", "party", "deed", "kind", "amount", "other"] (spF K [.m, .v, .v, .v, .v, .v] m_Trail_write) := by
  have c_Trail_next_number : CalM CX0 P w K mg base 1 "Trail" "next_number" ["self"] [.m] m_Trail_next_number := cal_Trail_next_number T
  have B : ∀ (cdv : Value) (A : Around) (outer : List Env) (s : Shared) (H : Hp) (E : XK), Room 2 (A.deeper (envOfC "Trail.write" (defScope st_Trail_write) s.heap.objs.size f cdv)) → PSs (cxOf (L2.CX P w) P w K mg base ["self", "party", "deed", "kind", "amount", "other", "is_copy", "number", "entry"] "Trail.write" (defScope st_Trail_write) f cdv A outer s H E) (defBody st_Trail_write) (tS K E b_Trail_write) := by
    intro cdv A outer s H E hr
    have hu := hu64 hr
    have hu5 := hu65 hr
    exact s_cons (s_asg 6 sc_Trail_write.nd (s_cmp (op_in3 hu5) o_in (s_var 2) (s_tup (s_acons (s_str) (s_acons (s_str) (s_anil)))) rfl)) (s_cons (s_ifS ((s_tand (s_tru (s_var 6)) (s_tand1 (s_tcmp (op_eq2 hu) o_eq (s_var 5) (s_var 1) rfl))).pt) (s_last (s_raise T.rf_Refused hr (takes_of rfl rfl rfl rfl))) (s_nil)) (s_cons (s_masg 7 sc_Trail_write.nd (s_mmeth0 0 c_Trail_next_number hr passE)) (s_cons (s_put hu (s_bl) (s_plF T.cl_Trail T.na_Trail_liars (s_plN 0)) (s_var 1)) (s_cons (s_asg 8 sc_Trail_write.nd (s_if (s_tru (s_var 6)) (s_tup (s_acons (s_var 7) (s_acons (s_var 2) (s_acons (s_var 3) (s_acons (s_var 4) (s_acons (s_var 5) (s_acons (s_bl) (s_anil)))))))) (s_tup (s_acons (s_var 7) (s_acons (s_var 2) (s_acons (s_var 3) (s_acons (s_var 4) (s_anil)))))))) (s_cons (s_app (s_plI (s_plF T.cl_Trail T.na_Trail_files (s_plN 0)) (s_var 1)) (s_var 8) rfl (fun hl ha => ps_expr (pe_bm PySem.F.plainAttrs_list PySem.F.slot_list_append PySem.F.type_list_append mt_append hl ha))) (s_last (s_retV 7)))))))
  have e : m_Trail_write = fnD 9 [.m, .v, .v, .v, .v, .v] b_Trail_write := rfl
  rw [e]
  exact fn_body F sc_Trail_write rfl (by decide) B
theorem cal_Trail_write (T : Txt P w K mg base) : CalM (L2.CX P w) P w K mg base 3 "Trail" "write" ["self", "party", "deed", "kind", "amount", "other"] [.m, .v, .v, .v, .v, .v] m_Trail_write :=
  calM_of T.cl_Trail T.f_Trail_write (fun _ _ _ _ _ _ us hl => match us, hl with | [_, _, _, _, _, _], _ => rfl) fun f fd F => ok_Trail_write T F
theorem sc__law_told : FnScope ["_law_trail", "_law_deed_here", "_law_word", "_law_party", "_law_other", "_law_kind", "_law_amount", "_law_is_sealed", "_law_claim", "e"] ["_law_trail", "_law_deed_here"] (defScope st__law_told) := ⟨rfl, rfl, rfl, by decide +kernel, rfl, by decide +kernel, by decide +kernel⟩
theorem ok__law_told (T : Txt P w K mg base) {f : Addr} {fd : FuncData} (F : FunD K "_law_told" "_law_told" (defArgs st__law_told) (defBody st__law_told) (defScope st__law_told) [] [] f fd) : FnOk P w K mg base CX0 5 f fd ["_law_trail", "_law_deed_here"] (spF K [.m, .v] m__law_told) := by
  have c_Trail_make : CalM (L2.CX P w) P w K mg base 3 "Trail" "make" ["self", "party", "kind", "amount"] [.m, .v, .v, .v] m_Trail_make := cal_Trail_make T
  have c_Trail_treat : CalM (L2.CX P w) P w K mg base 4 "Trail" "treat" ["self", "party", "kind", "amount"] [.m, .v, .v, .v] m_Trail_treat := cal_Trail_treat T
  have c_Trail_hand : CalM (L2.CX P w) P w K mg base 4 "Trail" "hand" ["self", "giver", "taker", "kind", "amount", "is_sealed"] [.m, .v, .v, .v, .v, .v] m_Trail_hand := cal_Trail_hand T
  have c_Trail_inspect : CalM CX0 P w K mg base 2 "Trail" "inspect" ["self", "party", "kind"] [.m, .v, .v] m_Trail_inspect := cal_Trail_inspect T
  have c_Trail_pass_on : CalM (L2.CX P w) P w K mg base 4 "Trail" "pass_on" ["self", "giver", "taker", "kind", "amount"] [.m, .v, .v, .v, .v] m_Trail_pass_on := cal_Trail_pass_on T
  have c_Trail_dump : CalM (L2.CX P w) P w K mg base 4 "Trail" "dump" ["self", "party", "kind", "amount"] [.m, .v, .v, .v] m_Trail_dump := cal_Trail_dump T
  have c_Trail_conjure : CalM (L2.CX P w) P w K mg base 3 "Trail" "conjure" ["self", "party", "kind", "amount"] [.m, .v, .v, .v] m_Trail_conjure := cal_Trail_conjure T
  have c_Trail_sign : CalM (L2.CX P w) P w K mg base 3 "Trail" "sign" ["self", "giver", "taker", "kind", "amount", "is_sealed"] [.m, .v, .v, .v, .v, .v] m_Trail_sign := cal_Trail_sign T
  have c_Trail_write : CalM (L2.CX P w) P w K mg base 3 "Trail" "write" ["self", "party", "deed", "kind", "amount", "other"] [.m, .v, .v, .v, .v, .v] m_Trail_write := cal_Trail_write T
  have c_Trail_omit : CalM (L2.CX P w) P w K mg base 3 "Trail" "omit" ["self", "party", "number"] [.m, .v, .v] m_Trail_omit := cal_Trail_omit T
  have B : ∀ (cdv : Value) (A : Around) (outer : List Env) (s : Shared) (H : Hp) (E : XK), Room 4 (A.deeper (envOfC "_law_told" (defScope st__law_told) s.heap.objs.size f cdv)) → PSs (cxOf CX0 P w K mg base ["_law_trail", "_law_deed_here", "_law_word", "_law_party", "_law_other", "_law_kind", "_law_amount", "_law_is_sealed", "_law_claim", "e"] "_law_told" (defScope st__law_told) f cdv A outer s H E) (defBody st__law_told) (tS K E b__law_told) := by
    intro cdv A outer s H E hr
    have hu := hu64 hr
    have hu5 := hu65 hr
    exact s_cons (s_asgT (s_var 1) (pg_tup rfl (pgs_cons (pg_name (i := 2) sc__law_told.nd rfl (by first | exact Or.inl rfl | exact Or.inr rfl)) (pgs_cons (pg_name (i := 3) sc__law_told.nd rfl (by first | exact Or.inl rfl | exact Or.inr rfl)) (pgs_cons (pg_name (i := 4) sc__law_told.nd rfl (by first | exact Or.inl rfl | exact Or.inr rfl)) (pgs_cons (pg_name (i := 5) sc__law_told.nd rfl (by first | exact Or.inl rfl | exact Or.inr rfl)) (pgs_cons (pg_name (i := 6) sc__law_told.nd rfl (by first | exact Or.inl rfl | exact Or.inr rfl)) (pgs_cons (pg_name (i := 7) sc__law_told.nd rfl (by first | exact Or.inl rfl | exact Or.inr rfl)) (pgs_nil)))))))) (g_tup (gs_cons (g_name) (gs_cons (g_name) (gs_cons (g_name) (gs_cons (g_name) (gs_cons (g_name) (gs_cons (g_name) (gs_nil))))))))) (s_last (s_tryG (i := 9) T.rf_Refused rfl rfl sc__law_told.nd (fun W pn xe tk => w_cons (w_if (fun _ => s_tcmp (op_eq2 hu) o_eq (s_var 2) (s_str) rfl) (w_last (w_mret (w_meth tk 0 c_Trail_make hr (fun _ => x_n 3 (x_n 5 (x_n 6 (x_nil))))))) (w_nil)) (w_cons (w_if (fun _ => s_tcmp (op_eq2 hu) o_eq (s_var 2) (s_str) rfl) (w_last (w_mret (w_meth tk 0 c_Trail_treat hr (fun _ => x_n 3 (x_n 5 (x_n 6 (x_nil))))))) (w_nil)) (w_cons (w_if (fun _ => s_tcmp (op_eq2 hu) o_eq (s_var 2) (s_str) rfl) (w_last (w_mret (w_meth tk 0 c_Trail_hand hr (fun _ => x_n 3 (x_n 4 (x_n 5 (x_n 6 (x_n 7 (x_nil))))))))) (w_nil)) (w_cons (w_if (fun _ => s_tcmp (op_eq2 hu) o_eq (s_var 2) (s_str) rfl) (w_last (w_mret (w_pure (fun _ => s_mmeth 0 c_Trail_inspect hr passE (x_n 3 (x_n 5 (x_nil))))))) (w_nil)) (w_cons (w_if (fun _ => s_tcmp (op_eq2 hu) o_eq (s_var 2) (s_str) rfl) (w_last (w_mret (w_meth tk 0 c_Trail_pass_on hr (fun _ => x_n 3 (x_n 4 (x_n 5 (x_n 6 (x_nil)))))))) (w_nil)) (w_cons (w_if (fun _ => s_tcmp (op_eq2 hu) o_eq (s_var 2) (s_str) rfl) (w_last (w_mret (w_meth tk 0 c_Trail_dump hr (fun _ => x_n 3 (x_n 5 (x_n 6 (x_nil))))))) (w_nil)) (w_cons (w_if (fun _ => s_tcmp (op_eq2 hu) o_eq (s_var 2) (s_str) rfl) (w_last (w_mret (w_meth tk 0 c_Trail_conjure hr (fun _ => x_n 3 (x_n 5 (x_n 6 (x_nil))))))) (w_nil)) (w_cons (w_if (fun _ => s_tcmp (op_eq2 hu) o_eq (s_var 2) (s_str) rfl) (w_last (w_mret (w_meth tk 0 c_Trail_sign hr (fun _ => x_n 3 (x_n 4 (x_n 5 (x_n 6 (x_n 7 (x_nil))))))))) (w_nil)) (w_cons (w_if (fun _ => s_tcmp (op_eq2 hu) o_eq (s_var 2) (s_str) rfl) (w_cons (w_asg 8 sc__law_told.nd (fun _ => s_ix ix_seq o_ix (s_lst (s_acons (s_str) (s_acons (s_str) (s_acons (s_str) (s_acons (s_str) (s_anil)))))) (s_op op_add4 o_add (s_callTy b_int call_int1 (by rfl) T.b_int PyProof.Rows.boot_int (s_acons (s_var 7) (s_anil))) (s_op op_mul2 o_mul2 (s_int) (s_callTy b_int call_int1 (by rfl) T.b_int PyProof.Rows.boot_int (s_acons (s_cmp (op_ne2 hu) o_ne (s_var 3) (s_var 4) rfl) (s_anil))))))) (w_last (w_mret (w_meth tk 0 c_Trail_write hr (fun _ => x_n 3 (x_n 8 (x_n 5 (x_n 6 (x_n 4 (x_nil)))))))))) (w_nil)) (w_last (w_mret (w_meth tk 0 c_Trail_omit hr (fun _ => x_n 3 (x_n 6 (x_nil)))))))))))))))))
  have e : m__law_told = fnD 10 [.m, .v] b__law_told := rfl
  rw [e]
  exact fn_body F sc__law_told rfl (by decide) B
theorem cal__law_told (T : Txt P w K mg base) : Cal CX0 P w K mg base 5 "_law_told" ["_law_trail", "_law_deed_here"] [.m, .v] m__law_told :=
  cal_of T.f__law_told (fun _ _ _ _ _ _ us hl => match us, hl with | [_, _], _ => rfl) fun f fd F => ok__law_told T F
theorem sc__law_cell : FnScope ["_law_script", "_law_k"] ["_law_script", "_law_k"] (defScope st__law_cell) := ⟨rfl, rfl, rfl, by decide +kernel, rfl, by decide +kernel, by decide +kernel⟩
theorem ok__law_cell (T : Txt P w K mg base) {f : Addr} {fd : FuncData} (F : FunD K "_law_cell" "_law_cell" (defArgs st__law_cell) (defBody st__law_cell) (defScope st__law_cell) [] [] f fd) : FnOk P w K mg base CX0 1 f fd ["_law_script", "_law_k"] (spF K [.v, .v] m__law_cell) := by
  have B : ∀ (cdv : Value) (A : Around) (outer : List Env) (s : Shared) (H : Hp) (E : XK), Room 0 (A.deeper (envOfC "_law_cell" (defScope st__law_cell) s.heap.objs.size f cdv)) → PSs (cxOf CX0 P w K mg base ["_law_script", "_law_k"] "_law_cell" (defScope st__law_cell) f cdv A outer s H E) (defBody st__law_cell) (tS K E b__law_cell) := by
    intro cdv A outer s H E hr
    have hu := hu64 hr
    have hu5 := hu65 hr
    exact s_cons (s_ifS (s_tcmp op_lt o_lt (s_var 1) (s_callB b_len call_lenA (by rfl) T.b_len boot_len (s_acons (s_var 0) (s_anil))) rfl) (s_last (s_frz 0 (s_ret (s_ix ix_seq o_ix (s_var 0) (s_var 1))))) (s_nil)) (s_last (s_ret (s_int)))
  have e : m__law_cell = fnD 2 [.v, .v] b__law_cell := rfl
  rw [e]
  exact fn_body F sc__law_cell rfl (by decide) B
theorem cal__law_cell (T : Txt P w K mg base) : Cal CX0 P w K mg base 1 "_law_cell" ["_law_script", "_law_k"] [.v, .v] m__law_cell :=
  cal_of T.f__law_cell (fun _ _ _ _ _ _ us hl => match us, hl with | [_, _], _ => rfl) fun f fd F => ok__law_cell T F
theorem sc__law_noted : FnScope ["_law_world_here", "_law_giver", "_law_taker", "_law_kind", "_law_amount", "_law_is_sealed"] ["_law_world_here", "_law_giver", "_law_taker", "_law_kind", "_law_amount", "_law_is_sealed"] (defScope st__law_noted) := ⟨rfl, rfl, rfl, by decide +kernel, rfl, by decide +kernel, by decide +kernel⟩
theorem ok__law_noted (T : Txt P w K mg base) {f : Addr} {fd : FuncData} (F : FunD K "_law_noted" "_law_noted" (defArgs st__law_noted) (defBody st__law_noted) (defScope st__law_noted) [] [] f fd) : FnOk P w K mg base CX0 1 f fd ["_law_world_here", "_law_giver", "_law_taker", "_law_kind", "_law_amount", "_law_is_sealed"] (spF K [.m, .v, .v, .v, .v, .v] m__law_noted) := by
  have B : ∀ (cdv : Value) (A : Around) (outer : List Env) (s : Shared) (H : Hp) (E : XK), Room 0 (A.deeper (envOfC "_law_noted" (defScope st__law_noted) s.heap.objs.size f cdv)) → PSs (cxOf CX0 P w K mg base ["_law_world_here", "_law_giver", "_law_taker", "_law_kind", "_law_amount", "_law_is_sealed"] "_law_noted" (defScope st__law_noted) f cdv A outer s H E) (defBody st__law_noted) (tS K E b__law_noted) := by
    intro cdv A outer s H E hr
    have hu := hu64 hr
    have hu5 := hu65 hr
    exact s_cons (s_put hu (s_op op_add4 o_add (s_key hu (s_var 0) (s_str)) (s_int)) (s_plN 0) (s_str)) (s_cons (s_app (s_plI (s_plK hu (s_plN 0) (s_str)) (s_var 1)) (s_tup (s_acons (s_key hu (s_var 0) (s_str)) (s_acons (s_str) (s_acons (s_var 3) (s_acons (s_var 4) (s_acons (s_var 2) (s_acons (s_var 5) (s_anil)))))))) rfl (fun hl ha => ps_expr (pe_bm PySem.F.plainAttrs_list PySem.F.slot_list_append PySem.F.type_list_append mt_append hl ha))) (s_last (s_app (s_plI (s_plK hu (s_plN 0) (s_str)) (s_var 2)) (s_tup (s_acons (s_key hu (s_var 0) (s_str)) (s_acons (s_str) (s_acons (s_var 3) (s_acons (s_var 4) (s_acons (s_var 1) (s_acons (s_var 5) (s_anil)))))))) rfl (fun hl ha => ps_expr (pe_bm PySem.F.plainAttrs_list PySem.F.slot_list_append PySem.F.type_list_append mt_append hl ha)))))
  have e : m__law_noted = fnD 6 [.m, .v, .v, .v, .v, .v] b__law_noted := rfl
  rw [e]
  exact fn_body F sc__law_noted rfl (by decide) B
theorem cal__law_noted (T : Txt P w K mg base) : Cal CX0 P w K mg base 1 "_law_noted" ["_law_world_here", "_law_giver", "_law_taker", "_law_kind", "_law_amount", "_law_is_sealed"] [.m, .v, .v, .v, .v, .v] m__law_noted :=
  cal_of T.f__law_noted (fun _ _ _ _ _ _ us hl => match us, hl with | [_, _, _, _, _, _], _ => rfl) fun f fd F => ok__law_noted T F
theorem sc__law_lied : FnScope ["_law_world_here", "_law_word", "_law_party", "_law_other", "_law_kind", "_law_amount", "_law_is_sealed", "_law_stock", "_law_liars", "_law_deed_here", "_law_more", "_law_liar"] ["_law_world_here", "_law_word", "_law_party", "_law_other", "_law_kind", "_law_amount", "_law_is_sealed"] (defScope st__law_lied) := ⟨rfl, rfl, rfl, by decide +kernel, rfl, by decide +kernel, by decide +kernel⟩
theorem ok__law_lied (T : Txt P w K mg base) {f : Addr} {fd : FuncData} (F : FunD K "_law_lied" "_law_lied" (defArgs st__law_lied) (defBody st__law_lied) (defScope st__law_lied) [] [] f fd) : FnOk P w K mg base CX0 2 f fd ["_law_world_here", "_law_word", "_law_party", "_law_other", "_law_kind", "_law_amount", "_law_is_sealed"] (spF K [.m, .v, .v, .v, .v, .v, .v] m__law_lied) := by
  have c__law_noted : Cal CX0 P w K mg base 1 "_law_noted" ["_law_world_here", "_law_giver", "_law_taker", "_law_kind", "_law_amount", "_law_is_sealed"] [.m, .v, .v, .v, .v, .v] m__law_noted := cal__law_noted T
  have B : ∀ (cdv : Value) (A : Around) (outer : List Env) (s : Shared) (H : Hp) (E : XK), Room 1 (A.deeper (envOfC "_law_lied" (defScope st__law_lied) s.heap.objs.size f cdv)) → PSs (cxOf CX0 P w K mg base ["_law_world_here", "_law_word", "_law_party", "_law_other", "_law_kind", "_law_amount", "_law_is_sealed", "_law_stock", "_law_liars", "_law_deed_here", "_law_more", "_law_liar"] "_law_lied" (defScope st__law_lied) f cdv A outer s H E) (defBody st__law_lied) (tS K E b__law_lied) := by
    intro cdv A outer s H E hr
    have hu := hu64 hr
    have hu5 := hu65 hr
    exact s_ali 0 7 sc__law_lied.nd (s_plK hu (s_plN 0) (s_str)) (s_cons (s_asg 8 sc__law_lied.nd (s_lst (s_acons (s_var 2) (s_anil)))) (s_cons (s_end [true, false, false, false, false, false, false, false, true, false, false, false] [true, false, false, false, false, false, false, false, false, false, false, false] (s_ifS ((s_tand (s_tcmp (op_eq2 hu) o_eq (s_var 1) (s_str) rfl) (s_tand (s_tcmp (op_ne2 hu) o_ne (s_var 2) (s_var 3) rfl) (s_tand1 (s_tcmp op_ge o_ge (s_ix ix_seq o_ix (s_ix ix_seq o_ix (s_var 7) (s_var 2)) (s_var 4)) (s_var 5) rfl)))).pt) (s_cons (s_setI (s_op op_sub o_sub (s_ix ix_seq o_ix (s_ix ix_seq o_ix (s_var 7) (s_var 2)) (s_var 4)) (s_var 5)) (s_plI (s_plN 7) (s_var 2)) (s_var 4) (fun ho hi => pg_sub ho hi set_list)) (s_cons (s_setI (s_op op_add4 o_add (s_ix ix_seq o_ix (s_ix ix_seq o_ix (s_var 7) (s_var 3)) (s_var 4)) (s_var 5)) (s_plI (s_plN 7) (s_var 3)) (s_var 4) (fun ho hi => pg_sub ho hi set_list)) (s_cons (s_app (s_plK hu (s_plN 0) (s_str)) (s_tup (s_acons (s_str) (s_acons (s_var 2) (s_acons (s_var 3) (s_acons (s_var 4) (s_acons (s_var 5) (s_anil))))))) rfl (fun hl ha => ps_expr (pe_bm PySem.F.plainAttrs_list PySem.F.slot_list_append PySem.F.type_list_append mt_append hl ha))) (s_last (s_asg 8 sc__law_lied.nd (s_lst (s_acons (s_var 2) (s_acons (s_var 3) (s_anil))))))))) (s_last (s_ifS ((s_tand (s_tcmp (op_eq2 hu) o_eq (s_var 1) (s_str) rfl) (s_tand1 (s_tcmp op_ge o_ge (s_ix ix_seq o_ix (s_ix ix_seq o_ix (s_var 7) (s_var 2)) (s_var 4)) (s_var 5) rfl))).pt) (s_cons (s_setI (s_op op_sub o_sub (s_ix ix_seq o_ix (s_ix ix_seq o_ix (s_var 7) (s_var 2)) (s_var 4)) (s_var 5)) (s_plI (s_plN 7) (s_var 2)) (s_var 4) (fun ho hi => pg_sub ho hi set_list)) (s_last (s_app (s_plK hu (s_plN 0) (s_str)) (s_tup (s_acons (s_str) (s_acons (s_var 2) (s_acons (s_var 4) (s_acons (s_var 5) (s_anil)))))) rfl (fun hl ha => ps_expr (pe_bm PySem.F.plainAttrs_list PySem.F.slot_list_append PySem.F.type_list_append mt_append hl ha))))) (s_last (s_ifS ((s_tand (s_tcmp (op_eq2 hu) o_eq (s_var 1) (s_str) rfl) (s_tand1 (s_tru (s_ix ix_seq o_ix (s_ix ix_seq o_ix (s_key hu (s_var 0) (s_str)) (s_var 2)) (s_int))))).pt) (s_cons (s_setI (s_op op_add4 o_add (s_ix ix_seq o_ix (s_ix ix_seq o_ix (s_var 7) (s_var 2)) (s_var 4)) (s_var 5)) (s_plI (s_plN 7) (s_var 2)) (s_var 4) (fun ho hi => pg_sub ho hi set_list)) (s_last (s_app (s_plK hu (s_plN 0) (s_str)) (s_tup (s_acons (s_str) (s_acons (s_var 2) (s_acons (s_var 4) (s_acons (s_var 5) (s_anil)))))) rfl (fun hl ha => ps_expr (pe_bm PySem.F.plainAttrs_list PySem.F.slot_list_append PySem.F.type_list_append mt_append hl ha))))) (s_last (s_ifS ((s_tand (s_tcmp (op_eq2 hu) o_eq (s_var 1) (s_str) rfl) (s_tand1 (s_tcmp (op_ne2 hu) o_ne (s_var 2) (s_var 3) rfl))).pt) (s_cons (s_mdrop (s_mcall 0 c__law_noted hr passE (x_n 0 (x_n 2 (x_n 3 (x_n 4 (x_n 5 (x_n 6 (x_nil))))))))) (s_last (s_asg 8 sc__law_lied.nd (s_lst (s_acons (s_var 2) (s_acons (s_var 3) (s_anil))))))) (s_last (s_ifS (s_tcmp (op_eq2 hu) o_eq (s_var 1) (s_str) rfl) (s_cons (s_put hu (s_op op_add4 o_add (s_key hu (s_var 0) (s_str)) (s_int)) (s_plN 0) (s_str)) (s_cons (s_asg 9 sc__law_lied.nd (s_ix ix_seq o_ix (s_lst (s_acons (s_str) (s_acons (s_str) (s_acons (s_str) (s_acons (s_str) (s_anil)))))) (s_op op_add4 o_add (s_callTy b_int call_int1 (by rfl) T.b_int PyProof.Rows.boot_int (s_acons (s_var 6) (s_anil))) (s_op op_mul2 o_mul2 (s_int) (s_callTy b_int call_int1 (by rfl) T.b_int PyProof.Rows.boot_int (s_acons (s_cmp (op_ne2 hu) o_ne (s_var 2) (s_var 3) rfl) (s_anil))))))) (s_cons (s_asg 10 sc__law_lied.nd (s_if (s_tcmp (op_in3 hu5) o_in (s_var 9) (s_tup (s_acons (s_str) (s_acons (s_str) (s_anil)))) rfl) (s_tup (s_acons (s_var 3) (s_acons (s_bl) (s_anil)))) (s_tup (s_anil)))) (s_last (s_app (s_plI (s_plK hu (s_plN 0) (s_str)) (s_var 2)) (s_op op_add4 o_add (s_tup (s_acons (s_key hu (s_var 0) (s_str)) (s_acons (s_var 9) (s_acons (s_var 4) (s_acons (s_var 5) (s_anil)))))) (s_var 10)) rfl (fun hl ha => ps_expr (pe_bm PySem.F.plainAttrs_list PySem.F.slot_list_append PySem.F.type_list_append mt_append hl ha))))))) (s_last (s_ifS ((s_tand (s_tcmp (op_eq2 hu) o_eq (s_var 1) (s_str) rfl) (s_tand1 (s_tcmp op_gt o_gt (s_callB b_len call_lenA (by rfl) T.b_len boot_len (s_acons (s_ix ix_seq o_ix (s_key hu (s_var 0) (s_str)) (s_var 2)) (s_anil))) (s_int) rfl))).pt) (s_last (s_pop (s_plI (s_plK hu (s_plN 0) (s_str)) (s_var 2)) (s_op op_mod o_mod (s_callTy b_int call_int1 (by rfl) T.b_int PyProof.Rows.boot_int (s_acons (s_var 5) (s_anil))) (s_callB b_len call_lenA (by rfl) T.b_len boot_len (s_acons (s_ix ix_seq o_ix (s_key hu (s_var 0) (s_str)) (s_var 2)) (s_anil)))) rfl (fun hl ha => ps_expr (pe_bm PySem.F.plainAttrs_list PySem.F.slot_list_pop PySem.F.type_list_pop mt_popAt hl ha)))) (s_last (s_ret (s_bl))))))))))))))) (s_cons (s_end [true, false, false, false, false, false, false, false, false, false, false, false] [true, false, false, false, false, false, false, false, false, false, false, false] (s_pre [true, false, false, false, false, false, false, false, true, false, false, false] (s_frz 8 (s_for (passes_of rfl) rfl (pi_seq (s_var 8)) (srcS_ok) (pg_name (i := 11) sc__law_lied.nd rfl (by first | exact Or.inl rfl | exact Or.inr rfl)) (g_name) (s_ends [true, false, false, false, false, false, false, false, true, false, false, false] [true, false, false, false, false, false, false, false, false, false, false, false] (s_last (s_ifS (s_tcmp (op_nin3 hu5) o_nin (s_var 11) (s_key hu (s_var 0) (s_str)) rfl) (s_last (s_app (s_plK hu (s_plN 0) (s_str)) (s_var 11) rfl (fun hl ha => ps_expr (pe_bm PySem.F.plainAttrs_list PySem.F.slot_list_append PySem.F.type_list_append mt_append hl ha)))) (s_nil)))))))) (s_last (s_ret (s_bl))))))
  have e : m__law_lied = fnD 12 [.m, .v, .v, .v, .v, .v, .v] b__law_lied := rfl
  rw [e]
  exact fn_body F sc__law_lied rfl (by decide) B
theorem cal__law_lied (T : Txt P w K mg base) : Cal CX0 P w K mg base 2 "_law_lied" ["_law_world_here", "_law_word", "_law_party", "_law_other", "_law_kind", "_law_amount", "_law_is_sealed"] [.m, .v, .v, .v, .v, .v, .v] m__law_lied :=
  cal_of T.f__law_lied (fun _ _ _ _ _ _ us hl => match us, hl with | [_, _, _, _, _, _, _], _ => rfl) fun f fd F => ok__law_lied T F
theorem sc__law_honest : FnScope ["_law_world_here", "_law_word", "_law_party", "_law_other", "_law_kind", "_law_amount", "_law_is_sealed", "_law_stock"] ["_law_world_here", "_law_word", "_law_party", "_law_other", "_law_kind", "_law_amount", "_law_is_sealed"] (defScope st__law_honest) := ⟨rfl, rfl, rfl, by decide +kernel, rfl, by decide +kernel, by decide +kernel⟩
theorem ok__law_honest (T : Txt P w K mg base) {f : Addr} {fd : FuncData} (F : FunD K "_law_honest" "_law_honest" (defArgs st__law_honest) (defBody st__law_honest) (defScope st__law_honest) [] [] f fd) : FnOk P w K mg base CX0 2 f fd ["_law_world_here", "_law_word", "_law_party", "_law_other", "_law_kind", "_law_amount", "_law_is_sealed"] (spF K [.m, .v, .v, .v, .v, .v, .v] m__law_honest) := by
  have c__law_noted : Cal CX0 P w K mg base 1 "_law_noted" ["_law_world_here", "_law_giver", "_law_taker", "_law_kind", "_law_amount", "_law_is_sealed"] [.m, .v, .v, .v, .v, .v] m__law_noted := cal__law_noted T
  have B : ∀ (cdv : Value) (A : Around) (outer : List Env) (s : Shared) (H : Hp) (E : XK), Room 1 (A.deeper (envOfC "_law_honest" (defScope st__law_honest) s.heap.objs.size f cdv)) → PSs (cxOf CX0 P w K mg base ["_law_world_here", "_law_word", "_law_party", "_law_other", "_law_kind", "_law_amount", "_law_is_sealed", "_law_stock"] "_law_honest" (defScope st__law_honest) f cdv A outer s H E) (defBody st__law_honest) (tS K E b__law_honest) := by
    intro cdv A outer s H E hr
    have hu := hu64 hr
    have hu5 := hu65 hr
    exact s_ali 0 7 sc__law_honest.nd (s_plK hu (s_plN 0) (s_str)) (s_cons (s_ifS ((s_tand (s_tcmp (op_eq2 hu) o_eq (s_var 1) (s_str) rfl) (s_tand1 (s_tru (s_ix ix_seq o_ix (s_ix ix_seq o_ix (s_key hu (s_var 0) (s_str)) (s_var 2)) (s_int))))).pt) (s_cons (s_put hu (s_op op_add4 o_add (s_key hu (s_var 0) (s_str)) (s_int)) (s_plN 0) (s_str)) (s_cons (s_setI (s_op op_add4 o_add (s_ix ix_seq o_ix (s_ix ix_seq o_ix (s_var 7) (s_var 2)) (s_var 4)) (s_var 5)) (s_plI (s_plN 7) (s_var 2)) (s_var 4) (fun ho hi => pg_sub ho hi set_list)) (s_cons (s_app (s_plI (s_plK hu (s_plN 0) (s_str)) (s_var 2)) (s_tup (s_acons (s_key hu (s_var 0) (s_str)) (s_acons (s_str) (s_acons (s_var 4) (s_acons (s_var 5) (s_anil)))))) rfl (fun hl ha => ps_expr (pe_bm PySem.F.plainAttrs_list PySem.F.slot_list_append PySem.F.type_list_append mt_append hl ha))) (s_last (s_app (s_plK hu (s_plN 0) (s_str)) (s_tup (s_acons (s_str) (s_acons (s_key hu (s_var 0) (s_str)) (s_acons (s_var 2) (s_acons (s_var 4) (s_acons (s_var 5) (s_anil))))))) rfl (fun hl ha => ps_expr (pe_bm PySem.F.plainAttrs_list PySem.F.slot_list_append PySem.F.type_list_append mt_append hl ha))))))) (s_last (s_ifS ((s_tand (s_tcmp (op_eq2 hu) o_eq (s_var 1) (s_str) rfl) (s_tand (s_tru (s_ix ix_seq o_ix (s_ix ix_seq o_ix (s_key hu (s_var 0) (s_str)) (s_var 2)) (s_int))) (s_tand1 (s_tcmp op_ge o_ge (s_ix ix_seq o_ix (s_ix ix_seq o_ix (s_var 7) (s_var 2)) (s_var 4)) (s_var 5) rfl)))).pt) (s_cons (s_put hu (s_op op_add4 o_add (s_key hu (s_var 0) (s_str)) (s_int)) (s_plN 0) (s_str)) (s_cons (s_setI (s_op op_sub o_sub (s_ix ix_seq o_ix (s_ix ix_seq o_ix (s_var 7) (s_var 2)) (s_var 4)) (s_var 5)) (s_plI (s_plN 7) (s_var 2)) (s_var 4) (fun ho hi => pg_sub ho hi set_list)) (s_cons (s_app (s_plI (s_plK hu (s_plN 0) (s_str)) (s_var 2)) (s_tup (s_acons (s_key hu (s_var 0) (s_str)) (s_acons (s_str) (s_acons (s_var 4) (s_acons (s_var 5) (s_anil)))))) rfl (fun hl ha => ps_expr (pe_bm PySem.F.plainAttrs_list PySem.F.slot_list_append PySem.F.type_list_append mt_append hl ha))) (s_last (s_app (s_plK hu (s_plN 0) (s_str)) (s_tup (s_acons (s_str) (s_acons (s_key hu (s_var 0) (s_str)) (s_acons (s_var 2) (s_acons (s_var 4) (s_acons (s_var 5) (s_anil))))))) rfl (fun hl ha => ps_expr (pe_bm PySem.F.plainAttrs_list PySem.F.slot_list_append PySem.F.type_list_append mt_append hl ha))))))) (s_last (s_ifS ((s_tand (s_tcmp (op_eq2 hu) o_eq (s_var 1) (s_str) rfl) (s_tand (s_tcmp (op_ne2 hu) o_ne (s_var 2) (s_var 3) rfl) (s_tand1 (s_tcmp op_ge o_ge (s_ix ix_seq o_ix (s_ix ix_seq o_ix (s_var 7) (s_var 2)) (s_var 4)) (s_var 5) rfl)))).pt) (s_cons (s_mdrop (s_mcall 0 c__law_noted hr passE (x_n 0 (x_n 2 (x_n 3 (x_n 4 (x_n 5 (x_n 6 (x_nil))))))))) (s_cons (s_setI (s_op op_sub o_sub (s_ix ix_seq o_ix (s_ix ix_seq o_ix (s_var 7) (s_var 2)) (s_var 4)) (s_var 5)) (s_plI (s_plN 7) (s_var 2)) (s_var 4) (fun ho hi => pg_sub ho hi set_list)) (s_cons (s_setI (s_op op_add4 o_add (s_ix ix_seq o_ix (s_ix ix_seq o_ix (s_var 7) (s_var 3)) (s_var 4)) (s_var 5)) (s_plI (s_plN 7) (s_var 3)) (s_var 4) (fun ho hi => pg_sub ho hi set_list)) (s_last (s_app (s_plK hu (s_plN 0) (s_str)) (s_tup (s_acons (s_str) (s_acons (s_key hu (s_var 0) (s_str)) (s_acons (s_var 2) (s_acons (s_var 3) (s_acons (s_var 4) (s_acons (s_var 5) (s_acons (s_var 6) (s_anil))))))))) rfl (fun hl ha => ps_expr (pe_bm PySem.F.plainAttrs_list PySem.F.slot_list_append PySem.F.type_list_append mt_append hl ha))))))) (s_last (s_ifS (s_tcmp (op_eq2 hu) o_eq (s_var 1) (s_str) rfl) (s_cons (s_put hu (s_op op_add4 o_add (s_key hu (s_var 0) (s_str)) (s_int)) (s_plN 0) (s_str)) (s_cons (s_app (s_plK hu (s_plN 0) (s_str)) (s_tup (s_acons (s_key hu (s_var 0) (s_str)) (s_acons (s_var 2) (s_acons (s_var 4) (s_acons (s_ix ix_seq o_ix (s_ix ix_seq o_ix (s_var 7) (s_var 2)) (s_var 4)) (s_anil)))))) rfl (fun hl ha => ps_expr (pe_bm PySem.F.plainAttrs_list PySem.F.slot_list_append PySem.F.type_list_append mt_append hl ha))) (s_last (s_app (s_plK hu (s_plN 0) (s_str)) (s_tup (s_acons (s_str) (s_acons (s_key hu (s_var 0) (s_str)) (s_acons (s_var 2) (s_acons (s_var 4) (s_acons (s_ix ix_seq o_ix (s_ix ix_seq o_ix (s_var 7) (s_var 2)) (s_var 4)) (s_anil))))))) rfl (fun hl ha => ps_expr (pe_bm PySem.F.plainAttrs_list PySem.F.slot_list_append PySem.F.type_list_append mt_append hl ha)))))) (s_last (s_ret (s_bl)))))))))) (s_last (s_ret (s_bl))))
  have e : m__law_honest = fnD 8 [.m, .v, .v, .v, .v, .v, .v] b__law_honest := rfl
  rw [e]
  exact fn_body F sc__law_honest rfl (by decide) B
theorem cal__law_honest (T : Txt P w K mg base) : Cal CX0 P w K mg base 2 "_law_honest" ["_law_world_here", "_law_word", "_law_party", "_law_other", "_law_kind", "_law_amount", "_law_is_sealed"] [.m, .v, .v, .v, .v, .v, .v] m__law_honest :=
  cal_of T.f__law_honest (fun _ _ _ _ _ _ us hl => match us, hl with | [_, _, _, _, _, _, _], _ => rfl) fun f fd F => ok__law_honest T F
theorem sc__law_did : FnScope ["_law_world_here", "_law_deed_here", "_law_word", "_law_party", "_law_other", "_law_kind", "_law_amount", "_law_is_sealed"] ["_law_world_here", "_law_deed_here"] (defScope st__law_did) := ⟨rfl, rfl, rfl, by decide +kernel, rfl, by decide +kernel, by decide +kernel⟩
theorem ok__law_did (T : Txt P w K mg base) {f : Addr} {fd : FuncData} (F : FunD K "_law_did" "_law_did" (defArgs st__law_did) (defBody st__law_did) (defScope st__law_did) [] [] f fd) : FnOk P w K mg base CX0 3 f fd ["_law_world_here", "_law_deed_here"] (spF K [.m, .v] m__law_did) := by
  have c__law_honest : Cal CX0 P w K mg base 2 "_law_honest" ["_law_world_here", "_law_word", "_law_party", "_law_other", "_law_kind", "_law_amount", "_law_is_sealed"] [.m, .v, .v, .v, .v, .v, .v] m__law_honest := cal__law_honest T
  have c__law_lied : Cal CX0 P w K mg base 2 "_law_lied" ["_law_world_here", "_law_word", "_law_party", "_law_other", "_law_kind", "_law_amount", "_law_is_sealed"] [.m, .v, .v, .v, .v, .v, .v] m__law_lied := cal__law_lied T
  have B : ∀ (cdv : Value) (A : Around) (outer : List Env) (s : Shared) (H : Hp) (E : XK), Room 2 (A.deeper (envOfC "_law_did" (defScope st__law_did) s.heap.objs.size f cdv)) → PSs (cxOf CX0 P w K mg base ["_law_world_here", "_law_deed_here", "_law_word", "_law_party", "_law_other", "_law_kind", "_law_amount", "_law_is_sealed"] "_law_did" (defScope st__law_did) f cdv A outer s H E) (defBody st__law_did) (tS K E b__law_did) := by
    intro cdv A outer s H E hr
    have hu := hu64 hr
    have hu5 := hu65 hr
    exact s_cons (s_asgT (s_var 1) (pg_tup rfl (pgs_cons (pg_name (i := 2) sc__law_did.nd rfl (by first | exact Or.inl rfl | exact Or.inr rfl)) (pgs_cons (pg_name (i := 3) sc__law_did.nd rfl (by first | exact Or.inl rfl | exact Or.inr rfl)) (pgs_cons (pg_name (i := 4) sc__law_did.nd rfl (by first | exact Or.inl rfl | exact Or.inr rfl)) (pgs_cons (pg_name (i := 5) sc__law_did.nd rfl (by first | exact Or.inl rfl | exact Or.inr rfl)) (pgs_cons (pg_name (i := 6) sc__law_did.nd rfl (by first | exact Or.inl rfl | exact Or.inr rfl)) (pgs_cons (pg_name (i := 7) sc__law_did.nd rfl (by first | exact Or.inl rfl | exact Or.inr rfl)) (pgs_nil)))))))) (g_tup (gs_cons (g_name) (gs_cons (g_name) (gs_cons (g_name) (gs_cons (g_name) (gs_cons (g_name) (gs_cons (g_name) (gs_nil))))))))) (s_cons (s_ifS (s_tcmp (op_in3 hu5) o_in (s_var 2) (s_tup (s_acons (s_str) (s_acons (s_str) (s_acons (s_str) (s_acons (s_str) (s_anil)))))) rfl) (s_last (s_mret (s_mcall 0 c__law_honest hr passE (x_n 0 (x_n 2 (x_n 3 (x_n 4 (x_n 5 (x_n 6 (x_n 7 (x_nil))))))))))) (s_nil)) (s_last (s_mret (s_mcall 0 c__law_lied hr passE (x_n 0 (x_n 2 (x_n 3 (x_n 4 (x_n 5 (x_n 6 (x_n 7 (x_nil))))))))))))
  have e : m__law_did = fnD 8 [.m, .v] b__law_did := rfl
  rw [e]
  exact fn_body F sc__law_did rfl (by decide) B
theorem cal__law_did (T : Txt P w K mg base) : Cal CX0 P w K mg base 3 "_law_did" ["_law_world_here", "_law_deed_here"] [.m, .v] m__law_did :=
  cal_of T.f__law_did (fun _ _ _ _ _ _ us hl => match us, hl with | [_, _], _ => rfl) fun f fd F => ok__law_did T F
theorem sc__law_modelled : FnScope ["_law_world_here", "_law_deed_here", "_law_word", "_law_party", "_law_other", "_law_kind", "_law_amount", "_law_is_sealed", "_law_at", "_law_row"] ["_law_world_here", "_law_deed_here"] (defScope st__law_modelled) := ⟨rfl, rfl, rfl, by decide +kernel, rfl, by decide +kernel, by decide +kernel⟩
theorem ok__law_modelled (T : Txt P w K mg base) {f : Addr} {fd : FuncData} (F : FunD K "_law_modelled" "_law_modelled" (defArgs st__law_modelled) (defBody st__law_modelled) (defScope st__law_modelled) [] [] f fd) : FnOk P w K mg base CX0 4 f fd ["_law_world_here", "_law_deed_here"] (spF K [.m, .v] m__law_modelled) := by
  have c__law_did : Cal CX0 P w K mg base 3 "_law_did" ["_law_world_here", "_law_deed_here"] [.m, .v] m__law_did := cal__law_did T
  have B : ∀ (cdv : Value) (A : Around) (outer : List Env) (s : Shared) (H : Hp) (E : XK), Room 3 (A.deeper (envOfC "_law_modelled" (defScope st__law_modelled) s.heap.objs.size f cdv)) → PSs (cxOf CX0 P w K mg base ["_law_world_here", "_law_deed_here", "_law_word", "_law_party", "_law_other", "_law_kind", "_law_amount", "_law_is_sealed", "_law_at", "_law_row"] "_law_modelled" (defScope st__law_modelled) f cdv A outer s H E) (defBody st__law_modelled) (tS K E b__law_modelled) := by
    intro cdv A outer s H E hr
    have hu := hu64 hr
    have hu5 := hu65 hr
    exact s_cons (s_asgT (s_var 1) (pg_tup rfl (pgs_cons (pg_name (i := 2) sc__law_modelled.nd rfl (by first | exact Or.inl rfl | exact Or.inr rfl)) (pgs_cons (pg_name (i := 3) sc__law_modelled.nd rfl (by first | exact Or.inl rfl | exact Or.inr rfl)) (pgs_cons (pg_name (i := 4) sc__law_modelled.nd rfl (by first | exact Or.inl rfl | exact Or.inr rfl)) (pgs_cons (pg_name (i := 5) sc__law_modelled.nd rfl (by first | exact Or.inl rfl | exact Or.inr rfl)) (pgs_cons (pg_name (i := 6) sc__law_modelled.nd rfl (by first | exact Or.inl rfl | exact Or.inr rfl)) (pgs_cons (pg_name (i := 7) sc__law_modelled.nd rfl (by first | exact Or.inl rfl | exact Or.inr rfl)) (pgs_nil)))))))) (g_tup (gs_cons (g_name) (gs_cons (g_name) (gs_cons (g_name) (gs_cons (g_name) (gs_cons (g_name) (gs_cons (g_name) (gs_nil))))))))) (s_cons (s_end [true, true, true, true, false, true, false, false, false, false] [true, false, false, false, false, false, false, false, false, false] (s_ifS (s_tcmp (op_eq2 hu) o_eq (s_var 2) (s_str) rfl) (s_cons (s_asg 8 sc__law_modelled.nd (s_idx (s_comp (own := [("_law_row", 9)]) rfl sc__law_modelled.nd (pi_seq (s_ix ix_seq o_ix (s_key hu (s_var 0) (s_str)) (s_var 3))) (srcC_ok) (blkB_ok (by kernel_rfl)) (c_name) (by decide) (fun _ _ _ _ _ => pg_name (i := 9) sc__law_modelled.nd rfl (by first | exact Or.inl rfl | exact Or.inr rfl)) (fun _ _ _ _ _ => s_ifs0) (fun _ _ _ _ _ => s_ix ix_seq o_ix (s_var 9) (s_int))) (s_var 6) rfl (fun hl ha => pe_bm PySem.F.plainAttrs_list PySem.F.slot_list_index PySem.F.type_list_index mt_index hl ha))) (s_cons (s_mdrop (s_mcall 0 c__law_did hr passE (x_n 0 (x_p (s_tup (s_acons (s_var 2) (s_acons (s_var 3) (s_acons (s_var 4) (s_acons (s_var 5) (s_acons (s_var 8) (s_acons (s_var 7) (s_anil)))))))) (x_nil))))) (s_last (s_ret (s_non))))) (s_nil))) (s_cons (s_mdrop (s_mcall 0 c__law_did hr passE (x_n 0 (x_n 1 (x_nil))))) (s_cons (s_ifS (s_tcmp (op_eq2 hu) o_eq (s_var 2) (s_str) rfl) (s_last (s_ret (s_ix ix_seq o_ix (s_ix ix_seq o_ix (s_key hu (s_var 0) (s_str)) (s_var 3)) (s_var 5)))) (s_nil)) (s_last (s_ret (s_if (s_tcmp (op_in3 hu5) o_in (s_var 2) (s_tup (s_acons (s_str) (s_acons (s_str) (s_acons (s_str) (s_acons (s_str) (s_acons (s_str) (s_anil))))))) rfl) (s_key hu (s_var 0) (s_str)) (s_non)))))))
  have e : m__law_modelled = fnD 10 [.m, .v] b__law_modelled := rfl
  rw [e]
  exact fn_body F sc__law_modelled rfl (by decide) B
theorem cal__law_modelled (T : Txt P w K mg base) : Cal CX0 P w K mg base 4 "_law_modelled" ["_law_world_here", "_law_deed_here"] [.m, .v] m__law_modelled :=
  cal_of T.f__law_modelled (fun _ _ _ _ _ _ us hl => match us, hl with | [_, _], _ => rfl) fun f fd F => ok__law_modelled T F
theorem sc__law_written : FnScope ["_law_trail", "_law_claim", "e"] ["_law_trail", "_law_claim"] (defScope st__law_written) := ⟨rfl, rfl, rfl, by decide +kernel, rfl, by decide +kernel, by decide +kernel⟩
theorem ok__law_written (T : Txt P w K mg base) {f : Addr} {fd : FuncData} (F : FunD K "_law_written" "_law_written" (defArgs st__law_written) (defBody st__law_written) (defScope st__law_written) [] [] f fd) : FnOk P w K mg base CX0 4 f fd ["_law_trail", "_law_claim"] (spF K [.m, .v] m__law_written) := by
  have c_Trail_write : CalM (L2.CX P w) P w K mg base 3 "Trail" "write" ["self", "party", "deed", "kind", "amount", "other"] [.m, .v, .v, .v, .v, .v] m_Trail_write := cal_Trail_write T
  have B : ∀ (cdv : Value) (A : Around) (outer : List Env) (s : Shared) (H : Hp) (E : XK), Room 3 (A.deeper (envOfC "_law_written" (defScope st__law_written) s.heap.objs.size f cdv)) → PSs (cxOf CX0 P w K mg base ["_law_trail", "_law_claim", "e"] "_law_written" (defScope st__law_written) f cdv A outer s H E) (defBody st__law_written) (tS K E b__law_written) := by
    intro cdv A outer s H E hr
    have hu := hu64 hr
    have hu5 := hu65 hr
    exact s_last (s_tryM (i := 2) 0 T.rf_Refused rfl rfl sc__law_written.nd c_Trail_write hr (fun _ _ _ => x_p (s_int) (x_n 1 (x_p (s_int) (x_p (s_int) (x_p (s_int) (x_nil)))))))
  have e : m__law_written = fnD 3 [.m, .v] b__law_written := rfl
  rw [e]
  exact fn_body F sc__law_written rfl (by decide) B
theorem cal__law_written (T : Txt P w K mg base) : Cal CX0 P w K mg base 4 "_law_written" ["_law_trail", "_law_claim"] [.m, .v] m__law_written :=
  cal_of T.f__law_written (fun _ _ _ _ _ _ us hl => match us, hl with | [_, _], _ => rfl) fun f fd F => ok__law_written T F
theorem sc_law : FnScope ["_law_script", "_law_world_here", "_law_trail", "_law_k", "_law_deed_here", "_law_due", "_law_told_here", "_law_claim"] ["_law_script"] (defScope st_law) := ⟨rfl, rfl, rfl, by decide +kernel, rfl, by decide +kernel, by decide +kernel⟩
theorem ok_law (T : Txt P w K mg base) {f : Addr} {fd : FuncData} (F : FunD K "law" "law" (defArgs st_law) (defBody st_law) (defScope st_law) [] [] f fd) : FnOk P w K mg base CX0 6 f fd ["_law_script"] (spF K [.v] m_law) := by
  have c__law_begun : Cal CX0 P w K mg base 1 "_law_begun" ["_law_kinds", "_law_parties_here"] [.v, .v] m__law_begun := cal__law_begun T
  have c__law_cell : Cal CX0 P w K mg base 1 "_law_cell" ["_law_script", "_law_k"] [.v, .v] m__law_cell := cal__law_cell T
  have c__law_parties : Cal CX0 P w K mg base 2 "_law_parties" ["_law_cell_here", "_law_most"] [.v, .v] m__law_parties := cal__law_parties T
  have c_Trail___init__ : CalI CX0 P w K mg base 1 "Trail" ["self", "kinds", "parties"] [.v, .v] m_Trail___init__ := cal_Trail___init__ T
  have c__law_deed : Cal CX0 P w K mg base 2 "_law_deed" ["_law_cell_here", "_law_world_here", "_law_lying"] [.v, .v, .v] m__law_deed := cal__law_deed T
  have c__law_why_not : Cal CX0 P w K mg base 1 "_law_why_not" ["_law_world_here", "_law_deed_here"] [.v, .v] m__law_why_not := cal__law_why_not T
  have c__law_told : Cal CX0 P w K mg base 5 "_law_told" ["_law_trail", "_law_deed_here"] [.m, .v] m__law_told := cal__law_told T
  have c__law_modelled : Cal CX0 P w K mg base 4 "_law_modelled" ["_law_world_here", "_law_deed_here"] [.m, .v] m__law_modelled := cal__law_modelled T
  have c__law_is_it : Cal CX0 P w K mg base 2 "_law_is_it" ["_law_trail", "_law_world_here"] [.v, .v] m__law_is_it := cal__law_is_it T
  have c__law_written : Cal CX0 P w K mg base 4 "_law_written" ["_law_trail", "_law_claim"] [.m, .v] m__law_written := cal__law_written T
  have B : ∀ (cdv : Value) (A : Around) (outer : List Env) (s : Shared) (H : Hp) (E : XK), Room 5 (A.deeper (envOfC "law" (defScope st_law) s.heap.objs.size f cdv)) → PSs (cxOf CX0 P w K mg base ["_law_script", "_law_world_here", "_law_trail", "_law_k", "_law_deed_here", "_law_due", "_law_told_here", "_law_claim"] "law" (defScope st_law) f cdv A outer s H E) (defBody st_law) (tS K E b_law) := by
    intro cdv A outer s H E hr
    have hu := hu64 hr
    have hu5 := hu65 hr
    exact s_cons (s_asg 1 sc_law.nd (s_callC c__law_begun hr passE (s_acons (s_op op_add4 o_add (s_int) (s_op op_mod o_mod (s_op op_fdiv o_div (s_callC c__law_cell hr passE (s_acons (s_var 0) (s_acons (s_int) (s_anil)))) (s_int)) (s_int))) (s_acons (s_callC c__law_parties hr passE (s_acons (s_callC c__law_cell hr passE (s_acons (s_var 0) (s_acons (s_int) (s_anil)))) (s_acons (s_int) (s_anil)))) (s_anil))))) (s_cons (s_asg 2 sc_law.nd (s_make c_Trail___init__ hr passE (s_acons (s_key hu (s_var 1) (s_str)) (s_acons (s_callTy b_list call_list_of (by rfl) T.b_list PyProof.Rows.boot_list (s_acons (s_key hu (s_var 1) (s_str)) (s_anil))) (s_anil))))) (s_cons (s_end [false, true, true, false, false, false, false, false] [false, false, false, false, false, false, false, false] (s_pre [true, true, true, false, false, false, false, false] (s_for (passes_of rfl) rfl (pi_range1 (by rfl) T.b_range (s_acons (s_op op_mod o_mod (s_callC c__law_cell hr passE (s_acons (s_var 0) (s_acons (s_int) (s_anil)))) (s_int)) (s_anil))) (srcR1_ok) (pg_name (i := 3) sc_law.nd rfl (by first | exact Or.inl rfl | exact Or.inr rfl)) (g_name) (s_ends [true, true, true, false, false, false, false, false] [false, false, false, false, false, false, false, false] (s_cons (s_asg 4 sc_law.nd (s_callC c__law_deed hr passE (s_acons (s_callC c__law_cell hr passE (s_acons (s_var 0) (s_acons (s_op op_add4 o_add (s_int) (s_var 3)) (s_anil)))) (s_acons (s_var 1) (s_acons (s_int) (s_anil)))))) (s_cons (s_asg 5 sc_law.nd (s_callC c__law_why_not hr passE (s_acons (s_var 1) (s_acons (s_var 4) (s_anil))))) (s_cons (s_masg 6 sc_law.nd (s_mcall 2 c__law_told hr passE (x_n 2 (x_n 4 (x_nil))))) (s_cons (s_ifS (s_tcmp (op_eq2 hu) o_eq (s_var 5) (s_str) rfl) (s_last (s_masg 5 sc_law.nd (s_mcall 1 c__law_modelled hr passE (x_n 1 (x_n 4 (x_nil)))))) (s_nil)) (s_last (s_ifS ((s_tor (s_tcmp (op_ne2 hu) o_ne (s_var 6) (s_var 5) rfl) (s_tor1 (s_tnot (s_tru (s_callC c__law_is_it hr passE (s_acons (s_var 2) (s_acons (s_var 1) (s_anil)))))))).pt) (s_last (s_ret (s_bl))) (s_nil))))))))))) (s_cons (s_end [false, true, true, false, false, false, false, false] [false, false, false, false, false, false, false, false] (s_pre [false, true, true, false, false, false, false, false] (s_for (passes_of rfl) rfl (pi_seq (s_lst (s_acons (s_str) (s_acons (s_str) (s_anil))))) (srcS_ok) (pg_name (i := 7) sc_law.nd rfl (by first | exact Or.inl rfl | exact Or.inr rfl)) (g_name) (s_ends [false, true, true, false, false, false, false, false] [false, false, false, false, false, false, false, false] (s_last (s_mif (m_tcmp (op_ne2 hu) o_ne (s_mcall 2 c__law_written hr passE (x_n 2 (x_n 7 (x_nil)))) (s_str) rfl) (s_last (s_ret (s_bl))) (s_nil))))))) (s_last (s_ret (s_callC c__law_is_it hr passE (s_acons (s_var 2) (s_acons (s_var 1) (s_anil)))))))))
  have e : m_law = fnD 8 [.v] b_law := rfl
  rw [e]
  exact fn_body F sc_law rfl (by decide) B
end
end Law

namespace Law
open PySem Oz L2
variable [Oz.WD]
/-! ### the script's cells and draws -/
def dr (ds : List Int) (i : Nat) : Int := ds.getD i 0
theorem dr_at {ds : List Int} {i : Nat} (h : i < ds.length) : atI ds (i : Int) = some (dr ds i) := by
  rw [atI_ofNat]; simp [h, dr]
theorem dr_get {ds : List Int} {i : Nat} (h : i < ds.length) : ds[i]? = some (dr ds i) := by simp [h, dr]
theorem dr_nn {ds : List Int} (h : ∀ d ∈ ds, 0 ≤ d) (i : Nat) : 0 ≤ dr ds i := by
  unfold dr
  rw [List.getD_eq_getElem?_getD]
  cases e : ds[i]? with
  | none => simp
  | some d => exact h d (List.mem_of_getElem? e)
theorem e_cell (ns : List Int) (i : Nat) : m__law_cell [scrD (ns.map .int), .int i] = .ok ⟨.imm, .int (dr ns i)⟩ [] := by
  by_cases h : i < ns.length
  · simp [m__law_cell, b__law_cell, h, atI_ofNat, dr]
  · simp [m__law_cell, b__law_cell, h, atI_ofNat, dr]
theorem e_draws (c : Int) (k : Nat) (hk : k < 100) : ∃ ds : List Int, m__law_draws [.int c, .int k] = .ok ⟨.own, .list (ds.map .int)⟩ [] ∧ ds.length = k ∧ (∀ d ∈ ds, 0 ≤ d) ∧ ∀ d ∈ ds, d < 1000003 := by
  obtain ⟨⟨c', ds⟩, e, hl, hp⟩ := loop_st (g := gN 4) (b := l__law_draws_0) (item := fun (k : Nat) => (⟨.imm, .int (0 + (k : Int))⟩ : R))
    (fun (s : Int × List Int) => [some ⟨.imm, .int s.1⟩, some ⟨.imm, .int k⟩, some ⟨.own, .list (s.2.map .int)⟩, some ⟨.imm, .bool (decide (10 ^ 18 ≤ c))⟩, none, none])
    (fun pre s => s.2.length = pre.length ∧ ∀ d ∈ s.2, 0 ≤ d ∧ d < 1000003) (List.range k) (c, []) (by simp) (by
      rintro pre x post ⟨c', ds⟩ hx ⟨hl, hp⟩
      have hpre : ds.length < 16777216 := by
        have := pre_rng hx
        simp at hl
        omega
      cases hw : decide (10 ^ 18 ≤ c) with
      | true =>
        refine ⟨(c' / 1009, ds ++ [c' % 1009]), by simp [x_stp, l__law_draws_0, hpre, sizeLine], by simp at hl; simp [hl], ?_⟩
        intro d hd
        rcases List.mem_append.mp hd with h | h
        · exact hp d h
        · simp at h; omega
      | false =>
        have hm : (c' * 48271 + (x : Int) * 69621) % 2147483647 < 18446744073709551616 := by omega
        have hm2 : -18446744073709551616 < (c' * 48271 + (x : Int) * 69621) % 2147483647 := by omega
        refine ⟨(c', ds ++ [((c' * 48271 + (x : Int) * 69621) % 2147483647 * ((c' * 48271 + (x : Int) * 69621) % 2147483647) + c' * 31 + x) % 1000003]), by simp [x_stp, l__law_draws_0, hpre, hm, hm2, sizeLine], by simp at hl; simp [hl], ?_⟩
        intro d hd
        rcases List.mem_append.mp hd with h | h
        · exact hp d h
        · simp at h; rw [h]; exact ⟨Int.emod_nonneg _ (by decide), Int.emod_lt_of_pos _ (by decide)⟩)
  have hr : inR (k : Int) = true := inR_of (by omega) (by omega)
  refine ⟨ds, ?_, by simpa using hl, fun d hd => (hp d hd).1, fun d hd => (hp d hd).2⟩
  rw [← irng_map] at e
  simp at e
  simp [m__law_draws, b__law_draws, f__law_draws_0, hr, e]
theorem dr_lt {ds : List Int} (h : ∀ d ∈ ds, d < 1000003) (i : Nat) : dr ds i < 1000003 := by
  unfold dr
  rw [List.getD_eq_getElem?_getD]
  cases e : ds[i]? with
  | none => simp
  | some d => exact h d (List.mem_of_getElem? e)
/-! ### parties -/
def partiesD (ps : List (Bool × Bool)) : D := .tuple (ps.map fun p => .tuple [.bool p.1, .bool p.2])
@[simp] theorem lfs_pt {ps : List (Bool × Bool)} : Oz.lfs (ps.map fun p => (.tuple [.bool p.1, .bool p.2] : D)) = true := by rw [lfs_all]; simp
@[simp] theorem lf_parties {ps : List (Bool × Bool)} : lf (partiesD ps) = true := by show Oz.lfs _ = true; simp
@[simp] theorem len_parties {ps : List (Bool × Bool)} : fLen (partiesD ps) = some (.int ps.length) := by simp [partiesD]
@[simp] theorem src_parties {ps : List (Bool × Bool)} {s : Sx} : srcR ⟨s, partiesD ps⟩ = .ok (ps.map fun p => (⟨.imm, .tuple [.bool p.1, .bool p.2]⟩ : R)) := by
  simp only [partiesD, x_srcRt]
  simp [Function.comp_def]
def pOf (ps : List (Bool × Bool)) (p : Int) : Bool × Bool := ps.getD p.toNat (false, false)
theorem p_at {ps : List (Bool × Bool)} {p : Int} (h0 : 0 ≤ p) (h : p < ps.length) : atI ps p = some (pOf ps p) := by
  rw [atI_some h0 h]
  have : p.toNat < ps.length := by omega
  simp [pOf, this]
theorem at_parties {ps : List (Bool × Bool)} {p : Int} {s t : Sx} (h0 : 0 ≤ p) (h : p < ps.length) : ixR ⟨s, partiesD ps⟩ ⟨t, .int p⟩ = .ok ⟨.imm, .tuple [.bool (pOf ps p).1, .bool (pOf ps p).2]⟩ := by
  simp [partiesD, p_at h0 h]
theorem e_parties (c : Int) (m : Nat) (hm : 0 < m) (hm2 : m ≤ 8) : ∃ ps : List (Bool × Bool), m__law_parties [.int c, .int m] = .ok ⟨.imm, partiesD ps⟩ [] ∧ 1 ≤ ps.length ∧ ps.length ≤ m := by
  obtain ⟨ds, hd0, hdl, hdn, hdb⟩ := e_draws c 10 (by decide)
  have hd : m__law_draws [.int c, .int 10] = _ := hd0
  have h0 : 0 ≤ dr ds 0 % m := Int.emod_nonneg _ (by omega)
  have h4 : dr ds 0 % m < m := Int.emod_lt_of_pos _ (by omega)
  obtain ⟨n, hn⟩ := Int.eq_ofNat_of_zero_le h0
  have hn4 : n < m := by omega
  let row : Int → Bool × Bool := fun i => ([(true, false), (false, false), (false, true), (true, true)] : List (Bool × Bool)).getD i.toNat (false, false)
  have hc : compE (cN 4) tYesD c__law_parties_0 [some ⟨.imm, .int c⟩, some ⟨.imm, .int m⟩, some ⟨.own, .list (ds.map .int)⟩, some ⟨.own, .list [.tuple [.bool true, .bool false], .tuple [.bool false, .bool false], .tuple [.bool false, .bool true], .tuple [.bool true, .bool true]]⟩, none] (irng 0 (1 + n)) = some ((List.range (1 + n)).map fun k => (⟨.imm, .tuple [.bool (row (dr ds (1 + k) % 4)).1, .bool (row (dr ds (1 + k) % 4)).2]⟩ : R)) := by
    rw [irng_map]
    refine comp_map1 fun k hk => ?_
    have hk2 : k < 1 + n := by simpa using hk
    have e1 : atI ds (1 + (k : Int)) = some (dr ds (1 + k)) := dr_at (ds := ds) (i := 1 + k) (by omega)
    have hf : dr ds (1 + k) % 4 = 0 ∨ dr ds (1 + k) % 4 = 1 ∨ dr ds (1 + k) % 4 = 2 ∨ dr ds (1 + k) % 4 = 3 := by omega
    refine ⟨[some ⟨.imm, .int c⟩, some ⟨.imm, .int m⟩, some ⟨.own, .list (ds.map .int)⟩, some ⟨.own, .list [.tuple [.bool true, .bool false], .tuple [.bool false, .bool false], .tuple [.bool false, .bool true], .tuple [.bool true, .bool true]]⟩, some ⟨.imm, .int k⟩], by simp, ?_⟩
    rcases hf with h | h | h | h <;> simp [c__law_parties_0, e1, h, row, sizeLine]
  have hr : inR (1 + (n : Int)) = true := inR_of (by omega) (by omega)
  have ht : ((1 : Int) + n).toNat = 1 + n := by omega
  have e0 := dr_get (ds := ds) (i := 0) (by omega)
  have hcr := compR_own (xs := List.range (1 + n)) (f := fun k => (⟨.imm, .tuple [.bool (row (dr ds (1 + k) % 4)).1, .bool (row (dr ds (1 + k) % 4)).2]⟩ : R)) (e := fun k => .tuple [.bool (row (dr ds (1 + k) % 4)).1, .bool (row (dr ds (1 + k) % 4)).2]) (by simp [sizeLine]; omega) (fun k _ => by simp)
  refine ⟨(List.range (1 + n)).map fun k => row (dr ds (1 + k) % 4), ?_, by simp, by simp; omega⟩
  have hlf : lfs ((List.range (1 + n)).map fun k => (.tuple [.bool (row (dr ds (1 + k) % 4)).1, .bool (row (dr ds (1 + k) % 4)).2] : D)) = true := by
    rw [lfs_all]; simp
  simp [m__law_parties, b__law_parties, q__law_parties_0, hd, e0, hn, hr, ht, hc, hcr, hlf, Function.comp_def, partiesD, hm, sizeLine]
end Law

namespace Law
open PySem Oz L2
variable [Oz.WD]
/-! ### the world -/
inductive Ent where
  | pl (num : Int) (made : Bool) (k a : Int)
  | cp (num : Int) (gave : Bool) (k a o : Int) (s : Bool)
  deriving DecidableEq
def encE : Ent → D
  | .pl num w k a => .tuple [.int num, .str (if w then "made" else "treated"), .int k, .int a]
  | .cp num w k a o s => .tuple [.int num, .str (if w then "gave" else "took"), .int k, .int a, .int o, .bool s]
@[simp] theorem lf_encE {e : Ent} : lf (encE e) = true := by cases e <;> simp [encE]
inductive E where
  | mk (w : Bool) (num p k a : Int)
  | found (num p k a : Int)
  | handed (num g t k a : Int) (s : Bool)
  | passed (a b k m : Int)
  | gone (w : Bool) (p k a : Int)
  deriving DecidableEq
def enc : E → D
  | .mk w num p k a => .tuple [.str (if w then "made" else "treated"), .int num, .int p, .int k, .int a]
  | .found num p k a => .tuple [.str "found", .int num, .int p, .int k, .int a]
  | .handed num g t k a s => .tuple [.str "handed", .int num, .int g, .int t, .int k, .int a, .bool s]
  | .passed a b k m => .tuple [.str "passed", .int a, .int b, .int k, .int m]
  | .gone w p k a => .tuple [.str (if w then "dumped" else "conjured"), .int p, .int k, .int a]
@[simp] theorem lf_enc {e : E} : lf (enc e) = true := by cases e <;> simp [enc]
structure Fd where
  num : Int
  p : Int
  k : Int
  a : Int
  deriving DecidableEq
def encF (f : Fd) : D := .tuple [.int f.num, .int f.p, .int f.k, .int f.a]
@[simp] theorem lf_encF {e : Fd} : lf (encF e) = true := by simp [encF]
def rowD (r : List Int) : D := .list (r.map .int)
@[simp] theorem lf_rowD {r : List Int} : lf (rowD r) = false := id rfl
def fileL (f : List Ent) : D := .list (f.map encE)
@[simp] theorem lf_fileL {r : List Ent} : lf (fileL r) = false := id rfl
structure W where
  last : Int
  stock : List (List Int)
  files : List (List Ent)
  finds : List Fd
  events : List E
  liars : List Int
def wEs (k p st fl fi ev la li : D) : List (D × D) := [(.str (Str.ofString "kinds"), k), (.str (Str.ofString "parties"), p), (.str (Str.ofString "stock"), st), (.str (Str.ofString "files"), fl), (.str (Str.ofString "finds"), fi), (.str (Str.ofString "events"), ev), (.str (Str.ofString "last"), la), (.str (Str.ofString "liars"), li)]
section
variable {k p st fl fi ev la li d : D}
@[simp] theorem w_len : (wEs k p st fl fi ev la li).length = 8 := rfl
@[simp] theorem w_dct : isDct (wEs k p st fl fi ev la li) = true := by simp [wEs]
@[simp] theorem w_uk {x : Str} : ukD (.inr x) (wEs k p st fl fi ev la li) = true := by
  simp only [wEs, ukD_cons, keyOf_s, Option.some.injEq, Sum.inr.injEq, noD_cons, noD_nil, ukD_nil]
  repeat' split
  all_goals first | rfl | (rename_i h; subst h; simp)
@[simp] theorem lk_kinds : lkD (.inr (Str.ofString "kinds")) (wEs k p st fl fi ev la li) = some k := by simp [wEs]
@[simp] theorem lk_parties : lkD (.inr (Str.ofString "parties")) (wEs k p st fl fi ev la li) = some p := by simp [wEs]
@[simp] theorem lk_stock : lkD (.inr (Str.ofString "stock")) (wEs k p st fl fi ev la li) = some st := by simp [wEs]
@[simp] theorem lk_files : lkD (.inr (Str.ofString "files")) (wEs k p st fl fi ev la li) = some fl := by simp [wEs]
@[simp] theorem lk_finds : lkD (.inr (Str.ofString "finds")) (wEs k p st fl fi ev la li) = some fi := by simp [wEs]
@[simp] theorem lk_events : lkD (.inr (Str.ofString "events")) (wEs k p st fl fi ev la li) = some ev := by simp [wEs]
@[simp] theorem lk_last : lkD (.inr (Str.ofString "last")) (wEs k p st fl fi ev la li) = some la := by simp [wEs]
@[simp] theorem lk_liars : lkD (.inr (Str.ofString "liars")) (wEs k p st fl fi ev la li) = some li := by simp [wEs]
@[simp] theorem pt_stock : ptD (.inr (Str.ofString "stock")) d (wEs k p st fl fi ev la li) = wEs k p d fl fi ev la li := by simp [wEs]
@[simp] theorem pt_files : ptD (.inr (Str.ofString "files")) d (wEs k p st fl fi ev la li) = wEs k p st d fi ev la li := by simp [wEs]
@[simp] theorem pt_finds : ptD (.inr (Str.ofString "finds")) d (wEs k p st fl fi ev la li) = wEs k p st fl d ev la li := by simp [wEs]
@[simp] theorem pt_events : ptD (.inr (Str.ofString "events")) d (wEs k p st fl fi ev la li) = wEs k p st fl fi d la li := by simp [wEs]
@[simp] theorem pt_last : ptD (.inr (Str.ofString "last")) d (wEs k p st fl fi ev la li) = wEs k p st fl fi ev d li := by simp [wEs]
@[simp] theorem pt_liars : ptD (.inr (Str.ofString "liars")) d (wEs k p st fl fi ev la li) = wEs k p st fl fi ev la d := by simp [wEs]
end
def worldX (kn : Int) (ps : List (Bool × Bool)) (st : D) (w : W) : D := .dict (wEs (.int kn) (partiesD ps) st (.list (w.files.map fileL)) (.list (w.finds.map encF)) (.list (w.events.map enc)) (.int w.last) (.list (w.liars.map .int)))
def worldD (kn : Int) (ps : List (Bool × Bool)) (w : W) : D := worldX kn ps (.list (w.stock.map rowD)) w
@[simp] theorem lf_worldX {kn : Int} {ps : List (Bool × Bool)} {st : D} {w : W} : lf (worldX kn ps st w) = false := id rfl
@[simp] theorem lf_worldD {kn : Int} {ps : List (Bool × Bool)} {w : W} : lf (worldD kn ps w) = false := id rfl
/-! ### rows -/
def valS (S : List (List Int)) (p k : Int) : Int := (S.getD p.toNat []).getD k.toNat 0
def updS (S : List (List Int)) (p k v : Int) : List (List Int) := S.set p.toNat ((S.getD p.toNat []).set k.toNat v)
structure SOk (n m : Nat) (S : List (List Int)) : Prop where
  len : S.length = n
  row : ∀ r ∈ S, r.length = m
theorem SOk.upd {n m : Nat} {S : List (List Int)} (h : SOk n m S) {p k v : Int} (h0 : 0 ≤ p) (h1 : p < n) : SOk n m (updS S p k v) := by
  have hl : p.toNat < S.length := by have := h.len; omega
  refine ⟨by simp [updS, h.len], fun r hr => ?_⟩
  rcases List.mem_or_eq_of_mem_set hr with z | z
  · exact h.row r z
  · rw [z, List.length_set]
    exact h.row _ (by simp [hl])
structure At (S : List (List Int)) (p k : Int) (r : List Int) : Prop where
  ip : ixN S.length p = some p.toNat
  gp : S[p.toNat]? = some r
  ap : atI S p = some r
  ik : ixN r.length k = some k.toNat
  ak : atI r k = some (valS S p k)
  eq : S.getD p.toNat [] = r
theorem SOk.at {n m : Nat} {S : List (List Int)} (h : SOk n m S) {p k : Int} (h0 : 0 ≤ p) (h1 : p < n) (k0 : 0 ≤ k) (k1 : k < m) : ∃ r, At S p k r := by
  have hl : p.toNat < S.length := by have := h.len; omega
  have hr := h.row _ (List.getElem_mem hl)
  have hk : k.toNat < (S[p.toNat]).length := by omega
  have hp : p < S.length := by have := h.len; omega
  refine ⟨S[p.toNat], ixN_some h0 hp, by simp [hl], atI_some h0 hp, ixN_some k0 (by omega), ?_, by simp [hl]⟩
  rw [atI_some k0 (by omega)]
  simp [valS, hl, hk]
theorem row_setI {S : List (List Int)} {p k v : Int} {r : List Int} (h : At S p k r) : (S.map rowD).set p.toNat (.list ((r.map .int).set k.toNat (.int v))) = (updS S p k v).map rowD := by
  rw [updS, h.eq, List.map_set, rowD, List.map_set]
/-! ### deeds -/
def addE (fs : List (List Ent)) (p : Int) (e : Ent) : List (List Ent) := fs.set p.toNat (fs.getD p.toNat [] ++ [e])
structure FAt (fs : List (List Ent)) (p : Int) (f : List Ent) : Prop where
  ip : ixN fs.length p = some p.toNat
  gp : fs[p.toNat]? = some f
  ap : atI fs p = some f
theorem fAt {fs : List (List Ent)} {p : Int} (h0 : 0 ≤ p) (h : p < fs.length) : ∃ f, FAt fs p f ∧ f ∈ fs := by
  have hl : p.toNat < fs.length := by omega
  exact ⟨fs[p.toNat], ⟨ixN_some h0 h, by simp [hl], atI_some h0 h⟩, List.getElem_mem hl⟩
theorem fAt_add {fs : List (List Ent)} {p q : Int} {f : List Ent} {e : Ent} (h : FAt fs p f) (hp : 0 ≤ p) (hq : 0 ≤ q) (ne : q ≠ p) : FAt (addE fs q e) p f := by
  have n2 : q.toNat ≠ p.toNat := by omega
  have hl : (addE fs q e).length = fs.length := by simp [addE]
  have hp2 : (addE fs q e)[p.toNat]? = some f := by simp only [addE]; rw [List.getElem?_set_ne n2]; exact h.gp
  refine ⟨by rw [hl]; exact h.ip, hp2, ?_⟩
  unfold atI
  rw [hl, h.ip]
  exact hp2
theorem file_add {fs : List (List Ent)} {p : Int} {f : List Ent} (h : FAt fs p f) (e : Ent) : (fs.map fileL).set p.toNat (.list (f.map encE ++ [encE e])) = (addE fs p e).map fileL := by
  unfold addE
  rw [List.map_set, List.getD_eq_getElem?_getD, h.gp]
  simp [fileL]
theorem file_addP {fs : List (List Ent)} {p : Int} {f : List Ent} (h : FAt fs p f) (num : Int) (w : Bool) (k a : Int) : (fs.map fileL).set p.toNat (.list (f.map encE ++ [.tuple [.int num, .str (if w then "made" else "treated"), .int k, .int a]])) = (addE fs p (.pl num w k a)).map fileL := file_add h (.pl num w k a)
theorem file_addC {fs : List (List Ent)} {p : Int} {f : List Ent} (h : FAt fs p f) (num : Int) (w : Bool) (k a o : Int) (s : Bool) : (fs.map fileL).set p.toNat (.list (f.map encE ++ [.tuple [.int num, .str (if w then "gave" else "took"), .int k, .int a, .int o, .bool s]])) = (addE fs p (.cp num w k a o s)).map fileL := file_add h (.cp num w k a o s)
inductive Wd where
  | make | treat | hand | inspect | pass | dump | conj | sign | write | omit
  deriving DecidableEq
def wdS : Wd → Str
  | .make => "make" | .treat => "treat" | .hand => "hand" | .inspect => "inspect" | .pass => "pass" | .dump => "dump" | .conj => "conjure" | .sign => "sign" | .write => "write" | .omit => "omit"
structure Deed where
  w : Wd
  p : Int
  o : Int
  k : Int
  a : Int
  s : Bool
def deedD (d : Deed) : D := .tuple [.str (wdS d.w), .int d.p, .int d.o, .int d.k, .int d.a, .bool d.s]
structure DOk (n m : Nat) (d : Deed) : Prop where
  p0 : 0 ≤ d.p
  p1 : d.p < n
  o0 : 0 ≤ d.o
  o1 : d.o < n
  k0 : 0 ≤ d.k
  k1 : d.k < m
  a0 : 0 < d.a
  a1 : d.a ≤ 1000003
def notedW (w : W) (g t k a : Int) (s : Bool) : W := { w with last := w.last + 1, files := addE (addE w.files g (.cp (w.last + 1) true k a t s)) t (.cp (w.last + 1) false k a g s) }
structure WOk (n m c : Nat) (w : W) : Prop where
  st : SOk n m w.stock
  fl : w.files.length = n
  fc : ∀ f ∈ w.files, f.length ≤ c
  fi : w.finds.length ≤ c
  ev : w.events.length ≤ c
  li : w.liars.length ≤ c
theorem e_noted (kn : Int) (ps : List (Bool × Bool)) (st : D) {n m c : Nat} {w : W} (h : WOk n m c w) (hc : c < 1000) {g t : Int} (g0 : 0 ≤ g) (g1 : g < n) (t0 : 0 ≤ t) (t1 : t < n) (ne : g ≠ t) (k a : Int) (s : Bool) :
    m__law_noted [worldX kn ps st w, .int g, .int t, .int k, .int a, .bool s] = .ok ⟨.imm, .none⟩ [worldX kn ps st (notedW w g t k a s)] := by
  obtain ⟨f, hf, mf⟩ := fAt (fs := w.files) g0 (by rw [h.fl]; exact g1)
  obtain ⟨f2, hf2, mf2⟩ := fAt (fs := w.files) t0 (by rw [h.fl]; exact t1)
  have c1 := h.fc f mf
  have c2 := h.fc f2 mf2
  have hf3 := fAt_add (e := .cp (w.last + 1) true k a t s) hf2 t0 g0 ne
  have e1 := file_addC hf (w.last + 1) true k a t s
  have e2 := file_addC hf3 (w.last + 1) false k a g s
  have l1 : f.length < 16777216 := by omega
  have l2 : f2.length < 16777216 := by omega
  simp at e1 e2
  have hl : (addE w.files g (.cp (w.last + 1) true k a t s)).length = w.files.length := by simp [addE]
  simp [m__law_noted, b__law_noted, worldX, notedW, hf.ip, hf.gp, fileL, l1, l2, e1, hf3.gp, hf3.ip, hf2.ip, e2, sizeLine]
end Law

namespace Law
open PySem Oz L2
variable [Oz.WD]
def honestW (ps : List (Bool × Bool)) (w : W) (d : Deed) : Option W := match d.w with
  | .make => if (pOf ps d.p).1 = true then some { w with last := w.last + 1, stock := updS w.stock d.p d.k (valS w.stock d.p d.k + d.a), files := addE w.files d.p (.pl (w.last + 1) true d.k d.a), events := w.events ++ [.mk true (w.last + 1) d.p d.k d.a] } else none
  | .treat => if (pOf ps d.p).2 = true ∧ d.a ≤ valS w.stock d.p d.k then some { w with last := w.last + 1, stock := updS w.stock d.p d.k (valS w.stock d.p d.k - d.a), files := addE w.files d.p (.pl (w.last + 1) false d.k d.a), events := w.events ++ [.mk false (w.last + 1) d.p d.k d.a] } else none
  | .hand => if d.p ≠ d.o ∧ d.a ≤ valS w.stock d.p d.k then some { notedW w d.p d.o d.k d.a d.s with stock := updS (updS w.stock d.p d.k (valS w.stock d.p d.k - d.a)) d.o d.k (valS (updS w.stock d.p d.k (valS w.stock d.p d.k - d.a)) d.o d.k + d.a), events := w.events ++ [.handed (w.last + 1) d.p d.o d.k d.a d.s] } else none
  | .inspect => some { w with last := w.last + 1, finds := w.finds ++ [⟨w.last + 1, d.p, d.k, valS w.stock d.p d.k⟩], events := w.events ++ [.found (w.last + 1) d.p d.k (valS w.stock d.p d.k)] }
  | _ => none
def outW (kn : Int) (ps : List (Bool × Bool)) (w : W) : Option W → FR
  | some w' => .ok ⟨.imm, .bool true⟩ [worldD kn ps w']
  | none => .ok ⟨.imm, .bool false⟩ [worldD kn ps w]
theorem e_honest (kn : Int) {ps : List (Bool × Bool)} {m c : Nat} {w : W} (h : WOk ps.length m c w) (hc : c < 1000) {d : Deed} (hd : DOk ps.length m d) (hw : d.w = .make ∨ d.w = .treat ∨ d.w = .hand ∨ d.w = .inspect) :
    m__law_honest [worldD kn ps w, .str (wdS d.w), .int d.p, .int d.o, .int d.k, .int d.a, .bool d.s] = outW kn ps w (honestW ps w d) := by
  obtain ⟨f, hf, mf⟩ := fAt (fs := w.files) hd.p0 (by rw [h.fl]; exact hd.p1)
  obtain ⟨r, hr⟩ := h.st.at hd.p0 hd.p1 hd.k0 hd.k1
  have c1 := h.fc f mf
  have hp := fun s t => at_parties (s := s) (t := t) hd.p0 hd.p1
  have l1 : f.length < 16777216 := by omega
  have l2 : w.events.length < 16777216 := by have := h.ev; omega
  have l3 : w.finds.length < 16777216 := by have := h.fi; omega
  obtain ⟨dw, dp, do_, dk, da, ds⟩ := d
  simp only at hw hf hr hp
  rcases hw with rfl | rfl | rfl | rfl
  · have e1 := file_addP hf (w.last + 1) true dk da
    have e2 := row_setI (v := valS w.stock dp dk + da) hr
    simp at e1
    cases q : (pOf ps dp).1 <;>
      simp [m__law_honest, b__law_honest, x_ali, honestW, outW, worldD, worldX, wdS, q, hp, hf.ip, hf.gp, fileL, l1, l2, hr.ap, hr.ip, hr.gp, hr.ik, hr.ak, rowD, e1, e2, enc, sizeLine]
  · have e1 := file_addP hf (w.last + 1) false dk da
    have e2 := row_setI (v := valS w.stock dp dk - da) hr
    simp at e1
    cases q : (pOf ps dp).2 <;> by_cases q2 : da ≤ valS w.stock dp dk <;>
      simp [m__law_honest, b__law_honest, x_ali, honestW, outW, worldD, worldX, wdS, q, q2, hp, hf.ip, hf.gp, fileL, l1, l2, hr.ap, hr.ip, hr.gp, hr.ik, hr.ak, rowD, e1, e2, enc, sizeLine]
  · by_cases q : dp = do_
    · subst q
      simp [m__law_honest, b__law_honest, x_ali, honestW, outW, worldD, worldX, wdS]
    · by_cases q2 : da ≤ valS w.stock dp dk
      · obtain ⟨r2, hr2⟩ := (h.st.upd (k := dk) (v := valS w.stock dp dk - da) hd.p0 hd.p1).at hd.o0 hd.o1 hd.k0 hd.k1
        have e1 := row_setI (v := valS w.stock dp dk - da) hr
        have e2 := row_setI (v := valS (updS w.stock dp dk (valS w.stock dp dk - da)) do_ dk + da) hr2
        simp only at e1 e2 hr2
        have en := fun a => e_noted kn ps (ptrD a) h hc hd.p0 hd.p1 hd.o0 hd.o1 q dk da ds
        simp only [worldX] at en
        simp [m__law_honest, b__law_honest, x_ali, honestW, outW, worldD, worldX, wdS, q, q2, hr.ap, hr.ip, hr.gp, hr.ik, hr.ak, rowD, en, hr2.ap, hr2.ip, hr2.gp, hr2.ik, hr2.ak, e1, e2, enc, l2, notedW, sizeLine]
      · simp [m__law_honest, b__law_honest, x_ali, honestW, outW, worldD, worldX, wdS, q, q2, hr.ap, hr.ip, hr.gp, hr.ik, hr.ak, rowD]
  · simp [m__law_honest, b__law_honest, x_ali, honestW, outW, worldD, worldX, wdS, hr.ap, hr.ip, hr.gp, hr.ik, hr.ak, rowD, enc, encF, l2, l3, sizeLine]
end Law

namespace Law
open PySem Oz L2
variable [Oz.WD]
def addL (ls : List Int) (x : Int) : List Int := if ls.any (fun z => z == x) = true then ls else ls ++ [x]
theorem in_ints {ls : List Int} {x : Int} : fIn (.int x) (.list (ls.map .int)) = some (ls.any fun z => z == x) := by
  unfold fIn
  simp [Function.comp_def]
theorem addL_len {ls : List Int} {x : Int} : (addL ls x).length ≤ ls.length + 1 := by
  unfold addL
  split <;> simp
theorem map_erase {α β : Type} {f : α → β} : ∀ (xs : List α) (k : Nat), (xs.map f).eraseIdx k = (xs.eraseIdx k).map f
  | [], _ => by simp
  | _ :: _, 0 => rfl
  | x :: xs, k + 1 => by simp [map_erase xs k]
theorem e_liars (kn : Int) (ps : List (Bool × Bool)) (st S I : D) : ∀ (L : List Int) (w : W), w.liars.length + L.length < 16777216 →
    loopS (gN 11) l__law_lied_0 (L.map fun x => (⟨.imm, .int x⟩ : R)) [some ⟨.brw, worldX kn ps st w⟩, none, none, none, none, none, none, some ⟨.brw, S⟩, some ⟨.imm, I⟩, none, none, none] =
      .next [some ⟨.brw, worldX kn ps st { w with liars := L.foldl addL w.liars }⟩, none, none, none, none, none, none, some ⟨.brw, S⟩, some ⟨.imm, I⟩, none, none, none]
  | [], w, h => rfl
  | x :: L, w, h => by
    have hl : w.liars.length < 16777216 := by simp at h; omega
    have key : stp (gN 11) l__law_lied_0 ⟨.imm, .int x⟩ [some ⟨.brw, worldX kn ps st w⟩, none, none, none, none, none, none, some ⟨.brw, S⟩, some ⟨.imm, I⟩, none, none, none] =
        .next [some ⟨.brw, worldX kn ps st { w with liars := addL w.liars x }⟩, none, none, none, none, none, none, some ⟨.brw, S⟩, some ⟨.imm, I⟩, none, none, none] := by
      by_cases q : w.liars.any (fun z => z == x) = true
      · simp [x_stp, l__law_lied_0, worldX, in_ints, q, addL]
      · have q' : w.liars.any (fun z => z == x) = false := Bool.eq_false_iff.mpr q
        simp [x_stp, l__law_lied_0, worldX, in_ints, q', addL, hl, sizeLine]
    rw [List.map_cons, loop_c, key]
    have hl2 := addL_len (ls := w.liars) (x := x)
    simp at h
    exact e_liars kn ps st S I L { w with liars := addL w.liars x } (by show (addL w.liars x).length + L.length < _; omega)
def liedW (ps : List (Bool × Bool)) (w : W) (d : Deed) : Option (W × List Int) := match d.w with
  | .pass => if d.p ≠ d.o ∧ d.a ≤ valS w.stock d.p d.k then some ({ w with stock := updS (updS w.stock d.p d.k (valS w.stock d.p d.k - d.a)) d.o d.k (valS (updS w.stock d.p d.k (valS w.stock d.p d.k - d.a)) d.o d.k + d.a), events := w.events ++ [.passed d.p d.o d.k d.a] }, [d.p, d.o]) else none
  | .dump => if d.a ≤ valS w.stock d.p d.k then some ({ w with stock := updS w.stock d.p d.k (valS w.stock d.p d.k - d.a), events := w.events ++ [.gone true d.p d.k d.a] }, [d.p]) else none
  | .conj => if (pOf ps d.p).1 = true then some ({ w with stock := updS w.stock d.p d.k (valS w.stock d.p d.k + d.a), events := w.events ++ [.gone false d.p d.k d.a] }, [d.p]) else none
  | .sign => if d.p ≠ d.o then some (notedW w d.p d.o d.k d.a d.s, [d.p, d.o]) else none
  | .write => some ({ w with last := w.last + 1, files := addE w.files d.p (if d.p = d.o then .pl (w.last + 1) (!d.s) d.k d.a else .cp (w.last + 1) (!d.s) d.k d.a d.o false) }, [d.p])
  | .omit => if 0 < (w.files.getD d.p.toNat []).length then some ({ w with files := w.files.set d.p.toNat ((w.files.getD d.p.toNat []).eraseIdx (d.a % ((w.files.getD d.p.toNat []).length : Int)).toNat) }, [d.p]) else none
  | _ => none
def liedW2 (ps : List (Bool × Bool)) (w : W) (d : Deed) : Option W := (liedW ps w d).map fun x => { x.1 with liars := x.2.foldl addL x.1.liars }
theorem e_lied (kn : Int) {ps : List (Bool × Bool)} {m c : Nat} {w : W} (h : WOk ps.length m c w) (hc : c < 1000) {d : Deed} (hd : DOk ps.length m d) (hw : d.w = .pass ∨ d.w = .dump ∨ d.w = .conj ∨ d.w = .sign ∨ d.w = .write ∨ d.w = .omit) :
    m__law_lied [worldD kn ps w, .str (wdS d.w), .int d.p, .int d.o, .int d.k, .int d.a, .bool d.s] = outW kn ps w (liedW2 ps w d) := by
  obtain ⟨f, hf, mf⟩ := fAt (fs := w.files) hd.p0 (by rw [h.fl]; exact hd.p1)
  obtain ⟨r, hr⟩ := h.st.at hd.p0 hd.p1 hd.k0 hd.k1
  have c1 := h.fc f mf
  have hp := fun s t => at_parties (s := s) (t := t) hd.p0 hd.p1
  have l1 : f.length < 16777216 := by omega
  have l1' : f.length ≤ 16777216 := by omega
  have l2 : w.events.length < 16777216 := by have := h.ev; omega
  have hli := h.li
  obtain ⟨dw, dp, do_, dk, da, ds⟩ := d
  simp only at hw hf hr hp
  have hfd : w.files[dp.toNat]?.getD [] = f := by rw [hf.gp]; rfl
  rcases hw with rfl | rfl | rfl | rfl | rfl | rfl
  · by_cases q : dp = do_
    · subst q
      simp [m__law_lied, b__law_lied, x_ali, liedW2, liedW, outW, worldD, worldX, wdS, sizeLine]
    · by_cases q2 : da ≤ valS w.stock dp dk
      · obtain ⟨r2, hr2⟩ := (h.st.upd (k := dk) (v := valS w.stock dp dk - da) hd.p0 hd.p1).at hd.o0 hd.o1 hd.k0 hd.k1
        have e1 := row_setI (v := valS w.stock dp dk - da) hr
        have e2 := row_setI (v := valS (updS w.stock dp dk (valS w.stock dp dk - da)) do_ dk + da) hr2
        simp only at e1 e2 hr2
        have el := fun (st S I : D) => e_liars kn ps st S I [dp, do_] { w with events := w.events ++ [.passed dp do_ dk da] } (by simp; omega)
        simp [worldX, enc] at el
        simp [m__law_lied, b__law_lied, f__law_lied_0, x_ali, liedW2, liedW, outW, worldD, worldX, wdS, q, q2, hr.ap, hr.ip, hr.gp, hr.ik, hr.ak, rowD, hr2.ap, hr2.ip, hr2.gp, hr2.ik, hr2.ak, e1, e2, enc, l2, el, sizeLine]
      · simp [m__law_lied, b__law_lied, x_ali, liedW2, liedW, outW, worldD, worldX, wdS, q, q2, hr.ap, hr.ip, hr.gp, hr.ik, hr.ak, rowD, sizeLine]
  · by_cases q2 : da ≤ valS w.stock dp dk
    · have e1 := row_setI (v := valS w.stock dp dk - da) hr
      have el := fun (st S I : D) => e_liars kn ps st S I [dp] { w with events := w.events ++ [.gone true dp dk da] } (by simp; omega)
      simp [worldX, enc] at el
      simp [m__law_lied, b__law_lied, f__law_lied_0, x_ali, liedW2, liedW, outW, worldD, worldX, wdS, q2, hr.ap, hr.ip, hr.gp, hr.ik, hr.ak, rowD, e1, enc, l2, el, sizeLine]
    · simp [m__law_lied, b__law_lied, x_ali, liedW2, liedW, outW, worldD, worldX, wdS, q2, hr.ap, hr.ip, hr.gp, hr.ik, hr.ak, rowD, sizeLine]
  · cases q : (pOf ps dp).1 with
    | true =>
      have e1 := row_setI (v := valS w.stock dp dk + da) hr
      have el := fun (st S I : D) => e_liars kn ps st S I [dp] { w with events := w.events ++ [.gone false dp dk da] } (by simp; omega)
      simp [worldX, enc] at el
      simp [m__law_lied, b__law_lied, f__law_lied_0, x_ali, liedW2, liedW, outW, worldD, worldX, wdS, q, hp, hr.ap, hr.ip, hr.gp, hr.ik, hr.ak, rowD, e1, enc, l2, el, sizeLine]
    | false => simp [m__law_lied, b__law_lied, x_ali, liedW2, liedW, outW, worldD, worldX, wdS, q, hp, sizeLine]
  · by_cases q : dp = do_
    · subst q
      simp [m__law_lied, b__law_lied, x_ali, liedW2, liedW, outW, worldD, worldX, wdS, sizeLine]
    · have en := fun a => e_noted kn ps (ptrD a) h hc hd.p0 hd.p1 hd.o0 hd.o1 q dk da ds
      have el := fun (st S I : D) => e_liars kn ps st S I [dp, do_] (notedW w dp do_ dk da ds) (by simp [notedW]; omega)
      simp [worldX] at en el
      simp [m__law_lied, b__law_lied, f__law_lied_0, x_ali, liedW2, liedW, outW, worldD, worldX, wdS, q, en, el, sizeLine]
      simp [notedW]
  · by_cases q : dp = do_
    · subst q
      have e1 := file_addP hf (w.last + 1) (!ds) dk da
      have el := fun (st S I : D) => e_liars kn ps st S I [dp] { w with last := w.last + 1, files := addE w.files dp (.pl (w.last + 1) (!ds) dk da) } (by simp; omega)
      simp [worldX] at el
      cases ds <;> simp at e1 el <;> simp [m__law_lied, b__law_lied, f__law_lied_0, x_ali, liedW2, liedW, outW, worldD, worldX, wdS, hf.ip, hf.gp, fileL, l1, e1, el, sizeLine]
    · have e1 := file_addC hf (w.last + 1) (!ds) dk da do_ false
      have el := fun (st S I : D) => e_liars kn ps st S I [dp] { w with last := w.last + 1, files := addE w.files dp (.cp (w.last + 1) (!ds) dk da do_ false) } (by simp; omega)
      simp [worldX] at el
      cases ds <;> simp at e1 el <;> simp [m__law_lied, b__law_lied, f__law_lied_0, x_ali, liedW2, liedW, outW, worldD, worldX, wdS, q, hf.ip, hf.gp, fileL, l1, e1, el, sizeLine]
  · by_cases q : 0 < f.length
    · have q0 : (0 : Int) < f.length := by omega
      have i0 := Int.emod_nonneg da (Int.ne_of_gt q0)
      have i1 := Int.emod_lt_of_pos da q0
      have ix := ixN_some i0 i1
      have e1 : (w.files.map fileL).set dp.toNat (.list ((f.map encE).eraseIdx (da % (f.length : Int)).toNat)) = (w.files.set dp.toNat (f.eraseIdx (da % (f.length : Int)).toNat)).map fileL := by
        rw [List.map_set, fileL, map_erase]
      have el := fun (st S I : D) => e_liars kn ps st S I [dp] { w with files := w.files.set dp.toNat (f.eraseIdx (da % (f.length : Int)).toNat) } (by simp; omega)
      simp only [worldX, ← e1, List.map_cons, List.map_nil, List.foldl_cons, List.foldl_nil] at el
      simp [m__law_lied, b__law_lied, f__law_lied_0, x_ali, liedW2, liedW, outW, worldD, worldX, wdS, hf.ap, hf.ip, hf.gp, hfd, fileL, l1, l1', q, q0, ix, el, sizeLine]
      rw [map_erase]
    · have q0 : ¬ (0 : Int) < f.length := by omega
      have q1 : f = [] := by cases f with
        | nil => rfl
        | cons _ _ => simp at q
      simp [m__law_lied, b__law_lied, x_ali, liedW2, liedW, outW, worldD, worldX, wdS, hf.ap, hf.ip, hf.gp, hfd, fileL, q1, sizeLine]
end Law

namespace Law
open PySem Oz L2
variable [Oz.WD]
def didW (ps : List (Bool × Bool)) (w : W) (d : Deed) : Option W := match d.w with
  | .make => honestW ps w d
  | .treat => honestW ps w d
  | .hand => honestW ps w d
  | .inspect => honestW ps w d
  | _ => liedW2 ps w d
theorem e_did (kn : Int) {ps : List (Bool × Bool)} {m c : Nat} {w : W} (h : WOk ps.length m c w) (hc : c < 1000) {d : Deed} (hd : DOk ps.length m d) :
    m__law_did [worldD kn ps w, deedD d] = outW kn ps w (didW ps w d) := by
  have e1 := fun hw => e_honest kn h hc hd hw
  have e2 := fun hw => e_lied kn h hc hd hw
  obtain ⟨dw, dp, do_, dk, da, ds⟩ := d
  cases dw <;> simp [wdS] at e1 e2 <;> simp [m__law_did, b__law_did, deedD, didW, wdS, e1, e2, sizeLine] <;> (first | (cases honestW ps w _ <;> (simp [outW]; done)) | (cases liedW2 ps w _ <;> (simp [outW]; done)))
/-! ### what stays -/
theorem addE_len {fs : List (List Ent)} {p : Int} {e : Ent} : (addE fs p e).length = fs.length := by simp [addE]
theorem addE_le {fs : List (List Ent)} {p : Int} {e : Ent} {c : Nat} (h : ∀ f ∈ fs, f.length ≤ c) : ∀ f ∈ addE fs p e, f.length ≤ c + 1 := by
  intro f hf
  rcases List.mem_or_eq_of_mem_set hf with z | z
  · have := h f z; omega
  · rw [z, List.length_append, List.length_singleton, List.getD_eq_getElem?_getD]
    cases q : fs[p.toNat]? with
    | none => simp
    | some g =>
      have := h g (List.mem_of_getElem? q)
      simp; omega
theorem liars_le {L : List Int} : ∀ {ls : List Int}, (L.foldl addL ls).length ≤ ls.length + L.length := by
  induction L with
  | nil => intro ls; simp
  | cons x L ih =>
    intro ls
    have h1 := ih (ls := addL ls x)
    have h2 := addL_len (ls := ls) (x := x)
    simp only [List.foldl_cons, List.length_cons]
    omega
theorem WOk.le {n m c c' : Nat} {w : W} (h : WOk n m c w) (hc : c ≤ c') : WOk n m c' w := ⟨h.st, h.fl, fun f hf => Nat.le_trans (h.fc f hf) hc, Nat.le_trans h.fi hc, Nat.le_trans h.ev hc, Nat.le_trans h.li hc⟩
theorem noted_ok {n m c : Nat} {w : W} (h : WOk n m c w) {g t k a : Int} {s : Bool} : WOk n m (c + 2) (notedW w g t k a s) :=
  ⟨h.st, by simp [notedW, addE_len, h.fl], fun f hf => addE_le (addE_le h.fc) f hf, by have := h.fi; simp [notedW]; omega, by have := h.ev; simp [notedW]; omega, by have := h.li; simp [notedW]; omega⟩
theorem did_ok {ps : List (Bool × Bool)} {m c : Nat} {w w' : W} (h : WOk ps.length m c w) {d : Deed} (hd : DOk ps.length m d) (e : didW ps w d = some w') : WOk ps.length m (c + 2) w' := by
  have h2 := h.le (c' := c + 2) (by omega)
  have hfi := h.fi
  have hev := h.ev
  have hli := h.li
  have le1 : ∀ {p : Int} {e : Ent}, ∀ f ∈ addE w.files p e, f.length ≤ c + 2 := fun f hf => by have := addE_le h.fc f hf; omega
  obtain ⟨dw, dp, do_, dk, da, ds⟩ := d
  have u1 : ∀ v, SOk ps.length m (updS w.stock dp dk v) := fun v => h.st.upd hd.p0 hd.p1
  have u2 : ∀ v v', SOk ps.length m (updS (updS w.stock dp dk v) do_ dk v') := fun v v' => (u1 v).upd hd.o0 hd.o1
  cases dw
  · simp only [didW, honestW] at e
    split at e
    · cases e; exact ⟨u1 _, by simp [addE_len, h.fl], le1, h2.fi, by simp; omega, h2.li⟩
    · cases e
  · simp only [didW, honestW] at e
    split at e
    · cases e; exact ⟨u1 _, by simp [addE_len, h.fl], le1, h2.fi, by simp; omega, h2.li⟩
    · cases e
  · simp only [didW, honestW] at e
    split at e
    · cases e
      have q := noted_ok h (g := dp) (t := do_) (k := dk) (a := da) (s := ds)
      exact ⟨u2 _ _, q.fl, q.fc, q.fi, by simp; omega, q.li⟩
    · cases e
  · simp only [didW, honestW] at e
    cases e
    exact ⟨h2.st, h2.fl, h2.fc, by simp; omega, by simp; omega, h2.li⟩
  · simp only [didW, liedW2, liedW] at e
    split at e
    · cases e; exact ⟨u2 _ _, h2.fl, h2.fc, h2.fi, by simp; omega, Nat.le_trans liars_le (by simp; omega)⟩
    · cases e
  · simp only [didW, liedW2, liedW] at e
    split at e
    · cases e; exact ⟨u1 _, h2.fl, h2.fc, h2.fi, by simp; omega, Nat.le_trans liars_le (by simp; omega)⟩
    · cases e
  · simp only [didW, liedW2, liedW] at e
    split at e
    · cases e; exact ⟨u1 _, h2.fl, h2.fc, h2.fi, by simp; omega, Nat.le_trans liars_le (by simp; omega)⟩
    · cases e
  · simp only [didW, liedW2, liedW] at e
    split at e
    · cases e
      have q := noted_ok h (g := dp) (t := do_) (k := dk) (a := da) (s := ds)
      exact ⟨q.st, q.fl, q.fc, q.fi, q.ev, Nat.le_trans liars_le (by simp [notedW]; omega)⟩
    · cases e
  · simp only [didW, liedW2, liedW] at e
    cases e
    exact ⟨h2.st, by simp [addE_len, h.fl], le1, h2.fi, h2.ev, Nat.le_trans liars_le (by simp; omega)⟩
  · simp only [didW, liedW2, liedW] at e
    split at e
    · cases e
      refine ⟨h2.st, by simp [h.fl], fun f hf => ?_, h2.fi, h2.ev, Nat.le_trans liars_le (by simp; omega)⟩
      rcases List.mem_or_eq_of_mem_set hf with z | z
      · exact h2.fc f z
      · rw [z]
        refine Nat.le_trans (List.length_eraseIdx_le _ _) ?_
        rw [List.getD_eq_getElem?_getD]
        cases q : w.files[dp.toNat]? with
        | none => simp
        | some g =>
          have := h2.fc g (List.mem_of_getElem? q)
          simpa using this
    · cases e
end Law

namespace Law
open PySem Oz L2
variable [Oz.WD]
theorem words7 (l : Bool) (d : Int) : ∃ wd : Wd, atI (if l then [PyData.str (Str.ofString "pass"), .str (Str.ofString "dump"), .str (Str.ofString "conjure"), .str (Str.ofString "sign"), .str (Str.ofString "write"), .str (Str.ofString "omit"), .str (Str.ofString "pass")] else [PyData.str (Str.ofString "make"), .str (Str.ofString "make"), .str (Str.ofString "hand"), .str (Str.ofString "hand"), .str (Str.ofString "hand"), .str (Str.ofString "treat"), .str (Str.ofString "inspect")]) (d % 7) = some (.str (wdS wd)) ∧
    (l = false → wd = .make ∨ wd = .treat ∨ wd = .hand ∨ wd = .inspect) := by
  have hf : d % 7 = 0 ∨ d % 7 = 1 ∨ d % 7 = 2 ∨ d % 7 = 3 ∨ d % 7 = 4 ∨ d % 7 = 5 ∨ d % 7 = 6 := by omega
  cases l
  · rcases hf with h | h | h | h | h | h | h <;> rw [h]
    · exact ⟨.make, rfl, by simp⟩
    · exact ⟨.make, rfl, by simp⟩
    · exact ⟨.hand, rfl, by simp⟩
    · exact ⟨.hand, rfl, by simp⟩
    · exact ⟨.hand, rfl, by simp⟩
    · exact ⟨.treat, rfl, by simp⟩
    · exact ⟨.inspect, rfl, by simp⟩
  · rcases hf with h | h | h | h | h | h | h <;> rw [h]
    · exact ⟨.pass, rfl, by simp⟩
    · exact ⟨.dump, rfl, by simp⟩
    · exact ⟨.conj, rfl, by simp⟩
    · exact ⟨.sign, rfl, by simp⟩
    · exact ⟨.write, rfl, by simp⟩
    · exact ⟨.omit, rfl, by simp⟩
    · exact ⟨.pass, rfl, by simp⟩
def isQ (wd : Wd) : Bool := decide (wd = .hand) || decide (wd = .treat) || decide (wd = .pass) || decide (wd = .dump)
theorem e_deed (cell : Int) {ps : List (Bool × Bool)} {m c : Nat} {w : W} (h : WOk ps.length m c w) (hm : 0 < m) (hn : 0 < ps.length) (lying : Int) :
    ∃ d, m__law_deed [.int cell, worldD m ps w, .int lying] = .ok ⟨.imm, deedD d⟩ [] ∧ DOk ps.length m d ∧ (lying ≤ 0 → d.w = .make ∨ d.w = .treat ∨ d.w = .hand ∨ d.w = .inspect) := by
  obtain ⟨ds, hd0, hdl, hdn, hdb⟩ := e_draws cell 8 (by decide)
  have hd : m__law_draws [.int cell, .int 8] = _ := hd0
  have g0 := dr_get (ds := ds) (i := 0) (by omega)
  have g1 := dr_get (ds := ds) (i := 1) (by omega)
  have g2 := dr_get (ds := ds) (i := 2) (by omega)
  have g3 := dr_get (ds := ds) (i := 3) (by omega)
  have g4 := dr_get (ds := ds) (i := 4) (by omega)
  have g5 := dr_get (ds := ds) (i := 5) (by omega)
  have g6 := dr_get (ds := ds) (i := 6) (by omega)
  have g7 := dr_get (ds := ds) (i := 7) (by omega)
  have n0 : (0 : Int) < ps.length := by omega
  have m0 : (0 : Int) < m := by omega
  have p0 := Int.emod_nonneg (dr ds 2) (Int.ne_of_gt n0)
  have p1 := Int.emod_lt_of_pos (dr ds 2) n0
  have o0 := Int.emod_nonneg (dr ds 3) (Int.ne_of_gt n0)
  have o1 := Int.emod_lt_of_pos (dr ds 3) n0
  have k0 := Int.emod_nonneg (dr ds 4) (Int.ne_of_gt m0)
  have k1 := Int.emod_lt_of_pos (dr ds 4) m0
  obtain ⟨r, hr⟩ := h.st.at p0 p1 k0 k1
  have hrow : atI (w.stock.map rowD) (dr ds 2 % ps.length) = some (rowD r) := by rw [atI_map, hr.ap]; rfl
  have hz := (words7 (decide (dr ds 0 % 10 < lying)) (dr ds 1))
  obtain ⟨wd, hwd, hon⟩ := hz
  have big : ∀ a : Int, 0 < a → a ≤ 1000003 → DOk ps.length m ⟨wd, dr ds 2 % ps.length, dr ds 3 % ps.length, dr ds 4 % m, a, dr ds 7 % 2 == 0⟩ := fun a ha hb => ⟨p0, p1, o0, o1, k0, k1, ha, hb⟩
  have hon2 : lying ≤ 0 → wd = .make ∨ wd = .treat ∨ wd = .hand ∨ wd = .inspect := fun hl => hon (by
    have := Int.emod_nonneg (dr ds 0) (by decide : (10 : Int) ≠ 0)
    simp; omega)
  have hq : fIn (.str (wdS wd)) (.tuple [.str (Str.ofString "hand"), .str (Str.ofString "treat"), .str (Str.ofString "pass"), .str (Str.ofString "dump")]) = some (isQ wd) := by
    cases wd <;> simp [wdS, isQ]
  have fin : ∀ a : Int, 0 < a → (isQ wd = true ∧ 0 < valS w.stock (dr ds 2 % ps.length) (dr ds 4 % m) ∧ 0 < dr ds 6 % 5 → a = 1 + dr ds 5 % valS w.stock (dr ds 2 % ps.length) (dr ds 4 % m)) → (¬ (isQ wd = true ∧ 0 < valS w.stock (dr ds 2 % ps.length) (dr ds 4 % m) ∧ 0 < dr ds 6 % 5) → a = 1 + dr ds 5 % 60) →
      m__law_deed [.int cell, worldD m ps w, .int lying] = .ok ⟨.imm, deedD ⟨wd, dr ds 2 % ps.length, dr ds 3 % ps.length, dr ds 4 % m, a, dr ds 7 % 2 == 0⟩⟩ [] := by
    intro a ha h1 h2
    have go : ∀ L : List D, atI L (dr ds 1 % 7) = some (.str (wdS wd)) → True := fun _ _ => trivial
    cases q : isQ wd with
    | false =>
      have := h2 (by simp [q])
      subst this
      by_cases cl : dr ds 0 % 10 < lying <;> simp [cl] at hwd <;>
        simp [m__law_deed, b__law_deed, worldD, worldX, hd, g0, g1, g2, g3, g4, g5, g6, g7, n0, m0, cl, hwd, hr.ap, hr.ak, rowD, deedD, hn, hm, hq, q, sizeLine]
    | true =>
      by_cases c1 : (0 : Int) < valS w.stock (dr ds 2 % ps.length) (dr ds 4 % m)
      · by_cases c2 : (0 : Int) < dr ds 6 % 5
        · have := h1 ⟨q, c1, c2⟩
          subst this
          by_cases cl : dr ds 0 % 10 < lying <;> simp [cl] at hwd <;>
            simp [m__law_deed, b__law_deed, worldD, worldX, hd, g0, g1, g2, g3, g4, g5, g6, g7, n0, m0, cl, hwd, hr.ap, hr.ak, rowD, deedD, hn, hm, hq, q, c1, c2, sizeLine]
        · have := h2 (by simp [c2])
          subst this
          by_cases cl : dr ds 0 % 10 < lying <;> simp [cl] at hwd <;>
            simp [m__law_deed, b__law_deed, worldD, worldX, hd, g0, g1, g2, g3, g4, g5, g6, g7, n0, m0, cl, hwd, hr.ap, hr.ak, rowD, deedD, hn, hm, hq, q, c1, c2, sizeLine]
      · have := h2 (by simp [c1])
        subst this
        by_cases cl : dr ds 0 % 10 < lying <;> simp [cl] at hwd <;>
          simp [m__law_deed, b__law_deed, worldD, worldX, hd, g0, g1, g2, g3, g4, g5, g6, g7, n0, m0, cl, hwd, hr.ap, hr.ak, rowD, deedD, hn, hm, hq, q, c1, sizeLine]
  by_cases c : isQ wd = true ∧ 0 < valS w.stock (dr ds 2 % ps.length) (dr ds 4 % m) ∧ 0 < dr ds 6 % 5
  · have := Int.emod_nonneg (dr ds 5) (Int.ne_of_gt c.2.1)
    have b5 := dr_lt hdb 5
    have le5 : dr ds 5 % valS w.stock (dr ds 2 % ps.length) (dr ds 4 % m) ≤ dr ds 5 := by
      by_cases z : dr ds 5 < valS w.stock (dr ds 2 % ps.length) (dr ds 4 % m)
      · rw [Int.emod_eq_of_lt (dr_nn hdn 5) z]; exact Int.le_refl _
      · have := Int.emod_lt_of_pos (dr ds 5) c.2.1
        omega
    exact ⟨_, fin _ (by omega) (fun _ => rfl) (fun z => absurd c z), big _ (by omega) (by omega), hon2⟩
  · exact ⟨_, fin (1 + dr ds 5 % 60) (by omega) (fun z => absurd z c) (fun _ => rfl), big _ (by omega) (by omega), hon2⟩
end Law

namespace Law
open PySem Oz L2
variable [Oz.WD]
/-! ### the trail -/
def W0 (n m : Nat) : W := ⟨0, List.replicate n (List.replicate m 0), List.replicate n [], [], [], []⟩
def isHon (d : Deed) : Prop := d.w = .make ∨ d.w = .treat ∨ d.w = .hand ∨ d.w = .inspect
inductive Trail (ps : List (Bool × Bool)) (m : Nat) (lying : Int) : Nat → W → Prop
  | nil : Trail ps m lying 0 (W0 ps.length m)
  | step {c : Nat} {w : W} {d : Deed} : Trail ps m lying c w → DOk ps.length m d → (lying ≤ 0 → isHon d) → Trail ps m lying (c + 1) ((didW ps w d).getD w)
theorem W0_ok (n m : Nat) : WOk n m 0 (W0 n m) :=
  ⟨⟨by simp [W0], fun r hr => by rw [List.eq_of_mem_replicate hr]; simp⟩, by simp [W0], fun f hf => by rw [List.eq_of_mem_replicate hf]; simp, by simp [W0], by simp [W0], by simp [W0]⟩
theorem Trail.ok {ps : List (Bool × Bool)} {m : Nat} {lying : Int} {c : Nat} {w : W} (h : Trail ps m lying c w) : WOk ps.length m (2 * c) w := by
  induction h with
  | nil => exact W0_ok _ _
  | @step c w d t hd hon ih =>
    cases e : didW ps w d with
    | none => exact ih.le (by omega)
    | some w' =>
      have := did_ok ih hd e
      exact this.le (by omega)
theorem e_begun (m : Nat) (ps : List (Bool × Bool)) (hm : m < 100) (hp : ps.length < 100) : m__law_begun [.int m, partiesD ps] = .ok ⟨.own, worldD m ps (W0 ps.length m)⟩ [] := by
  have hr : inR (m : Int) = true := inR_of (by omega) (by omega)
  have hs : sizeLine = 16777216 := rfl
  have hrow : ∀ (A B C D4 E4 : Option R), compE (cN 5) tYesD c__law_begun_0 [A, B, C, D4, E4, none] (irng 0 m) = some ((List.range m).map fun _ => (⟨.imm, .int 0⟩ : R)) := fun A B C D4 E4 => by
    rw [irng_map]
    exact comp_map1 fun k _ => ⟨[A, B, C, D4, E4, some ⟨.imm, .int (0 + k)⟩], by simp, by simp [c__law_begun_0]⟩
  have hcr : compR ((List.range m).map fun _ => (⟨.imm, .int 0⟩ : R)) = .ok ⟨.own, rowD (List.replicate m 0)⟩ := by
    rw [compR_own (e := fun _ => .int 0) (by simp; omega) fun _ _ => rfl]
    simp [rowD, List.map_const']
  have hout : compE (cN 4) tYesD c__law_begun_1 [some ⟨.imm, .int m⟩, some ⟨.imm, partiesD ps⟩, none, none, none, none] (ps.map fun p => (⟨.imm, .tuple [.bool p.1, .bool p.2]⟩ : R)) = some (ps.map fun _ => (⟨.own, rowD (List.replicate m 0)⟩ : R)) := by
    refine comp_map1 fun p _ => ⟨[some ⟨.imm, .int m⟩, some ⟨.imm, partiesD ps⟩, none, none, some ⟨.imm, .tuple [.bool p.1, .bool p.2]⟩, none], by simp, ?_⟩
    simp [c__law_begun_1, q__law_begun_0, hr, hrow, hcr]
  have hcr2 : compR (ps.map fun _ => (⟨.own, rowD (List.replicate m 0)⟩ : R)) = .ok ⟨.own, .list ((List.replicate ps.length (List.replicate m (0 : Int))).map rowD)⟩ := by
    rw [compR_own (e := fun _ => rowD (List.replicate m 0)) (by omega) fun _ _ => rfl]
    simp [List.map_const']
  have hfl : ∀ (S : Option R), compE (cN 4) tYesD c__law_begun_2 [some ⟨.imm, .int m⟩, some ⟨.imm, partiesD ps⟩, S, none, none, none] (ps.map fun p => (⟨.imm, .tuple [.bool p.1, .bool p.2]⟩ : R)) = some (ps.map fun _ => (⟨.own, fileL []⟩ : R)) := fun S => by
    refine comp_map1 fun p _ => ⟨[some ⟨.imm, .int m⟩, some ⟨.imm, partiesD ps⟩, S, none, some ⟨.imm, .tuple [.bool p.1, .bool p.2]⟩, none], by simp, ?_⟩
    simp [c__law_begun_2, fileL, sizeLine]
  have hcr3 : compR (ps.map fun _ => (⟨.own, fileL []⟩ : R)) = .ok ⟨.own, .list ((List.replicate ps.length ([] : List Ent)).map fileL)⟩ := by
    rw [compR_own (e := fun _ => fileL []) (by omega) fun _ _ => rfl]
    simp [List.map_const']
  rw [List.map_const'] at hcr2 hcr3
  simp [m__law_begun, b__law_begun, q__law_begun_1, q__law_begun_2, hout, hcr2, hfl, hcr3, List.map_const', worldD, worldX, W0, wEs, sizeLine]
/-! ### the evidence -/
def fileT (f : List Ent) : D := .tuple (f.map encE)
@[simp] theorem lf_fileT {f : List Ent} : lf (fileT f) = true := by show Oz.lfs _ = true; rw [lfs_all]; simp
structure Evi where
  kinds : Nat
  parties : List (Bool × Bool)
  files : List (List Ent)
  finds : List Fd
def eviD (e : Evi) : D := .tuple [.int e.kinds, partiesD e.parties, .tuple (e.files.map fileT), .tuple (e.finds.map encF)]
@[simp] theorem lfs_files {fs : List (List Ent)} : Oz.lfs (fs.map fileT) = true := by rw [lfs_all]; simp
@[simp] theorem lfs_finds {fs : List Fd} : Oz.lfs (fs.map encF) = true := by rw [lfs_all]; simp
@[simp] theorem lfs_ents {fs : List Ent} : Oz.lfs (fs.map encE) = true := by rw [lfs_all]; simp
@[simp] theorem lf_eviD {e : Evi} : lf (eviD e) = true := by simp [eviD]
theorem e_evidence (m : Nat) {ps : List (Bool × Bool)} {n mm c : Nat} {w : W} (h : WOk n mm c w) (hn : n < 100) (hc : c < 1000) :
    m__law_evidence [worldD m ps w] = .ok ⟨.imm, eviD ⟨m, ps, w.files, w.finds⟩⟩ [] := by
  have hs : sizeLine = 16777216 := rfl
  have hf : compE (cN 2) tYesD c__law_evidence_0 [some ⟨.out, worldD m ps w⟩, none, none] (w.files.map fun f => (⟨.out, fileL f⟩ : R)) = some (w.files.map fun f => (⟨.imm, fileT f⟩ : R)) := by
    refine comp_map1 fun f _ => ⟨[some ⟨.out, worldD m ps w⟩, none, some ⟨.out, fileL f⟩], by simp, ?_⟩
    simp [c__law_evidence_0, fileL, fileT]
  have hcr : compR (w.files.map fun f => (⟨.imm, fileT f⟩ : R)) = .ok ⟨.own, .list (w.files.map fileT)⟩ := by
    rw [compR_own (e := fileT) (by rw [h.fl]; omega) fun _ _ => by simp]
  simp only [worldD, worldX] at hf
  simp [m__law_evidence, b__law_evidence, q__law_evidence_0, worldD, worldX, Function.comp_def, hf, hcr, eviD, sizeLine]
end Law

namespace Law
open PySem Oz L2
variable [Oz.WD]
/-! ### entries -/
def isCp : Ent → Bool
  | .cp .. => true
  | .pl .. => false
def numE : Ent → Int
  | .pl n _ _ _ => n
  | .cp n _ _ _ _ _ => n
def kE : Ent → Int
  | .pl _ _ k _ => k
  | .cp _ _ k _ _ _ => k
def aE : Ent → Int
  | .pl _ _ _ a => a
  | .cp _ _ _ a _ _ => a
def oE : Ent → Int
  | .pl _ _ _ _ => -1
  | .cp _ _ _ _ o _ => o
def other (p : Int) : Ent → Ent
  | .pl n w k a => .pl n w k a
  | .cp n g k a _ s => .cp n (!g) k a p s
def wordE : Ent → Str
  | .pl _ w _ _ => if w then "made" else "treated"
  | .cp _ g _ _ _ _ => if g then "gave" else "took"
section
variable {e : Ent} {s t : Sx}
@[simp] theorem ent_len : fLen (encE e) = some (.int (if isCp e then 6 else 4)) := by cases e <;> rfl
@[simp] theorem ent_0 : ixR ⟨s, encE e⟩ ⟨t, .int 0⟩ = .ok ⟨.imm, .int (numE e)⟩ := by cases e <;> simp [encE, numE]
@[simp] theorem ent_1 : ixR ⟨s, encE e⟩ ⟨t, .int 1⟩ = .ok ⟨.imm, .str (wordE e)⟩ := by cases e <;> simp [encE, wordE]
@[simp] theorem ent_2 : ixR ⟨s, encE e⟩ ⟨t, .int 2⟩ = .ok ⟨.imm, .int (kE e)⟩ := by cases e <;> simp [encE, kE]
@[simp] theorem ent_3 : ixR ⟨s, encE e⟩ ⟨t, .int 3⟩ = .ok ⟨.imm, .int (aE e)⟩ := by cases e <;> simp [encE, aE]
end
theorem sh_ent {e : Ent} : Sh 1 (encE e) := by
  cases e with
  | pl n w k m => cases w <;> exact .tup (fun d hd => by simp at hd; rcases hd with rfl | rfl | rfl | rfl <;> first | exact .int | exact .lit)
  | cp n g k m o s => cases g <;> exact .tup (fun d hd => by simp at hd; rcases hd with rfl | rfl | rfl | rfl | rfl | rfl <;> first | exact .int | exact .lit | exact .bool)
theorem sh_file {f : List Ent} : Sh 2 (fileT f) := .tup fun d hd => by
  obtain ⟨e, _, rfl⟩ := List.mem_map.mp hd
  exact sh_ent
@[simp] theorem src_file {s : Sx} {f : List Ent} : srcR ⟨s, fileT f⟩ = .ok (f.map fun e => (⟨.imm, encE e⟩ : R)) := by
  simp [fileT, Function.comp_def]
theorem ints_map {xs : List Int} : intsD (xs.map .int) = some xs := by
  induction xs with
  | nil => rfl
  | cons x xs ih => simp [intsD, ih]
@[simp] theorem sum_ints {xs : List Int} : fSum (.list (xs.map .int)) = some (.int xs.sum) := by
  simp [fSum, ints_map]
/-! ### evidence -/
@[simp] theorem evi_2 {e : Evi} {s t : Sx} : ixR ⟨s, eviD e⟩ ⟨t, .int 2⟩ = .ok ⟨.imm, .tuple (e.files.map fileT)⟩ := by simp [eviD]
def fileOf (e : Evi) (p : Int) : List Ent := e.files.getD p.toNat []
structure EOk (e : Evi) : Prop where
  len : e.files.length = e.parties.length
  n8 : e.parties.length ≤ 8
  sz : ∀ f ∈ e.files, f.length ≤ 1000
  oth : ∀ f ∈ e.files, ∀ x ∈ f, isCp x = true → 0 ≤ oE x ∧ oE x < e.parties.length
theorem EOk.at {e : Evi} (h : EOk e) {p : Int} (h0 : 0 ≤ p) (h1 : p < e.parties.length) : atI e.files p = some (fileOf e p) := by
  have : p.toNat < e.files.length := by rw [h.len]; omega
  rw [atI_some h0 (by rw [h.len]; exact h1)]
  simp [fileOf, this]
end Law

namespace Law
open PySem Oz L2
variable [Oz.WD]
/-! ### what holds of the files of a trail -/
structure FOk (n : Nat) (last : Int) (i : Nat) (f : List Ent) : Prop where
  asc : f.Pairwise fun a b => numE a < numE b
  le : ∀ x ∈ f, 1 ≤ numE x ∧ numE x ≤ last
  kk : ∀ x ∈ f, 1 ≤ aE x
  oth : ∀ x ∈ f, isCp x = true → (0 ≤ oE x ∧ oE x < n) ∧ oE x ≠ i
structure FInv (n : Nat) (last : Int) (fs : List (List Ent)) : Prop where
  len : fs.length = n
  l0 : 0 ≤ last
  ok : ∀ i f, fs[i]? = some f → FOk n last i f
theorem FOk.le_last {n : Nat} {last last' : Int} {i : Nat} {f : List Ent} (h : FOk n last i f) (hl : last ≤ last') : FOk n last' i f := ⟨h.asc, fun x hx => ⟨(h.le x hx).1, Int.le_trans (h.le x hx).2 hl⟩, h.kk, h.oth⟩
theorem FInv.last {n : Nat} {last last' : Int} {fs : List (List Ent)} (h : FInv n last fs) (hl : last ≤ last') : FInv n last' fs := ⟨h.len, Int.le_trans h.l0 hl, fun i f e => (h.ok i f e).le_last hl⟩
theorem get_set {fs : List (List Ent)} {p i : Nat} {g f : List Ent} (e : (fs.set p g)[i]? = some f) : (i = p ∧ f = g ∧ p < fs.length) ∨ (i ≠ p ∧ fs[i]? = some f) := by
  by_cases h : p = i
  · subst h
    by_cases hl : p < fs.length
    · rw [List.getElem?_set_self hl] at e
      exact .inl ⟨rfl, (Option.some.inj e).symm, hl⟩
    · rw [List.getElem?_eq_none (by simpa using hl)] at e
      cases e
  · rw [List.getElem?_set_ne h] at e
    exact .inr ⟨Ne.symm h, e⟩
theorem getD_some {fs : List (List Ent)} {p : Nat} (h : p < fs.length) : fs[p]? = some (fs.getD p []) := by simp [h]
theorem FInv.add {n : Nat} {last last' : Int} {fs : List (List Ent)} (h : FInv n last fs) {p : Int} (p0 : 0 ≤ p) {e : Ent} (hn : numE e = last') (hl : last < last') (hk : 1 ≤ aE e) (ho : isCp e = true → (0 ≤ oE e ∧ oE e < n) ∧ oE e ≠ p) : FInv n last' (addE fs p e) := by
  refine ⟨by rw [addE_len]; exact h.len, by have := h.l0; omega, fun i f q => ?_⟩
  rcases get_set q with ⟨rfl, rfl, hlt⟩ | ⟨_, q⟩
  · have ok := h.ok _ _ (getD_some hlt)
    refine ⟨?_, fun x hx => ?_, fun x hx => ?_, fun x hx hc => ?_⟩
    · rw [List.pairwise_append]
      refine ⟨ok.asc, by simp, fun a ha b hb => ?_⟩
      simp at hb
      subst hb
      have := (ok.le a ha).2
      omega
    · rcases List.mem_append.mp hx with z | z
      · have := ok.le x z; omega
      · simp at z; subst z; have := h.l0; omega
    · rcases List.mem_append.mp hx with z | z
      · exact ok.kk x z
      · simp at z; subst z; exact hk
    · rcases List.mem_append.mp hx with z | z
      · exact ok.oth x z hc
      · simp at z
        subst z
        refine ⟨(ho hc).1, ?_⟩
        have := (ho hc).2
        omega
  · exact (h.ok i f q).le_last (by omega)
theorem FInv.add2 {n : Nat} {last : Int} {fs : List (List Ent)} (h : FInv n last fs) {p o : Int} (p0 : 0 ≤ p) (o0 : 0 ≤ o) (ne : p ≠ o) {e e2 : Ent} (hn : numE e = last + 1) (hn2 : numE e2 = last + 1) (hk : 1 ≤ aE e) (hk2 : 1 ≤ aE e2) (ho : isCp e = true → (0 ≤ oE e ∧ oE e < n) ∧ oE e ≠ p) (ho2 : isCp e2 = true → (0 ≤ oE e2 ∧ oE e2 < n) ∧ oE e2 ≠ o) : FInv n (last + 1) (addE (addE fs p e) o e2) := by
  have h1 := h.add p0 hn (by omega) hk ho
  have h2 := h.add o0 hn2 (by omega) hk2 ho2
  refine ⟨by rw [addE_len, addE_len]; exact h.len, h1.l0, fun i f q => ?_⟩
  have no : p.toNat ≠ o.toNat := by omega
  rcases get_set q with ⟨rfl, rfl, hlt⟩ | ⟨_, q⟩
  · have e1 : (addE fs p e).getD o.toNat [] = fs.getD o.toNat [] := by
      simp only [addE, List.getD_eq_getElem?_getD]
      rw [List.getElem?_set_ne no]
    rw [e1]
    refine h2.ok _ _ ?_
    rw [addE, List.getElem?_set_self (by rw [addE_len] at hlt; exact hlt)]
  · exact h1.ok i f q
theorem FInv.erase {n : Nat} {last : Int} {fs : List (List Ent)} (h : FInv n last fs) {p k : Nat} : FInv n last (fs.set p ((fs.getD p []).eraseIdx k)) := by
  refine ⟨by simp [h.len], h.l0, fun i f q => ?_⟩
  rcases get_set q with ⟨rfl, rfl, hlt⟩ | ⟨_, q⟩
  · have ok := h.ok _ _ (getD_some hlt)
    have sb := List.eraseIdx_sublist (fs.getD i []) k
    exact ⟨ok.asc.sublist sb, fun x hx => ok.le x (sb.subset hx), fun x hx => ok.kk x (sb.subset hx), fun x hx => ok.oth x (sb.subset hx)⟩
  · exact h.ok i f q
theorem did_files {ps : List (Bool × Bool)} {m : Nat} {w w' : W} {d : Deed} (hd : DOk ps.length m d) (h : FInv ps.length w.last w.files) (e : didW ps w d = some w') : FInv ps.length w'.last w'.files ∧ w'.last ≤ w.last + 1 := by
  obtain ⟨dw, dp, do_, dk, da, ds⟩ := d
  have p0 := hd.p0
  have p1 := hd.p1
  have o0 := hd.o0
  have o1 := hd.o1
  have a0 := hd.a0
  simp only at p0 p1 o0 o1 a0
  cases dw
  · simp only [didW, honestW] at e
    split at e
    · cases e; exact ⟨h.add p0 rfl (by simp only; omega) (by simp [aE]; omega) (by simp [isCp]), Int.le_refl _⟩
    · cases e
  · simp only [didW, honestW] at e
    split at e
    · cases e; exact ⟨h.add p0 rfl (by simp only; omega) (by simp [aE]; omega) (by simp [isCp]), Int.le_refl _⟩
    · cases e
  · simp only [didW, honestW] at e
    split at e
    · rename_i c
      cases e; exact ⟨h.add2 p0 o0 c.1 rfl rfl (by simp [aE]; omega) (by simp [aE]; omega) (fun _ => ⟨⟨o0, o1⟩, Ne.symm c.1⟩) (fun _ => ⟨⟨p0, p1⟩, c.1⟩), Int.le_refl _⟩
    · cases e
  · simp only [didW, honestW] at e
    cases e
    exact ⟨h.last (by simp; omega), Int.le_refl _⟩
  · simp only [didW, liedW2, liedW] at e
    split at e
    · cases e; exact ⟨h, by simp; omega⟩
    · cases e
  · simp only [didW, liedW2, liedW] at e
    split at e
    · cases e; exact ⟨h, by simp; omega⟩
    · cases e
  · simp only [didW, liedW2, liedW] at e
    split at e
    · cases e; exact ⟨h, by simp; omega⟩
    · cases e
  · simp only [didW, liedW2, liedW] at e
    split at e
    · rename_i c
      cases e; exact ⟨h.add2 p0 o0 c rfl rfl (by simp [aE]; omega) (by simp [aE]; omega) (fun _ => ⟨⟨o0, o1⟩, Ne.symm c⟩) (fun _ => ⟨⟨p0, p1⟩, c⟩), Int.le_refl _⟩
    · cases e
  · simp only [didW, liedW2, liedW] at e
    cases e
    refine ⟨?_, Int.le_refl _⟩
    by_cases c : dp = do_
    · simp only [if_pos c]
      exact h.add p0 rfl (by omega) (by simp [aE]; omega) (by simp [isCp])
    · simp only [if_neg c]
      exact h.add p0 rfl (by omega) (by simp [aE]; omega) fun _ => ⟨⟨o0, o1⟩, Ne.symm c⟩
  · simp only [didW, liedW2, liedW] at e
    split at e
    · cases e; exact ⟨h.erase, by simp; omega⟩
    · cases e
theorem Trail.files {ps : List (Bool × Bool)} {m : Nat} {lying : Int} {c : Nat} {w : W} (h : Trail ps m lying c w) : FInv ps.length w.last w.files ∧ w.last ≤ c := by
  induction h with
  | nil => exact ⟨⟨by simp [W0], by simp [W0], fun i f e => by
      have := List.eq_of_mem_replicate (List.mem_of_getElem? e)
      subst this
      exact ⟨by simp, by simp, by simp, by simp⟩⟩, by simp [W0]⟩
  | @step c w d t hd hon ih =>
    cases e : didW ps w d with
    | none => exact ⟨ih.1, by have := ih.2; simp; omega⟩
    | some w' =>
      obtain ⟨q1, q2⟩ := did_files hd ih.1 e
      exact ⟨q1, by have := ih.2; simp; omega⟩
/-! ### honest deeds alone: every copy has its other copy -/
def Mir (fs : List (List Ent)) : Prop := ∀ (i : Nat) (f : List Ent), fs[i]? = some f → ∀ x ∈ f, isCp x = true → other (i : Int) x ∈ fs.getD (oE x).toNat []
theorem mem_add {fs : List (List Ent)} {p : Int} {e x : Ent} {i : Nat} (h : x ∈ fs.getD i []) : x ∈ (addE fs p e).getD i [] := by
  unfold addE
  by_cases c : p.toNat = i
  · subst c
    by_cases hl : p.toNat < fs.length
    · simp [hl] at h ⊢
      exact .inl h
    · rw [List.set_eq_of_length_le (by omega)]
      exact h
  · rw [List.getD_eq_getElem?_getD, List.getElem?_set_ne c, ← List.getD_eq_getElem?_getD]
    exact h
theorem Mir.plain {fs : List (List Ent)} (h : Mir fs) {p : Int} {e : Ent} (he : isCp e = false) : Mir (addE fs p e) := by
  intro i f q x hx hc
  rcases get_set q with ⟨rfl, rfl, hlt⟩ | ⟨_, q⟩
  · rcases List.mem_append.mp hx with z | z
    · exact mem_add (h _ _ (getD_some hlt) x z hc)
    · simp at z; subst z; rw [he] at hc; cases hc
  · exact mem_add (h _ _ q x hx hc)
end Law

namespace Law
open PySem Oz L2
variable [Oz.WD]
/-! ### the trail as an object -/
def tEs (k p st fl fi ev la li : D) : List (D × D) := [(.str (Str.ofString "kinds"), k), (.str (Str.ofString "parties"), p), (.str (Str.ofString "stocks"), st), (.str (Str.ofString "files"), fl), (.str (Str.ofString "finds"), fi), (.str (Str.ofString "events"), ev), (.str (Str.ofString "last"), la), (.str (Str.ofString "liars"), li)]
section
variable {k p st fl fi ev la li d : D}
@[simp] theorem t_len : (tEs k p st fl fi ev la li).length = 8 := rfl
@[simp] theorem tl_kinds : lkD (.inr (Str.ofString "kinds")) (tEs k p st fl fi ev la li) = some k := by simp [tEs]
@[simp] theorem tp_kinds : ptD (.inr (Str.ofString "kinds")) d (tEs k p st fl fi ev la li) = tEs d p st fl fi ev la li := by simp [tEs]
@[simp] theorem tl_parties : lkD (.inr (Str.ofString "parties")) (tEs k p st fl fi ev la li) = some p := by simp [tEs]
@[simp] theorem tp_parties : ptD (.inr (Str.ofString "parties")) d (tEs k p st fl fi ev la li) = tEs k d st fl fi ev la li := by simp [tEs]
@[simp] theorem tl_stocks : lkD (.inr (Str.ofString "stocks")) (tEs k p st fl fi ev la li) = some st := by simp [tEs]
@[simp] theorem tp_stocks : ptD (.inr (Str.ofString "stocks")) d (tEs k p st fl fi ev la li) = tEs k p d fl fi ev la li := by simp [tEs]
@[simp] theorem tl_files : lkD (.inr (Str.ofString "files")) (tEs k p st fl fi ev la li) = some fl := by simp [tEs]
@[simp] theorem tp_files : ptD (.inr (Str.ofString "files")) d (tEs k p st fl fi ev la li) = tEs k p st d fi ev la li := by simp [tEs]
@[simp] theorem tl_finds : lkD (.inr (Str.ofString "finds")) (tEs k p st fl fi ev la li) = some fi := by simp [tEs]
@[simp] theorem tp_finds : ptD (.inr (Str.ofString "finds")) d (tEs k p st fl fi ev la li) = tEs k p st fl d ev la li := by simp [tEs]
@[simp] theorem tl_events : lkD (.inr (Str.ofString "events")) (tEs k p st fl fi ev la li) = some ev := by simp [tEs]
@[simp] theorem tp_events : ptD (.inr (Str.ofString "events")) d (tEs k p st fl fi ev la li) = tEs k p st fl fi d la li := by simp [tEs]
@[simp] theorem tl_last : lkD (.inr (Str.ofString "last")) (tEs k p st fl fi ev la li) = some la := by simp [tEs]
@[simp] theorem tp_last : ptD (.inr (Str.ofString "last")) d (tEs k p st fl fi ev la li) = tEs k p st fl fi ev d li := by simp [tEs]
@[simp] theorem tl_liars : lkD (.inr (Str.ofString "liars")) (tEs k p st fl fi ev la li) = some li := by simp [tEs]
@[simp] theorem tp_liars : ptD (.inr (Str.ofString "liars")) d (tEs k p st fl fi ev la li) = tEs k p st fl fi ev la d := by simp [tEs]
@[simp] theorem tm_next_number : lkD (.inr (Str.ofString "next_number")) (tEs k p st fl fi ev la li) = none := by simp [tEs]
@[simp] theorem tm_check_stock : lkD (.inr (Str.ofString "check_stock")) (tEs k p st fl fi ev la li) = none := by simp [tEs]
@[simp] theorem tm_note : lkD (.inr (Str.ofString "note")) (tEs k p st fl fi ev la li) = none := by simp [tEs]
@[simp] theorem tm_move : lkD (.inr (Str.ofString "move")) (tEs k p st fl fi ev la li) = none := by simp [tEs]
@[simp] theorem tm_make : lkD (.inr (Str.ofString "make")) (tEs k p st fl fi ev la li) = none := by simp [tEs]
@[simp] theorem tm_treat : lkD (.inr (Str.ofString "treat")) (tEs k p st fl fi ev la li) = none := by simp [tEs]
@[simp] theorem tm_hand : lkD (.inr (Str.ofString "hand")) (tEs k p st fl fi ev la li) = none := by simp [tEs]
@[simp] theorem tm_inspect : lkD (.inr (Str.ofString "inspect")) (tEs k p st fl fi ev la li) = none := by simp [tEs]
@[simp] theorem tm_pass_on : lkD (.inr (Str.ofString "pass_on")) (tEs k p st fl fi ev la li) = none := by simp [tEs]
@[simp] theorem tm_dump : lkD (.inr (Str.ofString "dump")) (tEs k p st fl fi ev la li) = none := by simp [tEs]
@[simp] theorem tm_conjure : lkD (.inr (Str.ofString "conjure")) (tEs k p st fl fi ev la li) = none := by simp [tEs]
@[simp] theorem tm_sign : lkD (.inr (Str.ofString "sign")) (tEs k p st fl fi ev la li) = none := by simp [tEs]
@[simp] theorem tm_write : lkD (.inr (Str.ofString "write")) (tEs k p st fl fi ev la li) = none := by simp [tEs]
@[simp] theorem tm_omit : lkD (.inr (Str.ofString "omit")) (tEs k p st fl fi ev la li) = none := by simp [tEs]
@[simp] theorem tm_stock : lkD (.inr (Str.ofString "stock")) (tEs k p st fl fi ev la li) = none := by simp [tEs]
@[simp] theorem tm_dishonest : lkD (.inr (Str.ofString "dishonest")) (tEs k p st fl fi ev la li) = none := by simp [tEs]
@[simp] theorem tm_evidence : lkD (.inr (Str.ofString "evidence")) (tEs k p st fl fi ev la li) = none := by simp [tEs]
@[simp] theorem tm_history : lkD (.inr (Str.ofString "history")) (tEs k p st fl fi ev la li) = none := by simp [tEs]
@[simp] theorem tm_numbers : lkD (.inr (Str.ofString "numbers")) (tEs k p st fl fi ev la li) = none := by simp [tEs]
end
def trlX (kn : Int) (ps : List (Bool × Bool)) (S F G V L A : D) : D := objD (Str.ofString "Trail") (tEs (.int kn) (partiesD ps) S F G V L A)
def trlD (kn : Int) (ps : List (Bool × Bool)) (w : W) : D := trlX kn ps (.list (w.stock.map rowD)) (.list (w.files.map fileL)) (.list (w.finds.map encF)) (.list (w.events.map enc)) (.int w.last) (dI w.liars)
@[simp] theorem lf_trlX {kn : Int} {ps : List (Bool × Bool)} {S F G V L A : D} : lf (trlX kn ps S F G V L A) = false := id rfl
@[simp] theorem lf_trlD {kn : Int} {ps : List (Bool × Bool)} {w : W} : lf (trlD kn ps w) = false := id rfl
@[simp] theorem lf_dI {ns : List Int} : lf (dI ns) = false := id rfl
theorem addL_eq {ls : List Int} {x : Int} : addL ls x = addK ls x := by
  unfold addL addK
  by_cases c : x ∈ ls
  · rw [if_pos c, if_pos]
    rw [List.any_eq_true]
    exact ⟨x, c, by simp⟩
  · rw [if_neg c, if_neg]
    rw [List.any_eq_true]
    rintro ⟨y, hy, e⟩
    rw [beq_iff_eq] at e
    exact c (e ▸ hy)
variable {kn : Int} {ps : List (Bool × Bool)} {S F G V A : D}
theorem e_next (n : Int) : m_Trail_next_number [trlX kn ps S F G V (.int n) A] = .ok ⟨.imm, .int (n + 1)⟩ [trlX kn ps S F G V (.int (n + 1)) A] := by
  simp [m_Trail_next_number, b_Trail_next_number, trlX, sizeLine]
theorem e_check {L : D} {St : List (List Int)} {p k a : Int} {r : List Int} (hr : At St p k r) : m_Trail_check_stock [trlX kn ps (.list (St.map rowD)) F G V L A, .int p, .int k, .int a] = if a ≤ valS St p k then .ok ⟨.imm, .none⟩ [] else .exc "Refused" [("what", .str "not enough waste")] [] := by
  by_cases c : a ≤ valS St p k
  · have c2 : ¬ valS St p k < a := by omega
    simp [m_Trail_check_stock, b_Trail_check_stock, trlX, hr.ap, hr.ak, rowD, c, c2, sRse]
  · have c2 : valS St p k < a := by omega
    simp [m_Trail_check_stock, b_Trail_check_stock, trlX, hr.ap, hr.ak, rowD, c, c2, sRse]
theorem e_move {L : D} {n m : Nat} {St : List (List Int)} (h : SOk n m St) {p o k a : Int} (p0 : 0 ≤ p) (p1 : p < n) (o0 : 0 ≤ o) (o1 : o < n) (k0 : 0 ≤ k) (k1 : k < m) :
    m_Trail_move [trlX kn ps (.list (St.map rowD)) F G V L A, .int p, .int o, .int k, .int a] = .ok ⟨.imm, .none⟩ [trlX kn ps (.list ((updS (updS St p k (valS St p k - a)) o k (valS (updS St p k (valS St p k - a)) o k + a)).map rowD)) F G V L A] := by
  obtain ⟨r, hr⟩ := h.at p0 p1 k0 k1
  obtain ⟨r2, hr2⟩ := (h.upd (k := k) (v := valS St p k - a) p0 p1).at o0 o1 k0 k1
  have e1 := row_setI (v := valS St p k - a) hr
  have e2 := row_setI (v := valS (updS St p k (valS St p k - a)) o k + a) hr2
  have x1 : r[k.toNat]? = some (valS St p k) := by have := hr.ak; unfold atI at this; rw [hr.ik] at this; exact this
  have x2 : r2[k.toNat]? = some (valS (updS St p k (valS St p k - a)) o k) := by have := hr2.ak; unfold atI at this; rw [hr2.ik] at this; exact this
  simp [m_Trail_move, b_Trail_move, trlX, hr.ip, hr.gp, hr.ik, rowD, k0, x1, e1, hr2.ip, hr2.gp, hr2.ik, x2, e2]
theorem e_note {n : Nat} {fs : List (List Ent)} {c : Nat} (hl : fs.length = n) (hf : ∀ f ∈ fs, f.length ≤ c) (hc : c < 1000) {g t : Int} (g0 : 0 ≤ g) (g1 : g < n) (t0 : 0 ≤ t) (t1 : t < n) (ne : g ≠ t) (la k a : Int) (s : Bool) :
    m_Trail_note [trlX kn ps S (.list (fs.map fileL)) G V (.int la) A, .int g, .int t, .int k, .int a, .bool s] = .ok ⟨.imm, .int (la + 1)⟩ [trlX kn ps S (.list ((addE (addE fs g (.cp (la + 1) true k a t s)) t (.cp (la + 1) false k a g s)).map fileL)) G V (.int (la + 1)) A] := by
  obtain ⟨f, hf1, mf⟩ := fAt (fs := fs) g0 (by rw [hl]; exact g1)
  obtain ⟨f2, hf2, mf2⟩ := fAt (fs := fs) t0 (by rw [hl]; exact t1)
  have c1 := hf f mf
  have c2 := hf f2 mf2
  have hf3 := fAt_add (e := .cp (la + 1) true k a t s) hf2 t0 g0 ne
  have e1 := file_addC hf1 (la + 1) true k a t s
  have e2 := file_addC hf3 (la + 1) false k a g s
  have l1 : f.length < 16777216 := by omega
  have l2 : f2.length < 16777216 := by omega
  have hn := fun F : D => e_next (kn := kn) (ps := ps) (S := S) (F := F) (G := G) (V := V) (A := A) la
  unfold trlX at hn
  simp at e1 e2
  simp [m_Trail_note, b_Trail_note, trlX, hn, hf1.ip, hf1.gp, hf3.ip, hf3.gp, fileL, l1, l2, e1, e2, sizeLine]
end Law

namespace Law
open PySem Oz L2
variable [Oz.WD]
section
variable {kn : Int} {ps : List (Bool × Bool)} {m c : Nat} {w : W}
theorem at_get {St : List (List Int)} {p k : Int} {r : List Int} (hr : At St p k r) : r[k.toNat]? = some (valS St p k) := by have := hr.ak; unfold atI at this; rw [hr.ik] at this; exact this
theorem addL_nd {ls : List Int} {x : Int} (h : ls.Nodup) : (addL ls x).Nodup := by rw [addL_eq]; exact addK_nd h x
theorem liars_put {ls : List Int} (h : ls.Nodup) (n : Int) : ukD (.inl n) (ls.map fun n => ((PyData.int n : D), (PyData.bool true : D))) = true ∧ isDct (ls.map fun n => ((PyData.int n : D), (PyData.bool true : D))) = true ∧ ptD (.inl n) (.bool true) (ls.map fun n => ((PyData.int n : D), (PyData.bool true : D))) = (addL ls n).map fun n => (.int n, .bool true) :=
  ⟨ukD_dI h n, isDct_dI ls, by rw [addL_eq]; exact ptD_dI ls n⟩
theorem e_tmake (h : WOk ps.length m c w) (hc : c < 1000) {p k a : Int} (p0 : 0 ≤ p) (p1 : p < ps.length) (k0 : 0 ≤ k) (k1 : k < m) :
    m_Trail_make [trlD kn ps w, .int p, .int k, .int a] = if (pOf ps p).1 = true then .ok ⟨.imm, .int (w.last + 1)⟩ [trlD kn ps { w with last := w.last + 1, stock := updS w.stock p k (valS w.stock p k + a), files := addE w.files p (.pl (w.last + 1) true k a), events := w.events ++ [.mk true (w.last + 1) p k a] }] else .exc "Refused" [("what", .str "party does not make waste")] [trlD kn ps w] := by
  obtain ⟨f, hf, mf⟩ := fAt (fs := w.files) p0 (by rw [h.fl]; exact p1)
  obtain ⟨r, hr⟩ := h.st.at p0 p1 k0 k1
  have c1 := h.fc f mf
  have hp := fun s t => at_parties (s := s) (t := t) p0 p1
  have l1 : f.length < 16777216 := by omega
  have l2 : w.events.length < 16777216 := by have := h.ev; omega
  have e1 := file_addP hf (w.last + 1) true k a
  have e2 := row_setI (v := valS w.stock p k + a) hr
  have x1 := at_get hr
  have hn := fun S F V : D => e_next (kn := kn) (ps := ps) (S := S) (F := F) (G := .list (w.finds.map encF)) (V := V) (A := dI w.liars) w.last
  unfold trlX at hn
  simp at e1
  cases q : (pOf ps p).1 <;>
    simp [m_Trail_make, b_Trail_make, trlD, trlX, hp, q, hn, hr.ip, hr.gp, hr.ik, rowD, k0, x1, e2, hf.ip, hf.gp, fileL, l1, l2, e1, enc, sRse, sizeLine]
theorem e_ttreat (h : WOk ps.length m c w) (hc : c < 1000) {p k a : Int} (p0 : 0 ≤ p) (p1 : p < ps.length) (k0 : 0 ≤ k) (k1 : k < m) :
    m_Trail_treat [trlD kn ps w, .int p, .int k, .int a] = if (pOf ps p).2 = true then (if a ≤ valS w.stock p k then .ok ⟨.imm, .int (w.last + 1)⟩ [trlD kn ps { w with last := w.last + 1, stock := updS w.stock p k (valS w.stock p k - a), files := addE w.files p (.pl (w.last + 1) false k a), events := w.events ++ [.mk false (w.last + 1) p k a] }] else .exc "Refused" [("what", .str "not enough waste")] [trlD kn ps w]) else .exc "Refused" [("what", .str "party does not treat waste")] [trlD kn ps w] := by
  obtain ⟨f, hf, mf⟩ := fAt (fs := w.files) p0 (by rw [h.fl]; exact p1)
  obtain ⟨r, hr⟩ := h.st.at p0 p1 k0 k1
  have c1 := h.fc f mf
  have hp := fun s t => at_parties (s := s) (t := t) p0 p1
  have l1 : f.length < 16777216 := by omega
  have l2 : w.events.length < 16777216 := by have := h.ev; omega
  have e1 := file_addP hf (w.last + 1) false k a
  have e2 := row_setI (v := valS w.stock p k - a) hr
  have x1 := at_get hr
  have hn := fun S F V : D => e_next (kn := kn) (ps := ps) (S := S) (F := F) (G := .list (w.finds.map encF)) (V := V) (A := dI w.liars) w.last
  have hk := fun F V L : D => e_check (kn := kn) (ps := ps) (F := F) (G := .list (w.finds.map encF)) (V := V) (A := dI w.liars) (L := L) (a := a) hr
  unfold trlX at hn hk
  simp at e1
  cases q : (pOf ps p).2 <;> by_cases q2 : a ≤ valS w.stock p k <;>
    simp [m_Trail_treat, b_Trail_treat, trlD, trlX, hp, q, q2, hn, hk, hr.ip, hr.gp, hr.ik, rowD, k0, x1, e2, hf.ip, hf.gp, fileL, l1, l2, e1, enc, sRse, sizeLine]
theorem e_tinspect (h : WOk ps.length m c w) (hc : c < 1000) {p k : Int} (p0 : 0 ≤ p) (p1 : p < ps.length) (k0 : 0 ≤ k) (k1 : k < m) :
    m_Trail_inspect [trlD kn ps w, .int p, .int k] = .ok ⟨.imm, .int (valS w.stock p k)⟩ [trlD kn ps { w with last := w.last + 1, finds := w.finds ++ [⟨w.last + 1, p, k, valS w.stock p k⟩], events := w.events ++ [.found (w.last + 1) p k (valS w.stock p k)] }] := by
  obtain ⟨r, hr⟩ := h.st.at p0 p1 k0 k1
  have l2 : w.events.length < 16777216 := by have := h.ev; omega
  have l3 : w.finds.length < 16777216 := by have := h.fi; omega
  have hn := fun S F G V : D => e_next (kn := kn) (ps := ps) (S := S) (F := F) (G := G) (V := V) (A := dI w.liars) w.last
  unfold trlX at hn
  simp [m_Trail_inspect, b_Trail_inspect, trlD, trlX, hn, hr.ap, hr.ak, rowD, l2, l3, enc, encF, sizeLine]
theorem e_thand (h : WOk ps.length m c w) (hc : c < 1000) {p o k a : Int} (s : Bool) (p0 : 0 ≤ p) (p1 : p < ps.length) (o0 : 0 ≤ o) (o1 : o < ps.length) (k0 : 0 ≤ k) (k1 : k < m) :
    m_Trail_hand [trlD kn ps w, .int p, .int o, .int k, .int a, .bool s] = if p = o then .exc "Refused" [("what", .str "same party")] [trlD kn ps w] else if a ≤ valS w.stock p k then .ok ⟨.imm, .int (w.last + 1)⟩ [trlD kn ps { notedW w p o k a s with stock := updS (updS w.stock p k (valS w.stock p k - a)) o k (valS (updS w.stock p k (valS w.stock p k - a)) o k + a), events := w.events ++ [.handed (w.last + 1) p o k a s] }] else .exc "Refused" [("what", .str "not enough waste")] [trlD kn ps w] := by
  obtain ⟨r, hr⟩ := h.st.at p0 p1 k0 k1
  have l2 : w.events.length < 16777216 := by have := h.ev; omega
  have hk := fun F V L : D => e_check (kn := kn) (ps := ps) (F := F) (G := .list (w.finds.map encF)) (V := V) (A := dI w.liars) (L := L) (a := a) hr
  have hm := fun F V L : D => e_move (kn := kn) (ps := ps) (F := F) (G := .list (w.finds.map encF)) (V := V) (A := dI w.liars) (L := L) h.st (a := a) p0 p1 o0 o1 k0 k1
  by_cases q : p = o
  · subst q
    simp [m_Trail_hand, b_Trail_hand, trlD, trlX, sRse, sizeLine]
  · have hn := fun S V : D => e_note (kn := kn) (ps := ps) (S := S) (G := .list (w.finds.map encF)) (V := V) (A := dI w.liars) h.fl h.fc hc p0 p1 o0 o1 q w.last k a s
    unfold trlX at hn hk hm
    by_cases q2 : a ≤ valS w.stock p k <;>
      simp [m_Trail_hand, b_Trail_hand, trlD, trlX, q, q2, hk, hn, hm, l2, enc, notedW, sRse, sizeLine]
theorem e_tpass (h : WOk ps.length m c w) (hc : c < 1000) (hnd : w.liars.Nodup) {p o k a : Int} (p0 : 0 ≤ p) (p1 : p < ps.length) (o0 : 0 ≤ o) (o1 : o < ps.length) (k0 : 0 ≤ k) (k1 : k < m) :
    m_Trail_pass_on [trlD kn ps w, .int p, .int o, .int k, .int a] = if p = o then .exc "Refused" [("what", .str "same party")] [trlD kn ps w] else if a ≤ valS w.stock p k then .ok ⟨.imm, .none⟩ [trlD kn ps { w with stock := updS (updS w.stock p k (valS w.stock p k - a)) o k (valS (updS w.stock p k (valS w.stock p k - a)) o k + a), events := w.events ++ [.passed p o k a], liars := addL (addL w.liars p) o }] else .exc "Refused" [("what", .str "not enough waste")] [trlD kn ps w] := by
  obtain ⟨r, hr⟩ := h.st.at p0 p1 k0 k1
  have hli := h.li
  have l2 : w.events.length < 16777216 := by have := h.ev; omega
  have l3 : w.liars.length < 16777216 := by omega
  have l4 := addL_len (ls := w.liars) (x := p)
  have l5 : (addL w.liars p).length < 16777216 := by omega
  have hk := fun F V L : D => e_check (kn := kn) (ps := ps) (F := F) (G := .list (w.finds.map encF)) (V := V) (A := .dict (w.liars.map fun n => (.int n, .bool true))) (L := L) (a := a) hr
  have hm := fun F V L : D => e_move (kn := kn) (ps := ps) (F := F) (G := .list (w.finds.map encF)) (V := V) (A := .dict (w.liars.map fun n => (.int n, .bool true))) (L := L) h.st (a := a) p0 p1 o0 o1 k0 k1
  obtain ⟨u1, u2, u3⟩ := liars_put hnd p
  obtain ⟨u4, u5, u6⟩ := liars_put (addL_nd (x := p) hnd) o
  by_cases q : p = o
  · subst q
    simp [m_Trail_pass_on, b_Trail_pass_on, trlD, trlX, sRse, sizeLine]
  · unfold trlX at hk hm
    by_cases q2 : a ≤ valS w.stock p k
    · simp [m_Trail_pass_on, b_Trail_pass_on, trlD, trlX, dI, q, q2, hk, hm, l2, l3, l5, u1, u2, u3, u4, u5, u6, enc, sRse, sizeLine]
    · simp [m_Trail_pass_on, b_Trail_pass_on, trlD, trlX, dI, q, q2, hk, hm, sRse, sizeLine]
theorem e_tdump (h : WOk ps.length m c w) (hc : c < 1000) (hnd : w.liars.Nodup) {p k a : Int} (p0 : 0 ≤ p) (p1 : p < ps.length) (k0 : 0 ≤ k) (k1 : k < m) :
    m_Trail_dump [trlD kn ps w, .int p, .int k, .int a] = if a ≤ valS w.stock p k then .ok ⟨.imm, .none⟩ [trlD kn ps { w with stock := updS w.stock p k (valS w.stock p k - a), events := w.events ++ [.gone true p k a], liars := addL w.liars p }] else .exc "Refused" [("what", .str "not enough waste")] [trlD kn ps w] := by
  obtain ⟨r, hr⟩ := h.st.at p0 p1 k0 k1
  have hli := h.li
  have l2 : w.events.length < 16777216 := by have := h.ev; omega
  have l3 : w.liars.length < 16777216 := by omega
  have e2 := row_setI (v := valS w.stock p k - a) hr
  have x1 := at_get hr
  have hk := fun F V L : D => e_check (kn := kn) (ps := ps) (F := F) (G := .list (w.finds.map encF)) (V := V) (A := .dict (w.liars.map fun n => (.int n, .bool true))) (L := L) (a := a) hr
  obtain ⟨u1, u2, u3⟩ := liars_put hnd p
  unfold trlX at hk
  by_cases q2 : a ≤ valS w.stock p k <;>
    simp [m_Trail_dump, b_Trail_dump, trlD, trlX, dI, q2, hk, hr.ip, hr.gp, hr.ik, rowD, k0, x1, e2, l2, l3, u1, u2, u3, enc, sRse, sizeLine]
theorem e_tconj (h : WOk ps.length m c w) (hc : c < 1000) (hnd : w.liars.Nodup) {p k a : Int} (p0 : 0 ≤ p) (p1 : p < ps.length) (k0 : 0 ≤ k) (k1 : k < m) :
    m_Trail_conjure [trlD kn ps w, .int p, .int k, .int a] = if (pOf ps p).1 = true then .ok ⟨.imm, .none⟩ [trlD kn ps { w with stock := updS w.stock p k (valS w.stock p k + a), events := w.events ++ [.gone false p k a], liars := addL w.liars p }] else .exc "Refused" [("what", .str "party does not make waste")] [trlD kn ps w] := by
  obtain ⟨r, hr⟩ := h.st.at p0 p1 k0 k1
  have hli := h.li
  have hp := fun s t => at_parties (s := s) (t := t) p0 p1
  have l2 : w.events.length < 16777216 := by have := h.ev; omega
  have l3 : w.liars.length < 16777216 := by omega
  have e2 := row_setI (v := valS w.stock p k + a) hr
  have x1 := at_get hr
  obtain ⟨u1, u2, u3⟩ := liars_put hnd p
  cases q : (pOf ps p).1 <;>
    simp [m_Trail_conjure, b_Trail_conjure, trlD, trlX, dI, hp, q, hr.ip, hr.gp, hr.ik, rowD, k0, x1, e2, l2, l3, u1, u2, u3, enc, sRse, sizeLine]
theorem e_tsign (h : WOk ps.length m c w) (hc : c < 1000) (hnd : w.liars.Nodup) {p o k a : Int} (s : Bool) (p0 : 0 ≤ p) (p1 : p < ps.length) (o0 : 0 ≤ o) (o1 : o < ps.length) :
    m_Trail_sign [trlD kn ps w, .int p, .int o, .int k, .int a, .bool s] = if p = o then .exc "Refused" [("what", .str "same party")] [trlD kn ps w] else .ok ⟨.imm, .int (w.last + 1)⟩ [trlD kn ps { notedW w p o k a s with liars := addL (addL w.liars p) o }] := by
  have hli := h.li
  have l3 : w.liars.length < 16777216 := by omega
  have l4 := addL_len (ls := w.liars) (x := p)
  have l5 : (addL w.liars p).length < 16777216 := by omega
  obtain ⟨u1, u2, u3⟩ := liars_put hnd p
  obtain ⟨u4, u5, u6⟩ := liars_put (addL_nd (x := p) hnd) o
  by_cases q : p = o
  · subst q
    simp [m_Trail_sign, b_Trail_sign, trlD, trlX, sRse, sizeLine]
  · have hn := fun S V A : D => e_note (kn := kn) (ps := ps) (S := S) (G := .list (w.finds.map encF)) (V := V) (A := A) h.fl h.fc hc p0 p1 o0 o1 q w.last k a s
    unfold trlX at hn
    simp [m_Trail_sign, b_Trail_sign, trlD, trlX, dI, q, hn, l3, l5, u1, u2, u3, u4, u5, u6, notedW, sRse, sizeLine]
theorem e_twrite (h : WOk ps.length m c w) (hc : c < 1000) (hnd : w.liars.Nodup) {p o k a : Int} (cpy gv : Bool) (p0 : 0 ≤ p) (p1 : p < ps.length) (hpo : cpy = true → o ≠ p) :
    m_Trail_write [trlD kn ps w, .int p, .str (if cpy then (if gv then "gave" else "took") else (if gv then "made" else "treated")), .int k, .int a, .int o] = .ok ⟨.imm, .int (w.last + 1)⟩ [trlD kn ps { w with last := w.last + 1, files := addE w.files p (if cpy then .cp (w.last + 1) gv k a o false else .pl (w.last + 1) gv k a), liars := addL w.liars p }] := by
  obtain ⟨f, hf, mf⟩ := fAt (fs := w.files) p0 (by rw [h.fl]; exact p1)
  have c1 := h.fc f mf
  have hli := h.li
  have l1 : f.length < 16777216 := by omega
  have l3 : w.liars.length < 16777216 := by omega
  obtain ⟨u1, u2, u3⟩ := liars_put hnd p
  have hn := fun S F V : D => e_next (kn := kn) (ps := ps) (S := S) (F := F) (G := .list (w.finds.map encF)) (V := V) (A := .dict (w.liars.map fun n => (.int n, .bool true))) w.last
  unfold trlX at hn
  cases cpy with
  | true =>
    have ho := hpo rfl
    have e1 := file_addC hf (w.last + 1) gv k a o false
    cases gv <;> simp at e1 <;>
      simp [m_Trail_write, b_Trail_write, trlD, trlX, dI, hn, ho, hf.ip, hf.gp, fileL, l1, l3, u1, u2, u3, e1, sRse, sizeLine]
  | false =>
    have e1 := file_addP hf (w.last + 1) gv k a
    cases gv <;> simp at e1 <;>
      simp [m_Trail_write, b_Trail_write, trlD, trlX, dI, hn, hf.ip, hf.gp, fileL, l1, l3, u1, u2, u3, e1, sRse, sizeLine]
theorem e_twrite_no {p k a : Int} (gv : Bool) :
    m_Trail_write [trlD kn ps w, .int p, .str (if gv then "gave" else "took"), .int k, .int a, .int p] = .exc "Refused" [("what", .str "same party")] [trlD kn ps w] := by
  cases gv <;> simp [m_Trail_write, b_Trail_write, trlD, trlX, sRse, sizeLine]
theorem keep_len {f : List Ent} {n : Int} : ((f.filter fun x => decide (numE x ≠ n)).length = f.length) ↔ n ∉ f.map numE := by
  rw [List.length_filter_eq_length_iff]
  simp only [List.mem_map, not_exists, not_and, decide_eq_true_eq]
theorem e_tomit (h : WOk ps.length m c w) (hc : c < 1000) (hnd : w.liars.Nodup) {p n : Int} (p0 : 0 ≤ p) (p1 : p < ps.length) {f : List Ent} (hf : FAt w.files p f) (mf : f ∈ w.files) :
    m_Trail_omit [trlD kn ps w, .int p, .int n] = if n ∈ f.map numE then .ok ⟨.imm, .none⟩ [trlD kn ps { w with files := w.files.set p.toNat (f.filter fun x => decide (numE x ≠ n)), liars := addL w.liars p }] else .exc "Refused" [("what", .str "no such entry")] [trlD kn ps w] := by
  have c1 := h.fc f mf
  have hli := h.li
  have l3 : w.liars.length < 16777216 := by omega
  obtain ⟨u1, u2, u3⟩ := liars_put hnd p
  have hcE : ∀ T : R, compE (cN 4) ct_Trail_omit_0 c_Trail_omit_0 [some T, some ⟨.imm, .int p⟩, some ⟨.imm, .int n⟩, none, none] (f.map fun x => (⟨.imm, encE x⟩ : R)) = some ((f.filter fun x => decide (numE x ≠ n)).map fun x => (⟨.imm, encE x⟩ : R)) := fun T =>
    comp_map fun x _ => ⟨[some T, some ⟨.imm, .int p⟩, some ⟨.imm, .int n⟩, none, some ⟨.imm, encE x⟩], by simp, by
      have : ∀ s t, ixR ⟨s, encE x⟩ ⟨t, .int 0⟩ = .ok ⟨.imm, .int (numE x)⟩ := fun s t => by cases x <;> simp [encE, numE]
      by_cases e : numE x = n <;> simp [ct_Trail_omit_0, this, e], fun _ => by simp [c_Trail_omit_0]⟩
  have hs : ∀ s, (f.map encE).map (sub s) = f.map fun x => (⟨.imm, encE x⟩ : R) := fun s => by rw [List.map_map]; exact List.map_congr_left fun x _ => by simp
  have hl := List.length_filter_le (fun x => decide (numE x ≠ n)) f
  have hcr : compR ((f.filter fun x => decide (numE x ≠ n)).map fun x => (⟨.imm, encE x⟩ : R)) = .ok ⟨.own, .list ((f.filter fun x => decide (numE x ≠ n)).map encE)⟩ := compR_own (by have : sizeLine = 16777216 := rfl; omega) fun _ _ => ownR_lf lf_encE
  have e1 : (w.files.map fileL).set p.toNat (fileL (f.filter fun x => decide (numE x ≠ n))) = (w.files.set p.toNat (f.filter fun x => decide (numE x ≠ n))).map fileL := by rw [List.map_set]
  have hk := keep_len (f := f) (n := n)
  generalize f.filter (fun x => decide (numE x ≠ n)) = ff at *
  have hpl0 : ∀ a, plgE (plg 1 a (.list (ff.map encE))) (tEs (.int kn) (partiesD ps) (.list (w.stock.map rowD)) (.list ((w.files.map fileL).set p.toNat (ptrD a))) (.list (w.finds.map encF)) (.list (w.events.map enc)) (.int w.last) (.dict (w.liars.map fun n => (.int n, .bool true)))) = some (tEs (.int kn) (partiesD ps) (.list (w.stock.map rowD)) (.list ((w.files.set p.toNat ff).map fileL)) (.list (w.finds.map encF)) (.list (w.events.map enc)) (.int w.last) (.dict (w.liars.map fun n => (.int n, .bool true)))) := fun a => by
    have hlt : p.toNat < (w.files.map fileL).length := by rw [List.length_map]; exact (List.getElem?_eq_some_iff.mp hf.gp).1
    have h1 : plgs (plg 0 a (.list (ff.map encE))) (w.stock.map rowD) = none := plgs_none fun x hx => by
      obtain ⟨r, _, rfl⟩ := List.mem_map.mp hx
      simp [rowD]
    have h2 : plgs (plg 0 a (.list (ff.map encE))) ((w.files.map fileL).set p.toNat (ptrD a)) = some ((w.files.map fileL).set p.toNat (.list (ff.map encE))) := plgs_set (by simp [isPtr, ptrD]) (fun x hx => by
      obtain ⟨r, _, rfl⟩ := List.mem_map.mp hx
      simp [fileL]) hlt
    have h3 : lf (partiesD ps) = true := by simp
    have h4 := plg_lf (k := 1) (a := a) (d := .list (ff.map encE)) h3
    have h5 := plg_lf (k := 1) (a := a) (d := .list (ff.map encE)) (lf_int (i := kn))
    have h6 : (w.files.map fileL).set p.toNat (.list (ff.map encE)) = (w.files.set p.toNat ff).map fileL := e1
    unfold tEs
    rw [plgE_cons, h5, plgE_cons, h4, plgE_cons, plg_l, h1, plgE_cons, plg_l, h2, h6]
    rfl
  have hpl : ∀ a, plg 2 a (.list (ff.map encE)) (objD (Str.ofString "Trail") (tEs (.int kn) (partiesD ps) (.list (w.stock.map rowD)) (.list ((w.files.map fileL).set p.toNat (ptrD a))) (.list (w.finds.map encF)) (.list (w.events.map enc)) (.int w.last) (.dict (w.liars.map fun n => (.int n, .bool true))))) = some (objD (Str.ofString "Trail") (tEs (.int kn) (partiesD ps) (.list (w.stock.map rowD)) (.list ((w.files.set p.toNat ff).map fileL)) (.list (w.finds.map encF)) (.list (w.events.map enc)) (.int w.last) (.dict (w.liars.map fun n => (.int n, .bool true))))) := fun a => by
    have := hpl0 a
    unfold objD
    rw [plg_d, plgE_cons, plg_str, this]
    rfl
  unfold fileL at e1
  by_cases q : n ∈ f.map numE
  · have q2 : ¬ ff.length = f.length := fun z => (hk.mp z) q
    have q3 : ¬ (ff.length : Int) = f.length := by omega
    rw [if_pos q]
    simp [m_Trail_omit, b_Trail_omit, q_Trail_omit_0, trlD, trlX, dI, hf.ap, hf.ip, hf.gp, fileL, hs, hcE, hcr, q3, hpl, l3, u1, u2, u3, sRse, sizeLine, -List.map_map]
  · have q2 := hk.mpr q
    have q3 : (ff.length : Int) = f.length := by omega
    rw [if_neg q]
    simp [m_Trail_omit, b_Trail_omit, q_Trail_omit_0, trlD, trlX, dI, hf.ap, hf.ip, hf.gp, fileL, hs, hcE, hcr, q3, sRse, sizeLine, -List.map_map]
end
end Law

namespace Law
open PySem Oz L2
variable [Oz.WD]
/-- why a deed is refused -/
def whyO (ps : List (Bool × Bool)) (w : W) (d : Deed) : Option String := match d.w with
  | .make => if (pOf ps d.p).1 = true then none else some "party does not make waste"
  | .conj => if (pOf ps d.p).1 = true then none else some "party does not make waste"
  | .treat => if (pOf ps d.p).2 = true then (if d.a ≤ valS w.stock d.p d.k then none else some "not enough waste") else some "party does not treat waste"
  | .hand => if d.p = d.o then some "same party" else if d.a ≤ valS w.stock d.p d.k then none else some "not enough waste"
  | .pass => if d.p = d.o then some "same party" else if d.a ≤ valS w.stock d.p d.k then none else some "not enough waste"
  | .sign => if d.p = d.o then some "same party" else none
  | .dump => if d.a ≤ valS w.stock d.p d.k then none else some "not enough waste"
  | .inspect => none
  | .write => none
  | .omit => if d.a ∈ (w.files.getD d.p.toNat []).map numE then none else some "no such entry"
def modW (ps : List (Bool × Bool)) (w : W) (d : Deed) : W := match d.w with
  | .omit => { w with files := w.files.set d.p.toNat ((w.files.getD d.p.toNat []).filter fun x => decide (numE x ≠ d.a)), liars := addL w.liars d.p }
  | _ => (didW ps w d).getD w
def toldD (w : W) (d : Deed) : D := match d.w with
  | .make => .int (w.last + 1)
  | .treat => .int (w.last + 1)
  | .hand => .int (w.last + 1)
  | .sign => .int (w.last + 1)
  | .write => .int (w.last + 1)
  | .inspect => .int (valS w.stock d.p d.k)
  | _ => .none
theorem lf_toldD {w : W} {d : Deed} : lf (toldD w d) = true := by
  unfold toldD
  split <;> rfl
section
variable {kn : Int} {ps : List (Bool × Bool)} {m c : Nat} {w : W}
theorem e_told (h : WOk ps.length m c w) (hc : c < 1000) (hnd : w.liars.Nodup) {d : Deed} (hd : DOk ps.length m d) :
    m__law_told [trlD kn ps w, deedD d] = match whyO ps w d with
      | some s => .ok ⟨.imm, .str s⟩ [trlD kn ps w]
      | none => .ok ⟨.imm, toldD w d⟩ [trlD kn ps (modW ps w d)] := by
  have hu : unO (Str.ofString "Trail") (trlD kn ps w) = some (tEs (.int kn) (partiesD ps) (.list (w.stock.map rowD)) (.list (w.files.map fileL)) (.list (w.finds.map encF)) (.list (w.events.map enc)) (.int w.last) (dI w.liars)) := by simp [trlD, trlX]
  obtain ⟨dw, p, o, k, a, s⟩ := d
  have p0 := hd.p0
  have p1 := hd.p1
  have o0 := hd.o0
  have o1 := hd.o1
  have k0 := hd.k0
  have k1 := hd.k1
  simp only at p0 p1 o0 o1 k0 k1
  cases dw
  · have hm := e_tmake (kn := kn) (a := a) h hc p0 p1 k0 k1
    by_cases q : (pOf ps p).1 = true
    · rw [if_pos q] at hm
      simp only [whyO, modW, toldD, didW, honestW, if_pos q, Option.getD]
      generalize trlD kn ps w = D1 at *
      generalize trlD kn ps _ = D2 at *
      simp [m__law_told, b__law_told, deedD, wdS, hu, hm, tryE, sizeLine]
    · rw [if_neg q] at hm
      simp only [whyO, if_neg q]
      generalize trlD kn ps w = D1 at *
      simp [m__law_told, b__law_told, deedD, wdS, hu, hm, tryE, sizeLine]
  · have hm := e_ttreat (kn := kn) (a := a) h hc p0 p1 k0 k1
    by_cases q : (pOf ps p).2 = true
    · rw [if_pos q] at hm
      by_cases q2 : a ≤ valS w.stock p k
      · rw [if_pos q2] at hm
        have qq : (pOf ps p).2 = true ∧ a ≤ valS w.stock p k := ⟨q, q2⟩
        simp only [whyO, modW, toldD, didW, honestW, if_pos q, if_pos q2, if_pos qq, Option.getD]
        generalize trlD kn ps w = D1 at *
        generalize trlD kn ps _ = D2 at *
        simp [m__law_told, b__law_told, deedD, wdS, hu, hm, tryE, sizeLine]
      · rw [if_neg q2] at hm
        simp only [whyO, if_pos q, if_neg q2]
        generalize trlD kn ps w = D1 at *
        simp [m__law_told, b__law_told, deedD, wdS, hu, hm, tryE, sizeLine]
    · rw [if_neg q] at hm
      simp only [whyO, if_neg q]
      generalize trlD kn ps w = D1 at *
      simp [m__law_told, b__law_told, deedD, wdS, hu, hm, tryE, sizeLine]
  · have hm := e_thand (kn := kn) (a := a) h hc s p0 p1 o0 o1 k0 k1
    by_cases q : p = o
    · rw [if_pos q] at hm
      simp only [whyO, if_pos q]
      generalize trlD kn ps w = D1 at *
      simp [m__law_told, b__law_told, deedD, wdS, hu, hm, tryE, sizeLine]
    · rw [if_neg q] at hm
      by_cases q2 : a ≤ valS w.stock p k
      · rw [if_pos q2] at hm
        have qq : p ≠ o ∧ a ≤ valS w.stock p k := ⟨q, q2⟩
        simp only [whyO, modW, toldD, didW, honestW, if_neg q, if_pos q2, if_pos qq, Option.getD]
        generalize trlD kn ps w = D1 at *
        generalize trlD kn ps _ = D2 at *
        simp [m__law_told, b__law_told, deedD, wdS, hu, hm, tryE, sizeLine]
      · rw [if_neg q2] at hm
        simp only [whyO, if_neg q, if_neg q2]
        generalize trlD kn ps w = D1 at *
        simp [m__law_told, b__law_told, deedD, wdS, hu, hm, tryE, sizeLine]
  · have hm := e_tinspect (kn := kn) h hc p0 p1 k0 k1
    simp only [whyO, modW, toldD, didW, honestW, Option.getD]
    generalize trlD kn ps w = D1 at *
    generalize trlD kn ps _ = D2 at *
    simp [m__law_told, b__law_told, deedD, wdS, hu, hm, tryE, sizeLine]
  · have hm := e_tpass (kn := kn) (a := a) h hc hnd p0 p1 o0 o1 k0 k1
    by_cases q : p = o
    · rw [if_pos q] at hm
      simp only [whyO, if_pos q]
      generalize trlD kn ps w = D1 at *
      simp [m__law_told, b__law_told, deedD, wdS, hu, hm, tryE, sizeLine]
    · rw [if_neg q] at hm
      by_cases q2 : a ≤ valS w.stock p k
      · rw [if_pos q2] at hm
        have qq : p ≠ o ∧ a ≤ valS w.stock p k := ⟨q, q2⟩
        simp only [whyO, modW, toldD, didW, liedW2, liedW, if_neg q, if_pos q2, if_pos qq, Option.map_some, List.foldl_cons, List.foldl_nil, Option.getD]
        generalize trlD kn ps w = D1 at *
        generalize trlD kn ps _ = D2 at *
        simp [m__law_told, b__law_told, deedD, wdS, hu, hm, tryE, sizeLine]
      · rw [if_neg q2] at hm
        simp only [whyO, if_neg q, if_neg q2]
        generalize trlD kn ps w = D1 at *
        simp [m__law_told, b__law_told, deedD, wdS, hu, hm, tryE, sizeLine]
  · have hm := e_tdump (kn := kn) (a := a) h hc hnd p0 p1 k0 k1
    by_cases q2 : a ≤ valS w.stock p k
    · rw [if_pos q2] at hm
      simp only [whyO, modW, toldD, didW, liedW2, liedW, if_pos q2, Option.map_some, List.foldl_cons, List.foldl_nil, Option.getD]
      generalize trlD kn ps w = D1 at *
      generalize trlD kn ps _ = D2 at *
      simp [m__law_told, b__law_told, deedD, wdS, hu, hm, tryE, sizeLine]
    · rw [if_neg q2] at hm
      simp only [whyO, if_neg q2]
      generalize trlD kn ps w = D1 at *
      simp [m__law_told, b__law_told, deedD, wdS, hu, hm, tryE, sizeLine]
  · have hm := e_tconj (kn := kn) (a := a) h hc hnd p0 p1 k0 k1
    by_cases q : (pOf ps p).1 = true
    · rw [if_pos q] at hm
      simp only [whyO, modW, toldD, didW, liedW2, liedW, if_pos q, Option.map_some, List.foldl_cons, List.foldl_nil, Option.getD]
      generalize trlD kn ps w = D1 at *
      generalize trlD kn ps _ = D2 at *
      simp [m__law_told, b__law_told, deedD, wdS, hu, hm, tryE, sizeLine]
    · rw [if_neg q] at hm
      simp only [whyO, if_neg q]
      generalize trlD kn ps w = D1 at *
      simp [m__law_told, b__law_told, deedD, wdS, hu, hm, tryE, sizeLine]
  · have hm := e_tsign (kn := kn) (k := k) (a := a) h hc hnd s p0 p1 o0 o1
    by_cases q : p = o
    · rw [if_pos q] at hm
      simp only [whyO, if_pos q]
      generalize trlD kn ps w = D1 at *
      simp [m__law_told, b__law_told, deedD, wdS, hu, hm, tryE, sizeLine]
    · rw [if_neg q] at hm
      have qq : p ≠ o := q
      simp only [whyO, modW, toldD, didW, liedW2, liedW, if_neg q, if_pos qq, Option.map_some, List.foldl_cons, List.foldl_nil, Option.getD]
      rw [show (notedW w p o k a s).liars = w.liars from rfl]
      generalize trlD kn ps w = D1 at *
      generalize trlD kn ps _ = D2 at *
      simp [m__law_told, b__law_told, deedD, wdS, hu, hm, tryE, sizeLine]
  · by_cases q : p = o
    · subst q
      have hm := e_twrite (kn := kn) (k := k) (a := a) (o := p) h hc hnd false (!s) p0 p1 (fun z => by cases z)
      simp only [whyO, modW, toldD, didW, liedW2, liedW, if_pos, Option.map_some, List.foldl_cons, List.foldl_nil, Option.getD]
      simp only [Bool.false_eq_true, if_false] at hm
      generalize trlD kn ps w = D1 at *
      generalize trlD kn ps _ = D2 at *
      cases s <;> simp at hm <;> simp [m__law_told, b__law_told, deedD, wdS, hu, hm, tryE, sizeLine]
    · have hm := e_twrite (kn := kn) (k := k) (a := a) (o := o) h hc hnd true (!s) p0 p1 (fun _ => Ne.symm q)
      simp only [whyO, modW, toldD, didW, liedW2, liedW, if_neg q, Option.map_some, List.foldl_cons, List.foldl_nil, Option.getD]
      simp only [if_true] at hm
      generalize trlD kn ps w = D1 at *
      generalize trlD kn ps _ = D2 at *
      cases s <;> simp at hm <;> simp [m__law_told, b__law_told, deedD, wdS, hu, hm, q, tryE, sizeLine]
  · obtain ⟨f, hf, mf⟩ := fAt (fs := w.files) p0 (by rw [h.fl]; exact p1)
    have hm := e_tomit (kn := kn) (n := a) h hc hnd p0 p1 hf mf
    have hg : w.files.getD p.toNat [] = f := by rw [List.getD_eq_getElem?_getD, hf.gp]; rfl
    simp only [whyO, modW, toldD, hg]
    by_cases q : a ∈ f.map numE
    · rw [if_pos q] at hm ⊢
      simp only
      generalize trlD kn ps w = D1 at *
      generalize trlD kn ps _ = D2 at *
      simp [m__law_told, b__law_told, deedD, wdS, hu, hm, tryE, sizeLine]
    · rw [if_neg q] at hm ⊢
      simp only
      generalize trlD kn ps w = D1 at *
      simp [m__law_told, b__law_told, deedD, wdS, hu, hm, tryE, sizeLine]
end
end Law

namespace Law
open PySem Oz L2
variable [Oz.WD]
theorem sort_ints (ns : List Int) : sortD (ns.map .int) = (ns.mergeSort leI).map .int := by
  unfold sortD
  refine (List.map_mergeSort (f := PyData.int) (l := ns) (r := leI) (s := PySem.W.dataLe false fun d => d) fun a _ b _ => ?_).symm
  show leI a b = !PySem.W.dataLt (.int b) (.int a)
  rw [PySem.W.dataLt_int]
  unfold leI
  rw [Bool.eq_iff_iff]
  simp
theorem okSort_ints {ns : List Int} (h : ns.length ≤ 100000) : okSort (ns.map .int) = true := by
  unfold okSort
  have h1 : lfs (ns.map PyData.int) = true := by simp
  have h2 : ((ns.map PyData.int).all fun d => (ns.map PyData.int).all fun e => PySem.W.alike d e) = true := by
    simp [List.all_map, PySem.W.alike]
  have h3 : (ns.map PyData.int).all noTup = true := by
    rw [List.all_map, List.all_eq_true]
    intro x _
    rfl
  have h4 : (ns.map PyData.int).all (fun d => decide (d.depth ≤ 60)) = true := by
    rw [List.all_map, List.all_eq_true]
    intro x _
    have hd : (PyData.int x).depth ≤ 60 := by simp [PyData.depth]
    exact decide_eq_true hd
  have h5 : (ns.map PyData.int).length ≤ sizeLine := by
    have hs : sizeLine = 16777216 := rfl
    rw [List.length_map]; omega
  rw [h1, h2, h3, h4, decide_eq_true h5]
  simp
/-! ### told -/
theorem num_ix (x : Ent) (s t : Sx) : ixR ⟨s, encE x⟩ ⟨t, .int 0⟩ = .ok ⟨.imm, .int (numE x)⟩ := by cases x <;> simp [encE, numE]
theorem sub_E {s : Sx} {f : List Ent} : (f.map encE).map (sub s) = f.map fun x => (⟨.imm, encE x⟩ : R) := by rw [List.map_map]; exact List.map_congr_left fun x _ => by simp
section
variable {kn : Int} {ps : List (Bool × Bool)} {m c : Nat} {w : W}
theorem nums_why {f : List Ent} {A B C D4 E F G H : Option R} : compE (cN 8) tYesD c__law_why_not_0 [A, B, C, D4, E, F, G, H, none] (f.map fun x => (⟨.imm, encE x⟩ : R)) = some (f.map fun x => (⟨.imm, .int (numE x)⟩ : R)) :=
  comp_map1 fun x _ => ⟨[A, B, C, D4, E, F, G, H, some ⟨.imm, encE x⟩], by simp, by simp [c__law_why_not_0, num_ix]⟩
theorem e_why (h : WOk ps.length m c w) (hc : c < 1000) {d : Deed} (hd : DOk ps.length m d) :
    m__law_why_not [worldD kn ps w, deedD d] = .ok ⟨.imm, .str ((whyO ps w d).getD "")⟩ [] := by
  obtain ⟨f, hf, mf⟩ := fAt (fs := w.files) hd.p0 (by rw [h.fl]; exact hd.p1)
  obtain ⟨r, hr⟩ := h.st.at hd.p0 hd.p1 hd.k0 hd.k1
  have c1 := h.fc f mf
  have hp := fun s t => at_parties (s := s) (t := t) hd.p0 hd.p1
  have hg : w.files.getD d.p.toNat [] = f := by rw [List.getD_eq_getElem?_getD, hf.gp]; rfl
  obtain ⟨dw, p, o, k, a, s⟩ := d
  simp only at hf hr hp hg
  cases dw
  · by_cases q : (pOf ps p).1 = true <;> simp [m__law_why_not, b__law_why_not, deedD, wdS, worldD, worldX, whyO, hp, q, sizeLine]
  · by_cases q : (pOf ps p).2 = true
    · by_cases q2 : a ≤ valS w.stock p k
      · have q3 : ¬ valS w.stock p k < a := by omega
        simp [m__law_why_not, b__law_why_not, deedD, wdS, worldD, worldX, whyO, hp, q, q2, q3, hr.ap, hr.ak, rowD, sizeLine]
      · have q3 : valS w.stock p k < a := by omega
        simp [m__law_why_not, b__law_why_not, deedD, wdS, worldD, worldX, whyO, hp, q, q2, q3, hr.ap, hr.ak, rowD, sizeLine]
    · simp [m__law_why_not, b__law_why_not, deedD, wdS, worldD, worldX, whyO, hp, q, sizeLine]
  · by_cases q : p = o
    · subst q
      simp [m__law_why_not, b__law_why_not, deedD, wdS, worldD, worldX, whyO, hp, sizeLine]
    · by_cases q2 : a ≤ valS w.stock p k
      · have q3 : ¬ valS w.stock p k < a := by omega
        simp [m__law_why_not, b__law_why_not, deedD, wdS, worldD, worldX, whyO, hp, q, q2, q3, hr.ap, hr.ak, rowD, sizeLine]
      · have q3 : valS w.stock p k < a := by omega
        simp [m__law_why_not, b__law_why_not, deedD, wdS, worldD, worldX, whyO, hp, q, q2, q3, hr.ap, hr.ak, rowD, sizeLine]
  · simp [m__law_why_not, b__law_why_not, deedD, wdS, worldD, worldX, whyO, sizeLine]
  · by_cases q : p = o
    · subst q
      simp [m__law_why_not, b__law_why_not, deedD, wdS, worldD, worldX, whyO, hp, sizeLine]
    · by_cases q2 : a ≤ valS w.stock p k
      · have q3 : ¬ valS w.stock p k < a := by omega
        simp [m__law_why_not, b__law_why_not, deedD, wdS, worldD, worldX, whyO, hp, q, q2, q3, hr.ap, hr.ak, rowD, sizeLine]
      · have q3 : valS w.stock p k < a := by omega
        simp [m__law_why_not, b__law_why_not, deedD, wdS, worldD, worldX, whyO, hp, q, q2, q3, hr.ap, hr.ak, rowD, sizeLine]
  · by_cases q2 : a ≤ valS w.stock p k
    · have q3 : ¬ valS w.stock p k < a := by omega
      simp [m__law_why_not, b__law_why_not, deedD, wdS, worldD, worldX, whyO, hp, q2, q3, hr.ap, hr.ak, rowD, sizeLine]
    · have q3 : valS w.stock p k < a := by omega
      simp [m__law_why_not, b__law_why_not, deedD, wdS, worldD, worldX, whyO, hp, q2, q3, hr.ap, hr.ak, rowD, sizeLine]
  · by_cases q : (pOf ps p).1 = true <;> simp [m__law_why_not, b__law_why_not, deedD, wdS, worldD, worldX, whyO, hp, q, sizeLine]
  · by_cases q : p = o
    · subst q
      simp [m__law_why_not, b__law_why_not, deedD, wdS, worldD, worldX, whyO, hp, sizeLine]
    · simp [m__law_why_not, b__law_why_not, deedD, wdS, worldD, worldX, whyO, hp, q, sizeLine]
  · simp [m__law_why_not, b__law_why_not, deedD, wdS, worldD, worldX, whyO, sizeLine]
  · have hcr : compR (f.map fun x => (⟨.imm, .int (numE x)⟩ : R)) = .ok ⟨.own, .list ((f.map numE).map .int)⟩ := by
      rw [compR_own (e := fun x => PyData.int (numE x)) (by have : sizeLine = 16777216 := rfl; omega) fun _ _ => rfl, List.map_map]
      rfl
    have hsE := fun s => sub_E (s := s) (f := f)
    have hco := fun A B C D4 E F G H => nums_why (f := f) (A := A) (B := B) (C := C) (D4 := D4) (E := E) (F := F) (G := G) (H := H)
    have hin := in_ints (ls := f.map numE) (x := a)
    have hq : ((f.map numE).any fun z => z == a) = decide (a ∈ f.map numE) := by
      rw [Bool.eq_iff_iff, List.any_eq_true, decide_eq_true_iff]
      exact ⟨fun ⟨x, h1, h2⟩ => by rw [beq_iff_eq] at h2; exact h2 ▸ h1, fun h => ⟨a, h, by simp⟩⟩
    rw [hq] at hin
    simp only [whyO, hg]
    generalize f.map numE = NN at *
    by_cases q : a ∈ NN <;>
      simp [m__law_why_not, b__law_why_not, q__law_why_not_0, deedD, wdS, worldD, worldX, hf.ap, fileL, hsE, hco, hcr, hin, q, sizeLine, -List.map_map]
theorem lied_omit (h : WOk ps.length m c w) (hc : c < 1000) {p o k : Int} {t : Nat} {s : Bool} (p0 : 0 ≤ p) (p1 : p < ps.length) {f : List Ent} (hf : FAt w.files p f) (mf : f ∈ w.files) (ht : t < f.length) :
    m__law_did [worldD kn ps w, .tuple [.str (Str.ofString "omit"), .int p, .int o, .int k, .int t, .bool s]] = .ok ⟨.imm, .bool true⟩ [worldD kn ps { w with files := w.files.set p.toNat (f.eraseIdx t), liars := addL w.liars p }] := by
  have c1 := h.fc f mf
  have hli := h.li
  have l1 : f.length < 16777216 := by omega
  have l1' : f.length ≤ 16777216 := by omega
  have hfd : w.files[p.toNat]?.getD [] = f := by rw [hf.gp]; rfl
  have q0 : (0 : Int) < f.length := by omega
  have q : 0 < f.length := by omega
  have em : (t : Int) % (f.length : Int) = t := Int.emod_eq_of_lt (by omega) (by omega)
  have ix : ixN f.length (t : Int) = some t := by
    have := ixN_some (n := f.length) (i := (t : Int)) (by omega) (by omega)
    simpa using this
  have e1 : (w.files.map fileL).set p.toNat (.list ((f.map encE).eraseIdx t)) = (w.files.set p.toNat (f.eraseIdx t)).map fileL := by
    rw [List.map_set, fileL, map_erase]
  have el := fun (st S I : D) => e_liars kn ps st S I [p] { w with files := w.files.set p.toNat (f.eraseIdx t) } (by simp; omega)
  simp only [worldX, ← e1, List.map_cons, List.map_nil, List.foldl_cons, List.foldl_nil] at el
  have key : m__law_lied [worldD kn ps w, .str (Str.ofString "omit"), .int p, .int o, .int k, .int t, .bool s] = .ok ⟨.imm, .bool true⟩ [worldD kn ps { w with files := w.files.set p.toNat (f.eraseIdx t), liars := addL w.liars p }] := by
    simp [m__law_lied, b__law_lied, f__law_lied_0, x_ali, worldD, worldX, hf.ap, hf.ip, hf.gp, hfd, fileL, l1, l1', q, q0, em, ix, el, sizeLine]
    rw [map_erase]
  generalize worldD kn ps { w with files := w.files.set p.toNat (f.eraseIdx t), liars := addL w.liars p } = D2 at *
  have lw : lf (worldD kn ps w) = false := lf_worldD
  generalize worldD kn ps w = D1 at *
  simp [m__law_did, b__law_did, lw, key, sizeLine]
theorem erase_filter : ∀ {f : List Ent} {n : Int} {t : Nat}, (f.map numE).Nodup → (f.map numE).idxOf? n = some t → f.eraseIdx t = f.filter fun x => decide (numE x ≠ n)
  | [], n, t, _, h => by simp [List.idxOf?] at h
  | x :: f, n, t, hn, h => by
    rw [List.map_cons] at hn h
    obtain ⟨h1, h2⟩ := List.nodup_cons.mp hn
    rw [List.idxOf?_cons] at h
    by_cases c : numE x = n
    · have c2 : (numE x == n) = true := by simp [c]
      rw [c2] at h
      simp at h
      subst h
      have hf : f.filter (fun x => decide (numE x ≠ n)) = f := List.filter_eq_self.mpr fun y hy => by
        rw [decide_eq_true_iff]
        intro e
        exact h1 (by rw [c, ← e]; exact List.mem_map.mpr ⟨y, hy, rfl⟩)
      rw [List.filter_cons, if_neg (by simp [c]), hf]
      rfl
    · have c2 : (numE x == n) = false := by simp [c]
      rw [c2] at h
      simp at h
      obtain ⟨t', ht, rfl⟩ := h
      rw [List.filter_cons, if_pos (by simp [c]), List.eraseIdx_cons_succ, erase_filter h2 ht]
theorem idx_mem {ns : List Int} {n : Int} (h : n ∈ ns) : ∃ t, ns.idxOf? n = some t ∧ t < ns.length := by
  cases e : ns.idxOf? n with
  | some t => exact ⟨t, rfl, (List.getElem?_eq_some_iff.mp (idxOf_some e).1).1⟩
  | none =>
    rw [List.idxOf?_eq_none_iff] at e
    exact absurd h e
theorem nums_mod {f : List Ent} {A B C D4 E F G H I : Option R} : compE (cN 9) tYesD c__law_modelled_0 [A, B, C, D4, E, F, G, H, I, none] (f.map fun x => (⟨.imm, encE x⟩ : R)) = some (f.map fun x => (⟨.imm, .int (numE x)⟩ : R)) :=
  comp_map1 fun x _ => ⟨[A, B, C, D4, E, F, G, H, I, some ⟨.imm, encE x⟩], by simp, by simp [c__law_modelled_0, num_ix]⟩
theorem did_some (d : Deed) (hy : whyO ps w d = none) (ho : d.w ≠ .omit) : ∃ w', didW ps w d = some w' ∧ modW ps w d = w' := by
  obtain ⟨dw, p, o, k, a, s⟩ := d
  cases dw <;> simp only [whyO, ite_eq_left_iff, ite_eq_right_iff] at hy
  · by_cases q : (pOf ps p).1 = true
    · exact ⟨_, by simp only [didW, honestW, if_pos q]; rfl, by simp only [modW, didW, honestW, if_pos q]; rfl⟩
    · cases hy q
  · by_cases q : (pOf ps p).2 = true
    · by_cases q2 : a ≤ valS w.stock p k
      · have qq : (pOf ps p).2 = true ∧ a ≤ valS w.stock p k := ⟨q, q2⟩
        exact ⟨_, by simp only [didW, honestW, if_pos qq]; rfl, by simp only [modW, didW, honestW, if_pos qq]; rfl⟩
      · rw [if_pos q, if_neg q2] at hy; cases hy
    · rw [if_neg q] at hy; cases hy
  · by_cases q : p = o
    · rw [if_pos q] at hy; cases hy
    · by_cases q2 : a ≤ valS w.stock p k
      · have qq : p ≠ o ∧ a ≤ valS w.stock p k := ⟨q, q2⟩
        exact ⟨_, by simp only [didW, honestW, if_pos qq]; rfl, by simp only [modW, didW, honestW, if_pos qq]; rfl⟩
      · rw [if_neg q, if_neg q2] at hy; cases hy
  · exact ⟨_, rfl, rfl⟩
  · by_cases q : p = o
    · rw [if_pos q] at hy; cases hy
    · by_cases q2 : a ≤ valS w.stock p k
      · have qq : p ≠ o ∧ a ≤ valS w.stock p k := ⟨q, q2⟩
        exact ⟨_, by simp only [didW, liedW2, liedW, if_pos qq]; rfl, by simp only [modW, didW, liedW2, liedW, if_pos qq]; rfl⟩
      · rw [if_neg q, if_neg q2] at hy; cases hy
  · by_cases q2 : a ≤ valS w.stock p k
    · exact ⟨_, by simp only [didW, liedW2, liedW, if_pos q2]; rfl, by simp only [modW, didW, liedW2, liedW, if_pos q2]; rfl⟩
    · cases hy q2
  · by_cases q : (pOf ps p).1 = true
    · exact ⟨_, by simp only [didW, liedW2, liedW, if_pos q]; rfl, by simp only [modW, didW, liedW2, liedW, if_pos q]; rfl⟩
    · cases hy q
  · by_cases q : p = o
    · cases hy q
    · have qq : p ≠ o := q
      exact ⟨_, by simp only [didW, liedW2, liedW, if_pos qq]; rfl, by simp only [modW, didW, liedW2, liedW, if_pos qq]; rfl⟩
  · exact ⟨_, rfl, rfl⟩
  · exact absurd rfl ho
end
end Law

namespace Law
open PySem Oz L2
variable [Oz.WD]
@[simp] theorem isIn_int {i : Int} : isIn (.int i) = true := id rfl
@[simp] theorem lfs_evs {es : List E} : Oz.lfs (es.map enc) = true := by rw [lfs_all]; simp
section
variable {kn : Int} {ps : List (Bool × Bool)} {m c : Nat} {w : W}
/-- what the model tells -/
def lastD (ps : List (Bool × Bool)) (w : W) (d : Deed) : D := match d.w with
  | .make => .int (modW ps w d).last
  | .treat => .int (modW ps w d).last
  | .hand => .int (modW ps w d).last
  | .sign => .int (modW ps w d).last
  | .write => .int (modW ps w d).last
  | .inspect => .int (valS (modW ps w d).stock d.p d.k)
  | _ => .none
theorem last_told {d : Deed} (hy : whyO ps w d = none) : lastD ps w d = toldD w d := by
  obtain ⟨dw, p, o, k, a, s⟩ := d
  cases dw <;> simp only [whyO] at hy <;> (repeat' split at hy) <;> simp_all [lastD, toldD, modW, didW, honestW, liedW2, liedW, notedW]
theorem e_modelled (h : WOk ps.length m c w) (hc : c < 1000) {d : Deed} (hd : DOk ps.length m d) (hy : whyO ps w d = none) (hn : ∀ f ∈ w.files, (f.map numE).Nodup) (h2 : WOk ps.length m (c + 2) (modW ps w d)) :
    m__law_modelled [worldD kn ps w, deedD d] = .ok ⟨.imm, toldD w d⟩ [worldD kn ps (modW ps w d)] := by
  rw [← last_told hy]
  by_cases ho : d.w = .omit
  · obtain ⟨f, hf, mf⟩ := fAt (fs := w.files) hd.p0 (by rw [h.fl]; exact hd.p1)
    have c1 := h.fc f mf
    have hg : w.files.getD d.p.toNat [] = f := by rw [List.getD_eq_getElem?_getD, hf.gp]; rfl
    have hdp := hd.p0
    have hdp1 := hd.p1
    obtain ⟨dw, p, o, k, a, s⟩ := d
    simp only at ho hf hg hdp hdp1
    subst ho
    simp only [whyO, hg] at hy
    have hm : a ∈ f.map numE := by
      by_cases q : a ∈ f.map numE
      · exact q
      · rw [if_neg q] at hy; cases hy
    obtain ⟨t, ht, htl⟩ := idx_mem hm
    have her := erase_filter (hn f mf) ht
    rw [List.length_map] at htl
    have hl := lied_omit (kn := kn) (o := o) (k := k) (s := s) h hc hdp hdp1 hf mf htl
    have em : modW ps w ⟨.omit, p, o, k, a, s⟩ = { w with files := w.files.set p.toNat (f.eraseIdx t), liars := addL w.liars p } := by
      simp only [modW, hg, her]
    rw [em]
    have hcr : compR (f.map fun x => (⟨.imm, .int (numE x)⟩ : R)) = .ok ⟨.own, .list ((f.map numE).map .int)⟩ := by
      rw [compR_own (e := fun x => PyData.int (numE x)) (by have : sizeLine = 16777216 := rfl; omega) fun _ _ => rfl, List.map_map]
      rfl
    have hsE := fun s => sub_E (s := s) (f := f)
    have hco := fun A B C D4 E F G H I => nums_mod (f := f) (A := A) (B := B) (C := C) (D4 := D4) (E := E) (F := F) (G := G) (H := H) (I := I)
    have hai : ((f.map numE).map PyData.int).all isIn = true := by rw [List.all_map]; exact List.all_eq_true.mpr fun _ _ => rfl
    have hmi : ((f.map numE).map PyData.int).map intD = f.map numE := by rw [List.map_map]; exact (List.map_congr_left fun _ _ => rfl).trans (List.map_id _)
    have hat : ∀ s t, keyR ⟨s, worldD kn ps w⟩ ⟨t, .str (Str.ofString "files")⟩ = .ok (sub s (.list (w.files.map fileL))) := fun s t => by simp [worldD, worldX]
    have lw : lf (worldD kn ps w) = false := lf_worldD
    generalize worldD kn ps { w with files := w.files.set p.toNat (f.eraseIdx t), liars := addL w.liars p } = D2 at *
    generalize worldD kn ps w = D1 at *
    generalize f.map numE = NN at *
    simp [m__law_modelled, b__law_modelled, q__law_modelled_0, lastD, deedD, wdS, hat, lw, hf.ap, fileL, hsE, hco, hcr, hai, hmi, ht, hl, sizeLine, -List.map_map, -x_keyR]
  · obtain ⟨w', e1, e2⟩ := did_some d hy ho
    have hdd := e_did kn h hc hd
    rw [e1] at hdd
    rw [e2] at h2
    obtain ⟨r, hr⟩ := h2.st.at hd.p0 hd.p1 hd.k0 hd.k1
    obtain ⟨dw, p, o, k, a, s⟩ := d
    simp only at hr ho
    have hla : ∀ s t, keyR ⟨s, worldD kn ps w'⟩ ⟨t, .str (Str.ofString "last")⟩ = .ok ⟨.imm, .int w'.last⟩ := fun s t => by simp [worldD, worldX]
    have hst : ∀ s t, keyR ⟨s, worldD kn ps w'⟩ ⟨t, .str (Str.ofString "stock")⟩ = .ok (sub s (.list (w'.stock.map rowD))) := fun s t => by simp [worldD, worldX]
    have lw : lf (worldD kn ps w) = false := lf_worldD
    have lw' : lf (worldD kn ps w') = false := lf_worldD
    simp only [lastD, e2]
    cases dw <;> simp [deedD, wdS, outW] at hdd <;> (try exact absurd rfl ho) <;> (
      generalize worldD kn ps w' = D2 at *
      generalize worldD kn ps w = D1 at *
      simp [m__law_modelled, b__law_modelled, deedD, wdS, lw, lw', hdd, hla, hst, hr.ap, hr.ak, rowD, sizeLine, -x_keyR])
/-! ### is it the model? -/
theorem e_tevi (m : Nat) (h : WOk ps.length mm c w) (hn : ps.length < 100) (hc : c < 1000) : m_Trail_evidence [trlD m ps w] = .ok ⟨.imm, eviD ⟨m, ps, w.files, w.finds⟩⟩ [] := by
  have hs : sizeLine = 16777216 := rfl
  have hf : ∀ T : R, compE (cN 1) tYesD c_Trail_evidence_0 [some T, none] (w.files.map fun f => (⟨.out, fileL f⟩ : R)) = some (w.files.map fun f => (⟨.imm, fileT f⟩ : R)) := fun T => by
    refine comp_map1 fun f _ => ⟨[some T, some ⟨.out, fileL f⟩], by simp, ?_⟩
    simp [c_Trail_evidence_0, fileL, fileT]
  have hcr : compR (w.files.map fun f => (⟨.imm, fileT f⟩ : R)) = .ok ⟨.own, .list (w.files.map fileT)⟩ := by
    rw [compR_own (e := fileT) (by rw [h.fl]; omega) fun _ _ => by simp]
  simp [m_Trail_evidence, b_Trail_evidence, q_Trail_evidence_0, trlD, trlX, Function.comp_def, hf, hcr, eviD, sizeLine]
theorem e_thist : m_Trail_history [trlD kn ps w] = .ok ⟨.own, .list (w.events.map enc)⟩ [] := by
  simp [m_Trail_history, b_Trail_history, trlD, trlX]
theorem e_tnum : m_Trail_numbers [trlD kn ps w] = .ok ⟨.imm, .int w.last⟩ [] := by
  simp [m_Trail_numbers, b_Trail_numbers, trlD, trlX]
theorem e_tdis : m_Trail_dishonest [trlD kn ps w] = .ok ⟨.imm, .tuple ((w.liars.mergeSort leI).map .int)⟩ [] := by
  simp [m_Trail_dishonest, b_Trail_dishonest, trlD, trlX]
theorem e_tstock {p k : Int} {r : List Int} (hr : At w.stock p k r) : m_Trail_stock [trlD kn ps w, .int p, .int k] = .ok ⟨.imm, .int (valS w.stock p k)⟩ [] := by
  simp [m_Trail_stock, b_Trail_stock, trlD, trlX, hr.ap, hr.ak, rowD]
theorem sh_enc {e : E} : Sh 1 (enc e) := by
  cases e <;> refine .tup fun d hd => ?_ <;> simp at hd <;> rcases hd with rfl | rfl | rfl | rfl | rfl | rfl | rfl <;> first | exact .int | exact .bool | (exact .lit) | (split <;> exact .lit)
theorem sh_parts {ps : List (Bool × Bool)} : Sh 2 (partiesD ps) := .tup fun d hd => by
  obtain ⟨p, _, rfl⟩ := List.mem_map.mp hd
  refine .tup fun d hd => ?_
  simp at hd
  rcases hd with rfl | rfl <;> exact .bool
theorem sh_eviD {e : Evi} : Sh 4 (eviD e) := by
  refine .tup fun d hd => ?_
  simp at hd
  rcases hd with rfl | rfl | rfl | rfl
  · exact .int
  · exact sh_parts.le (by decide)
  · refine Sh.tup (n := 2) fun d hd => ?_
    obtain ⟨f, _, rfl⟩ := List.mem_map.mp hd
    exact sh_file
  · refine Sh.tup (n := 2) fun d hd => ?_
    obtain ⟨f, _, rfl⟩ := List.mem_map.mp hd
    refine (Sh.tup (n := 0) fun d hd => ?_).le (by decide)
    simp at hd
    rcases hd with rfl | rfl | rfl | rfl <;> exact .int
theorem sh_evs {es : List E} : Sh 2 (.list (es.map enc)) := .list fun d hd => by
  obtain ⟨e, _, rfl⟩ := List.mem_map.mp hd
  exact sh_enc
theorem sh_ints {ns : List Int} : Sh 1 (.tuple (ns.map .int)) := .tup fun d hd => by
  obtain ⟨e, _, rfl⟩ := List.mem_map.mp hd
  exact .int
theorem e_isit (m : Nat) (h : WOk ps.length m c w) (hn : ps.length < 100) (hm : m < 100) (hc : c < 1000) : m__law_is_it [trlD m ps w, worldD m ps w] = .ok ⟨.imm, .bool true⟩ [] := by
  have t1 := e_tevi m h hn hc
  have t2 := e_evidence (ps := ps) m h hn hc
  have t3 := e_thist (kn := m) (ps := ps) (w := w)
  have t4 := e_tnum (kn := m) (ps := ps) (w := w)
  have t5 := e_tdis (kn := m) (ps := ps) (w := w)
  have g1 := fEq_refl (sh_eviD (e := ⟨m, ps, w.files, w.finds⟩)).shaped
  have g2 := fEq_refl (sh_evs (es := w.events)).shaped
  have g3 := fEq_refl (sh_ints (ns := w.liars.mergeSort leI)).shaped
  have hli := h.li
  have hoki := okSort_ints (ns := w.liars) (by omega)
  have hso := sort_ints w.liars
  have ku : ∃ es, unO (Str.ofString "Trail") (trlD m ps w) = some es ∧ lkD (.inr (Str.ofString "evidence")) es = none ∧ lkD (.inr (Str.ofString "history")) es = none ∧ lkD (.inr (Str.ofString "numbers")) es = none ∧ lkD (.inr (Str.ofString "dishonest")) es = none ∧ lkD (.inr (Str.ofString "stock")) es = none :=
    ⟨tEs (.int m) (partiesD ps) (.list (w.stock.map rowD)) (.list (w.files.map fileL)) (.list (w.finds.map encF)) (.list (w.events.map enc)) (.int w.last) (dI w.liars), by simp [trlD, trlX], by simp, by simp, by simp, by simp, by simp⟩
  obtain ⟨es, hu, k1, k2, k3, k4, k5⟩ := ku
  have lt : lf (trlD m ps w) = false := lf_trlD
  have lw : lf (worldD m ps w) = false := lf_worldD
  have w1 : ∀ s t, keyR ⟨s, worldD m ps w⟩ ⟨t, .str (Str.ofString "events")⟩ = .ok (sub s (.list (w.events.map enc))) := fun s t => by simp [worldD, worldX]
  have w2 : ∀ s t, keyR ⟨s, worldD m ps w⟩ ⟨t, .str (Str.ofString "last")⟩ = .ok ⟨.imm, .int w.last⟩ := fun s t => by simp [worldD, worldX]
  have w3 : ∀ s t, keyR ⟨s, worldD m ps w⟩ ⟨t, .str (Str.ofString "liars")⟩ = .ok (sub s (.list (w.liars.map .int))) := fun s t => by simp [worldD, worldX]
  have w4 : ∀ s t, keyR ⟨s, worldD m ps w⟩ ⟨t, .str (Str.ofString "kinds")⟩ = .ok ⟨.imm, .int m⟩ := fun s t => by simp [worldD, worldX]
  have w5 : ∀ s t, keyR ⟨s, worldD m ps w⟩ ⟨t, .str (Str.ofString "parties")⟩ = .ok ⟨.imm, partiesD ps⟩ := fun s t => by simp [worldD, worldX]
  have w6 : ∀ s t, keyR ⟨s, worldD m ps w⟩ ⟨t, .str (Str.ofString "stock")⟩ = .ok (sub s (.list (w.stock.map rowD))) := fun s t => by simp [worldD, worldX]
  have lp : fLen (partiesD ps) = some (.int ps.length) := by simp [partiesD]
  have hk : ∀ p : Nat, p < ps.length → f__law_is_it_0 [some ⟨.out, trlD m ps w⟩, some ⟨.out, worldD m ps w⟩, some ⟨.imm, .int (p : Int)⟩, none] = .next [some ⟨.out, trlD m ps w⟩, some ⟨.out, worldD m ps w⟩, some ⟨.imm, .int (p : Int)⟩, none] := fun p hp => by
    have hlo := loop_same (g := gN 3) (b := l__law_is_it_0) (item := fun (k : Nat) => (⟨.imm, .int (0 + (k : Int))⟩ : R)) (xs := List.range m) (ρ := [some ⟨.out, trlD m ps w⟩, some ⟨.out, worldD m ps w⟩, some ⟨.imm, .int (p : Int)⟩, none]) fun k hk => by
      obtain ⟨r, hr⟩ := h.st.at (p := (p : Int)) (k := (k : Int)) (by omega) (by omega) (by omega) (by rw [List.mem_range] at hk; omega)
      have t6 := e_tstock (kn := m) (ps := ps) hr
      generalize trlD m ps w = T at *
      generalize worldD m ps w = D at *
      simp [x_stp, l__law_is_it_0, hu, k5, t6, w6, hr.ap, hr.ak, rowD, lt, lw, -x_keyR]
    rw [← irng_map] at hlo
    have hr : inR (m : Int) = true := inR_of (by omega) (by omega)
    generalize trlD m ps w = T at *
    generalize worldD m ps w = D at *
    simp [f__law_is_it_0, w4, lt, lw, hr, hlo, -x_keyR]
  have hp : f__law_is_it_1 [some ⟨.out, trlD m ps w⟩, some ⟨.out, worldD m ps w⟩, none, none] = .next [none, none, none, none] := by
    have hlo := loop_same (g := gN 2) (b := l__law_is_it_1) (item := fun (k : Nat) => (⟨.imm, .int (0 + (k : Int))⟩ : R)) (xs := List.range ps.length) (ρ := [some ⟨.out, trlD m ps w⟩, some ⟨.out, worldD m ps w⟩, none, none]) fun k hk0 => by
      have := hk k (by simpa using hk0)
      generalize trlD m ps w = T at *
      generalize worldD m ps w = D at *
      simp [x_stp, l__law_is_it_1, this]
    rw [← irng_map] at hlo
    have hr : inR (ps.length : Int) = true := inR_of (by omega) (by omega)
    generalize trlD m ps w = T at *
    generalize worldD m ps w = D at *
    simp [f__law_is_it_1, w5, lt, lw, lp, hr, hlo, -x_keyR]
  generalize trlD m ps w = T at *
  generalize worldD m ps w = D at *
  generalize eviD ⟨m, ps, w.files, w.finds⟩ = EV at *
  simp [m__law_is_it, b__law_is_it, hu, k1, k2, k3, k4, t1, t2, t3, t4, t5, w1, w2, w3, g1, g2, g3, bSorted, hoki, hso, lt, lw, hp, -x_keyR]
theorem e_written (gv : Bool) (h : 0 < ps.length) : m__law_written [trlD kn ps w, .str (if gv then "gave" else "took")] = .ok ⟨.imm, .str "same party"⟩ [trlD kn ps w] := by
  have hm := e_twrite_no (kn := kn) (ps := ps) (w := w) (p := 0) (k := 0) (a := 1) gv
  have hu : unO (Str.ofString "Trail") (trlD kn ps w) = some (tEs (.int kn) (partiesD ps) (.list (w.stock.map rowD)) (.list (w.files.map fileL)) (.list (w.finds.map encF)) (.list (w.events.map enc)) (.int w.last) (dI w.liars)) := by simp [trlD, trlX]
  have lt : lf (trlD kn ps w) = false := lf_trlD
  generalize trlD kn ps w = T at *
  cases gv <;> simp at hm <;> simp [m__law_written, b__law_written, hu, hm, lt, tryE]
end
end Law

namespace Law
open PySem Oz L2
variable [Oz.WD]
section
variable {ps : List (Bool × Bool)} {m c : Nat} {w : W}
theorem why_ne {d : Deed} {s : String} (h : whyO ps w d = some s) : s ≠ "" := by
  obtain ⟨dw, p, o, k, a, t⟩ := d
  rintro rfl
  cases dw <;> simp only [whyO] at h <;> (repeat' split at h) <;> simp_all
theorem FInv.sub {n : Nat} {last : Int} {fs : List (List Ent)} (h : FInv n last fs) {p : Nat} {g : List Ent} (hg : g.Sublist (fs.getD p [])) : FInv n last (fs.set p g) := by
  refine ⟨by simp [h.len], h.l0, fun i f q => ?_⟩
  rcases get_set q with ⟨rfl, rfl, hlt⟩ | ⟨_, q⟩
  · have ok := h.ok _ _ (getD_some hlt)
    exact ⟨ok.asc.sublist hg, fun x hx => ok.le x (hg.subset hx), fun x hx => ok.kk x (hg.subset hx), fun x hx => ok.oth x (hg.subset hx)⟩
  · exact h.ok i f q
theorem fold_nd : ∀ {L ls : List Int}, ls.Nodup → (L.foldl addL ls).Nodup
  | [], _, h => h
  | x :: L, _, h => fold_nd (L := L) (addL_nd (x := x) h)
structure I40 (ps : List (Bool × Bool)) (m c : Nat) (w : W) : Prop where
  ok : WOk ps.length m c w
  fi : FInv ps.length w.last w.files
  nd : w.liars.Nodup
theorem I40.nums (h : I40 ps m c w) : ∀ f ∈ w.files, (f.map numE).Nodup := fun f hf => by
  obtain ⟨i, hi, rfl⟩ := List.getElem_of_mem hf
  have ok := h.fi.ok i _ (List.getElem?_eq_getElem hi)
  refine (List.pairwise_map.mpr ok.asc).imp fun {a b} h => ?_
  omega
theorem I40.mod (h : I40 ps m c w) {d : Deed} (hd : DOk ps.length m d) (hy : whyO ps w d = none) : I40 ps m (c + 2) (modW ps w d) := by
  by_cases ho : d.w = .omit
  · have hfl := h.ok.fl
    obtain ⟨f, hf, mf⟩ := fAt (fs := w.files) hd.p0 (by rw [h.ok.fl]; exact hd.p1)
    have hg : w.files.getD d.p.toNat [] = f := by rw [List.getD_eq_getElem?_getD, hf.gp]; rfl
    have c1 := h.ok.fc f mf
    obtain ⟨dw, p, o, k, a, s⟩ := d
    simp only at ho hg hf
    subst ho
    simp only [modW, hg]
    have h2 := h.ok.le (c' := c + 2) (by omega)
    have hl := List.length_filter_le (fun x => decide (numE x ≠ a)) f
    have hli := h.ok.li
    have hal := addL_len (ls := w.liars) (x := p)
    refine ⟨⟨h2.st, by simp [hfl], fun g hg => ?_, h2.fi, h2.ev, by show (addL w.liars p).length ≤ c + 2; omega⟩, h.fi.sub (by rw [hg]; exact List.filter_sublist), addL_nd h.nd⟩
    rcases List.mem_or_eq_of_mem_set hg with z | z
    · exact h2.fc g z
    · rw [z]; omega
  · obtain ⟨w', e1, e2⟩ := did_some d hy ho
    rw [e2]
    refine ⟨did_ok h.ok hd e1, (did_files hd h.fi e1).1, ?_⟩
    have hn := h.nd
    obtain ⟨dw, p, o, k, a, s⟩ := d
    cases dw <;> simp only [didW, honestW, liedW2, liedW] at e1
    · split at e1
      · cases e1; exact hn
      · cases e1
    · split at e1
      · cases e1; exact hn
      · cases e1
    · split at e1
      · cases e1; exact hn
      · cases e1
    · cases e1; exact hn
    · split at e1
      · cases e1; exact fold_nd hn
      · cases e1
    · split at e1
      · cases e1; exact fold_nd hn
      · cases e1
    · split at e1
      · cases e1; exact fold_nd hn
      · cases e1
    · split at e1
      · cases e1; exact fold_nd (show (notedW w p o k a s).liars.Nodup from hn)
      · cases e1
    · cases e1; exact fold_nd hn
    · exact absurd rfl ho
theorem toldD_eq {d : Deed} : fEq (toldD w d) (toldD w d) = some true := by
  unfold toldD
  split <;> first | rfl | simp
theorem toldD_val {d : Deed} : (∃ i, toldD w d = .int i) ∨ toldD w d = .none := by
  unfold toldD
  split <;> first | exact .inl ⟨_, rfl⟩ | exact .inr rfl
end
theorem law_step {ns : List Int} {ps : List (Bool × Bool)} {m c : Nat} {w : W} (h : I40 ps m c w) (hc : c < 900) (hm : 1 ≤ m) (hm2 : m ≤ 2) (hp : 1 ≤ ps.length) (hp2 : ps.length ≤ 5) (x : Nat) :
    ∃ w', I40 ps m (c + 2) w' ∧ stp (gN 3) l_law_0 ⟨.imm, .int (0 + (x : Int))⟩ [some ⟨.out, scrD (ns.map .int)⟩, some ⟨.own, worldD m ps w⟩, some ⟨.own, trlD m ps w⟩, none, none, none, none, none] = .next [some ⟨.out, scrD (ns.map .int)⟩, some ⟨.own, worldD m ps w'⟩, some ⟨.own, trlD m ps w'⟩, none, none, none, none, none] := by
  have hcell : m__law_cell [scrD (ns.map .int), .int (2 + (x : Int))] = _ := e_cell ns (2 + x)
  obtain ⟨d, hd, hdo, _⟩ := e_deed (dr ns (2 + x)) h.ok (by omega) (by omega) 4
  have hw := e_why (kn := m) h.ok (by omega) hdo
  have ht := e_told (kn := m) h.ok (by omega) h.nd hdo
  have hi := e_isit m h.ok (by omega) (by omega) (by omega)
  have lw : lf (worldD m ps w) = false := lf_worldD
  have lt : lf (trlD m ps w) = false := lf_trlD
  have ld : lf (deedD d) = true := by simp [deedD]
  have ld2 : storable ⟨.imm, deedD d⟩ = true := rfl
  cases q : whyO ps w d with
  | some s =>
    have hs := why_ne q
    rw [q] at hw ht
    have h2 : I40 ps m (c + 2) w := ⟨h.ok.le (by omega), h.fi, h.nd⟩
    refine ⟨w, h2, ?_⟩
    simp only [Option.getD] at hw
    simp only at ht
    generalize worldD m ps w = D1 at *
    generalize trlD m ps w = T1 at *
    generalize deedD d = DD at *
    simp [x_stp, l_law_0, t_law_2, t_law_1, t_law_0, hcell, hd, hw, ht, hi, lw, lt, ld, hs]
  | none =>
    rw [q] at hw ht
    have h2 := h.mod hdo q
    have hmod := e_modelled (kn := m) h.ok (by omega) hdo q h.nums h2.ok
    have hi2 := e_isit m h2.ok (by omega) (by omega) (by omega)
    have lw2 : lf (worldD m ps (modW ps w d)) = false := lf_worldD
    have lt2 : lf (trlD m ps (modW ps w d)) = false := lf_trlD
    have heq := toldD_eq (w := w) (d := d)
    have lto := lf_toldD (w := w) (d := d)
    refine ⟨modW ps w d, h2, ?_⟩
    simp only [Option.getD] at hw
    simp only at ht
    generalize worldD m ps (modW ps w d) = D2 at *
    generalize trlD m ps (modW ps w d) = T2 at *
    generalize worldD m ps w = D1 at *
    generalize trlD m ps w = T1 at *
    generalize deedD d = DD at *
    generalize toldD w d = TT at *
    simp [x_stp, l_law_0, t_law_2, t_law_1, t_law_0, hcell, hd, hw, ht, hmod, hi2, lw, lt, lw2, lt2, ld, heq, lto]
theorem law_loop {ns : List Int} {ps : List (Bool × Bool)} {m : Nat} {w : W} (h : I40 ps m 0 w) (hm : 1 ≤ m) (hm2 : m ≤ 2) (hp : 1 ≤ ps.length) (hp2 : ps.length ≤ 5) :
    ∃ w', I40 ps m 200 w' ∧ f_law_0 [some ⟨.out, scrD (ns.map .int)⟩, some ⟨.own, worldD m ps w⟩, some ⟨.own, trlD m ps w⟩, none, none, none, none, none] = .next [none, some ⟨.own, worldD m ps w'⟩, some ⟨.own, trlD m ps w'⟩, none, none, none, none, none] := by
  have hcell : m__law_cell [scrD (ns.map .int), .int 0] = _ := e_cell ns 0
  obtain ⟨k, hk⟩ := Int.eq_ofNat_of_zero_le (a := dr ns 0 % 51) (by omega)
  have hk2 : k ≤ 50 := by omega
  obtain ⟨w', e, hI⟩ := loop_st (g := gN 3) (b := l_law_0) (item := fun (k : Nat) => (⟨.imm, .int (0 + (k : Int))⟩ : R))
    (fun w => [some ⟨.out, scrD (ns.map .int)⟩, some ⟨.own, worldD m ps w⟩, some ⟨.own, trlD m ps w⟩, none, none, none, none, none])
    (fun pre w => I40 ps m (2 * pre.length) w) (List.range k) w h (by
      rintro pre x post w hx hI
      obtain ⟨rfl, hx2⟩ := pre_rng hx
      obtain ⟨w', h1, h2⟩ := law_step (ns := ns) hI (by omega) hm hm2 hp hp2 pre.length
      refine ⟨w', h2, ?_⟩
      rw [List.length_append]
      exact h1)
  rw [← irng_map] at e
  simp at hI
  have hr : inR (k : Int) = true := inR_of (by omega) (by omega)
  refine ⟨w', ⟨hI.ok.le (by omega), hI.fi, hI.nd⟩, ?_⟩
  have l1 : lf (worldD m ps w) = false := lf_worldD
  have l2 : lf (trlD m ps w) = false := lf_trlD
  have l3 : lf (worldD m ps w') = false := lf_worldD
  have l4 : lf (trlD m ps w') = false := lf_trlD
  generalize worldD m ps w = D1 at *
  generalize trlD m ps w = T1 at *
  generalize worldD m ps w' = D2 at *
  generalize trlD m ps w' = T2 at *
  simp [f_law_0, hcell, hk, hr, e, l1, l2, l3, l4]
theorem e_tinit (m : Nat) (ps : List (Bool × Bool)) (hm : m < 100) (hp : ps.length < 100) : m_Trail___init__ [objD (Str.ofString "Trail") [], .int m, .list (ps.map fun p => .tuple [.bool p.1, .bool p.2])] = .ok ⟨.imm, .none⟩ [trlD m ps (W0 ps.length m)] := by
  have hs : sizeLine = 16777216 := rfl
  have hmul : ∀ t, mulR ⟨.own, .list [.int 0]⟩ ⟨t, .int (m : Int)⟩ = .ok ⟨.own, rowD (List.replicate m 0)⟩ := fun t => by
    have e1 : (List.replicate m [(PyData.int 0 : D)]).flatten = (List.replicate m (0 : Int)).map PyData.int := by
      induction m with
      | zero => rfl
      | succ n ih => rw [List.replicate_succ, List.flatten_cons, ih (by omega), List.replicate_succ]; rfl
    have e2 : (m : Int).toNat = m := by omega
    have hb : (-9223372036854775808 : Int) ≤ (m : Int) ∧ (m : Int) < 9223372036854775808 := by omega
    unfold mulR
    simp only [e2]
    rw [if_pos (by rw [gd_s]; refine ⟨decide_eq_true (by simpa using hb), by simp; omega, rfl⟩), e1, dnew_lf lfs_map_int]
    rfl
  have lps : lfs (ps.map fun p => PyData.tuple [.bool p.1, .bool p.2]) = true := lf_parties (ps := ps)
  have hsub : ∀ s, srcR ⟨s, partiesD ps⟩ = .ok (ps.map fun p => (⟨.imm, .tuple [.bool p.1, .bool p.2]⟩ : R)) := fun s => by
    show Res.ok ((ps.map fun p => PyData.tuple [.bool p.1, .bool p.2]).map (sub s)) = _
    rw [List.map_map]
    exact congrArg _ (List.map_congr_left fun p _ => by simp)
  have hst : ∀ T : R, compE (cN 3) tYesD c_Trail___init___0 [some T, some ⟨.imm, .int m⟩, some ⟨.out, .list (ps.map fun p => .tuple [.bool p.1, .bool p.2])⟩, none] (ps.map fun p => (⟨.imm, .tuple [.bool p.1, .bool p.2]⟩ : R)) = some (ps.map fun _ => (⟨.own, rowD (List.replicate m 0)⟩ : R)) := fun T => by
    refine comp_map1 fun p _ => ⟨[some T, some ⟨.imm, .int m⟩, some ⟨.out, .list (ps.map fun p => .tuple [.bool p.1, .bool p.2])⟩, some ⟨.imm, .tuple [.bool p.1, .bool p.2]⟩], by simp, ?_⟩
    simp [c_Trail___init___0, hmul, sizeLine]
  have hcr2 : compR (ps.map fun _ => (⟨.own, rowD (List.replicate m 0)⟩ : R)) = .ok ⟨.own, .list ((List.replicate ps.length (List.replicate m (0 : Int))).map rowD)⟩ := by
    rw [compR_own (e := fun _ => rowD (List.replicate m 0)) (by omega) fun _ _ => rfl]
    simp [List.map_const']
  have hfl : ∀ T : R, compE (cN 3) tYesD c_Trail___init___1 [some T, some ⟨.imm, .int m⟩, some ⟨.out, .list (ps.map fun p => .tuple [.bool p.1, .bool p.2])⟩, none] (ps.map fun p => (⟨.imm, .tuple [.bool p.1, .bool p.2]⟩ : R)) = some (ps.map fun _ => (⟨.own, fileL []⟩ : R)) := fun T => by
    refine comp_map1 fun p _ => ⟨[some T, some ⟨.imm, .int m⟩, some ⟨.out, .list (ps.map fun p => .tuple [.bool p.1, .bool p.2])⟩, some ⟨.imm, .tuple [.bool p.1, .bool p.2]⟩], by simp, ?_⟩
    simp [c_Trail___init___1, fileL, sizeLine]
  have hcr3 : compR (ps.map fun _ => (⟨.own, fileL []⟩ : R)) = .ok ⟨.own, .list ((List.replicate ps.length ([] : List Ent)).map fileL)⟩ := by
    rw [compR_own (e := fun _ => fileL []) (by omega) fun _ _ => rfl]
    simp [List.map_const']
  have htp : ∀ s, bTuple [⟨s, .list (ps.map fun p => .tuple [.bool p.1, .bool p.2])⟩] = .ok ⟨.imm, partiesD ps⟩ := fun s => by
    rw [x_tup_l, tnew_lf lps]
    rfl
  have lpp : lf (partiesD ps) = true := by simp
  have e0 : trlD m ps (W0 ps.length m) = objD (Str.ofString "Trail") (tEs (.int m) (partiesD ps) (.list ((List.replicate ps.length (List.replicate m (0 : Int))).map rowD)) (.list ((List.replicate ps.length ([] : List Ent)).map fileL)) (.list []) (.list []) (.int 0) (dI [])) := rfl
  rw [e0]
  unfold tEs
  generalize hA : (List.replicate ps.length (List.replicate m (0 : Int))).map rowD = A at *
  generalize hB : (List.replicate ps.length ([] : List Ent)).map fileL = B at *
  generalize (ps.map fun p => PyData.tuple [.bool p.1, .bool p.2]) = PL at *
  generalize partiesD ps = PP at *
  simp [m_Trail___init__, b_Trail___init__, q_Trail___init___0, q_Trail___init___1, htp, hsub, hst, hcr2, hfl, hcr3, lpp, flatP, sizeLine]
  rfl
theorem law_true : ∀ ns : List Int, ns.length ≤ 63 → m_law [scrD (ns.map .int)] = .ok ⟨.imm, .bool true⟩ [] := fun ns hns => by
  have hc : m__law_cell [scrD (ns.map .int), .int 1] = _ := e_cell ns 1
  obtain ⟨ps, hps, p1, p2⟩ := e_parties (dr ns 1) 5 (by decide) (by decide)
  have hps : m__law_parties [.int (dr ns 1), .int 5] = _ := hps
  obtain ⟨m, hm⟩ := Int.eq_ofNat_of_zero_le (a := 1 + dr ns 1 / 7 % 2) (by omega)
  have hm3 : 1 ≤ m ∧ m ≤ 2 := by omega
  have hb := e_begun m ps (by omega) (by omega)
  have hi := e_tinit m ps (by omega) (by omega)
  have h0 : I40 ps m 0 (W0 ps.length m) := ⟨W0_ok _ _, ⟨by simp [W0], by simp [W0], fun i f e => by
      have := List.eq_of_mem_replicate (List.mem_of_getElem? e)
      subst this
      exact ⟨by simp, by simp, by simp, by simp⟩⟩, by simp [W0]⟩
  obtain ⟨w', h1, e1⟩ := law_loop (ns := ns) h0 hm3.1 hm3.2 p1 p2
  have hw1 := e_written (kn := m) (w := w') true (show 0 < ps.length by omega)
  have hw2 := e_written (kn := m) (w := w') false (show 0 < ps.length by omega)
  have hii := e_isit m h1.ok (by omega) (by omega) (by omega)
  have w4 : ∀ s t, keyR ⟨s, worldD m ps (W0 ps.length m)⟩ ⟨t, .str (Str.ofString "kinds")⟩ = .ok ⟨.imm, .int m⟩ := fun s t => by simp [worldD, worldX]
  have w5 : ∀ s t, keyR ⟨s, worldD m ps (W0 ps.length m)⟩ ⟨t, .str (Str.ofString "parties")⟩ = .ok ⟨.imm, partiesD ps⟩ := fun s t => by simp [worldD, worldX]
  have lpd : partiesD ps = .tuple (ps.map fun p => .tuple [.bool p.1, .bool p.2]) := rfl
  have lpf : lf (partiesD ps) = true := by simp
  have lpl : ∀ s, bList [⟨s, partiesD ps⟩] = .ok ⟨.own, .list (ps.map fun p => .tuple [.bool p.1, .bool p.2])⟩ := fun s => by
    have : lfs (ps.map fun p => PyData.tuple [.bool p.1, .bool p.2]) = true := lpf
    rw [lpd, x_list_t, dnew_lf this]
  have l1 : lf (worldD m ps (W0 ps.length m)) = false := lf_worldD
  have l2 : lf (trlD m ps (W0 ps.length m)) = false := lf_trlD
  have l3 : lf (worldD m ps w') = false := lf_worldD
  have l4 : lf (trlD m ps w') = false := lf_trlD
  generalize worldD m ps (W0 ps.length m) = D0 at *
  generalize trlD m ps (W0 ps.length m) = T0 at *
  generalize worldD m ps w' = D2 at *
  generalize trlD m ps w' = T2 at *
  simp only [if_true, Bool.false_eq_true, if_false] at hw1 hw2
  generalize (ps.map fun p => PyData.tuple [.bool p.1, .bool p.2]) = PL at *
  generalize partiesD ps = PP at *
  simp [m_law, b_law, t_law_5, t_law_4, t_law_3, hc, hps, hm, hb, w4, w5, lpl, hi, e1, f_law_1, l_law_1, loop_c, x_stp, hw1, hw2, hii, l1, l2, l3, l4, lpf, sizeLine, -x_keyR]
end Law

namespace Law
open PySem PySem.Spec L2 Oz
open PyProof.Rows hiding St
theorem txt [WD] {w : World} (hw : w = WD.w) {K : PySem.W.Frag} {h : Heap} {mg : Str → Option Value} (X : K.In h) (G : h.Ns mainGlobals mg) (c : He.SaysD fa fn K) (k : ck K = true) (dk : dn.map (fun q => He.dicW K (He.ga K q.1)) = dn.map (fun q => some (He.keysIn w.params q.2))) {base : Heap} (cz0 : SaysE fa fn ck dn tf rs fl w h K) (cz : SaysZ fa fn ck dn tf w h K) (tb : ∀ p ∈ tf, GxR.TabB base mg (He.cT K p).1 (He.cT K p).2) : Txt (PySem.Challenge.rw_notetrail_k40_trails).prog w K mg base where
  hw := hw
  f__law_begun := by
    obtain ⟨fd, F⟩ := c.def_ 0 (d := d__law_begun) rfl
    exact ⟨_, fd, F, He.glo_ok X G (c.fact 0 (f := .glo "_law_begun") rfl)⟩
  f_Trail___init__ := by
    obtain ⟨fd, F⟩ := c.def_ 1 (d := d_Trail___init__) rfl
    exact ⟨_, fd, F, He.mkr_ok (c.fact 1 (f := .mkr "Trail") rfl)⟩
  f_Trail_evidence := by
    obtain ⟨fd, F⟩ := c.def_ 2 (d := d_Trail_evidence) rfl
    exact ⟨_, fd, F, He.meth_ok (c.fact 2 (f := .meth "Trail" "evidence") rfl)⟩
  f__law_evidence := by
    obtain ⟨fd, F⟩ := c.def_ 3 (d := d__law_evidence) rfl
    exact ⟨_, fd, F, He.glo_ok X G (c.fact 3 (f := .glo "_law_evidence") rfl)⟩
  f_Trail_history := by
    obtain ⟨fd, F⟩ := c.def_ 4 (d := d_Trail_history) rfl
    exact ⟨_, fd, F, He.meth_ok (c.fact 4 (f := .meth "Trail" "history") rfl)⟩
  f_Trail_numbers := by
    obtain ⟨fd, F⟩ := c.def_ 5 (d := d_Trail_numbers) rfl
    exact ⟨_, fd, F, He.meth_ok (c.fact 5 (f := .meth "Trail" "numbers") rfl)⟩
  f_Trail_dishonest := by
    obtain ⟨fd, F⟩ := c.def_ 6 (d := d_Trail_dishonest) rfl
    exact ⟨_, fd, F, He.meth_ok (c.fact 6 (f := .meth "Trail" "dishonest") rfl)⟩
  f_Trail_stock := by
    obtain ⟨fd, F⟩ := c.def_ 7 (d := d_Trail_stock) rfl
    exact ⟨_, fd, F, He.meth_ok (c.fact 7 (f := .meth "Trail" "stock") rfl)⟩
  f__law_is_it := by
    obtain ⟨fd, F⟩ := c.def_ 8 (d := d__law_is_it) rfl
    exact ⟨_, fd, F, He.glo_ok X G (c.fact 8 (f := .glo "_law_is_it") rfl)⟩
  f__law_draws := by
    obtain ⟨fd, F⟩ := c.def_ 9 (d := d__law_draws) rfl
    exact ⟨_, fd, F, He.glo_ok X G (c.fact 9 (f := .glo "_law_draws") rfl)⟩
  f__law_parties := by
    obtain ⟨fd, F⟩ := c.def_ 10 (d := d__law_parties) rfl
    exact ⟨_, fd, F, He.glo_ok X G (c.fact 10 (f := .glo "_law_parties") rfl)⟩
  f__law_deed := by
    obtain ⟨fd, F⟩ := c.def_ 11 (d := d__law_deed) rfl
    exact ⟨_, fd, F, He.glo_ok X G (c.fact 11 (f := .glo "_law_deed") rfl)⟩
  f__law_why_not := by
    obtain ⟨fd, F⟩ := c.def_ 12 (d := d__law_why_not) rfl
    exact ⟨_, fd, F, He.glo_ok X G (c.fact 12 (f := .glo "_law_why_not") rfl)⟩
  f_Trail_omit := by
    obtain ⟨fd, F⟩ := c.def_ 13 (d := d_Trail_omit) rfl
    exact ⟨_, fd, F, He.meth_ok (c.fact 13 (f := .meth "Trail" "omit") rfl)⟩
  f_Trail_next_number := by
    obtain ⟨fd, F⟩ := c.def_ 14 (d := d_Trail_next_number) rfl
    exact ⟨_, fd, F, He.meth_ok (c.fact 14 (f := .meth "Trail" "next_number") rfl)⟩
  f_Trail_make := by
    obtain ⟨fd, F⟩ := c.def_ 15 (d := d_Trail_make) rfl
    exact ⟨_, fd, F, He.meth_ok (c.fact 15 (f := .meth "Trail" "make") rfl)⟩
  f_Trail_check_stock := by
    obtain ⟨fd, F⟩ := c.def_ 16 (d := d_Trail_check_stock) rfl
    exact ⟨_, fd, F, He.meth_ok (c.fact 16 (f := .meth "Trail" "check_stock") rfl)⟩
  f_Trail_treat := by
    obtain ⟨fd, F⟩ := c.def_ 17 (d := d_Trail_treat) rfl
    exact ⟨_, fd, F, He.meth_ok (c.fact 17 (f := .meth "Trail" "treat") rfl)⟩
  f_Trail_note := by
    obtain ⟨fd, F⟩ := c.def_ 18 (d := d_Trail_note) rfl
    exact ⟨_, fd, F, He.meth_ok (c.fact 18 (f := .meth "Trail" "note") rfl)⟩
  f_Trail_move := by
    obtain ⟨fd, F⟩ := c.def_ 19 (d := d_Trail_move) rfl
    exact ⟨_, fd, F, He.meth_ok (c.fact 19 (f := .meth "Trail" "move") rfl)⟩
  f_Trail_hand := by
    obtain ⟨fd, F⟩ := c.def_ 20 (d := d_Trail_hand) rfl
    exact ⟨_, fd, F, He.meth_ok (c.fact 20 (f := .meth "Trail" "hand") rfl)⟩
  f_Trail_inspect := by
    obtain ⟨fd, F⟩ := c.def_ 21 (d := d_Trail_inspect) rfl
    exact ⟨_, fd, F, He.meth_ok (c.fact 21 (f := .meth "Trail" "inspect") rfl)⟩
  f_Trail_pass_on := by
    obtain ⟨fd, F⟩ := c.def_ 22 (d := d_Trail_pass_on) rfl
    exact ⟨_, fd, F, He.meth_ok (c.fact 22 (f := .meth "Trail" "pass_on") rfl)⟩
  f_Trail_dump := by
    obtain ⟨fd, F⟩ := c.def_ 23 (d := d_Trail_dump) rfl
    exact ⟨_, fd, F, He.meth_ok (c.fact 23 (f := .meth "Trail" "dump") rfl)⟩
  f_Trail_conjure := by
    obtain ⟨fd, F⟩ := c.def_ 24 (d := d_Trail_conjure) rfl
    exact ⟨_, fd, F, He.meth_ok (c.fact 24 (f := .meth "Trail" "conjure") rfl)⟩
  f_Trail_sign := by
    obtain ⟨fd, F⟩ := c.def_ 25 (d := d_Trail_sign) rfl
    exact ⟨_, fd, F, He.meth_ok (c.fact 25 (f := .meth "Trail" "sign") rfl)⟩
  f_Trail_write := by
    obtain ⟨fd, F⟩ := c.def_ 26 (d := d_Trail_write) rfl
    exact ⟨_, fd, F, He.meth_ok (c.fact 26 (f := .meth "Trail" "write") rfl)⟩
  f__law_told := by
    obtain ⟨fd, F⟩ := c.def_ 27 (d := d__law_told) rfl
    exact ⟨_, fd, F, He.glo_ok X G (c.fact 27 (f := .glo "_law_told") rfl)⟩
  f__law_cell := by
    obtain ⟨fd, F⟩ := c.def_ 28 (d := d__law_cell) rfl
    exact ⟨_, fd, F, He.glo_ok X G (c.fact 28 (f := .glo "_law_cell") rfl)⟩
  f__law_noted := by
    obtain ⟨fd, F⟩ := c.def_ 29 (d := d__law_noted) rfl
    exact ⟨_, fd, F, He.glo_ok X G (c.fact 29 (f := .glo "_law_noted") rfl)⟩
  f__law_lied := by
    obtain ⟨fd, F⟩ := c.def_ 30 (d := d__law_lied) rfl
    exact ⟨_, fd, F, He.glo_ok X G (c.fact 30 (f := .glo "_law_lied") rfl)⟩
  f__law_honest := by
    obtain ⟨fd, F⟩ := c.def_ 31 (d := d__law_honest) rfl
    exact ⟨_, fd, F, He.glo_ok X G (c.fact 31 (f := .glo "_law_honest") rfl)⟩
  f__law_did := by
    obtain ⟨fd, F⟩ := c.def_ 32 (d := d__law_did) rfl
    exact ⟨_, fd, F, He.glo_ok X G (c.fact 32 (f := .glo "_law_did") rfl)⟩
  f__law_modelled := by
    obtain ⟨fd, F⟩ := c.def_ 33 (d := d__law_modelled) rfl
    exact ⟨_, fd, F, He.glo_ok X G (c.fact 33 (f := .glo "_law_modelled") rfl)⟩
  f__law_written := by
    obtain ⟨fd, F⟩ := c.def_ 34 (d := d__law_written) rfl
    exact ⟨_, fd, F, He.glo_ok X G (c.fact 34 (f := .glo "_law_written") rfl)⟩
  f_law := by
    obtain ⟨fd, F⟩ := c.def_ 35 (d := d_law) rfl
    exact ⟨_, fd, F, He.glo_ok X G (c.fact 35 (f := .glo "law") rfl)⟩
  cl_Trail := He.cls_ok (c.fact 36 (f := .cls "Trail") rfl)
  g_Trail := He.glo_ok X G (c.fact 37 (f := .glo "Trail") rfl)
  na_Trail_kinds := He.noat_ok (c.fact 38 (f := .noat "Trail" "kinds") rfl)
  na_Trail_parties := He.noat_ok (c.fact 39 (f := .noat "Trail" "parties") rfl)
  na_Trail_stocks := He.noat_ok (c.fact 40 (f := .noat "Trail" "stocks") rfl)
  na_Trail_files := He.noat_ok (c.fact 41 (f := .noat "Trail" "files") rfl)
  na_Trail_finds := He.noat_ok (c.fact 42 (f := .noat "Trail" "finds") rfl)
  na_Trail_events := He.noat_ok (c.fact 43 (f := .noat "Trail" "events") rfl)
  na_Trail_last := He.noat_ok (c.fact 44 (f := .noat "Trail" "last") rfl)
  na_Trail_liars := He.noat_ok (c.fact 45 (f := .noat "Trail" "liars") rfl)
  b_range := He.free_ok X G (c.fact 46 (f := .free "range") rfl)
  b_tuple := He.free_ok X G (c.fact 47 (f := .free "tuple") rfl)
  b_list := He.free_ok X G (c.fact 48 (f := .free "list") rfl)
  b_sorted := He.free_ok X G (c.fact 49 (f := .free "sorted") rfl)
  b_len := He.free_ok X G (c.fact 50 (f := .free "len") rfl)
  b_int := He.free_ok X G (c.fact 51 (f := .free "int") rfl)
  rf_Refused := cz0.rf 0 (r := ⟨"Refused", xp_Refused⟩) rfl rfl (by kernel_rfl) (fun _ _ _ _ _ => ⟨_, rfl⟩) (He.glo_ok X G (c.fact 52 (f := .glo "Refused") rfl)) (He.free_ok X G (c.fact 53 (f := .free "super") rfl))
theorem facts [WD] {w : World} {K : PySem.W.Frag} {h : Heap} {mg : Str → Option Value} {fa' : Addr} (X : K.In h) (G : h.Ns mainGlobals mg) (hfa : mg ("law" : Str) = some (.ref fa')) (c : He.SaysD fa fn K) (k : ck K = true) (dk : dn.map (fun q => He.dicW K (He.ga K q.1)) = dn.map (fun q => some (He.keysIn w.params q.2))) (cz0 : SaysE fa fn ck dn tf rs fl w h K) (cz : SaysZ fa fn ck dn tf w h K) (hw : w = WD.w) :
    ∃ fd : FuncData, (∀ (s : Shared) (v : Value), BindsTo s fd ⟨[v], []⟩ [("_law_script", v)]) ∧ ∀ base : Heap, K.In base → base.Ns mainGlobals mg → (∀ p ∈ tf, GxR.TabB base mg (He.cT K p).1 (He.cT K p).2) → FnOk (PySem.Challenge.rw_notetrail_k40_trails).prog w K mg base CX0 6 fa' fd ["_law_script"] (spF K [.v] m_law) := by
  obtain ⟨fd, F⟩ := c.def_ 35 (d := d_law) rfl
  have hm : mg ("law" : Str) = some (.ref _) := He.glo_ok X G (c.fact 35 (f := .glo "law") rfl)
  have e := hfa.symm.trans hm
  cases e
  have b := FunD.bindsA (ps := ["_law_script"]) F fun _ _ _ _ _ _ us hl => match us, hl with | [_], _ => rfl
  exact ⟨fd, fun s v => b s [v] rfl, fun base _ _ tb => ok_law (txt hw X G c k dk cz0 cz tb) F⟩
end Law
open PySem PySem.W PySem.Calls PyProof.Rows
theorem PySem.Challenge.cw_notetrail_k40_trails_holds : PySem.Challenge.rw_notetrail_k40_trails.Holds := by
  w_on; o_law
  refine HandSHeadRun.head_any (r := OpenLaw.row PySem.Challenge.rw_notetrail_k40_trails) (q := view (OpenLaw.row PySem.Challenge.rw_notetrail_k40_trails).prog [23]) (H := Law.hk) (ob := Law.ob) (M := 3000) (loose := Law.loose) (d := HandSHeadRun.topDef (OpenLaw.row PySem.Challenge.rw_notetrail_k40_trails).prog 23) (kwd := []) Law.ob_eq
    (by kernel_rfl) (fun s => by kernel_rfl) Law.run (by kernel_rfl) (by kernel_rfl) (by kernel_rfl) (by rfl) (by first | assumption | decide +kernel) (by decide +kernel) ⟨rfl, rfl, rfl, rfl, rfl, by decide +kernel⟩ ?hw ?hc
  case hw => w_witness2
  case hc =>
    refine Oz.walk_ofTsE (l := PySem.Challenge.rw_notetrail_k40_trails) (n := 63) (k := 6) (x := "_law_script") rfl (by decide) (by kernel_rfl) ⟨rfl, by decide, by decide⟩ ?F
    intro w mg fa h Y G hmg0
    letI : Oz.WD := ⟨(PySem.Challenge.rw_notetrail_k40_trails).prog, w⟩
    obtain ⟨K, KX, cz0⟩ := Y
    have cz := cz0.toSaysZ
    have hmg : mg ("law" : PySem.Str) = some (.ref fa) := by
      have e : (HandSHeadRun.topDef (OpenLaw.row PySem.Challenge.rw_notetrail_k40_trails).prog 23).name = ("law" : PySem.Str) := by kernel_rfl
      rw [← e]
      exact hmg0
    obtain ⟨fd, hb, hF⟩ := Law.facts (w := w) KX G hmg cz.d cz.ck cz.dn cz0 cz rfl
    exact ⟨K, KX, Oz.lawAt KX cz hb Law.law_true hF⟩
