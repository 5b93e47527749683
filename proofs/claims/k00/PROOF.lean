import PyProof.Rows.All
import Wide.All
import OpenK.AllK
import Wide.FinOn
import HandS.ForMost
import HandS.Deep
import HandS.HeadHook2
import HandS.AnyAll
import KE.KeyNested
import KE.KDictCopyH
import HandS.HeadHook4
import HandS.EndTab
import HandS.NestedK
import HandS.Head2
import HandS.HeadEnd
import HandS.TupAny
import HandS.Flow
import HandS.ForDict
import KE.GoesMore
import HandS.TupLe
import HandS.IsInst
import HandS.More
import HandS.HeadHook3
import PyProof.Rows.CountFlat
import KE.SortData
import PyProof.JoinWalk
import PyProof.WalksMore
import KE.KNest
import PyProof.ReprRoads
import PyProof.ReprBulk
import KE.SortKeyHeap
import KE.KDictSum
import HandS.SortKw
import HandS.ExcValue
import HandS.Keys
import KE.DataMinMax
import HandS.DictComp
import HandS.SortInts
import HandS.Exc
import HandS.ExcInit
import HandS.ExcField
import HandS.Nested
import KE.KExcSuper
import KE.KSuper
import HandS.CallSlots
import HandS.Conv
import HandS.GenOver
import HandS.GenList
import HandS.Style
import HandS.TupMul
import PySem.Challenge.RW_notetrail_k00_what_is_evidence
set_option Elab.async false
set_option linter.all false
set_option maxRecDepth 100000
set_option maxHeartbeats 0
namespace Oz
open PySem PySem.Spec PyProof.Rows L2

abbrev D := PyData
/-- a guard that no reduction opens -/
theorem gd_ex (b : Bool) : ∃ x : Bool, x = b := ⟨b, rfl⟩
noncomputable def gd (b : Bool) : Bool := Classical.choose (gd_ex b)
theorem gd_eq (b : Bool) : gd b = b := Classical.choose_spec (gd_ex b)
theorem gd_el {b : Bool} (h : gd b = true) : b = true := (gd_eq b).symm.trans h
/-! ### data: what is a value of its own, what holds no list or dict -/
def isVal : D → Bool
  | .list _ => false
  | .dict ((.bool false, _) :: _) => true
  | .dict _ => false
  | _ => true
mutual
def lf : D → Bool
  | .list _ => false
  | .dict _ => false
  | .tuple xs => lfs xs
  | .none => true
  | .bool _ => true
  | .int _ => true
  | .str _ => true
def lfs : List D → Bool
  | [] => true
  | x :: xs => lf x && lfs xs
end
theorem lf_val : ∀ {d : D}, lf d = true → isVal d = true
  | .none, _ => rfl
  | .bool _, _ => rfl
  | .int _, _ => rfl
  | .str _, _ => rfl
  | .tuple _, _ => rfl
  | .list _, h => by simp [lf] at h
  | .dict _, h => by simp [lf] at h
/-- a key as data -/
def kd : Key → D
  | .inl i => .int i
  | .inr x => .str x
/-- the script; an object of the class c with its attributes, as data -/
def scrD (ds : List D) : D := .dict [(.none, .list ds)]
/-- just this object, whatever it is -/
def ptrD (a : Addr) : D := .dict [(.bool false, .int (a : Nat))]
def objD (c : Str) (fs : List (D × D)) : D := .dict ((.none, .str c) :: fs)

/-! ### data in a heap -/
/-- a list that one looks at only -/
def SqF (K : PySem.W.Frag) (C : Hp) (a : Addr) (xs : List V) : Prop := SqL K C a xs
theorem SqF.sqL {K : PySem.W.Frag} {C : Hp} {a : Addr} {xs : List V} (h : SqF K C a xs) : SqL K C a xs := h
theorem SqF.mono {K : PySem.W.Frag} {C C' : Hp} {a : Addr} {xs : List V} (e : Same C C') (h : SqF K C a xs) : SqF K C' a xs := by
  rcases h with (h | ⟨o, h⟩) | h
  · exact .inl (.inl (e _ _ h))
  · exact .inl (.inr ⟨o, e _ _ h⟩)
  · exact .inr h
mutual
inductive Rep (K : PySem.W.Frag) (C : Hp) : V → D → Prop
  | non : Rep K C .non .none
  | bl (b : Bool) : Rep K C (.bl b) (.bool b)
  | int (i : Int) : Rep K C (.int i) (.int i)
  | str (x : Str) : Rep K C (.str x) (.str x)
  | lst {a : Addr} {xs : List V} {ds : List D} : C a = some (.lst xs) → Reps K C xs ds → Rep K C (.ref a) (.list ds)
  | scr {a : Addr} {xs : List V} {ds : List D} : SqF K C a xs → Reps K C xs ds → Rep K C (.ref a) (scrD ds)
  | tup {a : Addr} {xs : List V} {ds : List D} : SqT K C a xs → Reps K C xs ds → Rep K C (.ref a) (.tuple ds)
  | dct {a : Addr} {kvs : List (Key × V)} {es : List (D × D)} : C a = some (.dK kvs) → es.map (·.1) = kvs.map (fun p => kd p.1) → Reps K C (kvs.map (·.2)) (es.map (·.2)) → Rep K C (.ref a) (.dict es)
  | ptr (a : Addr) : Rep K C (.ref a) (ptrD a)
  | obj {a Cl dx : Addr} {c : Str} {fs : List (Str × V)} {es : List (D × D)} : C a = some (.ins Cl dx fs) → Cl = He.ga K c → es.map (·.1) = fs.map (fun p => PyData.str p.1) → Reps K C (fs.map (·.2)) (es.map (·.2)) → Rep K C (.ref a) (objD c es)
inductive Reps (K : PySem.W.Frag) (C : Hp) : List V → List D → Prop
  | nil : Reps K C [] []
  | cons {v : V} {vs : List V} {d : D} {ds : List D} : Rep K C v d → Reps K C vs ds → Reps K C (v :: vs) (d :: ds)
end
theorem Same.seqT {K : PySem.W.Frag} {H H' : Hp} {a : Addr} {xs : List V} (e : Same H H') (h : SqT K H a xs) : SqT K H' a xs := by
  rcases h with (h | ⟨o, h⟩) | h
  · exact .inl (.inl (e _ _ h))
  · exact .inl (.inr ⟨o, e _ _ h⟩)
  · exact .inr h
/-- the code object at c, its table at P -/
abbrev codO (c P : Addr) : HO := .ext fun h => PySem.W.CodeHd h c P
/-- the places of the generator expressions that hold others (of all laws; one that is flat must not stand at such a place) -/
def nestPos : List (Nat × Nat) := [(63, 15), (64, 15), (65, 15), (67, 15), (71, 15), (154, 15), (166, 15), (186, 19)]
def nestP (p : Pos) : Bool := nestPos.contains (p.line, p.col)
/-- each code object that a table names at such a place is known, and so is its own table -/
def Trk (H : Hp) (b : Addr) : Prop := ∀ ps : Array Value, H b = some (.tbl ps) → ∀ pos cv, nestP pos = true → codeAmong pos ps.toList = some cv → ∃ c P, cv = .ref c ∧ P ≠ b ∧ H c = some (codO c P) ∧ GxR.TabG H P
def TabQ (n : Bool) (H : Hp) (b : Addr) : Prop := GxR.TabG H b ∧ (n = true → Trk H b)
def NSys (p : Addr) (x : Option HO) : Prop := (∀ ps, x ≠ some (.tbl ps)) ∧ ∀ P, p ≠ P → x ≠ some (codO p P)
/-- the running world -/
class WD where
  p : Program
  w : World
theorem TabQ.to {n : Bool} {H H' : Hp} {b : Addr} (h : TabQ n H b) (k1 : ∀ x ps, H x = some (.tbl ps) → H' x = some (.tbl ps)) (k2 : ∀ c P, c ≠ P → H c = some (codO c P) → H' c = some (codO c P)) : TabQ n H' b := by
  obtain ⟨⟨ps, h1, h2⟩, h3⟩ := h
  refine ⟨⟨ps, k1 _ _ h1, h2⟩, fun e ps' h4 pos cv hn h5 => ?_⟩
  rw [k1 _ _ h1] at h4
  cases h4
  obtain ⟨c, P, q1, q0, q2, ps2, q3, q4⟩ := h3 e ps h1 pos cv hn h5
  exact ⟨c, P, q1, q0, k2 _ _ (fun e => by rw [e, q3] at q2; cases q2) q2, ps2, k1 _ _ q3, q4⟩
theorem upd_tab {n : Bool} {H : Hp} {p a : Addr} {o : HO} (e : NSys p (H p)) (h : TabQ n H a) : TabQ n (upd H p o) a :=
  h.to (fun x ps q => by rw [upd_ne (fun z => e.1 ps (by rw [← z]; exact q))]; exact q) fun c P ne q => by rw [upd_ne (fun z => by subst z; exact e.2 P ne q)]; exact q
/-- H' is H, but that tables of code objects may have grown -/
structure SameT (H H' : Hp) : Prop where
  s : ∀ b o, H b = some o → (∀ ps, o ≠ .tbl ps) → H' b = some o
  fr : ∀ b, H' b = none → H b = none
  tab : ∀ {n : Bool} b, TabQ n H b → TabQ n H' b
abbrev SameN (H H' : Hp) : Prop := ∀ b o, H b = some o → (∀ ps, o ≠ .tbl ps) → H' b = some o
abbrev NoT (H : Hp) : Prop := ∀ a ps, H a ≠ some (.tbl ps)
theorem Same.toN {H H' : Hp} (n : NoT H) (e : SameN H H') : Same H H' := fun b o h => e b o h fun ps z => n b ps (by rw [h, z])
theorem toT {H H' : Hp} (e : Same H H') : SameT H H' := ⟨fun b o h _ => e b o h, fun _ h => e.free h, fun b h => h.to (fun x ps q => e x _ q) fun c P _ q => e c _ q⟩
theorem SameT.refl (H : Hp) : SameT H H := toT (Same.refl H)
theorem SameT.trans {H H1 H2 : Hp} (a : SameT H H1) (b : SameT H1 H2) : SameT H H2 := ⟨fun c o h n => b.s c o (a.s c o h n) n, fun c h => a.fr c (b.fr c h), fun c h => b.tab c (a.tab c h)⟩
theorem SameT.free {H H' : Hp} (e : SameT H H') {l : Addr} (h : H' l = Option.none) : H l = Option.none := e.fr l h
theorem SameT.l {H H' : Hp} (e : SameT H H') {a : Addr} {xs : List V} (h : H a = some (.lst xs)) : H' a = some (.lst xs) := e.s _ _ h nofun
theorem SameT.f {H H' : Hp} (e : SameT H H') {a : Addr} {o : Obj} {x : HO} (h : H a = some (.frz o x)) : H' a = some (.frz o x) := e.s _ _ h nofun
theorem SameT.seqT {K : PySem.W.Frag} {H H' : Hp} {a : Addr} {xs : List V} (e : SameT H H') (h : SqT K H a xs) : SqT K H' a xs := by
  rcases h with (h | ⟨o, h⟩) | h
  · exact .inl (.inl (e.s _ _ h nofun))
  · exact .inl (.inr ⟨o, e.s _ _ h nofun⟩)
  · exact .inr h
theorem SameT.updN {H H' : Hp} {p : Addr} {o : HO} (e : SameT H H') (n : H p = Option.none) (ns : NSys p (H' p)) : SameT H (upd H' p o) := by
  refine ⟨fun b x h t => ?_, fun b h => ?_, fun b h => ?_⟩
  · rw [upd_ne (fun z => by rw [z, n] at h; cases h)]
    exact e.s b x h t
  · by_cases q : b = p
    · rw [q, upd_same] at h; cases h
    · rw [upd_ne q] at h; exact e.fr b h
  · exact upd_tab ns (e.tab b h)
theorem SameN.seqT {K : PySem.W.Frag} {H H' : Hp} {a : Addr} {xs : List V} (e : SameN H H') (h : SqT K H a xs) : SqT K H' a xs := by
  rcases h with (h | ⟨o, h⟩) | h
  · exact .inl (.inl (e _ _ h nofun))
  · exact .inl (.inr ⟨o, e _ _ h nofun⟩)
  · exact .inr h
theorem SqF.monoN {K : PySem.W.Frag} {C C' : Hp} {a : Addr} {xs : List V} (e : SameN C C') (h : SqF K C a xs) : SqF K C' a xs := by
  rcases h with (h | ⟨o, h⟩) | h
  · exact .inl (.inl (e _ _ h nofun))
  · exact .inl (.inr ⟨o, e _ _ h nofun⟩)
  · exact .inr h
theorem SqF.monoT {K : PySem.W.Frag} {C C' : Hp} {a : Addr} {xs : List V} (e : SameT C C') (h : SqF K C a xs) : SqF K C' a xs := SqF.monoN e.s h
section
variable {K : PySem.W.Frag} {C C' : Hp}
mutual
theorem Rep.monoN (e : SameN C C') : ∀ {v : V} {d : D}, Rep K C v d → Rep K C' v d
  | _, _, .non => .non
  | _, _, .bl b => .bl b
  | _, _, .int i => .int i
  | _, _, .str x => .str x
  | _, _, .lst h r => .lst (e _ _ h nofun) (Reps.monoN e r)
  | _, _, .scr h r => .scr (h.monoN e) (Reps.monoN e r)
  | _, _, .tup h r => .tup (SameN.seqT e h) (Reps.monoN e r)
  | _, _, .dct h k r => .dct (e _ _ h nofun) k (Reps.monoN e r)
  | _, _, .ptr a => .ptr a
  | _, _, .obj h c k r => .obj (e _ _ h nofun) c k (Reps.monoN e r)
theorem Reps.monoN (e : SameN C C') : ∀ {vs : List V} {ds : List D}, Reps K C vs ds → Reps K C' vs ds
  | _, _, .nil => .nil
  | _, _, .cons h r => .cons (Rep.monoN e h) (Reps.monoN e r)
end
theorem Rep.monoT (e : SameT C C') {v : V} {d : D} (h : Rep K C v d) : Rep K C' v d := Rep.monoN e.s h
theorem Reps.monoT (e : SameT C C') {vs : List V} {ds : List D} (h : Reps K C vs ds) : Reps K C' vs ds := Reps.monoN e.s h
theorem Rep.mono (e : Same C C') {v : V} {d : D} (h : Rep K C v d) : Rep K C' v d := Rep.monoT (toT e) h
theorem Reps.mono (e : Same C C') {vs : List V} {ds : List D} (h : Reps K C vs ds) : Reps K C' vs ds := Reps.monoT (toT e) h
theorem Reps.length : ∀ {vs : List V} {ds : List D}, Reps K C vs ds → vs.length = ds.length
  | _, _, .nil => rfl
  | _, _, .cons _ r => congrArg (· + 1) (Reps.length r)
theorem Reps.get : ∀ {vs : List V} {ds : List D} {i : Nat} {d : D}, Reps K C vs ds → ds[i]? = some d → ∃ v, vs[i]? = some v ∧ Rep K C v d
  | _, _, _, _, .nil, h => by simp at h
  | _, _, 0, _, .cons h _, e => ⟨_, rfl, by simp at e; exact e ▸ h⟩
  | _, _, i + 1, _, .cons _ r, e => by
    obtain ⟨v, h1, h2⟩ := Reps.get (i := i) r (by simpa using e)
    exact ⟨v, by simpa using h1, h2⟩
theorem Reps.append : ∀ {vs ws : List V} {ds es : List D}, Reps K C vs ds → Reps K C ws es → Reps K C (vs ++ ws) (ds ++ es)
  | _, _, _, _, .nil, s => s
  | _, _, _, _, .cons h r, s => .cons h (Reps.append r s)
theorem Reps.take : ∀ {vs : List V} {ds : List D} (n : Nat), Reps K C vs ds → Reps K C (vs.take n) (ds.take n)
  | _, _, 0, _ => .nil
  | _, _, _ + 1, .nil => .nil
  | _, _, n + 1, .cons h r => .cons h (Reps.take n r)
theorem Reps.drop : ∀ {vs : List V} {ds : List D} (n : Nat), Reps K C vs ds → Reps K C (vs.drop n) (ds.drop n)
  | _, _, 0, r => r
  | _, _, _ + 1, .nil => .nil
  | _, _, n + 1, .cons _ r => Reps.drop n r
/-! data of the kind of the library -/
mutual
def pl : D → Bool
  | .list xs => pls xs
  | .tuple xs => pls xs
  | .dict _ => false
  | .none => true
  | .bool _ => true
  | .int _ => true
  | .str _ => true
def pls : List D → Bool
  | [] => true
  | x :: xs => pl x && pls xs
end
mutual
theorem Rep.dp : ∀ {v : V} {d : D}, Rep K C v d → pl d = true → Dp K C v d
  | _, _, .non, _ => .non
  | _, _, .bl b, _ => .bl b
  | _, _, .int i, _ => .int i
  | _, _, .str x, _ => .str x
  | _, _, .lst h r, p => .lst (.inl (.inl h)) (Reps.dp r (by simpa [pl] using p))
  | _, _, .scr _ _, p => by simp [pl, scrD] at p
  | _, _, .tup h r, p => .tup h (Reps.dp r (by simpa [pl] using p))
  | _, _, .dct _ _ _, p => by simp [pl] at p
  | _, _, .ptr _, p => by simp [pl, ptrD] at p
  | _, _, .obj _ _ _ _, p => by simp [pl, objD] at p
theorem Reps.dp : ∀ {vs : List V} {ds : List D}, Reps K C vs ds → pls ds = true → DpAll K C vs ds
  | _, _, .nil, _ => .nil
  | _, _, .cons h r, p => by
    have q : (_ && _) = true := p
    obtain ⟨q1, q2⟩ := Bool.and_eq_true_iff.mp q
    exact .cons (Rep.dp h q1) (Reps.dp r q2)
end
end
/-- an object that never changes -/
def fzn : HO → Bool
  | .tup _ => true
  | .frz _ (.tup _) => true
  | .frz _ (.lst _) => true
  | _ => false
section
variable {K : PySem.W.Frag} {Z H : Hp}
theorem tup_in (tz : ∀ a o, H a = some o → fzn o = true → Z a = some o) {a : Addr} {xs : List V} (h : SqT K H a xs) : SqT K Z a xs := by
  rcases h with (h | ⟨o, h⟩) | h
  · exact .inl (.inl (tz _ _ h rfl))
  · exact .inl (.inr ⟨o, tz _ _ h rfl⟩)
  · exact .inr h
mutual
theorem Rep.up (tz : ∀ a o, H a = some o → fzn o = true → Z a = some o) : ∀ {v : V} {d : D}, Rep K H v d → lf d = true → Rep K Z v d
  | _, _, .non, _ => .non
  | _, _, .bl b, _ => .bl b
  | _, _, .int i, _ => .int i
  | _, _, .str x, _ => .str x
  | _, _, .lst h r, p => by simp [lf] at p
  | _, _, .scr _ _, p => by simp [lf, scrD] at p
  | _, _, .tup h r, p => .tup (tup_in tz h) (Reps.up tz r (by simpa [lf] using p))
  | _, _, .dct _ _ _, p => by simp [lf] at p
  | _, _, .ptr _, p => by simp [lf, ptrD] at p
  | _, _, .obj _ _ _ _, p => by simp [lf, objD] at p
theorem Reps.up (tz : ∀ a o, H a = some o → fzn o = true → Z a = some o) : ∀ {vs : List V} {ds : List D}, Reps K H vs ds → lfs ds = true → Reps K Z vs ds
  | _, _, .nil, _ => .nil
  | _, _, .cons h r, p => by
    have q : (_ && _) = true := p
    obtain ⟨q1, q2⟩ := Bool.and_eq_true_iff.mp q
    exact .cons (Rep.up tz h q1) (Reps.up tz r q2)
end
end

/-! ### data that one owns: F its cells -/
mutual
inductive Own (K : PySem.W.Frag) (Z H : Hp) : V → D → List Addr → Prop
  | imm {v : V} {d : D} : Rep K Z v d → isVal d = true → Own K Z H v d []
  | lst {a : Addr} {xs : List V} {ds : List D} {F : List Addr} : H a = some (.lst xs) → Owns K Z H xs ds F → Own K Z H (.ref a) (.list ds) (a :: F)
  | dct {a : Addr} {kvs : List (Key × V)} {es : List (D × D)} {F : List Addr} : H a = some (.dK kvs) → es.map (·.1) = kvs.map (fun p => kd p.1) → Owns K Z H (kvs.map (·.2)) (es.map (·.2)) F → Own K Z H (.ref a) (.dict es) (a :: F)
  | obj {a Cl dx : Addr} {c : Str} {fs : List (Str × V)} {es : List (D × D)} {F : List Addr} : H a = some (.ins Cl dx fs) → H dx = some (.own a) → Cl = He.ga K c → es.map (·.1) = fs.map (fun p => PyData.str p.1) →
      Owns K Z H (fs.map (·.2)) (es.map (·.2)) F → Own K Z H (.ref a) (objD c es) (a :: dx :: F)
inductive Owns (K : PySem.W.Frag) (Z H : Hp) : List V → List D → List Addr → Prop
  | nil : Owns K Z H [] [] []
  | cons {v : V} {vs : List V} {d : D} {ds : List D} {F G : List Addr} : Own K Z H v d F → Owns K Z H vs ds G → Owns K Z H (v :: vs) (d :: ds) (F ++ G)
end
section
variable {K : PySem.W.Frag} {Z Z' H H' : Hp}
mutual
/-- the cells of F stand as they stood -/
theorem Own.mono (ez : Same Z Z') : ∀ {v : V} {d : D} {F : List Addr}, (∀ a ∈ F, ∀ o, H a = some o → (∀ ps, o ≠ .tbl ps) → H' a = some o) → Own K Z H v d F → Own K Z' H' v d F
  | _, _, _, _, .imm r p => .imm (r.mono ez) p
  | _, _, _, k, .lst h r => .lst (k _ List.mem_cons_self _ h nofun) (Owns.mono ez (fun a ha => k a (List.mem_cons_of_mem _ ha)) r)
  | _, _, _, k, .dct h e r => .dct (k _ List.mem_cons_self _ h nofun) e (Owns.mono ez (fun a ha => k a (List.mem_cons_of_mem _ ha)) r)
  | _, _, _, k, .obj h h2 c e r => .obj (k _ List.mem_cons_self _ h nofun) (k _ (List.mem_cons_of_mem _ List.mem_cons_self) _ h2 nofun) c e (Owns.mono ez (fun a ha => k a (List.mem_cons_of_mem _ (List.mem_cons_of_mem _ ha))) r)
theorem Owns.mono (ez : Same Z Z') : ∀ {vs : List V} {ds : List D} {F : List Addr}, (∀ a ∈ F, ∀ o, H a = some o → (∀ ps, o ≠ .tbl ps) → H' a = some o) → Owns K Z H vs ds F → Owns K Z' H' vs ds F
  | _, _, _, _, .nil => .nil
  | _, _, _, k, .cons h r => .cons (Own.mono ez (fun a ha => k a (List.mem_append_left _ ha)) h) (Owns.mono ez (fun a ha => k a (List.mem_append_right _ ha)) r)
end
mutual
theorem Own.live : ∀ {v : V} {d : D} {F : List Addr}, Own K Z H v d F → ∀ a ∈ F, ∃ o, H a = some o ∧ fzn o = false
  | _, _, _, .imm _ _, _, h => by cases h
  | _, _, _, .lst h r, a, m => by
    rcases List.mem_cons.mp m with e | m
    · exact ⟨_, e ▸ h, rfl⟩
    · exact Owns.live r a m
  | _, _, _, .dct h _ r, a, m => by
    rcases List.mem_cons.mp m with e | m
    · exact ⟨_, e ▸ h, rfl⟩
    · exact Owns.live r a m
  | _, _, _, .obj h h2 _ _ r, a, m => by
    rcases List.mem_cons.mp m with e | m
    · exact ⟨_, e ▸ h, rfl⟩
    · rcases List.mem_cons.mp m with e | m
      · exact ⟨_, e ▸ h2, rfl⟩
      · exact Owns.live r a m
theorem Owns.live : ∀ {vs : List V} {ds : List D} {F : List Addr}, Owns K Z H vs ds F → ∀ a ∈ F, ∃ o, H a = some o ∧ fzn o = false
  | _, _, _, .nil, _, h => by cases h
  | _, _, _, .cons h r, a, m => (List.mem_append.mp m).elim (Own.live h a) (Owns.live r a)
end
mutual
theorem Own.ntb : ∀ {v : V} {d : D} {F : List Addr}, Own K Z H v d F → ∀ a ∈ F, ∀ ps, H a ≠ some (.tbl ps)
  | _, _, _, .imm _ _, _, h => by cases h
  | _, _, _, .lst h r, a, m => by
    rcases List.mem_cons.mp m with e | m
    · exact fun ps z => by rw [e, h] at z; cases z
    · exact Owns.ntb r a m
  | _, _, _, .dct h _ r, a, m => by
    rcases List.mem_cons.mp m with e | m
    · exact fun ps z => by rw [e, h] at z; cases z
    · exact Owns.ntb r a m
  | _, _, _, .obj h h2 _ _ r, a, m => by
    rcases List.mem_cons.mp m with e | m
    · exact fun ps z => by rw [e, h] at z; cases z
    · rcases List.mem_cons.mp m with e | m
      · exact fun ps z => by rw [e, h2] at z; cases z
      · exact Owns.ntb r a m
theorem Owns.ntb : ∀ {vs : List V} {ds : List D} {F : List Addr}, Owns K Z H vs ds F → ∀ a ∈ F, ∀ ps, H a ≠ some (.tbl ps)
  | _, _, _, .nil, _, h => by cases h
  | _, _, _, .cons h r, a, m => (List.mem_append.mp m).elim (Own.ntb h a) (Owns.ntb r a)
end
mutual
theorem Own.nsy : ∀ {v : V} {d : D} {F : List Addr}, Own K Z H v d F → ∀ a ∈ F, NSys a (H a)
  | _, _, _, .imm _ _, _, h => by cases h
  | _, _, _, .lst h r, a, m => by
    rcases List.mem_cons.mp m with e | m
    · exact ⟨fun ps z => (by rw [e, h] at z; cases z), fun _ _ z => (by rw [e, h] at z; cases z)⟩
    · exact Owns.nsy r a m
  | _, _, _, .dct h _ r, a, m => by
    rcases List.mem_cons.mp m with e | m
    · exact ⟨fun ps z => (by rw [e, h] at z; cases z), fun _ _ z => (by rw [e, h] at z; cases z)⟩
    · exact Owns.nsy r a m
  | _, _, _, .obj h h2 _ _ r, a, m => by
    rcases List.mem_cons.mp m with e | m
    · exact ⟨fun ps z => (by rw [e, h] at z; cases z), fun _ _ z => (by rw [e, h] at z; cases z)⟩
    · rcases List.mem_cons.mp m with e | m
      · exact ⟨fun ps z => (by rw [e, h2] at z; cases z), fun _ _ z => (by rw [e, h2] at z; cases z)⟩
      · exact Owns.nsy r a m
theorem Owns.nsy : ∀ {vs : List V} {ds : List D} {F : List Addr}, Owns K Z H vs ds F → ∀ a ∈ F, NSys a (H a)
  | _, _, _, .nil, _, h => by cases h
  | _, _, _, .cons h r, a, m => (List.mem_append.mp m).elim (Own.nsy h a) (Owns.nsy r a)
end
mutual
/-- what one owns may be looked at -/
theorem Own.rep (zh : Same Z H) : ∀ {v : V} {d : D} {F : List Addr}, Own K Z H v d F → Rep K H v d
  | _, _, _, .imm r _ => r.mono zh
  | _, _, _, .lst h r => .lst h (Owns.rep zh r)
  | _, _, _, .dct h e r => .dct h e (Owns.rep zh r)
  | _, _, _, .obj h _ c e r => .obj h c e (Owns.rep zh r)
theorem Owns.rep (zh : Same Z H) : ∀ {vs : List V} {ds : List D} {F : List Addr}, Owns K Z H vs ds F → Reps K H vs ds
  | _, _, _, .nil => .nil
  | _, _, _, .cons h r => .cons (Own.rep zh h) (Owns.rep zh r)
end
theorem Owns.length : ∀ {vs : List V} {ds : List D} {F : List Addr}, Owns K Z H vs ds F → vs.length = ds.length
  | _, _, _, .nil => rfl
  | _, _, _, .cons _ r => congrArg (· + 1) (Owns.length r)
theorem Owns.append : ∀ {vs ws : List V} {ds es : List D} {F G : List Addr}, Owns K Z H vs ds F → Owns K Z H ws es G → Owns K Z H (vs ++ ws) (ds ++ es) (F ++ G)
  | _, _, _, _, _, _, .nil, s => s
  | _, _, _, _, _, _, .cons h r, s => by
    rw [List.append_assoc]
    exact .cons h (Owns.append r s)
theorem Owns.one {v : V} {d : D} {F : List Addr} (h : Own K Z H v d F) : Owns K Z H [v] [d] F := by
  have := Owns.cons h Owns.nil
  rwa [List.append_nil] at this
theorem Owns.of_reps : ∀ {vs : List V} {ds : List D}, Reps K Z vs ds → ds.all isVal = true → Owns K Z H vs ds []
  | _, _, .nil, _ => .nil
  | _, _, .cons h r, p => by
    rw [List.all_cons] at p
    obtain ⟨q1, q2⟩ := Bool.and_eq_true_iff.mp p
    exact .cons (F := []) (.imm h q1) (Owns.of_reps r q2)
end
end Oz

namespace Oz
open PySem PySem.Spec PyProof.Rows L2
variable [WD]

/-! ### results, frames -/
inductive Sx where
  | imm | out | view | own | brw | tab
  deriving DecidableEq
structure R where
  s : Sx
  d : D
abbrev Ev := List (Option R)
inductive Res (α : Type) where
  | bad
  | ok (a : α)
  | exc (c : Str) (fs : List (Str × D))
def Res.bind {α β : Type} : Res α → (α → Res β) → Res β
  | .bad, _ => .bad
  | .ok a, f => f a
  | .exc c fs, _ => .exc c fs
theorem Res.bind_ok {α β : Type} (a : α) (f : α → Res β) : (Res.ok a).bind f = f a := rfl
abbrev Px := Ev → Res R
abbrev Tx := Ev → Res Bool

/-! ### heaps within heaps -/
structure Good (Z O H : Hp) : Prop where
  zo : Same Z O
  oh : Same O H
  tz : ∀ a o, H a = some o → fzn o = true → Z a = some o
  nt : NoT O
theorem Good.ohT {Z O H H' : Hp} (g : Good Z O H) (e : SameT H H') : Same O H' := Same.toN g.nt fun b o h n => e.s b o (g.oh b o h) n
theorem Good.ntz {Z O H : Hp} (g : Good Z O H) : NoT Z := fun a ps h => g.nt a ps (g.zo _ _ h)
theorem noT_upd {O : Hp} {p : Addr} {o : HO} (n : NoT O) (h : ∀ ps, o ≠ .tbl ps) : NoT (upd O p o) := fun a ps e => by
  by_cases q : a = p
  · subst q; rw [upd_same] at e; exact h ps (Option.some.inj e)
  · rw [upd_ne q] at e; exact n a ps e
theorem Good.zh {Z O H : Hp} (g : Good Z O H) : Same Z H := g.zo.trans g.oh
/-- nothing but new things, and what stood in W -/
structure Ext (W : List Addr) (Z O H Z' O' H' : Hp) : Prop where
  h : SameT H H'
  z : Same Z Z'
  o : Same O O'
  zn : ∀ a, Z' a ≠ none → Z a ≠ none ∨ H a = none ∨ a ∈ W
  on : ∀ a, O' a ≠ none → O a ≠ none ∨ H a = none ∨ a ∈ W
theorem Ext.refl (W : List Addr) (Z O H : Hp) : Ext W Z O H Z O H := ⟨SameT.refl _, Same.refl _, Same.refl _, fun _ h => .inl h, fun _ h => .inl h⟩
/-- first W0, then W whose cells are new -/
theorem Ext.trans {W0 W : List Addr} {Z O H Z1 O1 H1 Z2 O2 H2 : Hp} (a : Ext W0 Z O H Z1 O1 H1) (b : Ext W Z1 O1 H1 Z2 O2 H2) (w : ∀ c ∈ W, H c = none ∨ c ∈ W0) : Ext W0 Z O H Z2 O2 H2 :=
  ⟨a.h.trans b.h, a.z.trans b.z, a.o.trans b.o,
    fun c h => (b.zn c h).elim (a.zn c) (fun q => q.elim (fun q => .inr (.inl (a.h.free q))) fun q => .inr (w c q)),
    fun c h => (b.on c h).elim (a.on c) (fun q => q.elim (fun q => .inr (.inl (a.h.free q))) fun q => .inr (w c q))⟩
theorem Ext.trans0 {Z O H Z1 O1 H1 Z2 O2 H2 : Hp} (a : Ext [] Z O H Z1 O1 H1) (b : Ext [] Z1 O1 H1 Z2 O2 H2) : Ext [] Z O H Z2 O2 H2 := a.trans b fun _ h => by cases h
theorem Ext.mono {W W' : List Addr} {Z O H Z' O' H' : Hp} (a : Ext W Z O H Z' O' H') (w : ∀ c ∈ W, c ∈ W') : Ext W' Z O H Z' O' H' :=
  ⟨a.h, a.z, a.o, fun c h => (a.zn c h).imp id fun q => q.imp id (w c), fun c h => (a.on c h).imp id fun q => q.imp id (w c)⟩
theorem same_new {H : Hp} {p : Addr} {o : HO} (h : H p = none) : Same H (upd H p o) := fun b x e => by
  rw [upd_ne (ne_of_none e h)]
  exact e
theorem upd_some {H : Hp} {p a : Addr} {o : HO} (h : upd H p o a ≠ none) : H a ≠ none ∨ a = p := by
  by_cases e : a = p
  · exact .inr e
  · rw [upd_ne e] at h
    exact .inl h
theorem upd_fr {H : Hp} {p a : Addr} {o : HO} (h : upd H p o a = none) : H a = none := by
  by_cases e : a = p
  · rw [e, upd_same] at h; cases h
  · rw [upd_ne e] at h; exact h
theorem none_of {Z H : Hp} (z : Same Z H) {p : Addr} (h : H p = none) : Z p = none := z.free h
/-- a new object that never changes -/
theorem ext_frz {Z O H : Hp} (g : Good Z O H) {p : Addr} {o : HO} (np : H p = none) (hn : ∀ ps, o ≠ .tbl ps := by nofun) : Ext [] Z O H (upd Z p o) (upd O p o) (upd H p o) ∧ Good (upd Z p o) (upd O p o) (upd H p o) := by
  have zp := none_of g.zh np
  have op := none_of g.oh np
  refine ⟨⟨toT (same_new np), same_new zp, same_new op, fun a h => ?_, fun a h => ?_⟩, ⟨fun a x h => ?_, fun a x h => ?_, fun a x h f => ?_, noT_upd g.nt hn⟩⟩
  · exact (upd_some h).imp id fun (e : a = p) => .inl (e ▸ np)
  · exact (upd_some h).imp id fun (e : a = p) => .inl (e ▸ np)
  · by_cases e : a = p
    · subst e; rw [upd_same] at h ⊢; exact h
    · rw [upd_ne e] at h ⊢; exact g.zo _ _ h
  · by_cases e : a = p
    · subst e; rw [upd_same] at h ⊢; exact h
    · rw [upd_ne e] at h ⊢; exact g.oh _ _ h
  · by_cases e : a = p
    · subst e; rw [upd_same] at h ⊢; exact h
    · rw [upd_ne e] at h ⊢; exact g.tz _ _ h f
/-- a new object of one's own -/
theorem ext_new {Z O H : Hp} (g : Good Z O H) {p : Addr} {o : HO} (np : H p = none) (f : fzn o = false) : Ext [] Z O H Z O (upd H p o) ∧ Good Z O (upd H p o) := by
  refine ⟨⟨toT (same_new np), Same.refl _, Same.refl _, fun a h => .inl h, fun a h => .inl h⟩, ⟨g.zo, g.oh.trans (same_new np), fun a x h q => ?_, g.nt⟩⟩
  by_cases e : a = p
  · subst e; rw [upd_same] at h; cases h; rw [f] at q; cases q
  · rw [upd_ne e] at h; exact g.tz _ _ h q

/-! ### tables of code objects: the addresses that the markers at K's end name -/
def mkD : Obj → Option Addr
  | ⟨.none, some P, .plain, _⟩ => some P
  | _ => none
def tabsK (K : PySem.W.Frag) : List Addr := K.filterMap fun q => mkD q.2
def Tabs (K : PySem.W.Frag) (H : Hp) : Prop := ∀ P ∈ tabsK K, TabQ true H P
theorem Tabs.ext {K : PySem.W.Frag} {H H' : Hp} (t : Tabs K H) (e : SameT H H') : Tabs K H' := fun P hP => e.tab P (t P hP)

/-! ### what a result stands for -/
def RepR (K : PySem.W.Frag) (Z O H : Hp) (v : V) (r : R) (F : List Addr) : Prop := match r.s with
  | .imm => Rep K Z v r.d ∧ F = []
  | .out => Rep K O v r.d ∧ F = []
  | .view => Rep K H v r.d ∧ F = []
  | .own => Own K Z H v r.d F
  | .brw => Own K Z H v r.d F
  | .tab => False
section
variable {K : PySem.W.Frag} {Z O H Z' O' H' : Hp}
theorem RepR.live {v : V} {r : R} {F : List Addr} (h : RepR K Z O H v r F) : ∀ a ∈ F, ∃ o, H a = some o ∧ fzn o = false := by
  obtain ⟨s, d⟩ := r
  cases s with
  | imm => obtain ⟨_, rfl⟩ := h; intro a ha; cases ha
  | out => obtain ⟨_, rfl⟩ := h; intro a ha; cases ha
  | view => obtain ⟨_, rfl⟩ := h; intro a ha; cases ha
  | own => exact Own.live h
  | brw => exact Own.live h
  | tab => exact (show False from h).elim
theorem RepR.ntb {v : V} {r : R} {F : List Addr} (h : RepR K Z O H v r F) : ∀ a ∈ F, ∀ ps, H a ≠ some (.tbl ps) := by
  obtain ⟨s, d⟩ := r
  cases s with
  | imm => obtain ⟨_, rfl⟩ := h; intro a ha; cases ha
  | out => obtain ⟨_, rfl⟩ := h; intro a ha; cases ha
  | view => obtain ⟨_, rfl⟩ := h; intro a ha; cases ha
  | own => exact Own.ntb h
  | brw => exact Own.ntb h
  | tab => exact (show False from h).elim
theorem RepR.nsy {v : V} {r : R} {F : List Addr} (h : RepR K Z O H v r F) : ∀ a ∈ F, NSys a (H a) := by
  obtain ⟨s, d⟩ := r
  cases s with
  | imm => obtain ⟨_, rfl⟩ := h; intro a ha; cases ha
  | out => obtain ⟨_, rfl⟩ := h; intro a ha; cases ha
  | view => obtain ⟨_, rfl⟩ := h; intro a ha; cases ha
  | own => exact Own.nsy h
  | brw => exact Own.nsy h
  | tab => exact (show False from h).elim
theorem RepR.sameM {v : V} {r : R} {F : List Addr} (ez : Same Z Z') (eo : Same O O') (eh : SameN H H') (h : RepR K Z O H v r F) : RepR K Z' O' H' v r F := by
  obtain ⟨s, d⟩ := r
  cases s with
  | imm => exact ⟨h.1.mono ez, h.2⟩
  | out => exact ⟨h.1.mono eo, h.2⟩
  | view => exact ⟨h.1.monoN eh, h.2⟩
  | own => exact Own.mono ez (fun a _ o q n => eh a o q n) h
  | brw => exact Own.mono ez (fun a _ o q n => eh a o q n) h
  | tab => exact (show False from h).elim
theorem RepR.ext {v : V} {r : R} {F : List Addr} (h : RepR K Z O H v r F) {W : List Addr} (e : Ext W Z O H Z' O' H') : RepR K Z' O' H' v r F := by
  obtain ⟨s, d⟩ := r
  cases s with
  | imm => exact ⟨h.1.mono e.z, h.2⟩
  | out => exact ⟨h.1.mono e.o, h.2⟩
  | view => exact ⟨h.1.monoT e.h, h.2⟩
  | own => exact Own.mono e.z (fun a _ o q n => e.h.s a o q n) h
  | brw => exact Own.mono e.z (fun a _ o q n => e.h.s a o q n) h
  | tab => exact (show False from h).elim
/-- the cells of others changed: no view stays -/
theorem RepR.keep {v : V} {r : R} {F : List Addr} (h : RepR K Z O H v r F) (hv : r.s ≠ .view) (ez : Same Z Z') (eo : Same O O') (eh : ∀ a ∈ F, ∀ o, H a = some o → (∀ ps, o ≠ .tbl ps) → H' a = some o) : RepR K Z' O' H' v r F := by
  obtain ⟨s, d⟩ := r
  cases s with
  | imm => exact ⟨h.1.mono ez, h.2⟩
  | out => exact ⟨h.1.mono eo, h.2⟩
  | view => exact absurd rfl hv
  | own => exact Own.mono ez eh h
  | brw => exact Own.mono ez eh h
  | tab => exact (show False from h).elim
/-- anything may be looked at -/
theorem RepR.look {v : V} {r : R} {F : List Addr} (g : Good Z O H) (h : RepR K Z O H v r F) : Rep K H v r.d := by
  obtain ⟨s, d⟩ := r
  cases s with
  | imm => exact h.1.mono g.zh
  | out => exact h.1.mono g.oh
  | view => exact h.1
  | own => exact Own.rep g.zh h
  | brw => exact Own.rep g.zh h
  | tab => exact (show False from h).elim
end

/-! ### a dict whose keys are tuples of ints, texts and truth values: its keys, one by one -/
/-- numbers as they count as keys -/
def keyB : D → Option NestedKey
  | .int i => some (.num i)
  | .bool b => some (.num (if b = true then 1 else 0))
  | .str x => some (.text x)
  | .none => some .none
  | _ => none
def keysB : List D → Option (List NestedKey)
  | [] => some []
  | d :: ds => match keyB d, keysB ds with
    | some k, some ks => some (k :: ks)
    | _, _ => none
def tdE [WD] (x : NestedKey × Addr) : DictEntry := ⟨x.1.hash WD.w, .ref x.2, .bool true⟩
/-- the object at a is a dict: its keys stand at the addresses, each with its value True -/
def tdO [WD] (a : Addr) (xs : List (NestedKey × Addr)) : Heap → Prop := fun h => ∃ o es ep, h.get? a = some o ∧ o.ExactDict ∧ o.data = .dict es ep ∧
  es.toList = xs.map tdE ∧ (xs.map (·.1)).Nodup ∧ (a == sysModules) = false
theorem tdO_ne [WD] {a P : Addr} {xs : List (NestedKey × Addr)} (ne : a ≠ P) : HO.ext (tdO a xs) ≠ codO a P := fun e => by
  injection e with e
  have hg : (⟨Array.replicate (a + 1) ⟨.type "code", none, .fields #[.none, .none, .none, .none, .none, .none, .none, .int 0 0, .none, .bool true, .int 0 0, .ref P, .none, .none, .none, .none, .none, .none, .str "" 0], #[]⟩, {}⟩ : Heap).get? a = some ⟨.type "code", none, .fields #[.none, .none, .none, .none, .none, .none, .none, .int 0 0, .none, .bool true, .int 0 0, .ref P, .none, .none, .none, .none, .none, .none, .str "" 0], #[]⟩ := by
    simp [Heap.get?]
  have h := (congrFun e _).mpr (show PySem.W.CodeHd _ a P from ⟨_, _, _, _, _, _, _, _, _, hg, rfl, rfl, rfl, rfl, rfl, rfl, rfl, rfl, ne⟩)
  obtain ⟨o, es, ep, h1, h2, _⟩ := h
  rw [hg] at h1
  cases h1
  have h3 : Value.type "code" = Value.type "dict" := h2.1
  injection h3 with h4
  exact absurd h4 (by decide)
/-- the keys: frozen tuples -/
inductive KeysAt (K : PySem.W.Frag) (Z : Hp) : List (NestedKey × Addr) → List D → Prop
  | nil : KeysAt K Z [] []
  | cons {ks : List NestedKey} {b : Addr} {ds : List D} {xs : List (NestedKey × Addr)} {es : List D} : keysB ds = some ks → Rep K Z (.ref b) (.tuple ds) → KeysAt K Z xs es → KeysAt K Z ((.tup ks, b) :: xs) (.tuple ds :: es)
theorem KeysAt.mono {K : PySem.W.Frag} {Z Z' : Hp} (e : Same Z Z') : ∀ {xs : List (NestedKey × Addr)} {es : List D}, KeysAt K Z xs es → KeysAt K Z' xs es
  | _, _, .nil => .nil
  | _, _, .cons h r t => .cons h (r.mono e) (KeysAt.mono e t)
def TabR [WD] (K : PySem.W.Frag) (Z H : Hp) (v : V) (d : D) (F : List Addr) : Prop := ∃ a xs es, v = .ref a ∧ d = .list es ∧ H a = some (.ext (tdO a xs)) ∧ KeysAt K Z xs es ∧ F = [a]
/-- what a slot may hold -/
def RepS [WD] (K : PySem.W.Frag) (Z O H : Hp) (v : V) (r : R) (F : List Addr) : Prop := RepR K Z O H v r F ∨ (r.s = .tab ∧ TabR K Z H v r.d F)
section
variable [WD] {K : PySem.W.Frag} {Z O H Z' O' H' : Hp} {v : V} {r : R} {F : List Addr}
theorem RepS.live (h : RepS K Z O H v r F) : ∀ a ∈ F, ∃ o, H a = some o ∧ fzn o = false := by
  rcases h with h | ⟨_, a, xs, es, _, _, h, _, rfl⟩
  · exact h.live
  · intro b hb
    simp at hb
    rw [hb]
    exact ⟨_, h, rfl⟩
theorem RepS.ntb (h : RepS K Z O H v r F) : ∀ a ∈ F, ∀ ps, H a ≠ some (.tbl ps) := by
  rcases h with h | ⟨_, a, xs, es, _, _, h, _, rfl⟩
  · exact h.ntb
  · intro b hb ps e
    simp at hb
    rw [hb, h] at e
    cases e
theorem RepS.nsy (h : RepS K Z O H v r F) : ∀ a ∈ F, NSys a (H a) := by
  rcases h with h | ⟨_, a, xs, es, _, _, h, _, rfl⟩
  · exact h.nsy
  · intro b hb
    simp at hb
    subst hb
    refine ⟨fun ps e => ?_, fun P ne e => ?_⟩
    · rw [h] at e; cases e
    · rw [h] at e
      exact tdO_ne ne (Option.some.inj e)
theorem RepS.mono (h : RepS K Z O H v r F) (hr : RepR K Z O H v r F → RepR K Z' O' H' v r F) (ez : Same Z Z') (eh : ∀ a ∈ F, ∀ o, H a = some o → (∀ ps, o ≠ .tbl ps) → H' a = some o) : RepS K Z' O' H' v r F := by
  rcases h with h | ⟨e, a, xs, es, e1, e2, h, ka, rfl⟩
  · exact .inl (hr h)
  · exact .inr ⟨e, a, xs, es, e1, e2, eh a (by simp) _ h nofun, ka.mono ez, rfl⟩
theorem RepS.sameM (ez : Same Z Z') (eo : Same O O') (eh : SameN H H') (h : RepS K Z O H v r F) : RepS K Z' O' H' v r F := h.mono (fun q => q.sameM ez eo eh) ez fun a _ o e n => eh a o e n
theorem RepS.ext (h : RepS K Z O H v r F) {W : List Addr} (e : Ext W Z O H Z' O' H') : RepS K Z' O' H' v r F := h.mono (fun q => q.ext e) e.z fun a _ o q n => e.h.s a o q n
theorem RepS.keep (h : RepS K Z O H v r F) (hv : r.s ≠ .view) (ez : Same Z Z') (eo : Same O O') (eh : ∀ a ∈ F, ∀ o, H a = some o → (∀ ps, o ≠ .tbl ps) → H' a = some o) : RepS K Z' O' H' v r F := h.mono (fun q => q.keep hv ez eo eh) ez eh
/-- but for tables, a slot is as any result -/
theorem RepS.rep (h : RepS K Z O H v r F) (ht : r.s ≠ .tab) : RepR K Z O H v r F := h.elim id fun z => absurd z.1 ht
end
inductive Slots (K : PySem.W.Frag) (Z O H : Hp) : List (Option V) → Ev → List Addr → Prop
  | nil : Slots K Z O H [] [] []
  | non {x : Option V} {σ : List (Option V)} {ρ : Ev} {F : List Addr} : Slots K Z O H σ ρ F → Slots K Z O H (x :: σ) (none :: ρ) F
  | val {v : V} {r : R} {σ : List (Option V)} {ρ : Ev} {F G : List Addr} : RepS K Z O H v r F → Slots K Z O H σ ρ G → Slots K Z O H (some v :: σ) (some r :: ρ) (F ++ G)
/-- no view among them -/
def nov (ρ : Ev) : Bool := ρ.all fun x => match x with
  | some ⟨.view, _⟩ => false
  | _ => true
section
variable {K : PySem.W.Frag} {Z O H Z' O' H' : Hp}
theorem Slots.length : ∀ {σ : List (Option V)} {ρ : Ev} {F : List Addr}, Slots K Z O H σ ρ F → σ.length = ρ.length
  | _, _, _, .nil => rfl
  | _, _, _, .non s => congrArg (· + 1) s.length
  | _, _, _, .val _ s => congrArg (· + 1) s.length
theorem Slots.live : ∀ {σ : List (Option V)} {ρ : Ev} {F : List Addr}, Slots K Z O H σ ρ F → ∀ a ∈ F, ∃ o, H a = some o ∧ fzn o = false
  | _, _, _, .nil, _, h => by cases h
  | _, _, _, .non s, a, h => s.live a h
  | _, _, _, .val r s, a, h => (List.mem_append.mp h).elim (r.live a) (s.live a)
theorem Slots.ntb : ∀ {σ : List (Option V)} {ρ : Ev} {F : List Addr}, Slots K Z O H σ ρ F → ∀ a ∈ F, ∀ ps, H a ≠ some (.tbl ps)
  | _, _, _, .nil, _, h => by cases h
  | _, _, _, .non s, a, h => s.ntb a h
  | _, _, _, .val r s, a, h => (List.mem_append.mp h).elim (r.ntb a) (s.ntb a)
theorem Slots.nsy : ∀ {σ : List (Option V)} {ρ : Ev} {F : List Addr}, Slots K Z O H σ ρ F → ∀ a ∈ F, NSys a (H a)
  | _, _, _, .nil, _, h => by cases h
  | _, _, _, .non s, a, h => s.nsy a h
  | _, _, _, .val r s, a, h => (List.mem_append.mp h).elim (r.nsy a) (s.nsy a)
theorem Slots.sameM (ez : Same Z Z') (eo : Same O O') (eh : SameN H H') : ∀ {σ : List (Option V)} {ρ : Ev} {F : List Addr}, Slots K Z O H σ ρ F → Slots K Z' O' H' σ ρ F
  | _, _, _, .nil => .nil
  | _, _, _, .non s => .non (Slots.sameM ez eo eh s)
  | _, _, _, .val r s => .val (r.sameM ez eo eh) (Slots.sameM ez eo eh s)
theorem Slots.ext {W : List Addr} (e : Ext W Z O H Z' O' H') : ∀ {σ : List (Option V)} {ρ : Ev} {F : List Addr}, Slots K Z O H σ ρ F → Slots K Z' O' H' σ ρ F
  | _, _, _, .nil => .nil
  | _, _, _, .non s => .non (Slots.ext e s)
  | _, _, _, .val r s => .val (r.ext e) (Slots.ext e s)
theorem Slots.keep (ez : Same Z Z') (eo : Same O O') : ∀ {σ : List (Option V)} {ρ : Ev} {F : List Addr}, Slots K Z O H σ ρ F → nov ρ = true → (∀ a ∈ F, ∀ o, H a = some o → (∀ ps, o ≠ .tbl ps) → H' a = some o) → Slots K Z' O' H' σ ρ F
  | _, _, _, .nil, _, _ => .nil
  | _, _, _, .non s, n, k => .non (Slots.keep ez eo s (by simpa [nov] using n) k)
  | _, _, _, .val (r := r) q s, n, k => by
    have n1 : (_ && _) = true := n
    obtain ⟨n2, n3⟩ := Bool.and_eq_true_iff.mp n1
    refine .val (q.keep (fun e => ?_) ez eo fun a ha => k a (List.mem_append_left _ ha)) (Slots.keep ez eo s n3 fun a ha => k a (List.mem_append_right _ ha))
    obtain ⟨s, d⟩ := r
    cases e
    cases n2
/-- a slot by itself -/
def SlotR (K : PySem.W.Frag) (Z O H : Hp) : Option V → Option R → List Addr → Prop
  | _, none, F => F = []
  | some v, some r, F => RepS K Z O H v r F
  | none, some _, _ => False
theorem Slots.get : ∀ {σ : List (Option V)} {ρ : Ev} {F : List Addr} {i : Nat} {r : R}, Slots K Z O H σ ρ F → ρ[i]? = some (some r) → ∃ v, σ[i]? = some (some v) ∧ ∃ G, RepS K Z O H v r G
  | _, _, _, _, _, .nil, h => by simp at h
  | _, _, _, 0, _, .non s, h => by simp at h
  | _, _, _, i + 1, _, .non s, h => by
    obtain ⟨v, h1, h2⟩ := Slots.get (i := i) s (by simpa using h)
    exact ⟨v, by simpa using h1, h2⟩
  | _, _, _, 0, _, .val r s, h => by
    simp at h
    subst h
    exact ⟨_, rfl, _, r⟩
  | _, _, _, i + 1, _, .val r s, h => by
    obtain ⟨v, h1, h2⟩ := Slots.get (i := i) s (by simpa using h)
    exact ⟨v, by simpa using h1, h2⟩
/-- one slot taken out, the others kept -/
theorem Slots.focus : ∀ {σ : List (Option V)} {ρ : Ev} {F : List Addr} {i : Nat}, Slots K Z O H σ ρ F → i < ρ.length →
    ∃ (x : Option V) (y : Option R) (F1 G F2 : List Addr), σ[i]? = some x ∧ ρ[i]? = some y ∧ F = F1 ++ (G ++ F2) ∧ SlotR K Z O H x y G ∧
      (∀ (x' : Option V) (y' : Option R) (G' : List Addr) (Z' O' H' : Hp), Same Z Z' → Same O O' → (SameN H H' ∨ nov ρ = true) → (∀ a ∈ F1 ++ F2, ∀ o, H a = some o → (∀ ps, o ≠ .tbl ps) → H' a = some o) → SlotR K Z' O' H' x' y' G' → Slots K Z' O' H' (σ.set i x') (ρ.set i y') (F1 ++ (G' ++ F2)))
  | _, _, _, _, .nil, h => by simp at h
  | x :: σ, _ :: ρ, F, 0, .non s, h => by
    refine ⟨x, none, [], [], F, rfl, rfl, rfl, rfl, fun x' y' G' Z' O' H' ez eo eh k q => ?_⟩
    have s' : Slots K Z' O' H' σ ρ F := by
      rcases eh with eh | n
      · exact Slots.sameM ez eo eh s
      · exact Slots.keep ez eo s (by simpa [nov] using n) (by simpa using k)
    cases y' with
    | none => have e : G' = [] := q; subst e; exact .non s'
    | some r => cases x' with
      | none => cases q
      | some v =>
        have z := Slots.val q s'
        exact z
  | some _ :: σ, some _ :: ρ, _, 0, .val (r := r) (F := F) (G := G) q s, h => by
    refine ⟨_, some r, [], F, G, rfl, rfl, rfl, q, fun x' y' G' Z' O' H' ez eo eh k q => ?_⟩
    have s' : Slots K Z' O' H' σ ρ G := by
      rcases eh with eh | n
      · exact Slots.sameM ez eo eh s
      · exact Slots.keep ez eo s (by have n1 : (_ && _) = true := n; exact (Bool.and_eq_true_iff.mp n1).2) (by simpa using k)
    cases y' with
    | none => have e : G' = [] := q; subst e; exact .non s'
    | some r => cases x' with
      | none => cases q
      | some v =>
        have z := Slots.val q s'
        exact z
  | x :: σ, _ :: ρ, F, i + 1, .non s, h => by
    obtain ⟨x1, y1, F1, G, F2, h1, h2, h3, h4, h5⟩ := Slots.focus (i := i) s (by simpa using h)
    refine ⟨x1, y1, F1, G, F2, by simpa using h1, by simpa using h2, h3, h4, fun x' y' G' Z' O' H' ez eo eh k q => ?_⟩
    exact .non (h5 x' y' G' Z' O' H' ez eo (eh.imp id fun n => by simpa [nov] using n) k q)
  | some _ :: σ, some _ :: ρ, _, i + 1, .val (r := r) (F := F0) (G := G0) q0 s, h => by
    obtain ⟨x1, y1, F1, G, F2, h1, h2, h3, h4, h5⟩ := Slots.focus (i := i) s (by simpa using h)
    refine ⟨x1, y1, F0 ++ F1, G, F2, by simpa using h1, by simpa using h2, by rw [h3, List.append_assoc], h4, fun x' y' G' Z' O' H' ez eo eh k q => ?_⟩
    rw [List.append_assoc]
    refine .val ?_ (h5 x' y' G' Z' O' H' ez eo (eh.imp id fun n => by have n1 : (_ && _) = true := n; exact (Bool.and_eq_true_iff.mp n1).2) (fun a ha => k a ?_) q)
    · rcases eh with eh | n
      · exact RepS.sameM ez eo eh q0
      · refine q0.keep (fun e => ?_) ez eo fun a ha => k a (List.mem_append_left _ (List.mem_append_left _ ha))
        have n1 : (_ && _) = true := n
        obtain ⟨n2, _⟩ := Bool.and_eq_true_iff.mp n1
        obtain ⟨s, d⟩ := r
        cases e
        cases n2
    · rcases List.mem_append.mp ha with ha | ha
      · exact List.mem_append_left _ (List.mem_append_right _ ha)
      · exact List.mem_append_right _ ha
end
end Oz

/-! Oz37: the head's Hook with tables of code objects: markers at K's end name them. -/
namespace Oz
open PySem PySem.Spec L2
open PyProof.Rows hiding St
def mkr (q : Addr × Addr) : Addr × Obj := (q.1, ⟨.none, some q.2, .plain, #[]⟩)
def addM (K0 : PySem.W.Frag) (tf : List He.Defn) : PySem.W.Frag := K0 ++ tf.map fun p => mkr (He.cT K0 p)
def Kz (n : Nat) (tf : List He.Defn) (g : Addr → Option Obj) : PySem.W.Frag := addM (He.frT g (He.asD g n)) tf
def zB (g : Addr → Option Obj) (tf : List He.Defn) (K0 K : PySem.W.Frag) : Bool := (tf.all fun p => (K0.lookup (He.cT K0 p).1).isSome && (PySem.W.codeHdIn K (He.cT K p).1 (He.cT K p).2 && ((match g (He.cT K p).2 with
  | some o => He.emptyTab o
  | none => false) && (K.lookup (He.cT K p).2).isNone))) && decide (tabsK K = tf.map fun p => (He.cT K p).2)
structure SaysZ (fa : List He.Fa) (fn : List He.DefD) (ck : PySem.W.Frag → Bool) (dn : List (Str × List Str)) (tf : List He.Defn) (w : World) (h : Heap) (K : PySem.W.Frag) : Prop where
  d : He.SaysD fa fn K
  ck : ck K = true
  dn : dn.map (fun q => He.dicW K (He.ga K q.1)) = dn.map (fun q => some (He.keysIn w.params q.2))
  hd : ∀ p ∈ tf, PySem.W.codeHdIn K (He.cT K p).1 (He.cT K p).2 = true
  out : ∀ p ∈ tf, K.lookup (He.cT K p).2 = none
  empty : ∀ p ∈ tf, h.get? (He.cT K p).2 = some { cls := .none, data := .fields #[] }
  tk : tabsK K = tf.map fun p => (He.cT K p).2
theorem lookup_app {a : Addr} {o : Obj} {l m : List (Addr × Obj)} (h : (l ++ m).lookup a = some o) : l.lookup a = some o ∨ (l.lookup a = none ∧ m.lookup a = some o) := by
  induction l with
  | nil => exact .inr ⟨rfl, h⟩
  | cons p l ih =>
    obtain ⟨b, u⟩ := p
    rw [List.cons_append, List.lookup_cons] at h
    rw [List.lookup_cons]
    by_cases e : (a == b) = true
    · rw [e] at h ⊢; exact .inl h
    · have e' : (a == b) = false := Bool.eq_false_iff.mpr e
      rw [e'] at h ⊢
      exact ih h
theorem in_addM {K0 : PySem.W.Frag} {tf : List He.Defn} {h : Heap} (H : K0.In h) (hs : ∀ p ∈ tf, (K0.lookup (He.cT K0 p).1).isSome = true) : (addM K0 tf).In h := fun a o e => by
  rcases lookup_app e with e | ⟨e1, e2⟩
  · exact H a o e
  · have hm := He.lookup_mem e2
    obtain ⟨p, hp, ep⟩ := List.mem_map.mp hm
    have ea : (He.cT K0 p).1 = a := congrArg Prod.fst ep
    have := hs p hp
    rw [ea, e1] at this
    cases this
noncomputable section
def hookZ (n : Nat) (fa : List He.Fa) (fn : List He.DefD) (ck : PySem.W.Frag → Bool) (dn : List (Str × List Str)) (tf : List He.Defn) : PySem.W.Hook where
  α := Bool × Bool × List (Option (List (Option (Str × Int)))) × He.AlD
  obs := fun s => (zB s.heap.get? tf (He.frT s.heap.get? (He.asD s.heap.get? n)) (Kz n tf s.heap.get?), ck (Kz n tf s.heap.get?), dn.map (fun q => He.dicW (Kz n tf s.heap.get?) (He.ga (Kz n tf s.heap.get?) q.1)), He.obsD fa fn (Kz n tf s.heap.get?))
  val := fun w => (true, true, dn.map (fun q => some (He.keysIn w.params q.2)), He.valD fn)
  says := fun w h => ∃ K : PySem.W.Frag, K.In h ∧ SaysZ fa fn ck dn tf w h K
  of := fun _ _ e => by
    have e1 := (Prod.mk.inj e).1
    obtain ⟨e2, e3⟩ := Prod.mk.inj (Prod.mk.inj e).2
    obtain ⟨e4, e5⟩ := Prod.mk.inj e3
    unfold zB at e1
    rw [Bool.and_eq_true, List.all_eq_true, decide_eq_true_eq] at e1
    obtain ⟨z1, z2⟩ := e1
    have zz := fun p hp => z1 p hp
    simp only [Bool.and_eq_true] at zz
    refine ⟨_, in_addM He.frT_in fun p hp => (zz p hp).1, e5, e2, e4, fun p hp => (zz p hp).2.1, fun p hp => Option.isNone_iff_eq_none.mp (zz p hp).2.2.2, fun p hp => ?_, z2⟩
    have h3 := (zz p hp).2.2.1
    split at h3
    · rename_i o ho
      rw [← He.emptyTab_eq h3]
      exact ho
    · cases h3
  keeps := fun _ _ _ ⟨K, hK, c⟩ k => ⟨K, PySem.W.Frag.In.keeps hK k, ⟨c.d, c.ck, c.dn, c.hd, c.out, fun p hp => k _ _ (c.empty p hp), c.tk⟩⟩
end
end Oz

namespace Law
open PySem PySem.Spec L2 Oz
open PyProof.Rows hiding St
def top (i : Nat) : Stmt := PySem.Challenge.pw_notetrail_k00_what_is_evidence.main.body.getD i (.Pass ⟨0, 0, 0, 0⟩)
abbrev st__law_evidence : Stmt := top 30
abbrev st__law_begun : Stmt := top 27
abbrev st__law_draws : Stmt := top 21
abbrev st__law_parties : Stmt := top 22
abbrev st__law_noted : Stmt := top 23
abbrev st__law_lied : Stmt := top 25
abbrev st__law_honest : Stmt := top 24
abbrev st__law_did : Stmt := top 28
abbrev st__law_cell : Stmt := top 20
abbrev st__law_deed : Stmt := top 26
abbrev st__law_world : Stmt := top 29
abbrev st__law_put : Stmt := top 36
abbrev st__law_odd : Stmt := top 37
abbrev st__law_changed : Stmt := top 38
abbrev st_entry_numbers : Stmt := top 18
abbrev st_ascend : Stmt := top 13
abbrev st_is_number : Stmt := top 8
abbrev st_is_find : Stmt := top 12
abbrev st_are_finds : Stmt := top 16
abbrev st_is_flag : Stmt := top 9
abbrev st_is_party : Stmt := top 10
abbrev st_is_parties : Stmt := top 15
abbrev st_is_entry : Stmt := top 11
abbrev st_is_file : Stmt := top 14
abbrev st_is_evidence : Stmt := top 17
abbrev st__law_is_integer : Stmt := top 31
abbrev st__law_ascends : Stmt := top 32
abbrev st__law_is_row : Stmt := top 33
abbrev st__law_is_find : Stmt := top 34
abbrev st__law_is_evidence : Stmt := top 35
abbrev st_law : Stmt := top 39
end Law

namespace Law
open PySem PySem.Spec L2 Oz
open PyProof.Rows hiding St
def d__law_evidence : He.DefD := ⟨("_law_evidence", none), "_law_evidence", "_law_evidence", defArgs st__law_evidence, defBody st__law_evidence, defScope st__law_evidence, [], []⟩
def d__law_begun : He.DefD := ⟨("_law_begun", none), "_law_begun", "_law_begun", defArgs st__law_begun, defBody st__law_begun, defScope st__law_begun, [], []⟩
def d__law_draws : He.DefD := ⟨("_law_draws", none), "_law_draws", "_law_draws", defArgs st__law_draws, defBody st__law_draws, defScope st__law_draws, [], []⟩
def d__law_parties : He.DefD := ⟨("_law_parties", none), "_law_parties", "_law_parties", defArgs st__law_parties, defBody st__law_parties, defScope st__law_parties, [], []⟩
def d__law_noted : He.DefD := ⟨("_law_noted", none), "_law_noted", "_law_noted", defArgs st__law_noted, defBody st__law_noted, defScope st__law_noted, [], []⟩
def d__law_lied : He.DefD := ⟨("_law_lied", none), "_law_lied", "_law_lied", defArgs st__law_lied, defBody st__law_lied, defScope st__law_lied, [], []⟩
def d__law_honest : He.DefD := ⟨("_law_honest", none), "_law_honest", "_law_honest", defArgs st__law_honest, defBody st__law_honest, defScope st__law_honest, [], []⟩
def d__law_did : He.DefD := ⟨("_law_did", none), "_law_did", "_law_did", defArgs st__law_did, defBody st__law_did, defScope st__law_did, [], []⟩
def d__law_cell : He.DefD := ⟨("_law_cell", none), "_law_cell", "_law_cell", defArgs st__law_cell, defBody st__law_cell, defScope st__law_cell, [], []⟩
def d__law_deed : He.DefD := ⟨("_law_deed", none), "_law_deed", "_law_deed", defArgs st__law_deed, defBody st__law_deed, defScope st__law_deed, [], []⟩
def d__law_world : He.DefD := ⟨("_law_world", none), "_law_world", "_law_world", defArgs st__law_world, defBody st__law_world, defScope st__law_world, [], []⟩
def d__law_put : He.DefD := ⟨("_law_put", none), "_law_put", "_law_put", defArgs st__law_put, defBody st__law_put, defScope st__law_put, [], []⟩
def d__law_odd : He.DefD := ⟨("_law_odd", none), "_law_odd", "_law_odd", defArgs st__law_odd, defBody st__law_odd, defScope st__law_odd, [], []⟩
def d__law_changed : He.DefD := ⟨("_law_changed", none), "_law_changed", "_law_changed", defArgs st__law_changed, defBody st__law_changed, defScope st__law_changed, [], []⟩
def d_entry_numbers : He.DefD := ⟨("entry_numbers", none), "entry_numbers", "entry_numbers", defArgs st_entry_numbers, defBody st_entry_numbers, defScope st_entry_numbers, [], []⟩
def d_ascend : He.DefD := ⟨("ascend", none), "ascend", "ascend", defArgs st_ascend, defBody st_ascend, defScope st_ascend, [], []⟩
def d_is_number : He.DefD := ⟨("is_number", none), "is_number", "is_number", defArgs st_is_number, defBody st_is_number, defScope st_is_number, [], []⟩
def d_is_find : He.DefD := ⟨("is_find", none), "is_find", "is_find", defArgs st_is_find, defBody st_is_find, defScope st_is_find, [], []⟩
def d_are_finds : He.DefD := ⟨("are_finds", none), "are_finds", "are_finds", defArgs st_are_finds, defBody st_are_finds, defScope st_are_finds, [], []⟩
def d_is_flag : He.DefD := ⟨("is_flag", none), "is_flag", "is_flag", defArgs st_is_flag, defBody st_is_flag, defScope st_is_flag, [], []⟩
def d_is_party : He.DefD := ⟨("is_party", none), "is_party", "is_party", defArgs st_is_party, defBody st_is_party, defScope st_is_party, [], []⟩
def d_is_parties : He.DefD := ⟨("is_parties", none), "is_parties", "is_parties", defArgs st_is_parties, defBody st_is_parties, defScope st_is_parties, [], []⟩
def d_is_entry : He.DefD := ⟨("is_entry", none), "is_entry", "is_entry", defArgs st_is_entry, defBody st_is_entry, defScope st_is_entry, [], []⟩
def d_is_file : He.DefD := ⟨("is_file", none), "is_file", "is_file", defArgs st_is_file, defBody st_is_file, defScope st_is_file, [], []⟩
def d_is_evidence : He.DefD := ⟨("is_evidence", none), "is_evidence", "is_evidence", defArgs st_is_evidence, defBody st_is_evidence, defScope st_is_evidence, [], []⟩
def d__law_is_integer : He.DefD := ⟨("_law_is_integer", none), "_law_is_integer", "_law_is_integer", defArgs st__law_is_integer, defBody st__law_is_integer, defScope st__law_is_integer, [], []⟩
def d__law_ascends : He.DefD := ⟨("_law_ascends", none), "_law_ascends", "_law_ascends", defArgs st__law_ascends, defBody st__law_ascends, defScope st__law_ascends, [], []⟩
def d__law_is_row : He.DefD := ⟨("_law_is_row", none), "_law_is_row", "_law_is_row", defArgs st__law_is_row, defBody st__law_is_row, defScope st__law_is_row, [], []⟩
def d__law_is_find : He.DefD := ⟨("_law_is_find", none), "_law_is_find", "_law_is_find", defArgs st__law_is_find, defBody st__law_is_find, defScope st__law_is_find, [], []⟩
def d__law_is_evidence : He.DefD := ⟨("_law_is_evidence", none), "_law_is_evidence", "_law_is_evidence", defArgs st__law_is_evidence, defBody st__law_is_evidence, defScope st__law_is_evidence, [], []⟩
def d_law : He.DefD := ⟨("law", none), "law", "law", defArgs st_law, defBody st_law, defScope st_law, [], []⟩
def fn : List He.DefD := [d__law_evidence, d__law_begun, d__law_draws, d__law_parties, d__law_noted, d__law_lied, d__law_honest, d__law_did, d__law_cell, d__law_deed, d__law_world, d__law_put, d__law_odd, d__law_changed, d_entry_numbers, d_ascend, d_is_number, d_is_find, d_are_finds, d_is_flag, d_is_party, d_is_parties, d_is_entry, d_is_file, d_is_evidence, d__law_is_integer, d__law_ascends, d__law_is_row, d__law_is_find, d__law_is_evidence, d_law]
def ck (K : PySem.W.Frag) : Bool := (He.tupB K "PLAIN_DEEDS" [.str "made", .str "treated"]) && (He.tupB K "COPY_DEEDS" [.str "gave", .str "took"])
theorem ck_0 {K : PySem.W.Frag} (h : ck K = true) : He.tupB K "PLAIN_DEEDS" [.str "made", .str "treated"] = true := by
  unfold ck at h
  simp only [Bool.and_eq_true] at h
  exact h.1
theorem ck_1 {K : PySem.W.Frag} (h : ck K = true) : He.tupB K "COPY_DEEDS" [.str "gave", .str "took"] = true := by
  unfold ck at h
  simp only [Bool.and_eq_true] at h
  exact h.2
abbrev Rw0 : PySem.W.OpenRow := PySem.W.OpenLaw.row PySem.Challenge.rw_notetrail_k00_what_is_evidence
def dn : List (Str × List Str) := []
def tf : List He.Defn := [("ascend", none), ("are_finds", none), ("is_parties", none), ("is_file", none), ("is_evidence", none)]
def fa : List He.Fa := [.glo "_law_evidence", .glo "_law_begun", .glo "_law_draws", .glo "_law_parties", .glo "_law_noted", .glo "_law_lied", .glo "_law_honest", .glo "_law_did", .glo "_law_cell", .glo "_law_deed", .glo "_law_world", .glo "_law_put", .glo "_law_odd", .glo "_law_changed", .glo "entry_numbers", .glo "ascend", .glo "is_number", .glo "is_find", .glo "are_finds", .glo "is_flag", .glo "is_party", .glo "is_parties", .glo "is_entry", .glo "is_file", .glo "is_evidence", .glo "_law_is_integer", .glo "_law_ascends", .glo "_law_is_row", .glo "_law_is_find", .glo "_law_is_evidence", .glo "law", .int "NUMBER_MOST" 1000000000, .int "AMOUNT_MOST" 1000000000000, .int "ROWS_MOST" 200, .int "PARTIES_MOST" 8, .glo "PLAIN_DEEDS", .glo "COPY_DEEDS", .int "KINDS_MOST" 3, .free "tuple", .free "range", .free "int", .free "len", .free "all", .free "enumerate", .free "isinstance", .free "bool", .free "str", .free "any", .free "list"]
abbrev hk : PySem.W.Hook := Oz.hookZ 4 fa fn ck dn tf
def ob (s : PySem.W.SharedT) : Bool × Bool × List (Option (List (Option (Str × Int)))) × He.AlD := (zB (HandSHeadRun.getT s) tf (He.frT (HandSHeadRun.getT s) (He.asD (HandSHeadRun.getT s) 4)) (Kz 4 tf (HandSHeadRun.getT s)), ck (Kz 4 tf (HandSHeadRun.getT s)), dn.map (fun q => He.dicW (Kz 4 tf (HandSHeadRun.getT s)) (He.ga (Kz 4 tf (HandSHeadRun.getT s)) q.1)), He.obsD fa fn (Kz 4 tf (HandSHeadRun.getT s)))
theorem ob_eq (s : PySem.W.SharedT) : ob s = hk.obs s.abs := by
  have e : HandSHeadRun.getT s = s.abs.heap.get? := funext fun a => HandSHeadRun.getT_eq s a
  unfold ob
  rw [e]
  rfl
def loose0 : List Str := ["KINDS_MOST", "PARTIES_MOST", "ROWS_MOST", "NUMBER_MOST", "AMOUNT_MOST", "PLAIN_DEEDS", "COPY_DEEDS", "is_number", "is_flag", "is_party", "is_entry", "is_find", "ascend", "is_file", "is_parties", "are_finds", "is_evidence", "entry_numbers", "_law_cell", "_law_draws"]
def loose1 : List Str := ["_law_parties", "_law_noted", "_law_honest", "_law_lied", "_law_deed", "_law_begun", "_law_did", "_law_world", "_law_evidence", "_law_is_integer", "_law_ascends", "_law_is_row", "_law_is_find", "_law_is_evidence", "_law_put", "_law_odd", "_law_changed"]
def loose : List Str := loose0 ++ loose1
theorem run (w : World) : HandSHeadRun.RunEq Rw0 (PySem.W.view Rw0.prog [39]) hk ob 3000 loose w := by
  intro os
  kernel_rfl
end Law

namespace Oz
open PySem PySem.Spec L2
open PyProof.Rows hiding St
variable [WD]

structure Rel (K : PySem.W.Frag) (Z O H : Hp) (σ : St) (ρ : Ev) (F : List Addr) : Prop where
  g : Good Z O H
  nd : F.Nodup
  fo : ∀ a ∈ F, O a = none
  sl : Slots K Z O H σ ρ F
  tb : Tabs K H
section
variable {K : PySem.W.Frag} {Z O H Z' O' H' : Hp} {σ : St} {ρ : Ev} {F : List Addr}
theorem Rel.ext (r : Rel K Z O H σ ρ F) (e : Ext [] Z O H Z' O' H') (g : Good Z' O' H') : Rel K Z' O' H' σ ρ F :=
  ⟨g, r.nd, (fun a h => by
    obtain ⟨o, q, _⟩ := r.sl.live a h
    cases w : O' a with
    | none => rfl
    | some x =>
      rcases e.on a (by rw [w]; simp) with z | z | z
      · exact absurd (r.fo a h) z
      · rw [q] at z; cases z
      · cases z), r.sl.ext e, r.tb.ext e.h⟩
end
theorem Rel.updT {K : PySem.W.Frag} {Z O H : Hp} {σ : St} {ρ : Ev} {F : List Addr} (r : Rel K Z O H σ ρ F) {a : Addr} (ha : a ∈ F) (o : HO) : Tabs K (upd H a o) := fun P hP =>
  upd_tab (r.sl.nsy a ha) (r.tb P hP)
/-- an exception of the class c with its attributes -/
def ExcK (K : PySem.W.Frag) (E : XK) (Z O H : Hp) (c : Str) (fs : List (Str × D)) : Prop :=
  ∀ (H' Z' O' : Hp) (d : Addr) (xs : List (Str × V)), Ext [] Z O H Z' O' H' → Good Z' O' H' → H' d = some (.xd xs) → xs.map (·.1) = fs.map (·.1) → Reps K Z' (xs.map (·.2)) (fs.map (·.2)) → E (.ref (He.ga K c)) (some d) H'
/-- a result; W: the temporary things that may be in it -/
def OkK (K : PySem.W.Frag) (W : List Addr) (Z O H : Hp) (r : R) (Q : VK) : Prop :=
  ∀ v H' Z' O' G, Ext W Z O H Z' O' H' → Good Z' O' H' → RepR K Z' O' H' v r G → G.Nodup → (∀ a ∈ G, (H a = none ∨ a ∈ W) ∧ O' a = none) → Q v H'
def ResK (K : PySem.W.Frag) (E : XK) (W : List Addr) (Z O H : Hp) (r : Res R) (Q : VK) : Prop := match r with
  | .bad => False
  | .ok r => OkK K W Z O H r Q
  | .exc c fs => ExcK K E Z O H c fs
section
variable {K : PySem.W.Frag} {E : XK} {Z O H Z1 O1 H1 : Hp} {Q : VK} {W : List Addr}
theorem OkK.ext {r : R} (h : OkK K [] Z O H r Q) (e : Ext [] Z O H Z1 O1 H1) (w : ∀ a ∈ W, H a = none) : OkK K W Z1 O1 H1 r Q := fun v H' Z' O' G e' g' q nd f =>
  h v H' Z' O' G (e.trans e' fun c hc => .inl (w c hc)) g' q nd fun a ha => ⟨.inl ((f a ha).1.elim (fun z => e.h.free z) (w a)), (f a ha).2⟩
theorem ExcK.ext {c : Str} {fs : List (Str × D)} (h : ExcK K E Z O H c fs) (e : Ext [] Z O H Z1 O1 H1) : ExcK K E Z1 O1 H1 c fs := fun H' Z' O' d xs e' g' q a b =>
  h H' Z' O' d xs (e.trans0 e') g' q a b
theorem ResK.ext {r : Res R} (h : ResK K E [] Z O H r Q) (e : Ext [] Z O H Z1 O1 H1) (w : ∀ a ∈ W, H a = none) : ResK K E W Z1 O1 H1 r Q := by
  cases r with
  | bad => exact h
  | ok r => exact OkK.ext h e w
  | exc c fs => exact ExcK.ext h e
end

/-! ### the readings -/
def tP (K : PySem.W.Frag) (E : XK) (p : Px) : TE := fun σ H Q => ∃ Z O ρ F, Rel K Z O H σ ρ F ∧ ResK K E [] Z O H (p ρ) Q
def tT (K : PySem.W.Frag) (E : XK) (t : Tx) : TT := fun σ H Q => ∃ Z O ρ F, Rel K Z O H σ ρ F ∧ match t ρ with
  | .bad => False
  | .ok b => ∀ H' Z' O', Ext [] Z O H Z' O' H' → Good Z' O' H' → Q b H'
  | .exc c fs => ExcK K E Z O H c fs
inductive RepRs (K : PySem.W.Frag) (Z O H : Hp) : List V → List R → List Addr → Prop
  | nil : RepRs K Z O H [] [] []
  | cons {v : V} {vs : List V} {r : R} {rs : List R} {F G : List Addr} : RepR K Z O H v r F → RepRs K Z O H vs rs G → RepRs K Z O H (v :: vs) (r :: rs) (F ++ G)
def evs : List Px → Ev → Res (List R)
  | [], _ => .ok []
  | p :: ps, ρ => (p ρ).bind fun r => (evs ps ρ).bind fun rs => .ok (r :: rs)
def OksK (K : PySem.W.Frag) (Z O H : Hp) (rs : List R) (Q : List V → Hp → Prop) : Prop :=
  ∀ vs H' Z' O' G, Ext [] Z O H Z' O' H' → Good Z' O' H' → RepRs K Z' O' H' vs rs G → G.Nodup → (∀ a ∈ G, H a = none ∧ O' a = none) → Q vs H'
def tA (K : PySem.W.Frag) (E : XK) (ps : List Px) : TA := fun σ H Q => ∃ Z O ρ F, Rel K Z O H σ ρ F ∧ match evs ps ρ with
  | .bad => False
  | .ok rs => OksK K Z O H rs Q
  | .exc c fs => ExcK K E Z O H c fs
section
variable {X : Cx}
theorem _root_.L2.PE.imp {e : Expr} {t t' : TE} (h : PE X e t) (i : ∀ σ H Q, t' σ H Q → t σ H Q) : PE X e t' := ⟨fun pins s σ H Q I q => h.run pins s σ H Q I (i σ H Q q)⟩
theorem _root_.L2.PT.imp {e : Expr} {t t' : TT} (h : PT X e t) (i : ∀ σ H Q, t' σ H Q → t σ H Q) : PT X e t' := ⟨fun pins s σ H Q I q => h.run pins s σ H Q I (i σ H Q q)⟩
theorem _root_.L2.PW.imp {e : Expr} {t t' : TT} (h : PW X e t) (i : ∀ σ H Q, t' σ H Q → t σ H Q) : PW X e t' := ⟨fun w pins s σ H Q I q => h.run w pins s σ H Q I (i σ H Q q)⟩
theorem _root_.L2.PA.imp {es : List Expr} {t t' : TA} (h : PA X es t) (i : ∀ σ H Q, t' σ H Q → t σ H Q) : PA X es t' := ⟨fun pos pins s σ H Q I q => h.run pos pins s σ H Q I (i σ H Q q)⟩
theorem _root_.L2.PS.imp {st : Stmt} {t t' : TS} (h : PS X st t) (i : ∀ D σ H, t' D σ H → t D σ H) : PS X st t' := ⟨fun pins s σ H D I q => h.run pins s σ H D I (i D σ H q)⟩
theorem _root_.L2.PSs.imp {st : List Stmt} {t t' : TS} (h : PSs X st t) (i : ∀ D σ H, t' D σ H → t D σ H) : PSs X st t' := ⟨fun pins s σ H D I q => h.run pins s σ H D I (i D σ H q)⟩
end
section
variable {K : PySem.W.Frag} {Z O H Z' O' H' : Hp}
theorem RepRs.ext {W : List Addr} (e : Ext W Z O H Z' O' H') : ∀ {vs : List V} {rs : List R} {F : List Addr}, RepRs K Z O H vs rs F → RepRs K Z' O' H' vs rs F
  | _, _, _, .nil => .nil
  | _, _, _, .cons r s => .cons (r.ext e) (RepRs.ext e s)
theorem RepRs.live : ∀ {vs : List V} {rs : List R} {F : List Addr}, RepRs K Z O H vs rs F → ∀ a ∈ F, ∃ o, H a = some o ∧ fzn o = false
  | _, _, _, .nil, _, h => by cases h
  | _, _, _, .cons r s, a, h => (List.mem_append.mp h).elim (r.live a) (s.live a)
theorem RepRs.length : ∀ {vs : List V} {rs : List R} {F : List Addr}, RepRs K Z O H vs rs F → vs.length = rs.length
  | _, _, _, .nil => rfl
  | _, _, _, .cons _ s => congrArg (· + 1) s.length
theorem RepRs.look (g : Good Z O H) : ∀ {vs : List V} {rs : List R} {F : List Addr}, RepRs K Z O H vs rs F → Reps K H vs (rs.map (·.d))
  | _, _, _, .nil => .nil
  | _, _, _, .cons r s => .cons (r.look g) (RepRs.look g s)
/-- new cells beside live ones -/
theorem nodup_fresh {F G : List Addr} (nF : F.Nodup) (nG : G.Nodup) (lv : ∀ a ∈ F, ∃ o, H a = some o) (fr : ∀ a ∈ G, H a = none) : (F ++ G).Nodup := by
  rw [List.nodup_append]
  refine ⟨nF, nG, fun a ha b hb e => ?_⟩
  subst e
  obtain ⟨o, h⟩ := lv a ha
  rw [fr a hb] at h
  cases h
end

/-! ### names, constants -/
def vw (r : R) : R := if lf r.d then ⟨.imm, r.d⟩ else match r.s with
  | .own => ⟨.view, r.d⟩
  | .brw => ⟨.view, r.d⟩
  | s => ⟨s, r.d⟩
theorem RepR.vw {K : PySem.W.Frag} {Z O H : Hp} {v : V} {r : R} {F : List Addr} (g : Good Z O H) (h : RepR K Z O H v r F) : RepR K Z O H v (Oz.vw r) [] := by
  have lk := h.look g
  unfold Oz.vw
  split
  · exact ⟨lk.up g.tz ‹_›, rfl⟩
  · obtain ⟨s, d⟩ := r
    cases s with
    | imm => exact ⟨h.1, rfl⟩
    | out => exact ⟨h.1, rfl⟩
    | view => exact ⟨h.1, rfl⟩
    | own => exact ⟨lk, rfl⟩
    | brw => exact ⟨lk, rfl⟩
    | tab => exact (show False from h).elim
def pVar (i : Nat) : Px := fun ρ => match ρ[i]? with
  | some (some ⟨.tab, _⟩) => .bad
  | some (some r) => .ok (vw r)
  | _ => .bad
def pC (d : D) : Px := fun _ => .ok ⟨.imm, d⟩
section
variable {X : Cx} {E : XK}
theorem s_var (i : Nat) {x : Str} {pos : Pos} (hN : X.N[i]? = some x := by rfl) (hv : Vis X.env.scope x := by first | exact Or.inl rfl | exact Or.inr (Or.inl rfl) | exact Or.inr (Or.inr rfl)) (hd : (x == ("__debug__" : Str)) = false := by decide)
    (hcd : (x == ("__classdict__" : Str)) = false := by decide) : PE X (.Name x pos) (tP X.K E (pVar i)) := by
  refine (pe_var hN hv hd hcd).imp fun σ H Q ⟨Z, O, ρ, F, r, q⟩ => ?_
  unfold pVar at q
  cases e : ρ[i]? with
  | none => rw [e] at q; exact q.elim
  | some y =>
    cases y with
    | none => rw [e] at q; exact q.elim
    | some y =>
      rw [e] at q
      obtain ⟨v, h1, G, h2⟩ := r.sl.get e
      have ht : y.s ≠ .tab := fun z => by
        obtain ⟨s, d⟩ := y
        cases z
        exact q.elim
      have q2 : OkK X.K [] Z O H (vw y) Q := by
        obtain ⟨s, d⟩ := y
        cases s <;> first | exact q | exact absurd rfl ht
      exact ⟨v, h1, q2 v H Z O [] (Ext.refl _ _ _ _) r.g ((h2.rep ht).vw r.g) List.nodup_nil fun a ha => by cases ha⟩
theorem okC {K : PySem.W.Frag} {d : D} {v : V} {σ : St} {H : Hp} {Q : VK} (rep : ∀ C, Rep K C v d) (h : tP K E (pC d) σ H Q) : Q v H := by
  obtain ⟨Z, O, ρ, F, r, q⟩ := h
  exact q v H Z O [] (Ext.refl _ _ _ _) r.g ⟨rep Z, rfl⟩ List.nodup_nil fun a ha => by cases ha
theorem s_int {i j pos} : PE X (.Constant (.int i) j pos) (tP X.K E (pC (.int i))) := pe_int.imp fun σ H Q h => okC (fun _ => .int i) h
theorem s_bl {b j pos} : PE X (.Constant (.bool b) j pos) (tP X.K E (pC (.bool b))) := pe_bl.imp fun σ H Q h => okC (fun _ => .bl b) h
theorem s_non {j pos} : PE X (.Constant .none j pos) (tP X.K E (pC .none)) := pe_non.imp fun σ H Q h => okC (fun _ => .non) h
theorem s_str {x j pos} : PE X (.Constant (.str x) j pos) (tP X.K E (pC (.str x))) := pe_str.imp fun σ H Q h => okC (fun _ => .str x) h
/-- a constant of the module: an int, a tuple of such -/
theorem s_glob {x : Str} {v : V} {u : Value} {d : D} {pos : Pos} (hg : Gl X x) (hm : X.mg x = some u) (r : RelV v u) (rep : ∀ C, Rep X.K C v d) (hd : (x == ("__debug__" : Str)) = false := by decide) : PE X (.Name x pos) (tP X.K E (pC d)) :=
  (pe_glob hg hm r hd).imp fun σ H Q h => okC rep h
end

/-! ### two in a row -/
def Op2 (K : PySem.W.Frag) (T : R2) (f : R → R → Res R) : Prop := ∀ (E : XK) (Z O H : Hp) (x y : V) (a b : R) (F G : List Addr) (Q : VK), Good Z O H → RepR K Z O H x a F → RepR K Z O H y b G → (F ++ G).Nodup → (∀ c ∈ F ++ G, O c = none) →
  ResK K E (F ++ G) Z O H (f a b) Q → T x y H Q
def p2 (f : R → R → Res R) (p q : Px) : Px := fun ρ => (p ρ).bind fun a => (q ρ).bind fun b => f a b
section
variable {K : PySem.W.Frag} {E : XK} {p q : Px}
/-- a first one, then the rest -/
theorem tP_bind {k : R → Ev → Res R} {σ : St} {H : Hp} {Q : VK} (h : tP K E (fun ρ => (p ρ).bind fun a => k a ρ) σ H Q) {T : V → Hp → Prop}
    (next : ∀ (Z O H1 Z1 O1 : Hp) (ρ : Ev) (F G : List Addr) (v : V) (a : R), Rel K Z O H σ ρ F → Ext [] Z O H Z1 O1 H1 → Rel K Z1 O1 H1 σ ρ F → RepR K Z1 O1 H1 v a G → G.Nodup → (∀ c ∈ G, H c = none ∧ O1 c = none) → ResK K E [] Z O H (k a ρ) Q → T v H1) :
    tP K E p σ H T := by
  obtain ⟨Z, O, ρ, F, r, h⟩ := h
  refine ⟨Z, O, ρ, F, r, ?_⟩
  have h2 : ResK K E [] Z O H ((p ρ).bind fun a => k a ρ) Q := h
  cases e : p ρ with
  | bad => rw [e] at h2; exact h2.elim
  | exc c fs => rw [e] at h2; exact h2
  | ok a =>
    rw [e] at h2
    intro v H1 Z1 O1 G x1 g1 r1 nd f
    exact next Z O H1 Z1 O1 ρ F G v a r x1 (r.ext x1 g1) r1 nd (fun c hc => ⟨(f c hc).1.elim id (fun z => by cases z), (f c hc).2⟩) h2
theorem tP_op2 {T : R2} {f : R → R → Res R} (hf : Op2 K T f) {σ : St} {H : Hp} {Q : VK} (h : tP K E (p2 f p q) σ H Q) : tOp T (tP K E p) (tP K E q) σ H Q := by
  refine tP_bind (k := fun a ρ => (q ρ).bind fun b => f a b) h fun Z O H1 Z1 O1 ρ F G v a r x1 r1 q1 nd fr h2 => ?_
  refine ⟨Z1, O1, ρ, F, r1, ?_⟩
  cases e : q ρ with
  | bad => rw [e] at h2; exact h2.elim
  | exc c fs => rw [e] at h2; exact ExcK.ext h2 x1
  | ok b =>
    rw [e] at h2
    intro w H2 Z2 O2 G2 x2 g2 q2 nd2 fr2
    have h3 : ResK K E [] Z O H (f a b) Q := h2
    have n12 : (G ++ G2).Nodup := nodup_fresh nd nd2 (fun c hc => let ⟨o, z, _⟩ := q1.live c hc; ⟨o, z⟩) (fun c hc => (fr2 c hc).1.elim id fun z => by cases z)
    refine hf E Z2 O2 H2 v w a b G G2 Q g2 (q1.ext x2) q2 n12 (fun c hc => ?_) (h3.ext (x1.trans0 x2) fun c hc => ?_)
    · rcases List.mem_append.mp hc with hc | hc
      · cases z : O2 c with
        | none => rfl
        | some o =>
          obtain ⟨o1, w1, _⟩ := q1.live c hc
          rcases x2.on c (by rw [z]; simp) with y | y | y
          · exact absurd (fr c hc).2 y
          · rw [w1] at y; cases y
          · cases y
      · exact (fr2 c hc).2
    · rcases List.mem_append.mp hc with hc | hc
      · exact (fr c hc).1
      · exact x1.h.free ((fr2 c hc).1.elim id fun z => by cases z)
end
section
variable {X : Cx} {E : XK} {a b : Expr} {p q : Px} {pos : Pos}
theorem s_op {op : Operator} {T : R2} {f : R → R → Res R} (ho : OpR X (binaryOp op) T) (hf : Op2 X.K T f) (ha : PE X a (tP X.K E p)) (hb : PE X b (tP X.K E q)) : PE X (.BinOp a op b pos) (tP X.K E (p2 f p q)) :=
  (pe_op ho ha hb).imp fun σ H Q h => tP_op2 hf h
theorem s_cmp {op : CmpOp} {T : R2} {f : R → R → Res R} (ho : OpR X (compareOp op) T) (hf : Op2 X.K T f) (ha : PE X a (tP X.K E p)) (hb : PE X b (tP X.K E q)) (hm : behindInMarks op b = false) : PE X (.Compare a [op] [b] pos) (tP X.K E (p2 f p q)) :=
  (pe_cmpR ho ha hb hm).imp fun σ H Q h => tP_op2 hf h
theorem s_ix {T : R2} {f : R → R → Res R} (ho : IxR X T) (hf : Op2 X.K T f) (ha : PE X a (tP X.K E p)) (hb : PE X b (tP X.K E q)) (hs : PlainIx b := by exact fun _ _ => rfl) : PE X (.Subscript a b pos) (tP X.K E (p2 f p q)) :=
  (pe_ix ho ha hb hs).imp fun σ H Q h => tP_op2 hf h
/-- a bool as a test -/
def tVal (p : Px) : Tx := fun ρ => (p ρ).bind fun r => match r.d with
  | .bool b => .ok b
  | _ => .bad
theorem tT_val {K : PySem.W.Frag} {σ : St} {H : Hp} {Q : Bool → Hp → Prop} (h : tT K E (tVal p) σ H Q) : tP K E p σ H fun x H' => ∃ k, x = .bl k ∧ Q k H' := by
  obtain ⟨Z, O, ρ, F, r, h⟩ := h
  refine ⟨Z, O, ρ, F, r, ?_⟩
  unfold tVal at h
  cases e : p ρ with
  | bad => rw [e] at h; exact h.elim
  | exc c fs => rw [e] at h; exact h
  | ok a =>
    rw [e] at h
    obtain ⟨s, d⟩ := a
    cases d with
    | bool k =>
      intro v H' Z' O' G x g q nd f
      have lk := q.look g
      cases lk
      exact ⟨k, rfl, h H' Z' O' x g⟩
    | _ => exact h.elim
theorem s_tcmp {op : CmpOp} {T : R2} {f : R → R → Res R} (ho : OpR X (compareOp op) T) (hf : Op2 X.K T f) (ha : PE X a (tP X.K E p)) (hb : PE X b (tP X.K E q)) (hm : behindInMarks op b = false) : PT X (.Compare a [op] [b] pos) (tT X.K E (tVal (p2 f p q))) :=
  (pt_cmpR ho ha hb hm).imp fun σ H Q h => tP_op2 hf (tT_val h)
/-- truth -/
def truth : D → Option Bool
  | .none => some false
  | .bool b => some b
  | .int i => some (i != 0)
  | .str x => if x.length ≤ sizeLine then some ((x.length : Int) != 0) else none
  | .list xs => some (!xs.isEmpty)
  | .tuple xs => some (!xs.isEmpty)
  | .dict [] => some false
  | .dict ((.int _, _) :: _) => some true
  | .dict ((.str _, _) :: _) => some true
  | .dict _ => none
def tTru (p : Px) : Tx := fun ρ => (p ρ).bind fun r => match truth r.d with
  | some b => .ok b
  | none => .bad
theorem Reps.isEmpty {K : PySem.W.Frag} {C : Hp} {vs : List V} {ds : List D} (h : Reps K C vs ds) : (!vs.isEmpty) = !ds.isEmpty := by
  cases h <;> rfl
theorem truth_ok {K : PySem.W.Frag} {H : Hp} {v : V} {d : D} {b : Bool} (h : Rep K H v d) (e : truth d = some b) : TruV K v H b := by
  cases h with
  | non => exact (Option.some.inj e).symm
  | bl _ => exact (Option.some.inj e).symm
  | int _ => exact (Option.some.inj e).symm
  | str x =>
    have e2 : (if x.length ≤ sizeLine then some ((x.length : Int) != 0) else none) = some b := e
    by_cases h : x.length ≤ sizeLine
    · rw [if_pos h] at e2
      exact ⟨h, (Option.some.inj e2).symm⟩
    · rw [if_neg h] at e2
      cases e2
  | lst h r => exact .inl ⟨_, .inl (.inl h), by rw [r.isEmpty]; exact (Option.some.inj e).symm⟩
  | scr h r => cases e
  | ptr a => cases e
  | tup h r => exact .inr (.inl ⟨_, h, by rw [r.isEmpty]; exact (Option.some.inj e).symm⟩)
  | dct h k r =>
    rename_i a kvs es
    refine .inr (.inr ⟨_, h, ?_⟩)
    cases kvs with
    | nil =>
      cases es with
      | nil => exact (Option.some.inj e).symm
      | cons x xs => simp at k
    | cons y ys =>
      cases es with
      | nil => simp at k
      | cons x xs =>
        obtain ⟨k1, k2⟩ := x
        simp only [List.map_cons, List.cons.injEq] at k
        obtain ⟨k0, _⟩ := k
        obtain ⟨y1, y2⟩ := y
        subst k0
        cases y1 with
        | inl i => exact (Option.some.inj e).symm
        | inr x => exact (Option.some.inj e).symm
  | obj h c k r => cases e
theorem s_tru (ha : PE X a (tP X.K E p)) (he : ∀ whole, isTrue a X.env whole = (do let v ← whole; standAt a.pos; holding [v] (truthy v)) := by exact fun _ => rfl) : PT X a (tT X.K E (tTru p)) := by
  refine (pt_truth ha he).imp fun σ H Q h => ?_
  obtain ⟨Z, O, ρ, F, r, h⟩ := h
  refine ⟨Z, O, ρ, F, r, ?_⟩
  unfold tTru at h
  cases e : p ρ with
  | bad => rw [e] at h; exact h.elim
  | exc c fs => rw [e] at h; exact h
  | ok a =>
    rw [e] at h
    intro v H' Z' O' G x g q nd f
    have h2 : (match (match truth a.d with | some b => (Res.ok b : Res Bool) | none => .bad) with
      | .bad => False
      | .ok b => ∀ H' Z' O', Ext [] Z O H Z' O' H' → Good Z' O' H' → Q b H'
      | .exc c fs => ExcK X.K E Z O H c fs) := h
    cases z : truth a.d with
    | none => rw [z] at h2; exact h2.elim
    | some b =>
      rw [z] at h2
      exact ⟨b, truth_ok (q.look g) z, h2 H' Z' O' x g⟩
end
end Oz

namespace Oz
open PySem PySem.Spec L2
open PyProof.Rows hiding St
variable [WD]

/-! ### operations whose result is a plain value -/
def at2 (f : D → D → Option D) (a b : R) : Res R := match f a.d b.d with
  | some d => .ok ⟨.imm, d⟩
  | none => .bad
section
variable {K : PySem.W.Frag} {E : XK} {Z O H : Hp} {Q : VK} {W : List Addr}
theorem OkK.imm {d : D} (g : Good Z O H) (h : OkK K W Z O H ⟨.imm, d⟩ Q) {v : V} (r : Rep K Z v d) : Q v H := h v H Z O [] (Ext.refl _ _ _ _) g ⟨r, rfl⟩ List.nodup_nil fun a ha => by cases ha
theorem op2_at {T : R2} {f : D → D → Option D} (h : ∀ (H : Hp) (x y : V) (a b d : D) (Q : VK), Rep K H x a → Rep K H y b → f a b = some d → (∀ v, (∀ C, Rep K C v d) → Q v H) → T x y H Q) : Op2 K T (at2 f) := by
  intro E Z O H x y a b F G Q g ra rb nd fo q
  unfold at2 at q
  cases e : f a.d b.d with
  | none => rw [e] at q; exact q.elim
  | some d =>
    rw [e] at q
    exact h H x y a.d b.d d Q (ra.look g) (rb.look g) e fun v r => OkK.imm g q (r Z)
end
def i2 (f : Int → Int → Option D) : D → D → Option D := fun a b => match a, b with
  | .int i, .int j => f i j
  | _, _ => none
theorem i2_some {f : Int → Int → Option D} {a b d : D} (h : i2 f a b = some d) : ∃ i j, a = .int i ∧ b = .int j ∧ f i j = some d := by
  cases a with
  | int i => cases b with
    | int j => exact ⟨i, j, rfl, rfl, h⟩
    | _ => cases h
  | _ => cases h
abbrev fSub := i2 fun i j => some (.int (i - j))
noncomputable abbrev fMul := i2 fun i j => if gd (decide ((-(2 ^ 64) < i ∧ i < 2 ^ 64) ∨ (-(2 ^ 64) < j ∧ j < 2 ^ 64))) = true then some (.int (i * j)) else none
noncomputable abbrev fDiv := i2 fun i j => if gd (decide (0 < j ∧ j < 1073741824)) = true then some (.int (i / j)) else none
noncomputable abbrev fMod := i2 fun i j => if gd (decide (0 < j)) = true then some (.int (i % j)) else none
noncomputable abbrev fPow := i2 fun i j => if gd (decide (0 ≤ j ∧ j ≤ 1000000 ∧ i.natAbs < 2 ^ 64)) = true then some (.int (i ^ j.toNat)) else none
abbrev fLt := i2 fun i j => some (.bool (decide (i < j)))
abbrev fGt := i2 fun i j => some (.bool (decide (j < i)))
abbrev fGe := i2 fun i j => some (.bool (decide (j ≤ i)))
section
variable {K : PySem.W.Frag}
theorem op2_i {C : Int → Int → Prop} {g : Int → Int → V} {f : Int → Int → Option D} (h : ∀ i j d, f i j = some d → C i j ∧ ∀ X, Rep K X (g i j) d) : Op2 K (rI C g) (at2 (i2 f)) :=
  op2_at fun H x y a b d Q ra rb e q => by
    obtain ⟨i, j, rfl, rfl, e2⟩ := i2_some e
    cases ra
    cases rb
    obtain ⟨h1, h2⟩ := h i j d e2
    exact ⟨i, j, rfl, rfl, h1, q _ h2⟩
theorem op2_i0 {g : Int → Int → V} {f : Int → Int → Option D} (h : ∀ i j d, f i j = some d → ∀ X, Rep K X (g i j) d) : Op2 K (rI0 g) (at2 (i2 f)) :=
  op2_at fun H x y a b d Q ra rb e q => by
    obtain ⟨i, j, rfl, rfl, e2⟩ := i2_some e
    cases ra
    cases rb
    exact ⟨i, j, rfl, rfl, q _ (h i j d e2)⟩
theorem ite_some {c : Prop} [Decidable c] {x y : D} (h : (if c then some x else none) = some y) : c ∧ x = y := by
  by_cases e : c
  · rw [if_pos e] at h; exact ⟨e, Option.some.inj h⟩
  · rw [if_neg e] at h; cases h
theorem o_sub : Op2 K (rI0 fun i j => .int (i - j)) (at2 fSub) := op2_i0 fun i j d e X => Option.some.inj e ▸ .int _
theorem o_mul : Op2 K (rI CMul fun i j => .int (i * j)) (at2 fMul) := op2_i fun i j d e => ⟨by have h := gd_el (ite_some e).1; simpa [CMul, CDiv, CPow] using h, fun X => (ite_some e).2 ▸ .int _⟩
theorem o_div : Op2 K (rI CDiv fun i j => .int (i / j)) (at2 fDiv) := op2_i fun i j d e => ⟨by have h := gd_el (ite_some e).1; simpa [CMul, CDiv, CPow] using h, fun X => (ite_some e).2 ▸ .int _⟩
theorem o_mod : Op2 K (rI (fun _ j => 0 < j) fun i j => .int (i % j)) (at2 fMod) := op2_i fun i j d e => ⟨by have h := gd_el (ite_some e).1; simpa [CMul, CDiv, CPow] using h, fun X => (ite_some e).2 ▸ .int _⟩
theorem o_pow : Op2 K (rI CPow fun i j => .int (i ^ j.toNat)) (at2 fPow) := op2_i fun i j d e => ⟨by have h := gd_el (ite_some e).1; simpa [CMul, CDiv, CPow] using h, fun X => (ite_some e).2 ▸ .int _⟩
theorem o_lt : Op2 K (rI0 fun i j => .bl (decide (i < j))) (at2 fLt) := op2_i0 fun i j d e X => Option.some.inj e ▸ .bl _
theorem o_gt : Op2 K (rI0 fun i j => .bl (decide (j < i))) (at2 fGt) := op2_i0 fun i j d e X => Option.some.inj e ▸ .bl _
theorem o_ge : Op2 K (rI0 fun i j => .bl (decide (j ≤ i))) (at2 fGe) := op2_i0 fun i j d e X => Option.some.inj e ▸ .bl _
end

/-! ### new things -/
section
variable {K : PySem.W.Frag} {E : XK} {Z O H : Hp} {Q : VK} {W : List Addr}
/-- a new tuple of lasting things -/
theorem OkK.tup {ds : List D} {vs : List V} (g : Good Z O H) (h : OkK K W Z O H ⟨.imm, .tuple ds⟩ Q) (r : Reps K Z vs ds) {p : Addr} (np : H p = none) : Q (.ref p) (upd H p (.tup vs)) := by
  obtain ⟨e, g'⟩ := ext_frz (o := .tup vs) g np
  exact h _ _ _ _ [] (e.mono fun _ z => by cases z) g' ⟨.tup (.inl (.inl upd_same)) (r.mono e.z), rfl⟩ List.nodup_nil fun a ha => by cases ha
/-- a new list of lasting things, that lasts -/
theorem OkK.lstF {ds : List D} {vs : List V} (g : Good Z O H) (h : OkK K W Z O H ⟨.imm, .list ds⟩ Q) (r : Reps K Z vs ds) {p : Addr} (np : H p = none) : Q (.ref p) (upd H p (.lst vs)) := by
  obtain ⟨e, g'⟩ := ext_frz (o := .lst vs) g np
  exact h _ _ _ _ [] (e.mono fun _ z => by cases z) g' ⟨.lst upd_same (r.mono e.z), rfl⟩ List.nodup_nil fun a ha => by cases ha
/-- a new list of one's own, its items' cells at G -/
theorem OkK.lstO {ds : List D} {vs : List V} {G : List Addr} (g : Good Z O H) (h : OkK K W Z O H ⟨.own, .list ds⟩ Q) (r : Owns K Z H vs ds G) (nd : G.Nodup) (gw : ∀ a ∈ G, (H a = none ∨ a ∈ W) ∧ O a = none) {p : Addr} (np : H p = none) : Q (.ref p) (upd H p (.lst vs)) := by
  obtain ⟨e, g'⟩ := ext_new (o := .lst vs) g np rfl
  have pG : p ∉ G := fun z => by
    obtain ⟨o, q, _⟩ := r.live p z
    rw [np] at q
    cases q
  refine h _ _ _ _ (p :: G) (e.mono fun _ z => by cases z) g' (.lst upd_same (Owns.mono (Same.refl _) (fun a _ o q n => e.h.s a o q n) r)) (List.nodup_cons.mpr ⟨pG, nd⟩) fun a ha => ?_
  rcases List.mem_cons.mp ha with z | z
  · rw [z]; exact ⟨.inl np, none_of g.oh np⟩
  · exact gw a z
/-- all lists are one's own or lasting -/
def dnew (s : Sx) (ds : List D) : Res R := if lfs ds = true then .ok ⟨.own, .list ds⟩ else if s = .imm then .ok ⟨.imm, .list ds⟩ else .bad
theorem lfs_val : ∀ {ds : List D}, lfs ds = true → ds.all isVal = true
  | [], _ => rfl
  | x :: xs, h => by
    have q : (_ && _) = true := h
    obtain ⟨q1, q2⟩ := Bool.and_eq_true_iff.mp q
    rw [List.all_cons, lf_val q1, lfs_val q2]
    rfl
theorem lfs_append : ∀ (xs ys : List D), lfs (xs ++ ys) = (lfs xs && lfs ys)
  | [], ys => by simp [lfs]
  | x :: xs, ys => by simp only [List.cons_append, lfs, lfs_append xs ys, Bool.and_assoc]
theorem Reps.upD {vs : List V} {ds : List D} (g : Good Z O H) (r : Reps K H vs ds) (l : lfs ds = true) : Reps K Z vs ds := r.up g.tz l
theorem dnew_ok {s : Sx} {ds : List D} {vs : List V} (g : Good Z O H) (q : ResK K E W Z O H (dnew s ds) Q) (r : Reps K H vs ds) (rz : s = .imm → Reps K Z vs ds) {p : Addr} (np : H p = none) : Q (.ref p) (upd H p (.lst vs)) := by
  unfold dnew at q
  by_cases l : lfs ds = true
  · rw [if_pos l] at q
    exact OkK.lstO g q (.of_reps (r.upD g l) (lfs_val l)) List.nodup_nil (fun a ha => by cases ha) np
  · rw [if_neg l] at q
    by_cases e : s = .imm
    · rw [if_pos e] at q
      exact OkK.lstF g q (rz e) np
    · rw [if_neg e] at q
      exact q.elim
def tnew (s : Sx) (ds : List D) : Res R := if lfs ds = true ∨ s = .imm then .ok ⟨.imm, .tuple ds⟩ else .bad
theorem tnew_z {s : Sx} {ds : List D} {vs : List V} (g : Good Z O H) (q : ResK K E W Z O H (tnew s ds) Q) (r : Reps K H vs ds) (rz : s = .imm → Reps K Z vs ds) : Reps K Z vs ds ∧ OkK K W Z O H ⟨.imm, .tuple ds⟩ Q := by
  unfold tnew at q
  by_cases l : lfs ds = true ∨ s = .imm
  · rw [if_pos l] at q
    exact ⟨l.elim (fun l => r.upD g l) rz, q⟩
  · rw [if_neg l] at q
    exact q.elim
theorem tnew_ok {s : Sx} {ds : List D} {vs : List V} (g : Good Z O H) (q : ResK K E W Z O H (tnew s ds) Q) (r : Reps K H vs ds) (rz : s = .imm → Reps K Z vs ds) {p : Addr} (np : H p = none) : Q (.ref p) (upd H p (.tup vs)) := by
  obtain ⟨h1, h2⟩ := tnew_z g q r rz
  exact OkK.tup g h2 h1 np
/-- the place of two -/
def both (s t : Sx) : Sx := if s = .imm ∧ t = .imm then .imm else .view
theorem both_imm {s t : Sx} (h : both s t = .imm) : s = .imm ∧ t = .imm := by
  unfold both at h
  by_cases e : s = .imm ∧ t = .imm
  · exact e
  · rw [if_neg e] at h; cases h
end

/-! ### + -/
def addR (a b : R) : Res R := match a.d, b.d with
  | .int i, .int j => .ok ⟨.imm, .int (i + j)⟩
  | .str x, .str y => if x.length + y.length ≤ sizeLine then .ok ⟨.imm, .str (x ++ y)⟩ else .bad
  | .list xs, .list ys => if xs.length + ys.length ≤ sizeLine then dnew (both a.s b.s) (xs ++ ys) else .bad
  | .tuple xs, .tuple ys => if xs.length + ys.length ≤ sizeLine then tnew (both a.s b.s) (xs ++ ys) else .bad
  | _, _ => .bad
def rAdd4 (K : PySem.W.Frag) : R2 := fun x y H Q => rI0 (fun i j => .int (i + j)) x y H Q ∨ (∃ i j, x = .str i ∧ y = .str j ∧ i.length + j.length ≤ sizeLine ∧ Q (.str (i ++ j)) H) ∨ rCat x y H Q ∨ rCatA K x y H Q
theorem op_add4 {X : Cx} : OpR X (binaryOp .Add) (rAdd4 X.K) := OpR.or op_add (OpR.or op_add_str (OpR.or op_cat op_catA))
section
variable {K : PySem.W.Frag} {Z O H : Hp}
theorem RepR.zlist {v : V} {s : Sx} {ds : List D} {F : List Addr} (h : RepR K Z O H v ⟨s, .list ds⟩ F) (e : s = .imm) : ∃ p vs, v = .ref p ∧ Z p = some (.lst vs) ∧ Reps K Z vs ds := by
  subst e
  obtain ⟨h, _⟩ := h
  have h1 : Rep K Z v (.list ds) := h
  cases h1 with
  | lst hz r => exact ⟨_, _, rfl, hz, r⟩
theorem RepR.ztup {v : V} {s : Sx} {ds : List D} {F : List Addr} (h : RepR K Z O H v ⟨s, .tuple ds⟩ F) (e : s = .imm) : ∃ p vs, v = .ref p ∧ SqT K Z p vs ∧ Reps K Z vs ds := by
  subst e
  obtain ⟨h, _⟩ := h
  have h1 : Rep K Z v (.tuple ds) := h
  cases h1 with
  | tup hz r => exact ⟨_, _, rfl, hz, r⟩
end
theorem o_add {K : PySem.W.Frag} : Op2 K (rAdd4 K) addR := by
  intro E Z O H x y a b F G Q g ra rb nd fo q
  obtain ⟨s, a⟩ := a
  obtain ⟨t, b⟩ := b
  have la := ra.look g
  have lb := rb.look g
  cases a with
  | int i => cases b with
    | int j =>
      cases la
      cases lb
      exact .inl ⟨i, j, rfl, rfl, OkK.imm g q (.int _)⟩
    | _ => exact q.elim
  | str i => cases b with
    | str j =>
      cases la
      cases lb
      have q2 : ResK K E (F ++ G) Z O H (if i.length + j.length ≤ sizeLine then .ok ⟨.imm, .str (i ++ j)⟩ else .bad) Q := q
      by_cases h : i.length + j.length ≤ sizeLine
      · rw [if_pos h] at q2
        exact .inr (.inl ⟨i, j, rfl, rfl, h, OkK.imm g q2 (.str _)⟩)
      · rw [if_neg h] at q2
        exact q2.elim
    | _ => exact q.elim
  | list xs => cases b with
    | list ys =>
      have q2 : ResK K E (F ++ G) Z O H (if xs.length + ys.length ≤ sizeLine then dnew (both s t) (xs ++ ys) else .bad) Q := q
      by_cases h : xs.length + ys.length ≤ sizeLine
      · rw [if_pos h] at q2
        cases la with
        | lst ha r1 => cases lb with
          | lst hb r2 =>
            refine .inr (.inr (.inl ⟨_, _, _, _, rfl, rfl, ha, hb, by rw [r1.length, r2.length]; exact h, fun p np => dnew_ok g q2 (r1.append r2) (fun e => ?_) np⟩))
            obtain ⟨e1, e2⟩ := both_imm e
            obtain ⟨p1, v1, z1, z2, z3⟩ := ra.zlist e1
            obtain ⟨p2, v2, w1, w2, w3⟩ := rb.zlist e2
            cases z1
            cases w1
            have u1 := g.zh _ _ z2
            have u2 := g.zh _ _ w2
            rw [ha] at u1
            rw [hb] at u2
            cases u1
            cases u2
            exact z3.append w3
      · rw [if_neg h] at q2
        exact q2.elim
    | _ => exact q.elim
  | tuple xs => cases b with
    | tuple ys =>
      have q2 : ResK K E (F ++ G) Z O H (if xs.length + ys.length ≤ sizeLine then tnew (both s t) (xs ++ ys) else .bad) Q := q
      by_cases h : xs.length + ys.length ≤ sizeLine
      · rw [if_pos h] at q2
        -- the two as lasting ones
        have key : ∃ p1 p2 v1 v2, x = .ref p1 ∧ y = .ref p2 ∧ SqT K Z p1 v1 ∧ SqT K Z p2 v2 ∧ Reps K Z v1 xs ∧ Reps K Z v2 ys ∧ OkK K (F ++ G) Z O H ⟨.imm, .tuple (xs ++ ys)⟩ Q := by
          unfold tnew at q2
          by_cases l : lfs (xs ++ ys) = true ∨ both s t = .imm
          · rw [if_pos l] at q2
            rcases l with l | l
            · rw [lfs_append] at l
              obtain ⟨l1, l2⟩ := Bool.and_eq_true_iff.mp l
              cases la with
              | tup ha r1 => cases lb with
                | tup hb r2 => exact ⟨_, _, _, _, rfl, rfl, tup_in g.tz ha, tup_in g.tz hb, r1.upD g l1, r2.upD g l2, q2⟩
            · obtain ⟨e1, e2⟩ := both_imm l
              obtain ⟨p1, v1, z1, z2, z3⟩ := ra.ztup e1
              obtain ⟨p2, v2, w1, w2, w3⟩ := rb.ztup e2
              exact ⟨_, _, _, _, z1, w1, z2, w2, z3, w3, q2⟩
          · rw [if_neg l] at q2
            exact q2.elim
        obtain ⟨p1, p2, v1, v2, rfl, rfl, h1, h2, r1, r2, q3⟩ := key
        refine .inr (.inr (.inr ⟨p1, p2, v1, v2, rfl, rfl, Same.seqT g.zh h1, Same.seqT g.zh h2, by rw [r1.length, r2.length]; exact h, fun e => ?_, fun _ e => ?_, fun _ _ p np => OkK.tup g q3 (r1.append r2) np⟩))
        · subst e
          cases r1
          exact OkK.imm g q3 (.tup h2 r2)
        · subst e
          cases r2
          rw [List.append_nil] at q3
          exact OkK.imm g q3 (.tup h1 r1)
      · rw [if_neg h] at q2
        exact q2.elim
    | _ => exact q.elim
  | _ => exact q.elim

/-! ### items -/
def sub (s : Sx) (d : D) : R := if lf d = true then ⟨.imm, d⟩ else match s with
  | .own => ⟨.view, d⟩
  | .brw => ⟨.view, d⟩
  | .tab => ⟨.view, d⟩
  | s => ⟨s, d⟩
def ixR (a b : R) : Res R := match b.d with
  | .int i => (match a.d with
    | .list ds => (match atI ds i with
      | some d => .ok (sub a.s d)
      | none => .bad)
    | .tuple ds => (match atI ds i with
      | some d => .ok (sub a.s d)
      | none => .bad)
    | .dict [(.none, .list ds)] => (match atI ds i with
      | some d => .ok (sub .view d)
      | none => .bad)
    | _ => .bad)
  | _ => .bad
section
variable {K : PySem.W.Frag} {E : XK} {Z O H : Hp} {Q : VK} {W : List Addr}
theorem Reps.at {C : Hp} {vs : List V} {ds : List D} {i : Int} {d : D} (h : Reps K C vs ds) (e : atI ds i = some d) : ∃ v, atI vs i = some v ∧ Rep K C v d := by
  unfold atI at e ⊢
  rw [h.length]
  cases q : ixN ds.length i with
  | none => rw [q] at e; cases e
  | some j =>
    rw [q] at e
    exact h.get e
theorem OkK.sub {s : Sx} {d : D} {v : V} (g : Good Z O H) (h : OkK K W Z O H (Oz.sub s d) Q) (rv : Rep K H v d) (ri : s = .imm → Rep K Z v d) (ro : s = .out → Rep K O v d) : Q v H := by
  unfold Oz.sub at h
  by_cases l : lf d = true
  · rw [if_pos l] at h
    exact OkK.imm g h (rv.up g.tz l)
  · rw [if_neg l] at h
    cases s with
    | imm => exact OkK.imm g h (ri rfl)
    | out => exact h v H Z O [] (Ext.refl _ _ _ _) g ⟨ro rfl, rfl⟩ List.nodup_nil fun a ha => by cases ha
    | view => exact h v H Z O [] (Ext.refl _ _ _ _) g ⟨rv, rfl⟩ List.nodup_nil fun a ha => by cases ha
    | own => exact h v H Z O [] (Ext.refl _ _ _ _) g ⟨rv, rfl⟩ List.nodup_nil fun a ha => by cases ha
    | brw => exact h v H Z O [] (Ext.refl _ _ _ _) g ⟨rv, rfl⟩ List.nodup_nil fun a ha => by cases ha
    | tab => exact h v H Z O [] (Ext.refl _ _ _ _) g ⟨rv, rfl⟩ List.nodup_nil fun a ha => by cases ha
theorem o_ix : Op2 K (rIx K) ixR := by
  intro E Z O H x y a b F G Q g ra rb nd fo q
  obtain ⟨s, a⟩ := a
  obtain ⟨t, b⟩ := b
  have la := ra.look g
  have lb := rb.look g
  cases b with
  | int i =>
    cases lb
    cases la with
    | lst h r =>
      rename_i p xs ds
      have q2 : ResK K E (F ++ G) Z O H (match atI ds i with | some d => .ok (sub s d) | none => .bad) Q := q
      cases e : atI ds i with
      | none => rw [e] at q2; exact q2.elim
      | some d =>
        rw [e] at q2
        obtain ⟨v, hv, rv⟩ := r.at e
        refine .inl ⟨_, xs, i, v, rfl, rfl, .inl (.inl h), hv, OkK.sub g q2 rv (fun es => ?_) fun es => ?_⟩
        · obtain ⟨p1, v1, z1, z2, z3⟩ := ra.zlist es
          cases z1
          have u := g.zh _ _ z2
          rw [h] at u
          cases u
          obtain ⟨v', hv', rv'⟩ := z3.at e
          rw [hv] at hv'
          cases hv'
          exact rv'
        · subst es
          obtain ⟨h1, _⟩ := ra
          have h2 : Rep K O (.ref p) (.list ds) := h1
          cases h2 with
          | lst ho ro =>
            have u := g.oh _ _ ho
            rw [h] at u
            cases u
            obtain ⟨v', hv', rv'⟩ := ro.at e
            rw [hv] at hv'
            cases hv'
            exact rv'
    | scr h r =>
      rename_i p xs ds
      have q2 : ResK K E (F ++ G) Z O H (match atI ds i with | some d => .ok (sub .view d) | none => .bad) Q := q
      cases e : atI ds i with
      | none => rw [e] at q2; exact q2.elim
      | some d =>
        rw [e] at q2
        obtain ⟨v, hv, rv⟩ := r.at e
        exact .inl ⟨_, xs, i, v, rfl, rfl, h.sqL, hv, OkK.sub g q2 rv (fun es => by cases es) fun es => by cases es⟩
    | tup h r =>
      rename_i p xs ds
      have q2 : ResK K E (F ++ G) Z O H (match atI ds i with | some d => .ok (sub s d) | none => .bad) Q := q
      cases e : atI ds i with
      | none => rw [e] at q2; exact q2.elim
      | some d =>
        rw [e] at q2
        -- by the kind of place
        have key : ∃ xs' v, SqT K H p xs' ∧ atI xs' i = some v ∧ Rep K H v d ∧ (s = .imm → Rep K Z v d) ∧ (s = .out → Rep K O v d) := by
          by_cases es : s = .imm
          · obtain ⟨p1, v1, z1, z2, z3⟩ := ra.ztup es
            cases z1
            obtain ⟨v', hv', rv'⟩ := z3.at e
            exact ⟨v1, v', Same.seqT g.zh z2, hv', rv'.mono g.zh, fun _ => rv', fun e2 => by rw [es] at e2; cases e2⟩
          · by_cases eo : s = .out
            · subst eo
              obtain ⟨h1, _⟩ := ra
              have h2 : Rep K O (.ref p) (.tuple ds) := h1
              cases h2 with
              | tup ho ro =>
                obtain ⟨v', hv', rv'⟩ := ro.at e
                exact ⟨_, v', Same.seqT g.oh ho, hv', rv'.mono g.oh, (fun e2 => by cases e2), fun _ => rv'⟩
            · obtain ⟨v, hv, rv⟩ := r.at e
              exact ⟨xs, v, h, hv, rv, fun e2 => absurd e2 es, fun e2 => absurd e2 eo⟩
        obtain ⟨xs', v, h1, h2, h3, h4, h5⟩ := key
        exact .inr (.inl ⟨_, xs', i, v, rfl, rfl, h1, h2, OkK.sub g q2 h3 h4 h5⟩)
    | non => exact q.elim
    | bl _ => exact q.elim
    | int _ => exact q.elim
    | str _ => exact q.elim
    | dct h k r =>
      rename_i p kvs es
      cases es with
      | nil => exact q.elim
      | cons e0 es =>
        obtain ⟨k1, v1⟩ := e0
        cases kvs with
        | nil => simp at k
        | cons y ys =>
          simp only [List.map_cons, List.cons.injEq] at k
          obtain ⟨k0, _⟩ := k
          obtain ⟨y1, y2⟩ := y
          subst k0
          cases y1 with
          | inl i => exact q.elim
          | inr z => exact q.elim
    | ptr a => exact q.elim
    | obj h c k r => exact q.elim
  | _ => exact q.elim
end
end Oz

namespace Oz
open PySem PySem.Spec L2
open PyProof.Rows hiding St
variable [WD]

/-! ### == and in -/
def atomD : D → Bool
  | .none => true
  | .bool _ => true
  | .int _ => true
  | .str _ => true
  | _ => false
mutual
theorem canLay_pl : ∀ {d : D}, d.canLay0 = true → pl d = true
  | .none, _ => rfl
  | .bool _, _ => rfl
  | .int _, _ => rfl
  | .str _, _ => rfl
  | .list xs, h => by
    simp only [PyData.canLay0] at h
    simp only [pl]
    exact canLay_pls h
  | .tuple xs, h => by
    simp only [PyData.canLay0] at h
    simp only [pl]
    exact canLay_pls h
  | .dict _, h => by simp [PyData.canLay0] at h
theorem canLay_pls : ∀ {ds : List D}, PyData.canLayAll0 ds = true → pls ds = true
  | [], _ => rfl
  | x :: xs, h => by
    simp only [PyData.canLayAll0, Bool.and_eq_true] at h
    simp only [pls, Bool.and_eq_true]
    exact ⟨canLay_pl h.1, canLay_pls h.2⟩
end
def fEq (a b : D) : Option Bool := match a, b with
  | .int i, .int j => some (i == j)
  | .str x, .str y => some (x == y)
  | .str _, .none => some false
  | .none, .str _ => some false
  | .int _, .none => some false
  | .none, .int _ => some false
  | .int _, .str _ => some false
  | .str _, .int _ => some false
  | a, b => if SeqAt.shaped a = true ∧ SeqAt.shaped b = true then some (PyData.eqv a b) else none
def dBool (o : Option Bool) : Option D := o.map .bool
def dNot (o : Option Bool) : Option D := o.map fun b => .bool (!b)
abbrev eqF : D → D → Option D := fun a b => dBool (fEq a b)
abbrev neF : D → D → Option D := fun a b => dNot (fEq a b)
def rEq2 (K : PySem.W.Frag) : R2 := fun x y H Q => rEq x y H Q ∨ rEqD K x y H Q
def rNe2 (K : PySem.W.Frag) : R2 := fun x y H Q => rNe x y H Q ∨ rNeD K x y H Q
theorem op_eq2 {X : Cx} (hu : X.A.units + 64 < cLine) : OpR X (compareOp .Eq) (rEq2 X.K) := OpR.or op_eq (op_eqD hu)
theorem op_ne2 {X : Cx} (hu : X.A.units + 64 < cLine) : OpR X (compareOp .NotEq) (rNe2 X.K) := OpR.or op_ne (op_neD hu)
theorem shaped_pl {d : D} (h : SeqAt.shaped d = true) : pl d = true := canLay_pl (SeqAt.canLay_of_shaped h)
/-- what == answers: of flat values, or of data -/
theorem fEq_ok {K : PySem.W.Frag} {H : Hp} {x y : V} {a b : D} {k : Bool} (ra : Rep K H x a) (rb : Rep K H y b) (e : fEq a b = some k) :
    (scal x y = true ∧ decide (x = y) = k) ∨ (Dp K H x a ∧ Dp K H y b ∧ SeqAt.shaped a = true ∧ SeqAt.shaped b = true ∧ PyData.eqv a b = k) := by
  have deep : (if SeqAt.shaped a = true ∧ SeqAt.shaped b = true then some (PyData.eqv a b) else none) = some k → (Dp K H x a ∧ Dp K H y b ∧ SeqAt.shaped a = true ∧ SeqAt.shaped b = true ∧ PyData.eqv a b = k) := fun e => by
    by_cases h : SeqAt.shaped a = true ∧ SeqAt.shaped b = true
    · rw [if_pos h] at e
      exact ⟨ra.dp (shaped_pl h.1), rb.dp (shaped_pl h.2), h.1, h.2, Option.some.inj e⟩
    · rw [if_neg h] at e
      cases e
  cases ra with
  | int i => cases rb with
    | int j => exact .inl ⟨rfl, by rw [dec_int]; exact Option.some.inj e⟩
    | str j => exact .inl ⟨rfl, by rw [decide_eq_false (by intro h; cases h)]; exact Option.some.inj e⟩
    | non => exact .inl ⟨rfl, by rw [decide_eq_false (by intro h; cases h)]; exact Option.some.inj e⟩
    | _ => exact .inr (deep e)
  | str i => cases rb with
    | str j => exact .inl ⟨rfl, by rw [dec_str]; exact Option.some.inj e⟩
    | int j => exact .inl ⟨rfl, by rw [decide_eq_false (by intro h; cases h)]; exact Option.some.inj e⟩
    | non => exact .inl ⟨rfl, by rw [decide_eq_false (by intro h; cases h)]; exact Option.some.inj e⟩
    | _ => exact .inr (deep e)
  | non => cases rb with
    | int j => exact .inl ⟨rfl, by rw [decide_eq_false (by intro h; cases h)]; exact Option.some.inj e⟩
    | str j => exact .inl ⟨rfl, by rw [decide_eq_false (by intro h; cases h)]; exact Option.some.inj e⟩
    | _ => exact .inr (deep e)
  | _ => exact .inr (deep (by cases rb <;> exact e))
section
variable {K : PySem.W.Frag}
theorem o_eq : Op2 K (rEq2 K) (at2 eqF) := op2_at fun H x y a b d Q ra rb e q => by
  cases h : fEq a b with
  | none => simp [eqF, dBool, h] at e
  | some k =>
    have e2 : PyData.bool k = d := by simpa [eqF, dBool, h] using e
    subst e2
    rcases fEq_ok ra rb h with ⟨h1, h2⟩ | ⟨h1, h2, h3, h4, h5⟩
    · exact .inl ⟨h1, by rw [h2]; exact q _ fun _ => .bl _⟩
    · exact .inr ⟨a, b, h1, h2, h3, h4, by rw [h5]; exact q _ fun _ => .bl _⟩
theorem o_ne : Op2 K (rNe2 K) (at2 neF) := op2_at fun H x y a b d Q ra rb e q => by
  cases h : fEq a b with
  | none => simp [neF, dNot, h] at e
  | some k =>
    have e2 : PyData.bool (!k) = d := by simpa [neF, dNot, h] using e
    subst e2
    rcases fEq_ok ra rb h with ⟨h1, h2⟩ | ⟨h1, h2, h3, h4, h5⟩
    · exact .inl ⟨h1, by rw [h2]; exact q _ fun _ => .bl _⟩
    · exact .inr ⟨a, b, h1, h2, h3, h4, by rw [h5]; exact q _ fun _ => .bl _⟩
end
/-- items of a row -/
def itemsD : D → Option (List D)
  | .list ds => some ds
  | .tuple ds => some ds
  | _ => none
def fIn (a b : D) : Option Bool := match itemsD b with
  | some ds => if atomD a = true ∧ ds.all atomD = true then some (ds.any fun z => PyData.eqv z a) else if SeqAt.shaped a = true ∧ SeqAt.shaped b = true then some (ds.any fun z => PyData.eqv z a) else none
  | none => none
abbrev inF : D → D → Option D := fun a b => dBool (fIn a b)
abbrev ninF : D → D → Option D := fun a b => dNot (fIn a b)
def rInT (K : PySem.W.Frag) (neg : Bool) : R2 := fun x y H Q => ∃ d ds, Dp K H x d ∧ Dp K H y (.tuple ds) ∧ SeqAt.shaped d = true ∧ SeqAt.shaped (.tuple ds) = true ∧ Q (.bl (if neg then !(ds.any fun z => PyData.eqv z d) else ds.any fun z => PyData.eqv z d)) H
section
variable {X : Cx}
theorem op_inT (hu : X.A.units + 65 < cLine) : OpR X (compareOp .In) (rInT X.K false) := by
  intro pins s σ H x y v u Q I rx ry h
  obtain ⟨d, ds, hd, he, sd, se, q⟩ := h
  obtain ⟨as, r1⟩ := Dp.reads I d x v hd rx
  obtain ⟨bs, r2⟩ := Dp.reads I (.tuple ds) y u he ry
  exact SeqAt.in_tuple_reads r2 r1 (SeqAt.canLay_of_shaped se) (SeqAt.canLay_of_shaped sd) (room_in_shaped (xs := ds) sd hu) ⟨.bl _, H, I, rfl, q⟩
theorem op_notInT (hu : X.A.units + 65 < cLine) : OpR X (compareOp .NotIn) (rInT X.K true) := by
  intro pins s σ H x y v u Q I rx ry h
  obtain ⟨d, ds, hd, he, sd, se, q⟩ := h
  obtain ⟨as, r1⟩ := Dp.reads I d x v hd rx
  obtain ⟨bs, r2⟩ := Dp.reads I (.tuple ds) y u he ry
  exact SeqAt.notIn_tuple_reads r2 r1 (SeqAt.canLay_of_shaped se) (SeqAt.canLay_of_shaped sd) (room_in_shaped (xs := ds) sd hu) ⟨.bl _, H, I, rfl, q⟩
end
def rIn3 (K : PySem.W.Frag) : R2 := fun x y H Q => rIn K false x y H Q ∨ rInD K x y H Q ∨ rInT K false x y H Q
def rNin3 (K : PySem.W.Frag) : R2 := fun x y H Q => rIn K true x y H Q ∨ rNotInD K x y H Q ∨ rInT K true x y H Q
theorem op_in3 {X : Cx} (hu : X.A.units + 65 < cLine) : OpR X (compareOp .In) (rIn3 X.K) := OpR.or op_in_seq (OpR.or (op_inD hu) (op_inT hu))
theorem op_nin3 {X : Cx} (hu : X.A.units + 65 < cLine) : OpR X (compareOp .NotIn) (rNin3 X.K) := OpR.or op_notIn_seq (OpR.or (op_notInD hu) (op_notInT hu))
section
variable {K : PySem.W.Frag} {H : Hp}
theorem atom_flat {v : V} {d : D} (r : Rep K H v d) (h : atomD d = true) : flatV v = true := by
  cases r <;> first | rfl | cases h
theorem atom_eqv {v w : V} {d e : D} (r : Rep K H v d) (r2 : Rep K H w e) (h : atomD d = true) (h2 : atomD e = true) : eqV v w = PyData.eqv d e := by
  cases r <;> first | (cases h; done) | (cases r2 <;> first | (cases h2; done) | simp [eqV, PyData.eqv])
theorem atoms_in {x : V} {a : D} (rx : Rep K H x a) (hx : atomD a = true) : ∀ {vs : List V} {ds : List D}, Reps K H vs ds → ds.all atomD = true → vs.all flatV = true ∧ inV x vs = ds.any fun z => PyData.eqv z a
  | _, _, .nil, _ => ⟨rfl, rfl⟩
  | _, _, .cons r s, h => by
    rw [List.all_cons] at h
    obtain ⟨h1, h2⟩ := Bool.and_eq_true_iff.mp h
    obtain ⟨i1, i2⟩ := atoms_in rx hx s h2
    refine ⟨by rw [List.all_cons, atom_flat r h1, i1]; rfl, ?_⟩
    unfold inV at i2 ⊢
    rw [List.any_cons, List.any_cons, i2, atom_eqv r rx h1 hx]
theorem items_ok {y : V} {b : D} {ds : List D} (r : Rep K H y b) (e : itemsD b = some ds) : ∃ p vs, y = .ref p ∧ (SqL K H p vs ∨ SqT K H p vs) ∧ Reps K H vs ds := by
  cases r with
  | lst h r => cases e; exact ⟨_, _, rfl, .inl (.inl (.inl h)), r⟩
  | tup h r => cases e; exact ⟨_, _, rfl, .inr h, r⟩
  | _ => cases e
theorem items_kind {b : D} {ds : List D} (e : itemsD b = some ds) : b = .list ds ∨ b = .tuple ds := by
  cases b with
  | list xs => cases e; exact .inl rfl
  | tuple xs => cases e; exact .inr rfl
  | _ => cases e
theorem fIn_ok {x y : V} {a b : D} {k : Bool} (ra : Rep K H x a) (rb : Rep K H y b) (e : fIn a b = some k) :
    (∃ p xs, y = .ref p ∧ (SqL K H p xs ∨ SqT K H p xs) ∧ flatV x = true ∧ xs.all flatV = true ∧ inV x xs = k) ∨
      (∃ ds, Dp K H x a ∧ Dp K H y b ∧ (b = .list ds ∨ b = .tuple ds) ∧ SeqAt.shaped a = true ∧ SeqAt.shaped b = true ∧ (ds.any fun z => PyData.eqv z a) = k) := by
  unfold fIn at e
  cases h : itemsD b with
  | none => rw [h] at e; cases e
  | some ds =>
    rw [h] at e
    have e2 : (if atomD a = true ∧ ds.all atomD = true then some (ds.any fun z => PyData.eqv z a) else if SeqAt.shaped a = true ∧ SeqAt.shaped b = true then some (ds.any fun z => PyData.eqv z a) else none) = some k := e
    by_cases h1 : atomD a = true ∧ ds.all atomD = true
    · rw [if_pos h1] at e2
      obtain ⟨p, vs, h3, h4, h5⟩ := items_ok rb h
      obtain ⟨i1, i2⟩ := atoms_in ra h1.1 h5 h1.2
      exact .inl ⟨p, vs, h3, h4, atom_flat ra h1.1, i1, i2.trans (Option.some.inj e2)⟩
    · rw [if_neg h1] at e2
      by_cases h2 : SeqAt.shaped a = true ∧ SeqAt.shaped b = true
      · rw [if_pos h2] at e2
        exact .inr ⟨ds, ra.dp (shaped_pl h2.1), rb.dp (shaped_pl h2.2), items_kind h, h2.1, h2.2, Option.some.inj e2⟩
      · rw [if_neg h2] at e2
        cases e2
theorem o_in : Op2 K (rIn3 K) (at2 inF) := op2_at fun H x y a b d Q ra rb e q => by
  cases h : fIn a b with
  | none => simp [inF, dBool, h] at e
  | some k =>
    have e2 : PyData.bool k = d := by simpa [inF, dBool, h] using e
    subst e2
    rcases fIn_ok ra rb h with ⟨p, xs, h1, h2, h3, h4, h5⟩ | ⟨ds, h1, h2, h3, h4, h5, h6⟩
    · exact .inl ⟨p, xs, h1, h2, h3, h4, by rw [if_neg Bool.false_ne_true, h5]; exact q _ fun _ => .bl _⟩
    · rcases h3 with rfl | rfl
      · exact .inr (.inl ⟨a, ds, h1, h2, h4, h5, by rw [h6]; exact q _ fun _ => .bl _⟩)
      · exact .inr (.inr ⟨a, ds, h1, h2, h4, h5, by rw [if_neg Bool.false_ne_true, h6]; exact q _ fun _ => .bl _⟩)
theorem o_nin : Op2 K (rNin3 K) (at2 ninF) := op2_at fun H x y a b d Q ra rb e q => by
  cases h : fIn a b with
  | none => simp [ninF, dNot, h] at e
  | some k =>
    have e2 : PyData.bool (!k) = d := by simpa [ninF, dNot, h] using e
    subst e2
    rcases fIn_ok ra rb h with ⟨p, xs, h1, h2, h3, h4, h5⟩ | ⟨ds, h1, h2, h3, h4, h5, h6⟩
    · exact .inl ⟨p, xs, h1, h2, h3, h4, by rw [if_pos rfl, h5]; exact q _ fun _ => .bl _⟩
    · rcases h3 with rfl | rfl
      · exact .inr (.inl ⟨a, ds, h1, h2, h4, h5, by rw [h6]; exact q _ fun _ => .bl _⟩)
      · exact .inr (.inr ⟨a, ds, h1, h2, h4, h5, by rw [if_pos rfl, h6]; exact q _ fun _ => .bl _⟩)
end
/-- is None -/
def isNon : D → Bool
  | .none => true
  | _ => false
def isF (a b : D) : Option D := match b with
  | .none => some (.bool (isNon a))
  | _ => none
def isnF (a b : D) : Option D := match b with
  | .none => some (.bool (!isNon a))
  | _ => none
theorem isNon_ok {K : PySem.W.Frag} {H : Hp} {x : V} {a : D} (r : Rep K H x a) : decide (x = .non) = isNon a := by
  cases r <;> first | rfl | exact decide_eq_false (by intro h; cases h)
/-! ### and, or, not, if -/
def pAnd (p q : Px) : Px := fun ρ => (p ρ).bind fun r => match truth r.d with
  | some true => q ρ
  | some false => .ok r
  | none => .bad
def pOr (p q : Px) : Px := fun ρ => (p ρ).bind fun r => match truth r.d with
  | some true => .ok r
  | some false => q ρ
  | none => .bad
def pNot (p : Px) : Px := fun ρ => (p ρ).bind fun r => match truth r.d with
  | some b => .ok ⟨.imm, .bool (!b)⟩
  | none => .bad
def pIf (t : Tx) (p q : Px) : Px := fun ρ => (t ρ).bind fun b => if b = true then p ρ else q ρ
def tAndD (t u : Tx) : Tx := fun ρ => (t ρ).bind fun b => if b = true then u ρ else .ok false
def tOrD (t u : Tx) : Tx := fun ρ => (t ρ).bind fun b => if b = true then .ok true else u ρ
def tNotD (t : Tx) : Tx := fun ρ => (t ρ).bind fun b => .ok (!b)
section
variable {K : PySem.W.Frag} {E : XK} {Z O H Z1 O1 H1 : Hp} {σ : St} {ρ : Ev} {F : List Addr} {Q : VK}
/-- go on in the state behind -/
theorem tP_go {p : Px} (r : Rel K Z O H σ ρ F) (e : Ext [] Z O H Z1 O1 H1) (r1 : Rel K Z1 O1 H1 σ ρ F) (q : ResK K E [] Z O H (p ρ) Q) : tP K E p σ H1 Q :=
  ⟨Z1, O1, ρ, F, r1, q.ext e fun a ha => by cases ha⟩
theorem pAnd_ok {p q : Px} (h : tP K E (pAnd p q) σ H Q) : tAndT K (tP K E p) (tP K E q) σ H Q := by
  refine tP_bind (k := fun r ρ => match truth r.d with | some true => q ρ | some false => .ok r | none => .bad) h fun Z O H1 Z1 O1 ρ F G v a r x1 r1 q1 nd fr h2 => ?_
  cases e : truth a.d with
  | none => rw [e] at h2; exact h2.elim
  | some b =>
    refine ⟨b, truth_ok (q1.look r1.g) e, ?_⟩
    rw [e] at h2
    cases b with
    | true => exact tP_go r x1 r1 h2
    | false => exact h2 v H1 Z1 O1 G x1 r1.g q1 nd fun c hc => ⟨.inl (fr c hc).1, (fr c hc).2⟩
theorem pOr_ok {p q : Px} (h : tP K E (pOr p q) σ H Q) : tOrT K (tP K E p) (tP K E q) σ H Q := by
  refine tP_bind (k := fun r ρ => match truth r.d with | some true => .ok r | some false => q ρ | none => .bad) h fun Z O H1 Z1 O1 ρ F G v a r x1 r1 q1 nd fr h2 => ?_
  cases e : truth a.d with
  | none => rw [e] at h2; exact h2.elim
  | some b =>
    refine ⟨b, truth_ok (q1.look r1.g) e, ?_⟩
    rw [e] at h2
    cases b with
    | false => exact tP_go r x1 r1 h2
    | true => exact h2 v H1 Z1 O1 G x1 r1.g q1 nd fun c hc => ⟨.inl (fr c hc).1, (fr c hc).2⟩
theorem pNot_ok {p : Px} (h : tP K E (pNot p) σ H Q) : tNotT K (tP K E p) σ H Q := by
  refine tP_bind (k := fun r ρ => match truth r.d with | some b => .ok ⟨.imm, .bool (!b)⟩ | none => .bad) h fun Z O H1 Z1 O1 ρ F G v a r x1 r1 q1 nd fr h2 => ?_
  cases e : truth a.d with
  | none => rw [e] at h2; exact h2.elim
  | some b =>
    refine ⟨b, truth_ok (q1.look r1.g) e, ?_⟩
    rw [e] at h2
    exact h2 _ H1 Z1 O1 [] x1 r1.g ⟨.bl _, rfl⟩ List.nodup_nil fun c hc => by cases hc
theorem pIf_ok {t : Tx} {p q : Px} (h : tP K E (pIf t p q) σ H Q) : tIf (tT K E t) (tP K E p) (tP K E q) σ H Q := by
  obtain ⟨Z, O, ρ, F, r, h⟩ := h
  refine ⟨Z, O, ρ, F, r, ?_⟩
  unfold pIf at h
  cases e : t ρ with
  | bad => rw [e] at h; exact h.elim
  | exc c fs => rw [e] at h; exact h
  | ok b =>
    rw [e] at h
    intro H1 Z1 O1 x1 g1
    cases b with
    | true =>
      have h2 : ResK K E [] Z O H (p ρ) Q := h
      exact tP_go r x1 (r.ext x1 g1) h2
    | false =>
      have h2 : ResK K E [] Z O H (q ρ) Q := h
      exact tP_go r x1 (r.ext x1 g1) h2
theorem tT_go {t : Tx} {Q : Bool → Hp → Prop} (e : Ext [] Z O H Z1 O1 H1) (r1 : Rel K Z1 O1 H1 σ ρ F) (q : match t ρ with
      | .bad => False
      | .ok b => ∀ H' Z' O', Ext [] Z O H Z' O' H' → Good Z' O' H' → Q b H'
      | .exc c fs => ExcK K E Z O H c fs) : tT K E t σ H1 Q := by
  refine ⟨Z1, O1, ρ, F, r1, ?_⟩
  cases z : t ρ with
  | bad => rw [z] at q; exact q.elim
  | exc c fs => rw [z] at q; exact ExcK.ext q e
  | ok b => rw [z] at q; exact fun H' Z' O' x g => q H' Z' O' (e.trans0 x) g
theorem tAnd_ok {t u : Tx} {Q : Bool → Hp → Prop} (h : tT K E (tAndD t u) σ H Q) : tAnd (tT K E t) (tT K E u) σ H Q := by
  obtain ⟨Z, O, ρ, F, r, h⟩ := h
  refine ⟨Z, O, ρ, F, r, ?_⟩
  unfold tAndD at h
  cases e : t ρ with
  | bad => rw [e] at h; exact h.elim
  | exc c fs => rw [e] at h; exact h
  | ok b =>
    rw [e] at h
    intro H1 Z1 O1 x1 g1
    cases b with
    | true => exact tT_go x1 (r.ext x1 g1) h
    | false => exact h H1 Z1 O1 x1 g1
theorem tOr_ok {t u : Tx} {Q : Bool → Hp → Prop} (h : tT K E (tOrD t u) σ H Q) : tOr (tT K E t) (tT K E u) σ H Q := by
  obtain ⟨Z, O, ρ, F, r, h⟩ := h
  refine ⟨Z, O, ρ, F, r, ?_⟩
  unfold tOrD at h
  cases e : t ρ with
  | bad => rw [e] at h; exact h.elim
  | exc c fs => rw [e] at h; exact h
  | ok b =>
    rw [e] at h
    intro H1 Z1 O1 x1 g1
    cases b with
    | false => exact tT_go x1 (r.ext x1 g1) h
    | true => exact h H1 Z1 O1 x1 g1
theorem tNot_ok {t : Tx} {Q : Bool → Hp → Prop} (h : tT K E (tNotD t) σ H Q) : tNot (tT K E t) σ H Q := by
  obtain ⟨Z, O, ρ, F, r, h⟩ := h
  refine ⟨Z, O, ρ, F, r, ?_⟩
  unfold tNotD at h
  cases e : t ρ with
  | bad => rw [e] at h; exact h.elim
  | exc c fs => rw [e] at h; exact h
  | ok b =>
    rw [e] at h
    exact fun H1 Z1 O1 x1 g1 => h H1 Z1 O1 x1 g1
end
section
variable {X : Cx} {E : XK} {a b c : Expr} {rest : List Expr} {p q : Px} {t u : Tx} {pos : Pos}
theorem s_one {op} (h : PE X a (tP X.K E p)) : PE X (.BoolOp op [a] pos) (tP X.K E p) := pe_one h
theorem s_and (ha : PE X a (tP X.K E p)) (hb : PE X (.BoolOp .And (b :: rest) pos) (tP X.K E q)) : PE X (.BoolOp .And (a :: b :: rest) pos) (tP X.K E (pAnd p q)) := (pe_andT ha hb).imp fun _ _ _ h => pAnd_ok h
theorem s_or (ha : PE X a (tP X.K E p)) (hb : PE X (.BoolOp .Or (b :: rest) pos) (tP X.K E q)) : PE X (.BoolOp .Or (a :: b :: rest) pos) (tP X.K E (pOr p q)) := (pe_orT ha hb).imp fun _ _ _ h => pOr_ok h
theorem s_not (ha : PE X a (tP X.K E p)) : PE X (.UnaryOp .Not a pos) (tP X.K E (pNot p)) := (pe_notT ha).imp fun _ _ _ h => pNot_ok h
theorem s_if (hc : PT X c (tT X.K E t)) (ha : PE X a (tP X.K E p)) (hb : PE X b (tP X.K E q)) : PE X (.IfExp c a b pos) (tP X.K E (pIf t p q)) := (pe_ifExp hc ha hb).imp fun _ _ _ h => pIf_ok h
theorem s_tand1 (ha : PT X a (tT X.K E t)) : PW X (.BoolOp .And [a] pos) (tT X.K E t) := pw_and1 ha
theorem s_tor1 (ha : PT X a (tT X.K E t)) : PW X (.BoolOp .Or [a] pos) (tT X.K E t) := pw_or1 ha
theorem s_tand (ha : PT X a (tT X.K E t)) (hb : PW X (.BoolOp .And (b :: rest) pos) (tT X.K E u)) : PW X (.BoolOp .And (a :: b :: rest) pos) (tT X.K E (tAndD t u)) := (pw_and ha hb).imp fun _ _ _ h => tAnd_ok h
theorem s_tor (ha : PT X a (tT X.K E t)) (hb : PW X (.BoolOp .Or (b :: rest) pos) (tT X.K E u)) : PW X (.BoolOp .Or (a :: b :: rest) pos) (tT X.K E (tOrD t u)) := (pw_or ha hb).imp fun _ _ _ h => tOr_ok h
theorem s_tnot (ha : PT X a (tT X.K E t)) : PT X (.UnaryOp .Not a pos) (tT X.K E (tNotD t)) := (pt_not ha).imp fun _ _ _ h => tNot_ok h
end

/-! ### arguments, displays -/
section
variable {X : Cx} {E : XK} {e : Expr} {es : List Expr} {p : Px} {ps : List Px} {pos : Pos}
theorem s_anil : PA X [] (tA X.K E []) := by
  refine pa_nil.imp fun σ H Q h => ?_
  obtain ⟨Z, O, ρ, F, r, h⟩ := h
  have h2 : OksK X.K Z O H [] Q := h
  exact h2 [] H Z O [] (Ext.refl _ _ _ _) r.g .nil List.nodup_nil fun a ha => by cases ha
theorem s_acons (ha : PE X e (tP X.K E p)) (hr : PA X es (tA X.K E ps)) (hs : starEach (e :: es) X.env = (false, eval e X.env) :: starEach es X.env := by rfl) : PA X (e :: es) (tA X.K E (p :: ps)) := by
  refine (pa_cons ha hr hs).imp fun σ H Q h => ?_
  obtain ⟨Z, O, ρ, F, r, h⟩ := h
  refine ⟨Z, O, ρ, F, r, ?_⟩
  have h1 : match ((p ρ).bind fun r => (evs ps ρ).bind fun rs => (Res.ok (r :: rs) : Res (List R))) with
    | .bad => False
    | .ok rs => OksK X.K Z O H rs Q
    | .exc c fs => ExcK X.K E Z O H c fs := h
  cases z : p ρ with
  | bad => rw [z] at h1; exact h1.elim
  | exc c fs => rw [z] at h1; exact h1
  | ok a =>
    rw [z] at h1
    intro v H1 Z1 O1 G x1 g1 q1 nd fr
    refine ⟨Z1, O1, ρ, F, r.ext x1 g1, ?_⟩
    cases y : evs ps ρ with
    | bad => rw [y] at h1; exact h1.elim
    | exc c fs => rw [y] at h1; exact ExcK.ext h1 x1
    | ok rs =>
      rw [y] at h1
      intro vs H2 Z2 O2 G2 x2 g2 q2 nd2 fr2
      have h2 : OksK X.K Z O H (a :: rs) Q := h1
      refine h2 (v :: vs) H2 Z2 O2 (G ++ G2) (x1.trans0 x2) g2 (.cons (q1.ext x2) q2) (nodup_fresh nd nd2 (fun c hc => let ⟨o, z, _⟩ := q1.live c hc; ⟨o, z⟩) fun c hc => (fr2 c hc).1) fun c hc => ?_
      rcases List.mem_append.mp hc with hc | hc
      · refine ⟨(fr c hc).1.elim id (fun z => by cases z), ?_⟩
        cases z : O2 c with
        | none => rfl
        | some o =>
          obtain ⟨o1, w1, _⟩ := q1.live c hc
          rcases x2.on c (by rw [z]; simp) with y | y | y
          · exact absurd (fr c hc).2 y
          · rw [w1] at y; cases y
          · cases y
      · exact ⟨x1.h.free (fr2 c hc).1, (fr2 c hc).2⟩
end
/-- the items of a tuple's display: lasting; of one's own, they last from now on -/
def frzR (r : R) : Option D := match r.s with
  | .imm => some r.d
  | _ => if lf r.d = true then some r.d else none
def frzs : List R → Option (List D)
  | [] => some []
  | r :: rs => match frzR r, frzs rs with
    | some d, some ds => some (d :: ds)
    | _, _ => none
section
variable {K : PySem.W.Frag} {Z O H : Hp}
theorem frzR_ok {v : V} {r : R} {G : List Addr} {d : D} (g : Good Z O H) (q : RepR K Z O H v r G) (e : frzR r = some d) : Rep K Z v d := by
  obtain ⟨s, x⟩ := r
  have lk := q.look g
  cases s with
  | imm => cases e; exact q.1
  | out => obtain ⟨l, rfl⟩ := ite_some (c := lf x = true) e; exact lk.up g.tz l
  | view => obtain ⟨l, rfl⟩ := ite_some (c := lf x = true) e; exact lk.up g.tz l
  | own => obtain ⟨l, rfl⟩ := ite_some (c := lf x = true) e; exact lk.up g.tz l
  | brw => obtain ⟨l, rfl⟩ := ite_some (c := lf x = true) e; exact lk.up g.tz l
  | tab => exact (show False from q).elim
theorem frzs_ok (g : Good Z O H) : ∀ {vs : List V} {rs : List R} {G : List Addr} {ds : List D}, RepRs K Z O H vs rs G → frzs rs = some ds → Reps K Z vs ds
  | _, _, _, _, .nil, e => by cases e; exact .nil
  | _, _, _, ds, .cons (r := r) (rs := rs) q s, e => by
    unfold frzs at e
    cases h1 : frzR r with
    | none => rw [h1] at e; cases e
    | some d =>
      rw [h1] at e
      cases h2 : frzs rs with
      | none => rw [h2] at e; cases e
      | some ds' =>
        rw [h2] at e
        cases e
        exact .cons (frzR_ok g q h1) (frzs_ok g s h2)
/-- the items of a list of one's own -/
def ownR (r : R) : Option D := match r.s with
  | .own => some r.d
  | _ => if lf r.d = true then some r.d else if r.s = .imm ∧ isVal r.d = true then some r.d else none
def owns : List R → Option (List D)
  | [] => some []
  | r :: rs => match ownR r, owns rs with
    | some d, some ds => some (d :: ds)
    | _, _ => none
theorem ownR_ok {v : V} {r : R} {G : List Addr} {d : D} (g : Good Z O H) (q : RepR K Z O H v r G) (e : ownR r = some d) : ∃ G', Own K Z H v d G' ∧ (G' = G ∨ G' = []) := by
  obtain ⟨s, x⟩ := r
  have lk := q.look g
  have easy : ∀ {y : Option D}, (if lf x = true then some x else if s = .imm ∧ isVal x = true then some x else none) = some d → ∃ G', Own K Z H v d G' ∧ (G' = G ∨ G' = []) := fun h => by
    by_cases l : lf x = true
    · rw [if_pos l] at h
      cases h
      exact ⟨[], .imm (lk.up g.tz l) (lf_val l), .inr rfl⟩
    · rw [if_neg l] at h
      by_cases l2 : s = .imm ∧ isVal x = true
      · rw [if_pos l2] at h
        cases h
        obtain ⟨e1, e2⟩ := l2
        subst e1
        exact ⟨[], .imm q.1 e2, .inr rfl⟩
      · rw [if_neg l2] at h
        cases h
  cases s with
  | own => cases e; exact ⟨G, q, .inl rfl⟩
  | imm => exact easy (y := none) e
  | out => exact easy (y := none) e
  | view => exact easy (y := none) e
  | brw => exact easy (y := none) e
  | tab => exact easy (y := none) e
theorem owns_ok (g : Good Z O H) : ∀ {vs : List V} {rs : List R} {G : List Addr} {ds : List D}, RepRs K Z O H vs rs G → owns rs = some ds → G.Nodup → ∃ G', Owns K Z H vs ds G' ∧ G'.Nodup ∧ ∀ a ∈ G', a ∈ G
  | _, _, _, _, .nil, e, _ => by cases e; exact ⟨[], .nil, List.nodup_nil, fun _ h => h⟩
  | _, _, _, ds, .cons (r := r) (rs := rs) (F := F) (G := G) q s, e, nd => by
    unfold owns at e
    cases h1 : ownR r with
    | none => rw [h1] at e; cases e
    | some d =>
      rw [h1] at e
      cases h2 : owns rs with
      | none => rw [h2] at e; cases e
      | some ds' =>
        rw [h2] at e
        cases e
        obtain ⟨n1, n2, n3⟩ := List.nodup_append.mp nd
        obtain ⟨F', o1, c1⟩ := ownR_ok g q h1
        obtain ⟨G', o2, m2, s2⟩ := owns_ok g s h2 n2
        have sF : ∀ a ∈ F', a ∈ F := fun a ha => by
          rcases c1 with e | e
          · rw [e] at ha; exact ha
          · rw [e] at ha; cases ha
        refine ⟨F' ++ G', .cons o1 o2, ?_, fun a ha => ?_⟩
        · refine List.nodup_append.mpr ⟨?_, m2, fun a ha b hb => n3 a (sF a ha) b (s2 b hb)⟩
          rcases c1 with e | e
          · rw [e]; exact n1
          · rw [e]; exact List.nodup_nil
        · rcases List.mem_append.mp ha with ha | ha
          · exact List.mem_append_left _ (sF a ha)
          · exact List.mem_append_right _ (s2 a ha)
end
def pTup (ps : List Px) : Px := fun ρ => (evs ps ρ).bind fun rs => match frzs rs with
  | some ds => if ds.length ≤ sizeLine then .ok ⟨.imm, .tuple ds⟩ else .bad
  | none => .bad
def pLst (ps : List Px) : Px := fun ρ => (evs ps ρ).bind fun rs => match owns rs with
  | some ds => if ds.length ≤ sizeLine then .ok ⟨.own, .list ds⟩ else .bad
  | none => .bad
section
variable {X : Cx} {E : XK} {es : List Expr} {ps : List Px} {pos : Pos}
theorem tA_bind {K : PySem.W.Frag} {E : XK} {ps : List Px} {k : List R → Res R} {σ : St} {H : Hp} {Q : VK} {T : List V → Hp → Prop} (h : tP K E (fun ρ => (evs ps ρ).bind k) σ H Q)
    (next : ∀ (Z O H1 : Hp) (G : List Addr) (vs : List V) (rs : List R), Good Z O H1 → RepRs K Z O H1 vs rs G → G.Nodup → (∀ c ∈ G, O c = none) → ResK K E G Z O H1 (k rs) Q → Tabs K H1 → T vs H1) : tA K E ps σ H T := by
  obtain ⟨Z, O, ρ, F, r, h⟩ := h
  refine ⟨Z, O, ρ, F, r, ?_⟩
  have h1 : ResK K E [] Z O H ((evs ps ρ).bind k) Q := h
  cases e : evs ps ρ with
  | bad => rw [e] at h1; exact h1.elim
  | exc c fs => rw [e] at h1; exact h1
  | ok rs =>
    rw [e] at h1
    intro vs H1 Z1 O1 G x1 g1 q1 nd fr
    exact next Z1 O1 H1 G vs rs g1 q1 nd (fun c hc => (fr c hc).2) (ResK.ext h1 x1 fun c hc => (fr c hc).1) (r.tb.ext x1.h)
theorem s_tup {x1} (h : PA X es (tA X.K E ps)) : PE X (.Tuple es x1 pos) (tP X.K E (pTup ps)) := by
  refine (pe_tup h).imp fun σ H Q h => ?_
  refine tA_bind h fun Z O H1 G vs rs g q nd fo h2 tb => ?_
  cases e : frzs rs with
  | none => rw [e] at h2; exact h2.elim
  | some ds =>
    rw [e] at h2
    have h3 : ResK X.K E G Z O H1 (if ds.length ≤ sizeLine then .ok ⟨.imm, .tuple ds⟩ else .bad) Q := h2
    have rz := frzs_ok g q e
    by_cases l : ds.length ≤ sizeLine
    · rw [if_pos l] at h3
      exact ⟨by rw [rz.length]; exact l, fun p np => OkK.tup g h3 rz np⟩
    · rw [if_neg l] at h3
      exact h3.elim
theorem s_lst (h : PA X es (tA X.K E ps)) : PE X (.List es pos) (tP X.K E (pLst ps)) := by
  refine (pe_lst h).imp fun σ H Q h => ?_
  refine tA_bind h fun Z O H1 G vs rs g q nd fo h2 tb => ?_
  cases e : owns rs with
  | none => rw [e] at h2; exact h2.elim
  | some ds =>
    rw [e] at h2
    have h3 : ResK X.K E G Z O H1 (if ds.length ≤ sizeLine then .ok ⟨.own, .list ds⟩ else .bad) Q := h2
    obtain ⟨G', ro, n', s'⟩ := owns_ok g q e nd
    by_cases l : ds.length ≤ sizeLine
    · rw [if_pos l] at h3
      exact ⟨by rw [ro.length]; exact l, fun p np => OkK.lstO g h3 ro n' (fun a ha => ⟨.inr (s' a ha), fo a (s' a ha)⟩) np⟩
    · rw [if_neg l] at h3
      exact h3.elim
end
end Oz

namespace Oz
open PySem PySem.Spec L2
open PyProof.Rows hiding St
variable [WD]

/-! ### what a def promises -/
inductive Md where
  | i | v | m
  deriving DecidableEq
inductive FR where
  | bad
  | ok (r : R) (ms : List D)
  | exc (c : Str) (fs : List (Str × D)) (ms : List D)
abbrev Fn := List D → FR
def noTb : Option HO → Option HO
  | some (.tbl _) => none
  | o => o
theorem noTb_some {x : Option HO} {o : HO} (h : noTb x = some o) : x = some o ∧ ∀ ps, o ≠ .tbl ps := by
  cases x with
  | none => cases h
  | some y => cases y <;> first | (cases h; done) | (cases h; exact ⟨rfl, nofun⟩)
theorem noTb_of {o : HO} (h : ∀ ps, o ≠ .tbl ps) : noTb (some o) = some o := by
  cases o <;> first | rfl | exact absurd rfl (h _)
def without (H : Hp) (F : List Addr) : Hp := fun a => if a ∈ F then none else noTb (H a)
theorem without_some {H : Hp} {F : List Addr} {a : Addr} {o : HO} (h : without H F a = some o) : H a = some o ∧ a ∉ F := by
  unfold without at h
  by_cases e : a ∈ F
  · rw [if_pos e] at h; cases h
  · rw [if_neg e] at h; exact ⟨(noTb_some h).1, e⟩
theorem without_noT (H : Hp) (F : List Addr) : NoT (without H F) := fun a ps h => by
  unfold without at h
  by_cases e : a ∈ F
  · rw [if_pos e] at h; cases h
  · rw [if_neg e] at h; exact (noTb_some h).2 ps rfl
theorem without_sameN (H : Hp) : SameN H (without H []) := fun b o h n => by
  unfold without
  rw [if_neg (by simp), h]
  exact noTb_of n
inductive Args (K : PySem.W.Frag) (Z Hv H : Hp) : List Md → List V → List D → List Addr → Prop
  | nil : Args K Z Hv H [] [] [] []
  | i {md : List Md} {v : V} {vs : List V} {d : D} {ds : List D} {F : List Addr} : Rep K Z v d → Args K Z Hv H md vs ds F → Args K Z Hv H (.i :: md) (v :: vs) (d :: ds) F
  | v {md : List Md} {v : V} {vs : List V} {d : D} {ds : List D} {F : List Addr} : Rep K Hv v d → Args K Z Hv H md vs ds F → Args K Z Hv H (.v :: md) (v :: vs) (d :: ds) F
  | m {md : List Md} {v : V} {vs : List V} {d : D} {ds : List D} {F G : List Addr} : Own K Z H v d F → Args K Z Hv H md vs ds G → Args K Z Hv H (.m :: md) (v :: vs) (d :: ds) (F ++ G)
theorem Args.monoV {K : PySem.W.Frag} {Z Hv Hv' H : Hp} (e : SameN Hv Hv') : ∀ {md : List Md} {vs : List V} {ds : List D} {F : List Addr}, Args K Z Hv H md vs ds F → Args K Z Hv' H md vs ds F
  | _, _, _, _, .nil => .nil
  | _, _, _, _, .i r s => .i r (Args.monoV e s)
  | _, _, _, _, .v r s => .v (r.monoN e) (Args.monoV e s)
  | _, _, _, _, .m q s => .m q (Args.monoV e s)
inductive Outs (K : PySem.W.Frag) (Z H : Hp) : List Md → List V → List D → List Addr → Prop
  | nil : Outs K Z H [] [] [] []
  | i {md : List Md} {v : V} {vs : List V} {ds : List D} {F : List Addr} : Outs K Z H md vs ds F → Outs K Z H (.i :: md) (v :: vs) ds F
  | v {md : List Md} {v : V} {vs : List V} {ds : List D} {F : List Addr} : Outs K Z H md vs ds F → Outs K Z H (.v :: md) (v :: vs) ds F
  | m {md : List Md} {v : V} {vs : List V} {d : D} {ds : List D} {F G : List Addr} : Own K Z H v d F → Outs K Z H md vs ds G → Outs K Z H (.m :: md) (v :: vs) (d :: ds) (F ++ G)
/-- from one state to another: what does not belong to F stays, F' belongs to F or is new -/
structure Tr (Z H : Hp) (F : List Addr) (Z' H' : Hp) (F' : List Addr) : Prop where
  z : Same Z Z'
  keep : ∀ a o, H a = some o → a ∉ F → (∀ ps, o ≠ .tbl ps) → H' a = some o
  zn : ∀ a, Z' a ≠ none → Z a ≠ none ∨ a ∈ F ∨ H a = none
  fn : ∀ a ∈ F', a ∈ F ∨ H a = none
  fr : ∀ a, H' a = none → a ∈ F ∨ H a = none
  tab : ∀ {n : Bool} a, a ∉ F → TabQ n H a → TabQ n H' a
theorem Tr.refl (Z H : Hp) (F : List Addr) : Tr Z H F Z H F := ⟨Same.refl _, fun _ _ h _ _ => h, fun _ h => .inl h, fun _ h => .inl h, fun _ h => .inr h, fun _ _ h => h⟩
theorem Tr.free {Z H : Hp} {F : List Addr} {Z' H' : Hp} {F' : List Addr} (a : Tr Z H F Z' H' F') {c : Addr} (h : H' c = none) : c ∈ F ∨ H c = none := a.fr c h
theorem tabG_ne {n : Bool} {H : Hp} {a : Addr} (h : TabQ n H a) : H a ≠ none := fun z => by
  obtain ⟨⟨ps, q, _⟩, _⟩ := h
  rw [q] at z
  cases z
theorem Tr.trans {Z H Z1 H1 Z2 H2 : Hp} {F F1 F2 : List Addr} (a : Tr Z H F Z1 H1 F1) (b : Tr Z1 H1 F1 Z2 H2 F2) : Tr Z H F Z2 H2 F2 where
  z := a.z.trans b.z
  keep := fun c o h n t => b.keep c o (a.keep c o h n t) (fun q => (a.fn c q).elim n fun z => by rw [h] at z; cases z) t
  fr := fun c h => (b.fr c h).elim (a.fn c) fun q => a.fr c q
  tab := fun c n h => b.tab c (fun q => (a.fn c q).elim n fun z => tabG_ne h z) (a.tab c n h)
  zn := fun c h => (b.zn c h).elim (a.zn c) fun q => q.elim (fun q => .inr (a.fn c q)) fun q => .inr (a.free q)
  fn := fun c h => (b.fn c h).elim (a.fn c) fun q => a.free q
theorem Ext.tr {Z O H Z' O' H' : Hp} {F G : List Addr} (e : Ext [] Z O H Z' O' H') (n : ∀ a ∈ G, H a = none) : Tr Z H F Z' H' (F ++ G) :=
  ⟨e.z, fun a o h _ n => e.h.s a o h n, (fun a h => (e.zn a h).imp id fun q => q.elim (fun q => .inr q) (fun q => by cases q)), fun a h => (List.mem_append.mp h).imp id (n a), fun a h => .inr (e.h.fr a h), fun a _ h => e.h.tab a h⟩
/-- behind a call -/
structure After (K : PySem.W.Frag) (md : List Md) (vs : List V) (Z H : Hp) (Fm : List Addr) (ms : List D) (Z' H' : Hp) (Fm' G : List Addr) : Prop where
  tr : Tr Z H Fm Z' H' (Fm' ++ G)
  zh : Same Z' H'
  tz : ∀ a o, H' a = some o → fzn o = true → Z' a = some o
  nd : (Fm' ++ G).Nodup
  zf : ∀ a ∈ Fm' ++ G, Z' a = none
  nt : NoT Z'
  tb : Tabs K H'
  outs : Outs K Z' H' md vs ms Fm'
def RetR (r : R) : Prop := r.s = .imm ∨ r.s = .own
def PostF (K : PySem.W.Frag) (md : List Md) (vs : List V) (Z H : Hp) (Fm : List Addr) (Q : VK) (E : XK) : FR → Prop
  | .bad => False
  | .ok r ms => ∀ v H' Z' Fm' G, After K md vs Z H Fm ms Z' H' Fm' G → RetR r → RepR K Z' Z' H' v r G → Q v H'
  | .exc c fs ms => ∀ H' Z' Fm' d xs, After K md vs Z H Fm ms Z' H' Fm' [] → H' d = some (.xd xs) → xs.map (·.1) = fs.map (·.1) → Reps K Z' (xs.map (·.2)) (fs.map (·.2)) → E (.ref (He.ga K c)) (some d) H'
def spF (K : PySem.W.Frag) (md : List Md) (f : Fn) : Sp := fun vs H Q E => vs.length = md.length ∧ ∃ Z ds Fm, Same Z H ∧ NoT Z ∧ Tabs K H ∧ (∀ a o, H a = some o → fzn o = true → Z a = some o) ∧ Args K Z (without H Fm) H md vs ds Fm ∧ Fm.Nodup ∧ (∀ a ∈ Fm, Z a = none) ∧
  PostF K md vs Z H Fm Q E (f ds)

/-! ### a call that changes nothing -/
def pargs : List Md → List R → Option (List D)
  | [], [] => some []
  | .i :: md, r :: rs => match frzR r, pargs md rs with
    | some d, some ds => some (d :: ds)
    | _, _ => none
  | .v :: md, r :: rs => match pargs md rs with
    | some ds => some (r.d :: ds)
    | none => none
  | _, _ => none
def pCall (f : Fn) (md : List Md) (ps : List Px) : Px := fun ρ => (evs ps ρ).bind fun rs => match pargs md rs with
  | some ds => (match f ds with
    | .ok r [] => .ok r
    | .exc c fs [] => .exc c fs
    | _ => .bad)
  | none => .bad
section
variable {K : PySem.W.Frag} {E : XK} {Z O H : Hp} {Q : VK} {W : List Addr}
theorem pargs_ok (g : Good Z O H) : ∀ {md : List Md} {rs : List R} {vs : List V} {G : List Addr} {ds : List D}, RepRs K Z O H vs rs G → pargs md rs = some ds → Args K Z H H md vs ds [] ∧ vs.length = md.length ∧ (∀ Z' H' ms F, Outs K Z' H' md vs ms F → F = [] ∧ ms = []) ∧ (∀ Z' H', Outs K Z' H' md vs [] [])
  | [], [], _, _, _, .nil, e => by
    cases e
    refine ⟨.nil, rfl, fun _ _ _ _ h => ?_, fun _ _ => .nil⟩
    cases h
    exact ⟨rfl, rfl⟩
  | .i :: md, r :: rs, _, _, ds, .cons q s, e => by
    unfold pargs at e
    cases h1 : frzR r with
    | none => rw [h1] at e; cases e
    | some d =>
      rw [h1] at e
      cases h2 : pargs md rs with
      | none => rw [h2] at e; cases e
      | some ds' =>
        rw [h2] at e
        cases e
        obtain ⟨i1, i2, i3, i4⟩ := pargs_ok g s h2
        refine ⟨.i (frzR_ok g q h1) i1, congrArg (· + 1) i2, fun _ _ _ _ h => ?_, fun _ _ => .i (i4 _ _)⟩
        cases h with
        | i h => exact i3 _ _ _ _ h
  | .v :: md, r :: rs, _, _, ds, .cons q s, e => by
    unfold pargs at e
    cases h2 : pargs md rs with
    | none => rw [h2] at e; cases e
    | some ds' =>
      rw [h2] at e
      cases e
      obtain ⟨i1, i2, i3, i4⟩ := pargs_ok g s h2
      refine ⟨.v (q.look g) i1, congrArg (· + 1) i2, fun _ _ _ _ h => ?_, fun _ _ => .v (i4 _ _)⟩
      cases h with
      | v h => exact i3 _ _ _ _ h
  | [], _ :: _, _, _, _, _, e => by cases e
  | .m :: _, _, _, _, _, _, e => by cases e
  | .i :: _, [], _, _, _, _, e => by cases e
  | .v :: _, [], _, _, _, _, e => by cases e
/-- the outer heap behind -/
def oNew (O Z' : Hp) : Hp := fun a => match O a with
  | some o => some o
  | none => Z' a
theorem oNew_some {O Z' : Hp} {a : Addr} {o : HO} (h : O a = some o) : oNew O Z' a = some o := by unfold oNew; rw [h]
theorem oNew_none {O Z' : Hp} {a : Addr} (h : O a = none) : oNew O Z' a = Z' a := by unfold oNew; rw [h]
theorem oNew_good {O Z' H' : Hp} (oh : Same O H') (zh : Same Z' H') (tz : ∀ a o, H' a = some o → fzn o = true → Z' a = some o) (no : NoT O) (nz : NoT Z') : Good Z' (oNew O Z') H' := by
  refine ⟨fun a o h => ?_, fun a o h => ?_, tz, fun a ps h => ?_⟩
  rotate_right
  · cases e : O a with
    | none => rw [oNew_none e] at h; exact nz a ps h
    | some x => rw [oNew_some e] at h; exact no a ps (e.trans h)
  · cases e : O a with
    | none => rw [oNew_none e]; exact h
    | some x =>
      rw [oNew_some e]
      have := oh a x e
      rw [zh a o h] at this
      exact this.symm
  · cases e : O a with
    | none => rw [oNew_none e] at h; exact zh a o h
    | some x => rw [oNew_some e] at h; exact oh a o (e.trans h)
theorem oNew_same {O Z' : Hp} : Same O (oNew O Z') := fun a o h => oNew_some h
theorem RetR.move {K : PySem.W.Frag} {v : V} {r : R} {G : List Addr} {Z O O' H : Hp} (h : RepR K Z O H v r G) (t : RetR r) : RepR K Z O' H v r G := by
  obtain ⟨s, d⟩ := r
  rcases t with t | t
  · cases t; exact h
  · cases t; exact h
theorem call_ok {md : List Md} {f : Fn} {rs : List R} {vs : List V} {G : List Addr} (g : Good Z O H) (tb : Tabs K H) (q : RepRs K Z O H vs rs G)
    (h : ResK K E W Z O H (match pargs md rs with
      | some ds => (match f ds with
        | .ok r [] => .ok r
        | .exc c fs [] => .exc c fs
        | _ => .bad)
      | none => .bad) Q) : spF K md f vs H Q E := by
  cases e : pargs md rs with
  | none => rw [e] at h; exact h.elim
  | some ds =>
    rw [e] at h
    obtain ⟨i1, i2, i3, i4⟩ := pargs_ok g q e
    refine ⟨i2, Z, ds, [], g.zh, g.ntz, tb, g.tz, i1.monoV (without_sameN H), List.nodup_nil, (fun a ha => by cases ha), ?_⟩
    have h2 : ResK K E W Z O H (match f ds with
        | .ok r [] => .ok r
        | .exc c fs [] => .exc c fs
        | _ => .bad) Q := h
    cases e2 : f ds with
    | bad => rw [e2] at h2; exact h2.elim
    | ok r ms =>
      rw [e2] at h2
      cases ms with
      | cons _ _ => exact h2.elim
      | nil =>
        intro v H' Z' Fm' G' A t r1
        obtain ⟨rfl, _⟩ := i3 _ _ _ _ A.outs
        have sh : SameT H H' := ⟨fun a o q n => A.tr.keep a o q (by simp) n, fun a q => (A.tr.fr a q).elim (fun z => by cases z) id, fun a q => A.tr.tab a (by simp) q⟩
        refine h2 v H' Z' (oNew O Z') G' ⟨sh, A.tr.z, oNew_same, (fun a q => (A.tr.zn a q).imp id fun q => q.elim (fun q => by cases q) .inl), fun a q => ?_⟩ (oNew_good (g.ohT sh) A.zh A.tz g.nt A.nt) (RetR.move r1 t) A.nd fun a ha => ?_
        · cases w : O a with
          | some x => exact .inl (by simp)
          | none =>
            rw [oNew_none w] at q
            rcases A.tr.zn a q with q | q | q
            · exact absurd (g.zo.free w) q
            · cases q
            · exact .inr (.inl q)
        · have hn : H a = none := (A.tr.fn a ha).elim (fun q => by cases q) id
          exact ⟨.inl hn, by rw [oNew_none (none_of g.oh hn)]; exact A.zf a ha⟩
    | exc c fs ms =>
      rw [e2] at h2
      cases ms with
      | cons _ _ => exact h2.elim
      | nil =>
        intro H' Z' Fm' d xs A hd ek rk
        obtain ⟨rfl, _⟩ := i3 _ _ _ _ A.outs
        have sh : SameT H H' := ⟨fun a o q n => A.tr.keep a o q (by simp) n, fun a q => (A.tr.fr a q).elim (fun z => by cases z) id, fun a q => A.tr.tab a (by simp) q⟩
        refine h2 H' Z' (oNew O Z') d xs ⟨sh, A.tr.z, oNew_same, (fun a q => (A.tr.zn a q).imp id fun q => q.elim (fun q => by cases q) .inl), fun a q => ?_⟩ (oNew_good (g.ohT sh) A.zh A.tz g.nt A.nt) hd ek rk
        cases w : O a with
        | some x => exact .inl (by simp)
        | none =>
          rw [oNew_none w] at q
          rcases A.tr.zn a q with q | q | q
          · exact absurd (g.zo.free w) q
          · cases q
          · exact .inr (.inl q)
end
section
variable {X : Cx} {E : XK} {CX : CXT} {k : Nat} {f : Addr} {fd : FuncData} {ps : List Str} {md : List Md} {fn : Fn} {x : Str} {p pos : Pos} {e : Expr} {es : List Expr} {qs : List Px}
theorem tP_call {K : PySem.W.Frag} {σ : St} {H : Hp} {Q : VK} (h : tP K E (pCall fn md qs) σ H Q) : tCall (spF K md fn) [] E (tA K E qs) σ H Q := by
  refine tA_bind h fun Z O H1 G vs rs g q nd fo h2 tb => ?_
  rw [List.append_nil]
  exact call_ok g tb q h2
theorem s_call (F : FnOk X.prog X.w X.K X.mg X.base CX k f fd ps (spF X.K md fn)) (hr : Room k X.A) (hg : Gl X x) (hm : X.mg x = some (.ref f)) (hk : PySem.W.keepIn X.K (.ref f) = true) (hb : Binds X.K fd ps []) (hx : Passes CX X E)
    (ha : PA X (e :: es) (tA X.K E qs)) (hdb : (x == ("__debug__" : Str)) = false := by decide) (he : starEach (e :: es) X.env = (false, eval e X.env) :: starEach es X.env := by rfl) (hpl : (backTo pos (starEach es X.env)).any (·.1) = false := by rfl) :
    PE X (.Call (.Name x p) (e :: es) [] pos) (tP X.K E (pCall fn md qs)) :=
  (pe_call F hr hg hm hk hb .nil hx ha hdb he hpl).imp fun _ _ _ h => tP_call h
end

/-! ### statements -/
inductive SR where
  | bad
  | next (ρ : Ev)
  | ret (r : R) (ρ : Ev)
  | exc (c : Str) (fs : List (Str × D)) (ρ : Ev)
abbrev Stx := Ev → SR
/-- from a state to another, the frame too -/
structure TrS (Z O H : Hp) (σ : St) (ρ : Ev) (F : List Addr) (Z' O' H' : Hp) (σ' : St) (ρ' : Ev) (F' : List Addr) : Prop where
  tr : Tr Z H F Z' H' F'
  o : Same O O'
  len : σ'.length = σ.length
  brw : ∀ (j : Nat) (d : D), ρ[j]? = some (some (R.mk .brw d)) → σ'[j]? = σ[j]? ∧ ∃ d', ρ'[j]? = some (some (R.mk .brw d'))
  on : ∀ a, O' a ≠ none → O a ≠ none ∨ a ∈ F ∨ H a = none
theorem TrS.refl (Z O H : Hp) (σ : St) (ρ : Ev) (F : List Addr) : TrS Z O H σ ρ F Z O H σ ρ F := ⟨Tr.refl _ _ _, Same.refl _, rfl, fun _ d h => ⟨rfl, d, h⟩, fun _ h => .inl h⟩
theorem TrS.trans {Z O H Z1 O1 H1 Z2 O2 H2 : Hp} {σ σ1 σ2 : St} {ρ ρ1 ρ2 : Ev} {F F1 F2 : List Addr} (a : TrS Z O H σ ρ F Z1 O1 H1 σ1 ρ1 F1) (b : TrS Z1 O1 H1 σ1 ρ1 F1 Z2 O2 H2 σ2 ρ2 F2) : TrS Z O H σ ρ F Z2 O2 H2 σ2 ρ2 F2 :=
  ⟨a.tr.trans b.tr, a.o.trans b.o, b.len.trans a.len, fun j d h => by
    obtain ⟨e1, d1, h1⟩ := a.brw j d h
    obtain ⟨e2, d2, h2⟩ := b.brw j d1 h1
    exact ⟨e2.trans e1, d2, h2⟩, fun c h => (b.on c h).elim (a.on c) fun q => q.elim (fun q => .inr (a.tr.fn c q)) fun q => .inr (a.tr.free q)⟩
def SRK (K : PySem.W.Frag) (E : XK) (Z O H : Hp) (σ : St) (ρ : Ev) (F : List Addr) (nx : St → Hp → Prop) (rt : VK) : SR → Prop
  | .bad => False
  | .next ρ' => ∀ σ' H' Z' O' F', Rel K Z' O' H' σ' ρ' F' → nov ρ' = true → TrS Z O H σ ρ F Z' O' H' σ' ρ' F' → nx σ' H'
  | .ret r ρ' => ∀ v σ' H' Z' O' F' G, Rel K Z' O' H' σ' ρ' F' → RepR K Z' O' H' v r G → (F' ++ G).Nodup → (∀ a ∈ G, O' a = none) → Tr Z H F Z' H' (F' ++ G) → TrS Z O H σ ρ F Z' O' H' σ' ρ' F' → rt v H'
  | .exc c fs ρ' => ∀ σ' H' Z' O' F' d xs, Rel K Z' O' H' σ' ρ' F' → TrS Z O H σ ρ F Z' O' H' σ' ρ' F' → H' d = some (.xd xs) → xs.map (·.1) = fs.map (·.1) → Reps K Z' (xs.map (·.2)) (fs.map (·.2)) → E (.ref (He.ga K c)) (some d) H'
def tS (K : PySem.W.Frag) (E : XK) (s : Stx) : TS := fun D σ H => ∃ Z O ρ F, Rel K Z O H σ ρ F ∧ nov ρ = true ∧ SRK K E Z O H σ ρ F D.nx D.rt (s ρ)
section
variable {K : PySem.W.Frag} {E : XK} {Z O H Z1 O1 H1 : Hp} {σ σ1 : St} {ρ ρ1 : Ev} {F F1 : List Addr} {nx : St → Hp → Prop} {rt : VK}
theorem SRK.from {r : SR} (h : SRK K E Z O H σ ρ F nx rt r) (t : TrS Z O H σ ρ F Z1 O1 H1 σ1 ρ1 F1) : SRK K E Z1 O1 H1 σ1 ρ1 F1 nx rt r := by
  cases r with
  | bad => exact h
  | next ρ' => exact fun σ' H' Z' O' F' q n u => h σ' H' Z' O' F' q n (t.trans u)
  | ret r ρ' => exact fun v σ' H' Z' O' F' G q w nd fo u u2 => h v σ' H' Z' O' F' G q w nd fo (t.tr.trans u) (t.trans u2)
  | exc c fs ρ' => exact fun σ' H' Z' O' F' d xs q u hd e1 e2 => h σ' H' Z' O' F' d xs q (t.trans u) hd e1 e2
end
end Oz

namespace Oz
open PySem PySem.Spec L2
open PyProof.Rows hiding St
variable [WD]

/-! ### storing -/
def storable (r : R) : Bool := match r.s with
  | .imm => true
  | .out => true
  | .own => true
  | _ => false
def setS (i : Nat) (r : R) (ρ : Ev) : Option Ev := match ρ[i]? with
  | none => none
  | some (some ⟨.brw, _⟩) => none
  | some _ => if storable r = true then some (ρ.set i (some r)) else none
section
variable {K : PySem.W.Frag} {E : XK} {Z O H Z1 O1 H1 : Hp} {σ : St} {ρ ρ' : Ev} {F G : List Addr} {v : V} {r : R} {i : Nat}
theorem setS_some (h : setS i r ρ = some ρ') : i < ρ.length ∧ (∀ d, ρ[i]? ≠ some (some ⟨.brw, d⟩)) ∧ storable r = true ∧ ρ' = ρ.set i (some r) := by
  unfold setS at h
  cases e : ρ[i]? with
  | none => rw [e] at h; cases h
  | some y =>
    obtain ⟨hl, _⟩ := List.getElem?_eq_some_iff.mp e
    rw [e] at h
    have fin : (if storable r = true then some (ρ.set i (some r)) else none) = some ρ' → storable r = true ∧ ρ' = ρ.set i (some r) := fun h => by
      by_cases c : storable r = true
      · rw [if_pos c] at h; exact ⟨c, (Option.some.inj h).symm⟩
      · rw [if_neg c] at h; cases h
    cases y with
    | none =>
      obtain ⟨h1, h2⟩ := fin h
      exact ⟨hl, (fun d q => by cases q), h1, h2⟩
    | some q =>
      obtain ⟨s, d⟩ := q
      cases s with
      | brw => cases h
      | imm => obtain ⟨h1, h2⟩ := fin h; exact ⟨hl, (fun d q => by cases q), h1, h2⟩
      | out => obtain ⟨h1, h2⟩ := fin h; exact ⟨hl, (fun d q => by cases q), h1, h2⟩
      | view => obtain ⟨h1, h2⟩ := fin h; exact ⟨hl, (fun d q => by cases q), h1, h2⟩
      | own => obtain ⟨h1, h2⟩ := fin h; exact ⟨hl, (fun d q => by cases q), h1, h2⟩
      | tab => obtain ⟨h1, h2⟩ := fin h; exact ⟨hl, (fun d q => by cases q), h1, h2⟩
theorem nov_set {i : Nat} {y : Option R} (n : nov ρ = true) (hy : ∀ d, y ≠ some ⟨.view, d⟩) : nov (ρ.set i y) = true := by
  unfold nov at n ⊢
  rw [List.all_eq_true] at n ⊢
  intro x hx
  rcases List.mem_or_eq_of_mem_set hx with h | h
  · exact n x h
  · subst h
    cases x with
    | none => rfl
    | some r =>
      obtain ⟨s, d⟩ := r
      cases s with
      | view => exact absurd rfl (hy d)
      | _ => rfl
/-- the frame with a new thing at i -/
theorem Rel.set (rl : Rel K Z O H σ ρ F) (n : nov ρ = true) (q : RepR K Z O H v r G) (nd : G.Nodup) (dj : ∀ a ∈ G, a ∉ F) (fo : ∀ a ∈ G, O a = none) (h : setS i r ρ = some ρ') :
    ∃ F', Rel K Z O H (σ.set i (some v)) ρ' F' ∧ nov ρ' = true ∧ (∀ a ∈ F', a ∈ F ∨ a ∈ G) ∧ (σ.set i (some v)).length = σ.length ∧
      ∀ (j : Nat) (d : D), ρ[j]? = some (some (R.mk .brw d)) → (σ.set i (some v))[j]? = σ[j]? ∧ ∃ d', ρ'[j]? = some (some (R.mk .brw d')) := by
  obtain ⟨hl, nb, st, rfl⟩ := setS_some h
  obtain ⟨x, y, F1, G0, F2, h1, h2, h3, h4, h5⟩ := rl.sl.focus hl
  subst h3
  have sl := h5 (some v) (some r) G Z O H (Same.refl _) (Same.refl _) (.inl fun _ _ q _ => q) (fun a _ o q _ => q) (.inl q)
  refine ⟨_, ⟨rl.g, ?_, fun a ha => ?_, sl, rl.tb⟩, nov_set n (fun d e => ?_), fun a ha => ?_, by simp, fun j d hj => ?_⟩
  · have nF := rl.nd
    rw [List.nodup_append] at nF
    obtain ⟨n1, n2, n3⟩ := nF
    rw [List.nodup_append] at n2
    obtain ⟨n4, n5, n6⟩ := n2
    rw [List.nodup_append]
    refine ⟨n1, ?_, fun a ha b hb => ?_⟩
    · rw [List.nodup_append]
      exact ⟨nd, n5, fun a ha b hb e => dj a ha (by rw [e]; simp [hb])⟩
    · rcases List.mem_append.mp hb with hb | hb
      · exact fun e => dj b hb (by rw [← e]; simp [ha])
      · exact n3 a ha b (List.mem_append_right _ hb)
  · rcases List.mem_append.mp ha with ha | ha
    · exact rl.fo a (by simp [ha])
    · rcases List.mem_append.mp ha with ha | ha
      · exact fo a ha
      · exact rl.fo a (by simp [ha])
  · cases e
    cases st
  · rcases List.mem_append.mp ha with ha | ha
    · exact .inl (by simp [ha])
    · rcases List.mem_append.mp ha with ha | ha
      · exact .inr ha
      · exact .inl (by simp [ha])
  · have ne : i ≠ j := fun e => nb d (by rw [e]; exact hj)
    exact ⟨List.getElem?_set_ne ne, d, by rw [List.getElem?_set_ne ne]; exact hj⟩
end

/-! ### the statements that do not nest -/
def sAsg (i : Nat) (p : Px) : Stx := fun ρ => match p ρ with
  | .bad => .bad
  | .exc c fs => .exc c fs ρ
  | .ok r => (match setS i r ρ with
    | some ρ' => .next ρ'
    | none => .bad)
def sRet (p : Px) : Stx := fun ρ => match p ρ with
  | .bad => .bad
  | .exc c fs => .exc c fs ρ
  | .ok r => if storable r = true then .ret r ρ else .bad
/-- return of a name: what is one's own is handed on -/
def sRetV (i : Nat) : Stx := fun ρ => match ρ[i]? with
  | some (some ⟨.own, d⟩) => .ret ⟨.own, d⟩ (ρ.set i none)
  | _ => sRet (pVar i) ρ
def sDrop (p : Px) : Stx := fun ρ => match p ρ with
  | .bad => .bad
  | .exc c fs => .exc c fs ρ
  | .ok _ => .next ρ
def sNext : Stx := fun ρ => .next ρ
def sSeq (s t : Stx) : Stx := fun ρ => match s ρ with
  | .next ρ' => t ρ'
  | r => r
def sIf (c : Tx) (s t : Stx) : Stx := fun ρ => match c ρ with
  | .bad => .bad
  | .exc x fs => .exc x fs ρ
  | .ok b => if b = true then s ρ else t ρ
section
variable {K : PySem.W.Frag} {E : XK} {Z O H Z1 O1 H1 : Hp} {σ : St} {ρ ρ' : Ev} {F G : List Addr} {nx : St → Hp → Prop} {rt : VK}
theorem TrS.ext (e : Ext [] Z O H Z1 O1 H1) : TrS Z O H σ ρ F Z1 O1 H1 σ ρ F := ⟨by have := e.tr (F := F) (G := []) (fun a h => by cases h); rwa [List.append_nil] at this, e.o, rfl, fun _ d h => ⟨rfl, d, h⟩, fun c h => (e.on c h).imp id fun q => q.elim .inr fun q => by cases q⟩
theorem SRK.exc {c : Str} {fs : List (Str × D)} (rl : Rel K Z O H σ ρ F) (h : SRK K E Z O H σ ρ F nx rt (.exc c fs ρ)) : ExcK K E Z O H c fs := fun H' Z' O' d xs e g q a b =>
  h σ H' Z' O' F d xs (rl.ext e g) (TrS.ext e) q a b
/-- an expression ahead -/
theorem tS_expr {p : Px} {s : R → Ev → SR} {D : Ends} (h : tS K E (fun ρ => match p ρ with
      | .bad => .bad
      | .exc c fs => .exc c fs ρ
      | .ok r => s r ρ) D σ H) {T : V → Hp → Prop}
    (next : ∀ (Z0 O0 Z O H1 : Hp) (ρ : Ev) (F G : List Addr) (v : V) (r : R), Rel K Z O H1 σ ρ F → nov ρ = true → RepR K Z O H1 v r G → G.Nodup → (∀ a ∈ G, a ∉ F) → (∀ a ∈ G, O a = none) → (∀ a ∈ G, H a = none) → TrS Z0 O0 H σ ρ F Z O H1 σ ρ F → SRK K E Z0 O0 H σ ρ F D.nx D.rt (s r ρ) → T v H1) : tP K E p σ H T := by
  obtain ⟨Z, O, ρ, F, rl, n, h⟩ := h
  refine ⟨Z, O, ρ, F, rl, ?_⟩
  have h1 : SRK K E Z O H σ ρ F D.nx D.rt (match p ρ with
      | .bad => .bad
      | .exc c fs => .exc c fs ρ
      | .ok r => s r ρ) := h
  cases e : p ρ with
  | bad => rw [e] at h1; exact h1.elim
  | exc c fs => rw [e] at h1; exact SRK.exc rl h1
  | ok r =>
    rw [e] at h1
    intro v H1 Z1 O1 G x1 g1 q nd fr
    have hn : ∀ a ∈ G, H a = none := fun a ha => (fr a ha).1.elim id fun z => by cases z
    refine next Z O Z1 O1 H1 ρ F G v r (rl.ext x1 g1) n q nd (fun a ha z => ?_) (fun a ha => (fr a ha).2) hn (TrS.ext x1) h1
    obtain ⟨o, w, _⟩ := rl.sl.live a z
    rw [hn a ha] at w
    cases w
end
section
variable {X : Cx} {E : XK} {e c : Expr} {p : Px} {t : Tx} {a b : List Stmt} {st : Stmt} {rest : List Stmt} {s u : Stx} {pos pos' : Pos} {x : Str}
theorem s_asg (i : Nat) (hN : X.N.Nodup) (he : PE X e (tP X.K E p)) (hi : X.N[i]? = some x := by rfl) (hx : Loc X.env.scope x := by first | exact Or.inl rfl | exact Or.inr rfl) (hs : swapsWith e (some (.Name x pos')) pos.line X.env = pure false := by rfl)
    (hf : X.fn x = true ∨ X.env.scope.names.lookup x = some .local := by first | exact .inl rfl | exact .inr rfl | assumption) : PS X (.Assign [.Name x pos'] e pos) (tS X.K E (sAsg i p)) := by
  refine (ps_set hN hi hx he hs hf).imp fun D σ H h => ?_
  refine tS_expr (s := fun r ρ => match setS i r ρ with | some ρ' => .next ρ' | none => .bad) h fun Z0 O0 Z O H1 ρ F G v r rl n q nd dj fo fh tr h2 => ?_
  cases z : setS i r ρ with
  | none => rw [z] at h2; exact h2.elim
  | some ρ' =>
    rw [z] at h2
    obtain ⟨F', rl', n', sub, ln, bw⟩ := rl.set n q nd dj fo z
    refine h2 _ H1 Z O F' rl' n' ⟨⟨tr.tr.z, tr.tr.keep, tr.tr.zn, fun a ha => ?_, tr.tr.fr, tr.tr.tab⟩, tr.o, ln, bw, tr.on⟩
    exact (sub a ha).imp id (fh a)
theorem s_ret (he : PE X e (tP X.K E p)) : PS X (.Return (some e) pos) (tS X.K E (sRet p)) := by
  refine (ps_ret he).imp fun D σ H h => ?_
  refine tS_expr (s := fun r ρ => if storable r = true then .ret r ρ else .bad) h fun Z0 O0 Z O H1 ρ F G v r rl n q nd dj fo fh tr h2 => ?_
  by_cases c : storable r = true
  · rw [if_pos c] at h2
    refine h2 v σ H1 Z O F G rl q ?_ fo ⟨tr.tr.z, tr.tr.keep, tr.tr.zn, fun a ha => ?_, tr.tr.fr, tr.tr.tab⟩ tr
    · rw [List.nodup_append]
      exact ⟨rl.nd, nd, fun a ha b hb e => dj b hb (e ▸ ha)⟩
    · rcases List.mem_append.mp ha with ha | ha
      · exact tr.tr.fn a ha
      · exact .inr (fh a ha)
  · rw [if_neg c] at h2
    exact h2.elim
theorem s_retV (i : Nat) (hN : X.N[i]? = some x := by rfl) (hv : Vis X.env.scope x := by first | exact Or.inl rfl | exact Or.inr (Or.inl rfl) | exact Or.inr (Or.inr rfl)) (hd : (x == ("__debug__" : Str)) = false := by decide)
    (hcd : (x == ("__classdict__" : Str)) = false := by decide) : PS X (.Return (some (.Name x pos')) pos) (tS X.K E (sRetV i)) := by
  refine (ps_ret (pe_var hN hv hd hcd)).imp fun D σ H h => ?_
  obtain ⟨Z, O, ρ, F, rl, n, h⟩ := h
  have plain : SRK X.K E Z O H σ ρ F D.nx D.rt (sRet (pVar i) ρ) → tVar i σ H D.rt := fun h => by
    unfold sRet pVar at h
    cases e : ρ[i]? with
    | none => rw [e] at h; exact h.elim
    | some y =>
      cases y with
      | none => rw [e] at h; exact h.elim
      | some r =>
        rw [e] at h
        obtain ⟨v, h1, G, h2⟩ := rl.sl.get e
        refine ⟨v, h1, ?_⟩
        have ht : r.s ≠ .tab := fun z => by
          obtain ⟨s, d⟩ := r
          cases z
          exact h.elim
        have h3 : SRK X.K E Z O H σ ρ F D.nx D.rt (if storable (vw r) = true then .ret (vw r) ρ else .bad) := by
          obtain ⟨s, d⟩ := r
          cases s <;> first | exact h | exact absurd rfl ht
        have h2 := h2.rep ht
        by_cases c : storable (vw r) = true
        · rw [if_pos c] at h3
          refine h3 v σ H Z O F [] rl (h2.vw rl.g) (by rw [List.append_nil]; exact rl.nd) (fun a ha => by cases ha) ?_ (TrS.refl _ _ _ _ _ _)
          rw [List.append_nil]
          exact Tr.refl _ _ _
        · rw [if_neg c] at h3
          exact h3.elim
  unfold sRetV at h
  cases e : ρ[i]? with
  | none => rw [e] at h; exact plain h
  | some y =>
    cases y with
    | none => rw [e] at h; exact plain h
    | some r =>
      obtain ⟨s, d⟩ := r
      cases s with
      | imm => rw [e] at h; exact plain h
      | out => rw [e] at h; exact plain h
      | view => rw [e] at h; exact plain h
      | brw => rw [e] at h; exact plain h
      | tab => rw [e] at h; exact plain h
      | own =>
        rw [e] at h
        obtain ⟨hl, _⟩ := List.getElem?_eq_some_iff.mp e
        obtain ⟨x1, y1, F1, G, F2, h1, h2, h3, h4, h5⟩ := rl.sl.focus hl
        rw [e] at h2
        cases h2
        cases x1 with
        | none => exact h4.elim
        | some v =>
          refine ⟨v, h1, ?_⟩
          have q : RepR X.K Z O H v ⟨.own, d⟩ G := RepS.rep h4 nofun
          have sl := h5 (some v) none [] Z O H (Same.refl _) (Same.refl _) (.inl fun _ _ q _ => q) (fun a _ o q _ => q) rfl
          have es : σ.set i (some v) = σ := by
            apply List.ext_getElem?
            intro j
            by_cases ij : i = j
            · subst ij
              obtain ⟨hl2, _⟩ := List.getElem?_eq_some_iff.mp h1
              rw [List.getElem?_set_self hl2, h1]
            · rw [List.getElem?_set_ne ij]
          rw [es] at sl
          subst h3
          have nF := rl.nd
          have pm : ((F1 ++ ([] ++ F2)) ++ G).Perm (F1 ++ (G ++ F2)) := by
            rw [List.nil_append, List.append_assoc]
            exact List.Perm.append_left F1 (List.perm_append_comm)
          have nd2 : ((F1 ++ ([] ++ F2)) ++ G).Nodup := pm.nodup_iff.mpr nF
          have inn : ∀ a, a ∈ (F1 ++ ([] ++ F2)) ++ G → a ∈ F1 ++ (G ++ F2) := fun a ha => pm.mem_iff.mp ha
          have rl' : Rel X.K Z O H σ (ρ.set i none) (F1 ++ ([] ++ F2)) := ⟨rl.g, (List.nodup_append.mp nd2).1, fun a ha => rl.fo a (inn a (List.mem_append_left _ ha)), sl, rl.tb⟩
          refine h v σ H Z O _ G rl' q nd2 (fun a ha => rl.fo a (inn a (List.mem_append_right _ ha))) ⟨Same.refl _, fun a o q _ _ => q, fun a q => .inl q, fun a ha => .inl (inn a ha), fun a h => .inr h, fun a _ h => h⟩
            ⟨⟨Same.refl _, fun a o q _ _ => q, fun a q => .inl q, fun a ha => .inl (inn a (List.mem_append_left _ ha)), fun a h => .inr h, fun a _ h => h⟩, Same.refl _, rfl, fun j d' hj => ⟨rfl, d', ?_⟩, fun a q => .inl q⟩
          have ne : i ≠ j := fun z => by rw [z] at e; rw [e] at hj; cases hj
          rw [List.getElem?_set_ne ne]
          exact hj
theorem s_nil : PSs X [] (tS X.K E sNext) := pss_nil.imp fun D σ H h => by
  obtain ⟨Z, O, ρ, F, rl, n, h⟩ := h
  exact h σ H Z O F rl n (TrS.refl _ _ _ _ _ _)
theorem s_last (h : PS X st (tS X.K E s)) : PSs X [st] (tS X.K E s) := pss_one h
theorem s_cons (h1 : PS X st (tS X.K E s)) (h2 : PSs X rest (tS X.K E u)) : PSs X (st :: rest) (tS X.K E (sSeq s u)) := by
  refine (pss_cons h1 h2).imp fun D σ H h => ?_
  obtain ⟨Z, O, ρ, F, rl, n, h⟩ := h
  refine ⟨Z, O, ρ, F, rl, n, ?_⟩
  unfold sSeq at h
  cases e : s ρ with
  | bad => rw [e] at h; exact h
  | ret r ρ' => rw [e] at h; exact h
  | exc c fs ρ' => rw [e] at h; exact h
  | next ρ' =>
    rw [e] at h
    have h2 : SRK X.K E Z O H σ ρ F D.nx D.rt (u ρ') := h
    exact fun σ' H' Z' O' F' rl' n' tr => ⟨Z', O', ρ', F', rl', n', SRK.from h2 tr⟩
theorem s_ifS (hc : PT X c (tT X.K E t)) (ha : PSs X a (tS X.K E s)) (hb : PSs X b (tS X.K E u)) : PS X (.If c a b pos) (tS X.K E (sIf t s u)) := by
  refine (ps_if hc ha hb).imp fun D σ H h => ?_
  obtain ⟨Z, O, ρ, F, rl, n, h⟩ := h
  refine ⟨Z, O, ρ, F, rl, ?_⟩
  unfold sIf at h
  cases e : t ρ with
  | bad => rw [e] at h; exact h.elim
  | exc c fs => rw [e] at h; exact SRK.exc rl h
  | ok k =>
    rw [e] at h
    intro H1 Z1 O1 x1 g1
    have h2 : SRK X.K E Z O H σ ρ F D.nx D.rt (if k = true then s ρ else u ρ) := h
    cases k with
    | true => exact ⟨Z1, O1, ρ, F, rl.ext x1 g1, n, SRK.from h2 (TrS.ext x1)⟩
    | false => exact ⟨Z1, O1, ρ, F, rl.ext x1 g1, n, SRK.from h2 (TrS.ext x1)⟩
end

/-! ### a def by its body -/
def entR : Md → D → R
  | .i, d => ⟨.imm, d⟩
  | .v, d => if lf d = true then ⟨.imm, d⟩ else ⟨.out, d⟩
  | .m, d => ⟨.brw, d⟩
theorem entR_t {d : D} (l : lf d = true) : entR .v d = ⟨.imm, d⟩ := if_pos l
theorem entR_f {d : D} (l : ¬ lf d = true) : entR .v d = ⟨.out, d⟩ := if_neg l
def entE : List Md → List D → Nat → Ev
  | m :: md, d :: ds, n => some (entR m d) :: entE md ds (n - 1)
  | _, _, n => List.replicate n none
def outsE : List Md → Ev → Option (List D)
  | [], _ => some []
  | .m :: md, some ⟨.brw, d⟩ :: ρ => (match outsE md ρ with
    | some ds => some (d :: ds)
    | none => none)
  | .m :: _, _ => none
  | .i :: md, _ :: ρ => outsE md ρ
  | .v :: md, _ :: ρ => outsE md ρ
  | _ :: _, [] => none
def exitE (md : List Md) (r : R) (ρ : Ev) : FR := if r.s = .imm ∨ r.s = .own then (match outsE md ρ with
  | some ms => .ok r ms
  | none => .bad) else .bad
def fnD (n : Nat) (md : List Md) (b : Stx) : Fn := fun ds => match b (entE md ds n) with
  | .bad => .bad
  | .next ρ => exitE md ⟨.imm, .none⟩ ρ
  | .ret r ρ => exitE md r ρ
  | .exc c fs ρ => (match outsE md ρ with
    | some ms => .exc c fs ms
    | none => .bad)
section
variable {K : PySem.W.Frag} {Z H : Hp}
theorem slots_none : ∀ n : Nat, Slots K Z O H (List.replicate n none) (List.replicate n none) []
  | 0 => .nil
  | n + 1 => by rw [List.replicate_succ, List.replicate_succ]; exact .non (slots_none n)
theorem ent_slots {Fm : List Addr} (tz : ∀ a o, H a = some o → fzn o = true → Z a = some o) : ∀ {md : List Md} {vs : List V} {ds : List D} {F : List Addr} (n : Nat), Args K Z (without H Fm) H md vs ds F → vs.length ≤ n → Slots K Z (without H Fm) H (vs.map some ++ List.replicate (n - vs.length) none) (entE md ds n) F
  | [], [], [], _, n, .nil, _ => by
    show Slots K Z (without H Fm) H ([] ++ List.replicate (n - 0) none) (List.replicate n none) []
    rw [List.nil_append, Nat.sub_zero]
    exact slots_none n
  | .i :: md, v :: vs, d :: ds, F, n + 1, .i r a, h => by
    have ih := ent_slots tz n a (by simpa using h)
    have e : n + 1 - (v :: vs).length = n - vs.length := by simp
    rw [e]
    exact .val (F := []) (.inl ⟨r, rfl⟩) ih
  | .v :: md, v :: vs, d :: ds, F, n + 1, .v r a, h => by
    have ih := ent_slots tz n a (by simpa using h)
    have e : n + 1 - (v :: vs).length = n - vs.length := by simp
    rw [e]
    refine .val (F := []) (r := entR .v d) ?_ ih
    by_cases l : lf d = true
    · rw [entR_t l]
      exact .inl ⟨(r.mono (fun a o q => (without_some q).1)).up tz l, rfl⟩
    · rw [entR_f l]
      exact .inl ⟨r, rfl⟩
  | .m :: md, v :: vs, d :: ds, _, n + 1, .m r a, h => by
    have ih := ent_slots tz n a (by simpa using h)
    have e : n + 1 - (v :: vs).length = n - vs.length := by simp
    rw [e]
    exact .val (r := entR .m d) (.inl r) ih
  | .i :: _, _ :: _, _ :: _, _, 0, .i _ _, h => by simp at h
  | .v :: _, _ :: _, _ :: _, _, 0, .v _ _, h => by simp at h
  | .m :: _, _ :: _, _ :: _, _, 0, .m _ _, h => by simp at h
theorem ent_nov : ∀ (md : List Md) (ds : List D) (n : Nat), nov (entE md ds n) = true
  | m :: md, d :: ds, n => by
    show (_ && nov (entE md ds (n - 1))) = true
    rw [ent_nov md ds (n - 1), Bool.and_true]
    cases m with
    | i => rfl
    | m => rfl
    | v =>
      by_cases l : lf d = true
      · rw [entR_t l]
      · rw [entR_f l]
  | [], _, n => by
    unfold entE nov
    rw [List.all_replicate]
    by_cases h : n = 0
    · simp [h]
    · simp [h]
  | _ :: _, [], n => by
    unfold entE nov
    rw [List.all_replicate]
    by_cases h : n = 0
    · simp [h]
    · simp [h]
theorem ent_brw : ∀ {md : List Md} {ds : List D} {n : Nat} {j : Nat}, md[j]? = some .m → j < ds.length → ∃ d, (entE md ds n)[j]? = some (some (R.mk .brw d))
  | m :: md, d :: ds, n, 0, h, _ => by
    simp at h
    subst h
    exact ⟨d, rfl⟩
  | m :: md, d :: ds, n, j + 1, h, hl => by
    obtain ⟨d', h'⟩ := ent_brw (md := md) (ds := ds) (n := n - 1) (j := j) (by simpa using h) (by simpa using hl)
    exact ⟨d', by simpa [entE] using h'⟩
  | [], _, _, _, h, _ => by simp at h
  | _ :: _, [], _, _, _, hl => by simp at hl
theorem Args.lens : ∀ {Hv : Hp} {md : List Md} {vs : List V} {ds : List D} {F : List Addr}, Args K Z Hv H md vs ds F → ds.length = md.length ∧ vs.length = md.length
  | _, _, _, _, _, .nil => ⟨rfl, rfl⟩
  | _, _, _, _, _, .i _ a => ⟨congrArg (· + 1) a.lens.1, congrArg (· + 1) a.lens.2⟩
  | _, _, _, _, _, .v _ a => ⟨congrArg (· + 1) a.lens.1, congrArg (· + 1) a.lens.2⟩
  | _, _, _, _, _, .m _ a => ⟨congrArg (· + 1) a.lens.1, congrArg (· + 1) a.lens.2⟩
theorem outs_of {O : Hp} : ∀ {md : List Md} {vs : List V} {σ : List (Option V)} {ρ : Ev} {F : List Addr} {ms : List D}, Slots K Z O H σ ρ F → vs.length = md.length → (∀ (j : Nat) (v : V), md[j]? = some Md.m → vs[j]? = some v → σ[j]? = some (some v)) → outsE md ρ = some ms →
    ∃ Fm, Outs K Z H md vs ms Fm ∧ Fm.Sublist F
  | [], [], σ, ρ, F, ms, _, _, _, e => by
    cases e
    exact ⟨[], .nil, List.nil_sublist _⟩
  | .i :: md, v :: vs, _, _, F, ms, .non s, hl, h, e => by
    obtain ⟨Fm, o, sb⟩ := outs_of (md := md) (vs := vs) s (by simpa using hl) (fun j w h1 h2 => by simpa using h (j + 1) w (by simpa using h1) (by simpa using h2)) e
    exact ⟨Fm, .i o, sb⟩
  | .i :: md, v :: vs, _, _, _, ms, .val r s, hl, h, e => by
    obtain ⟨Fm, o, sb⟩ := outs_of (md := md) (vs := vs) s (by simpa using hl) (fun j w h1 h2 => by simpa using h (j + 1) w (by simpa using h1) (by simpa using h2)) e
    exact ⟨Fm, .i o, sb.trans (List.sublist_append_right _ _)⟩
  | .v :: md, v :: vs, _, _, F, ms, .non s, hl, h, e => by
    obtain ⟨Fm, o, sb⟩ := outs_of (md := md) (vs := vs) s (by simpa using hl) (fun j w h1 h2 => by simpa using h (j + 1) w (by simpa using h1) (by simpa using h2)) e
    exact ⟨Fm, .v o, sb⟩
  | .v :: md, v :: vs, _, _, _, ms, .val r s, hl, h, e => by
    obtain ⟨Fm, o, sb⟩ := outs_of (md := md) (vs := vs) s (by simpa using hl) (fun j w h1 h2 => by simpa using h (j + 1) w (by simpa using h1) (by simpa using h2)) e
    exact ⟨Fm, .v o, sb.trans (List.sublist_append_right _ _)⟩
  | .m :: md, v :: vs, _, _, F, ms, .non s, hl, h, e => by cases e
  | .m :: md, v :: vs, some x :: σ, some ⟨sx, d⟩ :: ρ, _, ms, .val r s, hl, h, e => by
    cases sx with
    | brw =>
      unfold outsE at e
      cases e2 : outsE md ρ with
      | none => rw [e2] at e; cases e
      | some ds =>
        rw [e2] at e
        cases e
        obtain ⟨Fm, o, sb⟩ := outs_of (md := md) (vs := vs) s (by simpa using hl) (fun j w h1 h2 => by simpa using h (j + 1) w (by simpa using h1) (by simpa using h2)) e2
        have hx : x = v := by
          have := h 0 v rfl rfl
          simpa using this
        subst hx
        exact ⟨_, .m (RepS.rep r nofun) o, List.Sublist.append (List.Sublist.refl _) sb⟩
    | _ => cases e
  | .i :: _, _ :: _, [], [], _, _, .nil, _, _, e => by cases e
  | .v :: _, _ :: _, [], [], _, _, .nil, _, _, e => by cases e
  | .m :: _, _ :: _, [], [], _, _, .nil, _, _, e => by cases e
  | [], _ :: _, _, _, _, _, _, hl, _, _ => by simp at hl
  | _ :: _, [], _, _, _, _, _, hl, _, _ => by simp at hl
end
section
variable {P : Program} {w : World} {K : PySem.W.Frag} {mg : Str → Option Value} {base : Heap} {x qual : Str} {params : Arguments} {body : List Stmt} {scope : Scope} {f : Addr} {fd : FuncData}
theorem fnd_okC {CX : CXT} {N ps : List Str} {k : Nat} {sp : Sp} (F : FunD K x qual params body scope [] [] f fd) (S : FnScope N ps scope) (len : ∀ vs H Q E, sp vs H Q E → vs.length = ps.length)
    (hbody : ∀ (A : Around) (outer : List Env) (s : Shared) (H : Hp) (vs : List V) (Q : VK) (E : XK), Room k (A.deeper (envOfC qual scope s.heap.objs.size f fd.code)) → sp vs H Q E →
      ∃ t, PSs (cxOf CX P w K mg base N qual scope f fd.code A outer s H E) body t ∧ t { nx := fun _ H' => Q .non H', rt := Q } (start N vs) H) : FnOk P w K mg base CX (k + 1) f fd ps sp := by
  obtain ⟨oc, od, dV, kV, doc, pm, an, cdv, ct, osl, rfl, lk, hcd, _, _⟩ := F.ex
  exact fn_of lk hcd S len fun A outer s H vs Q E hr hsp => hbody A outer s H vs Q E hr hsp
/-- what a def's body is to meet -/
theorem body_t {N : List Str} {md : List Md} {b : Stx} {vs : List V} {H : Hp} {Q : VK} {E : XK} (hN : md.length ≤ N.length) (h : spF K md (fnD N.length md b) vs H Q E) : tS K E b { nx := fun _ H' => Q .non H', rt := Q } (start N vs) H := by
  obtain ⟨lv, Z, ds, Fm, zh, ntz, tb, tz, ar, nd, zf, post⟩ := h
  have rl : Rel K Z (without H Fm) H (start N vs) (entE md ds N.length) Fm := by
    refine ⟨⟨fun a o h => ?_, fun a o h => (without_some h).1, tz, without_noT H Fm⟩, nd, fun a ha => ?_, ent_slots tz N.length ar (by rw [lv]; exact hN), tb⟩
    · unfold without
      rw [if_neg (fun q => by rw [zf a q] at h; cases h), zh a o h]
      exact noTb_of fun ps e => ntz a ps (by rw [h, e])
    · unfold without
      rw [if_pos ha]
  refine ⟨Z, without H Fm, _, Fm, rl, ent_nov _ _ _, ?_⟩
  have post2 : PostF K md vs Z H Fm Q E (match b (entE md ds N.length) with
    | .bad => .bad
    | .next ρ => exitE md ⟨.imm, .none⟩ ρ
    | .ret r ρ => exitE md r ρ
    | .exc c fs ρ => (match outsE md ρ with
      | some ms => .exc c fs ms
      | none => .bad)) := post
  -- the borrowed ones, behind
  have outs : ∀ {σ' : St} {ρ' : Ev} {H' Z' O' : Hp} {F' : List Addr} {ms : List D}, Rel K Z' O' H' σ' ρ' F' → TrS Z (without H Fm) H (start N vs) (entE md ds N.length) Fm Z' O' H' σ' ρ' F' → outsE md ρ' = some ms → ∃ F2, Outs K Z' H' md vs ms F2 ∧ F2.Sublist F' := fun {σ' ρ' H' Z' O' F' ms} rl' tr e => by
    refine outs_of rl'.sl lv (fun j v h1 h2 => ?_) e
    obtain ⟨hj, _⟩ := List.getElem?_eq_some_iff.mp h1
    obtain ⟨d, h3⟩ := ent_brw (ds := ds) (n := N.length) h1 (by rw [ar.lens.1]; exact hj)
    rw [(tr.brw j d h3).1]
    unfold L2.start
    rw [List.getElem?_append_left (by rw [List.length_map]; exact (List.getElem?_eq_some_iff.mp h2).1), List.getElem?_map, h2]
    rfl
  have exit : ∀ {r : R} {ρ' : Ev} {v : V} {σ' : St} {H' Z' O' : Hp} {F' G : List Addr}, PostF K md vs Z H Fm Q E (exitE md r ρ') → Rel K Z' O' H' σ' ρ' F' → RepR K Z' O' H' v r G → (F' ++ G).Nodup → (∀ a ∈ G, O' a = none) → Tr Z H Fm Z' H' (F' ++ G) →
      TrS Z (without H Fm) H (start N vs) (entE md ds N.length) Fm Z' O' H' σ' ρ' F' → Q v H' := fun {r ρ' v σ' H' Z' O' F' G} p rl' q nd' fo t tr => by
    unfold exitE at p
    by_cases c : r.s = .imm ∨ r.s = .own
    · rw [if_pos c] at p
      cases e : outsE md ρ' with
      | none => rw [e] at p; exact p.elim
      | some ms =>
        rw [e] at p
        obtain ⟨F2, o, sb⟩ := outs rl' tr e
        have sb2 : (F2 ++ G).Sublist (F' ++ G) := List.Sublist.append sb (List.Sublist.refl _)
        refine p v H' Z' F2 G ⟨⟨t.z, t.keep, t.zn, fun a ha => t.fn a (sb2.subset ha), t.fr, t.tab⟩, rl'.g.zh, rl'.g.tz, nd'.sublist sb2, fun a ha => ?_, rl'.g.ntz, rl'.tb, o⟩ c (RetR.move q c)
        rcases List.mem_append.mp ha with ha | ha
        · exact rl'.g.zo.free (rl'.fo a (sb.subset ha))
        · exact rl'.g.zo.free (fo a ha)
    · rw [if_neg c] at p
      exact p.elim
  cases e : b (entE md ds N.length) with
  | bad => rw [e] at post2; exact post2.elim
  | next ρ' =>
    rw [e] at post2
    intro σ' H' Z' O' F' rl' n' tr
    refine exit post2 rl' (G := []) ⟨.non, rfl⟩ (by rw [List.append_nil]; exact rl'.nd) (fun a ha => by cases ha) ?_ tr
    rw [List.append_nil]
    exact tr.tr
  | ret r ρ' =>
    rw [e] at post2
    intro v σ' H' Z' O' F' G rl' q nd' fo t tr
    exact exit post2 rl' q nd' fo t tr
  | exc c fs ρ' =>
    rw [e] at post2
    intro σ' H' Z' O' F' d xs rl' tr hd e1 e2
    have p2 : PostF K md vs Z H Fm Q E (match outsE md ρ' with
      | some ms => .exc c fs ms
      | none => .bad) := post2
    cases eo : outsE md ρ' with
    | none => rw [eo] at p2; exact p2.elim
    | some ms =>
      rw [eo] at p2
      obtain ⟨F2, o, sb⟩ := outs rl' tr eo
      refine p2 H' Z' F2 d xs ⟨⟨tr.tr.z, tr.tr.keep, tr.tr.zn, fun a ha => ?_, tr.tr.fr, tr.tr.tab⟩, rl'.g.zh, rl'.g.tz, ?_, fun a ha => ?_, rl'.g.ntz, rl'.tb, o⟩ hd e1 e2
      · rw [List.append_nil] at ha
        exact tr.tr.fn a (sb.subset ha)
      · rw [List.append_nil]
        exact rl'.nd.sublist sb
      · rw [List.append_nil] at ha
        exact rl'.g.zo.free (rl'.fo a (sb.subset ha))
theorem fn_bodyC {CX : CXT} {N ps : List Str} {k : Nat} {md : List Md} {b : Stx} (F : FunD K x qual params body scope [] [] f fd) (S : FnScope N ps scope) (hl : md.length = ps.length) (hN : md.length ≤ N.length)
    (B : ∀ (A : Around) (outer : List Env) (s : Shared) (H : Hp) (E : XK), Room k (A.deeper (envOfC qual scope s.heap.objs.size f fd.code)) → PSs (cxOf CX P w K mg base N qual scope f fd.code A outer s H E) body (tS K E b)) :
    FnOk P w K mg base CX (k + 1) f fd ps (spF K md (fnD N.length md b)) := by
  exact fnd_okC F S (fun vs H Q E h => h.1.trans hl) fun A outer s H vs Q E hr h => ⟨_, B A outer s H E hr, body_t hN h⟩
theorem fn_body {CX : CXT} {N ps : List Str} {k : Nat} {md : List Md} {b : Stx} (F : FunD K x qual params body scope [] [] f fd) (S : FnScope N ps scope) (hl : md.length = ps.length) (hN : md.length ≤ N.length)
    (B : ∀ (cdv : Value) (A : Around) (outer : List Env) (s : Shared) (H : Hp) (E : XK), Room k (A.deeper (envOfC qual scope s.heap.objs.size f cdv)) → PSs (cxOf CX P w K mg base N qual scope f cdv A outer s H E) body (tS K E b)) :
    FnOk P w K mg base CX (k + 1) f fd ps (spF K md (fnD N.length md b)) := fn_bodyC F S hl hN fun A outer s H E hr => B fd.code A outer s H E hr

end
end Oz

namespace Oz
open PySem PySem.Spec L2
open PyProof.Rows hiding St
variable [WD]

/-! ### what is walked -/
/-- J walks the results rs from this state on, whatever happens to F0 -/
def Wlk (K : PySem.W.Frag) (J : It) (rs : List R) (Z0 O0 H0 : Hp) (F0 : List Addr) : Prop := ∀ Z O H, Good Z O H → Same Z0 Z → Same O0 O → (∀ a o, H0 a = some o → a ∉ F0 → (∀ ps, o ≠ .tbl ps) → H a = some o) → ∀ i, i ≤ rs.length →
  (i = rs.length → J.stop i H) ∧ ∀ r, rs[i]? = some r → J.go i H ∧ ∀ x H', J.yld i H x H' → ∃ Z' O', Ext [] Z O H Z' O' H' ∧ Good Z' O' H' ∧ RepR K Z' O' H' x r []
abbrev Src := Ev → Res (List R)
/-- sg: a source whose items are to outlast what the body does -/
def IOk (K : PySem.W.Frag) (E : XK) (w : TI) (src : Src) : Prop := ∀ (σ : St) (H : Hp) (R : It → Hp → Prop), (∃ Z O ρ F, Rel K Z O H σ ρ F ∧ match src ρ with
  | .bad => False
  | .exc c fs => ExcK K E Z O H c fs
  | .ok rs => ∀ J H' Z' O', Ext [] Z O H Z' O' H' → Good Z' O' H' → Wlk K J rs Z' O' H' F → R J H') → w σ H R
/-- for a comprehension: nothing changes meanwhile -/
def IOc (K : PySem.W.Frag) (E : XK) (w : TI) (src : Src) : Prop := ∀ (σ : St) (H : Hp) (R : It → Hp → Prop), (∃ Z O ρ F, Rel K Z O H σ ρ F ∧ match src ρ with
  | .bad => False
  | .exc c fs => ExcK K E Z O H c fs
  | .ok rs => ∀ J H' Z' O', Ext [] Z O H Z' O' H' → Good Z' O' H' → Wlk K J rs Z' O' H' [] → R J H') → w σ H R
theorem Wlk.less {K : PySem.W.Frag} {J : It} {rs : List R} {Z O H : Hp} {F : List Addr} (h : Wlk K J rs Z O H F) : Wlk K J rs Z O H [] := fun Z1 O1 H1 g ez eo k i hi => h Z1 O1 H1 g ez eo (fun a o q _ => k a o q (by simp)) i hi
theorem IOk.c {K : PySem.W.Frag} {E : XK} {w : TI} {src : Src} (h : IOk K E w src) : IOc K E w src := fun σ H R q => by
  obtain ⟨Z, O, ρ, F, rl, q⟩ := q
  refine h σ H R ⟨Z, O, ρ, F, rl, ?_⟩
  cases e : src ρ with
  | bad => rw [e] at q; exact q
  | exc c fs => rw [e] at q; exact q
  | ok rs => rw [e] at q; exact fun J H' Z' O' x g w => q J H' Z' O' x g w.less

/-! ### lists and tuples -/
def iSeq (K : PySem.W.Frag) (tl : TE) : TI := fun σ H R => tl σ H fun x H1 => ∃ a, x = .ref a ∧ (((∃ xs, SqL K H1 a xs) ∧ R (Itl K a) H1) ∨ ((∃ xs, SqT K H1 a xs) ∧ R (Itt K a) H1))
theorem pi_seq {X : Cx} {tg l : Expr} {tl : TE} (hl : PE X l tl) : PI X tg l (iSeq X.K tl) := by
  refine ⟨fun pins s σ H R I h => ?_⟩
  refine thn (hl.run pins s σ H _ I h) fun v s1 ⟨x, H1, I1, r1, q1⟩ => ?_
  obtain ⟨a, e, q1⟩ := q1
  subst e
  cases r1
  rcases q1 with ⟨⟨xs, hq⟩, q⟩ | ⟨⟨xs, hq⟩, q⟩
  · obtain ⟨its, rv, p, hz⟩ := I1.list hq
    refine wpAny_pyIter_list p.isList ?_
    refine ⟨s1.heap.objs.size, [s1.heap.objs.size], _, _, H1, rfl, I1.kept (t' := s1.toks) fun b o e => Heap.get?_push_of_some _ e, turn_list a _, ⟨_, Heap.get?_push_size _ rfl, rfl, rfl⟩, fun b hb => ?_, q⟩
    have e : b = s1.heap.objs.size := by simpa using hb
    subst e
    exact I1.fpOk (Nat.le_refl _) (I1.hok.fresh (Nat.le_refl _))
  · obtain ⟨its, rv, p, hz⟩ := I1.tuple hq
    refine wpAny_pyIter_tuple (show s1.heap.IsTuple a its.toArray from p) ?_
    refine ⟨s1.heap.objs.size, [s1.heap.objs.size], _, _, H1, rfl, I1.kept (t' := s1.toks) fun b o e => Heap.get?_push_of_some _ e, turn_tuple a _, ⟨_, Heap.get?_push_size _ rfl, rfl, rfl⟩, fun b hb => ?_, q⟩
    have e : b = s1.heap.objs.size := by simpa using hb
    subst e
    exact I1.fpOk (Nat.le_refl _) (I1.hok.fresh (Nat.le_refl _))
def srcR (r : R) : Res (List R) := match itemsD r.d with
  | some ds => .ok (ds.map (sub r.s))
  | none => .bad
/-- for a for: what one looks at only may change -/
def srcS (p : Px) : Src := fun ρ => (p ρ).bind fun r => if r.s = .view then .bad else srcR r
def srcC (p : Px) : Src := fun ρ => (p ρ).bind srcR
section
variable {K : PySem.W.Frag} {E : XK} {Z O H Z' O' H' : Hp} {F G : List Addr}
/-- a result stands while others change -/
theorem RepR.stay {v : V} {r : R} (h : RepR K Z O H v r G) (ez : Same Z Z') (eo : Same O O') (k : ∀ a o, H a = some o → a ∉ F → (∀ ps, o ≠ .tbl ps) → H' a = some o) (dj : ∀ a ∈ G, a ∉ F) (nv : r.s = .view → F = []) : RepR K Z' O' H' v r G := by
  by_cases e : r.s = .view
  · have ef := nv e
    subst ef
    exact h.sameM ez eo fun a o q n => k a o q (by simp) n
  · exact h.keep e ez eo fun a ha o q n => k a o q (dj a ha) n
theorem sub_rep {s : Sx} {d : D} {v : V} (g : Good Z O H) (rv : Rep K H v d) (ri : s = .imm → Rep K Z v d) (ro : s = .out → Rep K O v d) : RepR K Z O H v (Oz.sub s d) [] := by
  unfold Oz.sub
  by_cases l : lf d = true
  · rw [if_pos l]
    exact ⟨rv.up g.tz l, rfl⟩
  · rw [if_neg l]
    cases s with
    | imm => exact ⟨ri rfl, rfl⟩
    | out => exact ⟨ro rfl, rfl⟩
    | view => exact ⟨rv, rfl⟩
    | own => exact ⟨rv, rfl⟩
    | brw => exact ⟨rv, rfl⟩
    | tab => exact ⟨rv, rfl⟩
/-- the items of a row -/
theorem RepR.items {v : V} {r : R} {ds : List D} (g : Good Z O H) (h : RepR K Z O H v r G) (e : itemsD r.d = some ds) :
    ∃ a xs, v = .ref a ∧ ((r.d = .list ds ∧ H a = some (.lst xs)) ∨ (r.d = .tuple ds ∧ SqT K H a xs)) ∧ xs.length = ds.length ∧
      ∀ (i : Nat) (d : D), ds[i]? = some d → ∃ x, xs[i]? = some x ∧ RepR K Z O H x (Oz.sub r.s d) [] := by
  obtain ⟨s, d⟩ := r
  have lk := h.look g
  rcases items_kind e with e1 | e1
  · have e2 : d = .list ds := e1
    subst e2
    cases lk with
    | lst hh rr =>
      refine ⟨_, _, rfl, .inl ⟨rfl, hh⟩, rr.length, fun i d hd => ?_⟩
      obtain ⟨x, hx, rx⟩ := rr.get hd
      refine ⟨x, hx, sub_rep g rx (fun es => ?_) fun es => ?_⟩
      · obtain ⟨p1, v1, z1, z2, z3⟩ := h.zlist es
        cases z1
        have u := g.zh _ _ z2
        rw [hh] at u
        cases u
        obtain ⟨x', hx', rx'⟩ := z3.get hd
        rw [hx] at hx'
        cases hx'
        exact rx'
      · subst es
        obtain ⟨h1, _⟩ := h
        have h2 : Rep K O _ (.list ds) := h1
        cases h2 with
        | lst ho ro =>
          have u := g.oh _ _ ho
          rw [hh] at u
          cases u
          obtain ⟨x', hx', rx'⟩ := ro.get hd
          rw [hx] at hx'
          cases hx'
          exact rx'
  · have e2 : d = .tuple ds := e1
    subst e2
    by_cases es : s = .imm
    · obtain ⟨p1, v1, z1, z2, z3⟩ := h.ztup es
      refine ⟨p1, v1, z1, .inr ⟨rfl, Same.seqT g.zh z2⟩, z3.length, fun i d hd => ?_⟩
      obtain ⟨x, hx, rx⟩ := z3.get hd
      exact ⟨x, hx, sub_rep g (rx.mono g.zh) (fun _ => rx) fun e2 => by rw [es] at e2; cases e2⟩
    · by_cases eo : s = .out
      · subst eo
        obtain ⟨h1, _⟩ := h
        have h2 : Rep K O v (.tuple ds) := h1
        cases h2 with
        | tup ho ro =>
          refine ⟨_, _, rfl, .inr ⟨rfl, Same.seqT g.oh ho⟩, ro.length, fun i d hd => ?_⟩
          obtain ⟨x, hx, rx⟩ := ro.get hd
          exact ⟨x, hx, sub_rep g (rx.mono g.oh) (fun e2 => by cases e2) fun _ => rx⟩
      · cases lk with
        | tup hh rr =>
          refine ⟨_, _, rfl, .inr ⟨rfl, hh⟩, rr.length, fun i d hd => ?_⟩
          obtain ⟨x, hx, rx⟩ := rr.get hd
          exact ⟨x, hx, sub_rep g rx (fun e2 => absurd e2 es) fun e2 => absurd e2 eo⟩
theorem wlk_list {a : Addr} {r : R} {ds : List D} (h : RepR K Z O H (.ref a) r G) (e : r.d = .list ds) (dj : ∀ c ∈ G, c ∉ F) (nv : r.s = .view → F = []) : Wlk K (Itl K a) (ds.map (Oz.sub r.s)) Z O H F := by
  intro Z1 O1 H1 g ez eo k i hi
  have h1 := h.stay ez eo k dj nv
  obtain ⟨b, xs, eb, hk, hl, it⟩ := h1.items g (show itemsD r.d = some ds by rw [e]; rfl)
  cases eb
  rcases hk with ⟨_, hx⟩ | ⟨z, _⟩
  · refine ⟨fun ei => ⟨xs, .inl (.inl hx), by rw [hl, ei, List.length_map]; exact Nat.le_refl _⟩, fun rr hr => ?_⟩
    rw [List.getElem?_map] at hr
    cases hd : ds[i]? with
    | none => rw [hd] at hr; cases hr
    | some d =>
      rw [hd] at hr
      cases hr
      obtain ⟨x, h2, h3⟩ := it i d hd
      refine ⟨⟨xs, x, .inl (.inl hx), h2⟩, fun y H' hy => ?_⟩
      obtain ⟨rfl, hy⟩ := hy
      have := hy xs (.inl (.inl hx))
      rw [h2] at this
      cases this
      exact ⟨Z1, O1, Ext.refl _ _ _ _, g, h3⟩
  · rw [e] at z; cases z
theorem wlk_tup {a : Addr} {r : R} {ds : List D} (h : RepR K Z O H (.ref a) r G) (e : r.d = .tuple ds) (dj : ∀ c ∈ G, c ∉ F) (nv : r.s = .view → F = []) : Wlk K (Itt K a) (ds.map (Oz.sub r.s)) Z O H F := by
  intro Z1 O1 H1 g ez eo k i hi
  have h1 := h.stay ez eo k dj nv
  obtain ⟨b, xs, eb, hk, hl, it⟩ := h1.items g (show itemsD r.d = some ds by rw [e]; rfl)
  cases eb
  rcases hk with ⟨z, _⟩ | ⟨_, hx⟩
  · rw [e] at z; cases z
  · refine ⟨fun ei => ⟨xs, hx, by rw [hl, ei, List.length_map]; exact Nat.le_refl _⟩, fun rr hr => ?_⟩
    rw [List.getElem?_map] at hr
    cases hd : ds[i]? with
    | none => rw [hd] at hr; cases hr
    | some d =>
      rw [hd] at hr
      cases hr
      obtain ⟨x, h2, h3⟩ := it i d hd
      refine ⟨⟨xs, x, hx, h2⟩, fun y H' hy => ?_⟩
      obtain ⟨rfl, hy⟩ := hy
      have := hy xs hx
      rw [h2] at this
      cases this
      exact ⟨Z1, O1, Ext.refl _ _ _ _, g, h3⟩
/-- the walk of a row, from where it stands -/
theorem seq_walk {v : V} {r : R} {ds : List D} (g : Good Z O H) (h : RepR K Z O H v r G) (e : itemsD r.d = some ds) (dj : ∀ c ∈ G, c ∉ F) (nv : r.s = .view → F = []) {R : It → Hp → Prop} (q : ∀ J, Wlk K J (ds.map (Oz.sub r.s)) Z O H F → R J H) :
    ∃ a, v = .ref a ∧ (((∃ xs, SqL K H a xs) ∧ R (Itl K a) H) ∨ ((∃ xs, SqT K H a xs) ∧ R (Itt K a) H)) := by
  obtain ⟨a, xs, ea, hk, hl, it⟩ := h.items g e
  subst ea
  rcases hk with ⟨e1, hx⟩ | ⟨e1, hx⟩
  · exact ⟨a, rfl, .inl ⟨⟨xs, .inl (.inl hx)⟩, q _ (wlk_list h e1 dj nv)⟩⟩
  · exact ⟨a, rfl, .inr ⟨⟨xs, hx⟩, q _ (wlk_tup h e1 dj nv)⟩⟩
end
theorem srcR_some {r : R} {rs : List R} (h : srcR r = .ok rs) : ∃ ds, itemsD r.d = some ds ∧ rs = ds.map (sub r.s) := by
  unfold srcR at h
  cases e : itemsD r.d with
  | none => rw [e] at h; cases h
  | some ds => rw [e] at h; cases h; exact ⟨ds, rfl, rfl⟩
section
variable {K : PySem.W.Frag} {E : XK}
theorem srcS_ok {p : Px} : IOk K E (iSeq K (tP K E p)) (srcS p) := fun σ H R q => by
  obtain ⟨Z, O, ρ, F, rl, q⟩ := q
  refine ⟨Z, O, ρ, F, rl, ?_⟩
  unfold srcS at q
  cases e : p ρ with
  | bad => rw [e] at q; exact q.elim
  | exc c fs => rw [e] at q; exact q
  | ok r =>
    rw [e] at q
    have q2 : match (if r.s = .view then (.bad : Res (List Oz.R)) else srcR r) with
      | .bad => False
      | .exc c fs => ExcK K E Z O H c fs
      | .ok rs => ∀ J H' Z' O', Ext [] Z O H Z' O' H' → Good Z' O' H' → Wlk K J rs Z' O' H' F → R J H' := q
    by_cases c : r.s = .view
    · rw [if_pos c] at q2; exact q2.elim
    · rw [if_neg c] at q2
      intro v H1 Z1 O1 G x g w nd fr
      cases e2 : srcR r with
      | bad => rw [e2] at q2; exact q2.elim
      | exc c fs => unfold srcR at e2; cases e3 : itemsD r.d <;> rw [e3] at e2 <;> cases e2
      | ok rs =>
        rw [e2] at q2
        obtain ⟨ds, e3, rfl⟩ := srcR_some e2
        refine seq_walk (F := F) g w e3 (fun a ha z => ?_) (fun z => absurd z c) fun J wl => q2 J H1 Z1 O1 x g wl
        obtain ⟨o, y, _⟩ := rl.sl.live a z
        rw [(fr a ha).1.elim id fun z => by cases z] at y
        cases y
theorem srcC_ok {p : Px} : IOc K E (iSeq K (tP K E p)) (srcC p) := fun σ H R q => by
  obtain ⟨Z, O, ρ, F, rl, q⟩ := q
  refine ⟨Z, O, ρ, F, rl, ?_⟩
  unfold srcC at q
  cases e : p ρ with
  | bad => rw [e] at q; exact q.elim
  | exc c fs => rw [e] at q; exact q
  | ok r =>
    rw [e] at q
    have q2 : match srcR r with
      | .bad => False
      | .exc c fs => ExcK K E Z O H c fs
      | .ok rs => ∀ J H' Z' O', Ext [] Z O H Z' O' H' → Good Z' O' H' → Wlk K J rs Z' O' H' [] → R J H' := q
    intro v H1 Z1 O1 G x g w nd fr
    cases e2 : srcR r with
    | bad => rw [e2] at q2; exact q2.elim
    | exc c fs => unfold srcR at e2; cases e3 : itemsD r.d <;> rw [e3] at e2 <;> cases e2
    | ok rs =>
      rw [e2] at q2
      obtain ⟨ds, e3, rfl⟩ := srcR_some e2
      exact seq_walk (F := []) g w e3 (fun a ha z => by cases z) (fun z => rfl) fun J wl => q2 J H1 Z1 O1 x g wl

/-! ### ranges -/
def irng (lo : Int) (n : Nat) : List R := (List.range n).map fun (k : Nat) => ⟨.imm, .int (lo + (k : Int))⟩
theorem wlk_range {Z O H : Hp} {F : List Addr} {lo : Int} {n : Nat} : Wlk K (Itr lo n) (irng lo n) Z O H F := by
  intro Z1 O1 H1 g ez eo k i hi
  have hl : (irng lo n).length = n := by unfold irng; simp
  refine ⟨fun ei => by show n ≤ i; omega, fun r hr => ?_⟩
  obtain ⟨hi2, er⟩ := List.getElem?_eq_some_iff.mp hr
  refine ⟨by show i < n; omega, fun x H' hy => ?_⟩
  obtain ⟨rfl, rfl⟩ := hy
  refine ⟨Z1, O1, Ext.refl _ _ _ _, g, ?_⟩
  have e : r = ⟨.imm, .int (lo + (i : Int))⟩ := by
    unfold irng at hr
    rw [List.getElem?_map, List.getElem?_range (by omega)] at hr
    exact (Option.some.inj hr).symm
  rw [e]
  exact ⟨.int _, rfl⟩
noncomputable def inR (i : Int) : Bool := gd (decide (-(2 ^ 62) ≤ i) && decide (i < 2 ^ 62))
theorem inR_eq {i : Int} : inR i = (decide (-(2 ^ 62) ≤ i) && decide (i < 2 ^ 62)) := gd_eq _
noncomputable def srcR1 (p : Px) : Src := fun ρ => (p ρ).bind fun r => match r.d with
  | .int j => if inR j = true then .ok (irng 0 j.toNat) else .bad
  | _ => .bad
noncomputable def srcR2 (p q : Px) : Src := fun ρ => (p ρ).bind fun a => (q ρ).bind fun b => match a.d, b.d with
  | .int i, .int j => if inR i = true ∧ inR j = true then .ok (irng i (j - i).toNat) else .bad
  | _, _ => .bad
theorem inR_ok {i : Int} (h : inR i = true) : -(2 ^ 62) ≤ i ∧ i < 2 ^ 62 := by
  rw [inR_eq] at h
  obtain ⟨h1, h2⟩ := Bool.and_eq_true_iff.mp h
  exact ⟨of_decide_eq_true h1, of_decide_eq_true h2⟩
theorem srcR1_ok {p : Px} : IOk K E (iRng1 (tA K E [p])) (srcR1 p) := fun σ H R q => by
  obtain ⟨Z, O, ρ, F, rl, q⟩ := q
  refine ⟨Z, O, ρ, F, rl, ?_⟩
  unfold srcR1 at q
  have ev : evs [p] ρ = (p ρ).bind fun r => .ok [r] := rfl
  rw [ev]
  cases e : p ρ with
  | bad => rw [e] at q; exact q.elim
  | exc c fs => rw [e] at q; exact q
  | ok r =>
    rw [e] at q
    obtain ⟨s, d⟩ := r
    cases d with
    | int j =>
      have q2 : match (if inR j = true then (.ok (irng 0 j.toNat) : Res (List Oz.R)) else .bad) with
        | .bad => False
        | .exc c fs => ExcK K E Z O H c fs
        | .ok rs => ∀ J H' Z' O', Ext [] Z O H Z' O' H' → Good Z' O' H' → Wlk K J rs Z' O' H' F → R J H' := q
      by_cases c : inR j = true
      · rw [if_pos c] at q2
        intro vs H1 Z1 O1 G x g w nd fr
        cases w with
        | cons w1 w2 =>
          cases w2
          have lk := w1.look g
          cases lk
          obtain ⟨h1, h2⟩ := inR_ok c
          exact ⟨j, rfl, h1, h2, q2 _ H1 Z1 O1 x g wlk_range⟩
      · rw [if_neg c] at q2; exact q2.elim
    | _ => exact q.elim
theorem srcR2_ok {p p' : Px} : IOk K E (iRng2 (tA K E [p, p'])) (srcR2 p p') := fun σ H R q => by
  obtain ⟨Z, O, ρ, F, rl, q⟩ := q
  refine ⟨Z, O, ρ, F, rl, ?_⟩
  unfold srcR2 at q
  have ev : evs [p, p'] ρ = (p ρ).bind fun r => (p' ρ).bind fun r' => .ok [r, r'] := by
    show ((p ρ).bind fun r => (((p' ρ).bind fun r' => (Res.ok [r'] : Res (List Oz.R))).bind fun rs => .ok (r :: rs))) = _
    congr 1
    funext r
    cases p' ρ <;> rfl
  rw [ev]
  cases e : p ρ with
  | bad => rw [e] at q; exact q.elim
  | exc c fs => rw [e] at q; exact q
  | ok r =>
    rw [e] at q
    show match (p' ρ).bind fun r' => (Res.ok [r, r'] : Res (List Oz.R)) with
      | .bad => False
      | .ok rs => OksK K Z O H rs _
      | .exc c fs => ExcK K E Z O H c fs
    cases e' : p' ρ with
    | bad => rw [e'] at q; exact q.elim
    | exc c fs => rw [e'] at q; exact q
    | ok r' =>
      rw [e'] at q
      obtain ⟨s, d⟩ := r
      obtain ⟨s', d'⟩ := r'
      cases d with
      | int i => cases d' with
        | int j =>
          have q2 : match (if inR i = true ∧ inR j = true then (.ok (irng i (j - i).toNat) : Res (List Oz.R)) else .bad) with
            | .bad => False
            | .exc c fs => ExcK K E Z O H c fs
            | .ok rs => ∀ J H' Z' O', Ext [] Z O H Z' O' H' → Good Z' O' H' → Wlk K J rs Z' O' H' F → R J H' := q
          by_cases c : inR i = true ∧ inR j = true
          · rw [if_pos c] at q2
            intro vs H1 Z1 O1 G x g w nd fr
            cases w with
            | cons w1 w2 =>
              cases w2 with
              | cons w2 w3 =>
                cases w3
                have lk := w1.look g
                have lk2 := w2.look g
                cases lk
                cases lk2
                obtain ⟨h1, h2⟩ := inR_ok c.1
                obtain ⟨h3, h4⟩ := inR_ok c.2
                exact ⟨i, j, rfl, ⟨h1, h2, h3, h4⟩, q2 _ H1 Z1 O1 x g wlk_range⟩
          · rw [if_neg c] at q2; exact q2.elim
        | _ => exact q.elim
      | _ => cases d' <;> exact q.elim
end
end Oz

namespace Oz
open PySem PySem.Spec L2
open PyProof.Rows hiding St
variable [WD]

/-! ### targets -/
abbrev Tgx := R → Ev → Option Ev
abbrev Tgxs := List R → Ev → Option Ev
/-- the frame behind a store -/
structure Stored (K : PySem.W.Frag) (Z O H : Hp) (σ : St) (ρ : Ev) (F G : List Addr) (σ' : St) (ρ' : Ev) (F' : List Addr) : Prop where
  rl : Rel K Z O H σ' ρ' F'
  nv : nov ρ' = true
  sub : ∀ a ∈ F', a ∈ F ∨ a ∈ G
  len : σ'.length = σ.length
  brw : ∀ (j : Nat) (d : D), ρ[j]? = some (some (R.mk .brw d)) → σ'[j]? = σ[j]? ∧ ∃ d', ρ'[j]? = some (some (R.mk .brw d'))
inductive Its0 (K : PySem.W.Frag) (Z O H : Hp) : List V → List R → Prop
  | nil : Its0 K Z O H [] []
  | cons {v : V} {vs : List V} {r : R} {rs : List R} : RepR K Z O H v r [] → Its0 K Z O H vs rs → Its0 K Z O H (v :: vs) (r :: rs)
def GOk (K : PySem.W.Frag) (t : TG) (tg : Tgx) : Prop := ∀ Z O H σ ρ F v r G ρ', Rel K Z O H σ ρ F → nov ρ = true → RepR K Z O H v r G → G.Nodup → (∀ a ∈ G, a ∉ F) → (∀ a ∈ G, O a = none) → tg r ρ = some ρ' →
  ∀ Q : St → Hp → Prop, (∀ σ' F', Stored K Z O H σ ρ F G σ' ρ' F' → Q σ' H) → t v σ H Q
def GsOk (K : PySem.W.Frag) (t : TGs) (tg : Tgxs) : Prop := ∀ Z O H σ ρ F vs rs ρ', Rel K Z O H σ ρ F → nov ρ = true → Its0 K Z O H vs rs → tg rs ρ = some ρ' →
  ∀ Q : St → Hp → Prop, (∀ σ' F', Stored K Z O H σ ρ F [] σ' ρ' F' → Q σ' H) → t vs σ H Q
def gN (i : Nat) : Tgx := fun r ρ => setS i r ρ
def gsN : Tgxs := fun rs ρ => match rs with
  | [] => some ρ
  | _ => none
def gsC (t : Tgx) (u : Tgxs) : Tgxs := fun rs ρ => match rs with
  | [] => none
  | r :: rs => (match t r ρ with
    | some ρ' => u rs ρ'
    | none => none)
def gT (n : Nat) (t : Tgxs) : Tgx := fun r ρ => match r.d with
  | .tuple ds => if ds.length = n then t (ds.map (sub r.s)) ρ else none
  | _ => none
section
variable {K : PySem.W.Frag}
theorem g_name {i : Nat} : GOk K (gName i) (gN i) := fun Z O H σ ρ F v r G ρ' rl n q nd dj fo e Q k => by
  obtain ⟨F', rl', n', sub, ln, bw⟩ := rl.set n q nd dj fo e
  exact k _ F' ⟨rl', n', sub, ln, bw⟩
theorem gs_nil : GsOk K gNil gsN := fun Z O H σ ρ F vs rs ρ' rl n q e Q k => by
  cases q with
  | nil => cases e; exact ⟨rfl, k σ F ⟨rl, n, fun a h => .inl h, rfl, fun j d h => ⟨rfl, d, h⟩⟩⟩
  | cons _ _ => cases e
theorem Stored.trans {Z O H : Hp} {σ σ1 σ2 : St} {ρ ρ1 ρ2 : Ev} {F F1 F2 : List Addr} (a : Stored K Z O H σ ρ F [] σ1 ρ1 F1) (b : Stored K Z O H σ1 ρ1 F1 [] σ2 ρ2 F2) : Stored K Z O H σ ρ F [] σ2 ρ2 F2 :=
  ⟨b.rl, b.nv, fun c h => (b.sub c h).elim (a.sub c) .inr, b.len.trans a.len, fun j d h => by
    obtain ⟨e1, d1, h1⟩ := a.brw j d h
    obtain ⟨e2, d2, h2⟩ := b.brw j d1 h1
    exact ⟨e2.trans e1, d2, h2⟩⟩
theorem gs_cons {t : TG} {u : TGs} {tg : Tgx} {ug : Tgxs} (h1 : GOk K t tg) (h2 : GsOk K u ug) : GsOk K (gCons t u) (gsC tg ug) := fun Z O H σ ρ F vs rs ρ' rl n q e Q k => by
  cases q with
  | nil => cases e
  | cons q1 q2 =>
    rename_i v vs r rs
    unfold gsC at e
    cases z : tg r ρ with
    | none => simp only [z] at e; cases e
    | some ρ1 =>
      simp only [z] at e
      exact ⟨v, vs, rfl, h1 Z O H σ ρ F v r [] ρ1 rl n q1 List.nodup_nil (fun a h => by cases h) (fun a h => by cases h) z _ fun σ1 F1 s1 =>
        h2 Z O H σ1 ρ1 F1 vs rs ρ' s1.rl s1.nv q2 e _ fun σ2 F2 s2 => k σ2 F2 (s1.trans s2)⟩
theorem RepR.unpack {Z O H : Hp} {v : V} {r : R} {G : List Addr} {ds : List D} (g : Good Z O H) (h : RepR K Z O H v r G) (e : r.d = .tuple ds) : ∃ a xs, v = .ref a ∧ SqT K H a xs ∧ xs.length = ds.length ∧ Its0 K Z O H xs (ds.map (Oz.sub r.s)) := by
  obtain ⟨a, xs, ea, hk, hl, it⟩ := h.items g (show itemsD r.d = some ds by rw [e]; rfl)
  rcases hk with ⟨z, _⟩ | ⟨-, hx⟩
  · rw [e] at z; cases z
  · refine ⟨a, xs, ea, hx, hl, ?_⟩
    clear hx e
    induction ds generalizing xs with
    | nil =>
      cases xs with
      | nil => exact .nil
      | cons _ _ => simp at hl
    | cons d ds ih =>
      cases xs with
      | nil => simp at hl
      | cons x xs =>
        obtain ⟨y, hy, ry⟩ := it 0 d rfl
        have ex : x = y := by simpa using hy
        subst ex
        exact .cons ry (ih xs (by simpa using hl) fun i d' h => by simpa using it (i + 1) d' (by simpa using h))
theorem g_tup {n : Nat} {t : TGs} {tg : Tgxs} (h : GsOk K t tg) : GOk K (gTup K n t) (gT n tg) := fun Z O H σ ρ F v r G ρ' rl nv q nd dj fo e Q k => by
  unfold gT at e
  obtain ⟨s, d⟩ := r
  cases d with
  | tuple ds =>
    have e2 : (if ds.length = n then tg (ds.map (Oz.sub s)) ρ else none) = some ρ' := e
    by_cases c : ds.length = n
    · rw [if_pos c] at e2
      obtain ⟨a, xs, ea, hx, hl, it⟩ := q.unpack rl.g rfl
      exact ⟨a, xs, ea, hx, hl.trans c, h Z O H σ ρ F xs _ ρ' rl nv it e2 Q fun σ' F' s' => k σ' F' ⟨s'.rl, s'.nv, (fun a ha => (s'.sub a ha).imp id fun z => by cases z), s'.len, s'.brw⟩⟩
    · rw [if_neg c] at e2; cases e2
  | _ => cases e
end
/-- a, b = e -/
def sAsgT (g : Tgx) (p : Px) : Stx := fun ρ => match p ρ with
  | .bad => .bad
  | .exc c fs => .exc c fs ρ
  | .ok r => (match g r ρ with
    | some ρ' => .next ρ'
    | none => .bad)
theorem s_asgT {X : Cx} {E : XK} {tg e : Expr} {p : Px} {t : TG} {g : Tgx} {pos : Pos} (he : PE X e (tP X.K E p)) (hg : PG X tg t) (gk : GOk X.K t g) (hs : swapsWithSole [tg] e pos.line X.env = pure false := by rfl) (hw : swappedStores [tg] e X.env = pure none := by rfl)
    (h1 : (assignEach [tg] X.env).map (·.2) = [assign tg X.env] := by rfl) : PS X (.Assign [tg] e pos) (tS X.K E (sAsgT g p)) := by
  refine (ps_asg he hg hs hw h1).imp fun D σ H h => ?_
  refine tS_expr (s := fun r ρ => match g r ρ with | some ρ' => .next ρ' | none => .bad) h fun Z0 O0 Z O H1 ρ F G v r rl n q nd dj fo fh tr h2 => ?_
  cases z : g r ρ with
  | none => rw [z] at h2; exact h2.elim
  | some ρ' =>
    rw [z] at h2
    refine gk Z O H1 σ ρ F v r G ρ' rl n q nd dj fo z _ fun σ' F' st => ?_
    exact h2 _ H1 Z O F' st.rl st.nv ⟨⟨tr.tr.z, tr.tr.keep, tr.tr.zn, fun a ha => (st.sub a ha).imp id (fh a), tr.tr.fr, tr.tr.tab⟩, tr.o, st.len, st.brw, tr.on⟩

/-! ### for -/
def loopS (g : Tgx) (b : Stx) : List R → Ev → SR
  | [], ρ => .next ρ
  | r :: rs, ρ => (match g r ρ with
    | none => .bad
    | some ρ1 => (match b ρ1 with
      | .next ρ2 => loopS g b rs ρ2
      | x => x))
def sFor (src : Src) (g : Tgx) (b : Stx) : Stx := fun ρ => match src ρ with
  | .bad => .bad
  | .exc c fs => .exc c fs ρ
  | .ok rs => loopS g b rs ρ
theorem s_for {X : Cx} {E : XK} {tg iter : Expr} {body : List Stmt} {w : TI} {src : Src} {t : TG} {g : Tgx} {b : Stx} {pos : Pos} (hp : PassesOwn (model X.prog X.w) X.A X.env X.xe) (hc : X.calm = true) (hi : PI X tg iter w) (ik : IOk X.K E w src) (hg : PG X tg t) (gk : GOk X.K t g)
    (hb : PSs X body (tS X.K E b)) (hs : ∀ x, foldedSetIterable iter X.env x = pure x := by exact fun _ => rfl) : PS X (.For tg iter body [] pos) (tS X.K E (sFor src g b)) := by
  refine (ps_for hp hc hi hg hb hs).imp fun D σ H h => ?_
  obtain ⟨Z, O, ρ, F, rl, n, h⟩ := h
  refine ik σ H _ ⟨Z, O, ρ, F, rl, ?_⟩
  unfold sFor at h
  cases e : src ρ with
  | bad => rw [e] at h; exact h.elim
  | exc c fs => rw [e] at h; exact SRK.exc rl h
  | ok rs =>
    rw [e] at h
    have h1 : SRK X.K E Z O H σ ρ F D.nx D.rt (loopS g b rs ρ) := h
    intro J H1 Z1 O1 x1 g1 wl
    -- what holds ahead of each turn
    refine ⟨fun i m σ' H' => m = rs.length - i ∧ i ≤ rs.length ∧ ∃ Z' O' ρ' F', Rel X.K Z' O' H' σ' ρ' F' ∧ nov ρ' = true ∧ TrS Z1 O1 H1 σ ρ F Z' O' H' σ' ρ' F' ∧ SRK X.K E Z' O' H' σ' ρ' F' D.nx D.rt (loopS g b (rs.drop i) ρ'),
      ⟨rs.length, by simp, Nat.zero_le _, Z1, O1, ρ, F, rl.ext x1 g1, n, TrS.refl _ _ _ _ _ _, SRK.from h1 (TrS.ext x1)⟩, ?_⟩
    rintro i m σ' H' ⟨em, hi', Z', O', ρ', F', rl', n', tr, sk⟩
    obtain ⟨w1, w2⟩ := wl Z' O' H' rl'.g tr.tr.z tr.o tr.tr.keep i hi'
    by_cases hlt : i < rs.length
    · obtain ⟨go, yl⟩ := w2 rs[i] (List.getElem?_eq_getElem hlt)
      have ed : rs.drop i = rs[i] :: rs.drop (i + 1) := List.drop_eq_getElem_cons hlt
      rw [ed] at sk
      refine .inr ⟨go, fun σ2 H2 => ∃ Z2 O2 ρ2 F2, Rel X.K Z2 O2 H2 σ2 ρ2 F2 ∧ nov ρ2 = true ∧ TrS Z1 O1 H1 σ ρ F Z2 O2 H2 σ2 ρ2 F2 ∧ SRK X.K E Z2 O2 H2 σ2 ρ2 F2 D.nx D.rt (loopS g b (rs.drop (i + 1)) ρ2),
        fun σ2 H2 ⟨Z2, O2, ρ2, F2, q1, q2, q3, q4⟩ => ⟨rs.length - (i + 1), by omega, rfl, hlt, Z2, O2, ρ2, F2, q1, q2, q3, q4⟩, fun x H2 hy => ?_⟩
      obtain ⟨Z2, O2, x2, g2, r2⟩ := yl x H2 hy
      have rl2 := rl'.ext x2 g2
      have tr2 := tr.trans (TrS.ext (σ := σ') (ρ := ρ') (F := F') x2)
      have sk2 := SRK.from sk (TrS.ext (σ := σ') (ρ := ρ') (F := F') x2)
      unfold loopS at sk2
      cases z : g rs[i] ρ' with
      | none => simp only [z] at sk2; exact sk2.elim
      | some ρ3 =>
        simp only [z] at sk2
        refine gk Z2 O2 H2 σ' ρ' F' x rs[i] [] ρ3 rl2 n' r2 List.nodup_nil (fun a h => by cases h) (fun a h => by cases h) z _ fun σ3 F3 st => ?_
        have ts : TrS Z2 O2 H2 σ' ρ' F' Z2 O2 H2 σ3 ρ3 F3 := ⟨⟨Same.refl _, fun a o q _ _ => q, fun a q => .inl q, fun a ha => (st.sub a ha).imp id fun z => (by cases z), fun a h => .inr h, fun a _ h => h⟩, Same.refl _, st.len, st.brw, fun a q => .inl q⟩
        refine ⟨Z2, O2, ρ3, F3, st.rl, st.nv, ?_⟩
        have sk3 := SRK.from sk2 ts
        have tr3 := tr2.trans ts
        cases y : b ρ3 with
        | bad => simp only [y] at sk3; exact sk3.elim
        | ret r ρ4 => simp only [y] at sk3; exact sk3
        | exc c fs ρ4 => simp only [y] at sk3; exact sk3
        | next ρ4 =>
          simp only [y] at sk3
          exact fun σ4 H4 Z4 O4 F4 rl4 n4 tr4 => ⟨Z4, O4, ρ4, F4, rl4, n4, tr3.trans tr4, SRK.from sk3 tr4⟩
    · have ei : i = rs.length := by omega
      refine .inl ⟨w1 ei, ?_⟩
      have ed : rs.drop i = [] := List.drop_eq_nil_of_le (by omega)
      rw [ed] at sk
      exact sk σ' H' Z' O' F' rl' n' (TrS.refl _ _ _ _ _ _)
end Oz

namespace Oz
open PySem PySem.Spec L2
open PyProof.Rows hiding St
variable [WD]

/-! ### the comprehension's own names -/
def wipeE (ρ : Ev) : List Nat → Ev
  | [] => ρ
  | v :: vs => (wipeE ρ vs).set v none
theorem wipe_in {σ : St} {i : Nat} : ∀ {vs : List Nat}, i ∈ vs → i < σ.length → (wipe σ vs)[i]? = some none
  | [], h, _ => by cases h
  | v :: vs, h, hl => by
    unfold wipe
    by_cases e : v = i
    · subst e
      rw [List.getElem?_set_self (by rw [wipe_length]; exact hl)]
    · rw [List.getElem?_set_ne e]
      rcases List.mem_cons.mp h with z | z
      · exact absurd z.symm e
      · exact wipe_in z hl
theorem wipe_set {σ : St} {i : Nat} {x : Option V} {vs : List Nat} (h : i ∈ vs) : wipe (σ.set i x) vs = wipe σ vs := by
  apply List.ext_getElem?
  intro j
  by_cases hj : j ∈ vs
  · by_cases hl : j < σ.length
    · rw [wipe_in hj hl, wipe_in hj (by rw [List.length_set]; exact hl)]
    · rw [List.getElem?_eq_none (by rw [wipe_length, List.length_set]; omega), List.getElem?_eq_none (by rw [wipe_length]; omega)]
  · rw [wipe_out hj, wipe_out hj, List.getElem?_set_ne (fun (e : i = j) => hj (e ▸ h))]
section
variable {K : PySem.W.Frag} {Z O H : Hp} {σ : St} {ρ : Ev} {F : List Addr}
theorem Rel.drop (rl : Rel K Z O H σ ρ F) (v : Nat) : ∃ F', Rel K Z O H (σ.set v none) (ρ.set v none) F' ∧ F'.Sublist F := by
  by_cases hl : v < ρ.length
  · obtain ⟨x, y, F1, G, F2, h1, h2, h3, h4, h5⟩ := rl.sl.focus hl
    have sl := h5 none none [] Z O H (Same.refl _) (Same.refl _) (.inl fun _ _ q _ => q) (fun a _ o q _ => q) rfl
    have sb : (F1 ++ ([] ++ F2)).Sublist F := by
      rw [h3, List.nil_append]
      exact List.Sublist.append (List.Sublist.refl _) (List.sublist_append_right _ _)
    exact ⟨_, ⟨rl.g, rl.nd.sublist sb, fun a ha => rl.fo a (sb.subset ha), sl, rl.tb⟩, sb⟩
  · have e1 : ρ.set v none = ρ := List.set_eq_of_length_le (by omega)
    have e2 : σ.set v none = σ := List.set_eq_of_length_le (by rw [rl.sl.length]; omega)
    rw [e1, e2]
    exact ⟨F, rl, List.Sublist.refl _⟩
theorem Rel.wipe (rl : Rel K Z O H σ ρ F) : ∀ vs : List Nat, ∃ F', Rel K Z O H (L2.wipe σ vs) (wipeE ρ vs) F' ∧ F'.Sublist F
  | [] => ⟨F, rl, List.Sublist.refl _⟩
  | v :: vs => by
    obtain ⟨F1, r1, s1⟩ := rl.wipe vs
    obtain ⟨F2, r2, s2⟩ := r1.drop v
    exact ⟨F2, r2, s2.trans s1⟩
end
theorem nov_wipe {ρ : Ev} (n : nov ρ = true) : ∀ vs : List Nat, nov (wipeE ρ vs) = true
  | [] => n
  | v :: vs => nov_set (nov_wipe n vs) fun d h => by cases h

/-! ### its targets -/
def setC (i : Nat) (r : R) (ρ : Ev) : Option Ev := match ρ[i]? with
  | none => none
  | some (some ⟨.brw, _⟩) => none
  | some _ => if r.s = .own ∨ r.s = .brw then none else some (ρ.set i (some r))
def GOc (K : PySem.W.Frag) (is : List Nat) (t : TG) (tg : Tgx) : Prop := ∀ Z O H σ ρ F v r ρ', Rel K Z O H σ ρ F → RepR K Z O H v r [] → tg r ρ = some ρ' →
  ∀ Q : St → Hp → Prop, (∀ σ' F', Rel K Z O H σ' ρ' F' → F'.Sublist F → (∀ vs, (∀ i ∈ is, i ∈ vs) → wipe σ' vs = wipe σ vs) → Q σ' H) → t v σ H Q
def GsOc (K : PySem.W.Frag) (is : List Nat) (t : TGs) (tg : Tgxs) : Prop := ∀ Z O H σ ρ F vs rs ρ', Rel K Z O H σ ρ F → Its0 K Z O H vs rs → tg rs ρ = some ρ' →
  ∀ Q : St → Hp → Prop, (∀ σ' F', Rel K Z O H σ' ρ' F' → F'.Sublist F → (∀ vs, (∀ i ∈ is, i ∈ vs) → wipe σ' vs = wipe σ vs) → Q σ' H) → t vs σ H Q
def cN (i : Nat) : Tgx := fun r ρ => setC i r ρ
section
variable {K : PySem.W.Frag}
theorem c_name {i : Nat} : GOc K [i] (gName i) (cN i) := fun Z O H σ ρ F v r ρ' rl q e Q k => by
  unfold cN setC at e
  cases z : ρ[i]? with
  | none => rw [z] at e; cases e
  | some y =>
    rw [z] at e
    have fin : (if r.s = .own ∨ r.s = .brw then none else some (ρ.set i (some r))) = some ρ' → ρ' = ρ.set i (some r) := fun h => by
      by_cases c : r.s = .own ∨ r.s = .brw
      · rw [if_pos c] at h; cases h
      · rw [if_neg c] at h; exact (Option.some.inj h).symm
    have e2 : ρ' = ρ.set i (some r) := by
      cases y with
      | none => exact fin e
      | some q =>
        obtain ⟨s, d⟩ := q
        cases s with
        | brw => cases e
        | _ => exact fin e
    subst e2
    obtain ⟨hl, _⟩ := List.getElem?_eq_some_iff.mp z
    obtain ⟨x, y', F1, G, F2, h1, h2, h3, h4, h5⟩ := rl.sl.focus hl
    have sl := h5 (some v) (some r) [] Z O H (Same.refl _) (Same.refl _) (.inl fun _ _ q _ => q) (fun a _ o q _ => q) (.inl q)
    have sb : (F1 ++ ([] ++ F2)).Sublist F := by
      rw [h3, List.nil_append]
      exact List.Sublist.append (List.Sublist.refl _) (List.sublist_append_right _ _)
    exact k _ _ ⟨rl.g, rl.nd.sublist sb, fun a ha => rl.fo a (sb.subset ha), sl, rl.tb⟩ sb fun vs h => wipe_set (h i (by simp))
theorem cs_nil : GsOc K [] gNil gsN := fun Z O H σ ρ F vs rs ρ' rl q e Q k => by
  cases q with
  | nil => cases e; exact ⟨rfl, k σ F rl (List.Sublist.refl _) fun _ _ => rfl⟩
  | cons _ _ => cases e
theorem cs_cons {is js : List Nat} {t : TG} {u : TGs} {tg : Tgx} {ug : Tgxs} (h1 : GOc K is t tg) (h2 : GsOc K js u ug) : GsOc K (is ++ js) (gCons t u) (gsC tg ug) := fun Z O H σ ρ F vs rs ρ' rl q e Q k => by
  cases q with
  | nil => cases e
  | cons q1 q2 =>
    rename_i v vs r rs
    unfold gsC at e
    cases z : tg r ρ with
    | none => simp only [z] at e; cases e
    | some ρ1 =>
      simp only [z] at e
      exact ⟨v, vs, rfl, h1 Z O H σ ρ F v r ρ1 rl q1 z _ fun σ1 F1 r1 s1 w1 =>
        h2 Z O H σ1 ρ1 F1 vs rs ρ' r1 q2 e _ fun σ2 F2 r2 s2 w2 => k σ2 F2 r2 (s2.trans s1) fun vs h => (w2 vs fun i hi => h i (List.mem_append_right _ hi)).trans (w1 vs fun i hi => h i (List.mem_append_left _ hi))⟩
theorem c_tup {is : List Nat} {n : Nat} {t : TGs} {tg : Tgxs} (h : GsOc K is t tg) : GOc K is (gTup K n t) (gT n tg) := fun Z O H σ ρ F v r ρ' rl q e Q k => by
  unfold gT at e
  obtain ⟨s, d⟩ := r
  cases d with
  | tuple ds =>
    have e2 : (if ds.length = n then tg (ds.map (Oz.sub s)) ρ else none) = some ρ' := e
    by_cases c : ds.length = n
    · rw [if_pos c] at e2
      obtain ⟨a, xs, ea, hx, hl, it⟩ := q.unpack rl.g rfl
      exact ⟨a, xs, ea, hx, hl.trans c, h Z O H σ ρ F xs _ ρ' rl it e2 Q k⟩
    · rw [if_neg c] at e2; cases e2
  | _ => cases e
end

/-! ### [e for x in xs if t] -/
def compE (g : Tgx) (t : Tx) (p : Px) (ρ0 : Ev) : List R → Option (List R)
  | [] => some []
  | r :: rs => (match g r ρ0 with
    | none => none
    | some ρ1 => (match t ρ1 with
      | .ok b => if b = true then (match p ρ1 with
        | .ok y => (match compE g t p ρ0 rs with
          | some ys => some (y :: ys)
          | none => none)
        | _ => none) else compE g t p ρ0 rs
      | _ => none))
def compR (rs : List R) : Res R := if rs.length ≤ sizeLine then (match owns rs with
  | some ds => .ok ⟨.own, .list ds⟩
  | none => (match frzs rs with
    | some ds => .ok ⟨.imm, .list ds⟩
    | none => .bad)) else .bad
def pComp (vs : List Nat) (src : Src) (g : Tgx) (t : Tx) (p : Px) : Px := fun ρ => if nov ρ = true then (src ρ).bind fun rs => match compE g t p (wipeE ρ vs) rs with
  | some ys => compR ys
  | none => .bad else .bad
def tYesD : Tx := fun _ => .ok true
theorem s_ifs0 {X : Cx} {E : XK} : PTs X [] (tT X.K E tYesD) := ⟨fun pins s σ H Q I h => by
  obtain ⟨Z, O, ρ, F, rl, h⟩ := h
  exact pts_nil.run pins s σ H Q I (h H Z O (Ext.refl _ _ _ _) rl.g)⟩
theorem s_ifs1 {X : Cx} {E : XK} {c : Expr} {t : Tx} (h : PT X c (tT X.K E t)) : PTs X [c] (tT X.K E t) := pts_one h
theorem owns_append : ∀ {xs ys : List R} {ds : List D}, owns (xs ++ ys) = some ds → ∃ d1 d2, owns xs = some d1 ∧ owns ys = some d2 ∧ ds = d1 ++ d2
  | [], ys, ds, h => ⟨[], ds, rfl, h, rfl⟩
  | x :: xs, ys, ds, h => by
    rw [List.cons_append] at h
    unfold owns at h
    cases h1 : ownR x with
    | none => simp only [h1] at h; cases h
    | some d =>
      cases h2 : owns (xs ++ ys) with
      | none => simp only [h1, h2] at h; cases h
      | some ds' =>
        simp only [h1, h2] at h
        cases h
        obtain ⟨d1, d2, e1, e2, e3⟩ := owns_append h2
        exact ⟨d :: d1, d2, by unfold owns; simp only [h1, e1], e2, by rw [e3]; rfl⟩
theorem frzs_append : ∀ {xs ys : List R} {ds : List D}, frzs (xs ++ ys) = some ds → ∃ d1 d2, frzs xs = some d1 ∧ frzs ys = some d2 ∧ ds = d1 ++ d2
  | [], ys, ds, h => ⟨[], ds, rfl, h, rfl⟩
  | x :: xs, ys, ds, h => by
    rw [List.cons_append] at h
    unfold frzs at h
    cases h1 : frzR x with
    | none => simp only [h1] at h; cases h
    | some d =>
      cases h2 : frzs (xs ++ ys) with
      | none => simp only [h1, h2] at h; cases h
      | some ds' =>
        simp only [h1, h2] at h
        cases h
        obtain ⟨d1, d2, e1, e2, e3⟩ := frzs_append h2
        exact ⟨d :: d1, d2, by unfold frzs; simp only [h1, e1], e2, by rw [e3]; rfl⟩
/-- the list so far -/
structure Acc (K : PySem.W.Frag) (Hs Z O H : Hp) (L : Addr) (own : Bool) (acc : List V) (ds : List D) (G : List Addr) : Prop where
  at_ : H L = some (.lst acc)
  zl : Z L = none
  ol : O L = none
  it : if own = true then Owns K Z H acc ds G else Reps K Z acc ds ∧ G = []
  nd : G.Nodup
  ng : L ∉ G
  fr : ∀ a ∈ G, Hs a = none ∧ O a = none
section
variable {K : PySem.W.Frag} {E : XK} {Hs Z O H Z' O' H' : Hp} {L : Addr} {own : Bool} {acc : List V} {ds : List D} {G : List Addr}
theorem Acc.ext (a : Acc K Hs Z O H L own acc ds G) (e : Ext [] Z O H Z' O' H') : Acc K Hs Z' O' H' L own acc ds G := by
  have nn : ∀ {C C' : Hp}, (∀ c, C' c ≠ none → C c ≠ none ∨ H c = none ∨ c ∈ ([] : List Addr)) → ∀ {c : Addr}, C c = none → (∃ o, H c = some o) → C' c = none := fun {C C'} h {c} h1 h2 => by
    cases w : C' c with
    | none => rfl
    | some x =>
      obtain ⟨o, h3⟩ := h2
      rcases h c (by rw [w]; simp) with z | z | z
      · exact absurd h1 z
      · rw [h3] at z; cases z
      · cases z
  refine ⟨e.h.l a.at_, nn e.zn a.zl ⟨_, a.at_⟩, nn e.on a.ol ⟨_, a.at_⟩, ?_, a.nd, a.ng, fun c hc => ⟨(a.fr c hc).1, ?_⟩⟩
  · have := a.it
    cases own with
    | true => exact Owns.mono e.z (fun c _ o q n => e.h.s c o q n) this
    | false => exact ⟨Reps.mono e.z this.1, this.2⟩
  · cases own with
    | true =>
      have it : Owns K Z H acc ds G := a.it
      obtain ⟨o, h1, _⟩ := it.live c hc
      exact nn e.on (a.fr c hc).2 ⟨o, h1⟩
    | false =>
      obtain ⟨_, h⟩ : Reps K Z acc ds ∧ G = [] := a.it
      subst h
      cases hc
/-- one more -/
theorem Acc.push {v : V} {r : R} {G' : List Addr} {d : D} (g : Good Z O H) (a : Acc K Hs Z O H L own acc ds G) (q : RepR K Z O H v r G') (nd : G'.Nodup) (fr : ∀ c ∈ G', Hs c = none ∧ O c = none) (dj : ∀ c ∈ G', c ∉ G ∧ c ≠ L)
    (e : (if own = true then ownR r else frzR r) = some d) (hsL : Hs L = none) :
    Good Z O (upd H L (.lst (acc ++ [v]))) ∧ ∃ G2, Acc K Hs Z O (upd H L (.lst (acc ++ [v]))) L own (acc ++ [v]) (ds ++ [d]) G2 := by
  have gd : Good Z O (upd H L (.lst (acc ++ [v]))) := by
    refine ⟨g.zo, fun c o h => ?_, fun c o h f => ?_, g.nt⟩
    · have ne : c ≠ L := fun z => by rw [z, a.ol] at h; cases h
      rw [upd_ne ne]
      exact g.oh c o h
    · by_cases z : c = L
      · rw [z, upd_same] at h; cases h; cases f
      · rw [upd_ne z] at h; exact g.tz c o h f
  refine ⟨gd, ?_⟩
  cases own with
  | true =>
    have it : Owns K Z H acc ds G := a.it
    obtain ⟨G1, o1, c1⟩ := ownR_ok g q e
    have s1 : ∀ c ∈ G1, c ∈ G' := fun c hc => by
      rcases c1 with z | z
      · rw [z] at hc; exact hc
      · rw [z] at hc; cases hc
    have n1 : G1.Nodup := by
      rcases c1 with z | z
      · rw [z]; exact nd
      · rw [z]; exact List.nodup_nil
    have keep : ∀ {F : List Addr}, L ∉ F → ∀ c ∈ F, ∀ o, H c = some o → (∀ ps, o ≠ .tbl ps) → upd H L (.lst (acc ++ [v])) c = some o := fun {F} n c hc o h _ => by
      rw [upd_ne (fun (z : c = L) => n (z ▸ hc))]; exact h
    refine ⟨G ++ G1, upd_same, a.zl, a.ol, ?_, ?_, fun z => ?_, fun c hc => ?_⟩
    · show Owns K Z _ (acc ++ [v]) (ds ++ [d]) (G ++ G1)
      exact (Owns.mono (Same.refl _) (keep a.ng) it).append (Owns.one (Own.mono (Same.refl _) (keep fun z => (dj L (s1 L z)).2 rfl) o1))
    · rw [List.nodup_append]
      exact ⟨a.nd, n1, fun x hx y hy z => (dj y (s1 y hy)).1 (z ▸ hx)⟩
    · rcases List.mem_append.mp z with z | z
      · exact a.ng z
      · exact (dj L (s1 L z)).2 rfl
    · rcases List.mem_append.mp hc with hc | hc
      · exact a.fr c hc
      · exact fr c (s1 c hc)
  | false =>
    obtain ⟨it, eg⟩ : Reps K Z acc ds ∧ G = [] := a.it
    subst eg
    exact ⟨[], upd_same, a.zl, a.ol, ⟨it.append (.cons (frzR_ok g q e) .nil), rfl⟩, List.nodup_nil, (fun z => by cases z), fun c hc => by cases hc⟩
end
section
variable {K : PySem.W.Frag} {E : XK}
theorem comp_ok {vs : List Nat} {is : List Nat} {w : TI} {src : Src} {t : TG} {g : Tgx} {tt : Tx} {p : Px} {σ : St} {H : Hp} {Q : VK} (ik : IOc K E w src) (gk : GOc K is t g) (hv : ∀ i ∈ is, i ∈ vs) (h : tP K E (pComp vs src g tt p) σ H Q) :
    tLc w t (tT K E tt) (tP K E p) vs σ H Q := by
  obtain ⟨Z, O, ρ, F, rl, h⟩ := h
  refine ik σ H _ ⟨Z, O, ρ, F, rl, ?_⟩
  unfold pComp at h
  by_cases nv : nov ρ = true
  · rw [if_pos nv] at h
    cases e : src ρ with
    | bad => rw [e] at h; exact h.elim
    | exc c fs => rw [e] at h; exact h
    | ok rs =>
      rw [e] at h
      have h1 : ResK K E [] Z O H (match compE g tt p (wipeE ρ vs) rs with
        | some ys => compR ys
        | none => .bad) Q := h
      intro J H1 Z1 O1 x1 g1 wl L nL
      -- how the whole ends
      have zL : Z1 L = none := none_of g1.zh nL
      have oL : O1 L = none := none_of g1.oh nL
      have end_ : ∀ {own : Bool} {acc : List V} {ds : List D} {G : List Addr} {Z2 O2 H2 : Hp} {r : R}, Good Z2 O2 H2 → Ext [] Z1 O1 H1 Z2 O2 H2 → Acc K H1 Z2 O2 H2 L own acc ds G → r = (if own = true then ⟨.own, .list ds⟩ else ⟨.imm, .list ds⟩) → OkK K [] Z O H r Q → Q (.ref L) H2 := fun {own acc ds G Z2 O2 H2 r} g2 x2 a er q => by
        cases own with
        | true =>
          subst er
          have it : Owns K Z2 H2 acc ds G := a.it
          refine q _ H2 Z2 O2 (L :: G) (x1.trans0 x2) g2 (.lst a.at_ it) (List.nodup_cons.mpr ⟨a.ng, a.nd⟩) fun c hc => ?_
          rcases List.mem_cons.mp hc with z | z
          · rw [z]; exact ⟨.inl (x1.h.free nL), a.ol⟩
          · exact ⟨.inl (x1.h.free (a.fr c z).1), (a.fr c z).2⟩
        | false =>
          subst er
          obtain ⟨it, eg⟩ : Reps K Z2 acc ds ∧ G = [] := a.it
          have sz : Same Z2 (upd Z2 L (.lst acc)) := same_new a.zl
          have so : Same O2 (upd O2 L (.lst acc)) := same_new a.ol
          have g3 : Good (upd Z2 L (.lst acc)) (upd O2 L (.lst acc)) H2 := by
            refine ⟨fun c o h => ?_, fun c o h => ?_, fun c o h f => ?_, noT_upd g2.nt nofun⟩
            · by_cases z : c = L
              · subst z; rw [upd_same] at h ⊢; exact h
              · rw [upd_ne z] at h ⊢; exact g2.zo _ _ h
            · by_cases z : c = L
              · subst z; rw [upd_same] at h; rw [← h]; exact a.at_
              · rw [upd_ne z] at h; exact g2.oh _ _ h
            · by_cases z : c = L
              · subst z; rw [a.at_] at h; cases h; cases f
              · rw [upd_ne z]; exact g2.tz _ _ h f
          refine q _ H2 _ _ [] ⟨x1.h.trans x2.h, (x1.z.trans x2.z).trans sz, (x1.o.trans x2.o).trans so, fun c h => ?_, fun c h => ?_⟩ g3 ⟨.lst upd_same (it.mono sz), rfl⟩ List.nodup_nil fun c hc => by cases hc
          · rcases upd_some h with z | z
            · exact (x1.trans0 x2).zn c z
            · rw [z]; exact .inr (.inl (x1.h.free nL))
          · rcases upd_some h with z | z
            · exact (x1.trans0 x2).on c z
            · rw [z]; exact .inr (.inl (x1.h.free nL))
      -- what holds ahead of each turn
      have rl1 := rl.ext x1 g1
      obtain ⟨Fw, rlw, sbw⟩ := rl1.wipe vs
      have nw := nov_wipe nv vs
      -- the rest of the walk, with what is made so far
      let After := fun (i : Nat) (Z2 O2 H2 : Hp) => ∃ (own : Bool) (acc : List V) (ds : List D) (G : List Addr) (ys : List Oz.R) (ds2 : List D), Acc K H1 Z2 O2 H2 L own acc ds G ∧ compE g tt p (wipeE ρ vs) (rs.drop i) = some ys ∧ acc.length + ys.length ≤ sizeLine ∧
        (if own = true then owns ys else frzs ys) = some ds2 ∧ OkK K [] Z O H (if own = true then ⟨.own, .list (ds ++ ds2)⟩ else ⟨.imm, .list (ds ++ ds2)⟩) Q
      refine ⟨fun i m H' => m = rs.length - i ∧ i ≤ rs.length ∧ ∃ Z2 O2 F2, Good Z2 O2 H' ∧ Ext [] Z1 O1 H1 Z2 O2 H' ∧ Rel K Z2 O2 H' (L2.wipe σ vs) (wipeE ρ vs) F2 ∧ L ∉ F2 ∧ (∀ c ∈ F2, ∃ o, H1 c = some o) ∧ After i Z2 O2 H', ⟨rs.length, by simp, Nat.zero_le _, ?_⟩, ?_⟩
      · obtain ⟨x2, g2⟩ := ext_new (o := .lst []) g1 nL rfl
        have lv : ∀ c ∈ Fw, ∃ o, H1 c = some o := fun c hc => let ⟨o, h, _⟩ := rlw.sl.live c hc; ⟨o, h⟩
        have nF : L ∉ Fw := fun z => by
          obtain ⟨o, h⟩ := lv L z
          rw [nL] at h
          cases h
        refine ⟨Z1, O1, Fw, g2, x2, rlw.ext x2 g2, nF, lv, ?_⟩
        show ∃ (own : Bool) (acc : List V) (ds : List D) (G : List Addr) (ys : List Oz.R) (ds2 : List D), _
        cases e2 : compE g tt p (wipeE ρ vs) rs with
        | none => rw [e2] at h1; exact h1.elim
        | some ys =>
          rw [e2] at h1
          have h2 : ResK K E [] Z O H (if ys.length ≤ sizeLine then (match owns ys with
            | some ds => .ok ⟨.own, .list ds⟩
            | none => (match frzs ys with
              | some ds => .ok ⟨.imm, .list ds⟩
              | none => .bad)) else .bad) Q := h1
          by_cases ll : ys.length ≤ sizeLine
          · rw [if_pos ll] at h2
            cases e3 : owns ys with
            | some ds =>
              rw [e3] at h2
              exact ⟨true, [], [], [], ys, ds, ⟨upd_same, zL, oL, .nil, List.nodup_nil, (fun z => by cases z), fun c hc => by cases hc⟩, by rw [List.drop_zero, e2], by simpa using ll, e3, h2⟩
            | none =>
              rw [e3] at h2
              have h3 : ResK K E [] Z O H (match frzs ys with
                | some ds => .ok ⟨.imm, .list ds⟩
                | none => .bad) Q := h2
              cases e4 : frzs ys with
              | none => rw [e4] at h3; exact h3.elim
              | some ds =>
                rw [e4] at h3
                exact ⟨false, [], [], [], ys, ds, ⟨upd_same, zL, oL, ⟨.nil, rfl⟩, List.nodup_nil, (fun z => by cases z), fun c hc => by cases hc⟩, by rw [List.drop_zero, e2], by simpa using ll, e4, h3⟩
          · rw [if_neg ll] at h2
            exact h2.elim
      · rintro i m H' ⟨em, hi, Z2, O2, F2, g2, x2, rl2, nF2, lv2, own, acc, ds, G, ys, ds2, ac, hm, la, ho, hq⟩
        obtain ⟨w1, w2⟩ := wl Z2 O2 H' g2 x2.z x2.o (fun a o q _ n => x2.h.s a o q n) i hi
        by_cases hlt : i < rs.length
        · obtain ⟨go, yl⟩ := w2 rs[i] (List.getElem?_eq_getElem hlt)
          have ed : rs.drop i = rs[i] :: rs.drop (i + 1) := List.drop_eq_getElem_cons hlt
          rw [ed] at hm
          refine .inr ⟨go, fun H4 => ∃ Z4 O4 F4, Good Z4 O4 H4 ∧ Ext [] Z1 O1 H1 Z4 O4 H4 ∧ Rel K Z4 O4 H4 (L2.wipe σ vs) (wipeE ρ vs) F4 ∧ L ∉ F4 ∧ (∀ c ∈ F4, ∃ o, H1 c = some o) ∧ After (i + 1) Z4 O4 H4,
            fun H4 ⟨Z4, O4, F4, q1, q2, q3, q4, q5, q6⟩ => ⟨rs.length - (i + 1), by omega, rfl, hlt, Z4, O4, F4, q1, q2, q3, q4, q5, q6⟩, fun x H3 hy => ?_⟩
          obtain ⟨Z3, O3, x3, g3, r3⟩ := yl x H3 hy
          have rl3 := rl2.ext x3 g3
          have ac3 := ac.ext x3
          unfold compE at hm
          cases z : g rs[i] (wipeE ρ vs) with
          | none => simp only [z] at hm; cases hm
          | some ρ1 =>
            simp only [z] at hm
            refine gk Z3 O3 H3 (L2.wipe σ vs) (wipeE ρ vs) F2 x rs[i] ρ1 rl3 r3 z _ fun σ1 F5 rl5 sb5 wp5 => ?_
            have ww : L2.wipe (L2.wipe σ vs) vs = L2.wipe σ vs := by
              apply List.ext_getElem?
              intro j
              by_cases hj : j ∈ vs
              · by_cases hl : j < σ.length
                · rw [wipe_in hj hl, wipe_in hj (by rw [wipe_length]; exact hl)]
                · rw [List.getElem?_eq_none (by rw [wipe_length, wipe_length]; omega), List.getElem?_eq_none (by rw [wipe_length]; omega)]
              · rw [wipe_out hj]
            refine ⟨(wp5 vs hv).trans ww, Z3, O3, ρ1, F5, rl5, ?_⟩
            cases et : tt ρ1 with
            | bad => simp only [et] at hm; cases hm
            | exc c fs => simp only [et] at hm; cases hm
            | ok b =>
              simp only [et] at hm
              intro H6 Z6 O6 x6 g6
              have rlw6 := (rl3.ext x6 g6)
              have ac6 := ac3.ext x6
              have x16 := (x2.trans0 x3).trans0 x6
              cases b with
              | false =>
                simp only [Bool.false_eq_true, if_false] at hm
                rw [if_neg Bool.false_ne_true]
                exact ⟨Z6, O6, F2, g6, x16, rlw6, nF2, lv2, own, acc, ds, G, ys, ds2, ac6, hm, la, ho, hq⟩
              | true =>
                simp only [if_true] at hm
                rw [if_pos rfl]
                refine ⟨Z6, O6, ρ1, F5, rl5.ext x6 g6, ?_⟩
                cases ep : p ρ1 with
                | bad => simp only [ep] at hm; cases hm
                | exc c fs => simp only [ep] at hm; cases hm
                | ok y =>
                  simp only [ep] at hm
                  cases er : compE g tt p (wipeE ρ vs) (rs.drop (i + 1)) with
                  | none => simp only [er] at hm; cases hm
                  | some ys' =>
                    simp only [er] at hm
                    have ey : y :: ys' = ys := Option.some.inj hm
                    subst ey
                    intro v H7 Z7 O7 G7 x7 g7 q7 n7 f7
                    have ac7 := ac6.ext x7
                    rw [List.length_cons] at la
                    refine ⟨acc, ac7.at_, by omega, ?_⟩
                    -- the new item
                    have hd : ∃ d ds3, (if own = true then ownR y else frzR y) = some d ∧ (if own = true then owns ys' else frzs ys') = some ds3 ∧ ds2 = d :: ds3 := by
                      cases own with
                      | true =>
                        obtain ⟨d1, d2, e1, e2, e3⟩ := owns_append (xs := [y]) (ys := ys') ho
                        unfold owns at e1
                        cases eo : ownR y with
                        | none => simp only [eo] at e1; cases e1
                        | some d =>
                          simp only [eo, owns] at e1
                          cases e1
                          exact ⟨d, d2, rfl, e2, e3⟩
                      | false =>
                        obtain ⟨d1, d2, e1, e2, e3⟩ := frzs_append (xs := [y]) (ys := ys') ho
                        unfold frzs at e1
                        cases eo : frzR y with
                        | none => simp only [eo] at e1; cases e1
                        | some d =>
                          simp only [eo, frzs] at e1
                          cases e1
                          exact ⟨d, d2, rfl, e2, e3⟩
                    obtain ⟨d, ds3, hd1, hd2, hd3⟩ := hd
                    have f7' : ∀ c ∈ G7, H6 c = none := fun c hc => (f7 c hc).1.elim id fun z => by cases z
                    have dj7 : ∀ c ∈ G7, c ∉ G ∧ c ≠ L := fun c hc => by
                      refine ⟨fun z => ?_, fun z => ?_⟩
                      · cases own with
                        | true =>
                          have it : Owns K Z6 H6 acc ds G := ac6.it
                          obtain ⟨o, h, _⟩ := it.live c z
                          rw [f7' c hc] at h
                          cases h
                        | false =>
                          obtain ⟨_, eg⟩ : Reps K Z6 acc ds ∧ G = [] := ac6.it
                          subst eg
                          cases z
                      · have := f7' c hc
                        rw [z, ac6.at_] at this
                        cases this
                    obtain ⟨g8, G8, ac8⟩ := ac7.push g7 q7 n7 (fun c hc => ⟨x16.h.free (f7' c hc), (f7 c hc).2⟩) dj7 hd1 nL
                    refine ⟨Z7, O7, F2, g8, ?_, ?_, nF2, lv2, own, _, _, G8, ys', ds3, ac8, er, by rw [List.length_append, List.length_singleton]; omega, hd2, ?_⟩
                    · have x17 := x16.trans0 x7
                      exact ⟨x17.h.updN nL ⟨fun ps z => (by rw [ac7.at_] at z; cases z), fun _ _ z => (by rw [ac7.at_] at z; cases z)⟩, x17.z, x17.o, x17.zn, x17.on⟩
                    · have rl7 := rlw6.ext x7 g7
                      exact ⟨g8, rl7.nd, rl7.fo, rl7.sl.keep (Same.refl _) (Same.refl _) nw (fun a ha o h _ => by rw [upd_ne (fun (z : a = L) => nF2 (z ▸ ha))]; exact h), fun P hP => upd_tab ⟨fun ps z => (by rw [ac7.at_] at z; cases z), fun _ _ z => (by rw [ac7.at_] at z; cases z)⟩ (rl7.tb P hP)⟩
                    · have e9 : (ds ++ [d]) ++ ds3 = ds ++ ds2 := by rw [hd3, List.append_assoc]; rfl
                      rw [e9]
                      exact hq
        · have ei : i = rs.length := by omega
          refine .inl ⟨w1 ei, ?_⟩
          have ed : rs.drop i = [] := List.drop_eq_nil_of_le (by omega)
          rw [ed] at hm
          have ey : ys = [] := by
            unfold compE at hm
            exact (Option.some.inj hm).symm
          subst ey
          have e3 : ds2 = [] := by
            cases own with
            | true => exact (Option.some.inj ho).symm
            | false => exact (Option.some.inj ho).symm
          subst e3
          rw [List.append_nil] at hq
          exact end_ g2 x2 ac rfl hq
  · rw [if_neg nv] at h
    exact h.elim
end
end Oz

namespace Oz
open PySem PySem.Spec L2
open PyProof.Rows hiding St
variable [WD]

/-! ### comprehensions as rules -/
section
variable {X : Cx} {E : XK} {elt tg iter : Expr} {ifs : List Expr} {scope : Scope} {own : List (Str × Nat)} {pos : Pos} {is : List Nat} {w : TI} {src : Src} {t : TG} {g : Tgx} {tt : Tx} {p : Px}
theorem s_comp (hc : X.calm = true) (hN : X.N.Nodup) (hi : PI X tg iter w) (ik : IOc X.K E w src) (ok : BlkOk X.N X.env.scope scope own) (gk : GOc X.K is t g) (hv : ∀ i ∈ is, i ∈ own.map (·.2))
    (hg : ∀ (s : Shared) (H : Hp) (C : Addr) (cl : List (Str × Addr)) (fp : List Addr), PG (X.blk s H scope (compEnvC scope cl C X.env) fp) tg t)
    (ht : ∀ (s : Shared) (H : Hp) (C : Addr) (cl : List (Str × Addr)) (fp : List Addr), PTs (X.blk s H scope (compEnvC scope cl C X.env) fp) ifs (tT X.K E tt))
    (he : ∀ (s : Shared) (H : Hp) (C : Addr) (cl : List (Str × Addr)) (fp : List Addr), PE (X.blk s H scope (compEnvC scope cl C X.env) fp) elt (tP X.K E p)) (hs : ∀ x, foldedSetIterable iter X.env x = pure x := by exact fun _ => rfl) :
    PE X (.ListComp elt [⟨tg, iter, ifs, 0⟩] scope pos) (tP X.K E (pComp (own.map (·.2)) src g tt p)) := (pe_lc hc hN hi ok hg ht he hs).imp fun σ H Q h => comp_ok ik gk hv h
theorem s_asgComp (i : Nat) {y : Str} {py spos : Pos} (hc : X.calm = true) (hN : X.N.Nodup) (hy : X.N[i]? = some y) (hyl : X.env.scope.names.lookup y = some .local)
    (hsw : swapsWith (.ListComp elt [⟨tg, iter, ifs, 0⟩] scope pos) (some (.Name y py)) spos.line X.env = pure true) (hi : PI X tg iter w) (ik : IOc X.K E w src) (ok : BlkOk X.N X.env.scope scope own) (gk : GOc X.K is t g) (hv : ∀ i ∈ is, i ∈ own.map (·.2))
    (hg : ∀ (s : Shared) (H : Hp) (C : Addr) (cl : List (Str × Addr)) (fp : List Addr), PG (X.blk s H scope (compEnvC scope cl C X.env) fp) tg t)
    (ht : ∀ (s : Shared) (H : Hp) (C : Addr) (cl : List (Str × Addr)) (fp : List Addr), PTs (X.blk s H scope (compEnvC scope cl C X.env) fp) ifs (tT X.K E tt))
    (he : ∀ (s : Shared) (H : Hp) (C : Addr) (cl : List (Str × Addr)) (fp : List Addr), PE (X.blk s H scope (compEnvC scope cl C X.env) fp) elt (tP X.K E p)) (hs : ∀ x, foldedSetIterable iter X.env x = pure x := by exact fun _ => rfl) :
    PS X (.Assign [.Name y py] (.ListComp elt [⟨tg, iter, ifs, 0⟩] scope pos) spos) (tS X.K E (sAsg i (pComp (own.map (·.2)) src g tt p))) := by
  refine (ps_setLc hc hN hy hyl hsw hi ok hg ht he hs).imp fun D σ H h => ?_
  refine comp_ok (E := E) ik gk hv ?_
  refine tS_expr (s := fun r ρ => match setS i r ρ with | some ρ' => .next ρ' | none => .bad) h fun Z0 O0 Z O H1 ρ F G v r rl n q nd dj fo fh tr h2 => ?_
  cases z : setS i r ρ with
  | none => rw [z] at h2; exact h2.elim
  | some ρ' =>
    rw [z] at h2
    obtain ⟨F', rl', n', sub, ln, bw⟩ := rl.set n q nd dj fo z
    exact h2 _ H1 Z O F' rl' n' ⟨⟨tr.tr.z, tr.tr.keep, tr.tr.zn, fun a ha => (sub a ha).imp id (fh a), tr.tr.fr, tr.tr.tab⟩, tr.o, ln, bw, tr.on⟩
end

/-! ### built-ins -/
def BOk (K : PySem.W.Frag) (T : List V → Hp → VK → Prop) (f : List R → Res R) : Prop := ∀ (E : XK) (Z O H : Hp) (vs : List V) (rs : List R) (G : List Addr) (Q : VK), Good Z O H → RepRs K Z O H vs rs G → G.Nodup → (∀ c ∈ G, O c = none) →
  ResK K E G Z O H (f rs) Q → T vs H Q
def pB (f : List R → Res R) (ps : List Px) : Px := fun ρ => (evs ps ρ).bind f
section
variable {X : Cx} {E : XK} {x T : Str} {p pos : Pos} {e : Expr} {es : List Expr} {qs : List Px} {f : List R → Res R} {r : List V → Hp → VK → Prop}
theorem s_callB {id : String} (bk : BOk X.K r f) (hc : CallR X (.builtin id) r) (hg : Gl X x) (hm : X.mg x = none) (hv : bootBuiltins x = some (.builtin id)) (ha : PA X (e :: es) (tA X.K E qs)) (hn : x ≠ "__name__" := by decide) (hdb : (x == ("__debug__" : Str)) = false := by decide)
    (he : starEach (e :: es) X.env = (false, eval e X.env) :: starEach es X.env := by rfl) (hpl : (backTo pos (starEach es X.env)).any (·.1) = false := by rfl) : PE X (.Call (.Name x p) (e :: es) [] pos) (tP X.K E (pB f qs)) :=
  (pe_callB hc hg hm hv ha hn hdb he hpl).imp fun σ H Q h => tA_bind h fun Z O H1 G vs rs g q nd fo h2 _ => bk E Z O H1 vs rs G Q g q nd fo h2
theorem s_callTy {id : String} (bk : BOk X.K r f) (hc : CallR X (.type id) r) (hg : Gl X x) (hm : X.mg x = none) (hv : bootBuiltins x = some (.type id)) (ha : PA X (e :: es) (tA X.K E qs)) (hn : x ≠ "__name__" := by decide) (hdb : (x == ("__debug__" : Str)) = false := by decide)
    (he : starEach (e :: es) X.env = (false, eval e X.env) :: starEach es X.env := by rfl) (hpl : (backTo pos (starEach es X.env)).any (·.1) = false := by rfl) : PE X (.Call (.Name x p) (e :: es) [] pos) (tP X.K E (pB f qs)) :=
  (pe_callTy hc hg hm hv ha hn hdb he hpl).imp fun σ H Q h => tA_bind h fun Z O H1 G vs rs g q nd fo h2 _ => bk E Z O H1 vs rs G Q g q nd fo h2
end
section
variable {K : PySem.W.Frag}
theorem RepRs.one {Z O H : Hp} {vs : List V} {r : R} {G : List Addr} (h : RepRs K Z O H vs [r] G) : ∃ v, vs = [v] ∧ RepR K Z O H v r G := by
  cases h with
  | cons q s => cases s; rw [List.append_nil]; exact ⟨_, rfl, q⟩
theorem RepRs.two {Z O H : Hp} {vs : List V} {r r' : R} {G : List Addr} (h : RepRs K Z O H vs [r, r'] G) : ∃ v v' G1 G2, vs = [v, v'] ∧ RepR K Z O H v r G1 ∧ RepR K Z O H v' r' G2 ∧ G = G1 ++ G2 := by
  cases h with
  | cons q s =>
    obtain ⟨v', e, q2⟩ := s.one
    subst e
    exact ⟨_, v', _, _, rfl, q, q2, rfl⟩
/-- one argument, an answer of its own -/
def b1 (f : D → Option D) : List R → Res R := fun rs => match rs with
  | [r] => (match f r.d with
    | some d => .ok ⟨.imm, d⟩
    | none => .bad)
  | _ => .bad
theorem bok1 {T : List V → Hp → VK → Prop} {f : D → Option D} (h : ∀ (H : Hp) (x : V) (a d : D) (Q : VK), Rep K H x a → f a = some d → (∀ v, (∀ C, Rep K C v d) → Q v H) → T [x] H Q) : BOk K T (b1 f) := fun E Z O H vs rs G Q g q nd fo k => by
  cases rs with
  | nil => exact k.elim
  | cons r rs => cases rs with
    | cons _ _ => exact k.elim
    | nil =>
      obtain ⟨v, rfl, qr⟩ := q.one
      have k2 : ResK K E G Z O H (match f r.d with | some d => .ok ⟨.imm, d⟩ | none => .bad) Q := k
      cases e : f r.d with
      | none => rw [e] at k2; exact k2.elim
      | some d =>
        rw [e] at k2
        exact h H v r.d d Q (qr.look g) e fun v' r' => OkK.imm g k2 (r' Z)
/-- len -/
def fLen : D → Option D
  | .list ds => some (.int (ds.length : Int))
  | .tuple ds => some (.int (ds.length : Int))
  | .str x => if x.length ≤ sizeLine then some (.int (x.length : Int)) else none
  | .dict [(.none, .list ds)] => some (.int (ds.length : Int))
  | .dict ((.none, _) :: _) => none
  | .dict ((.bool _, _) :: _) => none
  | .dict es => some (.int (es.length : Int))
  | _ => none
def rLenA (K : PySem.W.Frag) : List V → Hp → VK → Prop := fun xs H Q => (∃ p ys, xs = [.ref p] ∧ (SqL K H p ys ∨ SqT K H p ys) ∧ Q (.int ys.length) H) ∨ (∃ a kvs, xs = [V.ref a] ∧ H a = some (.dK kvs) ∧ Q (.int kvs.length) H) ∨ (∃ z, xs = [.str z] ∧ z.length ≤ sizeLine ∧ Q (.int z.length) H)
theorem call_lenA {X : Cx} : CallR X (.builtin "len") (rLenA X.K) := CallR.or call_len_seq (CallR.or call_lenD call_len_str)
theorem b_len : BOk K (rLenA K) (b1 fLen) := bok1 fun H x a d Q r e q => by
  cases r with
  | lst h r => cases e; exact .inl ⟨_, _, rfl, .inl (.inl (.inl h)), by rw [r.length]; exact q _ fun _ => .int _⟩
  | scr h r => cases e; exact .inl ⟨_, _, rfl, .inl h.sqL, by rw [r.length]; exact q _ fun _ => .int _⟩
  | tup h r => cases e; exact .inl ⟨_, _, rfl, .inr h, by rw [r.length]; exact q _ fun _ => .int _⟩
  | str x =>
    obtain ⟨h, rfl⟩ := ite_some (c := x.length ≤ sizeLine) e
    exact .inr (.inr ⟨x, rfl, h, q _ fun _ => .int _⟩)
  | dct h k r =>
    rename_i p kvs es
    have hl : kvs.length = es.length := by
      have := congrArg List.length k
      simpa using this.symm
    cases es with
    | nil => cases e; exact .inr (.inl ⟨_, _, rfl, h, by rw [hl]; exact q _ fun _ => .int _⟩)
    | cons e0 es =>
      obtain ⟨k1, v1⟩ := e0
      cases kvs with
      | nil => simp at k
      | cons y ys =>
        simp only [List.map_cons, List.cons.injEq] at k
        obtain ⟨k0, _⟩ := k
        obtain ⟨y1, y2⟩ := y
        subst k0
        cases y1 with
        | inl i => cases e; exact .inr (.inl ⟨_, _, rfl, h, by rw [hl]; exact q _ fun _ => .int _⟩)
        | inr z => cases e; exact .inr (.inl ⟨_, _, rfl, h, by rw [hl]; exact q _ fun _ => .int _⟩)
  | obj h c k r =>
    rename_i es
    cases e2 : es with
    | nil => subst e2; cases e
    | cons _ _ => subst e2; cases e
  | _ => cases e
/-- ints of a row -/
def intsD : List D → Option (List Int)
  | [] => some []
  | .int i :: ds => (match intsD ds with
    | some is => some (i :: is)
    | none => none)
  | _ :: _ => none
def fSum : D → Option D
  | .list ds => (intsD ds).map fun ns => .int ns.sum
  | _ => none
def fInt : D → Option D
  | .int i => some (.int i)
  | .bool b => some (.int (if b then 1 else 0))
  | _ => none
theorem b_int : BOk K (fun xs H Q => (∃ i, xs = [.int i] ∧ Q (.int i) H) ∨ ∃ k, xs = [.bl k] ∧ Q (.int (if k then 1 else 0)) H) (b1 fInt) := bok1 fun H x a d Q r e q => by
  cases r with
  | int i => cases e; exact .inl ⟨i, rfl, q _ fun _ => .int _⟩
  | bl b => cases e; exact .inr ⟨b, rfl, q _ fun _ => .int _⟩
  | _ => cases e
/-- max, min of two -/
def b2i (f : Int → Int → Int) : List R → Res R := fun rs => match rs with
  | [a, b] => (match a.d, b.d with
    | .int i, .int j => .ok ⟨.imm, .int (f i j)⟩
    | _, _ => .bad)
  | _ => .bad
/-- tuple(x), list(x) -/
def bTuple : List R → Res R := fun rs => match rs with
  | [r] => (match r.d with
    | .list ds => tnew r.s ds
    | .tuple _ => if r.s = .imm then .ok r else .bad
    | _ => .bad)
  | _ => .bad
theorem b_tuple : BOk K (fun xs H Q => ∃ p ys, xs = [.ref p] ∧ ((SqL K H p ys ∧ ∀ l, H l = none → Q (.ref l) (upd H l (.tup ys))) ∨ (SqT K H p ys ∧ Q (.ref p) H))) bTuple := fun E Z O H vs rs G Q g q nd fo k => by
  match rs, q, k with
  | [], _, k => exact k.elim
  | _ :: _ :: _, _, k => exact k.elim
  | [r], q, k =>
    obtain ⟨v, rfl, q1⟩ := q.one
    obtain ⟨s, d⟩ := r
    cases d with
    | list ds =>
      have l1 := q1.look g
      cases l1 with
      | lst h r =>
        refine ⟨_, _, rfl, .inl ⟨.inl (.inl h), fun l nl => tnew_ok (s := s) g k r (fun es => ?_) nl⟩⟩
        obtain ⟨p1, v1, z1, z2, z3⟩ := q1.zlist es
        cases z1
        have u := g.zh _ _ z2
        rw [h] at u
        cases u
        exact z3
    | tuple ds =>
      have k2 : ResK K E G Z O H (if s = .imm then .ok ⟨s, .tuple ds⟩ else .bad) Q := k
      by_cases es : s = .imm
      · rw [if_pos es] at k2
        subst es
        obtain ⟨p1, v1, z1, z2, z3⟩ := q1.ztup rfl
        subst z1
        exact ⟨p1, v1, rfl, .inr ⟨Same.seqT g.zh z2, OkK.imm g k2 (.tup z2 z3)⟩⟩
      · rw [if_neg es] at k2; exact k2.elim
    | _ => exact k.elim
def bList : List R → Res R := fun rs => match rs with
  | [r] => (match itemsD r.d with
    | some ds => dnew r.s ds
    | none => .bad)
  | _ => .bad
theorem b_list : BOk K (fun xs H Q => ∃ p ys, xs = [.ref p] ∧ (SqL K H p ys ∨ SqT K H p ys) ∧ ∀ l, H l = none → Q (.ref l) (upd H l (.lst ys))) bList := fun E Z O H vs rs G Q g q nd fo k => by
  match rs, q, k with
  | [], _, k => exact k.elim
  | _ :: _ :: _, _, k => exact k.elim
  | [r], q, k =>
    obtain ⟨v, rfl, q1⟩ := q.one
    obtain ⟨s, d⟩ := r
    have k2 : ResK K E G Z O H (match itemsD d with | some ds => dnew s ds | none => .bad) Q := k
    cases e : itemsD d with
    | none => rw [e] at k2; exact k2.elim
    | some ds =>
      rw [e] at k2
      rcases items_kind e with rfl | rfl
      · have l1 := q1.look g
        cases l1 with
        | lst h r =>
          refine ⟨_, _, rfl, .inl (.inl (.inl h)), fun l nl => dnew_ok (s := s) g k2 r (fun es => ?_) nl⟩
          obtain ⟨p1, v1, z1, z2, z3⟩ := q1.zlist es
          cases z1
          have u := g.zh _ _ z2
          rw [h] at u
          cases u
          exact z3
      · by_cases es : s = .imm
        · obtain ⟨p1, v1, z1, z2, z3⟩ := q1.ztup es
          subst z1
          exact ⟨p1, v1, rfl, .inr (Same.seqT g.zh z2), fun l nl => dnew_ok (s := s) g k2 (z3.mono g.zh) (fun _ => z3) nl⟩
        · have l1 := q1.look g
          cases l1 with
          | tup h r => exact ⟨_, _, rfl, .inr h, fun l nl => dnew_ok (s := s) g k2 r (fun z => absurd z es) nl⟩
/-- - x -/
def pNeg (p : Px) : Px := fun ρ => (p ρ).bind fun r => match r.d with
  | .int i => .ok ⟨.imm, .int (-i)⟩
  | _ => .bad
theorem s_neg {X : Cx} {E : XK} {a : Expr} {p : Px} {pos : Pos} (ha : PE X a (tP X.K E p)) : PE X (.UnaryOp .USub a pos) (tP X.K E (pNeg p)) := by
  refine (pe_un un_neg ha).imp fun σ H Q h => ?_
  refine tP_bind (k := fun r _ => match r.d with | .int i => .ok ⟨.imm, .int (-i)⟩ | _ => .bad) h fun Z O H1 Z1 O1 ρ F G v r rl x1 r1 q1 nd fr h2 => ?_
  obtain ⟨s, d⟩ := r
  cases d with
  | int i =>
    have lk := q1.look r1.g
    cases lk
    exact ⟨i, rfl, h2 _ H1 Z1 O1 [] x1 r1.g ⟨.int _, rfl⟩ List.nodup_nil fun c hc => by cases hc⟩
  | _ => exact h2.elim
end
end Oz

namespace Oz
open PySem PySem.Spec L2
open PyProof.Rows hiding St
variable [WD]

/-! ### places within what one owns -/
/-- a place: the slot, what stands there, the whole with another thing there -/
structure Pl where
  i : Nat
  d : D
  put : D → D
abbrev Plx := Ev → Res Pl
structure PlAt (K : PySem.W.Frag) (Z O H : Hp) (σ : St) (ρ : Ev) (F : List Addr) (l : Pl) (v : V) (s : Sx) (F1 G F2 : List Addr) : Prop where
  slot : ∃ d, ρ[l.i]? = some (some ⟨s, d⟩)
  st : s = .own ∨ s = .brw
  eq : F = F1 ++ (G ++ F2)
  own : Own K Z H v l.d G
  back : ∀ (Z' O' H' : Hp) (d : D) (G' : List Addr), Same Z Z' → Same O O' → nov ρ = true → (∀ a ∈ F1 ++ F2, ∀ o, H a = some o → (∀ ps, o ≠ .tbl ps) → H' a = some o) → Own K Z' H' v d G' → Slots K Z' O' H' σ (ρ.set l.i (some ⟨s, l.put d⟩)) (F1 ++ (G' ++ F2))
def tPl (K : PySem.W.Frag) (E : XK) (l : Plx) : TE := fun σ H Q => ∃ Z O ρ F, Rel K Z O H σ ρ F ∧ match l ρ with
  | .bad => False
  | .exc c fs => ExcK K E Z O H c fs
  | .ok l => ∀ v H' Z' O' s F1 G F2, Ext [] Z O H Z' O' H' → Good Z' O' H' → PlAt K Z' O' H' σ ρ F l v s F1 G F2 → Q v H'
section
variable {K : PySem.W.Frag} {E : XK} {Z O H Z' O' H' : Hp} {σ : St} {ρ : Ev} {F F1 G F2 : List Addr} {l : Pl} {v : V} {s : Sx}
theorem PlAt.ext (p : PlAt K Z O H σ ρ F l v s F1 G F2) (e : Ext [] Z O H Z' O' H') : PlAt K Z' O' H' σ ρ F l v s F1 G F2 where
  slot := p.slot
  st := p.st
  eq := p.eq
  own := Own.mono e.z (fun a _ o q n => e.h.s a o q n) p.own
  back := fun Z2 O2 H2 d G' ez eo n k q => by
    refine p.back Z2 O2 H2 d G' (e.z.trans ez) (e.o.trans eo) n (fun a ha o h n => k a ha o (e.h.s a o h n) n) q
/-- a name -/
def plN (i : Nat) : Plx := fun ρ => match ρ[i]? with
  | some (some ⟨.own, d⟩) => .ok ⟨i, d, id⟩
  | some (some ⟨.brw, d⟩) => .ok ⟨i, d, id⟩
  | _ => .bad
theorem plN_ok (rl : Rel K Z O H σ ρ F) {i : Nat} (h : plN i ρ = .ok l) : ∃ v s F1 G F2, σ[i]? = some (some v) ∧ PlAt K Z O H σ ρ F l v s F1 G F2 := by
  unfold plN at h
  cases e : ρ[i]? with
  | none => rw [e] at h; cases h
  | some y =>
    cases y with
    | none => rw [e] at h; cases h
    | some r =>
      obtain ⟨s, d⟩ := r
      obtain ⟨hl, _⟩ := List.getElem?_eq_some_iff.mp e
      obtain ⟨x, y, F1, G, F2, h1, h2, h3, h4, h5⟩ := rl.sl.focus hl
      rw [e] at h2
      cases h2
      cases x with
      | none => exact h4.elim
      | some v =>
        have key : (s = .own ∨ s = .brw) → l = ⟨i, d, id⟩ → ∃ v s F1 G F2, σ[i]? = some (some v) ∧ PlAt K Z O H σ ρ F l v s F1 G F2 := fun hs hl => by
          subst hl
          have q : Own K Z H v d G := by rcases hs with rfl | rfl <;> exact RepS.rep h4 nofun
          refine ⟨v, s, F1, G, F2, h1, ⟨⟨d, e⟩, hs, h3, q, fun Z' O' H' d' G' ez eo n k q' => ?_⟩⟩
          have sl := h5 (some v) (some ⟨s, d'⟩) G' Z' O' H' ez eo (.inr n) k (by rcases hs with rfl | rfl <;> exact .inl q')
          have es : σ.set i (some v) = σ := by
            apply List.ext_getElem?
            intro j
            by_cases ij : i = j
            · subst ij
              obtain ⟨hl2, _⟩ := List.getElem?_eq_some_iff.mp h1
              rw [List.getElem?_set_self hl2, h1]
            · rw [List.getElem?_set_ne ij]
          rw [es] at sl
          exact sl
        cases s with
        | own => rw [e] at h; exact key (.inl rfl) (Res.ok.inj h).symm
        | brw => rw [e] at h; exact key (.inr rfl) (Res.ok.inj h).symm
        | _ => rw [e] at h; cases h
/-- the cells of items -/
theorem Owns.at : ∀ {xs : List V} {ds : List D} {F : List Addr} {i : Nat} {d : D}, Owns K Z H xs ds F → ds[i]? = some d → ∃ x A G B, xs[i]? = some x ∧ F = A ++ (G ++ B) ∧ Own K Z H x d G ∧
    ∀ (Z' H' : Hp) (x' : V) (d' : D) (G' : List Addr), Same Z Z' → (∀ a ∈ A ++ B, ∀ o, H a = some o → (∀ ps, o ≠ .tbl ps) → H' a = some o) → Own K Z' H' x' d' G' → Owns K Z' H' (xs.set i x') (ds.set i d') (A ++ (G' ++ B))
  | _, _, _, _, _, .nil, h => by simp at h
  | _, _, _, 0, d, .cons (F := F) (G := G) q s, h => by
    simp at h
    subst h
    refine ⟨_, [], F, G, rfl, rfl, q, fun Z' H' x' d' G' ez k q' => ?_⟩
    have z := Owns.cons q' (Owns.mono ez (fun a ha => k a (by simpa using ha)) s)
    exact z
  | _, _, _, i + 1, d, .cons (F := F) (G := G) q s, h => by
    obtain ⟨x, A, G0, B, h1, h2, h3, h4⟩ := Owns.at (i := i) s (by simpa using h)
    refine ⟨x, F ++ A, G0, B, by simpa using h1, by rw [h2, List.append_assoc], h3, fun Z' H' x' d' G' ez k q' => ?_⟩
    rw [List.append_assoc]
    refine .cons (Own.mono ez (fun a ha => k a (by simp [ha])) q) (h4 Z' H' x' d' G' ez (fun a ha => k a ?_) q')
    rcases List.mem_append.mp ha with ha | ha
    · simp [ha]
    · simp [ha]
theorem Own.lst_inv {ds : List D} (q : Own K Z H v (.list ds) G) : ∃ a xs G0, v = .ref a ∧ H a = some (.lst xs) ∧ Owns K Z H xs ds G0 ∧ G = a :: G0 := by
  cases q with
  | imm r p => cases p
  | lst h r => exact ⟨_, _, _, rfl, h, r, rfl⟩
theorem set_same {α : Type} {xs : List α} {i : Nat} {x : α} (h : xs[i]? = some x) : xs.set i x = xs := by
  apply List.ext_getElem?
  intro j
  by_cases ij : i = j
  · subst ij
    obtain ⟨hl, _⟩ := List.getElem?_eq_some_iff.mp h
    rw [List.getElem?_set_self hl, h]
  · rw [List.getElem?_set_ne ij]
/-- an item's place -/
theorem PlAt.item {ds : List D} {j : Nat} {d : D} (p : PlAt K Z O H σ ρ F l v s F1 G F2) (nd : F.Nodup) (e : l.d = .list ds) (hj : ds[j]? = some d) :
    ∃ a xs x F1' G' F2', v = .ref a ∧ H a = some (.lst xs) ∧ xs.length = ds.length ∧ xs[j]? = some x ∧ PlAt K Z O H σ ρ F ⟨l.i, d, fun y => l.put (.list (ds.set j y))⟩ x s F1' G' F2' := by
  have q := p.own
  rw [e] at q
  obtain ⟨a, xs, G0, rfl, ha, qs, eg⟩ := q.lst_inv
  obtain ⟨x, A, Gi, B, h1, h2, h3, h4⟩ := qs.at hj
  refine ⟨a, xs, x, F1 ++ (a :: A), Gi, B ++ F2, rfl, ha, qs.length, h1, ⟨p.slot, p.st, ?_, h3, fun Z' O' H' d' G' ez eo n k q' => ?_⟩⟩
  · rw [p.eq, eg, h2]
    simp
  · have ka : H' a = some (.lst xs) := k a (by simp) _ ha nofun
    have qn : Own K Z' H' (.ref a) (.list (ds.set j d')) (a :: (A ++ (G' ++ B))) := by
      refine .lst (xs := xs) ka ?_
      have q5 := h4 Z' H' x d' G' ez (fun c hc o h => k c (by
        rcases List.mem_append.mp hc with hc | hc
        · simp [hc]
        · simp [hc]) o h) q'
      rw [set_same h1] at q5
      exact q5
    have sl := p.back Z' O' H' (.list (ds.set j d')) _ ez eo n (fun c hc o h => k c (by
        rcases List.mem_append.mp hc with hc | hc
        · simp [hc]
        · simp [hc]) o h) qn
    have ee : F1 ++ (a :: A) ++ (G' ++ (B ++ F2)) = F1 ++ ((a :: (A ++ (G' ++ B))) ++ F2) := by simp
    rw [ee]
    exact sl
/-- a place written: its own cell alone has changed -/
theorem PlAt.wrote {d : D} {G' : List Addr} (p : PlAt K Z O H σ ρ F l v s F1 G F2) (rl : Rel K Z O H σ ρ F) (n : nov ρ = true) {a : Addr} (ha : a ∈ G) {o : HO} (fo : fzn o = false) (q : Own K Z (upd H a o) v d G') (nd : G'.Nodup) (fr : ∀ c ∈ G', c ∈ G ∨ (c ∉ F ∧ O c = none)) :
    Rel K Z O (upd H a o) σ (ρ.set l.i (some ⟨s, l.put d⟩)) (F1 ++ (G' ++ F2)) ∧ nov (ρ.set l.i (some ⟨s, l.put d⟩)) = true ∧ TrS Z O H σ ρ F Z O (upd H a o) σ (ρ.set l.i (some ⟨s, l.put d⟩)) (F1 ++ G ++ F2) := by
  have nF := rl.nd
  rw [p.eq] at nF
  obtain ⟨n1, n2, n3⟩ := List.nodup_append.mp nF
  obtain ⟨n4, n5, n6⟩ := List.nodup_append.mp n2
  have aF : a ∈ F := by rw [p.eq]; simp [ha]
  have a1 : ∀ c ∈ F1 ++ F2, c ≠ a := fun c hc e => by
    rcases List.mem_append.mp hc with hc | hc
    · exact n3 c hc a (List.mem_append_left _ ha) e
    · exact n6 a ha c hc e.symm
  have sl := p.back Z O (upd H a o) d G' (Same.refl _) (Same.refl _) n (fun c hc x h _ => by rw [upd_ne (a1 c hc)]; exact h) q
  have gd : Good Z O (upd H a o) := by
    refine ⟨rl.g.zo, fun c x h => ?_, fun c x h f => ?_, rl.g.nt⟩
    · have ne : c ≠ a := fun z => by rw [z, rl.fo a aF] at h; cases h
      rw [upd_ne ne]
      exact rl.g.oh c x h
    · by_cases z : c = a
      · rw [z, upd_same] at h; cases h; rw [fo] at f; cases f
      · rw [upd_ne z] at h; exact rl.g.tz c x h f
  have inF : ∀ c, c ∈ F1 ∨ c ∈ F2 → c ∈ F := fun c hc => by
    rw [p.eq]
    rcases hc with hc | hc
    · simp [hc]
    · simp [hc]
  have gF : ∀ c ∈ G, c ∈ F := fun c hc => by rw [p.eq]; simp [hc]
  refine ⟨⟨gd, ?_, fun c hc => ?_, sl, rl.updT aF o⟩, nov_set n (fun d' e => ?_), ⟨Same.refl _, fun c x h hn _ => ?_, fun c h => .inl h, fun c hc => .inl ?_, fun c h => .inr (upd_fr h), fun c hn h => upd_tab (rl.sl.nsy a aF) h⟩, Same.refl _, rfl, fun j d' hj => ?_, fun a q => .inl q⟩
  · rw [List.nodup_append]
    refine ⟨n1, ?_, fun x hx y hy e => ?_⟩
    · rw [List.nodup_append]
      refine ⟨nd, n5, fun x hx y hy e => ?_⟩
      rcases fr x hx with z | z
      · exact n6 x z y hy e
      · exact z.1 (inF x (.inr (e ▸ hy)))
    · rcases List.mem_append.mp hy with hy | hy
      · rcases fr y hy with z | z
        · exact n3 x hx y (List.mem_append_left _ z) e
        · exact z.1 (inF y (.inl (e ▸ hx)))
      · exact n3 x hx y (List.mem_append_right _ hy) e
  · rcases List.mem_append.mp hc with hc | hc
    · exact rl.fo c (inF c (.inl hc))
    · rcases List.mem_append.mp hc with hc | hc
      · rcases fr c hc with z | z
        · exact rl.fo c (gF c z)
        · exact z.2
      · exact rl.fo c (inF c (.inr hc))
  · cases e
    rcases p.st with z | z <;> cases z
  · rw [upd_ne (fun (z : c = a) => hn (z ▸ aF))]; exact h
  · rcases List.mem_append.mp hc with hc | hc
    · rcases List.mem_append.mp hc with hc | hc
      · exact inF c (.inl hc)
      · exact gF c hc
    · exact inF c (.inr hc)
  · by_cases ij : l.i = j
    · subst ij
      obtain ⟨d0, h0⟩ := p.slot
      rw [hj] at h0
      cases h0
      obtain ⟨hl, _⟩ := List.getElem?_eq_some_iff.mp hj
      exact ⟨rfl, l.put d, List.getElem?_set_self hl⟩
    · exact ⟨rfl, d', by rw [List.getElem?_set_ne ij]; exact hj⟩
end
/-- a place's item -/
def plI (l : Plx) (p : Px) : Plx := fun ρ => (l ρ).bind fun l => (p ρ).bind fun r => match l.d, r.d with
  | .list ds, .int i => (match ixN ds.length i with
    | some j => (match ds[j]? with
      | some d => .ok ⟨l.i, d, fun y => l.put (.list (ds.set j y))⟩
      | none => .bad)
    | none => .bad)
  | _, _ => .bad
section
variable {X : Cx} {E : XK} {a b : Expr} {l : Plx} {p : Px} {pos : Pos} {x : Str}
theorem s_plN (i : Nat) (hN : X.N[i]? = some x := by rfl) (hv : Vis X.env.scope x := by first | exact Or.inl rfl | exact Or.inr (Or.inl rfl) | exact Or.inr (Or.inr rfl)) (hd : (x == ("__debug__" : Str)) = false := by decide)
    (hcd : (x == ("__classdict__" : Str)) = false := by decide) : PE X (.Name x pos) (tPl X.K E (plN i)) := by
  refine (pe_var hN hv hd hcd).imp fun σ H Q h => ?_
  obtain ⟨Z, O, ρ, F, rl, h⟩ := h
  cases e : plN i ρ with
  | bad => rw [e] at h; exact h.elim
  | exc c fs =>
    unfold plN at e
    split at e <;> cases e
  | ok l =>
    rw [e] at h
    obtain ⟨v, s, F1, G, F2, h1, pa⟩ := plN_ok rl e
    exact ⟨v, h1, h v H Z O s F1 G F2 (Ext.refl _ _ _ _) rl.g pa⟩
theorem s_plI (ha : PE X a (tPl X.K E l)) (hb : PE X b (tP X.K E p)) (hs : PlainIx b := by exact fun _ _ => rfl) : PE X (.Subscript a b pos) (tPl X.K E (plI l p)) := by
  refine (pe_ix ix_list ha hb hs).imp fun σ H Q h => ?_
  obtain ⟨Z, O, ρ, F, rl, h⟩ := h
  refine ⟨Z, O, ρ, F, rl, ?_⟩
  unfold plI at h
  cases e : l ρ with
  | bad => rw [e] at h; exact h.elim
  | exc c fs => rw [e] at h; exact h
  | ok l0 =>
    rw [e] at h
    simp only [Res.bind_ok] at h
    intro v H1 Z1 O1 s F1 G F2 x1 g1 pa
    have rl1 := rl.ext x1 g1
    refine ⟨Z1, O1, ρ, F, rl1, ?_⟩
    cases e2 : p ρ with
    | bad => rw [e2] at h; exact h.elim
    | exc c fs => rw [e2] at h; exact ExcK.ext h x1
    | ok r =>
      rw [e2] at h
      simp only [Res.bind_ok] at h
      intro y H2 Z2 O2 G2 x2 g2 q2 nd2 fr2
      have pa2 := pa.ext x2
      cases el : l0.d with
      | list ds =>
        cases er : r.d with
        | int i =>
          rw [el, er] at h
          simp only at h
          cases ei : ixN ds.length i with
          | none => rw [ei] at h; exact h.elim
          | some j =>
            rw [ei] at h
            simp only at h
            cases ed : ds[j]? with
            | none => rw [ed] at h; exact h.elim
            | some d =>
              rw [ed] at h
              have lk := q2.look g2
              rw [er] at lk
              cases lk
              obtain ⟨a', xs, x', F1', G', F2', ev, ha', hl, hx, pb⟩ := pa2.item rl.nd el ed
              refine ⟨a', xs, i, x', ev, rfl, .inl (.inl ha'), ?_, h x' H2 Z2 O2 s F1' G' F2' (x1.trans0 x2) g2 pb⟩
              unfold atI
              rw [hl, ei]
              exact hx
        | _ => rw [el, er] at h; exact h.elim
      | _ => rw [el] at h; cases hr : r.d <;> rw [hr] at h <;> exact h.elim
end
/-- the frame behind a change -/
def putE (l : Pl) (d : D) (ρ : Ev) : SR := match ρ[l.i]? with
  | some (some ⟨s, _⟩) => .next (ρ.set l.i (some ⟨s, l.put d⟩))
  | _ => .bad
/-- l.append(p) -/
def sApp (l : Plx) (p : Px) : Stx := fun ρ => match l ρ with
  | .bad => .bad
  | .exc c fs => .exc c fs ρ
  | .ok l => (match l.d with
    | .list ds => (match p ρ with
      | .bad => .bad
      | .exc c fs => .exc c fs ρ
      | .ok r => (match ownR r with
        | some d => if ds.length < sizeLine then putE l (.list (ds ++ [d])) ρ else .bad
        | none => .bad))
    | _ => .bad)
section
variable {X : Cx} {E : XK} {a b : Expr} {l : Plx} {p : Px} {pos apos cpos : Pos}
theorem s_app (hl : PE X a (tPl X.K E l)) (hp : PE X b (tP X.K E p)) (hst : starEach [b] X.env = (false, eval b X.env) :: starEach [] X.env := by rfl)
    (h : ∀ {to : TE} {t : TA}, PE X a to → PA X [b] t → PS X (.Expr (.Call (.Attribute a "append" apos) [b] [] cpos) pos) (tDrop (tBM X.K "list" rAppend to t))) : PS X (.Expr (.Call (.Attribute a "append" apos) [b] [] cpos) pos) (tS X.K E (sApp l p)) := by
  refine (h hl (pa_cons hp pa_nil hst)).imp fun D σ H h => ?_
  obtain ⟨Z, O, ρ, F, rl, n, h⟩ := h
  refine ⟨Z, O, ρ, F, rl, ?_⟩
  unfold sApp at h
  cases e : l ρ with
  | bad => rw [e] at h; exact h.elim
  | exc c fs => rw [e] at h; exact SRK.exc rl h
  | ok l0 =>
    rw [e] at h
    simp only at h
    intro v H1 Z1 O1 s F1 G F2 x1 g1 pa
    have rl1 := rl.ext x1 g1
    cases el : l0.d with
    | list ds =>
      rw [el] at h
      simp only at h
      have q := pa.own
      rw [el] at q
      obtain ⟨a0, xs, G0, rfl, ha0, qs, eg⟩ := q.lst_inv
      refine ⟨.inl ⟨rfl, _, .inl (.inl ha0)⟩, Z1, O1, ρ, F, rl1, ?_⟩
      cases e2 : p ρ with
      | bad => rw [e2] at h; exact h.elim
      | exc c fs => rw [e2] at h; exact ExcK.ext (SRK.exc rl h) x1
      | ok r =>
        rw [e2] at h
        simp only at h
        cases er : ownR r with
        | none => rw [er] at h; exact h.elim
        | some d =>
          rw [er] at h
          simp only at h
          by_cases c : ds.length < sizeLine
          · rw [if_pos c] at h
            intro y H2 Z2 O2 G2 x2 g2 q2 nd2 fr2
            have pa2 := pa.ext x2
            have rl2 := rl1.ext x2 g2
            have ha2 := x2.h.l ha0
            have qs2 : Owns X.K Z2 H2 xs ds G0 := Owns.mono x2.z (fun a _ o q n => x2.h.s a o q n) qs
            obtain ⟨G', qo, cG⟩ := ownR_ok g2 q2 er
            have sG : ∀ c ∈ G', c ∈ G2 := fun c hc => by
              rcases cG with z | z
              · rw [z] at hc; exact hc
              · rw [z] at hc; cases hc
            have nG : G'.Nodup := by
              rcases cG with z | z
              · rw [z]; exact nd2
              · rw [z]; exact List.nodup_nil
            have fG : ∀ c ∈ G', H1 c = none := fun c hc => (fr2 c (sG c hc)).1.elim id fun z => by cases z
            have aG : a0 ∉ G0 := by
              have nF := rl.nd
              rw [pa.eq, eg] at nF
              have := (List.nodup_append.mp (List.nodup_append.mp nF).2.1).1
              exact (List.nodup_cons.mp this).1
            have aG' : a0 ∉ G' := fun z => by rw [fG a0 z] at ha0; cases ha0
            have keep : ∀ {Fs : List Addr}, a0 ∉ Fs → ∀ c ∈ Fs, ∀ o, H2 c = some o → (∀ ps, o ≠ .tbl ps) → upd H2 a0 (.lst (xs ++ [y])) c = some o := fun {Fs} nn c hc o h _ => by
              rw [upd_ne (fun (z : c = a0) => nn (z ▸ hc))]; exact h
            have qn : Own X.K Z2 (upd H2 a0 (.lst (xs ++ [y]))) (.ref a0) (.list (ds ++ [d])) (a0 :: (G0 ++ G')) :=
              .lst upd_same ((Owns.mono (Same.refl _) (keep aG) qs2).append (Owns.one (Own.mono (Same.refl _) (keep aG') qo)))
            have ndn : (a0 :: (G0 ++ G')).Nodup := by
              refine List.nodup_cons.mpr ⟨fun z => (List.mem_append.mp z).elim aG aG', List.nodup_append.mpr ⟨?_, nG, fun u hu w hw e => ?_⟩⟩
              · have nF := rl.nd
                rw [pa.eq, eg] at nF
                exact (List.nodup_cons.mp (List.nodup_append.mp (List.nodup_append.mp nF).2.1).1).2
              · obtain ⟨o, h, _⟩ := qs.live u hu
                rw [e, fG w hw] at h
                cases h
            obtain ⟨d0, hs0⟩ := pa.slot
            obtain ⟨rl3, n3, tr3⟩ := pa2.wrote rl2 n (a := a0) (by rw [eg]; simp) (o := .lst (xs ++ [y])) rfl (d := .list (ds ++ [d])) qn ndn fun c hc => by
              rcases List.mem_cons.mp hc with z | z
              · left; rw [eg, z]; simp
              · rcases List.mem_append.mp z with z | z
                · left; rw [eg]; simp [z]
                · right
                  refine ⟨fun w => ?_, (fr2 c (sG c z)).2⟩
                  obtain ⟨o, h, _⟩ := rl1.sl.live c w
                  rw [fG c z] at h
                  cases h
            refine ⟨a0, xs, y, rfl, rfl, ha2, by rw [qs.length]; exact c, ?_⟩
            unfold putE at h
            rw [hs0] at h
            have tr12 : TrS Z O H σ ρ F Z2 O2 H2 σ ρ F := TrS.ext (x1.trans0 x2)
            refine h σ _ Z2 O2 _ rl3 n3 ⟨⟨tr12.tr.z, fun c o hc hn nn => ?_, tr12.tr.zn, fun c hc => ?_, fun c h => (tr3.tr.fr c h).elim .inl (tr12.tr.fr c), fun c hn h => tr3.tr.tab c hn (tr12.tr.tab c hn h)⟩, tr12.o, rfl, fun j d' hj => tr3.brw j d' hj, tr12.on⟩
            · exact tr3.tr.keep c o (tr12.tr.keep c o hc hn nn) hn nn
            · rcases List.mem_append.mp hc with hc | hc
              · left; rw [pa.eq]; simp [hc]
              · rcases List.mem_append.mp hc with hc | hc
                · rcases List.mem_cons.mp hc with z | z
                  · left; rw [pa.eq, eg, z]; simp
                  · rcases List.mem_append.mp z with z | z
                    · left; rw [pa.eq, eg]; simp [z]
                    · right; exact x1.h.free (fG c z)
                · left; rw [pa.eq]; simp [hc]
          · rw [if_neg c] at h; exact h.elim
    | _ => rw [el] at h; exact h.elim
end
end Oz

namespace Oz
open PySem PySem.Spec L2
open PyProof.Rows hiding St
variable [WD]

/-! ### a def one may call -/
structure Cal (CX : CXT) (P : Program) (w : World) (K : PySem.W.Frag) (mg : Str → Option Value) (base : Heap) (k : Nat) (x : Str) (ps : List Str) (md : List Md) (m : Fn) : Prop where
  ex : ∃ f fd, FnOk P w K mg base CX k f fd ps (spF K md m) ∧ Binds K fd ps [] ∧ PySem.W.keepIn K (.ref f) = true ∧ mg x = some (.ref f)
section
variable {X : Cx} {E : XK} {CX : CXT} {k k' : Nat} {ps : List Str} {md : List Md} {m : Fn} {x : Str} {p pos : Pos} {e : Expr} {es : List Expr} {qs : List Px}
theorem s_callC (c : Cal CX X.prog X.w X.K X.mg X.base k x ps md m) (hr : Room k' X.A) (hx : Passes CX X E) (ha : PA X (e :: es) (tA X.K E qs)) (hg : Gl X x := by rfl) (hk : k ≤ k' := by decide)
    (hdb : (x == ("__debug__" : Str)) = false := by decide) (he : starEach (e :: es) X.env = (false, eval e X.env) :: starEach es X.env := by rfl) (hpl : (backTo pos (starEach es X.env)).any (·.1) = false := by rfl) :
    PE X (.Call (.Name x p) (e :: es) [] pos) (tP X.K E (pCall m md qs)) := by
  obtain ⟨f, fd, F, b, kp, hm⟩ := c.ex
  exact s_call F (hr.mono hk) hg hm kp b hx ha hdb he hpl
end
theorem cal_of {CX : CXT} {P : Program} {w : World} {K : PySem.W.Frag} {mg : Str → Option Value} {base : Heap} {x qual : Str} {params : Arguments} {body : List Stmt} {scope : Scope} {ps : List Str} {k : Nat} {md : List Md} {m : Fn}
    (T : ∃ f fd, FunD K x qual params body scope [] [] f fd ∧ mg x = some (.ref f))
    (hb : ∀ (kV doc pm : Value) (an : Option Addr) (cdv ct : Value) (us : List Value), us.length = ps.length → bindArgs (PySem.W.fnOf x qual params body scope .none kV doc pm an cdv ct) ⟨us, []⟩ = pure (ps.zip us))
    (B : ∀ f fd, FunD K x qual params body scope [] [] f fd → FnOk P w K mg base CX k f fd ps (spF K md m)) :
    Cal CX P w K mg base k x ps md m := by
  obtain ⟨f, fd, F, hm⟩ := T
  exact ⟨f, fd, B f fd F, F.bindsN hb, F.kp, hm⟩
theorem cal_ofC {CX : CXT} {P : Program} {w : World} {K : PySem.W.Frag} {mg : Str → Option Value} {base : Heap} {x qual : Str} {params : Arguments} {body : List Stmt} {scope : Scope} {ps : List Str} {k : Nat} {md : List Md} {m : Fn} {c : Value}
    (T : ∃ f fd, FunD K x qual params body scope [] [] f fd ∧ mg x = some (.ref f) ∧ fd.code = c)
    (hb : ∀ (kV doc pm : Value) (an : Option Addr) (cdv ct : Value) (us : List Value), us.length = ps.length → bindArgs (PySem.W.fnOf x qual params body scope .none kV doc pm an cdv ct) ⟨us, []⟩ = pure (ps.zip us))
    (B : ∀ f fd, FunD K x qual params body scope [] [] f fd → fd.code = c → FnOk P w K mg base CX k f fd ps (spF K md m)) :
    Cal CX P w K mg base k x ps md m := by
  obtain ⟨f, fd, F, hm, hc⟩ := T
  exact ⟨f, fd, B f fd F hc, F.bindsN hb, F.kp, hm⟩
theorem passE {X : Cx} {E : XK} : Passes CX0 X E := fun _ _ _ _ _ _ _ h => h.elim
theorem hu64 {A : Around} {k : Nat} (hr : Room k A) : A.units + 64 < cLine := by have := hr.un; omega
theorem hu65 {A : Around} {k : Nat} (hr : Room k A) : A.units + 65 < cLine := by have := hr.un; omega
/-! ### the block of a comprehension -/
def blkB (N : List Str) (sc scope : Scope) (own : List (Str × Nat)) : Bool :=
  decide (scope.kind = .function) && (scope.names.all fun y => decide (scope.names.lookup y.1 = some y.2)) && (own.all fun p => decide (N[p.2]? = some p.1)) &&
  (scope.names.all fun y => !decide (y.2 = .free) || (decide (sc.names.lookup y.1 = some .cell) || decide (sc.names.lookup y.1 = some .free))) &&
  (scope.names.all fun y => !(decide (y.2 = .local) || decide (y.2 = .cell)) || (decide (y.1 ∈ own.map (·.1)) || !decide (y.1 ∈ N)))
theorem blkB_ok {N : List Str} {sc scope : Scope} {own : List (Str × Nat)} (h : blkB N sc scope own = true) : BlkOk N sc scope own := by
  unfold blkB at h
  simp only [Bool.and_eq_true, decide_eq_true_eq, List.all_eq_true, Bool.or_eq_true, Bool.not_eq_true', decide_eq_false_iff_not] at h
  obtain ⟨⟨⟨⟨h1, h2⟩, h3⟩, h4⟩, h5⟩ := h
  refine ⟨h1, h2, h3, fun y hy e => ?_, fun y hy e => ?_⟩
  · rcases h4 y hy with z | z
    · exact absurd e z
    · exact z
  · rcases h5 y hy with z | z
    · rw [Bool.or_eq_false_iff, decide_eq_false_iff_not, decide_eq_false_iff_not] at z
      exact e.elim (fun e => absurd e z.1) fun e => absurd e z.2
    · exact z
/-! ### the law's end -/
theorem law_spT {K : PySem.W.Frag} {m : Fn} {n : Nat} (h : ∀ ns : List Int, ns.length ≤ n → m [scrD (ns.map .int)] = .ok ⟨.imm, .bool true⟩ []) (H : Hp) (a : Addr) (ns : List Int) (hl : ns.length ≤ n) (tb : Tabs K H) (hS : SqL K H a (ns.map V.int)) :
    spF K [.v] m [.ref a] H (fun v _ => v = .bl true) fun _ _ _ => False := by
  have hF : SqF K H a (ns.map V.int) := hS
  have hi : ∀ (C : Hp) (ns : List Int), Reps K C (ns.map V.int) (ns.map PyData.int) := fun C ns => by
    induction ns with
    | nil => exact .nil
    | cons x xs ih => exact .cons (.int x) ih
  refine ⟨rfl, without H [], [scrD (ns.map .int)], [], fun _ _ h => (without_some h).1, without_noT H [], tb, fun a o h f => without_sameN H a o h (fun ps e => by rw [e] at f; cases f), .v (.scr (hF.monoN (without_sameN H)) (hi _ _)) .nil, List.nodup_nil, (fun a ha => by cases ha), ?_⟩
  rw [h ns hl]
  intro v H' Z' Fm' G A t r
  obtain ⟨r, _⟩ := r
  cases r
  rfl
end Oz

namespace Oz
open PySem PySem.Spec L2
open PyProof.Rows hiding St
variable [WD]

/-! ### reckoning with what a def does -/
theorem str_inj {a b : String} : (Str.ofString a = Str.ofString b) ↔ a = b := by
  constructor
  · intro h
    rw [Str.ofString_eq_toList, Str.ofString_eq_toList] at h
    have h2 : a.toList.map Char.toNat = b.toList.map Char.toNat := by
      have := congrArg (fun s : Str => s.cps.toList) h
      simpa using this
    have h3 : a.toList = b.toList := by
      refine List.map_inj_right (f := Char.toNat) (fun x y e => ?_) |>.mp h2
      have e2 : x.val.toNat = y.val.toNat := e
      exact Char.ext (UInt32.toNat_inj.mp e2)
    exact String.toList_inj.mp h3
  · intro h
    rw [h]
@[simp] theorem str_eq {a b : String} : (Str.ofString a = Str.ofString b) = (a = b) := propext str_inj
@[simp] theorem str_beq {a b : String} : (Str.ofString a == Str.ofString b) = (a == b) := by
  rw [Bool.eq_iff_iff]
  simp
section
variable {ρ : Ev}
@[simp] theorem x_seq {s t : Stx} : sSeq s t ρ = (match s ρ with | .next ρ' => t ρ' | r => r) := id rfl
@[simp] theorem x_if {c : Tx} {s t : Stx} : sIf c s t ρ = (match c ρ with | .bad => .bad | .exc x fs => .exc x fs ρ | .ok b => if b = true then s ρ else t ρ) := id rfl
@[simp] theorem x_asg {i : Nat} {p : Px} : sAsg i p ρ = (match p ρ with | .bad => .bad | .exc c fs => .exc c fs ρ | .ok r => (match setS i r ρ with | some ρ' => .next ρ' | none => .bad)) := id rfl
@[simp] theorem x_asgT {g : Tgx} {p : Px} : sAsgT g p ρ = (match p ρ with | .bad => .bad | .exc c fs => .exc c fs ρ | .ok r => (match g r ρ with | some ρ' => .next ρ' | none => .bad)) := id rfl
@[simp] theorem x_ret {p : Px} : sRet p ρ = (match p ρ with | .bad => .bad | .exc c fs => .exc c fs ρ | .ok r => if storable r = true then .ret r ρ else .bad) := id rfl
@[simp] theorem x_drop {p : Px} : sDrop p ρ = (match p ρ with | .bad => .bad | .exc c fs => .exc c fs ρ | .ok _ => .next ρ) := id rfl
@[simp] theorem x_next : sNext ρ = .next ρ := id rfl
@[simp] theorem x_for {src : Src} {g : Tgx} {b : Stx} : sFor src g b ρ = (match src ρ with | .bad => .bad | .exc c fs => .exc c fs ρ | .ok rs => loopS g b rs ρ) := id rfl
@[simp] theorem x_C {d : D} : pC d ρ = .ok ⟨.imm, d⟩ := id rfl
@[simp] theorem x_var {i : Nat} : pVar i ρ = (match ρ[i]? with | some (some ⟨.tab, _⟩) => .bad | some (some r) => .ok (vw r) | _ => .bad) := id rfl
@[simp] theorem x_p2 {f : R → R → Res R} {p q : Px} : p2 f p q ρ = ((p ρ).bind fun a => (q ρ).bind fun b => f a b) := id rfl
@[simp] theorem x_at2 {f : D → D → Option D} {a b : R} : at2 f a b = (match f a.d b.d with | some d => .ok ⟨.imm, d⟩ | none => .bad) := id rfl
@[simp] theorem x_i2 {f : Int → Int → Option D} {i j : Int} : i2 f (.int i) (.int j) = f i j := id rfl
@[simp] theorem x_and {p q : Px} : pAnd p q ρ = ((p ρ).bind fun r => match truth r.d with | some true => q ρ | some false => .ok r | none => .bad) := id rfl
@[simp] theorem x_or {p q : Px} : pOr p q ρ = ((p ρ).bind fun r => match truth r.d with | some true => .ok r | some false => q ρ | none => .bad) := id rfl
@[simp] theorem x_not {p : Px} : pNot p ρ = ((p ρ).bind fun r => match truth r.d with | some b => .ok ⟨.imm, .bool (!b)⟩ | none => .bad) := id rfl
@[simp] theorem x_pif {t : Tx} {p q : Px} : pIf t p q ρ = ((t ρ).bind fun b => if b = true then p ρ else q ρ) := id rfl
@[simp] theorem x_tand {t u : Tx} : tAndD t u ρ = ((t ρ).bind fun b => if b = true then u ρ else .ok false) := id rfl
@[simp] theorem x_tor {t u : Tx} : tOrD t u ρ = ((t ρ).bind fun b => if b = true then .ok true else u ρ) := id rfl
@[simp] theorem x_tnot {t : Tx} : tNotD t ρ = ((t ρ).bind fun b => .ok (!b)) := id rfl
@[simp] theorem x_val {p : Px} : tVal p ρ = ((p ρ).bind fun r => match r.d with | .bool b => .ok b | _ => .bad) := id rfl
@[simp] theorem x_tru {p : Px} : tTru p ρ = ((p ρ).bind fun r => match truth r.d with | some b => .ok b | none => .bad) := id rfl
@[simp] theorem x_yes : tYesD ρ = .ok true := id rfl
@[simp] theorem x_tup {ps : List Px} : pTup ps ρ = ((evs ps ρ).bind fun rs => match frzs rs with | some ds => if ds.length ≤ sizeLine then .ok ⟨.imm, .tuple ds⟩ else .bad | none => .bad) := id rfl
@[simp] theorem x_lst {ps : List Px} : pLst ps ρ = ((evs ps ρ).bind fun rs => match owns rs with | some ds => if ds.length ≤ sizeLine then .ok ⟨.own, .list ds⟩ else .bad | none => .bad) := id rfl
@[simp] theorem x_pB {f : List R → Res R} {ps : List Px} : pB f ps ρ = (evs ps ρ).bind f := id rfl
@[simp] theorem x_call {f : Fn} {md : List Md} {ps : List Px} : pCall f md ps ρ = ((evs ps ρ).bind fun rs => match pargs md rs with | some ds => (match f ds with | .ok r [] => .ok r | .exc c fs [] => .exc c fs | _ => .bad) | none => .bad) := id rfl
@[simp] theorem x_evs0 : evs [] ρ = .ok [] := id rfl
@[simp] theorem x_evs1 {p : Px} {ps : List Px} : evs (p :: ps) ρ = ((p ρ).bind fun r => (evs ps ρ).bind fun rs => .ok (r :: rs)) := id rfl
@[simp] theorem x_comp {vs : List Nat} {src : Src} {g : Tgx} {t : Tx} {p : Px} : pComp vs src g t p ρ = (if nov ρ = true then (src ρ).bind fun rs => match compE g t p (wipeE ρ vs) rs with | some ys => compR ys | none => .bad else .bad) := id rfl
@[simp] theorem x_srcS {p : Px} : srcS p ρ = ((p ρ).bind fun r => if r.s = .view then .bad else srcR r) := id rfl
@[simp] theorem x_srcC {p : Px} : srcC p ρ = (p ρ).bind srcR := id rfl
@[simp] theorem x_srcR1 {p : Px} : srcR1 p ρ = ((p ρ).bind fun r => match r.d with | .int j => if inR j = true then .ok (irng 0 j.toNat) else .bad | _ => .bad) := id rfl
@[simp] theorem x_srcR2 {p q : Px} : srcR2 p q ρ = ((p ρ).bind fun a => (q ρ).bind fun b => match a.d, b.d with | .int i, .int j => if inR i = true ∧ inR j = true then .ok (irng i (j - i).toNat) else .bad | _, _ => .bad) := id rfl
@[simp] theorem x_srcRl {s : Sx} {ds : List D} : srcR ⟨s, .list ds⟩ = .ok (ds.map (sub s)) := id rfl
@[simp] theorem x_srcRt {s : Sx} {ds : List D} : srcR ⟨s, .tuple ds⟩ = .ok (ds.map (sub s)) := id rfl
@[simp] theorem x_app {l : Plx} {p : Px} : sApp l p ρ = (match l ρ with | .bad => .bad | .exc c fs => .exc c fs ρ | .ok l => (match l.d with
    | .list ds => (match p ρ with | .bad => .bad | .exc c fs => .exc c fs ρ | .ok r => (match ownR r with | some d => if ds.length < sizeLine then putE l (.list (ds ++ [d])) ρ else .bad | none => .bad))
    | _ => .bad)) := id rfl
@[simp] theorem x_plN {i : Nat} : plN i ρ = (match ρ[i]? with | some (some ⟨.own, d⟩) => .ok ⟨i, d, id⟩ | some (some ⟨.brw, d⟩) => .ok ⟨i, d, id⟩ | _ => .bad) := id rfl
@[simp] theorem x_plI {l : Plx} {p : Px} : plI l p ρ = ((l ρ).bind fun l => (p ρ).bind fun r => match l.d, r.d with
  | .list ds, .int i => (match ixN ds.length i with
    | some j => (match ds[j]? with
      | some d => .ok ⟨l.i, d, fun y => l.put (.list (ds.set j y))⟩
      | none => .bad)
    | none => .bad)
  | _, _ => .bad) := id rfl
@[simp] theorem x_putE {l : Pl} {d : D} : putE l d ρ = (match ρ[l.i]? with | some (some ⟨s, _⟩) => .next (ρ.set l.i (some ⟨s, l.put d⟩)) | _ => .bad) := id rfl
@[simp] theorem x_retV {i : Nat} : sRetV i ρ = (match ρ[i]? with | some (some ⟨.own, d⟩) => .ret ⟨.own, d⟩ (ρ.set i none) | _ => sRet (pVar i) ρ) := id rfl
@[simp] theorem x_gN {i : Nat} {r : R} : gN i r ρ = setS i r ρ := id rfl
@[simp] theorem x_gsN0 : gsN [] ρ = some ρ := id rfl
@[simp] theorem x_gsC {t : Tgx} {u : Tgxs} {r : R} {rs : List R} : gsC t u (r :: rs) ρ = (match t r ρ with | some ρ' => u rs ρ' | none => none) := id rfl
@[simp] theorem x_gT {n : Nat} {t : Tgxs} {s : Sx} {ds : List D} : gT n t ⟨s, .tuple ds⟩ ρ = if ds.length = n then t (ds.map (sub s)) ρ else none := id rfl
@[simp] theorem x_cN {i : Nat} {r : R} : cN i r ρ = setC i r ρ := id rfl
@[simp] theorem x_fnD {n : Nat} {md : List Md} {b : Stx} {ds : List D} : fnD n md b ds = (match b (entE md ds n) with
  | .bad => .bad
  | .next ρ => exitE md ⟨.imm, .none⟩ ρ
  | .ret r ρ => exitE md r ρ
  | .exc c fs ρ => (match outsE md ρ with
    | some ms => .exc c fs ms
    | none => .bad)) := id rfl
end
@[simp] theorem gd_s {b : Bool} : gd b = b := gd_eq b
@[simp] theorem bind_ok' {α β : Type} (a : α) (f : α → Res β) : (Res.ok a).bind f = f a := id rfl
/-! statuses -/
@[simp] theorem lf_int {i : Int} : lf (.int i) = true := id rfl
@[simp] theorem lf_bool {b : Bool} : lf (.bool b) = true := id rfl
@[simp] theorem lf_str {x : Str} : lf (.str x) = true := id rfl
@[simp] theorem lf_none : lf .none = true := id rfl
@[simp] theorem lf_list {ds : List D} : lf (.list ds) = false := id rfl
@[simp] theorem lf_dict {es : List (D × D)} : lf (.dict es) = false := id rfl
@[simp] theorem lf_scr {ds : List D} : lf (scrD ds) = false := id rfl
@[simp] theorem lf_tup {ds : List D} : lf (.tuple ds) = lfs ds := id rfl
@[simp] theorem lfs_nil : lfs [] = true := id rfl
@[simp] theorem lfs_cons {d : D} {ds : List D} : lfs (d :: ds) = (lf d && lfs ds) := id rfl
theorem lfs_all {ds : List D} : lfs ds = ds.all lf := by
  induction ds with
  | nil => rfl
  | cons x xs ih => simp [ih]
@[simp] theorem lfs_map_int {ns : List Int} : lfs (ns.map .int) = true := by rw [lfs_all]; simp
@[simp] theorem vw_imm {d : D} : vw ⟨.imm, d⟩ = ⟨.imm, d⟩ := by unfold vw; split <;> rfl
@[simp] theorem vw_lf {s : Sx} {d : D} (h : lf d = true) : vw ⟨s, d⟩ = ⟨.imm, d⟩ := if_pos h
theorem vw_nlf {s : Sx} {d : D} (h : lf d = false) : vw ⟨s, d⟩ = (match s with | .own => ⟨.view, d⟩ | .brw => ⟨.view, d⟩ | s => ⟨s, d⟩) := by unfold vw; cases s <;> exact if_neg (by simp [h])
@[simp] theorem vw_own {d : D} (h : lf d = false) : vw ⟨.own, d⟩ = ⟨.view, d⟩ := vw_nlf h
@[simp] theorem vw_brw {d : D} (h : lf d = false) : vw ⟨.brw, d⟩ = ⟨.view, d⟩ := vw_nlf h
@[simp] theorem vw_out {d : D} (h : lf d = false) : vw ⟨.out, d⟩ = ⟨.out, d⟩ := vw_nlf h
@[simp] theorem vw_view {d : D} (h : lf d = false) : vw ⟨.view, d⟩ = ⟨.view, d⟩ := vw_nlf h
@[simp] theorem sub_imm {d : D} : sub .imm d = ⟨.imm, d⟩ := by unfold sub; split <;> rfl
@[simp] theorem sub_lf {s : Sx} {d : D} (h : lf d = true) : sub s d = ⟨.imm, d⟩ := if_pos h
theorem sub_nlf {s : Sx} {d : D} (h : lf d = false) : sub s d = (match s with | .imm => ⟨.imm, d⟩ | .out => ⟨.out, d⟩ | _ => ⟨.view, d⟩) := by unfold sub; cases s <;> exact if_neg (by simp [h])
@[simp] theorem sub_out {d : D} (h : lf d = false) : sub .out d = ⟨.out, d⟩ := sub_nlf h
@[simp] theorem sub_view {d : D} (h : lf d = false) : sub .view d = ⟨.view, d⟩ := sub_nlf h
@[simp] theorem sub_own {d : D} (h : lf d = false) : sub .own d = ⟨.view, d⟩ := sub_nlf h
@[simp] theorem frzR_imm {d : D} : frzR ⟨.imm, d⟩ = some d := id rfl
@[simp] theorem frzR_lf {s : Sx} {d : D} (h : lf d = true) : frzR ⟨s, d⟩ = some d := by unfold frzR; cases s <;> first | rfl | exact if_pos h
@[simp] theorem frzs_nil : frzs [] = some [] := id rfl
@[simp] theorem frzs_cons {r : R} {rs : List R} : frzs (r :: rs) = (match frzR r, frzs rs with | some d, some ds => some (d :: ds) | _, _ => none) := id rfl
@[simp] theorem ownR_own {d : D} : ownR ⟨.own, d⟩ = some d := id rfl
@[simp] theorem ownR_lf {s : Sx} {d : D} (h : lf d = true) : ownR ⟨s, d⟩ = some d := by unfold ownR; cases s <;> first | rfl | exact if_pos h
@[simp] theorem ownR_val {d : D} (h : isVal d = true) : ownR ⟨.imm, d⟩ = some d := by
  unfold ownR
  show (if lf d = true then some d else if Sx.imm = .imm ∧ isVal d = true then some d else none) = some d
  by_cases l : lf d = true
  · rw [if_pos l]
  · rw [if_neg l, if_pos ⟨rfl, h⟩]
@[simp] theorem isVal_tup {ds : List D} : isVal (.tuple ds) = true := id rfl
@[simp] theorem owns_nil : owns [] = some [] := id rfl
@[simp] theorem owns_cons {r : R} {rs : List R} : owns (r :: rs) = (match ownR r, owns rs with | some d, some ds => some (d :: ds) | _, _ => none) := id rfl
@[simp] theorem pargs_nil : pargs [] [] = some [] := id rfl
@[simp] theorem pargs_i {md : List Md} {r : R} {rs : List R} : pargs (.i :: md) (r :: rs) = (match frzR r, pargs md rs with | some d, some ds => some (d :: ds) | _, _ => none) := id rfl
@[simp] theorem pargs_v {md : List Md} {r : R} {rs : List R} : pargs (.v :: md) (r :: rs) = (match pargs md rs with | some ds => some (r.d :: ds) | none => none) := id rfl
@[simp] theorem entE_cons {m : Md} {md : List Md} {d : D} {ds : List D} {n : Nat} : entE (m :: md) (d :: ds) n = some (entR m d) :: entE md ds (n - 1) := id rfl
@[simp] theorem entE_nil {ds : List D} {n : Nat} : entE [] ds n = List.replicate n none := by cases ds <;> rfl
@[simp] theorem entR_i {d : D} : entR .i d = ⟨.imm, d⟩ := id rfl
@[simp] theorem entR_m {d : D} : entR .m d = ⟨.brw, d⟩ := id rfl
@[simp] theorem entR_v1 {d : D} (h : lf d = true) : entR .v d = ⟨.imm, d⟩ := if_pos h
@[simp] theorem entR_v0 {d : D} (h : lf d = false) : entR .v d = ⟨.out, d⟩ := if_neg (by simp [h])
@[simp] theorem outsE_nil {ρ : Ev} : outsE [] ρ = some [] := id rfl
@[simp] theorem outsE_i {md : List Md} {x : Option R} {ρ : Ev} : outsE (.i :: md) (x :: ρ) = outsE md ρ := id rfl
@[simp] theorem outsE_v {md : List Md} {x : Option R} {ρ : Ev} : outsE (.v :: md) (x :: ρ) = outsE md ρ := id rfl
@[simp] theorem outsE_m {md : List Md} {d : D} {ρ : Ev} : outsE (.m :: md) (some ⟨.brw, d⟩ :: ρ) = (match outsE md ρ with | some ds => some (d :: ds) | none => none) := id rfl
@[simp] theorem exitE_imm {md : List Md} {d : D} {ρ : Ev} : exitE md ⟨.imm, d⟩ ρ = (match outsE md ρ with | some ms => .ok ⟨.imm, d⟩ ms | none => .bad) := id rfl
@[simp] theorem exitE_own {md : List Md} {d : D} {ρ : Ev} : exitE md ⟨.own, d⟩ ρ = (match outsE md ρ with | some ms => .ok ⟨.own, d⟩ ms | none => .bad) := id rfl
@[simp] theorem sto_imm {d : D} : storable ⟨.imm, d⟩ = true := id rfl
@[simp] theorem sto_own {d : D} : storable ⟨.own, d⟩ = true := id rfl
@[simp] theorem sto_out {d : D} : storable ⟨.out, d⟩ = true := id rfl
@[simp] theorem x_setS {i : Nat} {r : R} {ρ : Ev} : setS i r ρ = (match ρ[i]? with | none => none | some (some ⟨.brw, _⟩) => none | some _ => if storable r = true then some (ρ.set i (some r)) else none) := id rfl
@[simp] theorem x_setC {i : Nat} {r : R} {ρ : Ev} : setC i r ρ = (match ρ[i]? with | none => none | some (some ⟨.brw, _⟩) => none | some _ => if r.s = .own ∨ r.s = .brw then none else some (ρ.set i (some r))) := id rfl
@[simp] theorem wipe0 {ρ : Ev} : wipeE ρ [] = ρ := id rfl
@[simp] theorem wipe1 {ρ : Ev} {v : Nat} {vs : List Nat} : wipeE ρ (v :: vs) = (wipeE ρ vs).set v none := id rfl
@[simp] theorem nov_nil : nov [] = true := id rfl
@[simp] theorem nov_none {ρ : Ev} : nov (none :: ρ) = nov ρ := id rfl
@[simp] theorem nov_imm {d : D} {ρ : Ev} : nov (some ⟨.imm, d⟩ :: ρ) = nov ρ := id rfl
@[simp] theorem nov_out {d : D} {ρ : Ev} : nov (some ⟨.out, d⟩ :: ρ) = nov ρ := id rfl
@[simp] theorem nov_own {d : D} {ρ : Ev} : nov (some ⟨.own, d⟩ :: ρ) = nov ρ := id rfl
@[simp] theorem nov_brw {d : D} {ρ : Ev} : nov (some ⟨.brw, d⟩ :: ρ) = nov ρ := id rfl
/-! indices -/
theorem ixN_nat {n k : Nat} (h : k < n) : ixN n (k : Int) = some k := by
  unfold ixN
  rw [if_pos (by omega), if_pos (by omega)]
  simp
@[simp] theorem ixN_lit {n k : Nat} : ixN n (no_index (@OfNat.ofNat Int k instOfNat)) = if k < n then some k else none := by
  by_cases h : k < n
  · rw [if_pos h]
    exact ixN_nat h
  · rw [if_neg h]
    unfold ixN
    have e : (@OfNat.ofNat Int k instOfNat) = (k : Int) := id rfl
    rw [e, if_pos (by omega), if_neg (by omega)]
theorem atI_ofNat {α : Type} {xs : List α} {k : Nat} : atI xs (k : Int) = xs[k]? := by
  unfold atI
  by_cases h : k < xs.length
  · rw [ixN_nat h]; rfl
  · have : ixN xs.length (k : Int) = none := by
      unfold ixN
      rw [if_pos (by omega), if_neg (by omega)]
    rw [this]
    exact (List.getElem?_eq_none (by omega)).symm
@[simp] theorem atI_lit {α : Type} {xs : List α} {k : Nat} : atI xs (no_index (@OfNat.ofNat Int k instOfNat)) = xs[k]? := atI_ofNat
theorem atI_some {α : Type} {xs : List α} {i : Int} (h0 : 0 ≤ i) (h : i < xs.length) : atI xs i = some (xs[i.toNat]'(by omega)) := by
  obtain ⟨k, rfl⟩ := Int.eq_ofNat_of_zero_le h0
  have hk : k < xs.length := by omega
  have e : atI xs (k : Int) = xs[k]? := atI_ofNat
  rw [e]
  simp [hk]
theorem ixN_some {n : Nat} {i : Int} (h0 : 0 ≤ i) (h : i < n) : ixN n i = some i.toNat := by
  unfold ixN
  rw [if_pos h0, if_pos h]
@[simp] theorem atI_map {α β : Type} {f : α → β} {xs : List α} {i : Int} : atI (xs.map f) i = (atI xs i).map f := by
  unfold atI
  rw [List.length_map]
  cases ixN xs.length i with
  | none => rfl
  | some j => simp
@[simp] theorem x_ixR_l {s : Sx} {ds : List D} {i : Int} {t : Sx} : ixR ⟨s, .list ds⟩ ⟨t, .int i⟩ = (match atI ds i with | some d => .ok (sub s d) | none => .bad) := id rfl
@[simp] theorem x_ixR_t {s : Sx} {ds : List D} {i : Int} {t : Sx} : ixR ⟨s, .tuple ds⟩ ⟨t, .int i⟩ = (match atI ds i with | some d => .ok (sub s d) | none => .bad) := id rfl
@[simp] theorem x_ixR_s {s : Sx} {ds : List D} {i : Int} {t : Sx} : ixR ⟨s, scrD ds⟩ ⟨t, .int i⟩ = (match atI ds i with | some d => .ok (sub .view d) | none => .bad) := id rfl
@[simp] theorem x_addI {s t : Sx} {i j : Int} : addR ⟨s, .int i⟩ ⟨t, .int j⟩ = .ok ⟨.imm, .int (i + j)⟩ := id rfl
@[simp] theorem x_addL {s t : Sx} {xs ys : List D} : addR ⟨s, .list xs⟩ ⟨t, .list ys⟩ = if xs.length + ys.length ≤ sizeLine then dnew (both s t) (xs ++ ys) else .bad := id rfl
@[simp] theorem x_addT {s t : Sx} {xs ys : List D} : addR ⟨s, .tuple xs⟩ ⟨t, .tuple ys⟩ = if xs.length + ys.length ≤ sizeLine then tnew (both s t) (xs ++ ys) else .bad := id rfl
@[simp] theorem fEq_ii {i j : Int} : fEq (.int i) (.int j) = some (i == j) := id rfl
@[simp] theorem fEq_ss {x y : Str} : fEq (.str x) (.str y) = some (x == y) := id rfl
@[simp] theorem fEq_sn {x : Str} : fEq (.str x) .none = some false := id rfl
@[simp] theorem fEq_ns {x : Str} : fEq .none (.str x) = some false := id rfl
@[simp] theorem fEq_in {i : Int} : fEq (.int i) .none = some false := id rfl
@[simp] theorem fEq_ni {i : Int} : fEq .none (.int i) = some false := id rfl
@[simp] theorem fEq_is {i : Int} {x : Str} : fEq (.int i) (.str x) = some false := id rfl
@[simp] theorem fEq_si {i : Int} {x : Str} : fEq (.str x) (.int i) = some false := id rfl
@[simp] theorem dBool_some {b : Bool} : dBool (some b) = some (.bool b) := id rfl
@[simp] theorem dNot_some {b : Bool} : dNot (some b) = some (.bool (!b)) := id rfl
@[simp] theorem x_b1 {f : D → Option D} {r : R} : b1 f [r] = (match f r.d with | some d => .ok ⟨.imm, d⟩ | none => .bad) := id rfl
@[simp] theorem x_len_l {ds : List D} : fLen (.list ds) = some (.int (ds.length : Int)) := id rfl
@[simp] theorem x_len_t {ds : List D} : fLen (.tuple ds) = some (.int (ds.length : Int)) := id rfl
@[simp] theorem x_len_s {ds : List D} : fLen (scrD ds) = some (.int (ds.length : Int)) := id rfl
@[simp] theorem x_b2i {f : Int → Int → Int} {s t : Sx} {i j : Int} : b2i f [⟨s, .int i⟩, ⟨t, .int j⟩] = .ok ⟨.imm, .int (f i j)⟩ := id rfl
@[simp] theorem x_tup_l {s : Sx} {ds : List D} : bTuple [⟨s, .list ds⟩] = tnew s ds := id rfl
@[simp] theorem x_tup_t {ds : List D} : bTuple [⟨.imm, .tuple ds⟩] = .ok ⟨.imm, .tuple ds⟩ := id rfl
@[simp] theorem x_list_l {s : Sx} {ds : List D} : bList [⟨s, .list ds⟩] = dnew s ds := id rfl
@[simp] theorem x_list_t {s : Sx} {ds : List D} : bList [⟨s, .tuple ds⟩] = dnew s ds := id rfl
@[simp] theorem tnew_imm {ds : List D} : tnew .imm ds = .ok ⟨.imm, .tuple ds⟩ := if_pos (.inr rfl)
@[simp] theorem tnew_lf {s : Sx} {ds : List D} (h : lfs ds = true) : tnew s ds = .ok ⟨.imm, .tuple ds⟩ := if_pos (.inl h)
@[simp] theorem dnew_lf {s : Sx} {ds : List D} (h : lfs ds = true) : dnew s ds = .ok ⟨.own, .list ds⟩ := if_pos h
@[simp] theorem items_l {ds : List D} : itemsD (.list ds) = some ds := id rfl
@[simp] theorem items_t {ds : List D} : itemsD (.tuple ds) = some ds := id rfl
@[simp] theorem truth_b {b : Bool} : truth (.bool b) = some b := id rfl
@[simp] theorem truth_i {i : Int} : truth (.int i) = some (i != 0) := id rfl
@[simp] theorem truth_n : truth .none = some false := id rfl
@[simp] theorem truth_l {ds : List D} : truth (.list ds) = some (!ds.isEmpty) := id rfl
@[simp] theorem truth_t {ds : List D} : truth (.tuple ds) = some (!ds.isEmpty) := id rfl
@[simp] theorem eqv_ss {x y : Str} : PyData.eqv (.str x) (.str y) = (x == y) := by simp [PyData.eqv]
@[simp] theorem eqv_ii {x y : Int} : PyData.eqv (.int x) (.int y) = (x == y) := by simp [PyData.eqv]
@[simp] theorem eqv_sn {x : Str} : PyData.eqv (.str x) .none = false := by simp [PyData.eqv]
@[simp] theorem eqv_ns {x : Str} : PyData.eqv .none (.str x) = false := by simp [PyData.eqv]
/-- an atom in a tuple of atoms -/
@[simp] theorem fIn_t {a : D} {ds : List D} (h1 : atomD a = true) (h2 : ds.all atomD = true) : fIn a (.tuple ds) = some (ds.any fun z => PyData.eqv z a) := by
  unfold fIn
  simp [h1, h2]
@[simp] theorem atom_i {i : Int} : atomD (.int i) = true := id rfl
@[simp] theorem atom_s {x : Str} : atomD (.str x) = true := id rfl
@[simp] theorem atom_n : atomD .none = true := id rfl
@[simp] theorem atom_b {b : Bool} : atomD (.bool b) = true := id rfl
@[simp] theorem x_eqF {a b : D} : eqF a b = dBool (fEq a b) := id rfl
@[simp] theorem x_neF {a b : D} : neF a b = dNot (fEq a b) := id rfl
@[simp] theorem x_inF {a b : D} : inF a b = dBool (fIn a b) := id rfl
@[simp] theorem x_ninF {a b : D} : ninF a b = dNot (fIn a b) := id rfl
/-! loops -/
@[simp] theorem loop_nil {g : Tgx} {b : Stx} {ρ : Ev} : loopS g b [] ρ = .next ρ := id rfl
theorem loop_cons {g : Tgx} {b : Stx} {ρ : Ev} {r : R} {rs : List R} : loopS g b (r :: rs) ρ = (match g r ρ with
    | none => .bad
    | some ρ1 => (match b ρ1 with
      | .next ρ2 => loopS g b rs ρ2
      | x => x)) := rfl
/-- to the end, by an invariant of what was taken and the frame -/
theorem loop_inv {α : Type} (I : List α → Ev → Prop) {g : Tgx} {b : Stx} {item : α → R} {xs : List α} {ρ : Ev} (h0 : I [] ρ)
    (hs : ∀ pre x post ρ, xs = pre ++ x :: post → I pre ρ → ∃ ρ1 ρ2, g (item x) ρ = some ρ1 ∧ b ρ1 = .next ρ2 ∧ I (pre ++ [x]) ρ2) :
    ∃ ρ', loopS g b (xs.map item) ρ = .next ρ' ∧ I xs ρ' := by
  have go : ∀ post pre ρ, xs = pre ++ post → I pre ρ → ∃ ρ', loopS g b (post.map item) ρ = .next ρ' ∧ I xs ρ' := by
    intro post
    induction post with
    | nil => intro pre ρ e h; rw [List.append_nil] at e; exact ⟨ρ, rfl, e ▸ h⟩
    | cons x post ih =>
      intro pre ρ e h
      obtain ⟨ρ1, ρ2, e1, e2, h2⟩ := hs pre x post ρ e h
      obtain ⟨ρ', e3, h3⟩ := ih (pre ++ [x]) ρ2 (by rw [e]; simp) h2
      refine ⟨ρ', ?_, h3⟩
      rw [List.map_cons, loop_cons, e1]
      simp only [e2]
      exact e3
  exact go xs [] ρ rfl h0
theorem comp_map {α : Type} {g : Tgx} {t : Tx} {p : Px} {ρ : Ev} {item : α → R} {xs : List α} {c : α → Bool} {f : α → R}
    (h : ∀ x ∈ xs, ∃ ρ1, g (item x) ρ = some ρ1 ∧ t ρ1 = .ok (c x) ∧ (c x = true → p ρ1 = .ok (f x))) : compE g t p ρ (xs.map item) = some ((xs.filter c).map f) := by
  induction xs with
  | nil => rfl
  | cons x xs ih =>
    obtain ⟨ρ1, e1, e2, e3⟩ := h x (by simp)
    have ih2 := ih fun y hy => h y (by simp [hy])
    rw [List.map_cons]
    unfold compE
    simp only [e1, e2]
    cases hc : c x with
    | false => simp [hc, ih2]
    | true => simp [hc, ih2, e3 hc]
theorem comp_map1 {α : Type} {g : Tgx} {p : Px} {ρ : Ev} {item : α → R} {xs : List α} {f : α → R}
    (h : ∀ x ∈ xs, ∃ ρ1, g (item x) ρ = some ρ1 ∧ p ρ1 = .ok (f x)) : compE g tYesD p ρ (xs.map item) = some (xs.map f) := by
  have := comp_map (t := tYesD) (c := fun _ => true) (f := f) fun x hx => let ⟨ρ1, e1, e2⟩ := h x hx; ⟨ρ1, e1, rfl, fun _ => e2⟩
  rw [this, List.filter_eq_self.mpr fun _ _ => rfl]
theorem owns_map {α : Type} {f : α → R} {e : α → D} {xs : List α} (h : ∀ x ∈ xs, ownR (f x) = some (e x)) : owns (xs.map f) = some (xs.map e) := by
  induction xs with
  | nil => rfl
  | cons x xs ih => simp [h x (by simp), ih fun y hy => h y (by simp [hy])]
theorem frzs_map {α : Type} {f : α → R} {e : α → D} {xs : List α} (h : ∀ x ∈ xs, frzR (f x) = some (e x)) : frzs (xs.map f) = some (xs.map e) := by
  induction xs with
  | nil => rfl
  | cons x xs ih => simp [h x (by simp), ih fun y hy => h y (by simp [hy])]
theorem compR_own {α : Type} {f : α → R} {e : α → D} {xs : List α} (hl : xs.length ≤ sizeLine) (h : ∀ x ∈ xs, ownR (f x) = some (e x)) : compR (xs.map f) = .ok ⟨.own, .list (xs.map e)⟩ := by
  unfold compR
  rw [List.length_map, if_pos hl, owns_map h]
theorem irng_map {lo : Int} {n : Nat} : irng lo n = (List.range n).map fun (k : Nat) => (⟨.imm, .int (lo + (k : Int))⟩ : R) := rfl
end Oz

namespace Oz
open PySem PySem.Spec L2
open PyProof.Rows hiding St
variable [WD]

/-! ### data that == compares -/
structure Sh (n : Nat) (d : D) : Prop where
  c : d.canLay0 = true
  d : d.depth ≤ n
theorem canLayAll0_of {ds : List D} (h : ∀ d ∈ ds, d.canLay0 = true) : PyData.canLayAll0 ds = true := by
  induction ds with
  | nil => simp [PyData.canLayAll0]
  | cons x xs ih => simp [PyData.canLayAll0, h x (by simp), ih fun d hd => h d (by simp [hd])]
theorem depthAll_of {ds : List D} {n : Nat} (h : ∀ d ∈ ds, d.depth ≤ n) : PyData.depthAll ds ≤ n := by
  induction ds with
  | nil => simp [PyData.depthAll]
  | cons x xs ih => simp only [PyData.depthAll]; exact Nat.max_le.mpr ⟨h x (by simp), ih fun d hd => h d (by simp [hd])⟩
theorem Sh.int {n : Nat} {i : Int} : Sh n (.int i) := ⟨by simp [PyData.canLay0], by simp [PyData.depth]⟩
theorem Sh.bool {n : Nat} {b : Bool} : Sh n (.bool b) := ⟨by simp [PyData.canLay0], by simp [PyData.depth]⟩
theorem Sh.none {n : Nat} : Sh n .none := ⟨by simp [PyData.canLay0], by simp [PyData.depth]⟩
theorem Sh.str {n : Nat} {x : Str} (h : PyData.strOk x = true) : Sh n (.str x) := ⟨by simp [PyData.canLay0, h], by simp [PyData.depth]⟩
theorem strOk_of (s : String) : PyData.strOk (Str.ofString s) = true := by
  rw [Str.ofString_eq_toList]
  unfold PyData.strOk
  rw [Array.all_eq_true]
  intro i hi
  have : (s.toList.map Char.toNat)[i]'(by simpa using hi) < 0x110000 := by
    rw [List.getElem_map]
    have h := (s.toList[i]'(by simpa using hi)).valid
    have h2 : ∀ n : Nat, n.isValidChar → n < 0x110000 := fun n h => h.elim (fun h => by omega) fun h => h.2
    exact h2 _ h
  simpa using this
theorem Sh.lit {n : Nat} {w : String} : Sh n (.str (Str.ofString w)) := .str (strOk_of w)
theorem Sh.tup {n : Nat} {ds : List D} (h : ∀ d ∈ ds, Sh n d) : Sh (n + 1) (.tuple ds) := ⟨by simp only [PyData.canLay0]; exact canLayAll0_of fun d hd => (h d hd).c, by simp only [PyData.depth]; exact Nat.succ_le_succ (depthAll_of fun d hd => (h d hd).d)⟩
theorem Sh.list {n : Nat} {ds : List D} (h : ∀ d ∈ ds, Sh n d) : Sh (n + 1) (.list ds) := ⟨by simp only [PyData.canLay0]; exact canLayAll0_of fun d hd => (h d hd).c, by simp only [PyData.depth]; exact Nat.succ_le_succ (depthAll_of fun d hd => (h d hd).d)⟩
theorem Sh.le {n m : Nat} {d : D} (h : Sh n d) (l : n ≤ m) : Sh m d := ⟨h.c, Nat.le_trans h.d l⟩
theorem Sh.shaped {n : Nat} {d : D} (h : Sh n d) (l : n ≤ 64 := by decide) : SeqAt.shaped d = true := by
  unfold SeqAt.shaped
  rw [h.c, Bool.true_and]
  exact decide_eq_true (Nat.le_trans h.d l)
theorem fEq_shaped {a b : D} (ha : SeqAt.shaped a = true) (hb : SeqAt.shaped b = true) : fEq a b = some (PyData.eqv a b) := by
  have hc : (SeqAt.shaped a = true ∧ SeqAt.shaped b = true) := ⟨ha, hb⟩
  unfold fEq
  split <;> first | rfl | (simp [PyData.eqv]; done) | exact if_pos hc
theorem fEq_refl {a : D} (ha : SeqAt.shaped a = true) : fEq a a = some true := by
  rw [fEq_shaped ha ha, PySem.SeqAt.eqv_refl a (SeqAt.canLay_of_shaped ha)]
/-! ### appending at a place -/
end Oz

namespace Oz
open PySem PySem.Spec L2
open PyProof.Rows hiding St
variable [WD]

section
variable {K : PySem.W.Frag} {E : XK} {Z O H Z' O' H' : Hp} {σ : St} {ρ : Ev} {F F1 G F2 : List Addr} {l : Pl} {v : V} {s : Sx} {nx : St → Hp → Prop} {rt : VK}
/-- a place within a place -/
theorem PlAt.child {hd G0 : List Addr} {xs : List V} {ds : List D} {mk : List D → D} {j : Nat} {d : D} (p : PlAt K Z O H σ ρ F l v s F1 G F2) (eg : G = hd ++ G0) (qs : Owns K Z H xs ds G0) (hj : ds[j]? = some d)
    (reb : ∀ Z' H' ds' F', Same Z Z' → (∀ a ∈ hd, ∀ o, H a = some o → (∀ ps, o ≠ .tbl ps) → H' a = some o) → ds'.length = ds.length → Owns K Z' H' xs ds' F' → Own K Z' H' v (mk ds') (hd ++ F')) :
    ∃ x F1' G' F2', xs[j]? = some x ∧ PlAt K Z O H σ ρ F ⟨l.i, d, fun y => l.put (mk (ds.set j y))⟩ x s F1' G' F2' := by
  obtain ⟨x, A, Gi, B, h1, h2, h3, h4⟩ := qs.at hj
  refine ⟨x, F1 ++ (hd ++ A), Gi, B ++ F2, h1, ⟨p.slot, p.st, ?_, h3, fun Z' O' H' d' G' ez eo n k q' => ?_⟩⟩
  · rw [p.eq, eg, h2]
    simp
  · have q5 := h4 Z' H' x d' G' ez (fun c hc o h => k c (by
        rcases List.mem_append.mp hc with hc | hc
        · simp [hc]
        · simp [hc]) o h) q'
    rw [set_same h1] at q5
    have qn := reb Z' H' (ds.set j d') _ ez (fun a ha o h => k a (by simp [ha]) o h) (by simp) q5
    have sl := p.back Z' O' H' (mk (ds.set j d')) _ ez eo n (fun c hc o h => k c (by
        rcases List.mem_append.mp hc with hc | hc
        · simp [hc]
        · simp [hc]) o h) qn
    have ee : F1 ++ (hd ++ A) ++ (G' ++ (B ++ F2)) = F1 ++ ((hd ++ (A ++ (G' ++ B))) ++ F2) := by simp
    rw [ee]
    exact sl
/-- the root cell of a place is written: the frame behind -/
theorem PlAt.store {Z2 O2 H2 : Hp} {a0 : Addr} {o : HO} {dn : D} {Gn : List Addr} (pa : PlAt K Z2 O2 H2 σ ρ F l v s F1 G F2) (rl : Rel K Z O H σ ρ F) (n : nov ρ = true) (x : Ext [] Z O H Z2 O2 H2) (g2 : Good Z2 O2 H2) (ha : a0 ∈ G) (fo : fzn o = false)
    (qn : Own K Z2 (upd H2 a0 o) v dn Gn) (ndn : Gn.Nodup) (hn : ∀ c ∈ Gn, c ∈ G ∨ (H c = none ∧ O2 c = none)) (h : SRK K E Z O H σ ρ F nx rt (putE l dn ρ)) : nx σ (upd H2 a0 o) := by
  have rl2 := rl.ext x g2
  obtain ⟨rl3, n3, tr3⟩ := pa.wrote rl2 n ha fo qn ndn fun c hc => (hn c hc).imp id fun z => ⟨(fun w => by
    obtain ⟨o, h, _⟩ := rl.sl.live c w
    rw [z.1] at h
    cases h), z.2⟩
  obtain ⟨d0, hs0⟩ := pa.slot
  unfold putE at h
  rw [hs0] at h
  have tr12 : TrS Z O H σ ρ F Z2 O2 H2 σ ρ F := TrS.ext x
  refine h σ _ Z2 O2 _ rl3 n3 ⟨⟨tr12.tr.z, fun c o hc hn nn => ?_, tr12.tr.zn, fun c hc => ?_, fun c h => (tr3.tr.fr c h).elim .inl (tr12.tr.fr c), fun c hn h => tr3.tr.tab c hn (tr12.tr.tab c hn h)⟩, tr12.o, rfl, fun j d' hj => tr3.brw j d' hj, tr12.on⟩
  · exact tr3.tr.keep c o (tr12.tr.keep c o hc hn nn) hn nn
  · rcases List.mem_append.mp hc with hc | hc
    · left; rw [pa.eq]; simp [hc]
    · rcases List.mem_append.mp hc with hc | hc
      · rcases hn c hc with z | z
        · left; rw [pa.eq]; simp [z]
        · right; exact z.1
      · left; rw [pa.eq]; simp [hc]
theorem nodup_mid {A G B G' : List Addr} (h : (A ++ (G ++ B)).Nodup) (n : G'.Nodup) (d : ∀ c ∈ G', c ∉ A ++ (G ++ B)) : (A ++ (G' ++ B)).Nodup := by
  obtain ⟨n1, n2, n3⟩ := List.nodup_append.mp h
  obtain ⟨n4, n5, n6⟩ := List.nodup_append.mp n2
  refine List.nodup_append.mpr ⟨n1, List.nodup_append.mpr ⟨n, n5, fun a ha b hb e => d a ha (by rw [e]; simp [hb])⟩, fun a ha b hb e => ?_⟩
  rcases List.mem_append.mp hb with hb | hb
  · exact d b hb (by rw [← e]; simp [ha])
  · exact n3 a ha b (by simp [hb]) e
end

/-! ### l[p] = e, in a list -/
def sSetI (l : Plx) (p q : Px) : Stx := fun ρ => match q ρ with
  | .bad => .bad
  | .exc c fs => .exc c fs ρ
  | .ok r => (match ownR r with
    | none => .bad
    | some d => (match l ρ with
      | .bad => .bad
      | .exc c fs => .exc c fs ρ
      | .ok l => (match p ρ with
        | .bad => .bad
        | .exc c fs => .exc c fs ρ
        | .ok i => (match l.d, i.d with
          | .list ds, .int k => (match ixN ds.length k with
            | some j => putE l (.list (ds.set j d)) ρ
            | none => .bad)
          | _, _ => .bad))))
section
variable {X : Cx} {E : XK} {a b e : Expr} {l : Plx} {p q : Px} {pos apos cpos : Pos}
theorem s_setI (he : PE X e (tP X.K E q)) (hl : PE X a (tPl X.K E l)) (hp : PE X b (tP X.K E p)) (hg : ∀ {to ti : TE}, PE X a to → PE X b ti → PG X (.Subscript a b apos) (gSub to ti rSetL))
    (hs : swapsWithSole [.Subscript a b apos] e pos.line X.env = pure false := by rfl) (hw : swappedStores [.Subscript a b apos] e X.env = pure none := by rfl)
    (h1 : (assignEach [.Subscript a b apos] X.env).map (·.2) = [assign (.Subscript a b apos) X.env] := by rfl) : PS X (.Assign [.Subscript a b apos] e pos) (tS X.K E (sSetI l p q)) := by
  refine (ps_asg he (hg hl hp) hs hw h1).imp fun D σ H h => ?_
  obtain ⟨Z, O, ρ, F, rl, n, h⟩ := h
  refine ⟨Z, O, ρ, F, rl, ?_⟩
  unfold sSetI at h
  cases e1 : q ρ with
  | bad => rw [e1] at h; exact h.elim
  | exc c fs => rw [e1] at h; exact SRK.exc rl h
  | ok r =>
    rw [e1] at h
    simp only at h
    cases er : ownR r with
    | none => rw [er] at h; exact h.elim
    | some d =>
      rw [er] at h
      simp only at h
      intro y H1 Z1 O1 Gy x1 g1 q1 nd1 fr1
      have rl1 := rl.ext x1 g1
      refine ⟨Z1, O1, ρ, F, rl1, ?_⟩
      cases e2 : l ρ with
      | bad => rw [e2] at h; exact h.elim
      | exc c fs => rw [e2] at h; exact ExcK.ext (SRK.exc rl h) x1
      | ok l0 =>
        rw [e2] at h
        simp only at h
        intro v H2 Z2 O2 s F1 G F2 x2 g2 pa
        have rl2 := rl1.ext x2 g2
        refine ⟨Z2, O2, ρ, F, rl2, ?_⟩
        cases e3 : p ρ with
        | bad => rw [e3] at h; exact h.elim
        | exc c fs => rw [e3] at h; exact ExcK.ext (SRK.exc rl h) (x1.trans0 x2)
        | ok i =>
          rw [e3] at h
          simp only at h
          intro w H3 Z3 O3 Gi x3 g3 q3 nd3 fr3
          have pa3 := pa.ext x3
          obtain ⟨si, di⟩ := i
          cases el : l0.d with
          | list ds =>
            cases di with
            | int k =>
              rw [el] at h
              simp only at h
              cases ei : ixN ds.length k with
              | none => rw [ei] at h; exact h.elim
              | some j =>
                rw [ei] at h
                simp only at h
                have lk := q3.look g3
                cases lk
                have qo := pa3.own
                rw [el] at qo
                obtain ⟨a0, xs, G0, rfl, ha0, qs, eg⟩ := qo.lst_inv
                obtain ⟨hjn, _⟩ : j < ds.length ∧ True := ⟨(ixN_seq ei).2.1, trivial⟩
                obtain ⟨x, A, Gj, B, h1, h2, h3, h4⟩ := qs.at (List.getElem?_eq_getElem hjn)
                have x123 := (x1.trans0 x2).trans0 x3
                obtain ⟨G', qy, cG⟩ := ownR_ok g1 q1 er
                have sG : ∀ c ∈ G', c ∈ Gy := fun c hc => by
                  rcases cG with z | z
                  · rw [z] at hc; exact hc
                  · rw [z] at hc; cases hc
                have nG : G'.Nodup := by
                  rcases cG with z | z
                  · rw [z]; exact nd1
                  · rw [z]; exact List.nodup_nil
                have fG : ∀ c ∈ G', H c = none := fun c hc => (fr1 c (sG c hc)).1.elim id fun z => by cases z
                have oG : ∀ c ∈ G', O3 c = none := fun c hc => by
                  obtain ⟨o, hy, _⟩ := qy.live c hc
                  cases w : O3 c with
                  | none => rfl
                  | some o' =>
                    rcases (x2.trans0 x3).on c (by rw [w]; simp) with z | z | z
                    · exact absurd (fr1 c (sG c hc)).2 z
                    · rw [hy] at z; cases z
                    · cases z
                have nF := rl.nd
                rw [pa3.eq, eg] at nF
                have nGG : (a0 :: G0).Nodup := (List.nodup_append.mp (List.nodup_append.mp nF).2.1).1
                have aG0 : a0 ∉ G0 := (List.nodup_cons.mp nGG).1
                have inF : ∀ c ∈ a0 :: G0, c ∈ F := fun c hc => by rw [pa3.eq, eg]; simp only [List.mem_append]; exact .inr (.inl hc)
                have dF : ∀ c ∈ G', c ∉ F := fun c hc z => by
                  obtain ⟨o, hy, _⟩ := rl.sl.live c z
                  rw [fG c hc] at hy
                  cases hy
                refine ⟨a0, xs, k, j, rfl, rfl, ha0, by rw [qs.length]; exact ei, ?_⟩
                have kp : ∀ c, c ≠ a0 → ∀ o, H3 c = some o → upd H3 a0 (.lst (xs.set j y)) c = some o := fun c hc o h => by rw [upd_ne hc]; exact h
                have qn : Own X.K Z3 (upd H3 a0 (.lst (xs.set j y))) (.ref a0) (.list (ds.set j d)) (a0 :: (A ++ (G' ++ B))) := by
                  refine .lst upd_same (h4 Z3 _ y d G' (Same.refl _) (fun c hc o h _ => kp c (fun z => aG0 (by rw [h2, ← z]; rcases List.mem_append.mp hc with hc | hc <;> simp [hc])) o h) ?_)
                  exact Own.mono (x2.z.trans x3.z) (fun c hc o h n => kp c (fun z => dF c hc (inF c (by rw [z]; simp))) o (x3.h.s _ _ (x2.h.s _ _ h n) n)) qy
                refine pa3.store rl n x123 g3 (a0 := a0) (by rw [eg]; simp) rfl qn ?_ (fun c hc => ?_) h
                · refine List.nodup_cons.mpr ⟨fun z => ?_, nodup_mid (G := Gj) (by rw [← h2]; exact (List.nodup_cons.mp nGG).2) nG fun c hc z => dF c hc (inF c (by rw [h2]; exact List.mem_cons_of_mem _ z))⟩
                  rcases List.mem_append.mp z with z | z
                  · exact aG0 (by rw [h2]; simp [z])
                  · rcases List.mem_append.mp z with z | z
                    · exact dF a0 z (inF a0 (by simp))
                    · exact aG0 (by rw [h2]; simp [z])
                · rcases List.mem_cons.mp hc with z | z
                  · left; rw [eg, z]; simp
                  · rcases List.mem_append.mp z with z | z
                    · left; rw [eg, h2]; simp [z]
                    · rcases List.mem_append.mp z with z | z
                      · right; exact ⟨fG c z, oG c z⟩
                      · left; rw [eg, h2]; simp [z]
            | _ => rw [el] at h; exact h.elim
          | _ => rw [el] at h; exact h.elim
end
end Oz

namespace Oz
open PySem PySem.Spec L2
open PyProof.Rows hiding St
variable [WD]

/-! ### dicts -/
def keyOf : D → Option Key
  | .int i => some (.inl i)
  | .str x => some (.inr x)
  | _ => none
theorem keyOf_kd (k : Key) : keyOf (kd k) = some k := by cases k <;> rfl
def isDct (es : List (D × D)) : Bool := es.all fun e => (keyOf e.1).isSome
def lkD (k : Key) : List (D × D) → Option D
  | [] => none
  | (a, d) :: r => if keyOf a = some k then some d else lkD k r
def noD (k : Key) (es : List (D × D)) : Bool := es.all fun e => decide (¬ keyOf e.1 = some k)
def ukD (k : Key) : List (D × D) → Bool
  | [] => true
  | (a, _) :: r => if keyOf a = some k then noD k r else ukD k r
def ptD (k : Key) (d : D) : List (D × D) → List (D × D)
  | [] => [(kd k, d)]
  | (a, x) :: r => if keyOf a = some k then (a, d) :: r else (a, x) :: ptD k d r
theorem noD_val {k : Key} : ∀ {kvs : List (Key × V)} {es : List (D × D)}, es.map (·.1) = kvs.map (fun p => kd p.1) → noD k es = true → ∀ p ∈ kvs, ¬ p.1 = k
  | [], [], _, _ => fun p hp => by cases hp
  | (k1, v) :: kvs, (a, d) :: es, h, n => by
    simp only [List.map_cons, List.cons.injEq] at h
    obtain ⟨h1, h2⟩ := h
    unfold noD at n
    rw [List.all_cons] at n
    obtain ⟨n1, n2⟩ := Bool.and_eq_true_iff.mp n
    intro p hp
    rcases List.mem_cons.mp hp with z | z
    · rw [z]
      have := of_decide_eq_true n1
      rw [h1, keyOf_kd] at this
      exact fun e => this (by rw [show k1 = k from e])
    · exact noD_val h2 n2 p z
  | [], _ :: _, h, _ => by simp at h
  | _ :: _, [], h, _ => by simp at h
theorem lk_none {k : Key} : ∀ {kvs : List (Key × V)} {es : List (D × D)}, es.map (·.1) = kvs.map (fun p => kd p.1) → lkD k es = none → valV kvs k = none
  | [], [], _, _ => rfl
  | (k1, v) :: kvs, (a, d) :: es, h, n => by
    simp only [List.map_cons, List.cons.injEq] at h
    obtain ⟨h1, h2⟩ := h
    unfold lkD at n
    by_cases c : keyOf a = some k
    · rw [if_pos c] at n; cases n
    · rw [if_neg c] at n
      have hk : ¬ k1 = k := fun e => c (by rw [h1, keyOf_kd]; exact congrArg some e)
      rw [valV_neg (p := (k1, v)) hk]
      exact lk_none h2 n
  | [], _ :: _, h, _ => by simp at h
  | _ :: _, [], h, _ => by simp at h
theorem map_id_of {k : Key} {y : V} : ∀ {kvs : List (Key × V)}, (∀ p ∈ kvs, ¬ p.1 = k) → kvs.map (fun kv => if kv.1 = k then (kv.1, y) else kv) = kvs
  | [], _ => rfl
  | p :: kvs, h => by
    rw [List.map_cons, if_neg (h p (by simp)), map_id_of fun q hq => h q (by simp [hq])]
theorem lk_some {k : Key} : ∀ {kvs : List (Key × V)} {es : List (D × D)} {d : D}, es.map (·.1) = kvs.map (fun p => kd p.1) → lkD k es = some d →
    ∃ j x, valV kvs k = some x ∧ (kvs.map (·.2))[j]? = some x ∧ (es.map (·.2))[j]? = some d ∧
      (ukD k es = true → ∀ (y : V) (d' : D), (kvs.map (fun kv => if kv.1 = k then (kv.1, y) else kv)).map (·.2) = (kvs.map (·.2)).set j y ∧ (ptD k d' es).map (·.2) = (es.map (·.2)).set j d' ∧ (ptD k d' es).map (·.1) = (kvs.map (fun kv => if kv.1 = k then (kv.1, y) else kv)).map (fun p => kd p.1))
  | [], [], _, _, h => by simp [lkD] at h
  | (k1, v) :: kvs, (a, d0) :: es, d, h, n => by
    simp only [List.map_cons, List.cons.injEq] at h
    obtain ⟨h1, h2⟩ := h
    unfold lkD at n
    by_cases c : keyOf a = some k
    · rw [if_pos c] at n
      cases n
      have hk : k1 = k := by
        have := c
        rw [h1, keyOf_kd] at this
        exact Option.some.inj this
      refine ⟨0, v, valV_pos (p := (k1, v)) hk, rfl, rfl, fun u y d' => ?_⟩
      unfold ukD at u
      rw [if_pos c] at u
      unfold ptD
      rw [if_pos c]
      rw [List.map_cons, if_pos hk, map_id_of (noD_val h2 u)]
      refine ⟨rfl, rfl, ?_⟩
      rw [List.map_cons, List.map_cons, h1, h2]
    · rw [if_neg c] at n
      have hk : ¬ k1 = k := fun e => c (by rw [h1, keyOf_kd]; exact congrArg some e)
      obtain ⟨j, x, e1, e2, e3, e4⟩ := lk_some h2 n
      refine ⟨j + 1, x, by rw [valV_neg (p := (k1, v)) hk]; exact e1, by simpa using e2, by simpa using e3, fun u y d' => ?_⟩
      unfold ukD at u
      rw [if_neg c] at u
      obtain ⟨f1, f2, f3⟩ := e4 u y d'
      unfold ptD
      rw [if_neg c, List.map_cons, if_neg hk]
      refine ⟨?_, ?_, ?_⟩
      · rw [List.map_cons, f1, List.map_cons, List.set_cons_succ]
      · rw [List.map_cons, f2, List.map_cons, List.set_cons_succ]
      · rw [List.map_cons, f3, List.map_cons, h1]
  | [], _ :: _, _, h, _ => by simp at h
  | _ :: _, [], _, h, _ => by simp at h
theorem pt_new {k : Key} {d : D} : ∀ {es : List (D × D)}, lkD k es = none → ptD k d es = es ++ [(kd k, d)]
  | [], _ => rfl
  | (a, x) :: es, h => by
    unfold lkD at h
    unfold ptD
    by_cases c : keyOf a = some k
    · rw [if_pos c] at h; cases h
    · rw [if_neg c] at h
      rw [if_neg c, pt_new h]
      rfl
section
variable {K : PySem.W.Frag} {Z O H : Hp} {v : V}
theorem Own.dct_inv {es : List (D × D)} {G : List Addr} (q : Own K Z H v (.dict es) G) (hd : isDct es = true) : ∃ a kvs G0, v = .ref a ∧ H a = some (.dK kvs) ∧ es.map (·.1) = kvs.map (fun p => kd p.1) ∧ Owns K Z H (kvs.map (·.2)) (es.map (·.2)) G0 ∧ G = a :: G0 := by
  have nv : isVal (.dict es) = false := by
    unfold isVal
    split
    · rename_i e; cases e
    · rename_i e; cases e; simp [isDct, keyOf] at hd
    · rfl
    · rename_i h1 h2 h3; exact absurd rfl (h3 es)
  cases q with
  | imm r p => rw [nv] at p; cases p
  | dct h e r => exact ⟨_, _, _, rfl, h, e, r, rfl⟩
  | obj h h2 c e r => simp [isDct, keyOf] at hd
theorem Rep.dct_inv {C : Hp} {es : List (D × D)} (q : Rep K C v (.dict es)) (hd : isDct es = true) : ∃ a kvs, v = .ref a ∧ C a = some (.dK kvs) ∧ es.map (·.1) = kvs.map (fun p => kd p.1) ∧ Reps K C (kvs.map (·.2)) (es.map (·.2)) := by
  cases q with
  | scr h r => simp [isDct, keyOf] at hd
  | ptr a => simp [isDct, keyOf] at hd
  | dct h e r => exact ⟨_, _, rfl, h, e, r⟩
  | obj h c e r => simp [isDct, keyOf] at hd
theorem key_kV {k : Key} {d : D} {C : Hp} (h : keyOf d = some k) (r : Rep K C v d) : v = kV k := by
  cases r with
  | int i => cases h; rfl
  | str x => cases h; rfl
  | _ => cases h
end
/-- d[k], looked at -/
def keyR (a b : R) : Res R := match a.d, keyOf b.d with
  | .dict es, some k => if isDct es = true then (match lkD k es with
    | some d => .ok (sub a.s d)
    | none => .bad) else .bad
  | _, _ => .bad
theorem o_key {K : PySem.W.Frag} : Op2 K (fun x y H Q => ∃ a v, x = .ref a ∧ DGet H a y (some v) ∧ Q v H) keyR := by
  intro E Z O H x y a b F G Q g ra rb nd fo q
  obtain ⟨s, d⟩ := a
  obtain ⟨t, k0⟩ := b
  have lb := rb.look g
  cases d with
  | dict es =>
    have q2 : ResK K E (F ++ G) Z O H (match keyOf k0 with | some k => (if isDct es = true then (match lkD k es with | some d => .ok (sub s d) | none => .bad) else .bad) | none => .bad) Q := by
      unfold keyR at q
      simp only at q
      cases e : keyOf k0 with
      | none => rw [e] at q; exact q
      | some k => rw [e] at q; exact q
    cases e : keyOf k0 with
    | none => rw [e] at q2; exact q2.elim
    | some k =>
      rw [e] at q2
      simp only at q2
      by_cases c : isDct es = true
      · rw [if_pos c] at q2
        have la := ra.look g
        obtain ⟨p, kvs, ev, hp, hk, hr⟩ := la.dct_inv c
        cases e2 : lkD k es with
        | none => rw [e2] at q2; exact q2.elim
        | some d =>
          rw [e2] at q2
          obtain ⟨j, x, e3, e4, e5, _⟩ := lk_some hk e2
          obtain ⟨x', e6, rx⟩ := hr.get e5
          rw [e4] at e6
          cases e6
          refine ⟨p, x, ev, ?_, ?_⟩
          · rw [key_kV e lb, ← e3]
            exact DGet.k hp
          · refine OkK.sub g q2 rx (fun es1 => ?_) fun es1 => ?_
            · subst es1
              have r0 : Rep K Z _ (.dict es) := ra.1
              obtain ⟨p', kvs', ev', hp', hk', hr'⟩ := r0.dct_inv c
              rw [ev] at ev'
              cases ev'
              have := g.zh _ _ hp'
              rw [hp] at this
              cases this
              obtain ⟨x', e7, rx'⟩ := hr'.get e5
              rw [e4] at e7
              cases e7
              exact rx'
            · subst es1
              have r0 : Rep K O _ (.dict es) := ra.1
              obtain ⟨p', kvs', ev', hp', hk', hr'⟩ := r0.dct_inv c
              rw [ev] at ev'
              cases ev'
              have := g.oh _ _ hp'
              rw [hp] at this
              cases this
              obtain ⟨x', e7, rx'⟩ := hr'.get e5
              rw [e4] at e7
              cases e7
              exact rx'
      · rw [if_neg c] at q2; exact q2.elim
  | _ => exact q.elim
section
variable {X : Cx} {E : XK} {a b e : Expr} {l : Plx} {p q : Px} {pos apos : Pos}
theorem s_key (hu : X.A.units + 64 < cLine) (ha : PE X a (tP X.K E p)) (hb : PE X b (tP X.K E q)) (hs : NoSl b := by exact fun _ _ => rfl) : PE X (.Subscript a b pos) (tP X.K E (p2 keyR p q)) :=
  (pe_dget (by omega) ha hb hs).imp fun σ H Q h => tP_op2 o_key h
/-- the place of a key -/
def plK (l : Plx) (p : Px) : Plx := fun ρ => (l ρ).bind fun l => (p ρ).bind fun r => match l.d, keyOf r.d with
  | .dict es, some k => if isDct es = true ∧ ukD k es = true then (match lkD k es with
    | some d => .ok ⟨l.i, d, fun y => l.put (.dict (ptD k y es))⟩
    | none => .bad) else .bad
  | _, _ => .bad
theorem zip_mk : ∀ es : List (D × D), (es.map (·.1)).zip (es.map (·.2)) = es
  | [] => rfl
  | (a, b) :: es => by rw [List.map_cons, List.map_cons, List.zip_cons_cons, zip_mk es]
theorem ptD_zip {k : Key} {es : List (D × D)} {j : Nat} {d : D} {kvs : List (Key × V)} (hk : es.map (·.1) = kvs.map (fun p => kd p.1)) (h : ∀ (y : V) (d' : D), (kvs.map (fun kv => if kv.1 = k then (kv.1, y) else kv)).map (·.2) = (kvs.map (·.2)).set j y ∧ (ptD k d' es).map (·.2) = (es.map (·.2)).set j d' ∧ (ptD k d' es).map (·.1) = (kvs.map (fun kv => if kv.1 = k then (kv.1, y) else kv)).map (fun p => kd p.1)) (d' : D) :
    ptD k d' es = ((es.map (·.1)).zip ((es.map (·.2)).set j d')) := by
  obtain ⟨_, h2, h3⟩ := h .non d'
  have e1 : (kvs.map (fun kv => if kv.1 = k then (kv.1, V.non) else kv)).map (fun p => kd p.1) = kvs.map (fun p => kd p.1) := by
    rw [List.map_map]
    refine List.map_congr_left fun p _ => ?_
    show kd (if p.1 = k then (p.1, V.non) else p).1 = kd p.1
    by_cases c : p.1 = k
    · rw [if_pos c]
    · rw [if_neg c]
  rw [e1, ← hk] at h3
  rw [← h2, ← h3, zip_mk]
theorem zip_fst : ∀ {as bs : List D}, as.length = bs.length → (as.zip bs).map (·.1) = as ∧ (as.zip bs).map (·.2) = bs
  | [], [], _ => ⟨rfl, rfl⟩
  | a :: as, b :: bs, h => by
    obtain ⟨h1, h2⟩ := zip_fst (as := as) (bs := bs) (by simpa using h)
    exact ⟨by rw [List.zip_cons_cons, List.map_cons, h1], by rw [List.zip_cons_cons, List.map_cons, h2]⟩
  | [], _ :: _, h => by simp at h
  | _ :: _, [], h => by simp at h
theorem PlAt.key {K : PySem.W.Frag} {Z O H : Hp} {σ : St} {ρ : Ev} {F F1 G F2 : List Addr} {l : Pl} {v : V} {s : Sx} {es : List (D × D)} {k : Key} {d : D} (pa : PlAt K Z O H σ ρ F l v s F1 G F2) (e : l.d = .dict es) (hd : isDct es = true) (hu : ukD k es = true) (h : lkD k es = some d) :
    ∃ a kvs x F1' G' F2', v = .ref a ∧ H a = some (.dK kvs) ∧ valV kvs k = some x ∧ PlAt K Z O H σ ρ F ⟨l.i, d, fun y => l.put (.dict (ptD k y es))⟩ x s F1' G' F2' := by
  have q := pa.own
  rw [e] at q
  obtain ⟨a, kvs, G0, rfl, ha, hk, qs, eg⟩ := q.dct_inv hd
  obtain ⟨j, x, e1, e2, e3, e4⟩ := lk_some hk h
  obtain ⟨x', F1', G', F2', e5, pb⟩ := pa.child (hd := [a]) (mk := fun ds => .dict ((es.map (·.1)).zip ds)) eg qs e3 fun Z' H' ds' F' ez kp hl q' => by
    obtain ⟨z1, z2⟩ := zip_fst (as := es.map (·.1)) (bs := ds') (by rw [hl, List.length_map, List.length_map])
    exact .dct (kp a (by simp) _ ha nofun) (by rw [z1]; exact hk) (by rw [z2]; exact q')
  rw [e2] at e5
  cases e5
  refine ⟨a, kvs, x, F1', G', F2', rfl, ha, e1, ?_⟩
  have ee : (fun y => l.put (.dict (ptD k y es))) = fun y => l.put (.dict ((es.map (·.1)).zip ((es.map (·.2)).set j y))) := by
    funext y
    rw [ptD_zip (d := d) hk (e4 hu) y]
  rw [ee]
  exact pb
theorem s_plK (hu : X.A.units + 64 < cLine) (ha : PE X a (tPl X.K E l)) (hb : PE X b (tP X.K E p)) (hs : NoSl b := by exact fun _ _ => rfl) : PE X (.Subscript a b pos) (tPl X.K E (plK l p)) := by
  refine (pe_dget (by omega) ha hb hs).imp fun σ H Q h => ?_
  obtain ⟨Z, O, ρ, F, rl, h⟩ := h
  refine ⟨Z, O, ρ, F, rl, ?_⟩
  unfold plK at h
  cases e : l ρ with
  | bad => rw [e] at h; exact h.elim
  | exc c fs => rw [e] at h; exact h
  | ok l0 =>
    rw [e] at h
    simp only [Res.bind_ok] at h
    intro v H1 Z1 O1 s F1 G F2 x1 g1 pa
    have rl1 := rl.ext x1 g1
    refine ⟨Z1, O1, ρ, F, rl1, ?_⟩
    cases e2 : p ρ with
    | bad => rw [e2] at h; exact h.elim
    | exc c fs => rw [e2] at h; exact ExcK.ext h x1
    | ok r =>
      rw [e2] at h
      simp only [Res.bind_ok] at h
      intro y H2 Z2 O2 G2 x2 g2 q2 nd2 fr2
      have pa2 := pa.ext x2
      cases el : l0.d with
      | dict es =>
        cases ek : keyOf r.d with
        | none => rw [el, ek] at h; exact h.elim
        | some k =>
          rw [el, ek] at h
          simp only at h
          by_cases c : isDct es = true ∧ ukD k es = true
          · rw [if_pos c] at h
            cases ed : lkD k es with
            | none => rw [ed] at h; exact h.elim
            | some d =>
              rw [ed] at h
              obtain ⟨a', kvs, x', F1', G', F2', ev, ha', hx, pb⟩ := pa2.key el c.1 c.2 ed
              refine ⟨a', x', ev, ?_, h x' H2 Z2 O2 s F1' G' F2' (x1.trans0 x2) g2 pb⟩
              rw [key_kV ek (q2.look g2), ← hx]
              exact DGet.k ha'
          · rw [if_neg c] at h; exact h.elim
      | _ => rw [el] at h; cases ek : keyOf r.d <;> rw [ek] at h <;> exact h.elim
/-- l[k] = e, in a dict -/
def sPut (l : Plx) (p q : Px) : Stx := fun ρ => match q ρ with
  | .bad => .bad
  | .exc c fs => .exc c fs ρ
  | .ok r => (match ownR r with
    | none => .bad
    | some d => (match l ρ with
      | .bad => .bad
      | .exc c fs => .exc c fs ρ
      | .ok l => (match p ρ with
        | .bad => .bad
        | .exc c fs => .exc c fs ρ
        | .ok i => (match l.d, keyOf i.d with
          | .dict es, some k => if isDct es = true ∧ ukD k es = true ∧ es.length < sizeLine then putE l (.dict (ptD k d es)) ρ else .bad
          | _, _ => .bad))))
theorem s_put (hu : X.A.units + 64 < cLine) (he : PE X e (tP X.K E q)) (hl : PE X a (tPl X.K E l)) (hp : PE X b (tP X.K E p)) (hs : swapsWith e (some (.Subscript a b apos)) pos.line X.env = pure false := by rfl) : PS X (.Assign [.Subscript a b apos] e pos) (tS X.K E (sPut l p q)) := by
  refine (ps_dput (by omega) hl hp he hs).imp fun D σ H h => ?_
  obtain ⟨Z, O, ρ, F, rl, n, h⟩ := h
  refine ⟨Z, O, ρ, F, rl, ?_⟩
  unfold sPut at h
  cases e1 : q ρ with
  | bad => rw [e1] at h; exact h.elim
  | exc c fs => rw [e1] at h; exact SRK.exc rl h
  | ok r =>
    rw [e1] at h
    simp only at h
    cases er : ownR r with
    | none => rw [er] at h; exact h.elim
    | some d =>
      rw [er] at h
      simp only at h
      intro y H1 Z1 O1 Gy x1 g1 q1 nd1 fr1
      have rl1 := rl.ext x1 g1
      refine ⟨Z1, O1, ρ, F, rl1, ?_⟩
      cases e2 : l ρ with
      | bad => rw [e2] at h; exact h.elim
      | exc c fs => rw [e2] at h; exact ExcK.ext (SRK.exc rl h) x1
      | ok l0 =>
        rw [e2] at h
        simp only at h
        intro v H2 Z2 O2 s F1 G F2 x2 g2 pa
        have rl2 := rl1.ext x2 g2
        refine ⟨Z2, O2, ρ, F, rl2, ?_⟩
        cases e3 : p ρ with
        | bad => rw [e3] at h; exact h.elim
        | exc c fs => rw [e3] at h; exact ExcK.ext (SRK.exc rl h) (x1.trans0 x2)
        | ok i =>
          rw [e3] at h
          simp only at h
          intro w H3 Z3 O3 Gi x3 g3 q3 nd3 fr3
          have pa3 := pa.ext x3
          cases el : l0.d with
          | dict es =>
            cases ek : keyOf i.d with
            | none => rw [el, ek] at h; exact h.elim
            | some k =>
              rw [el, ek] at h
              simp only at h
              by_cases c : isDct es = true ∧ ukD k es = true ∧ es.length < sizeLine
              · rw [if_pos c] at h
                obtain ⟨c1, c2, c3⟩ := c
                have qo := pa3.own
                rw [el] at qo
                obtain ⟨a0, kvs, G0, rfl, ha0, hk, qs, eg⟩ := qo.dct_inv c1
                have x123 := (x1.trans0 x2).trans0 x3
                obtain ⟨G', qy, cG⟩ := ownR_ok g1 q1 er
                have sG : ∀ c ∈ G', c ∈ Gy := fun c hc => by
                  rcases cG with z | z
                  · rw [z] at hc; exact hc
                  · rw [z] at hc; cases hc
                have nG : G'.Nodup := by
                  rcases cG with z | z
                  · rw [z]; exact nd1
                  · rw [z]; exact List.nodup_nil
                have fG : ∀ c ∈ G', H c = none := fun c hc => (fr1 c (sG c hc)).1.elim id fun z => by cases z
                have oG : ∀ c ∈ G', O3 c = none := fun c hc => by
                  obtain ⟨o, hy, _⟩ := qy.live c hc
                  cases w : O3 c with
                  | none => rfl
                  | some o' =>
                    rcases (x2.trans0 x3).on c (by rw [w]; simp) with z | z | z
                    · exact absurd (fr1 c (sG c hc)).2 z
                    · rw [hy] at z; cases z
                    · cases z
                have nF := rl.nd
                rw [pa3.eq, eg] at nF
                have nGG : (a0 :: G0).Nodup := (List.nodup_append.mp (List.nodup_append.mp nF).2.1).1
                have aG0 : a0 ∉ G0 := (List.nodup_cons.mp nGG).1
                have inF : ∀ c ∈ a0 :: G0, c ∈ F := fun c hc => by rw [pa3.eq, eg]; simp only [List.mem_append]; exact .inr (.inl hc)
                have dF : ∀ c ∈ G', c ∉ F := fun c hc z => by
                  obtain ⟨o, hy, _⟩ := rl.sl.live c z
                  rw [fG c hc] at hy
                  cases hy
                have hlen : kvs.length = es.length := by
                  have := congrArg List.length hk
                  simpa using this.symm
                refine ⟨a0, _, rfl, by rw [key_kV ek (q3.look g3)]; exact DPut.k (k := k) (v := y) ha0 (by rw [hlen]; exact c3), ?_⟩
                have kp : ∀ o', ∀ c, c ≠ a0 → ∀ o, H3 c = some o → upd H3 a0 o' c = some o := fun o' c hc o h => by rw [upd_ne hc]; exact h
                have qy3 : ∀ o', Own X.K Z3 (upd H3 a0 o') y d G' := fun o' => Own.mono (x2.z.trans x3.z) (fun c hc o h n => kp o' c (fun z => dF c hc (inF c (by rw [z]; simp))) o (x3.h.s _ _ (x2.h.s _ _ h n) n)) qy
                cases ed : lkD k es with
                | some d0 =>
                  obtain ⟨j, x, e4, e5, e6, e7⟩ := lk_some hk ed
                  obtain ⟨f1, f2, f3⟩ := e7 c2 y d
                  obtain ⟨x', A, Gj, B, h1, h2, h3, h4⟩ := qs.at e6
                  have hput : putK kvs k y = kvs.map (fun kv => if kv.1 = k then (kv.1, y) else kv) := by
                    unfold putK
                    rw [valV_any, e4]
                    exact if_pos rfl
                  have qn : Own X.K Z3 (upd H3 a0 (.dK (putK kvs k y))) (.ref a0) (.dict (ptD k d es)) (a0 :: (A ++ (G' ++ B))) := by
                    refine .dct upd_same (by rw [f3, hput]) ?_
                    rw [hput, f1, f2]
                    exact h4 Z3 _ y d G' (Same.refl _) (fun c hc o h _ => kp _ c (fun z => aG0 (by rw [h2, ← z]; rcases List.mem_append.mp hc with hc | hc <;> simp [hc])) o h) (by rw [← hput]; exact qy3 _)
                  refine pa3.store rl n x123 g3 (a0 := a0) (by rw [eg]; simp) rfl qn ?_ (fun c hc => ?_) h
                  · refine List.nodup_cons.mpr ⟨fun z => ?_, nodup_mid (G := Gj) (by rw [← h2]; exact (List.nodup_cons.mp nGG).2) nG fun c hc z => dF c hc (inF c (by rw [h2]; exact List.mem_cons_of_mem _ z))⟩
                    rcases List.mem_append.mp z with z | z
                    · exact aG0 (by rw [h2]; simp [z])
                    · rcases List.mem_append.mp z with z | z
                      · exact dF a0 z (inF a0 (by simp))
                      · exact aG0 (by rw [h2]; simp [z])
                  · rcases List.mem_cons.mp hc with z | z
                    · left; rw [eg, z]; simp
                    · rcases List.mem_append.mp z with z | z
                      · left; rw [eg, h2]; simp [z]
                      · rcases List.mem_append.mp z with z | z
                        · right; exact ⟨fG c z, oG c z⟩
                        · left; rw [eg, h2]; simp [z]
                | none =>
                  have hv := lk_none hk ed
                  have hput : putK kvs k y = kvs ++ [(k, y)] := putK_new y hv
                  have hpt : ptD k d es = es ++ [(kd k, d)] := pt_new ed
                  have qn : Own X.K Z3 (upd H3 a0 (.dK (putK kvs k y))) (.ref a0) (.dict (ptD k d es)) (a0 :: (G0 ++ G')) := by
                    refine .dct upd_same (by rw [hpt, hput, List.map_append, List.map_append, hk]; rfl) ?_
                    rw [hput, hpt, List.map_append, List.map_append]
                    refine Owns.append (Owns.mono (Same.refl _) (fun c hc o h _ => kp _ c (fun z => aG0 (z ▸ hc)) o h) qs) (Owns.one ?_)
                    rw [← hput]
                    exact qy3 _
                  refine pa3.store rl n x123 g3 (a0 := a0) (by rw [eg]; simp) rfl qn ?_ (fun c hc => ?_) h
                  · refine List.nodup_cons.mpr ⟨fun z => ?_, List.nodup_append.mpr ⟨(List.nodup_cons.mp nGG).2, nG, fun u hu w hw e => dF w hw (inF w (by rw [← e]; exact List.mem_cons_of_mem _ hu))⟩⟩
                    rcases List.mem_append.mp z with z | z
                    · exact aG0 z
                    · exact dF a0 z (inF a0 (by simp))
                  · rcases List.mem_cons.mp hc with z | z
                    · left; rw [eg, z]; simp
                    · rcases List.mem_append.mp z with z | z
                      · left; rw [eg]; simp [z]
                      · right; exact ⟨fG c z, oG c z⟩
              · rw [if_neg c] at h; exact h.elim
          | _ => rw [el] at h; cases ek : keyOf i.d <;> rw [ek] at h <;> exact h.elim
end
end Oz

namespace Oz
open PySem PySem.Spec L2
open PyProof.Rows hiding St
variable [WD]

/-! ### expressions that change the frame: a statement's mirror that returns -/
def MRK (K : PySem.W.Frag) (E : XK) (Z O H : Hp) (σ : St) (ρ : Ev) (F : List Addr) (Q : VK) : SR → Prop
  | .bad => False
  | .next _ => False
  | .ret r ρ' => ∀ v H' Z' O' F' G, Rel K Z' O' H' σ ρ' F' → nov ρ' = true → RepR K Z' O' H' v r G → (F' ++ G).Nodup → (∀ a ∈ G, O' a = none) → Tr Z H F Z' H' (F' ++ G) → TrS Z O H σ ρ F Z' O' H' σ ρ' F' → Q v H'
  | .exc c fs ρ' => ∀ H' Z' O' F' d xs, Rel K Z' O' H' σ ρ' F' → TrS Z O H σ ρ F Z' O' H' σ ρ' F' → H' d = some (.xd xs) → xs.map (·.1) = fs.map (·.1) → Reps K Z' (xs.map (·.2)) (fs.map (·.2)) → E (.ref (He.ga K c)) (some d) H'
def tM (K : PySem.W.Frag) (E : XK) (s : Stx) : TE := fun σ H Q => ∃ Z O ρ F, Rel K Z O H σ ρ F ∧ nov ρ = true ∧ MRK K E Z O H σ ρ F Q (s ρ)
section
variable {K : PySem.W.Frag} {E : XK} {Z O H Z1 O1 H1 : Hp} {σ : St} {ρ ρ1 : Ev} {F F1 : List Addr} {Q Q' : VK}
theorem MRK.from {r : SR} (h : MRK K E Z O H σ ρ F Q r) (t : TrS Z O H σ ρ F Z1 O1 H1 σ ρ1 F1) : MRK K E Z1 O1 H1 σ ρ1 F1 Q r := by
  cases r with
  | bad => exact h
  | next ρ' => exact h
  | ret r ρ' => exact fun v H' Z' O' F' G q n w nd fo u u2 => h v H' Z' O' F' G q n w nd fo (t.tr.trans u) (t.trans u2)
  | exc c fs ρ' => exact fun H' Z' O' F' d xs q u hd e1 e2 => h H' Z' O' F' d xs q (t.trans u) hd e1 e2
/-- temporary things are left where they are -/
theorem Tr.sub {Z H Z' H' : Hp} {F F' G : List Addr} (t : Tr Z H F Z' H' (F' ++ G)) : Tr Z H F Z' H' F' := ⟨t.z, t.keep, t.zn, fun a ha => t.fn a (List.mem_append_left _ ha), t.fr, t.tab⟩
def mP (p : Px) : Stx := fun ρ => match p ρ with
  | .bad => .bad
  | .exc c fs => .exc c fs ρ
  | .ok r => .ret r ρ
/-- then the rest -/
def mBind (s : Stx) (k : R → Stx) : Stx := fun ρ => match s ρ with
  | .ret r ρ' => k r ρ'
  | .exc c fs ρ' => .exc c fs ρ'
  | _ => .bad
def mAnd (s t : Stx) : Stx := mBind s fun r ρ => match truth r.d with
  | some true => t ρ
  | some false => .ret r ρ
  | none => .bad
def mOr (s t : Stx) : Stx := mBind s fun r ρ => match truth r.d with
  | some true => .ret r ρ
  | some false => t ρ
  | none => .bad
def mNot (s : Stx) : Stx := mBind s fun r ρ => match truth r.d with
  | some b => .ret ⟨.imm, .bool (!b)⟩ ρ
  | none => .bad
/-- a test -/
def mTru (s : Stx) : Stx := mBind s fun r ρ => match truth r.d with
  | some b => .ret ⟨.imm, .bool b⟩ ρ
  | none => .bad
def mTnot (s : Stx) : Stx := fun ρ => match s ρ with
  | .ret ⟨_, .bool b⟩ ρ' => .ret ⟨.imm, .bool (!b)⟩ ρ'
  | .exc c fs ρ' => .exc c fs ρ'
  | _ => .bad
def mT (t : Tx) : Stx := fun ρ => match t ρ with
  | .bad => .bad
  | .exc c fs => .exc c fs ρ
  | .ok b => .ret ⟨.imm, .bool b⟩ ρ
def mIfE (c s t : Stx) : Stx := fun ρ => match c ρ with
  | .ret ⟨_, .bool b⟩ ρ' => if b = true then s ρ' else t ρ'
  | .exc c fs ρ' => .exc c fs ρ'
  | _ => .bad
end
section
variable {X : Cx} {E : XK} {a b c e : Expr} {p : Px} {t : Tx} {s u w : Stx} {pos : Pos} {rest : List Expr}
end
end Oz

namespace Oz
open PySem PySem.Spec L2
open PyProof.Rows hiding St
variable [WD]

/-! ### statements over such expressions -/
def mRet (s : Stx) : Stx := fun ρ => match s ρ with
  | .ret r ρ' => if storable r = true then .ret r ρ' else .bad
  | .exc c fs ρ' => .exc c fs ρ'
  | _ => .bad
def mAsg (i : Nat) (s : Stx) : Stx := fun ρ => match s ρ with
  | .ret r ρ' => (match setS i r ρ' with
    | some ρ2 => .next ρ2
    | none => .bad)
  | .exc c fs ρ' => .exc c fs ρ'
  | _ => .bad
def mDrop (s : Stx) : Stx := fun ρ => match s ρ with
  | .ret _ ρ' => .next ρ'
  | .exc c fs ρ' => .exc c fs ρ'
  | _ => .bad
def mIf (c s t : Stx) : Stx := fun ρ => match c ρ with
  | .ret ⟨_, .bool b⟩ ρ' => if b = true then s ρ' else t ρ'
  | .exc c fs ρ' => .exc c fs ρ'
  | _ => .bad
section
variable {X : Cx} {E : XK} {e c : Expr} {s t w : Stx} {a b : List Stmt} {pos pos' : Pos} {x : Str}
theorem s_mret (he : PE X e (tM X.K E s)) : PS X (.Return (some e) pos) (tS X.K E (mRet s)) := by
  refine (ps_ret he).imp fun D σ H h => ?_
  obtain ⟨Z, O, ρ, F, rl, n, h⟩ := h
  refine ⟨Z, O, ρ, F, rl, n, ?_⟩
  unfold mRet at h
  cases e : s ρ with
  | bad => rw [e] at h; exact h.elim
  | next ρ' => rw [e] at h; exact h.elim
  | exc c fs ρ' => rw [e] at h; exact fun H' Z' O' F' d xs q u hd e1 e2 => h σ H' Z' O' F' d xs q u hd e1 e2
  | ret r ρ' =>
    rw [e] at h
    simp only at h
    by_cases c : storable r = true
    · rw [if_pos c] at h
      exact fun v H' Z' O' F' G rl' n' q nd fo t ts => h v σ H' Z' O' F' G rl' q nd fo t ts
    · rw [if_neg c] at h; exact h.elim
theorem s_mdrop (he : PE X e (tM X.K E s)) (hs : swapsWith e none pos.line X.env = pure false := by rfl) : PS X (.Expr e pos) (tS X.K E (mDrop s)) := by
  refine (ps_expr he hs).imp fun D σ H h => ?_
  obtain ⟨Z, O, ρ, F, rl, n, h⟩ := h
  refine ⟨Z, O, ρ, F, rl, n, ?_⟩
  unfold mDrop at h
  cases e : s ρ with
  | bad => rw [e] at h; exact h.elim
  | next ρ' => rw [e] at h; exact h.elim
  | exc c fs ρ' => rw [e] at h; exact fun H' Z' O' F' d xs q u hd e1 e2 => h σ H' Z' O' F' d xs q u hd e1 e2
  | ret r ρ' =>
    rw [e] at h
    exact fun v H' Z' O' F' G rl' n' q nd fo t ts => h σ H' Z' O' F' rl' n' ts
end

/-! ### arguments of which one is a name's own thing -/
inductive Ax where
  | p (e : Px)
  | n (j : Nat)
inductive AR where
  | p (r : R)
  | n (j : Nat) (r : R)
def evx : List Ax → Ev → Res (List AR)
  | [], _ => .ok []
  | .p e :: ks, ρ => (e ρ).bind fun r => if r.s = .view then .bad else (evx ks ρ).bind fun rs => .ok (.p r :: rs)
  | .n j :: ks, ρ => (match ρ[j]? with
    | some (some r) => (evx ks ρ).bind fun rs => .ok (.n j r :: rs)
    | _ => .bad)
inductive RepXs (K : PySem.W.Frag) (Z O H : Hp) (σ : St) : List V → List AR → List Addr → Prop
  | nil : RepXs K Z O H σ [] [] []
  | p {v : V} {vs : List V} {r : R} {rs : List AR} {F G : List Addr} : RepR K Z O H v r F → r.s ≠ .view → RepXs K Z O H σ vs rs G → RepXs K Z O H σ (v :: vs) (.p r :: rs) (F ++ G)
  | n {v : V} {vs : List V} {j : Nat} {r : R} {rs : List AR} {G : List Addr} : σ[j]? = some (some v) → RepXs K Z O H σ vs rs G → RepXs K Z O H σ (v :: vs) (.n j r :: rs) G
def tAX (K : PySem.W.Frag) (E : XK) (ks : List Ax) : TA := fun σ H Q => ∃ Z O ρ F, Rel K Z O H σ ρ F ∧ match evx ks ρ with
  | .bad => False
  | .exc c fs => ExcK K E Z O H c fs
  | .ok rs => ∀ vs H' Z' O' G, Ext [] Z O H Z' O' H' → Good Z' O' H' → RepXs K Z' O' H' σ vs rs G → G.Nodup → (∀ a ∈ G, H a = none ∧ O' a = none) → Q vs H'
section
variable {K : PySem.W.Frag} {Z O H Z' O' H' : Hp} {σ : St}
theorem RepXs.ext {W : List Addr} (e : Ext W Z O H Z' O' H') : ∀ {vs : List V} {rs : List AR} {F : List Addr}, RepXs K Z O H σ vs rs F → RepXs K Z' O' H' σ vs rs F
  | _, _, _, .nil => .nil
  | _, _, _, .p r h s => .p (r.ext e) h (RepXs.ext e s)
  | _, _, _, .n h s => .n h (RepXs.ext e s)
theorem RepXs.live : ∀ {vs : List V} {rs : List AR} {F : List Addr}, RepXs K Z O H σ vs rs F → ∀ a ∈ F, ∃ o, H a = some o ∧ fzn o = false
  | _, _, _, .nil, _, h => by cases h
  | _, _, _, .p r _ s, a, h => (List.mem_append.mp h).elim (r.live a) (s.live a)
  | _, _, _, .n _ s, a, h => s.live a h
end
section
variable {X : Cx} {E : XK} {e : Expr} {es : List Expr} {p : Px} {ks : List Ax} {x : Str} {pos : Pos}
theorem x_nil : PA X [] (tAX X.K E []) := by
  refine pa_nil.imp fun σ H Q h => ?_
  obtain ⟨Z, O, ρ, F, r, h⟩ := h
  exact h [] H Z O [] (Ext.refl _ _ _ _) r.g .nil List.nodup_nil fun a ha => by cases ha
theorem x_p (ha : PE X e (tP X.K E p)) (hr : PA X es (tAX X.K E ks)) (hs : starEach (e :: es) X.env = (false, eval e X.env) :: starEach es X.env := by rfl) : PA X (e :: es) (tAX X.K E (.p p :: ks)) := by
  refine (pa_cons ha hr hs).imp fun σ H Q h => ?_
  obtain ⟨Z, O, ρ, F, r, h⟩ := h
  refine ⟨Z, O, ρ, F, r, ?_⟩
  unfold evx at h
  cases z : p ρ with
  | bad => rw [z] at h; exact h.elim
  | exc c fs => rw [z] at h; exact h
  | ok a =>
    rw [z] at h
    simp only [Res.bind_ok] at h
    by_cases hv : a.s = .view
    · rw [if_pos hv] at h; exact h.elim
    · rw [if_neg hv] at h
      intro v H1 Z1 O1 G x1 g1 q1 nd fr
      refine ⟨Z1, O1, ρ, F, r.ext x1 g1, ?_⟩
      cases y : evx ks ρ with
      | bad => rw [y] at h; exact h.elim
      | exc c fs => rw [y] at h; exact ExcK.ext h x1
      | ok rs =>
        rw [y] at h
        simp only [Res.bind_ok] at h
        intro vs H2 Z2 O2 G2 x2 g2 q2 nd2 fr2
        refine h (v :: vs) H2 Z2 O2 (G ++ G2) (x1.trans0 x2) g2 (.p (q1.ext x2) hv q2) (nodup_fresh nd nd2 (fun c hc => let ⟨o, z, _⟩ := q1.live c hc; ⟨o, z⟩) fun c hc => (fr2 c hc).1) fun c hc => ?_
        rcases List.mem_append.mp hc with hc | hc
        · refine ⟨(fr c hc).1.elim id (fun z => by cases z), ?_⟩
          cases z : O2 c with
          | none => rfl
          | some o =>
            obtain ⟨o1, w1, _⟩ := q1.live c hc
            rcases x2.on c (by rw [z]; simp) with y | y | y
            · exact absurd (fr c hc).2 y
            · rw [w1] at y; cases y
            · cases y
        · exact ⟨x1.h.free (fr2 c hc).1, (fr2 c hc).2⟩
theorem x_n (j : Nat) (hr : PA X es (tAX X.K E ks)) (hN : X.N[j]? = some x := by rfl) (hv : Vis X.env.scope x := by first | exact Or.inl rfl | exact Or.inr (Or.inl rfl) | exact Or.inr (Or.inr rfl)) (hd : (x == ("__debug__" : Str)) = false := by decide)
    (hcd : (x == ("__classdict__" : Str)) = false := by decide) (hs : starEach (.Name x pos :: es) X.env = (false, eval (.Name x pos) X.env) :: starEach es X.env := by rfl) : PA X (.Name x pos :: es) (tAX X.K E (.n j :: ks)) := by
  refine (pa_cons (pe_var hN hv hd hcd) hr hs).imp fun σ H Q h => ?_
  obtain ⟨Z, O, ρ, F, r, h⟩ := h
  unfold evx at h
  cases z : ρ[j]? with
  | none => rw [z] at h; exact h.elim
  | some y =>
    cases y with
    | none => rw [z] at h; exact h.elim
    | some a =>
      rw [z] at h
      simp only at h
      obtain ⟨v, h1, G, h2⟩ := r.sl.get z
      refine ⟨v, h1, Z, O, ρ, F, r, ?_⟩
      cases y : evx ks ρ with
      | bad => rw [y] at h; exact h.elim
      | exc c fs => rw [y] at h; exact h
      | ok rs =>
        rw [y] at h
        simp only [Res.bind_ok] at h
        exact fun vs H2 Z2 O2 G2 x2 g2 q2 nd2 fr2 => h (v :: vs) H2 Z2 O2 G2 x2 g2 (.n h1 q2) nd2 fr2
end
/-- the names among them are those of the frame -/
theorem evx_names : ∀ {ks : List Ax} {ρ : Ev} {rs : List AR}, evx ks ρ = .ok rs → ∀ j r, AR.n j r ∈ rs → ρ[j]? = some (some r)
  | [], ρ, rs, h, j, r, m => by cases h; cases m
  | .p e :: ks, ρ, rs, h, j, r, m => by
    unfold evx at h
    cases z : e ρ with
    | bad => rw [z] at h; cases h
    | exc c fs => rw [z] at h; cases h
    | ok a =>
      rw [z] at h
      simp only [Res.bind_ok] at h
      by_cases hv : a.s = .view
      · rw [if_pos hv] at h; cases h
      · rw [if_neg hv] at h
        cases y : evx ks ρ with
        | bad => rw [y] at h; cases h
        | exc c fs => rw [y] at h; cases h
        | ok rs' =>
          rw [y] at h
          cases h
          rcases List.mem_cons.mp m with m | m
          · cases m
          · exact evx_names y j r m
  | .n i :: ks, ρ, rs, h, j, r, m => by
    unfold evx at h
    cases z : ρ[i]? with
    | none => rw [z] at h; cases h
    | some y =>
      cases y with
      | none => rw [z] at h; cases h
      | some a =>
        rw [z] at h
        simp only at h
        cases y : evx ks ρ with
        | bad => rw [y] at h; cases h
        | exc c fs => rw [y] at h; cases h
        | ok rs' =>
          rw [y] at h
          cases h
          rcases List.mem_cons.mp m with m | m
          · cases m; exact z
          · exact evx_names y j r m
end Oz

namespace Oz
open PySem PySem.Spec L2
open PyProof.Rows hiding St
variable [WD]

/-! ### a call that changes one thing -/
def xargs (i : Nat) : List Md → List AR → Option (List D)
  | [], [] => some []
  | .m :: md, .n j r :: rs => if j = i then (xargs i md rs).map (r.d :: ·) else none
  | .v :: md, .p r :: rs => (xargs i md rs).map (r.d :: ·)
  | .v :: md, .n j r :: rs => if j = i then none else if r.s = .tab then none else (xargs i md rs).map (r.d :: ·)
  | .i :: md, .p r :: rs => (match frzR r with
    | some d => (xargs i md rs).map (d :: ·)
    | none => none)
  | .i :: md, .n j r :: rs => if j = i then none else (match frzR r with
    | some d => (xargs i md rs).map (d :: ·)
    | none => none)
  | _, _ => none
def nm : List Md → Nat
  | [] => 0
  | .m :: md => nm md + 1
  | .i :: md => nm md
  | .v :: md => nm md
def isOB (s : Sx) : Bool := match s with
  | .own => true
  | .brw => true
  | _ => false
/-- the frame behind, with what came out -/
def mOut (i : Nat) (s : Sx) (fr : FR) (ρ : Ev) : SR := match fr with
  | .ok r [d'] => .ret r (ρ.set i (some ⟨s, d'⟩))
  | .exc c fs [d'] => .exc c fs (ρ.set i (some ⟨s, d'⟩))
  | _ => .bad
def mCall (f : Fn) (md : List Md) (i : Nat) (ks : List Ax) : Stx := fun ρ => match evx ks ρ with
  | .bad => .bad
  | .exc c fs => .exc c fs ρ
  | .ok rs => (match xargs i md rs with
    | none => .bad
    | some ds => (match ρ[i]? with
      | some (some ⟨s, _⟩) => if isOB s = true ∧ nm md = 1 then mOut i s (f ds) ρ else .bad
      | _ => .bad))
section
variable {K : PySem.W.Frag} {E : XK} {Z O H : Hp} {σ : St} {ρ : Ev} {F : List Addr} {i : Nat} {vi : V} {Gi : List Addr} {d0 : D}
theorem map_some {α β : Type} {f : α → β} {o : Option α} {y : β} (h : o.map f = some y) : ∃ x, o = some x ∧ y = f x := by
  cases o with
  | none => cases h
  | some x => cases h; exact ⟨x, rfl, rfl⟩
/-- everything at the heap without what is changed -/
theorem xargs_ok {W : Hp} (zo : Same Z O) (zw : Same Z W) (ow : Same O W) (tz : ∀ a o, W a = some o → fzn o = true → Z a = some o) (no : NoT O) (own : Own K Z H vi d0 Gi) (hsi : σ[i]? = some (some vi))
    (hn : ∀ j r, j ≠ i → ρ[j]? = some (some r) → ∃ v Fj, σ[j]? = some (some v) ∧ RepS K Z O W v r Fj) (hi : ∀ r, ρ[i]? = some (some r) → r.d = d0) :
    ∀ {md : List Md} {rs : List AR} {vs : List V} {G : List Addr} {ds : List D}, (∀ a ∈ G, ∀ o, H a = some o → (∀ ps, o ≠ .tbl ps) → W a = some o) → (∀ j r, AR.n j r ∈ rs → ρ[j]? = some (some r)) → RepXs K Z O H σ vs rs G → xargs i md rs = some ds → nm md ≤ 1 →
      Args K Z W H md vs ds (if nm md = 1 then Gi else []) ∧ vs.length = md.length ∧
      (∀ Z' H' ms Fm, Outs K Z' H' md vs ms Fm → if nm md = 1 then ∃ d', ms = [d'] ∧ Own K Z' H' vi d' Fm else ms = [] ∧ Fm = [])
  | [], [], _, _, _, _, _, .nil, e, _ => by
    cases e
    refine ⟨.nil, rfl, fun _ _ _ _ h => ?_⟩
    cases h
    exact ⟨rfl, rfl⟩
  | .m :: md, .n j r :: rs, _, _, _, kp, nb, .n (v := v) hv q, e, l => by
    unfold xargs at e
    by_cases c : j = i
    · rw [if_pos c] at e
      have c2 := c.symm
      subst c2
      obtain ⟨ds', e1, rfl⟩ := map_some e
      have l0 : nm md = 0 := by unfold nm at l; omega
      obtain ⟨i1, i2, i3⟩ := xargs_ok zo zw ow tz no own hsi hn hi kp (fun j r m => nb j r (List.mem_cons_of_mem _ m)) q e1 (by omega)
      rw [if_neg (by omega)] at i1
      have ev : v = vi := by
        rw [hsi] at hv
        exact (Option.some.inj (Option.some.inj hv)).symm
      subst ev
      have ed : r.d = d0 := hi r (nb _ _ (List.mem_cons_self ..))
      have n1 : nm (.m :: md) = 1 := by unfold nm; omega
      rw [n1]
      refine ⟨?_, congrArg (· + 1) i2, fun Z' H' ms Fm h => ?_⟩
      · have := Args.m (ds := ds') own i1
        rw [List.append_nil] at this
        rw [if_pos rfl, ed]
        exact this
      · rw [if_pos rfl]
        cases h with
        | m h1 h2 =>
          have := i3 _ _ _ _ h2
          rw [if_neg (by omega)] at this
          obtain ⟨rfl, rfl⟩ := this
          exact ⟨_, rfl, by rw [List.append_nil]; exact h1⟩
    · rw [if_neg c] at e; cases e
  | .v :: md, .p r :: rs, _, _, _, kp, nb, .p q nv s, e, l => by
    unfold xargs at e
    obtain ⟨ds', e1, rfl⟩ := map_some e
    have n1 : nm (.v :: md) = nm md := rfl
    obtain ⟨i1, i2, i3⟩ := xargs_ok zo zw ow tz no own hsi hn hi (fun a ha => kp a (List.mem_append_right _ ha)) (fun j r m => nb j r (List.mem_cons_of_mem _ m)) s e1 l
    rw [n1]
    refine ⟨.v (RepR.look ⟨zo, ow, tz, no⟩ (q.keep nv (Same.refl _) (Same.refl _) fun a ha => kp a (List.mem_append_left _ ha))) i1, congrArg (· + 1) i2, fun Z' H' ms Fm h => ?_⟩
    cases h with
    | v h => exact i3 _ _ _ _ h
  | .v :: md, .n j r :: rs, _, _, _, kp, nb, .n (v := v) hv s, e, l => by
    unfold xargs at e
    by_cases c : j = i
    · rw [if_pos c] at e; cases e
    · rw [if_neg c] at e
      by_cases ct : r.s = .tab
      · rw [if_pos ct] at e; cases e
      rw [if_neg ct] at e
      obtain ⟨ds', e1, rfl⟩ := map_some e
      have n1 : nm (.v :: md) = nm md := rfl
      obtain ⟨i1, i2, i3⟩ := xargs_ok zo zw ow tz no own hsi hn hi kp (fun j r m => nb j r (List.mem_cons_of_mem _ m)) s e1 l
      obtain ⟨v', Fj, h1, h2⟩ := hn j r c (nb _ _ (List.mem_cons_self ..))
      replace h2 := h2.rep ct
      rw [hv] at h1
      cases h1
      rw [n1]
      refine ⟨.v (RepR.look ⟨zo, ow, tz, no⟩ h2) i1, congrArg (· + 1) i2, fun Z' H' ms Fm h => ?_⟩
      cases h with
      | v h => exact i3 _ _ _ _ h
  | .i :: md, .p r :: rs, _, _, _, kp, nb, .p q nv s, e, l => by
    unfold xargs at e
    cases ef : frzR r with
    | none => rw [ef] at e; cases e
    | some d =>
      rw [ef] at e
      obtain ⟨ds', e1, rfl⟩ := map_some e
      have n1 : nm (.i :: md) = nm md := rfl
      obtain ⟨i1, i2, i3⟩ := xargs_ok zo zw ow tz no own hsi hn hi (fun a ha => kp a (List.mem_append_right _ ha)) (fun j r m => nb j r (List.mem_cons_of_mem _ m)) s e1 l
      rw [n1]
      refine ⟨.i (frzR_ok ⟨zo, ow, tz, no⟩ (q.keep nv (Same.refl _) (Same.refl _) fun a ha => kp a (List.mem_append_left _ ha)) ef) i1, congrArg (· + 1) i2, fun Z' H' ms Fm h => ?_⟩
      cases h with
      | i h => exact i3 _ _ _ _ h
  | .i :: md, .n j r :: rs, _, _, _, kp, nb, .n (v := v) hv s, e, l => by
    unfold xargs at e
    by_cases c : j = i
    · rw [if_pos c] at e; cases e
    · rw [if_neg c] at e
      cases ef : frzR r with
      | none => rw [ef] at e; cases e
      | some d =>
        rw [ef] at e
        obtain ⟨ds', e1, rfl⟩ := map_some e
        have n1 : nm (.i :: md) = nm md := rfl
        obtain ⟨i1, i2, i3⟩ := xargs_ok zo zw ow tz no own hsi hn hi kp (fun j r m => nb j r (List.mem_cons_of_mem _ m)) s e1 l
        obtain ⟨v', Fj, h1, h2⟩ := hn j r c (nb _ _ (List.mem_cons_self ..))
        replace h2 : RepR K Z O W v' r Fj := by
          rcases h2 with h2 | ⟨ct, a, xs, es, _, e2, _⟩
          · exact h2
          · obtain ⟨s, d⟩ := r
            cases ct
            cases e2
            cases ef
        rw [hv] at h1
        cases h1
        rw [n1]
        refine ⟨.i (frzR_ok ⟨zo, ow, tz, no⟩ h2 ef) i1, congrArg (· + 1) i2, fun Z' H' ms Fm h => ?_⟩
        cases h with
        | i h => exact i3 _ _ _ _ h
  | .m :: _, .p _ :: _, _, _, _, _, _, _, e, _ => by cases e
  | [], _ :: _, _, _, _, _, _, _, e, _ => by cases e
  | .m :: _, [], _, _, _, _, _, _, e, _ => by cases e
  | .i :: _, [], _, _, _, _, _, _, e, _ => by cases e
  | .v :: _, [], _, _, _, _, _, _, e, _ => by cases e
end
section
variable {K : PySem.W.Frag} {E : XK}
theorem outer_none {O Z' : Hp} {a : Addr} (h1 : O a = none) (h2 : Z' a = none) : oNew O Z' a = none := by rw [oNew_none h1]; exact h2
/-- behind a call that changed the thing in slot i -/
theorem after_call {Z O H Z' H' : Hp} {σ : St} {ρ : Ev} {F F1 Gi F2 Fm G : List Addr} {i : Nat} {vi : V} {s : Sx} {d d' : D} {md : List Md} {vs : List V} {ms : List D} (rl : Rel K Z O H σ ρ F) (n : nov ρ = true) (ef : F = F1 ++ (Gi ++ F2)) (hsi : σ[i]? = some (some vi)) (hi : ρ[i]? = some (some ⟨s, d⟩)) (hs : isOB s = true)
    (h5 : ∀ (x' : Option V) (y' : Option R) (G' : List Addr) (Z' O' H' : Hp), Same Z Z' → Same O O' → (SameN H H' ∨ nov ρ = true) → (∀ a ∈ F1 ++ F2, ∀ o, H a = some o → (∀ ps, o ≠ .tbl ps) → H' a = some o) → SlotR K Z' O' H' x' y' G' → Slots K Z' O' H' (σ.set i x') (ρ.set i y') (F1 ++ (G' ++ F2)))
    (A : After K md vs Z H Gi ms Z' H' Fm G) (ow : Own K Z' H' vi d' Fm) :
    Rel K Z' (oNew O Z') H' σ (ρ.set i (some ⟨s, d'⟩)) (F1 ++ (Fm ++ F2)) ∧ nov (ρ.set i (some ⟨s, d'⟩)) = true ∧ ((F1 ++ (Fm ++ F2)) ++ G).Nodup ∧ (∀ a ∈ G, oNew O Z' a = none) ∧ Tr Z H F Z' H' ((F1 ++ (Fm ++ F2)) ++ G) ∧ TrS Z O H σ ρ F Z' (oNew O Z') H' σ (ρ.set i (some ⟨s, d'⟩)) (F1 ++ (Fm ++ F2)) := by
  have nF := rl.nd
  rw [ef] at nF
  obtain ⟨n1, n2, n3⟩ := List.nodup_append.mp nF
  obtain ⟨n4, n5, n6⟩ := List.nodup_append.mp n2
  have inG : ∀ a ∈ Gi, a ∈ F := fun a ha => by rw [ef]; simp [ha]
  have in1 : ∀ a ∈ F1, a ∈ F := fun a ha => by rw [ef]; simp [ha]
  have in2 : ∀ a ∈ F2, a ∈ F := fun a ha => by rw [ef]; simp [ha]
  have g1 : ∀ a ∈ F1, a ∉ Gi := fun a ha z => n3 a ha a (List.mem_append_left _ z) rfl
  have g2 : ∀ a ∈ F2, a ∉ Gi := fun a ha z => n6 a z a ha rfl
  have live : ∀ a ∈ F, H a ≠ none := fun a ha z => by
    obtain ⟨o, h, _⟩ := rl.sl.live a ha
    rw [z] at h; cases h
  have zF : ∀ a ∈ F, Z a = none := fun a ha => rl.g.zo.free (rl.fo a ha)
  have hO : Same O H' := fun a o h => by
    refine A.tr.keep a o (rl.g.oh _ _ h) (fun z => ?_) fun ps e => rl.g.nt a ps (by rw [h, e])
    rw [rl.fo a (inG a z)] at h
    cases h
  have zz : ∀ a, a ∈ F → a ∉ Gi → Z' a = none := fun a ha hg => by
    cases w : Z' a with
    | none => rfl
    | some o =>
      rcases A.tr.zn a (by rw [w]; simp) with z | z | z
      · exact absurd (zF a ha) z
      · exact absurd z hg
      · exact absurd z (live a ha)
  have fn1 : ∀ a ∈ Fm ++ G, a ∉ F1 ∧ a ∉ F2 := fun a ha => by
    rcases A.tr.fn a ha with z | z
    · exact ⟨fun y => g1 a y z, fun y => g2 a y z⟩
    · exact ⟨fun y => live a (in1 a y) z, fun y => live a (in2 a y) z⟩
  have oN : ∀ a ∈ Fm ++ G, oNew O Z' a = none := fun a ha => outer_none (by
    rcases A.tr.fn a ha with z | z
    · exact rl.fo a (inG a z)
    · exact none_of rl.g.oh z) (A.zf a ha)
  have sl := h5 (some vi) (some ⟨s, d'⟩) Fm Z' (oNew O Z') H' A.tr.z oNew_same (.inr n) (fun a ha o h nn => A.tr.keep a o h (by
    rcases List.mem_append.mp ha with ha | ha
    · exact g1 a ha
    · exact g2 a ha) nn) (by
      cases s with
      | own => exact .inl ow
      | brw => exact .inl ow
      | _ => cases hs)
  rw [set_same hsi] at sl
  obtain ⟨m1, m2, m3⟩ := List.nodup_append.mp A.nd
  have nd2 : ((F1 ++ (Fm ++ F2)) ++ G).Nodup := by
    refine List.nodup_append.mpr ⟨List.nodup_append.mpr ⟨n1, List.nodup_append.mpr ⟨m1, n5, fun a ha b hb e => (fn1 a (List.mem_append_left _ ha)).2 (e ▸ hb)⟩, fun a ha b hb e => ?_⟩, m2, fun a ha b hb e => ?_⟩
    · rcases List.mem_append.mp hb with hb | hb
      · exact (fn1 b (List.mem_append_left _ hb)).1 (e ▸ ha)
      · exact n3 a ha b (List.mem_append_right _ hb) e
    · rcases List.mem_append.mp ha with ha | ha
      · exact (fn1 b (List.mem_append_right _ hb)).1 (e ▸ ha)
      · rcases List.mem_append.mp ha with ha | ha
        · exact m3 a ha b hb e
        · exact (fn1 b (List.mem_append_right _ hb)).2 (e ▸ ha)
  have tr : Tr Z H F Z' H' ((F1 ++ (Fm ++ F2)) ++ G) := by
    refine ⟨A.tr.z, fun a o h hn nn => A.tr.keep a o h (fun z => hn (inG a z)) nn, fun a h => (A.tr.zn a h).imp id fun z => z.imp (inG a) id, fun a ha => ?_, fun a h => (A.tr.fr a h).imp (inG a) id, fun a hn h => A.tr.tab a (fun z => hn (inG a z)) h⟩
    have key : ∀ a ∈ Fm ++ G, a ∈ F ∨ H a = none := fun a ha => (A.tr.fn a ha).imp (inG a) id
    rcases List.mem_append.mp ha with ha | ha
    · rcases List.mem_append.mp ha with ha | ha
      · exact .inl (in1 a ha)
      · rcases List.mem_append.mp ha with ha | ha
        · exact key a (List.mem_append_left _ ha)
        · exact .inl (in2 a ha)
    · exact key a (List.mem_append_right _ ha)
  have nv : nov (ρ.set i (some ⟨s, d'⟩)) = true := nov_set n fun d e => by
    cases e
    cases hs
  refine ⟨⟨oNew_good hO A.zh A.tz rl.g.nt A.nt, (List.nodup_append.mp nd2).1, fun a ha => ?_, sl, A.tb⟩, nv, nd2, fun a ha => oN a (List.mem_append_right _ ha), tr, tr.sub, oNew_same, rfl, fun j dj hj => ⟨rfl, ?_⟩, fun a h => ?_⟩
  · rcases List.mem_append.mp ha with ha | ha
    · exact outer_none (rl.fo a (in1 a ha)) (zz a (in1 a ha) (g1 a ha))
    · rcases List.mem_append.mp ha with ha | ha
      · exact oN a (List.mem_append_left _ ha)
      · exact outer_none (rl.fo a (in2 a ha)) (zz a (in2 a ha) (g2 a ha))
  · by_cases ij : i = j
    · subst ij
      rw [hj] at hi
      cases hi
      obtain ⟨hl, _⟩ := List.getElem?_eq_some_iff.mp hj
      exact ⟨d', List.getElem?_set_self hl⟩
    · exact ⟨dj, by rw [List.getElem?_set_ne ij]; exact hj⟩
  · cases w : O a with
    | some x => exact .inl (by simp)
    | none =>
      rw [oNew_none w] at h
      rcases A.tr.zn a h with z | z | z
      · exact absurd (rl.g.zo.free w) z
      · exact .inr (.inl (inG a z))
      · exact .inr (.inr z)
/-- the promise of a def that changes one thing, at the state behind its arguments -/
theorem spF_call {Z O H : Hp} {σ : St} {ρ : Ev} {F : List Addr} {Q : VK} {f : Fn} {md : List Md} {i : Nat} {rs : List AR} {ds : List D} {vs : List V} {Gt : List Addr} {s : Sx} {d : D} (rl : Rel K Z O H σ ρ F) (n : nov ρ = true) (hnb : ∀ j r, AR.n j r ∈ rs → ρ[j]? = some (some r))
    (q : RepXs K Z O H σ vs rs Gt) (dj : ∀ a ∈ Gt, a ∉ F) (ea : xargs i md rs = some ds) (hi : ρ[i]? = some (some ⟨s, d⟩)) (hs : isOB s = true) (h1 : nm md = 1) (h : MRK K E Z O H σ ρ F Q (mOut i s (f ds) ρ)) : spF K md f vs H Q E := by
  obtain ⟨hl, _⟩ := List.getElem?_eq_some_iff.mp hi
  obtain ⟨x, y, F1, Gi, F2, e1, e2, e3, e4, h5⟩ := rl.sl.focus hl
  rw [hi] at e2
  cases e2
  cases x with
  | none => exact e4.elim
  | some vi =>
    have ow : Own K Z H vi d Gi := by
      cases s with
      | own => exact RepS.rep e4 nofun
      | brw => exact RepS.rep e4 nofun
      | _ => cases hs
    have inG : ∀ a ∈ Gi, a ∈ F := fun a ha => by rw [e3]; simp [ha]
    have nF := rl.nd
    rw [e3] at nF
    obtain ⟨n1, n2, n3⟩ := List.nodup_append.mp nF
    obtain ⟨n4, n5, n6⟩ := List.nodup_append.mp n2
    have ww : ∀ a o, H a = some o → a ∉ Gi → (∀ ps, o ≠ .tbl ps) → without H Gi a = some o := fun a o h hn nn => by unfold without; rw [if_neg hn, h]; exact noTb_of nn
    have ow' : Same O (without H Gi) := fun a o h => ww a o (rl.g.oh _ _ h) (fun z => by rw [rl.fo a (inG a z)] at h; cases h) fun ps e => rl.g.nt a ps (by rw [h, e])
    have zw' : Same Z (without H Gi) := rl.g.zo.trans ow'
    have tz' : ∀ a o, without H Gi a = some o → fzn o = true → Z a = some o := fun a o h f => rl.g.tz a o (without_some h).1 f
    have sw := h5 none none [] Z O (without H Gi) (Same.refl _) (Same.refl _) (.inr n) (fun a ha o h nn => ww a o h (by
      rcases List.mem_append.mp ha with ha | ha
      · exact fun z => n3 a ha a (List.mem_append_left _ z) rfl
      · exact fun z => n6 a z a ha rfl) nn) rfl
    obtain ⟨i1, i2, i3⟩ := xargs_ok (K := K) rl.g.zo zw' ow' tz' rl.g.nt ow e1 (fun j r hj hr => by
      obtain ⟨v, hv, Fj, q⟩ := sw.get (i := j) (r := r) (by rw [List.getElem?_set_ne (fun z => hj z.symm)]; exact hr)
      rw [List.getElem?_set_ne (fun z => hj z.symm)] at hv
      exact ⟨v, Fj, hv, q⟩) (fun r hr => by rw [hi] at hr; cases hr; rfl) (md := md) (rs := rs) (vs := vs) (fun a ha o h nn => ww a o h (fun z => dj a ha (inG a z)) nn) hnb q ea (by omega)
    rw [if_pos h1] at i1
    refine ⟨i2, Z, ds, Gi, rl.g.zh, rl.g.ntz, rl.tb, rl.g.tz, i1, n4, fun a ha => rl.g.zo.free (rl.fo a (inG a ha)), ?_⟩
    unfold mOut at h
    cases ef : f ds with
    | bad => rw [ef] at h; exact h.elim
    | ok r ms =>
      rw [ef] at h
      match ms, h with
      | [], h => exact h.elim
      | _ :: _ :: _, h => exact h.elim
      | [d'], h =>
        intro v H' Z' Fm G A t rr
        have o1 := i3 _ _ _ _ A.outs
        rw [if_pos h1] at o1
        obtain ⟨d2, ed, ow2⟩ := o1
        cases ed
        obtain ⟨rl', nv', nd', fo', tr', ts'⟩ := after_call rl n e3 e1 hi hs h5 A ow2
        exact h v H' Z' (oNew O Z') _ G rl' nv' (RetR.move rr t) nd' fo' tr' ts'
    | exc c fs ms =>
      rw [ef] at h
      match ms, h with
      | [], h => exact h.elim
      | _ :: _ :: _, h => exact h.elim
      | [d'], h =>
        intro H' Z' Fm d0 xs A hd ek rk
        have o1 := i3 _ _ _ _ A.outs
        rw [if_pos h1] at o1
        obtain ⟨d2, ed, ow2⟩ := o1
        cases ed
        obtain ⟨rl', nv', nd', fo', tr', ts'⟩ := after_call rl n e3 e1 hi hs h5 A ow2
        exact h H' Z' (oNew O Z') _ d0 xs rl' ts' hd ek rk
theorem mCall_ok {σ : St} {H : Hp} {Q : VK} {f : Fn} {md : List Md} {i : Nat} {ks : List Ax} (h : tM K E (mCall f md i ks) σ H Q) : tAX K E ks σ H fun vs H1 => spF K md f vs H1 Q E := by
  obtain ⟨Z, O, ρ, F, rl, n, h⟩ := h
  refine ⟨Z, O, ρ, F, rl, ?_⟩
  unfold mCall at h
  cases e : evx ks ρ with
  | bad => rw [e] at h; exact h.elim
  | exc c fs =>
    rw [e] at h
    exact fun H' Z' O' d xs x g q a b => h H' Z' O' F d xs (rl.ext x g) (TrS.ext x) q a b
  | ok rs =>
    rw [e] at h
    simp only at h
    intro vs H1 Z1 O1 Gt x1 g1 q nd fr
    cases ea : xargs i md rs with
    | none => rw [ea] at h; exact h.elim
    | some ds =>
      rw [ea] at h
      simp only at h
      cases hi : ρ[i]? with
      | none => rw [hi] at h; exact h.elim
      | some y =>
        cases y with
        | none => rw [hi] at h; exact h.elim
        | some r =>
          obtain ⟨s, d⟩ := r
          rw [hi] at h
          simp only at h
          by_cases c : isOB s = true ∧ nm md = 1
          · rw [if_pos c] at h
            exact spF_call (rl.ext x1 g1) n (evx_names e) q (fun a ha z => by
              obtain ⟨o, w, _⟩ := rl.sl.live a z
              rw [(fr a ha).1] at w
              cases w) ea hi c.1 c.2 (MRK.from h (TrS.ext x1))
          · rw [if_neg c] at h; exact h.elim
end
section
variable {X : Cx} {E : XK} {CX : CXT} {k k' : Nat} {ps : List Str} {md : List Md} {m : Fn} {x : Str} {p pos : Pos} {e : Expr} {es : List Expr} {ks : List Ax} {i : Nat}
theorem s_mcall (i : Nat) (c : Cal CX X.prog X.w X.K X.mg X.base k x ps md m) (hr : Room k' X.A) (hx : Passes CX X E) (ha : PA X (e :: es) (tAX X.K E ks)) (hg : Gl X x := by rfl) (hk : k ≤ k' := by decide)
    (hdb : (x == ("__debug__" : Str)) = false := by decide) (he : starEach (e :: es) X.env = (false, eval e X.env) :: starEach es X.env := by rfl) (hpl : (backTo pos (starEach es X.env)).any (·.1) = false := by rfl) :
    PE X (.Call (.Name x p) (e :: es) [] pos) (tM X.K E (mCall m md i ks)) := by
  obtain ⟨f, fd, F, b, kp, hm⟩ := c.ex
  refine (pe_call F (hr.mono hk) hg hm kp b .nil hx ha hdb he hpl).imp fun σ H Q h => ?_
  obtain ⟨Z, O, ρ, F, rl, q⟩ := mCall_ok h
  refine ⟨Z, O, ρ, F, rl, ?_⟩
  cases e : evx ks ρ with
  | bad => rw [e] at q; exact q
  | exc c fs => rw [e] at q; exact q
  | ok rs =>
    rw [e] at q
    intro vs H' Z' O' G a1 a2 a3 a4 a5
    show spF X.K md m (vs ++ []) H' Q E
    rw [List.append_nil]
    exact q vs H' Z' O' G a1 a2 a3 a4 a5
end
end Oz

namespace Oz
open PySem PySem.Spec L2
open PyProof.Rows hiding St
variable [WD]

/-! ### objects -/
/-- what an object of the class c has -/
def unO (c : Str) (d : D) : Option (List (D × D)) := match d with
  | .dict ((.none, .str c') :: es) => if c' = c then some es else none
  | _ => none
section
variable {K : PySem.W.Frag} {Z O H C : Hp} {v : V}
end
def fldR (c f : Str) (r : R) : Res R := match unO c r.d with
  | some es => (match lkD (.inr f) es with
    | some d => .ok (sub r.s d)
    | none => .bad)
  | none => .bad
def pFld (c f : Str) (p : Px) : Px := fun ρ => (p ρ).bind fun r => fldR c f r
def plF (c f : Str) (l : Plx) : Plx := fun ρ => (l ρ).bind fun l => match unO c l.d with
  | some es => (match lkD (.inr f) es with
    | some d => .ok ⟨l.i, d, fun y => l.put (objD c (ptD (.inr f) y es))⟩
    | none => .bad)
  | none => .bad
def sFldS (c f : Str) (l : Plx) (q : Px) : Stx := fun ρ => match q ρ with
  | .bad => .bad
  | .exc c fs => .exc c fs ρ
  | .ok r => (match ownR r with
    | none => .bad
    | some d => (match l ρ with
      | .bad => .bad
      | .exc c fs => .exc c fs ρ
      | .ok l => (match unO c l.d with
        | some es => if es.length < 1000 then putE l (objD c (ptD (.inr f) d es)) ρ else .bad
        | none => .bad)))
section
variable {X : Cx} {E : XK} {o e : Expr} {l : Plx} {p q : Px} {pos pos' apos : Pos} {c f : Str}
end
end Oz

namespace Oz
open PySem PySem.Spec L2
open PyProof.Rows hiding St
variable [WD]

/-! ### methods -/
structure CalM (CX : CXT) (P : Program) (w : World) (K : PySem.W.Frag) (mg : Str → Option Value) (base : Heap) (k : Nat) (c m : Str) (ps : List Str) (md : List Md) (g : Fn) : Prop where
  cl : Cls K (He.ga K c)
  ex : ∃ f fd, FnOk P w K mg base CX k f fd ps (spF K md g) ∧ Binds K fd ps [] ∧ Meth K (He.ga K c) m f
/-- x.m(..), x an object that the call changes -/
def mMeth (c mn : Str) (f : Fn) (md : List Md) (i : Nat) (ks : List Ax) : Stx := fun ρ => match ρ[i]? with
  | some (some ⟨_, d⟩) => (match unO c d with
    | some es => if lkD (.inr mn) es = none then mCall f md i (.n i :: ks) ρ else .bad
    | none => .bad)
  | _ => .bad
section
variable {K : PySem.W.Frag} {E : XK} {Z O H : Hp} {σ : St} {ρ : Ev} {F : List Addr} {Q : VK}
end
section
variable {X : Cx} {E : XK} {CX : CXT} {k k' : Nat} {ps : List Str} {md : List Md} {g : Fn} {c m x : Str} {p pos apos : Pos} {e o : Expr} {es : List Expr} {ks : List Ax} {qs : List Px} {q : Px} {i : Nat}
end
/-! ### a new object -/
structure CalI (CX : CXT) (P : Program) (w : World) (K : PySem.W.Frag) (mg : Str → Option Value) (base : Heap) (k : Nat) (c : Str) (ps : List Str) (md : List Md) (g : Fn) : Prop where
  hm : mg c = some (.ref (He.ga K c))
  ex : ∃ f fd, FnOk P w K mg base CX k f fd ps (spF K (.m :: md) g) ∧ Binds K fd ps [] ∧ Mk K (He.ga K c) f
def mkR (c : Str) (g : Fn) (md : List Md) (rs : List R) : Res R := match pargs md rs with
  | some ds => (match g (objD c [] :: ds) with
    | .ok ⟨.imm, .none⟩ [d'] => .ok ⟨.own, d'⟩
    | .exc c fs [_] => .exc c fs
    | _ => .bad)
  | none => .bad
def pMake (c : Str) (g : Fn) (md : List Md) (ps : List Px) : Px := fun ρ => (evs ps ρ).bind fun rs => mkR c g md rs
section
variable {K : PySem.W.Frag} {E : XK} {Z O H : Hp} {Q : VK} {W : List Addr}
end
section
variable {X : Cx} {E : XK} {CX : CXT} {k k' : Nat} {ps : List Str} {md : List Md} {g : Fn} {c : Str} {p pos : Pos} {e : Expr} {es : List Expr} {qs : List Px}
end
end Oz

namespace Oz
open PySem PySem.Spec L2
open PyProof.Rows hiding St
variable [WD]

/-! ### constants of the module -/
section
variable {X : Cx} {E : XK} {x : Str} {pos : Pos}
theorem s_globT {a : Addr} {d : D} (t : ∀ C, Rep X.K C (.ref a) d) (hm : X.mg x = some (.ref a)) (hg : Gl X x := by rfl) (hd : (x == ("__debug__" : Str)) = false := by decide) : PE X (.Name x pos) (tP X.K E (pC d)) := s_glob (v := .ref a) hg hm (show RelV (.ref a) (.ref a) from rfl) t hd
theorem s_globI {i : Int} (hm : ∃ t, X.mg x = some (.int i t)) (hg : Gl X x := by rfl) (hd : (x == ("__debug__" : Str)) = false := by decide) : PE X (.Name x pos) (tP X.K E (pC (.int i))) := by
  obtain ⟨t, hm⟩ := hm
  exact s_glob (v := .int i) hg hm ⟨t, rfl⟩ (fun C => .int i) hd
end
def dvD : He.Dv → Option D
  | .int i => some (.int i)
  | .str x => some (.str x)
  | .bl b => some (.bool b)
  | .non => some .none
  | _ => none
theorem dvs_rep {K : PySem.W.Frag} {C : Hp} : ∀ {vs : List He.Dv} {ds : List D}, vs.map dvD = ds.map some → Reps K C (vs.map (He.Dv.v K)) ds
  | [], [], _ => .nil
  | v :: vs, d :: ds, h => by
    simp only [List.map_cons, List.cons.injEq] at h
    refine .cons ?_ (dvs_rep h.2)
    have h1 := h.1
    cases v with
    | int i => cases h1; exact .int i
    | str x => cases h1; exact .str x
    | bl b => cases h1; exact .bl b
    | non => cases h1; exact .non
    | _ => cases h1
  | [], _ :: _, h => by simp at h
  | _ :: _, [], h => by simp at h
theorem tup_glob {K : PySem.W.Frag} {x : Str} {vs : List He.Dv} {ds : List D} (h : He.tupB K x vs = true) (e : vs.map dvD = ds.map some := by rfl) (C : Hp) : Rep K C (.ref (He.ga K x)) (.tuple ds) := .tup (He.tupB_ok h C) (dvs_rep e)

/-! ### slices -/
def cutD (ds : List D) (lo hi : Option Int) : List D := (ds.drop (HT.sIx ds.length 0 lo)).take (HT.sIx ds.length ds.length hi - HT.sIx ds.length 0 lo)
theorem Reps.cut {K : PySem.W.Frag} {C : Hp} {vs : List V} {ds : List D} (h : Reps K C vs ds) (lo hi : Option Int) : Reps K C (cutV vs lo hi) (cutD ds lo hi) := by
  unfold cutV cutD
  rw [h.length]
  exact (h.drop _).take _
def evO : Option Px → Ev → Res (Option Int)
  | none, _ => .ok none
  | some p, ρ => (p ρ).bind fun r => match r.d with
    | .int i => .ok (some i)
    | _ => .bad
def tPO (K : PySem.W.Frag) (E : XK) : Option Px → TO
  | none => tNoPart
  | some p => tPart (tP K E p)
def cutR (r : R) (lo hi : Option Int) : Res R := match r.d with
  | .list ds => dnew r.s (cutD ds lo hi)
  | .tuple ds => tnew r.s (cutD ds lo hi)
  | _ => .bad
def pSl (p : Px) (lo hi : Option Px) : Px := fun ρ => (p ρ).bind fun r => (evO lo ρ).bind fun l => (evO hi ρ).bind fun u => cutR r l u
section
variable {K : PySem.W.Frag} {E : XK} {Z O H Z1 O1 H1 : Hp} {σ : St} {ρ : Ev} {F : List Addr} {Q : VK}
theorem tPO_next {op : Option Px} {k : Option Int → Res R} (rl : Rel K Z1 O1 H1 σ ρ F) (x1 : Ext [] Z O H Z1 O1 H1) (h : ResK K E [] Z O H ((evO op ρ).bind k) Q) {T : Option Int → Hp → Prop}
    (next : ∀ o Z2 O2 H2, Ext [] Z1 O1 H1 Z2 O2 H2 → Rel K Z2 O2 H2 σ ρ F → ResK K E [] Z O H (k o) Q → T o H2) : tPO K E op σ H1 T := by
  cases op with
  | none => exact next none Z1 O1 H1 (Ext.refl _ _ _ _) rl h
  | some p =>
    refine ⟨Z1, O1, ρ, F, rl, ?_⟩
    have h : ResK K E [] Z O H (((p ρ).bind fun r => match r.d with | .int i => (Res.ok (some i) : Res (Option Int)) | _ => .bad).bind k) Q := h
    cases e : p ρ with
    | bad => rw [e] at h; exact h.elim
    | exc c fs => rw [e] at h; exact ExcK.ext h x1
    | ok r =>
      rw [e] at h
      simp only [Res.bind_ok] at h
      obtain ⟨s, d⟩ := r
      cases d with
      | int i =>
        intro v H2 Z2 O2 G x2 g2 q nd fr
        have lk := q.look g2
        cases lk
        exact ⟨i, rfl, next (some i) Z2 O2 H2 x2 (rl.ext x2 g2) h⟩
      | _ => exact h.elim
theorem pSl_ok {p : Px} {lo hi : Option Px} (h : tP K E (pSl p lo hi) σ H Q) : tSl (fun x l u H Q => rSlL K x l u H Q ∨ rSlA K x l u H Q) (tP K E p) (tPO K E lo) (tPO K E hi) σ H Q := by
  refine tP_bind (k := fun r ρ => (evO lo ρ).bind fun l => (evO hi ρ).bind fun u => cutR r l u) h fun Z O H1 Z1 O1 ρ F G v r rl x1 r1 q1 nd fr h2 => ?_
  refine tPO_next r1 x1 h2 fun l Z2 O2 H2 x2 r2 h3 => ?_
  refine tPO_next r2 (x1.trans0 x2) h3 fun u Z3 O3 H3 x3 r3 h4 => ?_
  have h5 : ResK K E [] Z3 O3 H3 (cutR r l u) Q := ResK.ext h4 ((x1.trans0 x2).trans0 x3) fun a ha => by cases ha
  have q3 := (q1.ext x2).ext x3
  obtain ⟨s, d⟩ := r
  have lk := q3.look r3.g
  cases d with
  | list ds =>
    cases lk with
    | lst ha rv =>
      rename_i a vs
      refine .inl ⟨_, _, rfl, .inl (.inl ha), fun p np => dnew_ok (s := s) r3.g h5 (rv.cut l u) (fun es => ?_) np⟩
      obtain ⟨p', vs', e1, e2, e3⟩ := q3.zlist es
      cases e1
      have := r3.g.zh _ _ e2
      rw [ha] at this
      cases this
      exact e3.cut l u
  | tuple ds =>
    have key : ∃ a vs, v = .ref a ∧ SqT K H3 a vs ∧ Reps K H3 vs ds ∧ (s = .imm → Reps K Z3 vs ds) := by
      by_cases es : s = .imm
      · obtain ⟨p', vs', e1, e2, e3⟩ := q3.ztup es
        exact ⟨p', vs', e1, Same.seqT r3.g.zh e2, e3.mono r3.g.zh, fun _ => e3⟩
      · cases lk with
        | tup ha rv => exact ⟨_, _, rfl, ha, rv, fun e => absurd e es⟩
    obtain ⟨a, vs, ev, ha, rv, rz⟩ := key
    subst ev
    · skip
      obtain ⟨z1, z2⟩ := tnew_z (s := s) r3.g h5 (rv.cut l u) fun es => (rz es).cut l u
      refine .inr ⟨a, vs, rfl, ha, fun hw => ?_, fun hw p np => tnew_ok (s := s) r3.g h5 (rv.cut l u) (fun es => (rz es).cut l u) np⟩
      have ec : cutD ds l u = ds := by
        unfold cutD
        rw [rv.length] at hw
        rw [hw.1, hw.2]
        simp
      rw [ec] at z1 z2
      have h6 : (Oz.lfs ds = true ∨ s = .imm) := by
        have h7 : ResK K E [] Z3 O3 H3 (tnew s ds) Q := by
          have := h5
          unfold cutR at this
          simp only [ec] at this
          exact this
        unfold tnew at h7
        by_cases c : Oz.lfs ds = true ∨ s = .imm
        · exact c
        · rw [if_neg c] at h7; exact h7.elim
      refine OkK.imm r3.g z2 ?_
      rcases h6 with h6 | h6
      · exact (Rep.tup ha rv).up r3.g.tz (show lf (.tuple ds) = true from h6)
      · subst h6
        exact q3.1
  | _ => exact h5.elim
end
section
variable {X : Cx} {E : XK} {e a b : Expr} {p q r : Px} {pos p2 : Pos}
theorem s_sl10 (he : PE X e (tP X.K E p)) (ha : PE X a (tP X.K E q)) : PE X (.Subscript e (.Slice (some a) none none p2) pos) (tP X.K E (pSl p (some q) none)) := (pe_slice (sl_list.or sl_tupA) he (po_some ha) po_none).imp fun σ H Q h => pSl_ok h
theorem s_sl01 (he : PE X e (tP X.K E p)) (hb : PE X b (tP X.K E r)) : PE X (.Subscript e (.Slice none (some b) none p2) pos) (tP X.K E (pSl p none (some r))) := (pe_slice (sl_list.or sl_tupA) he po_none (po_some hb)).imp fun σ H Q h => pSl_ok h
end
/-! ### a list repeated -/
noncomputable def mulR (a b : R) : Res R := match a.d, b.d with
  | .int i, .int j => at2 fMul ⟨.imm, .int i⟩ ⟨.imm, .int j⟩
  | .list ds, .int k => if gd (decide (-(2 ^ 63) ≤ k ∧ k < 2 ^ 63)) = true ∧ ds.length * k.toNat ≤ sizeLine ∧ isOB a.s = true then dnew .view (List.replicate k.toNat ds).flatten else .bad
  | _, _ => .bad
theorem Reps.rep {K : PySem.W.Frag} {C : Hp} {vs : List V} {ds : List D} (h : Reps K C vs ds) : ∀ n : Nat, Reps K C (List.replicate n vs).flatten (List.replicate n ds).flatten
  | 0 => .nil
  | n + 1 => by
    rw [List.replicate_succ, List.replicate_succ, List.flatten_cons, List.flatten_cons]
    exact h.append (h.rep n)
theorem o_mul2 {K : PySem.W.Frag} : Op2 K (fun x y H Q => rI CMul (fun i j => .int (i * j)) x y H Q ∨ rRep x y H Q) mulR := by
  intro E Z O H x y a b F G Q g ra rb nd fo q
  obtain ⟨s, da⟩ := a
  obtain ⟨t, db⟩ := b
  have la := ra.look g
  have lb := rb.look g
  cases da with
  | int i => cases db with
    | int j =>
      cases la
      cases lb
      exact .inl (o_mul E Z O H _ _ ⟨.imm, .int i⟩ ⟨.imm, .int j⟩ [] [] Q g ⟨.int i, rfl⟩ ⟨.int j, rfl⟩ List.nodup_nil (fun c hc => by cases hc) (by
        have q2 : ResK K E (F ++ G) Z O H (at2 fMul ⟨.imm, .int i⟩ ⟨.imm, .int j⟩) Q := q
        unfold at2 at q2 ⊢
        cases e : fMul (PyData.int i) (PyData.int j) with
        | none => simp only [e] at q2; exact q2.elim
        | some d =>
          simp only [e] at q2 ⊢
          exact fun v H' Z' O' G' x g' r n f => q2 v H' Z' O' G' (x.mono fun c hc => by cases hc) g' r n fun c hc => ⟨.inl ((f c hc).1.elim id fun z => by cases z), (f c hc).2⟩))
    | _ => exact q.elim
  | list ds => cases db with
    | int k =>
      have q2 : ResK K E (F ++ G) Z O H (if gd (decide (-(2 ^ 63) ≤ k ∧ k < 2 ^ 63)) = true ∧ ds.length * k.toNat ≤ sizeLine ∧ isOB s = true then dnew .view (List.replicate k.toNat ds).flatten else .bad) Q := q
      by_cases c : gd (decide (-(2 ^ 63) ≤ k ∧ k < 2 ^ 63)) = true ∧ ds.length * k.toNat ≤ sizeLine ∧ isOB s = true
      · rw [if_pos c] at q2
        obtain ⟨c1, c2, c3⟩ := c
        have c4 := of_decide_eq_true (gd_el c1)
        cases lb
        cases la with
        | lst ha rv =>
          exact .inr ⟨_, k, _, rfl, rfl, ha, c4.1, c4.2, by rw [rv.length]; exact c2, fun p np => dnew_ok (s := .view) g q2 (rv.rep _) (fun es => by cases es) np⟩
      · rw [if_neg c] at q2; exact q2.elim
    | _ => exact q.elim
  | _ => cases db <;> exact q.elim
theorem op_mul2 {X : Cx} : OpR X (binaryOp .Mult) (fun x y H Q => rI CMul (fun i j => .int (i * j)) x y H Q ∨ rRep x y H Q) := OpR.or op_mul op_rep
/-! ### the head's Hook, with a check of one's own -/
noncomputable section
end
end Oz

namespace Oz
open PySem PySem.Spec L2
open PyProof.Rows hiding St
variable [WD]

/-! ### what one owns lasts from now on -/
def frzE (i : Nat) (ρ : Ev) : Ev := match ρ[i]? with
  | some (some ⟨.own, d⟩) => ρ.set i (some ⟨.imm, d⟩)
  | _ => ρ
def sFrz (i : Nat) (s : Stx) : Stx := fun ρ => s (frzE i ρ)
section
variable {K : PySem.W.Frag} {Z O H : Hp} {σ : St} {ρ : Ev} {F : List Addr}
theorem frz_ok (rl : Rel K Z O H σ ρ F) (n : nov ρ = true) (i : Nat) : ∃ Z' O' F', Rel K Z' O' H σ (frzE i ρ) F' ∧ nov (frzE i ρ) = true ∧ TrS Z O H σ ρ F Z' O' H σ (frzE i ρ) F' := by
  have same : ∃ Z' O' F', Rel K Z' O' H σ ρ F' ∧ nov ρ = true ∧ TrS Z O H σ ρ F Z' O' H σ ρ F' := ⟨Z, O, F, rl, n, TrS.refl _ _ _ _ _ _⟩
  unfold frzE
  cases e : ρ[i]? with
  | none => exact same
  | some y =>
    cases y with
    | none => exact same
    | some r =>
      obtain ⟨s, d⟩ := r
      cases s with
      | own =>
        obtain ⟨hl, _⟩ := List.getElem?_eq_some_iff.mp e
        obtain ⟨x, y, F1, G, F2, h1, h2, h3, h4, h5⟩ := rl.sl.focus hl
        rw [e] at h2
        cases h2
        cases x with
        | none => exact h4.elim
        | some v =>
          have ow : Own K Z H v d G := RepS.rep h4 nofun
          have nF := rl.nd
          rw [h3] at nF
          obtain ⟨n1, n2, n3⟩ := List.nodup_append.mp nF
          obtain ⟨n4, n5, n6⟩ := List.nodup_append.mp n2
          have inF : ∀ a ∈ G, a ∈ F := fun a ha => by rw [h3]; simp [ha]
          have oG : ∀ a ∈ G, O a = none := fun a ha => rl.fo a (inF a ha)
          have zG : ∀ a ∈ G, Z a = none := fun a ha => rl.g.zo.free (oG a ha)
          let Z' : Hp := fun a => if a ∈ G then H a else Z a
          let O' : Hp := fun a => if a ∈ G then H a else O a
          have z1 : ∀ a, a ∈ G → Z' a = H a := fun a ha => if_pos ha
          have z0 : ∀ a, a ∉ G → Z' a = Z a := fun a ha => if_neg ha
          have o1 : ∀ a, a ∈ G → O' a = H a := fun a ha => if_pos ha
          have o0 : ∀ a, a ∉ G → O' a = O a := fun a ha => if_neg ha
          have zz : Same Z Z' := fun a o h => by
            rw [z0 a fun ha => by rw [zG a ha] at h; cases h]; exact h
          have oo : Same O O' := fun a o h => by
            rw [o0 a fun ha => by rw [oG a ha] at h; cases h]; exact h
          have gd : Good Z' O' H := by
            refine ⟨fun a o h => ?_, fun a o h => ?_, fun a o h f => zz a o (rl.g.tz a o h f), fun a ps h => ?_⟩
            rotate_right
            · by_cases ha : a ∈ G
              · rw [o1 a ha] at h; exact ow.ntb a ha ps h
              · rw [o0 a ha] at h; exact rl.g.nt a ps h
            · by_cases ha : a ∈ G
              · rw [z1 a ha] at h; rw [o1 a ha]; exact h
              · rw [z0 a ha] at h; rw [o0 a ha]; exact rl.g.zo a o h
            · by_cases ha : a ∈ G
              · rw [o1 a ha] at h; exact h
              · rw [o0 a ha] at h; exact rl.g.oh a o h
          have rp : Rep K Z' v d := Own.rep (Same.refl Z') (Own.mono zz (fun a ha o h _ => by rw [z1 a ha]; exact h) ow)
          have sl := h5 (some v) (some ⟨.imm, d⟩) [] Z' O' H zz oo (.inl fun _ _ q _ => q) (fun a _ o h _ => h) (.inl ⟨rp, rfl⟩)
          rw [set_same h1] at sl
          have sb : (F1 ++ ([] ++ F2)).Sublist F := by
            rw [h3, List.nil_append]
            exact List.Sublist.append (List.Sublist.refl _) (List.sublist_append_right _ _)
          have nG : ∀ a ∈ F1 ++ ([] ++ F2), a ∉ G := fun a ha z => by
            rcases List.mem_append.mp ha with ha | ha
            · exact n3 a ha a (List.mem_append_left _ z) rfl
            · exact n6 a z a (by simpa using ha) rfl
          refine ⟨Z', O', _, ⟨gd, rl.nd.sublist sb, fun a ha => by rw [o0 a (nG a ha)]; exact rl.fo a (sb.subset ha), sl, rl.tb⟩, nov_set n (fun d' e' => by cases e'), ⟨⟨zz, fun a o h _ _ => h, fun a h => ?_, fun a ha => .inl (sb.subset ha), fun a h => .inr h, fun a _ h => h⟩, oo, rfl, fun j dj hj => ⟨rfl, dj, ?_⟩, fun a h => ?_⟩⟩
          · by_cases ha : a ∈ G
            · exact .inr (.inl (inF a ha))
            · rw [z0 a ha] at h; exact .inl h
          · have ne : i ≠ j := fun z => by rw [z] at e; rw [e] at hj; cases hj
            rw [List.getElem?_set_ne ne]
            exact hj
          · by_cases ha : a ∈ G
            · exact .inr (.inl (inF a ha))
            · rw [o0 a ha] at h; exact .inl h
      | _ => exact same
end
theorem s_frz {X : Cx} {E : XK} {st : Stmt} {s : Stx} (i : Nat) (h : PS X st (tS X.K E s)) : PS X st (tS X.K E (sFrz i s)) := h.imp fun D σ H q => by
  obtain ⟨Z, O, ρ, F, rl, n, q⟩ := q
  obtain ⟨Z', O', F', rl', n', tr⟩ := frz_ok rl n i
  exact ⟨Z', O', _, F', rl', n', SRK.from q tr⟩

/-! ### reckoning, continued -/
section
variable {ρ : Ev}
@[simp] theorem x_frz {i : Nat} {s : Stx} : sFrz i s ρ = s (frzE i ρ) := id rfl
@[simp] theorem x_frzE {i : Nat} : frzE i ρ = (match ρ[i]? with | some (some ⟨.own, d⟩) => ρ.set i (some ⟨.imm, d⟩) | _ => ρ) := id rfl
@[simp] theorem x_setI {l : Plx} {p q : Px} : sSetI l p q ρ = (match q ρ with
  | .bad => .bad
  | .exc c fs => .exc c fs ρ
  | .ok r => (match ownR r with
    | none => .bad
    | some d => (match l ρ with
      | .bad => .bad
      | .exc c fs => .exc c fs ρ
      | .ok l => (match p ρ with
        | .bad => .bad
        | .exc c fs => .exc c fs ρ
        | .ok i => (match l.d, i.d with
          | .list ds, .int k => (match ixN ds.length k with
            | some j => putE l (.list (ds.set j d)) ρ
            | none => .bad)
          | _, _ => .bad))))) := id rfl
@[simp] theorem x_put {l : Plx} {p q : Px} : sPut l p q ρ = (match q ρ with
  | .bad => .bad
  | .exc c fs => .exc c fs ρ
  | .ok r => (match ownR r with
    | none => .bad
    | some d => (match l ρ with
      | .bad => .bad
      | .exc c fs => .exc c fs ρ
      | .ok l => (match p ρ with
        | .bad => .bad
        | .exc c fs => .exc c fs ρ
        | .ok i => (match l.d, keyOf i.d with
          | .dict es, some k => if isDct es = true ∧ ukD k es = true ∧ es.length < sizeLine then putE l (.dict (ptD k d es)) ρ else .bad
          | _, _ => .bad))))) := id rfl
@[simp] theorem x_fldS {c f : Str} {l : Plx} {q : Px} : sFldS c f l q ρ = (match q ρ with
  | .bad => .bad
  | .exc c fs => .exc c fs ρ
  | .ok r => (match ownR r with
    | none => .bad
    | some d => (match l ρ with
      | .bad => .bad
      | .exc c fs => .exc c fs ρ
      | .ok l => (match unO c l.d with
        | some es => if es.length < 1000 then putE l (objD c (ptD (.inr f) d es)) ρ else .bad
        | none => .bad)))) := id rfl
@[simp] theorem x_plK {l : Plx} {p : Px} : plK l p ρ = ((l ρ).bind fun l => (p ρ).bind fun r => match l.d, keyOf r.d with
  | .dict es, some k => if isDct es = true ∧ ukD k es = true then (match lkD k es with
    | some d => .ok ⟨l.i, d, fun y => l.put (.dict (ptD k y es))⟩
    | none => .bad) else .bad
  | _, _ => .bad) := id rfl
@[simp] theorem x_plF {c f : Str} {l : Plx} : plF c f l ρ = ((l ρ).bind fun l => match unO c l.d with
  | some es => (match lkD (.inr f) es with
    | some d => .ok ⟨l.i, d, fun y => l.put (objD c (ptD (.inr f) y es))⟩
    | none => .bad)
  | none => .bad) := id rfl
@[simp] theorem x_fld {c f : Str} {p : Px} : pFld c f p ρ = ((p ρ).bind fun r => match unO c r.d with
  | some es => (match lkD (.inr f) es with
    | some d => .ok (sub r.s d)
    | none => .bad)
  | none => .bad) := id rfl
@[simp] theorem x_keyR {a b : R} : keyR a b = (match a.d, keyOf b.d with
  | .dict es, some k => if isDct es = true then (match lkD k es with
    | some d => .ok (sub a.s d)
    | none => .bad) else .bad
  | _, _ => .bad) := id rfl
@[simp] theorem x_unO {c : Str} {es : List (D × D)} : unO c (objD c es) = some es := by unfold unO objD; simp
@[simp] theorem lf_obj {c : Str} {es : List (D × D)} : lf (objD c es) = false := id rfl
@[simp] theorem x_mP {p : Px} : mP p ρ = (match p ρ with | .bad => .bad | .exc c fs => .exc c fs ρ | .ok r => .ret r ρ) := id rfl
@[simp] theorem x_mBind {s : Stx} {k : R → Stx} : mBind s k ρ = (match s ρ with | .ret r ρ' => k r ρ' | .exc c fs ρ' => .exc c fs ρ' | _ => .bad) := id rfl
@[simp] theorem x_mAnd {s t : Stx} : mAnd s t ρ = (match s ρ with | .ret r ρ' => (match truth r.d with | some true => t ρ' | some false => .ret r ρ' | none => .bad) | .exc c fs ρ' => .exc c fs ρ' | _ => .bad) := id rfl
@[simp] theorem x_mOr {s t : Stx} : mOr s t ρ = (match s ρ with | .ret r ρ' => (match truth r.d with | some true => .ret r ρ' | some false => t ρ' | none => .bad) | .exc c fs ρ' => .exc c fs ρ' | _ => .bad) := id rfl
@[simp] theorem x_mNot {s : Stx} : mNot s ρ = (match s ρ with | .ret r ρ' => (match truth r.d with | some b => .ret ⟨.imm, .bool (!b)⟩ ρ' | none => .bad) | .exc c fs ρ' => .exc c fs ρ' | _ => .bad) := id rfl
@[simp] theorem x_mTru {s : Stx} : mTru s ρ = (match s ρ with | .ret r ρ' => (match truth r.d with | some b => .ret ⟨.imm, .bool b⟩ ρ' | none => .bad) | .exc c fs ρ' => .exc c fs ρ' | _ => .bad) := id rfl
@[simp] theorem x_mTnot {s : Stx} : mTnot s ρ = (match s ρ with | .ret ⟨_, .bool b⟩ ρ' => .ret ⟨.imm, .bool (!b)⟩ ρ' | .exc c fs ρ' => .exc c fs ρ' | _ => .bad) := id rfl
@[simp] theorem x_mT {t : Tx} : mT t ρ = (match t ρ with | .bad => .bad | .exc c fs => .exc c fs ρ | .ok b => .ret ⟨.imm, .bool b⟩ ρ) := id rfl
@[simp] theorem x_mIfE {c s t : Stx} : mIfE c s t ρ = (match c ρ with | .ret ⟨_, .bool b⟩ ρ' => if b = true then s ρ' else t ρ' | .exc c fs ρ' => .exc c fs ρ' | _ => .bad) := id rfl
@[simp] theorem x_mIf {c s t : Stx} : mIf c s t ρ = (match c ρ with | .ret ⟨_, .bool b⟩ ρ' => if b = true then s ρ' else t ρ' | .exc c fs ρ' => .exc c fs ρ' | _ => .bad) := id rfl
@[simp] theorem x_mRet {s : Stx} : mRet s ρ = (match s ρ with | .ret r ρ' => if storable r = true then .ret r ρ' else .bad | .exc c fs ρ' => .exc c fs ρ' | _ => .bad) := id rfl
@[simp] theorem x_mAsg {i : Nat} {s : Stx} : mAsg i s ρ = (match s ρ with | .ret r ρ' => (match setS i r ρ' with | some ρ2 => .next ρ2 | none => .bad) | .exc c fs ρ' => .exc c fs ρ' | _ => .bad) := id rfl
@[simp] theorem x_mDrop {s : Stx} : mDrop s ρ = (match s ρ with | .ret _ ρ' => .next ρ' | .exc c fs ρ' => .exc c fs ρ' | _ => .bad) := id rfl
@[simp] theorem x_evx0 : evx [] ρ = .ok [] := id rfl
@[simp] theorem x_evxp {e : Px} {ks : List Ax} : evx (.p e :: ks) ρ = ((e ρ).bind fun r => if r.s = .view then .bad else (evx ks ρ).bind fun rs => .ok (.p r :: rs)) := id rfl
@[simp] theorem x_evxn {j : Nat} {ks : List Ax} : evx (.n j :: ks) ρ = (match ρ[j]? with | some (some r) => (evx ks ρ).bind fun rs => .ok (.n j r :: rs) | _ => .bad) := id rfl
@[simp] theorem x_mCall {f : Fn} {md : List Md} {i : Nat} {ks : List Ax} : mCall f md i ks ρ = (match evx ks ρ with
  | .bad => .bad
  | .exc c fs => .exc c fs ρ
  | .ok rs => (match xargs i md rs with
    | none => .bad
    | some ds => (match ρ[i]? with
      | some (some ⟨s, _⟩) => if isOB s = true ∧ nm md = 1 then mOut i s (f ds) ρ else .bad
      | _ => .bad))) := id rfl
@[simp] theorem x_mMeth {c mn : Str} {f : Fn} {md : List Md} {i : Nat} {ks : List Ax} : mMeth c mn f md i ks ρ = (match ρ[i]? with
  | some (some ⟨_, d⟩) => (match unO c d with
    | some es => if lkD (.inr mn) es = none then mCall f md i (.n i :: ks) ρ else .bad
    | none => .bad)
  | _ => .bad) := id rfl
@[simp] theorem x_mOut {i : Nat} {s : Sx} {r : R} {d' : D} : mOut i s (.ok r [d']) ρ = .ret r (ρ.set i (some ⟨s, d'⟩)) := id rfl
@[simp] theorem x_mOutX {i : Nat} {s : Sx} {c : Str} {fs : List (Str × D)} {d' : D} : mOut i s (.exc c fs [d']) ρ = .exc c fs (ρ.set i (some ⟨s, d'⟩)) := id rfl
@[simp] theorem xa_nil {i : Nat} : xargs i [] [] = some [] := id rfl
@[simp] theorem xa_m {i j : Nat} {md : List Md} {r : R} {rs : List AR} : xargs i (.m :: md) (.n j r :: rs) = if j = i then (xargs i md rs).map (r.d :: ·) else none := id rfl
@[simp] theorem xa_vp {i : Nat} {md : List Md} {r : R} {rs : List AR} : xargs i (.v :: md) (.p r :: rs) = (xargs i md rs).map (r.d :: ·) := id rfl
@[simp] theorem xa_vn {i j : Nat} {md : List Md} {r : R} {rs : List AR} : xargs i (.v :: md) (.n j r :: rs) = if j = i then none else if r.s = .tab then none else (xargs i md rs).map (r.d :: ·) := id rfl
@[simp] theorem nm0 : nm [] = 0 := id rfl
@[simp] theorem nmm {md : List Md} : nm (.m :: md) = nm md + 1 := id rfl
@[simp] theorem nmv {md : List Md} : nm (.v :: md) = nm md := id rfl
@[simp] theorem nmi {md : List Md} : nm (.i :: md) = nm md := id rfl
@[simp] theorem ob_own : isOB .own = true := id rfl
@[simp] theorem ob_brw : isOB .brw = true := id rfl
@[simp] theorem x_make {c : Str} {g : Fn} {md : List Md} {ps : List Px} : pMake c g md ps ρ = ((evs ps ρ).bind fun rs => match pargs md rs with
  | some ds => (match g (objD c [] :: ds) with
    | .ok ⟨.imm, .none⟩ [d'] => .ok ⟨.own, d'⟩
    | .exc c fs [_] => .exc c fs
    | _ => .bad)
  | none => .bad) := id rfl
@[simp] theorem x_neg {p : Px} : pNeg p ρ = ((p ρ).bind fun r => match r.d with | .int i => .ok ⟨.imm, .int (-i)⟩ | _ => .bad) := id rfl
@[simp] theorem x_sl {p : Px} {lo hi : Option Px} : pSl p lo hi ρ = ((p ρ).bind fun r => (evO lo ρ).bind fun l => (evO hi ρ).bind fun u => cutR r l u) := id rfl
@[simp] theorem x_evO0 : evO none ρ = .ok none := id rfl
@[simp] theorem x_evO1 {p : Px} : evO (some p) ρ = ((p ρ).bind fun r => match r.d with | .int i => .ok (some i) | _ => .bad) := id rfl
end
@[simp] theorem x_cutT {s : Sx} {ds : List D} {l u : Option Int} : cutR ⟨s, .tuple ds⟩ l u = tnew s (cutD ds l u) := id rfl
@[simp] theorem x_cutL {s : Sx} {ds : List D} {l u : Option Int} : cutR ⟨s, .list ds⟩ l u = dnew s (cutD ds l u) := id rfl
@[simp] theorem x_isN {b : D} : isF b .none = some (.bool (match b with | .none => true | _ => false)) := by cases b <;> rfl
@[simp] theorem x_isnN {b : D} : isnF b .none = some (.bool (match b with | .none => false | _ => true)) := by cases b <;> rfl
@[simp] theorem x_mul_ii {s t : Sx} {i j : Int} : mulR ⟨s, .int i⟩ ⟨t, .int j⟩ = (match fMul (.int i) (.int j) with | some d => .ok ⟨.imm, d⟩ | none => .bad) := id rfl
@[simp] theorem keyOf_i {i : Int} : keyOf (.int i) = some (.inl i) := id rfl
@[simp] theorem keyOf_s {x : Str} : keyOf (.str x) = some (.inr x) := id rfl
@[simp] theorem lkD_nil {k : Key} : lkD k [] = none := id rfl
@[simp] theorem lkD_cons {k : Key} {a d : D} {r : List (D × D)} : lkD k ((a, d) :: r) = if keyOf a = some k then some d else lkD k r := id rfl
@[simp] theorem ptD_nil {k : Key} {d : D} : ptD k d [] = [(kd k, d)] := id rfl
@[simp] theorem ptD_cons {k : Key} {a x d : D} {r : List (D × D)} : ptD k d ((a, x) :: r) = if keyOf a = some k then (a, d) :: r else (a, x) :: ptD k d r := id rfl
@[simp] theorem kd_s {x : Str} : kd (.inr x) = .str x := id rfl
@[simp] theorem kd_i {x : Int} : kd (.inl x) = .int x := id rfl
end Oz

namespace Oz
open PySem PySem.Spec L2
open PyProof.Rows hiding St
variable [WD]

/-! ### slots that nobody reads any more -/
def mskE : List Bool → Ev → Ev
  | [], ρ => ρ
  | _ :: _, [] => []
  | true :: bs, x :: ρ => x :: mskE bs ρ
  | false :: bs, x :: ρ => (match x with
    | some ⟨.brw, d⟩ => some ⟨.brw, d⟩
    | _ => none) :: mskE bs ρ
section
variable {K : PySem.W.Frag} {E : XK} {Z O H Z1 O1 H1 : Hp} {σ σ1 : St} {ρ ρ1 : Ev} {F F1 : List Addr} {nx : St → Hp → Prop} {rt : VK}
theorem Slots.msk : ∀ (bs : List Bool) {σ : List (Option V)} {ρ : Ev} {F : List Addr}, Slots K Z O H σ ρ F → ∃ F', Slots K Z O H σ (mskE bs ρ) F' ∧ F'.Sublist F
  | [], _, _, F, s => ⟨F, s, List.Sublist.refl _⟩
  | _ :: _, _, _, _, .nil => ⟨[], .nil, List.Sublist.refl _⟩
  | true :: bs, _, _, F, .non s => by
    obtain ⟨F', h1, h2⟩ := Slots.msk bs s
    exact ⟨F', .non h1, h2⟩
  | true :: bs, _, _, _, .val r s => by
    obtain ⟨F', h1, h2⟩ := Slots.msk bs s
    exact ⟨_, .val r h1, List.Sublist.append (List.Sublist.refl _) h2⟩
  | false :: bs, _, _, F, .non s => by
    obtain ⟨F', h1, h2⟩ := Slots.msk bs s
    exact ⟨F', .non h1, h2⟩
  | false :: bs, _, _, _, .val (r := r) q s => by
    obtain ⟨F', h1, h2⟩ := Slots.msk bs s
    obtain ⟨s, d⟩ := r
    cases s with
    | brw => exact ⟨_, .val q h1, List.Sublist.append (List.Sublist.refl _) h2⟩
    | _ => exact ⟨F', .non h1, h2.trans (List.sublist_append_right _ _)⟩
theorem nov_msk : ∀ (bs : List Bool) {ρ : Ev}, nov ρ = true → nov (mskE bs ρ) = true
  | [], _, n => n
  | _ :: _, [], n => n
  | true :: bs, x :: ρ, n => by
    have n1 : (_ && nov ρ) = true := n
    obtain ⟨n2, n3⟩ := Bool.and_eq_true_iff.mp n1
    show (_ && nov (mskE bs ρ)) = true
    rw [nov_msk bs n3, Bool.and_true]
    exact n2
  | false :: bs, x :: ρ, n => by
    have n1 : (_ && nov ρ) = true := n
    obtain ⟨n2, n3⟩ := Bool.and_eq_true_iff.mp n1
    show (_ && nov (mskE bs ρ)) = true
    rw [nov_msk bs n3, Bool.and_true]
    cases x with
    | none => rfl
    | some r =>
      obtain ⟨s, d⟩ := r
      cases s <;> rfl
theorem msk_brw : ∀ (bs : List Bool) {ρ : Ev} {j : Nat} {d : D}, ρ[j]? = some (some (R.mk .brw d)) → (mskE bs ρ)[j]? = some (some (R.mk .brw d))
  | [], _, _, _, h => h
  | _ :: _, [], _, _, h => h
  | true :: bs, x :: ρ, 0, _, h => h
  | true :: bs, x :: ρ, j + 1, _, h => by
    have := msk_brw bs (ρ := ρ) (j := j) (by simpa using h)
    simpa [mskE] using this
  | false :: bs, x :: ρ, 0, _, h => by
    simp at h
    subst h
    rfl
  | false :: bs, x :: ρ, j + 1, _, h => by
    have := msk_brw bs (ρ := ρ) (j := j) (by simpa using h)
    simpa [mskE] using this
theorem Rel.msk (rl : Rel K Z O H σ ρ F) (bs : List Bool) : ∃ F', Rel K Z O H σ (mskE bs ρ) F' ∧ F'.Sublist F := by
  obtain ⟨F', h1, h2⟩ := rl.sl.msk bs
  exact ⟨F', ⟨rl.g, rl.nd.sublist h2, fun a ha => rl.fo a (h2.subset ha), h1, rl.tb⟩, h2⟩
theorem TrS.msk (t : TrS Z O H σ ρ F Z1 O1 H1 σ1 ρ1 F1) (bs : List Bool) {F' : List Addr} (h : F'.Sublist F1) : TrS Z O H σ ρ F Z1 O1 H1 σ1 (mskE bs ρ1) F' :=
  ⟨⟨t.tr.z, t.tr.keep, t.tr.zn, fun a ha => t.tr.fn a (h.subset ha), t.tr.fr, t.tr.tab⟩, t.o, t.len, fun j d hj => by
    obtain ⟨e, d', h'⟩ := t.brw j d hj
    exact ⟨e, d', msk_brw bs h'⟩, t.on⟩
def sEnd (ks rs : List Bool) (s : Stx) : Stx := fun ρ => match s ρ with
  | .bad => .bad
  | .next ρ' => .next (mskE ks ρ')
  | .ret r ρ' => .ret r (mskE rs ρ')
  | .exc c fs ρ' => .exc c fs (mskE rs ρ')
def sPre (ks : List Bool) (s : Stx) : Stx := fun ρ => s (mskE ks ρ)
theorem SRK.fin {r : SR} {ks rs : List Bool} (h : SRK K E Z O H σ ρ F nx rt (match r with
    | .bad => .bad
    | .next ρ' => .next (mskE ks ρ')
    | .ret r ρ' => .ret r (mskE rs ρ')
    | .exc c fs ρ' => .exc c fs (mskE rs ρ'))) : SRK K E Z O H σ ρ F nx rt r := by
  cases r with
  | bad => exact h
  | next ρ' =>
    intro σ' H' Z' O' F' q n u
    obtain ⟨F2, rl, sb⟩ := q.msk ks
    exact h σ' H' Z' O' F2 rl (nov_msk ks n) (u.msk ks sb)
  | ret r ρ' =>
    intro v σ' H' Z' O' F' G q w nd fo u u2
    obtain ⟨F2, rl, sb⟩ := q.msk rs
    have sb2 : (F2 ++ G).Sublist (F' ++ G) := List.Sublist.append sb (List.Sublist.refl _)
    exact h v σ' H' Z' O' F2 G rl w (nd.sublist sb2) fo ⟨u.z, u.keep, u.zn, fun a ha => u.fn a (sb2.subset ha), u.fr, u.tab⟩ (u2.msk rs sb)
  | exc c fs ρ' =>
    intro σ' H' Z' O' F' d xs q u hd e1 e2
    obtain ⟨F2, rl, sb⟩ := q.msk rs
    exact h σ' H' Z' O' F2 d xs rl (u.msk rs sb) hd e1 e2
theorem tS_end {s : Stx} {ks rs : List Bool} {D : Ends} (h : tS K E (sEnd ks rs s) D σ H) : tS K E s D σ H := by
  obtain ⟨Z, O, ρ, F, rl, n, h⟩ := h
  exact ⟨Z, O, ρ, F, rl, n, SRK.fin h⟩
theorem tS_pre {s : Stx} {ks : List Bool} {D : Ends} (h : tS K E (sPre ks s) D σ H) : tS K E s D σ H := by
  obtain ⟨Z, O, ρ, F, rl, n, h⟩ := h
  obtain ⟨F2, rl2, sb⟩ := rl.msk ks
  exact ⟨Z, O, _, F2, rl2, nov_msk ks n, SRK.from h ((TrS.refl Z O H σ ρ F).msk ks sb)⟩
end
section
variable {X : Cx} {E : XK} {st : Stmt} {ss : List Stmt} {s : Stx}
theorem s_end (ks rs : List Bool) (h : PS X st (tS X.K E s)) : PS X st (tS X.K E (sEnd ks rs s)) := h.imp fun _ _ _ q => tS_end q
theorem s_ends (ks rs : List Bool) (h : PSs X ss (tS X.K E s)) : PSs X ss (tS X.K E (sEnd ks rs s)) := h.imp fun _ _ _ q => tS_end q
theorem s_pre (ks : List Bool) (h : PS X st (tS X.K E s)) : PS X st (tS X.K E (sPre ks s)) := h.imp fun _ _ _ q => tS_pre q
end
@[simp] theorem mskE_nil {ρ : Ev} : mskE [] ρ = ρ := by cases ρ <;> rfl
@[simp] theorem mskE_nil2 {bs : List Bool} : mskE bs [] = [] := by cases bs <;> rfl
@[simp] theorem mskE_t {bs : List Bool} {x : Option R} {ρ : Ev} : mskE (true :: bs) (x :: ρ) = x :: mskE bs ρ := rfl
@[simp] theorem mskE_f0 {bs : List Bool} {ρ : Ev} : mskE (false :: bs) (none :: ρ) = none :: mskE bs ρ := rfl
@[simp] theorem mskE_fi {bs : List Bool} {d : D} {ρ : Ev} : mskE (false :: bs) (some ⟨.imm, d⟩ :: ρ) = none :: mskE bs ρ := rfl
@[simp] theorem mskE_fo {bs : List Bool} {d : D} {ρ : Ev} : mskE (false :: bs) (some ⟨.out, d⟩ :: ρ) = none :: mskE bs ρ := rfl
@[simp] theorem mskE_fw {bs : List Bool} {d : D} {ρ : Ev} : mskE (false :: bs) (some ⟨.own, d⟩ :: ρ) = none :: mskE bs ρ := rfl
@[simp] theorem mskE_fv {bs : List Bool} {d : D} {ρ : Ev} : mskE (false :: bs) (some ⟨.view, d⟩ :: ρ) = none :: mskE bs ρ := rfl
@[simp] theorem mskE_fb {bs : List Bool} {d : D} {ρ : Ev} : mskE (false :: bs) (some ⟨.brw, d⟩ :: ρ) = some ⟨.brw, d⟩ :: mskE bs ρ := rfl
section
variable {ρ : Ev}
@[simp] theorem x_end {ks rs : List Bool} {s : Stx} : sEnd ks rs s ρ = (match s ρ with
  | .bad => .bad
  | .next ρ' => .next (mskE ks ρ')
  | .ret r ρ' => .ret r (mskE rs ρ')
  | .exc c fs ρ' => .exc c fs (mskE rs ρ')) := id rfl
@[simp] theorem x_pre {ks : List Bool} {s : Stx} : sPre ks s ρ = s (mskE ks ρ) := id rfl
end
end Oz

namespace Oz
open PySem PySem.Spec L2
open PyProof.Rows hiding St
variable [WD]

/-! ### loops over frames of one shape -/
/-- one turn -/
def stp (g : Tgx) (b : Stx) (r : R) (ρ : Ev) : SR := match g r ρ with
  | none => .bad
  | some ρ1 => b ρ1
theorem x_stp {g : Tgx} {b : Stx} {r : R} {ρ : Ev} : stp g b r ρ = (match g r ρ with
  | none => .bad
  | some ρ1 => b ρ1) := rfl
theorem loop_c {g : Tgx} {b : Stx} {r : R} {rs : List R} {ρ : Ev} : loopS g b (r :: rs) ρ = (match stp g b r ρ with
  | .next ρ2 => loopS g b rs ρ2
  | x => x) := by
  rw [loop_cons]
  unfold stp
  cases g r ρ <;> rfl
/-- to the end: the frame is env of a state, the state keeps I of what was taken -/
theorem loop_st {α σ : Type} (env : σ → Ev) (I : List α → σ → Prop) {g : Tgx} {b : Stx} {item : α → R} (xs : List α) (s0 : σ) (h0 : I [] s0)
    (hs : ∀ pre x post s, xs = pre ++ x :: post → I pre s → ∃ s', stp g b (item x) (env s) = .next (env s') ∧ I (pre ++ [x]) s') :
    ∃ s', loopS g b (xs.map item) (env s0) = .next (env s') ∧ I xs s' := by
  obtain ⟨ρ', e, s', rfl, h⟩ := loop_inv (g := g) (b := b) (item := item) (xs := xs) (ρ := env s0) (fun pre ρ => ∃ s, ρ = env s ∧ I pre s) ⟨s0, rfl, h0⟩ (by
    rintro pre x post ρ hx ⟨s, rfl, hI⟩
    obtain ⟨s', e, h⟩ := hs pre x post s hx hI
    unfold stp at e
    cases q : g (item x) (env s) with
    | none => rw [q] at e; cases e
    | some ρ1 => rw [q] at e; exact ⟨ρ1, env s', rfl, e, s', rfl, h⟩)
  exact ⟨s', e, h⟩
/-- the place in a range -/
theorem pre_rng {n : Nat} {pre post : List Nat} {x : Nat} (h : List.range n = pre ++ x :: post) : x = pre.length ∧ pre.length < n := by
  have h1 := congrArg List.length h
  simp at h1
  have h2 := congrArg (fun l => l[pre.length]?) h
  simp at h2
  rw [List.getElem?_range (by omega)] at h2
  simp at h2
  exact ⟨h2.symm, by omega⟩
theorem inR_of {i : Int} (h0 : 0 ≤ i) (h : i < 1000000) : inR i = true := by
  have h1 : (-4611686018427387904 : Int) ≤ i := by omega
  have h2 : i < 4611686018427387904 := by omega
  rw [inR_eq]; simp [h1, h2]
@[simp] theorem both_ii : both .imm .imm = .imm := rfl
@[simp] theorem lfs_app {xs ys : List D} : lfs (xs ++ ys) = (lfs xs && lfs ys) := lfs_append xs ys
end Oz

namespace Oz
open PySem PySem.Spec L2
open PyProof.Rows hiding St
variable [WD]

/-! ### a second name for what stands at a key -/
open Classical in
noncomputable def ali (f : Nat → SR) : SR := if h : ∃ r, ∀ a, f a = r then Classical.choose h else .bad
theorem ali_eq {f : Nat → SR} {r : SR} (h : ∀ a, f a = r) : ali f = r := by
  have hx : ∃ r, ∀ a, f a = r := ⟨r, h⟩
  unfold ali
  rw [dif_pos hx]
  have := Classical.choose_spec hx 0
  rw [← this, h 0]
theorem ali_all {P : SR → Prop} (hb : ¬ P .bad) {f : Nat → SR} (h : P (ali f)) (a : Nat) : P (f a) := by
  unfold ali at h
  by_cases hx : ∃ r, ∀ a, f a = r
  · rw [dif_pos hx] at h
    rw [Classical.choose_spec hx a]
    exact h
  · rw [dif_neg hx] at h
    exact absurd h hb
def isPtr (a : Nat) (o : Option D) : Bool := match o with
  | some (.dict [(.bool false, .int i)]) => decide (i = (a : Int))
  | _ => false
theorem isPtr_ok {a : Nat} {o : Option D} (h : isPtr a o = true) : o = some (ptrD a) := by
  unfold isPtr at h
  split at h
  · rw [of_decide_eq_true h]; rfl
  · cases h
@[simp] theorem isPtr_self {a : Nat} : isPtr a (some (ptrD a)) = true := by simp [isPtr, ptrD]
def backE (i j : Nat) (k : Str) (a : Nat) (ρ : Ev) : Option Ev := match ρ[i]?, ρ[j]? with
  | some (some ⟨s, .dict es⟩), some (some ⟨.brw, d⟩) => if (i ≠ j ∧ isOB s = true) ∧ isDct es = true ∧ ukD (.inr k) es = true ∧ isPtr a (lkD (.inr k) es) = true ∧ nov ρ = true then some ((ρ.set j none).set i (some ⟨s, .dict (ptD (.inr k) d es)⟩)) else none
  | _, _ => none
def backS (i j : Nat) (k : Str) (a : Nat) : SR → SR
  | .bad => .bad
  | .next ρ => (match backE i j k a ρ with
    | some ρ' => .next ρ'
    | none => .bad)
  | .ret r ρ => (match backE i j k a ρ with
    | some ρ' => .ret r ρ'
    | none => .bad)
  | .exc c fs ρ => (match backE i j k a ρ with
    | some ρ' => .exc c fs ρ'
    | none => .bad)
noncomputable def sAli (i j : Nat) (k : Str) (body : Stx) : Stx := fun ρ => match plK (plN i) (pC (.str k)) ρ with
  | .ok l => (match ρ[j]?, l.d, ρ[i]? with
    | some (some ⟨.brw, _⟩), _, _ => .bad
    | some _, .list ds, some (some ⟨s, _⟩) => if i ≠ j ∧ l.i = i then ali fun a => backS i j k a (body ((ρ.set i (some ⟨s, l.put (ptrD a)⟩)).set j (some ⟨.brw, .list ds⟩))) else .bad
    | _, _, _ => .bad)
  | _ => .bad
section
variable {K : PySem.W.Frag} {E : XK} {Z O H : Hp} {σ : St} {ρ ρ' : Ev} {F : List Addr} {i j : Nat} {k : Str} {a : Addr}
theorem Own.ptr_inv {v : V} {G : List Addr} (q : Own K Z H v (ptrD a) G) : v = .ref a ∧ G = [] := by
  unfold ptrD at q
  generalize hd : PyData.dict [(PyData.bool false, PyData.int (a : Nat))] = d at q
  cases q with
  | imm r p =>
    subst hd
    generalize hd2 : PyData.dict [(PyData.bool false, PyData.int (a : Nat))] = d2 at r
    cases r with
    | ptr b =>
      unfold ptrD at hd2
      simp only [PyData.dict.injEq, List.cons.injEq, Prod.mk.injEq, PyData.int.injEq, true_and, and_true] at hd2
      have : (a : Nat) = b := Int.ofNat_inj.mp hd2
      exact ⟨by rw [this], rfl⟩
    | scr h r => cases hd2
    | dct h e r =>
      cases hd2
      have m : PyData.bool false ∈ _ := e ▸ (List.mem_map.mpr ⟨_, List.mem_cons_self, rfl⟩)
      obtain ⟨p, _, hp⟩ := List.mem_map.mp m
      cases hk : p.1 <;> rw [hk] at hp <;> cases hp
    | obj h c e r => cases hd2
    | _ => cases hd2
  | lst h r => cases hd
  | dct h e r =>
    cases hd
    have m : PyData.bool false ∈ _ := e ▸ (List.mem_map.mpr ⟨_, List.mem_cons_self, rfl⟩)
    obtain ⟨p, _, hp⟩ := List.mem_map.mp m
    cases hk : p.1 <;> rw [hk] at hp <;> cases hp
  | obj h h2 ec e r => cases hd
theorem backE_some (h : backE i j k a ρ = some ρ') : ∃ s es d, ρ[i]? = some (some ⟨s, .dict es⟩) ∧ ρ[j]? = some (some ⟨.brw, d⟩) ∧ (i ≠ j ∧ isOB s = true) ∧ isDct es = true ∧ ukD (.inr k) es = true ∧ lkD (.inr k) es = some (ptrD a) ∧ nov ρ = true ∧ ρ' = (ρ.set j none).set i (some ⟨s, .dict (ptD (.inr k) d es)⟩) := by
  unfold backE at h
  split at h
  · rename_i s es d e1 e2
    by_cases c : (i ≠ j ∧ isOB s = true) ∧ isDct es = true ∧ ukD (.inr k) es = true ∧ isPtr a (lkD (.inr k) es) = true ∧ nov ρ = true
    · rw [if_pos c] at h
      obtain ⟨c1, c2, c3, c4, c5⟩ := c
      exact ⟨s, es, d, e1, e2, c1, c2, c3, isPtr_ok c4, c5, (Option.some.inj h).symm⟩
    · rw [if_neg c] at h; cases h
  · cases h
theorem back_brw (h : backE i j k a ρ = some ρ') {n : Nat} {d : D} (hn : n ≠ j) (e : ρ[n]? = some (some (R.mk .brw d))) : ∃ d', ρ'[n]? = some (some (R.mk .brw d')) := by
  obtain ⟨s, es, d0, e1, e2, ⟨c0, _⟩, _, _, _, _, rfl⟩ := backE_some h
  by_cases ni : i = n
  · subst ni
    rw [e] at e1
    cases e1
    obtain ⟨hl, _⟩ := List.getElem?_eq_some_iff.mp e
    exact ⟨_, List.getElem?_set_self (by simpa using hl)⟩
  · exact ⟨d, by rw [List.getElem?_set_ne ni, List.getElem?_set_ne (Ne.symm hn)]; exact e⟩
theorem back_ok (rl : Rel K Z O H σ ρ F) (hj : σ[j]? = some (some (.ref a))) (h : backE i j k a ρ = some ρ') : ∃ F', Rel K Z O H σ ρ' F' ∧ nov ρ' = true ∧ ∀ c ∈ F', c ∈ F := by
  obtain ⟨s, es, d, e1, e2, ⟨c0, c1⟩, c2, c3, c4, n, rfl⟩ := backE_some h
  obtain ⟨hl, _⟩ := List.getElem?_eq_some_iff.mp e2
  obtain ⟨x, y, F1, G, F2, h1, h2, h3, h4, h5⟩ := rl.sl.focus hl
  rw [e2] at h2
  cases h2
  rw [hj] at h1
  cases h1
  have ow : Own K Z H (.ref a) d G := RepS.rep h4 nofun
  have sl := h5 (some (.ref a)) none [] Z O H (Same.refl _) (Same.refl _) (.inl fun _ _ q _ => q) (fun a _ o q _ => q) rfl
  rw [set_same hj] at sl
  have nF := rl.nd
  rw [h3] at nF
  have p0 : (F1 ++ (G ++ F2)).Perm (G ++ (F1 ++ F2)) := by
    rw [← List.append_assoc, ← List.append_assoc]
    exact List.Perm.append_right F2 List.perm_append_comm
  have nG := p0.nodup_iff.mp nF
  have n1 : nov (ρ.set j none) = true := nov_set n fun d e => by cases e
  have rl1 : Rel K Z O H σ (ρ.set j none) (F1 ++ ([] ++ F2)) := ⟨rl.g, by rw [List.nil_append]; exact (List.nodup_append.mp nG).2.1, fun c hc => rl.fo c (by
    rw [h3]
    rcases List.mem_append.mp hc with hc | hc
    · simp [hc]
    · simp at hc; simp [hc]), sl, rl.tb⟩
  have ei : (ρ.set j none)[i]? = some (some ⟨s, .dict es⟩) := by rw [List.getElem?_set_ne (Ne.symm c0)]; exact e1
  have pn : plN i (ρ.set j none) = .ok ⟨i, .dict es, id⟩ := by
    unfold plN
    rw [ei]
    cases s with
    | own => rfl
    | brw => rfl
    | _ => cases c1
  obtain ⟨v, s', A1, A2, A3, g1, pa⟩ := plN_ok rl1 pn
  obtain ⟨b, kvs, x, B1, B2, B3, g2, g3, g4, pb⟩ := pa.key rfl c2 c3 c4
  have hs : s' = s := by
    obtain ⟨d0, hd0⟩ := pa.slot
    have hd1 : (ρ.set j none)[i]? = some (some ⟨s', d0⟩) := hd0
    rw [ei] at hd1
    cases hd1
    rfl
  subst hs
  have ob : Own K Z H x (ptrD a) B2 := pb.own
  obtain ⟨rfl, rfl⟩ := ob.ptr_inv
  have sl2 := pb.back Z O H d G (Same.refl _) (Same.refl _) n1 (fun c _ o q _ => q) ow
  have eF : F1 ++ ([] ++ F2) = B1 ++ ([] ++ B3) := pb.eq
  rw [List.nil_append, List.nil_append] at eF
  have p1 : (B1 ++ (G ++ B3)).Perm (G ++ (F1 ++ F2)) := by
    rw [eF, ← List.append_assoc, ← List.append_assoc]
    exact List.Perm.append_right B3 List.perm_append_comm
  have sub : ∀ c ∈ B1 ++ (G ++ B3), c ∈ F := fun c hc => by
    have := p0.mem_iff.mpr (p1.mem_iff.mp hc)
    rw [h3]
    exact this
  refine ⟨_, ⟨rl.g, p1.nodup_iff.mpr nG, fun c hc => rl.fo c (sub c hc), sl2, rl.tb⟩, nov_set n1 fun d' e => ?_, sub⟩
  cases e
  cases c1
/-- the way in -/
theorem ali_in {l : Pl} {v : V} {s : Sx} {F1 G F2 : List Addr} {ds : List D} {y : Option R} (rl : Rel K Z O H σ ρ F) (n : nov ρ = true) (pa : PlAt K Z O H σ ρ F l v s F1 G F2) (el : l.d = .list ds) (ej : ρ[j]? = some y) (nb : ∀ d, y ≠ some ⟨.brw, d⟩) (ne : l.i ≠ j) :
    ∃ a Fa, v = .ref a ∧ Rel K Z O H (σ.set j (some v)) ((ρ.set l.i (some ⟨s, l.put (ptrD a)⟩)).set j (some ⟨.brw, .list ds⟩)) Fa ∧ nov ((ρ.set l.i (some ⟨s, l.put (ptrD a)⟩)).set j (some ⟨.brw, .list ds⟩)) = true ∧
      TrS Z O H σ ρ F Z O H (σ.set j (some v)) ((ρ.set l.i (some ⟨s, l.put (ptrD a)⟩)).set j (some ⟨.brw, .list ds⟩)) Fa := by
  have ow := pa.own
  rw [el] at ow
  obtain ⟨a, xs, G0, rfl, _, _, _⟩ := ow.lst_inv
  have sl := pa.back Z O H (ptrD a) [] (Same.refl _) (Same.refl _) n (fun c _ o q _ => q) (.imm (.ptr a) rfl)
  obtain ⟨hl, _⟩ := List.getElem?_eq_some_iff.mp ej
  obtain ⟨x, y', A, Gj, B, h1, h2, h3, h4, h5⟩ := sl.focus (i := j) (by simpa using hl)
  have sl2 := h5 (some (.ref a)) (some ⟨.brw, .list ds⟩) G Z O H (Same.refl _) (Same.refl _) (.inl fun _ _ q _ => q) (fun c _ o q _ => q) (.inl ow)
  have nF := rl.nd
  rw [pa.eq] at nF
  have p0 : (F1 ++ (G ++ F2)).Perm (G ++ (F1 ++ F2)) := by
    rw [← List.append_assoc, ← List.append_assoc]
    exact List.Perm.append_right F2 List.perm_append_comm
  have nG := p0.nodup_iff.mp nF
  rw [List.nil_append] at h3
  rw [h3] at nG
  have p1 : (A ++ (G ++ B)).Perm (G ++ (A ++ B)) := by
    rw [← List.append_assoc, ← List.append_assoc]
    exact List.Perm.append_right B List.perm_append_comm
  have sb : (G ++ (A ++ B)).Sublist (G ++ (A ++ (Gj ++ B))) := List.Sublist.append (List.Sublist.refl _) (List.Sublist.append (List.Sublist.refl _) (List.sublist_append_right _ _))
  have sub : ∀ c ∈ A ++ (G ++ B), c ∈ F := fun c hc => by
    have := sb.subset (p1.mem_iff.mp hc)
    rw [← h3] at this
    rw [pa.eq]
    exact p0.mem_iff.mpr this
  refine ⟨a, _, rfl, ⟨rl.g, p1.nodup_iff.mpr (nG.sublist sb), fun c hc => rl.fo c (sub c hc), sl2, rl.tb⟩, nov_set (nov_set n fun d e => ?_) (fun d e => by cases e), ⟨⟨Same.refl _, fun c o q _ _ => q, fun c q => .inl q, fun c hc => .inl (sub c hc), fun c h => .inr h, fun c _ h => h⟩, Same.refl _, by simp, fun m d hm => ?_, fun c q => .inl q⟩⟩
  · cases e
    rcases pa.st with z | z <;> cases z
  · have mj : m ≠ j := fun z => by
      rw [z, ej] at hm
      exact nb d (Option.some.inj hm)
    rw [List.getElem?_set_ne (Ne.symm mj), List.getElem?_set_ne (Ne.symm mj)]
    refine ⟨rfl, ?_⟩
    by_cases mi : l.i = m
    · subst mi
      obtain ⟨d0, h0⟩ := pa.slot
      rw [hm] at h0
      cases h0
      obtain ⟨hl2, _⟩ := List.getElem?_eq_some_iff.mp hm
      exact ⟨_, List.getElem?_set_self hl2⟩
    · exact ⟨d, by rw [List.getElem?_set_ne mi]; exact hm⟩
theorem SRK.back {Z1 O1 H1 : Hp} {σ1 : St} {ρ1 : Ev} {F1 : List Addr} {nx : St → Hp → Prop} {rt : VK} {r : SR} (t : TrS Z O H σ ρ F Z1 O1 H1 σ1 ρ1 F1) (hj : σ1[j]? = some (some (.ref a))) (hb : ∃ d, ρ1[j]? = some (some (R.mk .brw d)))
    (nj : ∀ d, ρ[j]? ≠ some (some (R.mk .brw d))) (h : SRK K E Z O H σ ρ F nx rt (backS i j k a r)) : SRK K E Z1 O1 H1 σ1 ρ1 F1 nx rt r := by
  obtain ⟨db, hb⟩ := hb
  have fin : ∀ {σ' : St} {H' Z' O' : Hp} {F' F'' : List Addr} {ρ' ρ'' : Ev}, backE i j k a ρ' = some ρ'' → (∀ c ∈ F'', c ∈ F') → TrS Z1 O1 H1 σ1 ρ1 F1 Z' O' H' σ' ρ' F' → TrS Z O H σ ρ F Z' O' H' σ' ρ'' F'' := fun {σ' H' Z' O' F' F'' ρ' ρ''} e sb u => by
    have w := t.trans u
    refine ⟨⟨w.tr.z, w.tr.keep, w.tr.zn, fun c hc => w.tr.fn c (sb c hc), w.tr.fr, w.tr.tab⟩, w.o, w.len, fun m d hm => ?_, w.on⟩
    obtain ⟨q1, d1, q2⟩ := w.brw m d hm
    exact ⟨q1, back_brw e (fun z => nj d (z ▸ hm)) q2⟩
  have at_ : ∀ {σ' : St} {H' Z' O' : Hp} {F' : List Addr} {ρ' : Ev}, TrS Z1 O1 H1 σ1 ρ1 F1 Z' O' H' σ' ρ' F' → σ'[j]? = some (some (.ref a)) := fun u => by rw [(u.brw j db hb).1]; exact hj
  cases r with
  | bad => exact h
  | next ρ' =>
    intro σ' H' Z' O' F' rl n u
    have h2 : SRK K E Z O H σ ρ F nx rt (match backE i j k a ρ' with | some ρ' => .next ρ' | none => .bad) := h
    cases e : backE i j k a ρ' with
    | none => rw [e] at h2; exact h2.elim
    | some ρ'' =>
      rw [e] at h2
      obtain ⟨F'', rl2, n2, sb⟩ := back_ok rl (at_ u) e
      exact h2 σ' H' Z' O' F'' rl2 n2 (fin e sb u)
  | ret r ρ' =>
    intro v σ' H' Z' O' F' G rl w nd fo u u2
    have h2 : SRK K E Z O H σ ρ F nx rt (match backE i j k a ρ' with | some ρ' => .ret r ρ' | none => .bad) := h
    cases e : backE i j k a ρ' with
    | none => rw [e] at h2; exact h2.elim
    | some ρ'' =>
      rw [e] at h2
      obtain ⟨F'', rl2, n2, sb⟩ := back_ok rl (at_ u2) e
      have w2 := fin e sb u2
      obtain ⟨d1, d2, d3⟩ := List.nodup_append.mp nd
      have u' := t.tr.trans u
      refine h2 v σ' H' Z' O' F'' G rl2 w ?_ fo ⟨u'.z, u'.keep, u'.zn, fun c hc => ?_, u'.fr, u'.tab⟩ w2
      · rw [List.nodup_append]
        exact ⟨rl2.nd, d2, fun x hx y hy => d3 x (sb x hx) y hy⟩
      · rcases List.mem_append.mp hc with hc | hc
        · exact u'.fn c (List.mem_append_left _ (sb c hc))
        · exact u'.fn c (List.mem_append_right _ hc)
  | exc c fs ρ' =>
    intro σ' H' Z' O' F' d xs rl u hd e1 e2
    have h2 : SRK K E Z O H σ ρ F nx rt (match backE i j k a ρ' with | some ρ' => .exc c fs ρ' | none => .bad) := h
    cases e : backE i j k a ρ' with
    | none => rw [e] at h2; exact h2.elim
    | some ρ'' =>
      rw [e] at h2
      obtain ⟨F'', rl2, n2, sb⟩ := back_ok rl (at_ u) e
      exact h2 σ' H' Z' O' F'' d xs rl2 (fin e sb u) hd e1 e2
end
theorem s_ali {X : Cx} {E : XK} {e : Expr} {rest : List Stmt} {body : Stx} {x k : Str} {pos pos' : Pos} (i j : Nat) (hN : X.N.Nodup) (he : PE X e (tPl X.K E (plK (plN i) (pC (.str k))))) (hr : PSs X rest (tS X.K E body)) (hi : X.N[j]? = some x := by rfl)
    (hx : Loc X.env.scope x := by first | exact Or.inl rfl | exact Or.inr rfl) (hs : swapsWith e (some (.Name x pos')) pos.line X.env = pure false := by rfl)
    (hf : X.fn x = true ∨ X.env.scope.names.lookup x = some .local := by first | exact .inl rfl | exact .inr rfl | assumption) : PSs X (.Assign [.Name x pos'] e pos :: rest) (tS X.K E (sAli i j k body)) := by
  refine (pss_cons (ps_set hN hi hx he hs hf) hr).imp fun D σ H h => ?_
  obtain ⟨Z, O, ρ, F, rl, n, h⟩ := h
  refine ⟨Z, O, ρ, F, rl, ?_⟩
  unfold sAli at h
  cases el : plK (plN i) (pC (.str k)) ρ with
  | bad => rw [el] at h; exact h.elim
  | exc c fs => rw [el] at h; exact h.elim
  | ok l =>
    rw [el] at h
    intro v H1 Z1 O1 s F1 G F2 x1 g1 pa
    have rl1 := rl.ext x1 g1
    have h0 : SRK X.K E Z O H σ ρ F D.nx D.rt (match ρ[j]?, l.d, ρ[i]? with
      | some (some ⟨.brw, _⟩), _, _ => .bad
      | some _, .list ds, some (some ⟨s, _⟩) => if i ≠ j ∧ l.i = i then ali fun a => backS i j k a (body ((ρ.set i (some ⟨s, l.put (ptrD a)⟩)).set j (some ⟨.brw, .list ds⟩))) else .bad
      | _, _, _ => .bad) := h
    split at h0
    · exact h0.elim
    · rename_i y ds s2 d2 nb ej ed ei
      by_cases c : i ≠ j ∧ l.i = i
      · rw [if_pos c] at h0
        obtain ⟨c1, c2⟩ := c
        have nj : ∀ d, ρ[j]? ≠ some (some (R.mk .brw d)) := fun d z => by
          rw [ej] at z
          cases z
          exact nb d rfl
        obtain ⟨a, Fa, rfl, rla, na, ta⟩ := ali_in rl1 n pa ed ej (fun d z => nj d (by rw [ej, z])) (by rw [c2]; exact c1)
        rw [c2] at rla na ta
        have ss : s2 = s := by
          obtain ⟨d0, hd0⟩ := pa.slot
          rw [c2, ei] at hd0
          cases hd0
          rfl
        subst ss
        have t0 : TrS Z O H σ ρ F Z1 O1 H1 σ ρ F := TrS.ext x1
        have h1 := ali_all (P := SRK X.K E Z O H σ ρ F D.nx D.rt) (fun z => z) h0 a
        have hjl : j < σ.length := by
          rw [rl1.sl.length]
          exact (List.getElem?_eq_some_iff.mp ej).1
        refine ⟨Z1, O1, _, Fa, rla, na, SRK.back (t0.trans ta) (List.getElem?_set_self hjl) ⟨_, List.getElem?_set_self ?_⟩ nj h1⟩
        rw [List.length_set]
        exact (List.getElem?_eq_some_iff.mp ej).1
      · rw [if_neg c] at h0; exact h0.elim
    · exact h0.elim
end Oz

namespace PySem
open Sem (wp)
open AutoSeq1 (wpAny_loadPart')
theorem ozMeets_enumT {v : Value} {o : Obj} {H : Heap → Prop} (B : Begins v o H) :
    Meets (Builtin.«enumerate.__new__» ⟨[.type "enumerate", v], []⟩) (fun _ R s => H s.heap ∧
      R (.ok (.ret (.ref (s.heap.push o).objs.size))) { s with heap := (s.heap.push o).push { cls := .type "enumerate", data := .fields #[.none, .bool false, .ref s.heap.objs.size, rawInt 0, .none, .none] } }) :=
  .of_wp fun prog w A R s h => by
    obtain ⟨hp, g, d, tk, os⟩ := s; obtain ⟨h1, h⟩ := h
    have hsub := sub_enumerate
    have q1 : ∀ {A' : Around} {E : Value → Shared → Prop} {Q : Value → Shared → Prop}, Q (.ref hp.objs.size) ⟨hp.push o, g, d, tk, os⟩ → wpAny (model prog w) A' (pyIter v) Q E ⟨hp, g, d, tk, os⟩ :=
      fun q => B.iter prog w _ _ ⟨hp, g, d, tk, os⟩ _ h1 q
    wp_walk using q1
    refine wpAny_stack_any fun st => wpAny_pure ?_
    split
    · rename_i c _ _ _ _ _
      cases (c == Value.type "enumerate")
      · wp_walk using q1
        exact ⟨_, rfl, h⟩
      · wp_walk using q1
        exact ⟨_, rfl, h⟩
    · wp_walk using q1
      exact ⟨_, rfl, h⟩
theorem ozEnum_begins {prog : Program} {w : World} {A : Around} {E : Value → Shared → Prop} {s : Shared} {v : Value} {o : Obj} {H : Heap → Prop} {Q : Value → Shared → Prop} (B : Begins v o H) (h1 : H s.heap)
    (h : ∀ h', IsEnum h' (s.heap.objs.size + 1) s.heap.objs.size 0 .none → h'.get? s.heap.objs.size = some o → h'.objs.size = s.heap.objs.size + 2 →
      (∀ b o, s.heap.get? b = some o → h'.get? b = some o) → Q (.ref (s.heap.objs.size + 1)) { s with heap := h' }) :
    wpAny (model prog w) A (call (.type "enumerate") [v]) Q E s := by
  refine callType_new F.called_enumerate (by decide) (F.typeCall_enumerate_1 _) (F.newCall_enumerate_1 _) (fun obj => F.args_object_init_2 obj _) F.entry_enumerate_new
    (ozMeets_enumT B) ⟨h1, ?_⟩
  have hz : (s.heap.push o).objs.size = s.heap.objs.size + 1 := Heap.size_push ..
  show _ ∧ _
  rw [hz]
  have he : IsEnum ((s.heap.push o).push { cls := .type "enumerate", data := .fields #[.none, .bool false, .ref s.heap.objs.size, rawInt 0, .none, .none] }) (s.heap.objs.size + 1) s.heap.objs.size 0 .none := by
    have := Heap.get?_push_size (s.heap.push o) (o := { cls := .type "enumerate", data := .fields #[.none, .bool false, .ref s.heap.objs.size, rawInt 0, .none, .none] }) rfl
    rw [hz] at this; exact this
  refine ⟨⟨_, he, rfl⟩, h _ he (Heap.get?_push_of_some _ (Heap.get?_push_size _ B.free)) (by rw [Heap.size_push, hz]) fun b o x => Heap.get?_push_of_some _ (Heap.get?_push_of_some _ x)⟩
end PySem
namespace Oz
open PySem PySem.Spec L2
open PyProof.Rows hiding St
variable [WD]

/-! ### enumerate -/
/-- the tuple at a, each item in a new pair -/
def IteT (K : PySem.W.Frag) (a : Addr) : It :=
  ⟨fun i H => ∃ (xs : List V) (x : V), SqT K H a xs ∧ xs[i]? = some x, fun i H v H' => ∃ T x, v = .ref T ∧ H T = none ∧ H' = upd H T (.tup [.int (i : Nat), x]) ∧ ∀ xs, SqT K H a xs → xs[i]? = some x, fun i H => ∃ xs : List V, SqT K H a xs ∧ xs.length ≤ i⟩
theorem turn_enumT {P : Program} {w : World} {K : PySem.W.Frag} {elts : List Expr} {kk : Nat} {tpos : Pos} (a e it : Addr) :
    Turn P w K (.Tuple elts kk tpos) (IteT K a) [e, it] e (fun i h => (∃ old, IsEnum h e it ((i : Nat) : Int) old) ∧ h.IsTupleIter it a i ∧ e ≠ it) where
  mem := by simp
  obj := fun i h st b hb => by
    obtain ⟨⟨old, he⟩, ⟨o, ho, hc, hd⟩, _⟩ := st
    have e' : b = e ∨ b = it := by simpa using hb
    rcases e' with z | z
    · rw [z]; exact ⟨_, he, fun v q => nomatch q⟩
    · rw [z]; exact ⟨o, ho, fun v q => by rw [hd] at q; cases q⟩
  keep := fun i h h' st k => by
    obtain ⟨⟨old, he⟩, hi, hne⟩ := st
    exact ⟨⟨old, k e (by simp) _ he⟩, hi.at fun o e => k it (by simp) o e, hne⟩
  item := by
    intro X hP hw hK hc i pins s σ H E I hf st hg
    subst hP hw hK
    obtain ⟨⟨old, he⟩, hit, hne⟩ := st
    obtain ⟨xs, x, hq, hx⟩ := hg
    obtain ⟨its, rv, p, hz⟩ := I.tuple hq
    have pt : s.heap.IsTuple a its.toArray := p
    obtain ⟨u, hu, ru⟩ := rv.get hx
    have hel : e < s.heap.objs.size := Heap.lt_size he
    have hil : it < s.heap.objs.size := by obtain ⟨_, q, _⟩ := hit; exact Heap.lt_size q
    have nai : a ≠ it := fun z => by
      obtain ⟨o1, h1, h2, _⟩ := pt
      obtain ⟨o2, h3, h4, _⟩ := hit
      rw [z, h3] at h1
      cases h1
      rw [h4] at h2
      injection h2 with q
      exact absurd q (by decide)
    have nae : e ≠ a := fun z => by
      obtain ⟨o1, h1, h2, _⟩ := pt
      rw [← z, he] at h1
      cases h1
      injection h2 with q
      exact absurd q (by decide)
    have hi : i < its.toArray.size := by
      obtain ⟨hl, _⟩ := List.getElem?_eq_some_iff.mp hu
      simpa using hl
    refine wpAny_pyNext_enum_itemD (Draws.tuple (show X.A.in1.handled = none from I.ok.hd hc) it a nai its.toArray) he ⟨hit, pt⟩ hi hne (by simp; exact ⟨hne, nae⟩) fun y h' tk hy ho st' hT hsz hk => ?_
    have yu : y = u := by
      have e1 : its.toArray[i]? = some u := by simpa using hu
      rw [e1] at hy
      exact (Option.some.inj hy).symm
    subst yu
    refine ⟨_, rfl, wpAny_letOwnedTupleGo_enum (s := { s with heap := h', toks := tk + 1 }) ho fun h'' he' sb => ?_⟩
    have hT2 : h''.get? s.heap.objs.size = some { cls := .type "tuple", data := .seq #[.int i tk, y] } := (sb.2 _ (Nat.ne_of_gt hel)).trans hT
    have new : ObjOk X.prog X.w (upd H s.heap.objs.size (.tup [.int (i : Nat), x])) h'' s.heap.objs.size (.tup [.int (i : Nat), x]) :=
      ⟨by show 2 ≤ sizeLine; decide, [.int i tk, y], .cons ⟨_, rfl⟩ (.cons ru .nil), ⟨_, hT2, rfl, _, rfl⟩⟩
    have I1 : Inv X pins σ (upd H s.heap.objs.size (.tup [.int (i : Nat), x])) { s with heap := h'', toks := tk + 1 } :=
      I.turnedNew (ch := [e, it]) (fun b ob hb q => (sb.2 b (fun z => hb (by simp [z]))).trans (hk b ob (fun z => hb (by simp [z])) (fun z => hb (by simp [z])) q)) hf (Nat.le_refl _) new
    refine ⟨.ref s.heap.objs.size, _, I1, rfl, ⟨_, x, rfl, I.hok.fresh (Nat.le_refl _), rfl, fun ys hy => by rw [I.tuple_inj hy hq]; exact hx⟩, ⟨⟨y, ?_⟩, st'.1.at fun o q => (sb.2 it (Ne.symm hne)).trans q, hne⟩, fun b hb => ?_⟩
    · have e1 : ((i + 1 : Nat) : Int) = (i : Int) + 1 := by omega
      rw [e1]; exact he'
    · have hb' : b < s.heap.objs.size := by
        have e' : b = e ∨ b = it := by simpa using hb
        rcases e' with z | z
        · rw [z]; exact hel
        · rw [z]; exact hil
      rw [upd_ne (Nat.ne_of_lt hb')]
      exact (hf b hb).1
  done := by
    intro X hP hw hK hc i pins s σ H E I hf st hg
    subst hP hw hK
    obtain ⟨⟨old, he⟩, hit, hne⟩ := st
    obtain ⟨xs, hq, hx⟩ := hg
    obtain ⟨its, rv, p, hz⟩ := I.tuple hq
    have pt : s.heap.IsTuple a its.toArray := p
    obtain ⟨f0, f1, f2, f3, f4, f5⟩ := hf it (by simp)
    have hl := rv.length
    have nai : a ≠ it := fun z => by
      obtain ⟨o1, h1, h2, _⟩ := pt
      obtain ⟨o2, h3, h4, _⟩ := hit
      rw [z, h3] at h1
      cases h1
      rw [h4] at h2
      injection h2 with q
      exact absurd q (by decide)
    have hT : s.TypeIs (.ref e) "enumerate" := ⟨_, he, rfl⟩
    unfold pyNext
    refine wpAny_bind (wpAny_attempt (wpAny_callSpecial?_slot (name := Str.ofString "__next__") hT F.slot_enumerate_next
      (wpAny_call_entry F.slot_enumerate_next hT F.entry_enumerate_next ?_ (F.args_enumerate_next_1 _))))
    show wpAny _ _ (field (.ref e) 2 >>= _) _ _ _
    refine wpAny_bind (wpAny_field he rfl (x := .ref it) rfl ?_)
    refine wpAny_bind (wpAny_nextOf_tuple_end (show X.A.in1.handled = none from I.ok.hd hc) hit pt (by simp; omega) fun h' x eb hx' => ?_)
    obtain ⟨o, ho, hcl⟩ := hx'
    refine wpAny_bind (wpAny_isInstance (T := "StopIteration") (b := true) ⟨o, ho, hcl⟩ isSubtype_stop ?_)
    exact wpAny_pure ⟨rfl, I.turned (t' := s.toks) (fun b o hb q => eb b o hb q) f0 f1 f3 f4 f5⟩
  self := fun A i s Q E st h => by
    obtain ⟨⟨_, he⟩, _⟩ := st
    exact wpAny_pyIter_enum he h
def iEnumA (K : PySem.W.Frag) (ta : TA) : TI := fun σ H R => ta σ H fun vs H1 => ∃ a, vs = [.ref a] ∧ (((∃ xs, SqL K H1 a xs) ∧ R (Ite K a) H1) ∨ ((∃ xs, SqT K H1 a xs) ∧ R (IteT K a) H1))
theorem pi_enumA {X : Cx} {e : Expr} {ta : TA} {p pos tpos : Pos} {elts : List Expr} {kk : Nat} (hg : Gl X "enumerate") (hm : X.mg "enumerate" = none) (ha : PA X [e] ta) (hs : starEach [e] X.env = [(false, eval e X.env)] := by rfl) :
    PI X (.Tuple elts kk tpos) (.Call (.Name "enumerate" p) [e] [] pos) (iEnumA X.K ta) := by
  refine ⟨fun pins s σ H R I h => ?_⟩
  refine Call_ (ld_blt I hg hm boot_enumerate (PyProof.Rows.callWith_type1 (thn (ha.run pos pins s σ H _ I h) fun us s1 ⟨vs, H1, I1, r1, q1⟩ => ?_) hs rfl))
  obtain ⟨a, ex, q⟩ := q1
  subst ex
  cases r1 with
  | cons r rr =>
    cases rr
    cases r
    have fin : ∀ (h' : Heap) (J : It) (tn : Nat → Heap → Prop), (∀ b o, s1.heap.get? b = some o → h'.get? b = some o) → Turn X.prog X.w X.K (.Tuple elts kk tpos) J [s1.heap.objs.size + 1, s1.heap.objs.size] (s1.heap.objs.size + 1) tn → tn 0 h' → R J H1 →
        PIE X pins σ (.Tuple elts kk tpos) R (.ref (s1.heap.objs.size + 1)) { s1 with heap := h' } := fun h' J tn hk tu t0 q => by
      have I2 : Inv X pins σ H1 { s1 with heap := h' } := I1.kept (t' := s1.toks) hk
      refine ⟨s1.heap.objs.size + 1, [s1.heap.objs.size + 1, s1.heap.objs.size], _, _, H1, rfl, I2, tu, t0, fun b hb => ?_, q⟩
      have e' : b = s1.heap.objs.size + 1 ∨ b = s1.heap.objs.size := by simpa using hb
      have hle : s1.heap.objs.size ≤ b := by
        rcases e' with z | z
        · rw [z]; exact Nat.le_add_right _ _
        · rw [z]; exact Nat.le_refl _
      exact I1.fpOk hle (I1.hok.fresh hle)
    rcases q with ⟨⟨xs, hq⟩, q⟩ | ⟨⟨xs, hq⟩, q⟩
    · obtain ⟨its, rv, p', hz⟩ := I1.list hq
      exact call_enumerate_list p'.isList fun h' he hit hsz hk => wpAny_pyIter_enum he (fin h' _ _ hk (turn_enum a _ _) ⟨⟨.none, he⟩, hit, Nat.succ_ne_self _⟩ q)
    · obtain ⟨its, rv, p', hz⟩ := I1.tuple hq
      exact ozEnum_begins (begins_tuple a its.toArray) p' fun h' he hit hsz hk => wpAny_pyIter_enum he (fin h' _ _ hk (turn_enumT a _ _) ⟨⟨.none, he⟩, ⟨_, hit, rfl, rfl⟩, Nat.succ_ne_self _⟩ q)
def enR (i : Nat) (r : R) : R := ⟨r.s, .tuple [.int (i : Nat), r.d]⟩
def enumR (rs : List R) : List R := rs.mapIdx enR
def shr (r : R) : Bool := match r.s with
  | .imm => true
  | .out => true
  | .view => true
  | _ => false
section
variable {K : PySem.W.Frag} {E : XK} {Z O H Z' O' H' : Hp} {F G : List Addr}
theorem pair_rep (g : Good Z O H) {T : Addr} (nT : H T = none) {i : Nat} {x : V} {r : R} (hs : shr r = true) (h : RepR K Z O H x r []) :
    ∃ Z' O', Ext [] Z O H Z' O' (upd H T (.tup [.int (i : Nat), x])) ∧ Good Z' O' (upd H T (.tup [.int (i : Nat), x])) ∧ RepR K Z' O' (upd H T (.tup [.int (i : Nat), x])) (.ref T) (enR i r) [] := by
  obtain ⟨x1, g1⟩ := ext_frz g (o := .tup [.int (i : Nat), x]) nT
  refine ⟨_, _, x1, g1, ?_⟩
  have h1 := h.ext x1
  obtain ⟨s, d⟩ := r
  cases s with
  | imm => exact ⟨.tup (.inl (.inl upd_same)) (.cons (.int _) (.cons h1.1 .nil)), rfl⟩
  | out => exact ⟨.tup (.inl (.inl upd_same)) (.cons (.int _) (.cons h1.1 .nil)), rfl⟩
  | view => exact ⟨.tup (.inl (.inl upd_same)) (.cons (.int _) (.cons h1.1 .nil)), rfl⟩
  | own => cases hs
  | brw => cases hs
  | tab => exact (show False from h1).elim
theorem shr_sub {s : Sx} {d : D} : shr (Oz.sub s d) = true := by
  unfold Oz.sub
  split
  · rfl
  · cases s <;> rfl
theorem wlk_enum {a : Addr} {rs : List R} (hs : ∀ r ∈ rs, shr r = true) (h : Wlk K (Itl K a) rs Z O H F) : Wlk K (Ite K a) (enumR rs) Z O H F := by
  intro Z1 O1 H1 g ez eo k i hi
  have hi' : i ≤ rs.length := by simpa [enumR] using hi
  obtain ⟨h1, h2⟩ := h Z1 O1 H1 g ez eo k i hi'
  refine ⟨fun e => h1 (by simpa [enumR] using e), fun r hr => ?_⟩
  unfold enumR at hr
  rw [List.getElem?_mapIdx] at hr
  cases e : rs[i]? with
  | none => rw [e] at hr; cases hr
  | some r0 =>
    rw [e] at hr
    cases hr
    obtain ⟨q1, q2⟩ := h2 r0 e
    refine ⟨q1, fun y H' hy => ?_⟩
    obtain ⟨T, x, rfl, nT, rfl, hx⟩ := hy
    obtain ⟨Z2, O2, x2, g2, r2⟩ := q2 x H1 ⟨rfl, hx⟩
    obtain ⟨Z3, O3, x3, g3, r3⟩ := pair_rep (i := i) g2 nT (hs r0 (List.mem_of_getElem? e)) r2
    exact ⟨Z3, O3, x2.trans0 x3, g3, r3⟩
theorem wlk_enumT {a : Addr} {rs : List R} (hs : ∀ r ∈ rs, shr r = true) (h : Wlk K (Itt K a) rs Z O H F) : Wlk K (IteT K a) (enumR rs) Z O H F := by
  intro Z1 O1 H1 g ez eo k i hi
  have hi' : i ≤ rs.length := by simpa [enumR] using hi
  obtain ⟨h1, h2⟩ := h Z1 O1 H1 g ez eo k i hi'
  refine ⟨fun e => h1 (by simpa [enumR] using e), fun r hr => ?_⟩
  unfold enumR at hr
  rw [List.getElem?_mapIdx] at hr
  cases e : rs[i]? with
  | none => rw [e] at hr; cases hr
  | some r0 =>
    rw [e] at hr
    cases hr
    obtain ⟨q1, q2⟩ := h2 r0 e
    refine ⟨q1, fun y H' hy => ?_⟩
    obtain ⟨T, x, rfl, nT, rfl, hx⟩ := hy
    obtain ⟨Z2, O2, x2, g2, r2⟩ := q2 x H1 ⟨rfl, hx⟩
    obtain ⟨Z3, O3, x3, g3, r3⟩ := pair_rep (i := i) g2 nT (hs r0 (List.mem_of_getElem? e)) r2
    exact ⟨Z3, O3, x2.trans0 x3, g3, r3⟩
theorem enum_walk {v : V} {r : R} {ds : List D} (g : Good Z O H) (h : RepR K Z O H v r G) (e : itemsD r.d = some ds) (dj : ∀ c ∈ G, c ∉ F) (nv : r.s = .view → F = []) {R : It → Hp → Prop} (q : ∀ J, Wlk K J (enumR (ds.map (Oz.sub r.s))) Z O H F → R J H) :
    ∃ a, v = .ref a ∧ (((∃ xs, SqL K H a xs) ∧ R (Ite K a) H) ∨ ((∃ xs, SqT K H a xs) ∧ R (IteT K a) H)) := by
  have hs : ∀ x ∈ ds.map (Oz.sub r.s), shr x = true := fun x hx => by
    obtain ⟨d, _, rfl⟩ := List.mem_map.mp hx
    exact shr_sub
  obtain ⟨a, xs, ea, hk, hl, it⟩ := h.items g e
  subst ea
  rcases hk with ⟨e1, hx⟩ | ⟨e1, hx⟩
  · exact ⟨a, rfl, .inl ⟨⟨xs, .inl (.inl hx)⟩, q _ (wlk_enum hs (wlk_list h e1 dj nv))⟩⟩
  · exact ⟨a, rfl, .inr ⟨⟨xs, hx⟩, q _ (wlk_enumT hs (wlk_tup h e1 dj nv))⟩⟩
end
def srcE (p : Px) : Src := fun ρ => (p ρ).bind fun r => if r.s = .view then .bad else (srcR r).bind fun rs => .ok (enumR rs)
def srcEc (p : Px) : Src := fun ρ => (p ρ).bind fun r => (srcR r).bind fun rs => .ok (enumR rs)
section
variable {K : PySem.W.Frag} {E : XK}
theorem srcEc_ok {p : Px} : IOc K E (iEnumA K (tA K E [p])) (srcEc p) := fun σ H R q => by
  obtain ⟨Z, O, ρ, F, rl, q⟩ := q
  refine ⟨Z, O, ρ, F, rl, ?_⟩
  unfold srcEc at q
  cases e : p ρ with
  | bad => rw [e] at q; exact q.elim
  | exc c fs =>
    rw [e] at q
    have e2 : evs [p] ρ = .exc c fs := by unfold evs; rw [e]; rfl
    rw [e2]
    exact q
  | ok r =>
    rw [e] at q
    have e0 : evs [p] ρ = .ok [r] := by unfold evs; rw [e]; rfl
    rw [e0]
    have q2 : match ((srcR r).bind fun rs => (.ok (enumR rs) : Res (List Oz.R))) with
      | .bad => False
      | .exc c fs => ExcK K E Z O H c fs
      | .ok rs => ∀ J H' Z' O', Ext [] Z O H Z' O' H' → Good Z' O' H' → Wlk K J rs Z' O' H' [] → R J H' := q
    intro vs H1 Z1 O1 G x g w nd fr
    obtain ⟨v, rfl, w1⟩ := w.one
    cases e2 : srcR r with
    | bad => rw [e2] at q2; exact q2.elim
    | exc c fs => unfold srcR at e2; cases e3 : itemsD r.d <;> rw [e3] at e2 <;> cases e2
    | ok rs =>
      rw [e2] at q2
      obtain ⟨ds, e3, rfl⟩ := srcR_some e2
      obtain ⟨a, rfl, z⟩ := enum_walk (F := []) g w1 e3 (fun a ha z => by cases z) (fun z => rfl) fun J wl => q2 J H1 Z1 O1 x g wl
      exact ⟨a, rfl, z⟩
end
@[simp] theorem x_srcE {p : Px} {ρ : Ev} : srcE p ρ = ((p ρ).bind fun r => if r.s = .view then .bad else (srcR r).bind fun rs => .ok (enumR rs)) := id rfl
@[simp] theorem x_srcEc {p : Px} {ρ : Ev} : srcEc p ρ = ((p ρ).bind fun r => (srcR r).bind fun rs => .ok (enumR rs)) := id rfl
end Oz

namespace Oz
open PySem PySem.Spec L2
open PyProof.Rows hiding St
variable [WD]

/-! ### a displayed dict -/
theorem tP_mono {K : PySem.W.Frag} {E : XK} {p : Px} {σ : St} {H : Hp} {Q Q' : VK} (h : tP K E p σ H Q) (i : ∀ v H', Q v H' → Q' v H') : tP K E p σ H Q' := by
  obtain ⟨Z, O, ρ, F, rl, h⟩ := h
  refine ⟨Z, O, ρ, F, rl, ?_⟩
  cases e : p ρ with
  | bad => rw [e] at h; exact h
  | exc c fs => rw [e] at h; exact h
  | ok r => rw [e] at h; exact fun v H' Z' O' G a b c d e => i _ _ (h v H' Z' O' G a b c d e)
theorem tA_cons {K : PySem.W.Frag} {E : XK} {p : Px} {ps : List Px} {σ : St} {H : Hp} {Q : List V → Hp → Prop} (h : tA K E (p :: ps) σ H Q) : tP K E p σ H fun v H1 => tA K E ps σ H1 fun vs H2 => Q (v :: vs) H2 := by
  obtain ⟨Z, O, ρ, F, r, h⟩ := h
  refine ⟨Z, O, ρ, F, r, ?_⟩
  have h1 : match ((p ρ).bind fun r => (evs ps ρ).bind fun rs => (Res.ok (r :: rs) : Res (List R))) with
    | .bad => False
    | .ok rs => OksK K Z O H rs Q
    | .exc c fs => ExcK K E Z O H c fs := h
  cases z : p ρ with
  | bad => rw [z] at h1; exact h1.elim
  | exc c fs => rw [z] at h1; exact h1
  | ok a =>
    rw [z] at h1
    intro v H1 Z1 O1 G x1 g1 q1 nd fr
    refine ⟨Z1, O1, ρ, F, r.ext x1 g1, ?_⟩
    cases y : evs ps ρ with
    | bad => rw [y] at h1; exact h1.elim
    | exc c fs => rw [y] at h1; exact ExcK.ext h1 x1
    | ok rs =>
      rw [y] at h1
      intro vs H2 Z2 O2 G2 x2 g2 q2 nd2 fr2
      have h2 : OksK K Z O H (a :: rs) Q := h1
      refine h2 (v :: vs) H2 Z2 O2 (G ++ G2) (x1.trans0 x2) g2 (.cons (q1.ext x2) q2) (nodup_fresh nd nd2 (fun c hc => let ⟨o, z, _⟩ := q1.live c hc; ⟨o, z⟩) fun c hc => (fr2 c hc).1) fun c hc => ?_
      rcases List.mem_append.mp hc with hc | hc
      · refine ⟨(fr c hc).1.elim id (fun z => by cases z), ?_⟩
        cases z : O2 c with
        | none => rfl
        | some o =>
          obtain ⟨o1, w1, _⟩ := q1.live c hc
          rcases x2.on c (by rw [z]; simp) with y | y | y
          · exact absurd (fr c hc).2 y
          · rw [w1] at y; cases y
          · cases y
      · exact ⟨x1.h.free (fr2 c hc).1, (fr2 c hc).2⟩
def flatP : List (Px × Px) → List Px
  | [] => []
  | (k, v) :: r => k :: v :: flatP r
def flatV : List (V × V) → List V
  | [] => []
  | (k, v) :: r => k :: v :: flatV r
theorem flatV_inj : ∀ {xs ys : List (V × V)}, flatV xs = flatV ys → xs = ys
  | [], [], _ => rfl
  | (a, b) :: xs, (c, d) :: ys, h => by
    simp only [flatV, List.cons.injEq] at h
    rw [h.1, h.2.1, flatV_inj h.2.2]
  | [], _ :: _, h => by simp [flatV] at h
  | _ :: _, [], h => by simp [flatV] at h
theorem tPairs_of {K : PySem.W.Frag} {E : XK} {σ : St} : ∀ (kps : List (Px × Px)) {H : Hp} {Q : List V → Hp → Prop}, tA K E (flatP kps) σ H Q → tPairs (kps.map fun p : Px × Px => (tP K E p.1, tP K E p.2)) σ H fun ps H' => Q (flatV ps) H'
  | [], H, Q, h => by
    obtain ⟨Z, O, ρ, F, r, h⟩ := h
    have h2 : OksK K Z O H [] Q := h
    exact h2 [] H Z O [] (Ext.refl _ _ _ _) r.g .nil List.nodup_nil fun a ha => by cases ha
  | (k, v) :: kps, H, Q, h => by
    refine tP_mono (tA_cons h) fun x H1 h1 => ?_
    refine tP_mono (tA_cons h1) fun y H2 h2 => ?_
    exact tPairs_of kps h2
def pairsR : List R → Option (List (Key × D))
  | k :: v :: rs => (match keyOf k.d, ownR v, pairsR rs with
    | some k, some d, some r => some ((k, d) :: r)
    | _, _, _ => none)
  | [] => some []
  | _ => none
def pDct (ps : List Px) : Px := fun ρ => (evs ps ρ).bind fun rs => match pairsR rs with
  | some kds => if (kds.map (·.1)).Nodup ∧ kds.length ≤ 15 then .ok ⟨.own, .dict (kds.map fun p => (kd p.1, p.2))⟩ else .bad
  | none => .bad
section
variable {K : PySem.W.Frag} {Z O H : Hp}
theorem pairs_ok (g : Good Z O H) : ∀ {rs : List R} {vs : List V} {G : List Addr} {kds : List (Key × D)}, RepRs K Z O H vs rs G → pairsR rs = some kds → G.Nodup →
    ∃ kvs : List (Key × V), ∃ G', vs = flatV (kvs.map fun kv => (kV kv.1, kv.2)) ∧ kvs.map (·.1) = kds.map (·.1) ∧ Owns K Z H (kvs.map (·.2)) (kds.map (·.2)) G' ∧ G'.Nodup ∧ ∀ c ∈ G', c ∈ G
  | [], _, _, kds, .nil, e, nd => by
    cases e
    exact ⟨[], [], rfl, rfl, .nil, List.nodup_nil, fun c hc => hc⟩
  | [_], _, _, kds, .cons _ .nil, e, nd => by cases e
  | k :: v :: rs, _, _, kds, .cons (F := F1) qk (.cons (F := F2) (G := G2) qv qs), e, nd => by
    unfold pairsR at e
    cases e1 : keyOf k.d with
    | none => rw [e1] at e; cases e
    | some kk =>
      cases e2 : ownR v with
      | none => rw [e1, e2] at e; cases e
      | some d =>
        cases e3 : pairsR rs with
        | none => rw [e1, e2, e3] at e; cases e
        | some r =>
          rw [e1, e2, e3] at e
          cases e
          obtain ⟨n1, n2, n3⟩ := List.nodup_append.mp nd
          obtain ⟨n4, n5, n6⟩ := List.nodup_append.mp n2
          obtain ⟨kvs, G', h1, h2, h3, h4, h5⟩ := pairs_ok g qs e3 n5
          obtain ⟨Gv, ow, cG⟩ := ownR_ok g qv e2
          have sv : ∀ c ∈ Gv, c ∈ F2 := fun c hc => by
            rcases cG with z | z
            · rw [z] at hc; exact hc
            · rw [z] at hc; cases hc
          have nv : Gv.Nodup := by
            rcases cG with z | z
            · rw [z]; exact n4
            · rw [z]; exact List.nodup_nil
          refine ⟨(kk, _) :: kvs, Gv ++ G', ?_, ?_, .cons ow h3, ?_, fun c hc => ?_⟩
          · rw [key_kV e1 (qk.look g), h1]
            rfl
          · rw [List.map_cons, h2]; rfl
          · rw [List.nodup_append]
            exact ⟨nv, h4, fun a ha b hb => n6 a (sv a ha) b (h5 b hb)⟩
          · rcases List.mem_append.mp hc with hc | hc
            · exact List.mem_append_right _ (List.mem_append_left _ (sv c hc))
            · exact List.mem_append_right _ (List.mem_append_right _ (h5 c hc))
theorem valV_none {k : Key} : ∀ {kvs : List (Key × V)}, (∀ p ∈ kvs, p.1 ≠ k) → valV kvs k = none
  | [], _ => rfl
  | p :: kvs, h => by
    rw [valV_neg (h p (by simp))]
    exact valV_none fun q hq => h q (by simp [hq])
theorem merge_nd : ∀ {more kvs : List (Key × V)}, (kvs.map (·.1) ++ more.map (·.1)).Nodup → mergeK kvs more = kvs ++ more
  | [], kvs, _ => by rw [List.append_nil]; rfl
  | (k, v) :: more, kvs, h => by
    have hk : valV kvs k = none := valV_none fun p hp e => (List.nodup_append.mp h).2.2 p.1 (List.mem_map.mpr ⟨p, hp, rfl⟩) k (by simp) e
    show mergeK (putK kvs k v) more = _
    rw [putK_new v hk, merge_nd (by simpa using h)]
    simp
end
theorem tPairs_mono {K : PySem.W.Frag} {E : XK} {σ : St} : ∀ (kps : List (Px × Px)) {H : Hp} {A B : List (V × V) → Hp → Prop}, tPairs (kps.map fun p : Px × Px => (tP K E p.1, tP K E p.2)) σ H A → (∀ ps H', A ps H' → B ps H') → tPairs (kps.map fun p : Px × Px => (tP K E p.1, tP K E p.2)) σ H B
  | [], H, A, B, h, i => i _ _ h
  | (k, v) :: kps, H, A, B, h, i => tP_mono (show tP K E k σ H _ from h) fun x H1 h1 => tP_mono (show tP K E v σ H1 _ from h1) fun y H2 h2 => tPairs_mono kps h2 fun ps H' q => i _ _ q
theorem s_dct {X : Cx} {E : XK} {pos : Pos} {keys : List (Option Expr)} {values : List Expr} {kps : List (Px × Px)} (h : PPs X pos keys values (kps.map fun p : Px × Px => (tP X.K E p.1, tP X.K E p.2))) (hall : keys.all (·.isSome) = true := by rfl) (hl : keys.length = values.length := by rfl) (h0 : keys ≠ [] := by exact fun z => nomatch z)
    (h15 : keys.length ≤ 15 := by decide) : PE X (.Dict keys values pos) (tP X.K E (pDct (flatP kps))) := by
  refine (pe_disp h hall hl h0 h15).imp fun σ H Q h => ?_
  obtain ⟨Z, O, ρ, F, rl, h⟩ := h
  intro p np
  obtain ⟨x0, g0⟩ := ext_new rl.g (o := .dK []) np rfl
  have h1 : ResK X.K E [] Z O H ((evs (flatP kps) ρ).bind fun rs => match pairsR rs with
    | some kds => if (kds.map (·.1)).Nodup ∧ kds.length ≤ 15 then .ok ⟨.own, .dict (kds.map fun p => (kd p.1, p.2))⟩ else .bad
    | none => .bad) Q := h
  have key : tA X.K E (flatP kps) σ (upd H p (.dK [])) fun vs H2 => ∀ ps, vs = flatV ps → H2 p = some (.dK []) ∧ ∃ kvs : List (Key × V), ps = kvs.map (fun kv => (kV kv.1, kv.2)) ∧ kvs.length ≤ 15 ∧ Q (.ref p) (upd H2 p (.dK (mergeK [] kvs))) := by
    refine ⟨Z, O, ρ, F, rl.ext x0 g0, ?_⟩
    cases e : evs (flatP kps) ρ with
    | bad => rw [e] at h1; exact h1.elim
    | exc c fs => rw [e] at h1; exact ExcK.ext h1 x0
    | ok rs =>
      rw [e] at h1
      intro vs H2 Z2 O2 G x2 g2 q2 nd fr ps hps
      have hp2 : H2 p = some (.dK []) := x2.h.s _ _ upd_same nofun
      refine ⟨hp2, ?_⟩
      have h2 : ResK X.K E [] Z O H (match pairsR rs with
        | some kds => if (kds.map (·.1)).Nodup ∧ kds.length ≤ 15 then .ok ⟨.own, .dict (kds.map fun p => (kd p.1, p.2))⟩ else .bad
        | none => .bad) Q := h1
      cases e2 : pairsR rs with
      | none => rw [e2] at h2; exact h2.elim
      | some kds =>
        rw [e2] at h2
        have h3 : ResK X.K E [] Z O H (if (kds.map (·.1)).Nodup ∧ kds.length ≤ 15 then .ok ⟨.own, .dict (kds.map fun p => (kd p.1, p.2))⟩ else .bad) Q := h2
        by_cases c : (kds.map (·.1)).Nodup ∧ kds.length ≤ 15
        · rw [if_pos c] at h3
          obtain ⟨kvs, G', k1, k2, k3, k4, k5⟩ := pairs_ok g2 q2 e2 nd
          have hlen : kvs.length = kds.length := by
            have := congrArg List.length k2
            simpa using this
          have em : mergeK [] kvs = kvs := by
            have := merge_nd (more := kvs) (kvs := []) (by rw [k2]; simpa using c.1)
            simpa using this
          refine ⟨kvs, flatV_inj (hps.symm.trans k1), by rw [hlen]; exact c.2, ?_⟩
          rw [em]
          have pG : p ∉ G' := fun z => by
            have := (fr p (k5 p z)).1
            rw [upd_same] at this
            cases this
          have o2 : O2 p = none := by
            cases w : O2 p with
            | none => rfl
            | some o =>
              rcases x2.on p (by rw [w]; simp) with z | z | z
              · exact absurd (rl.g.oh.free np) z
              · rw [upd_same] at z; cases z
              · cases z
          have x3 := x0.trans0 x2
          have sm : SameT H (upd H2 p (.dK kvs)) := x3.h.updN np ⟨fun ps z => (by rw [hp2] at z; cases z), fun _ _ z => (by rw [hp2] at z; cases z)⟩
          refine h3 (.ref p) (upd H2 p (.dK kvs)) Z2 O2 (p :: G') ⟨sm, x3.z, x3.o, x3.zn, x3.on⟩ ⟨g2.zo, fun a o ha => ?_, fun a o ha f => ?_, g2.nt⟩ ?_ (List.nodup_cons.mpr ⟨pG, k4⟩) fun a ha => ?_
          · have ne : a ≠ p := fun z => by rw [z, o2] at ha; cases ha
            rw [upd_ne ne]
            exact g2.oh a o ha
          · by_cases z : a = p
            · rw [z, upd_same] at ha; cases ha; cases f
            · rw [upd_ne z] at ha; exact g2.tz a o ha f
          · refine Own.dct upd_same ?_ ?_
            · rw [List.map_map]
              show kds.map (fun p => kd p.1) = kvs.map (fun p => kd p.1)
              have e3 : kds.map (fun p => kd p.1) = (kds.map (·.1)).map kd := by rw [List.map_map]; rfl
              have e4 : kvs.map (fun p => kd p.1) = (kvs.map (·.1)).map kd := by rw [List.map_map]; rfl
              rw [e3, e4, k2]
            · rw [List.map_map]
              refine Owns.mono (Same.refl _) (fun a ha o h _ => ?_) k3
              have ne : a ≠ p := fun z => pG (by rw [← z]; exact ha)
              rw [upd_ne ne]
              exact h
          · rcases List.mem_cons.mp ha with z | z
            · rw [z]; exact ⟨.inl np, o2⟩
            · exact ⟨.inl (x0.h.free (fr a (k5 a z)).1), (fr a (k5 a z)).2⟩
        · rw [if_neg c] at h3; exact h3.elim
  have w := tPairs_of kps key
  exact tPairs_mono kps w fun ps H2 hh => hh ps rfl

/-! ### l.pop(i), its answer dropped -/
def sPop (l : Plx) (p : Px) : Stx := fun ρ => match l ρ with
  | .bad => .bad
  | .exc c fs => .exc c fs ρ
  | .ok l => (match l.d with
    | .list ds => (match p ρ with
      | .bad => .bad
      | .exc c fs => .exc c fs ρ
      | .ok r => (match r.d with
        | .int i => (match ixN ds.length i with
          | some k => if ds.length ≤ sizeLine then putE l (.list (ds.eraseIdx k)) ρ else .bad
          | none => .bad)
        | _ => .bad))
    | _ => .bad)
theorem Owns.erase {K : PySem.W.Frag} {Z H : Hp} : ∀ {xs : List V} {ds : List D} {F : List Addr} (k : Nat), Owns K Z H xs ds F → ∃ F', Owns K Z H (xs.eraseIdx k) (ds.eraseIdx k) F' ∧ F'.Sublist F
  | _, _, _, _, .nil => ⟨[], .nil, List.Sublist.refl _⟩
  | _, _, _, 0, .cons (F := F) (G := G) q s => ⟨G, s, List.sublist_append_right _ _⟩
  | _, _, _, k + 1, .cons (F := F) (G := G) q s => by
    obtain ⟨F', h1, h2⟩ := Owns.erase k s
    exact ⟨F ++ F', .cons q h1, List.Sublist.append (List.Sublist.refl _) h2⟩
section
variable {X : Cx} {E : XK} {a b : Expr} {l : Plx} {p : Px} {pos apos cpos : Pos}
theorem s_pop (hl : PE X a (tPl X.K E l)) (hp : PE X b (tP X.K E p)) (hst : starEach [b] X.env = (false, eval b X.env) :: starEach [] X.env := by rfl)
    (h : ∀ {to : TE} {t : TA}, PE X a to → PA X [b] t → PS X (.Expr (.Call (.Attribute a "pop" apos) [b] [] cpos) pos) (tDrop (tBM X.K "list" rPopAt to t))) : PS X (.Expr (.Call (.Attribute a "pop" apos) [b] [] cpos) pos) (tS X.K E (sPop l p)) := by
  refine (h hl (pa_cons hp pa_nil hst)).imp fun D σ H h => ?_
  obtain ⟨Z, O, ρ, F, rl, n, h⟩ := h
  refine ⟨Z, O, ρ, F, rl, ?_⟩
  unfold sPop at h
  cases e : l ρ with
  | bad => rw [e] at h; exact h.elim
  | exc c fs => rw [e] at h; exact SRK.exc rl h
  | ok l0 =>
    rw [e] at h
    simp only at h
    intro v H1 Z1 O1 s F1 G F2 x1 g1 pa
    have rl1 := rl.ext x1 g1
    cases el : l0.d with
    | list ds =>
      rw [el] at h
      simp only at h
      have q := pa.own
      rw [el] at q
      obtain ⟨a0, xs, G0, rfl, ha0, qs, eg⟩ := q.lst_inv
      refine ⟨.inl ⟨rfl, _, .inl (.inl ha0)⟩, Z1, O1, ρ, F, rl1, ?_⟩
      cases e2 : p ρ with
      | bad => rw [e2] at h; exact h.elim
      | exc c fs => rw [e2] at h; exact ExcK.ext (SRK.exc rl h) x1
      | ok r =>
        rw [e2] at h
        simp only at h
        intro y H2 Z2 O2 G2 x2 g2 q2 nd2 fr2
        cases er : r.d with
        | int i =>
          rw [er] at h
          simp only at h
          cases ei : ixN ds.length i with
          | none => rw [ei] at h; exact h.elim
          | some k =>
            rw [ei] at h
            simp only at h
            by_cases c : ds.length ≤ sizeLine
            · rw [if_pos c] at h
              have pa2 := pa.ext x2
              have rl2 := rl1.ext x2 g2
              have ha2 := x2.h.l ha0
              have qs2 : Owns X.K Z2 H2 xs ds G0 := Owns.mono x2.z (fun a _ o q n => x2.h.s a o q n) qs
              have lk := q2.look g2
              rw [er] at lk
              cases lk
              obtain ⟨k1, k2, k3, k4⟩ := ixN_seq ei
              have hx : k < xs.length := by rw [qs.length]; exact k2
              have hs : sizeLine = 16777216 := rfl
              obtain ⟨G', qe, sb⟩ := qs2.erase k
              have nF := rl.nd
              rw [pa2.eq, eg] at nF
              have nGG : (a0 :: G0).Nodup := (List.nodup_append.mp (List.nodup_append.mp nF).2.1).1
              have aG0 : a0 ∉ G0 := (List.nodup_cons.mp nGG).1
              have aG' : a0 ∉ G' := fun z => aG0 (sb.subset z)
              have qn : Own X.K Z2 (upd H2 a0 (.lst (xs.eraseIdx k))) (.ref a0) (.list (ds.eraseIdx k)) (a0 :: G') := by
                refine .lst upd_same (Owns.mono (Same.refl _) (fun c hc o h _ => ?_) qe)
                have ne : c ≠ a0 := fun z => aG' (by rw [← z]; exact hc)
                rw [upd_ne ne]
                exact h
              refine ⟨a0, xs, i, k, xs[k], rfl, rfl, ha2, by omega, by omega, by rw [qs.length]; exact k1, by simp [hx], ?_⟩
              exact pa2.store rl n (x1.trans0 x2) g2 (a0 := a0) (by rw [eg]; simp) rfl qn (List.nodup_cons.mpr ⟨aG', (List.nodup_cons.mp nGG).2.sublist sb⟩) (fun c hc => by
                left
                rw [eg]
                rcases List.mem_cons.mp hc with z | z
                · simp [z]
                · exact List.mem_cons_of_mem _ (sb.subset z)) h
            · rw [if_neg c] at h; exact h.elim
        | _ => rw [er] at h; exact h.elim
    | _ => rw [el] at h; exact h.elim
end
/-! ### a dict of the module -/
def pGet (kds : List (Str × D)) (p : Px) : Px := fun ρ => (p ρ).bind fun r => match r.d with
  | .str z => (match kds.lookup z with
    | some d => .ok ⟨.imm, d⟩
    | none => .bad)
  | _ => .bad
/-! ### is, is not: None or bools -/
def isF2 (a b : D) : Option D := match a, b with
  | _, .none => some (.bool (isNon a))
  | .bool x, .bool y => some (.bool (decide (x = y)))
  | _, _ => none
def isnF2 (a b : D) : Option D := match a, b with
  | _, .none => some (.bool (!isNon a))
  | .bool x, .bool y => some (.bool (!decide (x = y)))
  | _, _ => none
theorem op_isn2 {X : Cx} : OpR X (compareOp .IsNot) (fun x y H Q => (y = .non ∧ Q (.bl (!decide (x = .non))) H) ∨ ∃ a b, x = .bl a ∧ y = .bl b ∧ Q (.bl (!decide (a = b))) H) := OpR.or op_notN op_isnot_bl
theorem o_isn2 {K : PySem.W.Frag} : Op2 K (fun x y H Q => (y = .non ∧ Q (.bl (!decide (x = .non))) H) ∨ ∃ a b, x = .bl a ∧ y = .bl b ∧ Q (.bl (!decide (a = b))) H) (at2 isnF2) := op2_at fun H x y a b d Q ra rb e q => by
  unfold isnF2 at e
  split at e
  · cases rb
    cases e
    exact .inl ⟨rfl, q _ fun C => by rw [isNon_ok ra]; exact .bl _⟩
  · cases ra
    cases rb
    cases e
    exact .inr ⟨_, _, rfl, rfl, q _ fun C => .bl _⟩
  · cases e
/-! ### isinstance -/
def tyD : D → Option String
  | .none => some "NoneType"
  | .bool _ => some "bool"
  | .int _ => some "int"
  | .str _ => some "str"
  | .list _ => some "list"
  | .tuple _ => some "tuple"
  | .dict es => if isDct es = true then some "dict" else none
theorem tyD_ok {K : PySem.W.Frag} {H : Hp} {v : V} {d : D} {T : String} (r : Rep K H v d) (e : tyD d = some T) : TyX K H v (.type T) := by
  cases r with
  | non => cases e; exact .base .non
  | bl b => cases e; exact .base (.bl b)
  | int i => cases e; exact .base (.int i)
  | str x => cases e; exact .base (.str x)
  | lst h _ => cases e; exact .base (.lst h)
  | scr _ _ => simp [tyD, scrD, isDct, keyOf] at e
  | tup h _ =>
    cases e
    rcases h with (h | ⟨o, h⟩) | ⟨o, its, n, h1, h2, _⟩
    · exact .base (.tup h)
    · exact .fTuple h
    · exact .kTuple h1 h2
  | dct h k r =>
    have e2 : (if isDct _ = true then some "dict" else none) = some T := e
    split at e2
    · cases e2; exact .base (.dK h)
    · cases e2
  | ptr a => simp [tyD, ptrD, isDct, keyOf] at e
  | obj _ _ _ _ => simp [tyD, objD, isDct, keyOf] at e
/-- an instance of T? -/
def isiD (T : String) (d : D) : Option Bool := (tyD d).map fun t => t == T || (t == "bool" && T == "int")
def tyOk (T : String) : Bool := ["NoneType", "bool", "int", "str", "list", "tuple", "dict"].all fun t => decide (kitB t T = some (t == T || (t == "bool" && T == "int")))
theorem tyOk_int : tyOk "int" = true := by decide +kernel
theorem tyOk_bool : tyOk "bool" = true := by decide +kernel
theorem tyOk_str : tyOk "str" = true := by decide +kernel
theorem tyOk_tuple : tyOk "tuple" = true := by decide +kernel
theorem tyD_in {d : D} {T : String} (e : tyD d = some T) : T ∈ ["NoneType", "bool", "int", "str", "list", "tuple", "dict"] := by
  cases d with
  | dict es =>
    have e2 : (if isDct es = true then some "dict" else none) = some T := e
    split at e2
    · cases e2; simp
    · cases e2
  | _ => cases e; simp
def pIsi (T : String) (p : Px) : Px := fun ρ => (p ρ).bind fun r => match isiD T r.d with
  | some b => .ok ⟨.imm, .bool b⟩
  | none => .bad
theorem s_isi {X : Cx} {E : XK} {e : Expr} {p : Px} {T : String} {x : Str} {pos q1 q2 : Pos} (hT : tyOk T = true) (hv : bootBuiltins x = some (.type T)) (hg : Gl X "isinstance") (hm : X.mg "isinstance" = none) (hg2 : Gl X x) (hm2 : X.mg x = none) (he : PE X e (tP X.K E p)) (hn : x ≠ "__name__" := by decide) (hd : (x == ("__debug__" : Str)) = false := by decide)
    (h1 : starEach [e, .Name x q2] X.env = (false, eval e X.env) :: starEach [.Name x q2] X.env := by rfl) (h2 : starEach [.Name x q2] X.env = (false, eval (.Name x q2) X.env) :: starEach [] X.env := by rfl) (hpl : (backTo pos (starEach [.Name x q2] X.env)).any (·.1) = false := by rfl) :
    PE X (.Call (.Name "isinstance" q1) [e, .Name x q2] [] pos) (tP X.K E (pIsi T p)) := by
  refine (pe_callB call_isi hg hm PyProof.Rows.boot_isinstance (pa_cons he (pa_cons (pe_bltn (v := .ty T) hg2 hm2 hv (show RelV (.ty T) (.type T) from rfl) hn hd) pa_nil h2) h1) (by decide) (by decide) h1 hpl).imp fun σ H Q h => ?_
  obtain ⟨Z, O, ρ, F, rl, h⟩ := h
  refine ⟨Z, O, ρ, F, rl, ?_⟩
  unfold pIsi at h
  cases e1 : p ρ with
  | bad => rw [e1] at h; exact h.elim
  | exc c fs => rw [e1] at h; exact h
  | ok r =>
    rw [e1] at h
    simp only [Res.bind_ok] at h
    intro v H1 Z1 O1 G x1 g1 q1 nd fr
    cases e2 : isiD T r.d with
    | none => rw [e2] at h; exact h.elim
    | some b =>
      rw [e2] at h
      unfold isiD at e2
      cases e3 : tyD r.d with
      | none => rw [e3] at e2; cases e2
      | some t =>
        rw [e3] at e2
        cases e2
        have hk := of_decide_eq_true (List.all_eq_true.mp hT t (tyD_in e3))
        exact ⟨v, .ty T, .type t, .type T, _, rfl, .ty T, tyD_ok (q1.look g1) e3, kit_ty hk, h _ H1 Z1 O1 [] x1 g1 ⟨.bl _, rfl⟩ List.nodup_nil fun a ha => by cases ha⟩
/-! ### reckoning -/
section
variable {ρ : Ev}
@[simp] theorem x_dct {ps : List Px} : pDct ps ρ = ((evs ps ρ).bind fun rs => match pairsR rs with
  | some kds => if (kds.map (·.1)).Nodup ∧ kds.length ≤ 15 then .ok ⟨.own, .dict (kds.map fun p => (kd p.1, p.2))⟩ else .bad
  | none => .bad) := id rfl
@[simp] theorem x_pop {l : Plx} {p : Px} : sPop l p ρ = (match l ρ with
  | .bad => .bad
  | .exc c fs => .exc c fs ρ
  | .ok l => (match l.d with
    | .list ds => (match p ρ with
      | .bad => .bad
      | .exc c fs => .exc c fs ρ
      | .ok r => (match r.d with
        | .int i => (match ixN ds.length i with
          | some k => if ds.length ≤ sizeLine then putE l (.list (ds.eraseIdx k)) ρ else .bad
          | none => .bad)
        | _ => .bad))
    | _ => .bad)) := id rfl
@[simp] theorem x_get {kds : List (Str × D)} {p : Px} : pGet kds p ρ = ((p ρ).bind fun r => match r.d with
  | .str z => (match kds.lookup z with
    | some d => .ok ⟨.imm, d⟩
    | none => .bad)
  | _ => .bad) := id rfl
@[simp] theorem x_isi {T : String} {p : Px} : pIsi T p ρ = ((p ρ).bind fun r => match isiD T r.d with
  | some b => .ok ⟨.imm, .bool b⟩
  | none => .bad) := id rfl
end
@[simp] theorem flatP_nil : flatP [] = [] := rfl
@[simp] theorem flatP_cons {k v : Px} {r : List (Px × Px)} : flatP ((k, v) :: r) = k :: v :: flatP r := rfl
@[simp] theorem pairsR_nil : pairsR [] = some [] := rfl
@[simp] theorem pairsR_cons {k v : R} {rs : List R} : pairsR (k :: v :: rs) = (match keyOf k.d, ownR v, pairsR rs with
    | some k, some d, some r => some ((k, d) :: r)
    | _, _, _ => none) := rfl
@[simp] theorem x_is2N {b : D} : isF2 b .none = some (.bool (match b with | .none => true | _ => false)) := by cases b <;> rfl
@[simp] theorem x_isn2N {b : D} : isnF2 b .none = some (.bool (match b with | .none => false | _ => true)) := by cases b <;> rfl
@[simp] theorem x_is2B {a b : Bool} : isF2 (.bool a) (.bool b) = some (.bool (decide (a = b))) := rfl
@[simp] theorem x_isn2B {a b : Bool} : isnF2 (.bool a) (.bool b) = some (.bool (!decide (a = b))) := rfl
@[simp] theorem isi_none {T : String} : isiD T .none = some ("NoneType" == T || ("NoneType" == "bool" && T == "int")) := rfl
@[simp] theorem isi_bool {T : String} {b : Bool} : isiD T (.bool b) = some ("bool" == T || ("bool" == "bool" && T == "int")) := rfl
@[simp] theorem isi_int {T : String} {b : Int} : isiD T (.int b) = some ("int" == T || ("int" == "bool" && T == "int")) := rfl
@[simp] theorem isi_str {T : String} {b : Str} : isiD T (.str b) = some ("str" == T || ("str" == "bool" && T == "int")) := rfl
@[simp] theorem isi_list {T : String} {b : List D} : isiD T (.list b) = some ("list" == T || ("list" == "bool" && T == "int")) := rfl
@[simp] theorem isi_tuple {T : String} {b : List D} : isiD T (.tuple b) = some ("tuple" == T || ("tuple" == "bool" && T == "int")) := rfl
/-! ### the head's Hook: tables with text keys, and a check -/
noncomputable section
end
end Oz

namespace Oz
open PySem PySem.Spec L2
open PyProof.Rows hiding St
variable [WD]
/-! ### reckoning with dicts -/
@[simp] theorem isDct_nil : isDct [] = true := rfl
@[simp] theorem isDct_cons {a d : D} {es : List (D × D)} : isDct ((a, d) :: es) = ((keyOf a).isSome && isDct es) := rfl
@[simp] theorem ukD_nil {k : Key} : ukD k [] = true := rfl
@[simp] theorem ukD_cons {k : Key} {a d : D} {es : List (D × D)} : ukD k ((a, d) :: es) = if keyOf a = some k then noD k es else ukD k es := rfl
@[simp] theorem noD_nil {k : Key} : noD k [] = true := rfl
@[simp] theorem noD_cons {k : Key} {a d : D} {es : List (D × D)} : noD k ((a, d) :: es) = (!decide (keyOf a = some k) && noD k es) := by
  simp [noD]
@[simp] theorem lf_ptr {a : Nat} : lf (ptrD a) = false := rfl
section
variable {ρ : Ev}
theorem x_ali {i j : Nat} {k : Str} {body : Stx} : sAli i j k body ρ = (match plK (plN i) (pC (.str k)) ρ with
  | .ok l => (match ρ[j]?, l.d, ρ[i]? with
    | some (some ⟨.brw, _⟩), _, _ => .bad
    | some _, .list ds, some (some ⟨s, _⟩) => if i ≠ j ∧ l.i = i then ali fun a => backS i j k a (body ((ρ.set i (some ⟨s, l.put (ptrD a)⟩)).set j (some ⟨.brw, .list ds⟩))) else .bad
    | _, _, _ => .bad)
  | _ => .bad) := rfl
@[simp] theorem back_bad {i j a : Nat} {k : Str} : backS i j k a .bad = .bad := rfl
@[simp] theorem back_next {i j a : Nat} {k : Str} {ρ : Ev} : backS i j k a (.next ρ) = (match backE i j k a ρ with
    | some ρ' => .next ρ'
    | none => .bad) := rfl
@[simp] theorem back_ret {i j a : Nat} {k : Str} {r : R} {ρ : Ev} : backS i j k a (.ret r ρ) = (match backE i j k a ρ with
    | some ρ' => .ret r ρ'
    | none => .bad) := rfl
@[simp] theorem x_backE {i j : Nat} {k : Str} {a : Nat} : backE i j k a ρ = (match ρ[i]?, ρ[j]? with
  | some (some ⟨s, .dict es⟩), some (some ⟨.brw, d⟩) => if (i ≠ j ∧ isOB s = true) ∧ isDct es = true ∧ ukD (.inr k) es = true ∧ isPtr a (lkD (.inr k) es) = true ∧ nov ρ = true then some ((ρ.set j none).set i (some ⟨s, .dict (ptD (.inr k) d es)⟩)) else none
  | _, _ => none) := id rfl
end
@[simp] theorem ali_const {r : SR} : ali (fun _ => r) = r := ali_eq fun _ => rfl
@[simp] theorem x_int_i {i : Int} : fInt (.int i) = some (.int i) := rfl
@[simp] theorem x_int_b {b : Bool} : fInt (.bool b) = some (.int (if b then 1 else 0)) := rfl
end Oz

namespace Oz
open PySem PySem.Spec L2
open PyProof.Rows hiding St
variable [WD]

/-! ### a list of one's own, given to another slot -/
def plugs (a : Nat) (d : D) : List D → Option (List D)
  | [] => none
  | x :: xs => if isPtr a (some x) = true then some (d :: xs) else (plugs a d xs).map (x :: ·)
def plugE (a : Nat) (d : D) : List (D × D) → Option (List (D × D))
  | [] => none
  | (k, x) :: xs => if isPtr a (some x) = true then some ((k, d) :: xs) else (plugE a d xs).map ((k, x) :: ·)
def plug (a : Nat) (d : D) (t : D) : Option D := match t with
  | .list xs => (plugs a d xs).map .list
  | .dict es => (plugE a d es).map .dict
  | _ => none
def gvE (j x a : Nat) (d : D) (ρ : Ev) : Option Ev := match ρ[x]? with
  | some (some ⟨.imm, t⟩) => if isPtr a (some t) = true ∧ nov ρ = true then some ((ρ.set j none).set x (some ⟨.own, d⟩)) else none
  | some (some ⟨.own, t⟩) => (match plug a d t with
    | some t' => if nov ρ = true then some ((ρ.set j none).set x (some ⟨.own, t'⟩)) else none
    | none => none)
  | some (some ⟨.brw, t⟩) => (match plug a d t with
    | some t' => if nov ρ = true then some ((ρ.set j none).set x (some ⟨.brw, t'⟩)) else none
    | none => none)
  | _ => none
def gvS (j x a : Nat) (d : D) : SR → SR
  | .next ρ => (match gvE j x a d ρ with
    | some ρ' => .next ρ'
    | none => .bad)
  | _ => .bad
noncomputable def sGive (j x : Nat) (s : Stx) : Stx := fun ρ => match ρ[j]? with
  | some (some ⟨.own, .list ds⟩) => if j ≠ x then ali fun a => gvS j x a (.list ds) (s (ρ.set j (some ⟨.imm, ptrD a⟩))) else .bad
  | _ => .bad
theorem plugs_at {a : Nat} {d : D} : ∀ {ds ds' : List D}, plugs a d ds = some ds' → ∃ i, ds[i]? = some (ptrD a) ∧ ds' = ds.set i d
  | [], _, h => by cases h
  | x :: xs, ds', h => by
    unfold plugs at h
    by_cases c : isPtr a (some x) = true
    · rw [if_pos c] at h
      cases h
      have e := Option.some.inj (isPtr_ok c)
      exact ⟨0, by rw [e]; rfl, rfl⟩
    · rw [if_neg c] at h
      cases e : plugs a d xs with
      | none => rw [e] at h; cases h
      | some ys =>
        rw [e] at h
        cases h
        obtain ⟨i, h1, h2⟩ := plugs_at e
        exact ⟨i + 1, by simpa using h1, by rw [h2]; rfl⟩
theorem plugE_at {a : Nat} {d : D} : ∀ {es es' : List (D × D)}, plugE a d es = some es' → es'.map (·.1) = es.map (·.1) ∧ ∃ i, (es.map (·.2))[i]? = some (ptrD a) ∧ es'.map (·.2) = (es.map (·.2)).set i d
  | [], _, h => by cases h
  | (k, x) :: xs, es', h => by
    unfold plugE at h
    by_cases c : isPtr a (some x) = true
    · rw [if_pos c] at h
      cases h
      have e := Option.some.inj (isPtr_ok c)
      exact ⟨rfl, 0, by rw [e]; rfl, rfl⟩
    · rw [if_neg c] at h
      cases e : plugE a d xs with
      | none => rw [e] at h; cases h
      | some ys =>
        rw [e] at h
        cases h
        obtain ⟨h0, i, h1, h2⟩ := plugE_at e
        refine ⟨by simp [h0], i + 1, by simpa using h1, ?_⟩
        show x :: ys.map (·.2) = x :: ((xs.map (·.2)).set i d)
        rw [h2]
section
variable {K : PySem.W.Frag} {E : XK} {Z O H : Hp} {σ : St} {ρ ρ' : Ev} {F : List Addr} {j x : Nat} {a : Addr} {d : D}
theorem plugs_ok {xs : List V} {ds ds' : List D} {G Gd : List Addr} (q : Owns K Z H xs ds G) (w : Own K Z H (.ref a) d Gd) (h : plugs a d ds = some ds') : ∃ G', Owns K Z H xs ds' G' ∧ G'.Perm (G ++ Gd) := by
  obtain ⟨i, h1, rfl⟩ := plugs_at h
  obtain ⟨y, A, G0, B, e1, e2, e3, e4⟩ := q.at h1
  obtain ⟨rfl, rfl⟩ := e3.ptr_inv
  have z := e4 Z H (.ref a) d Gd (Same.refl _) (fun a _ o h _ => h) w
  rw [set_same e1] at z
  refine ⟨_, z, ?_⟩
  rw [e2, List.nil_append, List.append_assoc]
  exact List.Perm.append_left A List.perm_append_comm
theorem plug_ok {v : V} {t t' : D} {G Gd : List Addr} (q : Own K Z H v t G) (w : Own K Z H (.ref a) d Gd) (h : plug a d t = some t') : ∃ G', Own K Z H v t' G' ∧ G'.Perm (G ++ Gd) := by
  unfold plug at h
  cases t with
  | list xs =>
    simp only at h
    cases e : plugs a d xs with
    | none => rw [e] at h; cases h
    | some ys =>
      rw [e] at h
      cases h
      obtain ⟨b, vs, G0, rfl, hb, qs, rfl⟩ := q.lst_inv
      obtain ⟨G', q', pm⟩ := plugs_ok qs w e
      exact ⟨b :: G', .lst hb q', List.Perm.cons b pm⟩
  | dict es =>
    simp only at h
    cases e : plugE a d es with
    | none => rw [e] at h; cases h
    | some es' =>
      rw [e] at h
      cases h
      obtain ⟨k1, i, h1, h2⟩ := plugE_at e
      have core : ∀ {vs : List V} {G0 : List Addr}, Owns K Z H vs (es.map (·.2)) G0 → ∃ G', Owns K Z H vs (es'.map (·.2)) G' ∧ G'.Perm (G0 ++ Gd) := fun {vs G0} qs => by
        obtain ⟨y, A, G1, B, e1, e2, e3, e4⟩ := qs.at h1
        obtain ⟨rfl, rfl⟩ := e3.ptr_inv
        have z := e4 Z H (.ref a) d Gd (Same.refl _) (fun a _ o h _ => h) w
        rw [set_same e1] at z
        rw [h2]
        refine ⟨_, z, ?_⟩
        rw [e2, List.nil_append, List.append_assoc]
        exact List.Perm.append_left A List.perm_append_comm
      generalize hd : PyData.dict es = t at q
      cases q with
      | imm r p =>
        subst hd
        generalize hd2 : PyData.dict es = t2 at r
        cases r with
        | ptr b =>
          unfold ptrD at hd2
          cases hd2
          simp [plugE, isPtr] at e
        | scr _ _ => cases hd2; cases p
        | dct hh k r =>
          cases hd2
          rename_i bb kvs
          cases hkv : kvs with
          | nil => subst hkv; simp at k; subst k; cases p
          | cons y ys =>
            subst hkv
            cases es with
            | nil => simp at k
            | cons e0 es =>
              obtain ⟨k1, v1⟩ := e0
              simp only [List.map_cons, List.cons.injEq] at k
              obtain ⟨k0, _⟩ := k
              obtain ⟨y1, y2⟩ := y
              subst k0
              cases y1 <;> cases p
        | obj _ _ _ _ => cases hd2; cases p
        | _ => cases hd2
      | lst _ _ => cases hd
      | dct hh k r =>
        cases hd
        obtain ⟨G', q', pm⟩ := core r
        exact ⟨_ :: G', .dct hh (by rw [k1]; exact k) q', List.Perm.cons _ pm⟩
      | obj hh hh2 c k r =>
        cases hd
        rename_i es0 _
        cases es' with
        | nil => simp at k1
        | cons e0 es'' =>
          obtain ⟨ka, va⟩ := e0
          simp only [List.map_cons, List.cons.injEq] at k1
          obtain ⟨k1, k2⟩ := k1
          cases i with
          | zero => simp [ptrD] at h1
          | succ i =>
            simp only [List.map_cons, List.set_cons_succ, List.cons.injEq] at h2
            obtain ⟨h2, h3⟩ := h2
            have h1' : (es0.map (·.2))[i]? = some (ptrD a) := by simpa using h1
            obtain ⟨y, A, G1, B, e1, e2, e3, e4⟩ := r.at h1'
            obtain ⟨rfl, rfl⟩ := e3.ptr_inv
            have z := e4 Z H (.ref a) d Gd (Same.refl _) (fun a _ o h _ => h) w
            rw [set_same e1, ← h3] at z
            subst k1 h2
            refine ⟨_, .obj hh hh2 c (by rw [k2]; exact k) z, ?_⟩
            rw [e2, List.nil_append]
            refine List.Perm.cons _ (List.Perm.cons _ ?_)
            show (A ++ (Gd ++ B)).Perm ((A ++ B) ++ Gd)
            rw [List.append_assoc]
            exact List.Perm.append_left A List.perm_append_comm
  | _ => cases h
theorem gvE_some (h : gvE j x a d ρ = some ρ') : nov ρ = true ∧ ∃ s t s' t', ρ[x]? = some (some ⟨s, t⟩) ∧ ρ' = (ρ.set j none).set x (some ⟨s', t'⟩) ∧ ((s = .imm ∧ t = ptrD a ∧ s' = .own ∧ t' = d) ∨ ((s = .own ∨ s = .brw) ∧ s' = s ∧ plug a d t = some t')) := by
  unfold gvE at h
  split at h
  · rename_i t e
    by_cases c : isPtr a (some t) = true ∧ nov ρ = true
    · rw [if_pos c] at h
      cases h
      exact ⟨c.2, _, _, _, _, e, rfl, .inl ⟨rfl, Option.some.inj (isPtr_ok c.1), rfl, rfl⟩⟩
    · rw [if_neg c] at h; cases h
  · rename_i t e
    cases p : plug a d t with
    | none => rw [p] at h; cases h
    | some t' =>
      rw [p] at h
      simp only at h
      by_cases c : nov ρ = true
      · rw [if_pos c] at h
        cases h
        exact ⟨c, _, _, _, _, e, rfl, .inr ⟨.inl rfl, rfl, p⟩⟩
      · rw [if_neg c] at h; cases h
  · rename_i t e
    cases p : plug a d t with
    | none => rw [p] at h; cases h
    | some t' =>
      rw [p] at h
      simp only at h
      by_cases c : nov ρ = true
      · rw [if_pos c] at h
        cases h
        exact ⟨c, _, _, _, _, e, rfl, .inr ⟨.inr rfl, rfl, p⟩⟩
      · rw [if_neg c] at h; cases h
  · cases h
theorem gv_ok {G : List Addr} (rl : Rel K Z O H σ ρ F) (jx : j ≠ x) (w : Own K Z H (.ref a) d G) (nG : G.Nodup) (dj : ∀ c ∈ G, c ∉ F) (oG : ∀ c ∈ G, O c = none) (h : gvE j x a d ρ = some ρ') :
    ∃ F', Rel K Z O H σ ρ' F' ∧ nov ρ' = true ∧ (∀ c ∈ F', c ∈ F ∨ c ∈ G) ∧ ∀ (m : Nat) (dm : D), m ≠ j → ρ[m]? = some (some (R.mk .brw dm)) → ∃ d', ρ'[m]? = some (some (R.mk .brw d')) := by
  obtain ⟨n, s, t, s', t', e1, rfl, cs⟩ := gvE_some h
  obtain ⟨hlx, _⟩ := List.getElem?_eq_some_iff.mp e1
  -- slot j emptied
  have sj : ∃ F0, Rel K Z O H σ (ρ.set j none) F0 ∧ ∀ c ∈ F0, c ∈ F := by
    by_cases hl : j < ρ.length
    · obtain ⟨y, y', F1, G1, F2, h1, h2, h3, h4, h5⟩ := rl.sl.focus hl
      have sl := h5 y none [] Z O H (Same.refl _) (Same.refl _) (.inl fun _ _ q _ => q) (fun a _ o q _ => q) (by cases y <;> rfl)
      rw [set_same h1] at sl
      have sb : (F1 ++ ([] ++ F2)).Sublist F := by
        rw [h3, List.nil_append]
        exact List.Sublist.append (List.Sublist.refl _) (List.sublist_append_right _ _)
      exact ⟨_, ⟨rl.g, rl.nd.sublist sb, fun c hc => rl.fo c (sb.subset hc), sl, rl.tb⟩, fun c hc => sb.subset hc⟩
    · have : ρ.set j none = ρ := List.set_eq_of_length_le (by omega)
      rw [this]
      exact ⟨F, rl, fun c hc => hc⟩
  obtain ⟨F0, rl0, sb0⟩ := sj
  have n0 : nov (ρ.set j none) = true := nov_set n fun d e => by cases e
  have ex : (ρ.set j none)[x]? = some (some ⟨s, t⟩) := by rw [List.getElem?_set_ne jx]; exact e1
  obtain ⟨hl0, _⟩ := List.getElem?_eq_some_iff.mp ex
  obtain ⟨y, y', F1, G1, F2, h1, h2, h3, h4, h5⟩ := rl0.sl.focus hl0
  rw [ex] at h2
  cases h2
  have brw : ∀ (m : Nat) (dm : D), m ≠ j → ρ[m]? = some (some (R.mk .brw dm)) → (s' = s ∨ s ≠ .brw) → ∃ d', ((ρ.set j none).set x (some ⟨s', t'⟩))[m]? = some (some (R.mk .brw d')) := fun m dm hm hb hs => by
    by_cases mx : x = m
    · subst mx
      rw [e1] at hb
      cases hb
      rcases hs with rfl | hs
      · exact ⟨t', List.getElem?_set_self (by simpa using hlx)⟩
      · exact absurd rfl hs
    · exact ⟨dm, by rw [List.getElem?_set_ne mx, List.getElem?_set_ne (Ne.symm hm)]; exact hb⟩
  have dj0 : ∀ c ∈ G, c ∉ F0 := fun c hc z => dj c hc (sb0 c z)
  have nd0 := rl0.nd
  rw [h3] at nd0
  obtain ⟨m1, m2, m3⟩ := List.nodup_append.mp nd0
  obtain ⟨m4, m5, m6⟩ := List.nodup_append.mp m2
  have fin : ∀ {Gn : List Addr}, (∃ v, y = some v ∧ Own K Z H v t' Gn) → (s' = .own ∨ s' = .brw) → Gn.Nodup → (∀ c ∈ Gn, c ∈ G1 ∨ c ∈ G) →
      ∃ F', Rel K Z O H σ ((ρ.set j none).set x (some ⟨s', t'⟩)) F' ∧ nov ((ρ.set j none).set x (some ⟨s', t'⟩)) = true ∧ ∀ c ∈ F', c ∈ F ∨ c ∈ G := fun {Gn} hv hs nn sub => by
    obtain ⟨v, rfl, ov⟩ := hv
    have sl := h5 (some v) (some ⟨s', t'⟩) Gn Z O H (Same.refl _) (Same.refl _) (.inl fun _ _ q _ => q) (fun a _ o q _ => q) (by rcases hs with rfl | rfl <;> exact .inl ov)
    rw [set_same h1] at sl
    have inF : ∀ c ∈ F1 ++ (Gn ++ F2), c ∈ F ∨ c ∈ G := fun c hc => by
      rcases List.mem_append.mp hc with hc | hc
      · exact .inl (sb0 c (by rw [h3]; simp [hc]))
      · rcases List.mem_append.mp hc with hc | hc
        · exact (sub c hc).imp (fun z => sb0 c (by rw [h3]; simp [z])) id
        · exact .inl (sb0 c (by rw [h3]; simp [hc]))
    refine ⟨_, ⟨rl.g, ?_, fun c hc => (inF c hc).elim (rl.fo c) (oG c), sl, rl.tb⟩, nov_set n0 fun d' e => ?_, inF⟩
    · rw [List.nodup_append]
      refine ⟨m1, ?_, fun c hc b hb e => ?_⟩
      · rw [List.nodup_append]
        refine ⟨nn, m5, fun c hc b hb e => ?_⟩
        subst e
        rcases sub c hc with z | z
        · exact m6 c z c hb rfl
        · exact dj0 c z (by rw [h3]; simp [hb])
      · subst e
        rcases List.mem_append.mp hb with hb | hb
        · rcases sub c hb with z | z
          · exact m3 c hc c (List.mem_append_left _ z) rfl
          · exact dj0 c z (by rw [h3]; simp [hc])
        · exact m3 c hc c (List.mem_append_right _ hb) rfl
    · cases e
      rcases hs with z | z <;> cases z
  rcases cs with ⟨rfl, rfl, rfl, rfl⟩ | ⟨hs, rfl, hp⟩
  · cases y with
    | none => exact h4.elim
    | some v =>
      have h6 : Rep K Z v (ptrD a) ∧ G1 = [] := RepS.rep h4 nofun
      have e6 : v = .ref a := (Own.ptr_inv (H := H) (.imm h6.1 rfl)).1
      subst e6
      obtain ⟨F', r1, r2, r3⟩ := fin ⟨_, rfl, w⟩ (.inl rfl) nG fun c hc => .inr hc
      exact ⟨F', r1, r2, r3, fun m dm hm hb => brw m dm hm hb (.inr fun z => by cases z)⟩
  · cases y with
    | none => exact h4.elim
    | some v =>
      have ov : Own K Z H v t G1 := by rcases hs with rfl | rfl <;> exact RepS.rep h4 nofun
      obtain ⟨Gn, on', pm⟩ := plug_ok ov w hp
      have nn : (G1 ++ G).Nodup := by
        rw [List.nodup_append]
        exact ⟨m4, nG, fun c hc b hb e => by subst e; exact dj0 c hb (by rw [h3]; simp [hc])⟩
      obtain ⟨F', r1, r2, r3⟩ := fin ⟨v, rfl, on'⟩ hs (pm.nodup_iff.mpr nn) fun c hc => List.mem_append.mp (pm.mem_iff.mp hc)
      exact ⟨F', r1, r2, r3, fun m dm hm hb => brw m dm hm hb (.inl rfl)⟩
theorem tS_give {s : Stx} {D : Ends} (h : tS K E (sGive j x s) D σ H) : tS K E s D σ H := by
  obtain ⟨Z, O, ρ, F, rl, n, h⟩ := h
  unfold sGive at h
  split at h
  · rename_i ds ej
    by_cases jx : j ≠ x
    · rw [if_pos jx] at h
      obtain ⟨hl, _⟩ := List.getElem?_eq_some_iff.mp ej
      obtain ⟨y, y', F1, G, F2, h1, h2, h3, h4, h5⟩ := rl.sl.focus hl
      rw [ej] at h2
      cases h2
      cases y with
      | none => exact h4.elim
      | some v =>
        have ow : Own K Z H v (.list ds) G := RepS.rep h4 nofun
        obtain ⟨a, xs, G0, rfl, _, _, _⟩ := ow.lst_inv
        have h6 := ali_all (P := SRK K E Z O H σ ρ F D.nx D.rt) (fun z => z) h a
        have sl := h5 (some (.ref a)) (some ⟨.imm, ptrD a⟩) [] Z O H (Same.refl _) (Same.refl _) (.inl fun _ _ q _ => q) (fun a _ o q _ => q) (.inl ⟨.ptr a, rfl⟩)
        rw [set_same h1] at sl
        have nF := rl.nd
        rw [h3] at nF
        obtain ⟨m1, m2, m3⟩ := List.nodup_append.mp nF
        obtain ⟨m4, m5, m6⟩ := List.nodup_append.mp m2
        have sb : (F1 ++ ([] ++ F2)).Sublist F := by
          rw [h3, List.nil_append]
          exact List.Sublist.append (List.Sublist.refl _) (List.sublist_append_right _ _)
        have dG : ∀ c ∈ G, c ∉ F1 ++ ([] ++ F2) := fun c hc z => by
          rcases List.mem_append.mp z with z | z
          · exact m3 c z c (List.mem_append_left _ hc) rfl
          · exact m6 c hc c (by simpa using z) rfl
        have inF : ∀ c ∈ G, c ∈ F := fun c hc => by rw [h3]; simp [hc]
        refine ⟨Z, O, ρ.set j (some ⟨.imm, ptrD a⟩), F1 ++ ([] ++ F2), ⟨rl.g, rl.nd.sublist sb, fun c hc => rl.fo c (sb.subset hc), sl, rl.tb⟩, nov_set n (fun d e => by cases e), ?_⟩
        cases es : s (ρ.set j (some ⟨.imm, ptrD a⟩)) with
        | bad => rw [es] at h6; exact h6
        | ret r ρ' => rw [es] at h6; exact h6.elim
        | exc c fs ρ' => rw [es] at h6; exact h6.elim
        | next ρ' =>
          rw [es] at h6
          have h7 : SRK K E Z O H σ ρ F D.nx D.rt (match gvE j x a (.list ds) ρ' with | some ρ' => .next ρ' | none => .bad) := h6
          intro σ' H' Z' O' F' rl' n' tr
          cases eg : gvE j x a (.list ds) ρ' with
          | none => rw [eg] at h7; exact h7.elim
          | some ρ'' =>
            rw [eg] at h7
            have live : ∀ c ∈ G, ∃ o, H c = some o := fun c hc => let ⟨o, q, _⟩ := ow.live c hc; ⟨o, q⟩
            have ow' : Own K Z' H' (.ref a) (.list ds) G := Own.mono tr.tr.z (fun c hc o q n => tr.tr.keep c o q (dG c hc) n) ow
            have oG' : ∀ c ∈ G, O' c = none := fun c hc => by
              cases w : O' c with
              | none => rfl
              | some o =>
                obtain ⟨o1, q⟩ := live c hc
                rcases tr.on c (by rw [w]; simp) with z | z | z
                · exact absurd (rl.fo c (inF c hc)) z
                · exact absurd z (dG c hc)
                · rw [q] at z; cases z
            have dG' : ∀ c ∈ G, c ∉ F' := fun c hc z => by
              obtain ⟨o1, q⟩ := live c hc
              rcases tr.tr.fn c z with w | w
              · exact dG c hc w
              · rw [q] at w; cases w
            obtain ⟨F'', r1, r2, r3, r4⟩ := gv_ok rl' jx ow' m4 dG' oG' eg
            refine h7 σ' H' Z' O' F'' r1 r2 ⟨⟨tr.tr.z, fun c o q hn n => tr.tr.keep c o q (fun z => hn (sb.subset z)) n, fun c q => (tr.tr.zn c q).imp id fun z => z.imp (fun z => sb.subset z) id, fun c hc => ?_, fun c h => (tr.tr.fr c h).imp (fun z => sb.subset z) id, fun c hn h => tr.tr.tab c (fun z => hn (sb.subset z)) h⟩, tr.o, tr.len, fun m dm hm => ?_, fun c q => (tr.on c q).imp id fun z => z.imp (fun z => sb.subset z) id⟩
            · rcases r3 c hc with z | z
              · exact (tr.tr.fn c z).imp (fun z => sb.subset z) id
              · exact .inl (inF c z)
            · have mj : m ≠ j := fun z => by rw [z, ej] at hm; cases hm
              obtain ⟨q1, d1, q2⟩ := tr.brw m dm (by rw [List.getElem?_set_ne (Ne.symm mj)]; exact hm)
              exact ⟨q1, r4 m d1 mj q2⟩
    · rw [if_neg jx] at h; exact h.elim
  · exact h.elim
end
theorem s_give {X : Cx} {E : XK} {st : Stmt} {s : Stx} (j x : Nat) (h : PS X st (tS X.K E s)) : PS X st (tS X.K E (sGive j x s)) := h.imp fun _ _ _ q => tS_give q
/-! ### reckoning -/
@[simp] theorem isPtr_none {a : Nat} : isPtr a none = false := rfl
@[simp] theorem isPtr_list {a : Nat} {ds : List D} : isPtr a (some (.list ds)) = false := rfl
@[simp] theorem isPtr_lf {a : Nat} {d : D} (h : lf d = true) : isPtr a (some d) = false := by
  cases e : isPtr a (some d) with
  | false => rfl
  | true =>
    have := Option.some.inj (isPtr_ok e)
    subst this
    cases h
@[simp] theorem plugs_nil {a : Nat} {d : D} : plugs a d [] = none := rfl
@[simp] theorem plugs_cons {a : Nat} {d x : D} {xs : List D} : plugs a d (x :: xs) = if isPtr a (some x) = true then some (d :: xs) else (plugs a d xs).map (x :: ·) := rfl
@[simp] theorem plugE_nil {a : Nat} {d : D} : plugE a d [] = none := rfl
@[simp] theorem plugE_cons {a : Nat} {d k x : D} {xs : List (D × D)} : plugE a d ((k, x) :: xs) = if isPtr a (some x) = true then some ((k, d) :: xs) else (plugE a d xs).map ((k, x) :: ·) := rfl
@[simp] theorem plug_l {a : Nat} {d : D} {xs : List D} : plug a d (.list xs) = (plugs a d xs).map .list := rfl
@[simp] theorem plug_d {a : Nat} {d : D} {es : List (D × D)} : plug a d (.dict es) = (plugE a d es).map .dict := rfl
section
variable {ρ : Ev}
@[simp] theorem x_give {j x : Nat} {s : Stx} : sGive j x s ρ = (match ρ[j]? with
  | some (some ⟨.own, .list ds⟩) => if j ≠ x then ali fun a => gvS j x a (.list ds) (s (ρ.set j (some ⟨.imm, ptrD a⟩))) else .bad
  | _ => .bad) := id rfl
@[simp] theorem x_gvS {j x a : Nat} {d : D} : gvS j x a d (.next ρ) = (match gvE j x a d ρ with
    | some ρ' => .next ρ'
    | none => .bad) := id rfl
@[simp] theorem x_gvE {j x a : Nat} {d : D} : gvE j x a d ρ = (match ρ[x]? with
  | some (some ⟨.imm, t⟩) => if isPtr a (some t) = true ∧ nov ρ = true then some ((ρ.set j none).set x (some ⟨.own, d⟩)) else none
  | some (some ⟨.own, t⟩) => (match plug a d t with
    | some t' => if nov ρ = true then some ((ρ.set j none).set x (some ⟨.own, t'⟩)) else none
    | none => none)
  | some (some ⟨.brw, t⟩) => (match plug a d t with
    | some t' => if nov ρ = true then some ((ρ.set j none).set x (some ⟨.brw, t'⟩)) else none
    | none => none)
  | _ => none) := id rfl
end
@[simp] theorem isVal_ptr {a : Nat} : isVal (ptrD a) = true := rfl
@[simp] theorem ownR_ptr {a : Nat} : ownR ⟨.imm, ptrD a⟩ = some (ptrD a) := ownR_val rfl
/-! ### equality of data, reckoned -/
@[simp] theorem eqv_bb {x y : Bool} : PyData.eqv (.bool x) (.bool y) = (x == y) := by simp [PyData.eqv]
@[simp] theorem eqv_tt {xs ys : List D} : PyData.eqv (.tuple xs) (.tuple ys) = PyData.eqvAll xs ys := by simp [PyData.eqv]
@[simp] theorem eqv_ll {xs ys : List D} : PyData.eqv (.list xs) (.list ys) = PyData.eqvAll xs ys := by simp [PyData.eqv]
@[simp] theorem eqvAll_nn : PyData.eqvAll [] [] = true := by simp [PyData.eqvAll]
@[simp] theorem eqvAll_cn {x : D} {xs : List D} : PyData.eqvAll (x :: xs) [] = false := by simp [PyData.eqvAll]
@[simp] theorem eqvAll_nc {x : D} {xs : List D} : PyData.eqvAll [] (x :: xs) = false := by simp [PyData.eqvAll]
@[simp] theorem eqvAll_cc {x y : D} {xs ys : List D} : PyData.eqvAll (x :: xs) (y :: ys) = (PyData.eqv x y && PyData.eqvAll xs ys) := by simp [PyData.eqvAll]
/-- in a row of one shape -/
theorem fIn_shaped {a b : D} {ds : List D} (hb : itemsD b = some ds) (h1 : SeqAt.shaped a = true) (h2 : SeqAt.shaped b = true) : fIn a b = some (ds.any fun z => PyData.eqv z a) := by
  unfold fIn
  rw [hb]
  simp only
  split
  · rfl
  · rw [if_pos ⟨h1, h2⟩]
theorem loop_same {α : Type} {g : Tgx} {b : Stx} {item : α → R} {ρ : Ev} : ∀ {xs : List α}, (∀ x ∈ xs, stp g b (item x) ρ = .next ρ) → loopS g b (xs.map item) ρ = .next ρ
  | [], _ => rfl
  | x :: xs, h => by
    rw [List.map_cons, loop_c, h x (by simp)]
    exact loop_same fun y hy => h y (by simp [hy])
end Oz

/-! Oz32: l.count("text"), l a list of texts. -/
namespace Oz
open PySem PySem.Spec PyProof.Rows L2
variable [WD]
/-- texts alone -/
def isSt : D → Bool
  | .str _ => true
  | _ => false
def pCnt (p : Px) (k : Str) : Px := fun ρ => (p ρ).bind fun r => match r.d with
  | .list ds => if ds.all isSt = true then .ok ⟨.imm, .int (countIn (.str k) ds)⟩ else .bad
  | _ => .bad
@[simp] theorem pCnt_eq {p : Px} {k : Str} {ρ : Ev} : pCnt p k ρ = (p ρ).bind fun r => match r.d with
  | .list ds => if ds.all isSt = true then .ok ⟨.imm, .int (countIn (.str k) ds)⟩ else .bad
  | _ => .bad := rfl
@[simp] theorem isSt_str {x : Str} : isSt (.str x) = true := rfl
end Oz

/-! Oz33: sorted(xs), xs a list of data without lists and dicts. -/
namespace Oz
open PySem PySem.Spec PyProof.Rows L2
variable [WD]
mutual
theorem lf_pl : ∀ {d : D}, lf d = true → pl d = true
  | .none, _ => rfl
  | .bool _, _ => rfl
  | .int _, _ => rfl
  | .str _, _ => rfl
  | .tuple xs, h => by
    have q : lfs xs = true := by simpa [lf] using h
    have := lfs_pls q
    simpa [pl] using this
  | .list _, h => by simp [lf] at h
  | .dict _, h => by simp [lf] at h
theorem lfs_pls : ∀ {ds : List D}, lfs ds = true → pls ds = true
  | [], _ => rfl
  | d :: ds, h => by
    have q : (_ && _) = true := h
    obtain ⟨q1, q2⟩ := Bool.and_eq_true_iff.mp q
    show (_ && _) = true
    rw [lf_pl q1, lfs_pls q2]
    rfl
end
def tupC : D → Bool
  | .tuple (_ :: _) => true
  | _ => false
def noTup : D → Bool
  | .none => false
  | .tuple _ => false
  | _ => true
def okSort (ds : List D) : Bool := lfs ds && (ds.all (fun d => ds.all fun e => PySem.W.alike d e) && ((ds.all tupC || ds.all noTup) && (ds.all (fun d => decide (d.depth ≤ 60)) && decide (ds.length ≤ sizeLine))))
def sortD (ds : List D) : List D := ds.mergeSort (PySem.W.dataLe false fun d => d)
structure OkSort (ds : List D) : Prop where
  lf : lfs ds = true
  al : PySem.W.AllAlike ds
  so : PySem.W.Sortable ds
  dp : ∀ d ∈ ds, d.depth ≤ 60
  le : ds.length ≤ sizeLine
section
open PySem.W
end
def bSorted : List R → Res R
  | [r] => (match r.d with
    | .list ds => if okSort ds = true then .ok ⟨.own, .list (sortD ds)⟩ else .bad
    | _ => .bad)
  | _ => .bad
@[simp] theorem x_sorted {s : Sx} {ds : List D} : bSorted [⟨s, .list ds⟩] = if okSort ds = true then .ok ⟨.own, .list (sortD ds)⟩ else .bad := id rfl
end Oz

/-! Oz34: a generator expression over a tuple; any and all of it (turned from the library's rules over texts). -/
namespace Oz
open PySem PySem.Spec PyProof.Rows L2
variable [WD]
/-! ### tables that grow -/
theorem codeAmong_ne {pos : Pos} {a b : Nat} {c : Value} (l : List Value) (h : TriplesOk l) (n : ¬ (a = pos.line ∧ b = pos.col)) : codeAmong pos (l ++ [rawInt a, rawInt b, c]) = codeAmong pos l := by
  fun_induction TriplesOk l with
  | case1 =>
    simp only [List.nil_append, rawInt, codeAmong]
    rw [if_neg]
    intro e
    simp only [Bool.and_eq_true, beq_iff_eq] at e
    exact n ⟨by have := e.1; omega, by have := e.2; omega⟩
  | case2 a t b u x rest ih =>
    simp only [List.cons_append, codeAmong]
    rw [ih h]
  | case3 l h1 h2 => exact h.elim
/-- the table has grown by code objects that hold none -/
def GrownF (ps ps' : Array Value) : Prop := (∃ more, ps' = ps ++ more) ∧ TriplesOk ps'.toList ∧ ∀ pos, nestP pos = true → codeAmong pos ps'.toList = codeAmong pos ps.toList
theorem GrownF.refl {ps : Array Value} (t : TriplesOk ps.toList) : GrownF ps ps := ⟨⟨#[], by simp⟩, t, fun _ _ => rfl⟩
theorem GrownF.trans {a b c : Array Value} (x : GrownF a b) (y : GrownF b c) : GrownF a c := by
  obtain ⟨⟨m, rfl⟩, _, x3⟩ := x
  obtain ⟨⟨n, rfl⟩, y2, y3⟩ := y
  exact ⟨⟨m ++ n, by rw [Array.append_assoc]⟩, y2, fun pos h => (y3 pos h).trans (x3 pos h)⟩
theorem GrownF.snoc {ps : Array Value} {gpos : Pos} {c : Value} (t : TriplesOk ps.toList) (n : nestP gpos = false) : GrownF ps (ps ++ #[rawInt gpos.line, rawInt gpos.col, c]) := by
  refine ⟨⟨_, rfl⟩, ?_, fun pos h => ?_⟩
  · rw [Array.toList_append]
    exact TriplesOk_snoc _ _ _ _ t
  · rw [Array.toList_append]
    refine codeAmong_ne _ t fun e => ?_
    have : nestP gpos = nestP pos := by unfold nestP; rw [e.1, e.2]
    rw [this, h] at n
    cases n
/-- H' is H, but that the table at P may have grown -/
structure TabbedQ (P : Addr) (H H' : Hp) : Prop where
  keep : ∀ b o, b ≠ P → H b = some o → H' b = some o
  tb : ∀ {n : Bool}, TabQ n H P → TabQ n H' P
  new : ∀ b o, H b = none → H' b = some o → fzn o = false
  g : GxR.TabG H' P
theorem TabbedQ.tab {P : Addr} {H H' : Hp} (t : TabbedQ P H H') (hP : GxR.TabG H P) {n : Bool} (b : Addr) (h : TabQ n H b) : TabQ n H' b := by
  by_cases e : b = P
  · subst e; exact t.tb h
  · obtain ⟨⟨ps, h1, h2⟩, h3⟩ := h
    obtain ⟨qs, q1, q2⟩ := hP
    refine ⟨⟨ps, t.keep b _ e h1, h2⟩, fun en ps' h4 pos cv hn h5 => ?_⟩
    rw [t.keep b _ e h1] at h4
    cases h4
    obtain ⟨c, P2, z1, z0, z2, z3⟩ := h3 en ps h1 pos cv hn h5
    refine ⟨c, P2, z1, z0, t.keep c _ (fun y => by rw [y, q1] at z2; cases z2) z2, ?_⟩
    by_cases y : P2 = P
    · rw [y]; exact t.g
    · obtain ⟨p3, w1, w2⟩ := z3
      exact ⟨p3, t.keep P2 _ y w1, w2⟩
theorem tabbed_upd {H : Hp} {P : Addr} {ps ps' : Array Value} (hP : H P = some (.tbl ps)) (gr : GrownF ps ps') : TabbedQ P H (upd H P (.tbl ps')) := by
  have tg : GxR.TabG (upd H P (.tbl ps')) P := ⟨ps', upd_same, gr.2.1⟩
  have at_ : ∀ x o, x ≠ P → H x = some o → upd H P (.tbl ps') x = some o := fun x o n h => by rw [upd_ne n]; exact h
  refine ⟨at_, fun {n} h => ⟨tg, fun en qs e pos cv hn q => ?_⟩, fun x o n h => ?_, tg⟩
  · rw [upd_same] at e
    cases e
    rw [gr.2.2 pos hn] at q
    obtain ⟨c2, P2, z1, z0, z2, z3⟩ := h.2 en ps hP pos cv hn q
    refine ⟨c2, P2, z1, z0, at_ c2 _ (fun y => by rw [y, hP] at z2; cases z2) z2, ?_⟩
    by_cases y : P2 = P
    · rw [y]; exact tg
    · obtain ⟨p3, w1, w2⟩ := z3
      exact ⟨p3, at_ P2 _ y w1, w2⟩
  · by_cases x3 : x = P
    · rw [x3, hP] at n; cases n
    · rw [upd_ne x3, n] at h; cases h
section
variable {X : Cx} {pins : List (Addr × Obj)} {σ : L2.St} {H : Hp} {s : Shared}
/-- the layer's frame behind a grown table -/
theorem Rel.tabbed {Z O H1 H2 : Hp} {ρ : Ev} {F : List Addr} {P : Addr} (r : Rel X.K Z O H1 σ ρ F) (hP : GxR.TabG H1 P) (t : TabbedQ P H1 H2) : Ext [] Z O H1 Z O H2 ∧ Good Z O H2 := by
  obtain ⟨ps, hp, hq⟩ := _root_.id hP
  have same : ∀ b o, H1 b = some o → (∀ ps, o ≠ .tbl ps) → H2 b = some o := fun b o h n => t.keep b o (fun e => by
    rw [e, hp] at h
    cases h
    exact absurd rfl (n _)) h
  refine ⟨⟨⟨same, fun b h => ?_, t.tab hP⟩, Same.refl _, Same.refl _, fun _ h => .inl h, fun _ h => .inl h⟩, ⟨r.g.zo, fun b o h => same b o (r.g.oh b o h) fun ps e => r.g.nt b ps (by rw [h, e]), fun b o h f => ?_, r.g.nt⟩⟩
  · by_cases e : b = P
    · obtain ⟨ps2, h2, _⟩ := t.g
      rw [e, h2] at h
      cases h
    · cases q : H1 b with
      | none => rfl
      | some o => rw [t.keep b o e q] at h; cases h
  · by_cases e : b = P
    · obtain ⟨ps2, h2, _⟩ := t.g
      rw [e, h2] at h
      cases h
      cases f
    · cases q : H1 b with
      | none => rw [t.new b o q h] at f; cases f
      | some u =>
        rw [t.keep b u e q] at h
        obtain rfl := Option.some.inj h
        exact r.g.tz b _ q f
end
end Oz

/-! Oz35: elements of a generator expression, by values: its own name, captured names, t[i], ==. -/
namespace Oz
open PySem PySem.Spec PyProof.Rows L2
variable [WD]
/-- the generator's own frame: x stands for v, which reads as d; captured names read as cap tells -/
structure GF (cenv : Env) (x : Str) (s : Shared) (v : Value) (d : D) (cap : List (Str × D)) : Prop where
  kd : cenv.scope.kind = .function
  xl : cenv.kindOf x = some .local
  ns : ∃ m, s.heap.Ns cenv.locals m ∧ m x = some v
  it : ∃ as, Reads s.heap v d as
  cp : ∀ y dy, cap.lookup y = some dy → cenv.kindOf y = some .free ∧ ∃ c u as, cenv.cells.lookup y = some c ∧ s.heap.IsCell c (some u) ∧ Reads s.heap u dy as
theorem GF.keeps {cenv : Env} {x : Str} {s s' : Shared} {v : Value} {d : D} {cap : List (Str × D)} (g : GF cenv x s v d cap) (k : Keeps s s') : GF cenv x s' v d cap := by
  obtain ⟨h', tk, rfl, k⟩ := k
  obtain ⟨m, hn, hm⟩ := g.ns
  obtain ⟨as, ra⟩ := g.it
  refine ⟨g.kd, g.xl, ⟨m, hn.keeps k, hm⟩, ⟨as, PyProof.Rows.Reads.keeps k ra⟩, fun y dy e => ?_⟩
  obtain ⟨h1, c, u, bs, h2, h3, h4⟩ := g.cp y dy e
  refine ⟨h1, c, u, bs, h2, ?_, PyProof.Rows.Reads.keeps k h4⟩
  obtain ⟨o, e1, e2⟩ := h3
  exact ⟨o, k _ _ e1, e2⟩
abbrev ElF := D → List (Str × D) → Option D
section
variable {prog : Program} {w : World} {x : Str} {pos : Pos}
def eX : ElF := fun d _ => some d
end
/-! ### from the def's frame to the generator's -/
section
variable {h h' : Heap} {P : Addr}
mutual
/-- no row reads off a table of code objects -/
theorem reads_but (hP : ∃ ps, h.get? P = some { cls := .none, data := .fields ps }) (k : ∀ b o, b ≠ P → h.get? b = some o → h'.get? b = some o) : ∀ {v : Value} {d : D} {as : List Addr}, Reads h v d as → pl d = true → Reads h' v d as
  | _, _, _, .none, _ => .none
  | _, _, _, .bool b, _ => .bool b
  | _, _, _, .int i t, _ => .int i t
  | _, _, _, .str x t, _ => .str x t
  | _, _, _, .list (a := a) h1 h2 h3 h4, p => by
    have ne : a ≠ P := fun z => by
      obtain ⟨ps, hp⟩ := hP
      rw [z, hp] at h1
      cases h1
      cases h2
    exact .list (k _ _ ne h1) h2 h3 (readsAll_but hP k h4 (by simpa [pl] using p))
  | _, _, _, .tuple (a := a) h1 h2 h3 h4, p => by
    have ne : a ≠ P := fun z => by
      obtain ⟨ps, hp⟩ := hP
      rw [z, hp] at h1
      cases h1
      cases h2
    exact .tuple (k _ _ ne h1) h2 h3 (readsAll_but hP k h4 (by simpa [pl] using p))
  | _, _, _, .dict _ _ _ _ _, p => by simp [pl] at p
theorem readsAll_but (hP : ∃ ps, h.get? P = some { cls := .none, data := .fields ps }) (k : ∀ b o, b ≠ P → h.get? b = some o → h'.get? b = some o) : ∀ {vs : List Value} {ds : List D} {as : List Addr}, ReadsAll h vs ds as → pls ds = true → ReadsAll h' vs ds as
  | _, _, _, .nil, _ => .nil
  | _, _, _, .cons r t, p => by
    have q : (_ && _) = true := p
    obtain ⟨q1, q2⟩ := Bool.and_eq_true_iff.mp q
    exact .cons (reads_but hP k r q1) (readsAll_but hP k t q2)
end
end
structure CapOk (X : Cx) (scope : Scope) (cs : List (Str × Nat)) : Prop where
  ok : ∀ q ∈ cs, X.N[q.2]? = some q.1 ∧ X.env.scope.names.lookup q.1 = some .cell ∧ scope.names.lookup q.1 = some .free ∧ (q.1, NameKind.free) ∈ scope.names
end Oz

/-! Oz36: any/all of a generator expression over a tuple as an expression of the layer. -/
namespace Oz
open PySem PySem.Spec PyProof.Rows L2
variable [WD]
section
variable {X : Cx} {E : XK} {c P : Addr} {elt iter : Expr} {x : Str} {px pf pos gpos : Pos} {scope : Scope} {p : Px} {f : ElF} {cs : List (Str × Nat)} {k : Nat}
end
end Oz

/-! Oz37: the head's Hook with tables of code objects: markers at K's end name them. -/
namespace Oz
open PySem PySem.Spec L2
open PyProof.Rows hiding St
variable [WD]
/-- the law's end with tables -/
theorem lawAt {l : PySem.W.OpenLaw} {w : World} {K : PySem.W.Frag} {k n : Nat} {x : Str} {mg : Str → Option Value} {fa : Addr} {h : Heap} {fi : List He.Fa} {fn : List He.DefD} {ck : PySem.W.Frag → Bool} {dn : List (Str × List Str)} {tf : List He.Defn} (KX : K.In h) (c : SaysZ fi fn ck dn tf w h K) {fd : FuncData} {m : Fn}
    (hb : ∀ (s : Shared) (u : Value), BindsTo s fd ⟨[u], []⟩ [(x, u)]) (ht : ∀ ns : List Int, ns.length ≤ n → m [scrD (ns.map .int)] = .ok ⟨.imm, .bool true⟩ [])
    (F : ∀ base : Heap, K.In base → base.Ns mainGlobals mg → (∀ p ∈ tf, GxR.TabB base mg (He.cT K p).1 (He.cT K p).2) → FnOk l.prog w K mg base CX0 k fa fd [x] (spF K [.v] m)) : LamX.LawAtS l w K CX0 k n x mg fa h := by
  refine ⟨fd, tf.map (He.cT K), spF K [.v] m, fun p hp => ?_, fun p hp => ?_, fun p hp => ?_, hb, fun H a ns hl _ hH hS => ?_, fun base b1 b2 b3 => F base b1 b2 fun p hp => by
    have t := b3 _ (List.mem_map.mpr ⟨p, hp, rfl⟩)
    exact ⟨t.code, t.bm, t.gP⟩⟩
  · obtain ⟨q, hq, rfl⟩ := List.mem_map.mp hp
    exact c.empty q hq
  · obtain ⟨q, hq, rfl⟩ := List.mem_map.mp hp
    exact c.out q hq
  · obtain ⟨q, hq, rfl⟩ := List.mem_map.mp hp
    exact PySem.W.codeHd_of_K KX (c.hd q hq)
  · refine law_spT ht H a ns hl (fun P hP => ?_) hS
    rw [c.tk] at hP
    obtain ⟨q, hq, rfl⟩ := List.mem_map.mp hP
    have e0 := hH _ (List.mem_map.mpr ⟨q, hq, rfl⟩)
    exact ⟨⟨#[], e0, trivial⟩, fun _ ps e pos cv _ z => by
      rw [e0] at e
      cases e
      simp [codeAmong] at z⟩
end Oz

/-! Oz38: x in t within an element of a generator expression, t a tuple of ints. -/
namespace Oz
open PySem PySem.Spec PyProof.Rows L2
variable [WD]
end Oz

/-! Oz39: a def's code object by its name; the law's end with tables, K told by the Hook. -/
namespace Oz
open PySem PySem.Spec L2
open PyProof.Rows hiding St
theorem code_of {K : PySem.W.Frag} {x qual : Str} {params : Arguments} {body : List Stmt} {scope : Scope} {p : He.Defn} {fd : FuncData} (F : FunD K x qual params body scope [] [] (He.fAd K p) fd) : fd.code = .ref (He.cT K p).1 := by
  obtain ⟨oc, od, dV, kV, doc, pm, an, cdv, ct, osl, rfl, lk, hcd, _, _⟩ := F.ex
  obtain ⟨c, e⟩ := He.codeIn_ref hcd
  have e2 := He.codeOf_eq lk e
  show cdv = .ref (He.codeOf K p)
  rw [e2]
  exact e
theorem walk_ofTsE {l : PySem.W.OpenLaw} {n k : Nat} {q : Program} {loose : List Str} {XP : (Str → Option Value) → Heap → Prop} {YP : World → Heap → Prop} {d : DefRec} {x : Str}
    (hn : l.most = some n) (hn2 : n ≤ sizeLine) (hdf : d.params.defaults = []) (hr : Room k callerA)
    (F : ∀ (w : World) (mg : Str → Option Value) (fa : Addr) (h : Heap), YP w h → h.Ns mainGlobals mg → mg d.name = some (.ref fa) → ∃ K : PySem.W.Frag, K.In h ∧ LamX.LawAtS l w K CX0 k n x mg fa h) :
    PySem.W.WalkO q loose XP YP l.row.toRowW d [] (fun f vs => PySem.call f vs) := by
  refine Att.attach_callB hn hdf fun w s₀ s₁ mg mb fa o pm cd doc a vs ns G Y ho hd hcd hmg hobj hints hlen hbits hg => ?_
  obtain ⟨K, KX, fd, cs, sp, hT, nT, C, hb, hsp, hF⟩ := F w mg fa _ Y G.T.g hmg
  exact LamX.law_callTs KX G.T.g G.T.b G.T.builtins G.T.nolimit hg hT nT C G.T.bmain hobj hints (Nat.le_trans hlen hn2) hr hF hb (fun H hH hS => hsp H a ns hlen hbits hH hS) fun H e s' z => z
end Oz

/-! Oz40: Oz34 over a list. -/
namespace Oz
open PySem PySem.Spec PyProof.Rows L2
variable [WD]
section
variable {X : Cx} {pins : List (Addr × Obj)} {σ : L2.St} {H : Hp} {s : Shared}
end
/-! ### as expressions of the layer -/
section
variable {X : Cx} {E : XK} {c P : Addr} {elt iter : Expr} {x : Str} {px pf pos gpos : Pos} {scope : Scope} {p : Px} {f : ElF} {cs : List (Str × Nat)} {k : Nat}
end
end Oz

/-! Oz41: generator expressions whose element walks a generator expression of its own (turned from the library's rules for quiet elements). -/
namespace Oz
open PySem PySem.Spec PyProof.Rows L2
variable [WD]
/-- what an element may do to the generators -/
def GenStep (a b : Array GenState) : Prop := a.size ≤ b.size ∧ (AllBare a → AllBare b)
theorem GenStep.refl (a : Array GenState) : GenStep a a := ⟨Nat.le_refl _, id⟩
theorem GenStep.trans {a b c : Array GenState} (x : GenStep a b) (y : GenStep b c) : GenStep a c := ⟨Nat.le_trans x.1 y.1, fun h => y.2 (x.2 h)⟩
/-- the table at T is in order, and has grown by flat code objects -/
def TGrow (T : Addr) (h h' : Heap) : Prop := ∀ ps : Array Value, h.get? T = some (PySem.W.tabObj ps) → TriplesOk ps.toList → ∃ ps' : Array Value, h'.get? T = some (PySem.W.tabObj ps') ∧ GrownF ps ps'
theorem TGrow.refl (T : Addr) (h : Heap) : TGrow T h h := fun ps e t => ⟨ps, e, GrownF.refl t⟩
theorem TGrow.trans {T : Addr} {h h1 h2 : Heap} (a : TGrow T h h1) (b : TGrow T h1 h2) : TGrow T h h2 := fun ps e t => by
  obtain ⟨ps1, e1, g1⟩ := a ps e t
  obtain ⟨ps2, e2, g2⟩ := b ps1 e1 g1.2.1
  exact ⟨ps2, e2, g1.trans g2⟩
theorem TGrow.kept {T : Addr} {h h' : Heap} (k : ∀ o, h.get? T = some o → h'.get? T = some o) : TGrow T h h' := fun ps e t => ⟨ps, k _ e, GrownF.refl t⟩
def TOk (T : Addr) (h : Heap) : Prop := ∃ ps : Array Value, h.get? T = some (PySem.W.tabObj ps) ∧ TriplesOk ps.toList
theorem TOk.grow {T : Addr} {h h' : Heap} (x : TOk T h) (g : TGrow T h h') : TOk T h' := by
  obtain ⟨ps, e, t⟩ := x
  obtain ⟨ps', e', g'⟩ := g ps e t
  exact ⟨ps', e', g'.2.1⟩
theorem TOk.kept {T : Addr} {h h' : Heap} (x : TOk T h) (k : ∀ o, h.get? T = some o → h'.get? T = some o) : TOk T h' := x.grow (TGrow.kept k)
def SinceN (C : Addr) (wr : List Addr) (T : Addr) (s₀ s : Shared) : Prop :=
  ∃ h' tk gs, s = { s₀ with heap := h', toks := tk, gens := gs } ∧ (∀ b o, b ≠ C → b ∉ wr → s₀.heap.get? b = some o → h'.get? b = some o) ∧ TGrow T s₀.heap h' ∧ GenStep s₀.gens gs
theorem SinceN.refl (C : Addr) (wr : List Addr) (T : Addr) (s : Shared) : SinceN C wr T s s := ⟨s.heap, s.toks, s.gens, rfl, fun _ _ _ _ e => e, TGrow.refl _ _, GenStep.refl _⟩
theorem SinceN.step {C : Addr} {wr : List Addr} {T : Addr} {s₀ s : Shared} (x : SinceN C wr T s₀ s) {h' : Heap} {tk : Nat} {gs : Array GenState} (hk : ∀ b o, b ≠ C → b ∉ wr → s.heap.get? b = some o → h'.get? b = some o) (hT : TGrow T s.heap h') (hg : GenStep s.gens gs) :
    SinceN C wr T s₀ { s with heap := h', toks := tk, gens := gs } := by
  obtain ⟨h₁, tk₁, gs₁, rfl, hk₁, hT₁, hg₁⟩ := x
  exact ⟨h', tk, gs, rfl, fun b o hC hw e => hk b o hC hw (hk₁ b o hC hw e), hT₁.trans hT, hg₁.trans hg⟩
def ElStep (T : Addr) (s s' : Shared) : Prop := ∃ h' tk gs, s' = { s with heap := h', toks := tk, gens := gs } ∧ (∀ b o, b ≠ T → s.heap.get? b = some o → h'.get? b = some o) ∧ TGrow T s.heap h' ∧ GenStep s.gens gs
def tt : Nat → Bool := fun _ => true
section
variable {prog : Program} {w : World} {A : Around}
structure QuietN (prog : Program) (w : World) (cenv : Env) (x : Str) (elt : Expr) (fp wr : List Addr) (T : Addr) (P : Nat → Value → Prop) (F : Nat → Value → Prop) (href : Heap) (D : Nat) : Prop where
  elt : ∀ (A' : Around) E' i v (s₂ : Shared) m₂, A'.handled = none → A'.depth ≤ D → P i v → s₂.heap.Ns cenv.locals m₂ → m₂ x = some v → (∀ b ∈ fp, b ∉ wr → ∀ o, href.get? b = some o → s₂.heap.get? b = some o) → TOk T s₂.heap →
    wpAny (model prog w) A' (eval elt cenv) (fun y s₃ => F i y ∧ ElStep T s₂ s₃) E' s₂

structure MovN (wr : List Addr) (T : Addr) (s s' : Shared) : Prop where
  heap : ∀ b o, b ∉ wr → s.heap.get? b = some o → s'.heap.get? b = some o
  tab : TGrow T s.heap s'.heap
  gens : AllBare s.gens → AllBare s'.gens
  drawn : s'.drawn = s.drawn
  os : s'.os = s.os
theorem MovN.trans {wr : List Addr} {T : Addr} {s s' s'' : Shared} (x : MovN wr T s s') (y : MovN wr T s' s'') : MovN wr T s s'' :=
  ⟨fun b o hb e => y.heap b o hb (x.heap b o hb e), x.tab.trans y.tab, fun h => y.gens (x.gens h), y.drawn.trans x.drawn, y.os.trans x.os⟩
structure WalksN (prog : Program) (w : World) (A : Around) (I : Addr) (wr : List Addr) (T : Addr) (n : Nat) (P : Nat → Value → Prop) (St : Nat → Shared → Prop) : Prop where
  item : ∀ i (s : Shared) (Q : Option Value → Shared → Prop) (E : Value → Shared → Prop), i < n → St i s →
    (∀ v s', P i v → St (i + 1) s' → MovN wr T s s' → Q (some v) s') → wpAny (model prog w) A (pyNext (.ref I)) Q E s
  done : ∀ (s : Shared) (Q : Option Value → Shared → Prop) (E : Value → Shared → Prop), St n s → (∀ s', MovN wr T s s' → Q none s') → wpAny (model prog w) A (pyNext (.ref I)) Q E s
  self : ∀ i (s : Shared) (Q : Value → Shared → Prop) (E : Value → Shared → Prop), St i s → Q (.ref I) s → wpAny (model prog w) A (pyIter (.ref I)) Q E s
end
end Oz

/-! Oz42: any/all over Oz41's generators; a generator expression within the frame of another. -/
namespace Oz
open PySem PySem.Spec PyProof.Rows L2
variable [WD]
section
variable {prog : Program} {w : World} {A : Around} {E : Value → Shared → Prop} {s : Shared}
end
section
variable {prog : Program} {w : World} {A : Around} {R : Result → Shared → Prop} {I T : Addr} {wr : List Addr} {n : Nat} {P : Nat → Value → Prop} {St : Nat → Shared → Prop}
end
section
variable {prog : Program} {w : World} {A : Around} {E : Value → Shared → Prop} {s : Shared}
end
/-! ### the module, seen from a generator's frame -/
structure GMod (mg : Str → Option Value) (h : Heap) : Prop where
  glob : h.Ns mainGlobals mg
  bm : ∃ bm ob, mg "__builtins__" = some (.ref bm) ∧ bm ≠ builtinsNs ∧ h.get? bm = some ob ∧ ob.cls = .type "module" ∧ ob.dict = some builtinsNs ∧ ob.data = .plain
  blt : ∃ mb, h.Ns builtinsNs mb ∧ ∀ x : Str, x ≠ "__name__" → mb x = bootBuiltins x
theorem ns_ne_tab {h : Heap} {a T : Addr} {m : Str → Option Value} {ps : Array Value} (n : h.Ns a m) (e : h.get? T = some (PySem.W.tabObj ps)) : a ≠ T := fun z => by
  obtain ⟨o, es, ep, ho, hd, _⟩ := n
  rw [z, e] at ho
  cases ho
  cases hd
theorem GMod.but {mg : Str → Option Value} {h h' : Heap} {T : Addr} (M : GMod mg h) (hT : ∃ ps, h.get? T = some (PySem.W.tabObj ps)) (k : ∀ b o, b ≠ T → h.get? b = some o → h'.get? b = some o) : GMod mg h' := by
  obtain ⟨ps, hT⟩ := hT
  obtain ⟨bm, ob, e1, e2, e3, e4, e5, e6⟩ := M.bm
  obtain ⟨mb, f1, f2⟩ := M.blt
  refine ⟨M.glob.at' fun o e => k _ o (ns_ne_tab M.glob hT) e, ⟨bm, ob, e1, e2, k _ _ (fun z => ?_) e3, e4, e5, e6⟩, mb, f1.at' fun o e => k _ o (ns_ne_tab f1 hT) e, f2⟩
  rw [z, hT] at e3
  cases e3
  cases e4
/-! ### a generator expression over a tuple, in the frame of another one -/
section
variable {prog : Program} {w : World} {A : Around} {E : Value → Shared → Prop} {s : Shared} {mg : Str → Option Value}
end
end Oz

/-! Oz43: all(any(..) for x in l), any(all(..) for x in l) as expressions of the layer. -/
namespace Oz
open PySem PySem.Spec PyProof.Rows L2
variable [WD]
/-! ### rows read over a heap in which tables may have changed -/
section
variable {h h' : Heap}
mutual
theorem reads_nt (k : ∀ b o, o.cls ≠ .none → h.get? b = some o → h'.get? b = some o) : ∀ {v : Value} {d : D} {as : List Addr}, Reads h v d as → pl d = true → Reads h' v d as
  | _, _, _, .none, _ => .none
  | _, _, _, .bool b, _ => .bool b
  | _, _, _, .int i t, _ => .int i t
  | _, _, _, .str x t, _ => .str x t
  | _, _, _, .list (a := a) h1 h2 h3 h4, p => .list (k _ _ (by rw [h2]; nofun) h1) h2 h3 (readsAll_nt k h4 (by simpa [pl] using p))
  | _, _, _, .tuple (a := a) h1 h2 h3 h4, p => .tuple (k _ _ (by rw [h2]; nofun) h1) h2 h3 (readsAll_nt k h4 (by simpa [pl] using p))
  | _, _, _, .dict _ _ _ _ _, p => by simp [pl] at p
theorem readsAll_nt (k : ∀ b o, o.cls ≠ .none → h.get? b = some o → h'.get? b = some o) : ∀ {vs : List Value} {ds : List D} {as : List Addr}, ReadsAll h vs ds as → pls ds = true → ReadsAll h' vs ds as
  | _, _, _, .nil, _ => .nil
  | _, _, _, .cons r t, p => by
    have q : (_ && _) = true := p
    obtain ⟨q1, q2⟩ := Bool.and_eq_true_iff.mp q
    exact .cons (reads_nt k r q1) (readsAll_nt k t q2)
end
end
theorem GMod.nt {mg : Str → Option Value} {h h' : Heap} (M : GMod mg h) (k : ∀ b o, o.cls ≠ .none → h.get? b = some o → h'.get? b = some o) (kd : ∀ b o, (∃ es ep, o.data = .dict es ep) → h.get? b = some o → h'.get? b = some o) : GMod mg h' := by
  obtain ⟨bm, ob, e1, e2, e3, e4, e5, e6⟩ := M.bm
  obtain ⟨mb, f1, f2⟩ := M.blt
  have nk : ∀ {a : Addr} {m : Str → Option Value}, h.Ns a m → h'.Ns a m := fun {a m} n => by
    obtain ⟨o, es, ep, ho, hd, r⟩ := n
    exact ⟨o, es, ep, kd _ _ ⟨es, ep, hd⟩ ho, hd, r⟩
  exact ⟨nk M.glob, ⟨bm, ob, e1, e2, k _ _ (by rw [e4]; nofun) e3, e4, e5, e6⟩, mb, nk f1, f2⟩
/-! ### an element that is any or all of a generator expression over a tuple -/
structure GC (mg : Str → Option Value) (cenv : Env) (s : Shared) (c T : Addr) : Prop where
  code : cenv.code = .ref c
  glob : cenv.globals = mainGlobals
  blt : cenv.builtins = builtinsNs
  hd : PySem.W.CodeHd s.heap c T
  tok : TOk T s.heap
  mod : GMod mg s.heap
  lim : s.heap.NoLimit
section
variable {prog : Program} {w : World} {mg : Str → Option Value} {scope scope2 : Scope} {x y : Str} {fs : List Str} {elt2 iter2 : Expr} {py pf pos gpos : Pos} {g f2 : ElF}
end
end Oz

/-! Oz44: the outer generator expression over a list, its table of code objects tracked. -/
namespace Oz
open PySem PySem.Spec PyProof.Rows L2
variable [WD]
section
variable {X : Cx} {pins : List (Addr × Obj)} {σ : L2.St} {H : Hp} {s : Shared}
end
/-! ### as expressions of the layer -/
section
variable {X : Cx} {E : XK} {c P : Addr} {elt iter : Expr} {x : Str} {px pf pos gpos : Pos} {scope : Scope} {p : Px} {f : ElF} {cs : List (Str × Nat)} {k : Nat}
end
end Oz

/-! Oz45: repr of a tuple, where no repr is under way. -/
namespace Oz
open PySem PySem.Spec PyProof.Rows L2
variable [WD]
def okShow (d : D) : Bool := (match d with
  | .tuple _ => true
  | _ => false) && (pl d && (d.showable && (!d.hasDict && (decide (d.depth ≤ 60) && (d.leavesShort 13 && decide (d.bulk ≤ 1048576))))))
structure OkShow (d : D) : Prop where
  tu : ∃ ds, d = .tuple ds
  pl : pl d = true
  sh : d.showable = true
  nd : d.hasDict = false
  dp : d.depth ≤ 60
  sz : d.shown.length ≤ sizeLine
def bRepr : List R → Res R
  | [r] => if okShow r.d = true then .ok ⟨.imm, .str r.d.shown⟩ else .bad
  | _ => .bad
@[simp] theorem x_repr {r : R} : bRepr [r] = if okShow r.d = true then .ok ⟨.imm, .str r.d.shown⟩ else .bad := id rfl
end Oz

/-! Oz46: the law's end where the law's own body is to know that no repr is under way (turned from the library's end with tables). -/
namespace Oz
open PySem PySem.Spec PyProof.Rows L2
variable [WD]
/-- the promise of a def where no repr is under way -/
structure FnG (P : Program) (w : World) (K : PySem.W.Frag) (mg : Str → Option Value) (base : Heap) (CX : CXT) (k : Nat) (f : Addr) (fd : FuncData) (ps : List Str) (sp : Sp) : Prop where
  len : ∀ vs H Q E, sp vs H Q E → vs.length = ps.length
  run : ∀ (A : Around) (outer : List Env) (s : Shared) (H : Hp) (args : PySem.Args) (us : List Value) (vs : List V) (Q : VK) (E : XK), A.guards = some [] → Room k A → Env0 P w K mg base A outer s H → BindsTo s fd args (ps.zip us) → Vals vs us → sp vs H Q E →
    codeAny (model P w) A (.call (.ref f) args) (CR CX outer P w H s Q E) s
section
variable {P : Program} {w : World} {K : PySem.W.Frag} {mg : Str → Option Value} {base : Heap} {x qual : Str} {params : Arguments} {body : List Stmt} {scope : Scope} {f : Addr} {fd : FuncData}
end
end Oz

/-! Oz47: dicts with tuple keys: `found = {}`, `found[key] = True`. -/
namespace Oz
open PySem PySem.Spec L2
open PyProof.Rows hiding St
variable [WD]

/-! ### the frame with a table -/
section
variable {K : PySem.W.Frag} {E : XK} {Z O H Z1 O1 H1 : Hp} {σ : St} {ρ ρ' : Ev} {F G : List Addr} {v : V} {r : R} {i : Nat}
theorem TabR.cell {es : List D} {d : D} (h : RepS K Z O H v ⟨.tab, d⟩ G) (e : d = .list es) : ∃ a xs, v = .ref a ∧ H a = some (.ext (tdO a xs)) ∧ KeysAt K Z xs es ∧ G = [a] := by
  rcases h with h | ⟨_, a, xs, es', e1, e2, h, k, e3⟩
  · exact h.elim
  · have : es' = es := by
      have := e2.symm.trans e
      injection this
    subst this
    exact ⟨a, xs, e1, h, k, e3⟩
end

/-! ### found = {} -/
section
variable {X : Cx} {E : XK} {x : Str} {pos pos' p' : Pos}
end
end Oz

/-! Oz48: `found[key] = True`. -/
namespace Oz
open PySem PySem.Spec L2
open PyProof.Rows hiding St
variable [WD]
/-- how a table grows -/
def tput (xs : List (NestedKey × Addr)) (k : NestedKey) (b : Addr) : List (NestedKey × Addr) := if k ∈ xs.map (·.1) then xs else xs ++ [(k, b)]
section
variable {X : Cx} {E : XK} {o ix value : Expr} {pos pos' : Pos} {to ti : TE}
end
/-- the key at the data's side -/
def keyT : D → Option (List NestedKey)
  | .tuple ds => keysB ds
  | _ => none
def tabPut (d : D) (es : List D) : List D := if keyT d ∈ es.map keyT then es else es ++ [d]
theorem KeysAt.put {K : PySem.W.Frag} {Z : Hp} {b : Addr} {ds : List D} {ks : List NestedKey} (e : keysB ds = some ks) (r : Rep K Z (.ref b) (.tuple ds)) {xs : List (NestedKey × Addr)} {es : List D} (h : KeysAt K Z xs es) : KeysAt K Z (tput xs (.tup ks) b) (tabPut (.tuple ds) es) := by
  have key : ∀ {xs : List (NestedKey × Addr)} {es : List D}, KeysAt K Z xs es → (NestedKey.tup ks ∈ xs.map (·.1) ↔ keyT (.tuple ds) ∈ es.map keyT) := by
    intro xs es h
    induction h with
    | nil => simp
    | cons h1 _ _ ih =>
      simp only [List.map_cons, List.mem_cons, ih]
      show _ ∨ _ ↔ keysB ds = keysB _ ∨ _
      rw [e, h1]
      simp
  have app : ∀ {xs : List (NestedKey × Addr)} {es : List D}, KeysAt K Z xs es → KeysAt K Z (xs ++ [(.tup ks, b)]) (es ++ [.tuple ds]) := by
    intro xs es h
    induction h with
    | nil => exact .cons e r .nil
    | cons h1 h2 _ ih => exact .cons h1 h2 ih
  unfold tput tabPut
  by_cases c : NestedKey.tup ks ∈ xs.map (·.1)
  · rw [if_pos c, if_pos ((key h).mp c)]; exact h
  · rw [if_neg c, if_neg (fun z => c ((key h).mpr z))]; exact app h
theorem KeysAt.length {K : PySem.W.Frag} {Z : Hp} : ∀ {xs : List (NestedKey × Addr)} {es : List D}, KeysAt K Z xs es → xs.length = es.length
  | _, _, .nil => rfl
  | _, _, .cons _ _ t => congrArg (· + 1) t.length
section
variable {X : Cx} {E : XK} {x : Str} {pos pos' p' p0 : Pos} {ix : Expr} {p : Px} {j : Tok}
end
end Oz

/-! Oz49: sorted(found, key=f): the keys of a table, by what a def says of them. -/
namespace Oz
open PySem PySem.Spec L2 PySem.Calls PySem.W
open PyProof.Rows hiding St
variable [WD]
noncomputable section
def keyF (fn : Fn) (e : D) : D := match fn [e] with
  | .ok ⟨.imm, k⟩ [] => k
  | _ => .none
def keyOk (fn : Fn) (e : D) : Bool := match fn [e] with
  | .ok ⟨.imm, _⟩ [] => true
  | _ => false
def okSortK (fn : Fn) (es : List D) : Bool := es.all (keyOk fn) && (lfs es && okSort (es.map (keyF fn)))
def sortKD (fn : Fn) (es : List D) : List D := es.mergeSort (PySem.W.dataLe false (keyF fn))
section
variable {X : Cx} {pins : List (Addr × Obj)} {σ : St} {Z O H : Hp} {s : Shared} {k : Nat} {f B kS : Addr} {fd : FuncData} {ps : List Str} {fn : Fn}
end
/-- between two calls of the key -/
structure JK (X : Cx) (pins : List (Addr × Obj)) (σ : St) (Z O H : Hp) (B kS : Addr) (e1 : Nat) (ks : List D) (s' : Shared) (H' Z' O' : Hp) (kA : Array Value) (e : Nat) : Prop where
  I : Inv X pins σ H' s'
  ex : Ext [] Z O H Z' O' H'
  g : Good Z' O' H'
  tb : Tabs X.K H'
  nB : H' B = none
  nS : H' kS = none
  gS : s'.heap.get? kS = some (seqObj "list" kA e)
  gB : s'.heap.get? B = some (seqObj "list" #[] e1)
  ks : EachIs (fun u k => ∃ x, RelV x u ∧ Rep X.K Z' x k) kA.toList ks
section
variable {X : Cx} {pins : List (Addr × Obj)} {σ : St} {Z O H : Hp} {s : Shared} {k : Nat} {f B kS : Addr} {fd : FuncData} {ps : List Str} {fn : Fn} {e1 : Nat} {vs : List Value} {es : List D} {P : PySem.Fin → Shared → Prop} {E : Value → Shared → Prop}
end
end
end Oz

/-! Oz50: sorted(found, key=f), as an expression. -/
namespace Oz
open PySem PySem.Spec L2 PySem.Calls PySem.W
open PyProof.Rows hiding St
variable [WD]
noncomputable section
section
variable {X : Cx} {pins : List (Addr × Obj)} {σ : St} {Z O H : Hp} {s : Shared} {k : Nat} {f B : Addr} {fd : FuncData} {ps : List Str} {fn : Fn} {n : Nat} {vs : List Value} {es : List D} {P : PySem.Fin → Shared → Prop} {E : Value → Shared → Prop}
end
end
section
variable {X : Cx} {E : XK} {k k' : Nat} {fn : Fn} {ps : List Str} {x y : Str} {p pos p0 p1 p2 kpos : Pos}
end
end Oz

/-! Oz51: a method of a thing in a place (self.pool.put(x)) that the call changes. -/
namespace Oz
open PySem PySem.Spec L2
open PyProof.Rows hiding St
variable [WD]
def nvw (r : R) : Bool := match r.s with
  | .view => false
  | _ => true
def mOutP (l : Pl) (fr : FR) (ρ : Ev) : SR := match ρ[l.i]? with
  | some (some ⟨s, _⟩) => (match fr with
    | .ok r [d'] => .ret r (ρ.set l.i (some ⟨s, l.put d'⟩))
    | .exc c fs [d'] => .exc c fs (ρ.set l.i (some ⟨s, l.put d'⟩))
    | _ => .bad)
  | _ => .bad
def mMethP (c mn : Str) (f : Fn) (md : List Md) (l : Plx) (ps : List Px) : Stx := fun ρ => match l ρ with
  | .bad => .bad
  | .exc c fs => .exc c fs ρ
  | .ok l => (match unO c l.d with
    | none => .bad
    | some es => if lkD (.inr mn) es = none then (match evs ps ρ with
      | .bad => .bad
      | .exc c fs => .exc c fs ρ
      | .ok rs => if rs.all nvw = true then (match pargs md rs with
        | some ds => mOutP l (f (l.d :: ds)) ρ
        | none => .bad) else .bad) else .bad)
section
variable {K : PySem.W.Frag} {E : XK}
end
section
variable {X : Cx} {E : XK} {CX : CXT} {k k' : Nat} {ps : List Str} {md : List Md} {g : Fn} {c m x : Str} {p pos apos : Pos} {e o : Expr} {es : List Expr} {qs : List Px} {l : Plx}
end
/-! ### reckoning -/
section
variable {ρ : Ev}
@[simp] theorem x_nvw {s : Sx} {d : D} : nvw ⟨s, d⟩ = (match s with | .view => false | _ => true) := id rfl
@[simp] theorem x_mOutP {i : Nat} {d : D} {pt : D → D} {fr : FR} : mOutP ⟨i, d, pt⟩ fr ρ = (match ρ[i]? with
  | some (some ⟨s, _⟩) => (match fr with
    | .ok r [d'] => .ret r (ρ.set i (some ⟨s, pt d'⟩))
    | .exc c fs [d'] => .exc c fs (ρ.set i (some ⟨s, pt d'⟩))
    | _ => .bad)
  | _ => .bad) := id rfl
@[simp] theorem x_mMethP {c mn : Str} {f : Fn} {md : List Md} {l : Plx} {ps : List Px} : mMethP c mn f md l ps ρ = (match l ρ with
  | .bad => .bad
  | .exc c fs => .exc c fs ρ
  | .ok l => (match unO c l.d with
    | none => .bad
    | some es => if lkD (.inr mn) es = none then (match evs ps ρ with
      | .bad => .bad
      | .exc c fs => .exc c fs ρ
      | .ok rs => if rs.all nvw = true then (match pargs md rs with
        | some ds => mOutP l (f (l.d :: ds)) ρ
        | none => .bad) else .bad) else .bad)) := id rfl
end
end Oz

/-! Oz52: a, b = p, q with plain local names. -/
namespace Oz
open PySem PySem.Spec L2
open PyProof.Rows hiding St
variable [WD]
def sPar (i j : Nat) (p q : Px) : Stx := fun ρ => match evs [p, q] ρ with
  | .bad => .bad
  | .exc c fs => .exc c fs ρ
  | .ok [a, b] => (match setS i a ρ with
    | some ρ1 => (match setS j b ρ1 with
      | some ρ2 => .next ρ2
      | none => .bad)
    | none => .bad)
  | .ok _ => .bad
@[simp] theorem x_par {i j : Nat} {p q : Px} {ρ : Ev} : sPar i j p q ρ = (match evs [p, q] ρ with
  | .bad => .bad
  | .exc c fs => .exc c fs ρ
  | .ok [a, b] => (match setS i a ρ with
    | some ρ1 => (match setS j b ρ1 with
      | some ρ2 => .next ρ2
      | none => .bad)
    | none => .bad)
  | .ok _ => .bad) := id rfl
end Oz

/-! Oz53: [e for x in xs if t for y in ys if u]. -/
namespace Oz
open PySem PySem.Spec L2
open PyProof.Rows hiding St
variable [WD]
/-- a source that is walked while the list at L grows -/
def IOd (K : PySem.W.Frag) (E : XK) (w : TI) (src : Src) : Prop := ∀ (L : Addr) (σ : St) (H : Hp) (R : It → Hp → Prop), (∃ Z O ρ F, Rel K Z O H σ ρ F ∧ (∃ o, H L = some o) ∧ match src ρ with
  | .bad => False
  | .exc c fs => ExcK K E Z O H c fs
  | .ok rs => ∀ J H' Z' O', Ext [] Z O H Z' O' H' → Good Z' O' H' → Wlk K J rs Z' O' H' [L] → R J H') → w σ H R
section
variable {K : PySem.W.Frag} {E : XK}
theorem srcS_d {p : Px} : IOd K E (iSeq K (tP K E p)) (srcS p) := fun L σ H R q => by
  obtain ⟨Z, O, ρ, F, rl, ⟨oL, hL⟩, q⟩ := q
  refine ⟨Z, O, ρ, F, rl, ?_⟩
  unfold srcS at q
  cases e : p ρ with
  | bad => rw [e] at q; exact q.elim
  | exc c fs => rw [e] at q; exact q
  | ok r =>
    rw [e] at q
    have q2 : match (if r.s = .view then (.bad : Res (List Oz.R)) else srcR r) with
      | .bad => False
      | .exc c fs => ExcK K E Z O H c fs
      | .ok rs => ∀ J H' Z' O', Ext [] Z O H Z' O' H' → Good Z' O' H' → Wlk K J rs Z' O' H' [L] → R J H' := q
    by_cases c : r.s = .view
    · rw [if_pos c] at q2; exact q2.elim
    · rw [if_neg c] at q2
      intro v H1 Z1 O1 G x g w nd fr
      cases e2 : srcR r with
      | bad => rw [e2] at q2; exact q2.elim
      | exc c fs => unfold srcR at e2; cases e3 : itemsD r.d <;> rw [e3] at e2 <;> cases e2
      | ok rs =>
        rw [e2] at q2
        obtain ⟨ds, e3, rfl⟩ := srcR_some e2
        refine seq_walk (F := [L]) g w e3 (fun a ha z => ?_) (fun z => absurd z c) fun J wl => q2 J H1 Z1 O1 x g wl
        rw [List.mem_singleton.mp z] at ha
        rw [(fr L ha).1.elim id fun z => by cases z] at hL
        cases hL
end
def comp2E (vs1 : List Nat) (g : Tgx) (t : Tx) (src1 : Src) (g1 : Tgx) (t1 : Tx) (p : Px) (ρ0 : Ev) : List R → Option (List R)
  | [] => some []
  | r :: rs => (match g r ρ0 with
    | none => none
    | some ρ1 => if nov ρ1 = true then (match t ρ1 with
      | .ok b => if b = true then (match src1 ρ1 with
        | .ok rs1 => (match compE g1 t1 p (wipeE ρ1 vs1) rs1 with
          | some ys => (match comp2E vs1 g t src1 g1 t1 p ρ0 rs with
            | some zs => some (ys ++ zs)
            | none => none)
          | none => none)
        | _ => none) else comp2E vs1 g t src1 g1 t1 p ρ0 rs
      | _ => none) else none)
def pComp2 (vs : List Nat) (src : Src) (g : Tgx) (t : Tx) (vs1 : List Nat) (src1 : Src) (g1 : Tgx) (t1 : Tx) (p : Px) : Px := fun ρ => if nov ρ = true then (src ρ).bind fun rs => match comp2E vs1 g t src1 g1 t1 p (wipeE ρ vs) rs with
  | some ys => compR ys
  | none => .bad else .bad
theorem wipe_wipe {σ : St} {vs : List Nat} : L2.wipe (L2.wipe σ vs) vs = L2.wipe σ vs := by
  apply List.ext_getElem?
  intro j
  by_cases hj : j ∈ vs
  · by_cases hl : j < σ.length
    · rw [wipe_in hj hl, wipe_in hj (by rw [wipe_length]; exact hl)]
    · rw [List.getElem?_eq_none (by rw [wipe_length, wipe_length]; omega), List.getElem?_eq_none (by rw [wipe_length]; omega)]
  · rw [wipe_out hj]
section
variable {K : PySem.W.Frag} {E : XK}
end
end Oz

/-! Oz54: rules for two fors; l.extend(m); max, min of a list of ints; a < b < c of ints; what is never reached. -/
namespace Oz
open PySem PySem.Spec L2
open PyProof.Rows hiding St
variable [WD]
/-! ### two fors -/
section
variable {X : Cx} {E : XK} {elt tg iter tg1 iter1 : Expr} {ifs ifs1 : List Expr} {scope : Scope} {own : List (Str × Nat)} {vs1 : List Nat} {pos : Pos} {is is1 : List Nat} {w w1 : TI} {src src1 : Src} {t t1 : TG} {g g1 : Tgx} {tt tt1 : Tx} {p : Px}
end
@[simp] theorem x_comp2 {vs vs1 : List Nat} {src src1 : Src} {g g1 : Tgx} {t t1 : Tx} {p : Px} {ρ : Ev} : pComp2 vs src g t vs1 src1 g1 t1 p ρ = (if nov ρ = true then (src ρ).bind fun rs => match comp2E vs1 g t src1 g1 t1 p (wipeE ρ vs) rs with | some ys => compR ys | none => .bad else .bad) := id rfl
/-! ### l.extend(m) -/
def sExt (l : Plx) (p : Px) : Stx := fun ρ => match l ρ with
  | .bad => .bad
  | .exc c fs => .exc c fs ρ
  | .ok l => (match l.d with
    | .list ds => (match p ρ with
      | .bad => .bad
      | .exc c fs => .exc c fs ρ
      | .ok r => (match r.d with
        | .list es => if lfs es = true ∧ ds.length + es.length ≤ sizeLine then putE l (.list (ds ++ es)) ρ else .bad
        | _ => .bad))
    | _ => .bad)
section
variable {X : Cx} {E : XK} {a b : Expr} {l : Plx} {p : Px} {pos apos cpos : Pos}
end
@[simp] theorem x_ext {l : Plx} {p : Px} {ρ : Ev} : sExt l p ρ = (match l ρ with
  | .bad => .bad
  | .exc c fs => .exc c fs ρ
  | .ok l => (match l.d with
    | .list ds => (match p ρ with
      | .bad => .bad
      | .exc c fs => .exc c fs ρ
      | .ok r => (match r.d with
        | .list es => if lfs es = true ∧ ds.length + es.length ≤ sizeLine then putE l (.list (ds ++ es)) ρ else .bad
        | _ => .bad))
    | _ => .bad)) := id rfl
/-! ### max(l), min(l) -/
section
variable {K : PySem.W.Frag}
end
/-! ### p < q < c, of ints -/
def pChI (f f' : Int → Int → Bool) (p q c : Px) : Px := fun ρ => (p ρ).bind fun a => (q ρ).bind fun b => match a.d, b.d with
  | .int i, .int j => if f i j = true then (c ρ).bind fun e => (match e.d with
    | .int k => .ok ⟨.imm, .bool (f' j k)⟩
    | _ => .bad) else .ok ⟨.imm, .bool false⟩
  | _, _ => .bad
section
variable {X : Cx} {E : XK} {a b c : Expr} {p q r : Px} {pos : Pos} {op op' : CmpOp} {f f' : Int → Int → Bool}
theorem chI_ok {K : PySem.W.Frag} {σ : St} {H : Hp} {Q : VK} (h : tP K E (pChI f f' p q r) σ H Q) : tChain (rI0 fun i j => .bl (f i j)) (rI0 fun i j => .bl (f' i j)) (tP K E p) (tP K E q) (tP K E r) σ H Q := by
  refine tP_bind (k := fun a ρ => (q ρ).bind fun b => match a.d, b.d with
    | .int i, .int j => if f i j = true then (r ρ).bind fun e => (match e.d with
      | .int k => .ok ⟨.imm, .bool (f' j k)⟩
      | _ => .bad) else .ok ⟨.imm, .bool false⟩
    | _, _ => .bad) h fun Z O H1 Z1 O1 ρ F G v a rl x1 r1 q1 nd fr h2 => ?_
  refine ⟨Z1, O1, ρ, F, r1, ?_⟩
  have lk := q1.look r1.g
  cases e : q ρ with
  | bad => rw [e] at h2; exact h2.elim
  | exc c fs => rw [e] at h2; exact ExcK.ext h2 x1
  | ok b =>
    rw [e] at h2
    simp only [Res.bind_ok] at h2
    intro w H2 Z2 O2 G2 x2 g2 q2 nd2 fr2
    have lk2 := q2.look g2
    obtain ⟨s, d⟩ := a
    obtain ⟨s2, d2⟩ := b
    cases d with
    | int i => cases d2 with
      | int j =>
        cases lk
        cases lk2
        refine ⟨i, j, rfl, rfl, f i j, rfl, ?_⟩
        have h3 : ResK K E [] Z O H (if f i j = true then (r ρ).bind fun e => (match e.d with
            | .int k => .ok ⟨.imm, .bool (f' j k)⟩
            | _ => .bad) else .ok ⟨.imm, .bool false⟩) Q := h2
        cases cf : f i j with
        | true =>
          rw [cf] at h3
          rw [if_pos rfl] at h3 ⊢
          have r2 := r1.ext x2 g2
          refine ⟨Z2, O2, ρ, F, r2, ?_⟩
          cases e3 : r ρ with
          | bad => rw [e3] at h3; exact h3.elim
          | exc c fs => rw [e3] at h3; exact ExcK.ext h3 (x1.trans0 x2)
          | ok c =>
            rw [e3] at h3
            intro u H3 Z3 O3 G3 x3 g3 q3 nd3 fr3
            have lk3 := q3.look g3
            obtain ⟨s3, d3⟩ := c
            cases d3 with
            | int k =>
              cases lk3
              have h4 : OkK K [] Z O H ⟨.imm, .bool (f' j k)⟩ Q := h3
              exact ⟨j, k, rfl, rfl, OkK.imm g3 (OkK.ext h4 ((x1.trans0 x2).trans0 x3) (W := []) (fun a ha => by cases ha)) (.bl _)⟩
            | _ => exact h3.elim
        | false =>
          rw [cf] at h3
          rw [if_neg Bool.false_ne_true] at h3 ⊢
          have h4 : OkK K [] Z O H ⟨.imm, .bool false⟩ Q := h3
          exact OkK.imm g2 (OkK.ext h4 (x1.trans0 x2) (W := []) (fun a ha => by cases ha)) (.bl _)
      | _ => exact h2.elim
    | _ => exact h2.elim
theorem s_chI (ho : OpR X (compareOp op) (rI0 fun i j => .bl (f i j))) (ho' : OpR X (compareOp op') (rI0 fun i j => .bl (f' i j))) (ha : PE X a (tP X.K E p)) (hb : PE X b (tP X.K E q)) (hc : PE X c (tP X.K E r)) (hm : lastMarks [op, op'] [b, c] = false := by with_unfolding_all rfl) :
    PE X (.Compare a [op, op'] [b, c] pos) (tP X.K E (pChI f f' p q r)) := (pe_chain ho ho' ha hb hc hm).imp fun _ _ _ h => chI_ok h
theorem s_tchI (ho : OpR X (compareOp op) (rI0 fun i j => .bl (f i j))) (ho' : OpR X (compareOp op') (rI0 fun i j => .bl (f' i j))) (ha : PE X a (tP X.K E p)) (hb : PE X b (tP X.K E q)) (hc : PE X c (tP X.K E r)) (hm : lastMarks [op, op'] [b, c] = false := by with_unfolding_all rfl) :
    PT X (.Compare a [op, op'] [b, c] pos) (tT X.K E (tVal (pChI f f' p q r))) := (pt_chain ho ho' ha hb hc hm).imp fun σ H Q h => by
  have h2 := tT_val h
  have h3 := chI_ok h2
  exact h3
end
@[simp] theorem x_chI {f f' : Int → Int → Bool} {p q c : Px} {ρ : Ev} : pChI f f' p q c ρ = ((p ρ).bind fun a => (q ρ).bind fun b => match a.d, b.d with
  | .int i, .int j => if f i j = true then (c ρ).bind fun e => (match e.d with
    | .int k => .ok ⟨.imm, .bool (f' j k)⟩
    | _ => .bad) else .ok ⟨.imm, .bool false⟩
  | _, _ => .bad) := id rfl
/-! ### what is never reached -/
def sBad : Stx := fun _ => .bad
@[simp] theorem x_sBad {ρ : Ev} : sBad ρ = .bad := id rfl
end Oz

/-! Oz55: sorted(l, key=f) of a list. -/
namespace Oz
open PySem PySem.Spec L2 PySem.Calls PySem.W
open PyProof.Rows hiding St
variable [WD]
noncomputable section
section
variable {X : Cx} {pins : List (Addr × Obj)} {σ : St} {Z O H : Hp} {s : Shared} {k : Nat} {f B : Addr} {fd : FuncData} {ps : List Str} {fn : Fn} {n : Nat} {vs : List Value} {es : List D}
end
end
noncomputable def pSortKL (p : Px) (fn : Fn) : Px := fun ρ => (p ρ).bind fun r => match r.d with
  | .list es => if okSortK fn es = true then .ok ⟨.own, .list (sortKD fn es)⟩ else .bad
  | _ => .bad
section
variable {X : Cx} {E : XK} {k k' : Nat} {fn : Fn} {ps : List Str} {y : Str} {p0 p2 pos kpos : Pos} {e : Expr} {p : Px}
end
@[simp] theorem x_sortKL {p : Px} {fn : Fn} {ρ : Ev} : pSortKL p fn ρ = ((p ρ).bind fun r => match r.d with
  | .list es => if okSortK fn es = true then .ok ⟨.own, .list (sortKD fn es)⟩ else .bad
  | _ => .bad) := id rfl
end Oz

/-! Oz56: min(l) of a list of alike frozen data. -/
namespace Oz
open PySem PySem.Spec L2 PySem.Calls PySem.W
open PyProof.Rows hiding St
variable [WD]
noncomputable section
section
variable {prog : Program} {w : World} {A : Around} {E : Value → Shared → Prop} {s : Shared}
end
def nonN : D → Bool
  | .none => false
  | _ => true
def okMin (ds : List D) : Bool := lfs ds && (ds.all (fun d => ds.all fun e => PySem.W.alike d e) && (ds.all nonN && ds.all (fun d => decide (d.depth ≤ 60))))
structure OkMin (ds : List D) : Prop where
  lf : lfs ds = true
  al : PySem.W.AlikeAll ds
  dp : PyData.depthAll ds ≤ 60
def bMin : List R → Res R
  | [r] => (match r.d with
    | .list (d :: ds) => if okMin (d :: ds) = true then .ok ⟨.imm, PySem.W.minD d ds⟩ else .bad
    | _ => .bad)
  | _ => .bad
@[simp] theorem x_minD {s : Sx} {d : D} {ds : List D} : bMin [⟨s, .list (d :: ds)⟩] = if okMin (d :: ds) = true then .ok ⟨.imm, PySem.W.minD d ds⟩ else .bad := id rfl
end
end Oz

/-! Oz57: dicts {int: True}: comprehensions with one for and with two, in, sorted. -/
namespace Oz
open PySem PySem.Spec L2 PySem.Calls PySem.W
open PyProof.Rows hiding St
variable [WD]
noncomputable section
/-! ### a dict of ints as data -/
def dI (ns : List Int) : D := .dict (ns.map fun n => (.int n, .bool true))
def addK (ns : List Int) (n : Int) : List Int := if n ∈ ns then ns else ns ++ [n]
def dKv (ns : List Int) : List (Key × V) := ns.map fun n => (.inl n, .bl true)
theorem dKv_put (ns : List Int) (n : Int) : putK (dKv ns) (.inl n) (.bl true) = dKv (addK ns n) := by
  have ha : ((dKv ns).any fun kv => decide (kv.1 = .inl n)) = decide (n ∈ ns) := by
    unfold dKv
    rw [List.any_map, Bool.eq_iff_iff]
    simp
  unfold putK
  rw [ha]
  by_cases c : n ∈ ns
  · rw [decide_eq_true c, if_pos rfl]
    unfold addK
    rw [if_pos c]
    unfold dKv
    rw [List.map_map]
    refine List.map_congr_left fun m _ => ?_
    by_cases e : m = n <;> simp [e]
  · rw [decide_eq_false c, if_neg Bool.false_ne_true]
    unfold addK
    rw [if_neg c]
    simp [dKv]
theorem addK_len {ns : List Int} {n : Int} : (addK ns n).length ≤ ns.length + 1 := by
  unfold addK
  split <;> simp
/-! ### two fors -/
section
variable {prog : Program} {w : World} {A : Around} {R : Result → Shared → Prop} {s : Shared} {kx vx t0 i0 t1 i1 : Expr} {ifs0 ifs1 : List Expr} {scope : Scope} {pos : Pos} {it : Value} {D : Addr} {env : Env}
theorem dturn_out : compTurn (.DictComp kx vx [⟨t0, i0, ifs0, 0⟩, ⟨t1, i1, ifs1, 0⟩] scope pos) 0 it (.ref D) env = (do
      standAt i0.pos
      match ← pyNext it with
      | none => pure (.done .next)
      | some v =>
        letOwnedTupleGo t0 it v
        assign t0 env v
        let mut ok := true
        for c in ifs0 do
          if ok then ok ← isTrue c env (eval c env)
        if ok then
          let x ← eval i1 env
          standAt i1.pos
          let x ← foldedSetIterable i1 env x
          let _ ← runOwn (.compStart (.DictComp kx vx [⟨t0, i0, ifs0, 0⟩, ⟨t1, i1, ifs1, 0⟩] scope pos) 1 (← holding [x] (pyIter x)) (.ref D) env) env
        again (.compLoop (.DictComp kx vx [⟨t0, i0, ifs0, 0⟩, ⟨t1, i1, ifs1, 0⟩] scope pos) 0 it (.ref D) env)) := by rfl
theorem dturn_in : compTurn (.DictComp kx vx [⟨t0, i0, ifs0, 0⟩, ⟨t1, i1, ifs1, 0⟩] scope pos) 1 it (.ref D) env = (do
      standAt i1.pos
      match ← pyNext it with
      | none => pure (.done .next)
      | some v =>
        letOwnedTupleGo t1 it v
        assign t1 env v
        let mut ok := true
        for c in ifs1 do
          if ok then ok ← isTrue c env (eval c env)
        if ok then
          (do
            let kv ← eval kx env
            let vv ← holding [kv] (eval vx env)
            standAt { kx.pos with endLine := vx.pos.endLine, endCol := vx.pos.endCol }
            holding [kv, vv] (dictSet D kv vv))
        again (.compLoop (.DictComp kx vx [⟨t0, i0, ifs0, 0⟩, ⟨t1, i1, ifs1, 0⟩] scope pos) 1 it (.ref D) env)) := by rfl
/-- the outer walk -/
theorem dloop_out (hs : ∀ x, foldedSetIterable i1 env x = pure x) (I : Nat → Shared → Prop)
    (turn : ∀ n s, I n s → wpAny (model prog w) A (pyNext it) (fun r s₁ => match r with
      | none => R (.ok .next) s₁
      | some v => wpAny (model prog w) A (letOwnedTupleGo t0 it v) (fun _ s₁' => wpAny (model prog w) A (assign t0 env v) (fun _ s₂ =>
          wpAny (model prog w) A (forIn ifs0 true fun c r => if r = true then do let ok ← isTrue c env (eval c env); pure (ForInStep.yield ok) else pure (ForInStep.yield r)) (fun ok s₃ =>
            if ok = true then wpAny (model prog w) A (eval i1 env) (fun x s₄ => wpAny (model prog w) A (pyIter x) (fun it1 s₅ =>
              codeAny (model prog w) A (.compStart (.DictComp kx vx [⟨t0, i0, ifs0, 0⟩, ⟨t1, i1, ifs1, 0⟩] scope pos) 1 it1 (.ref D) env) (fun r s' => match r with
                | .ok _ => ∃ m, m < n ∧ I m s'
                | .error _ => False) s₅) (notedBy (model prog w) A env fun e s' => R (.error e) s') s₄) (notedBy (model prog w) A env fun e s' => R (.error e) s') s₃
            else ∃ m, m < n ∧ I m s₃) (notedBy (model prog w) A env fun e s' => R (.error e) s') s₂) (notedBy (model prog w) A env fun e s' => R (.error e) s') s₁') (notedBy (model prog w) A env fun e s' => R (.error e) s') s₁) (notedBy (model prog w) A env fun e s' => R (.error e) s') s)
    (n : Nat) (h : I n s) :
    codeAny (model prog w) A (.compLoop (.DictComp kx vx [⟨t0, i0, ifs0, 0⟩, ⟨t1, i1, ifs1, 0⟩] scope pos) 0 it (.ref D) env) R s := by
  refine codeAny_loop rfl I (fun n s hI => ?_) n h
  show wpAny _ A ((compTurn (.DictComp kx vx [⟨t0, i0, ifs0, 0⟩, ⟨t1, i1, ifs1, 0⟩] scope pos) 0 it (.ref D) env).onRaise (fun x => do noteFrame x env; theTreesLotGoes x)) _ _ s
  refine wpAny_noted ?_
  rw [dturn_out]
  refine wpAny_bind (wpAny_standAt (wpAny_bind (wpAny_mono (turn n s hI) (fun r s₁ h₁ => ?_) fun _ _ h' => h')))
  cases r with
  | none => exact wpAny_pure h₁
  | some v =>
    refine wpAny_bind (wpAny_mono h₁ (fun _ s₁' h₁' => ?_) fun _ _ h' => h')
    refine wpAny_bind (wpAny_mono h₁' (fun _ s₂ h₂ => wpAny_bind (wpAny_mono h₂ (fun ok s₃ h₃ => ?_) fun _ _ h' => h')) fun _ _ h' => h')
    cases ok with
    | false => exact wpAny_pure ⟨rfl, h₃⟩
    | true =>
      refine wpAny_bind (wpAny_mono h₃ (fun x s₄ h₄ => ?_) fun _ _ h' => h')
      refine wpAny_bind (wpAny_standAt (wpAny_bind (wpAny_of_eq (hs x) (wpAny_bind (wpAny_holding (wpAny_mono h₄ (fun it1 s₅ h₅ => ?_) fun _ _ h' => h'))))))
      refine wpAny_bind (wpAny_runOwn ?_)
      rw [Around.mark_none]
      refine codeAny_mono h₅ fun r s' hr => ?_
      cases r with
      | ok f =>
        first
          | exact wpAny_pure ⟨rfl, hr⟩
          | exact wpAny_bind (wpAny_pure (wpAny_pure ⟨rfl, hr⟩))
      | error e => exact hr.elim
/-- the inner walk -/
theorem dloop_in (I : Nat → Shared → Prop)
    (turn : ∀ n s, I n s → wpAny (model prog w) A (pyNext it) (fun r s₁ => match r with
      | none => R (.ok .next) s₁
      | some v => wpAny (model prog w) A (letOwnedTupleGo t1 it v) (fun _ s₁' => wpAny (model prog w) A (assign t1 env v) (fun _ s₂ =>
          wpAny (model prog w) A (forIn ifs1 true fun c r => if r = true then do let ok ← isTrue c env (eval c env); pure (ForInStep.yield ok) else pure (ForInStep.yield r)) (fun ok s₃ =>
            if ok = true then wpAny (model prog w) A (eval kx env) (fun kv s₄ => wpAny (model prog w) A (eval vx env) (fun vv s₅ =>
              wpAny (model prog w) A (dictSet D kv vv) (fun _ s₆ => ∃ m, m < n ∧ I m s₆) (notedBy (model prog w) A env fun e s' => R (.error e) s') s₅) (notedBy (model prog w) A env fun e s' => R (.error e) s') s₄) (notedBy (model prog w) A env fun e s' => R (.error e) s') s₃
            else ∃ m, m < n ∧ I m s₃) (notedBy (model prog w) A env fun e s' => R (.error e) s') s₂) (notedBy (model prog w) A env fun e s' => R (.error e) s') s₁') (notedBy (model prog w) A env fun e s' => R (.error e) s') s₁) (notedBy (model prog w) A env fun e s' => R (.error e) s') s)
    (n : Nat) (h : I n s) :
    codeAny (model prog w) A (.compLoop (.DictComp kx vx [⟨t0, i0, ifs0, 0⟩, ⟨t1, i1, ifs1, 0⟩] scope pos) 1 it (.ref D) env) R s := by
  refine codeAny_loop rfl I (fun n s hI => ?_) n h
  show wpAny _ A ((compTurn (.DictComp kx vx [⟨t0, i0, ifs0, 0⟩, ⟨t1, i1, ifs1, 0⟩] scope pos) 1 it (.ref D) env).onRaise (fun x => do noteFrame x env; theTreesLotGoes x)) _ _ s
  refine wpAny_noted ?_
  rw [dturn_in]
  refine wpAny_bind (wpAny_standAt (wpAny_bind (wpAny_mono (turn n s hI) (fun r s₁ h₁ => ?_) fun _ _ h' => h')))
  cases r with
  | none => exact wpAny_pure h₁
  | some v =>
    refine wpAny_bind (wpAny_mono h₁ (fun _ s₁' h₁' => ?_) fun _ _ h' => h')
    refine wpAny_bind (wpAny_mono h₁' (fun _ s₂ h₂ => wpAny_bind (wpAny_mono h₂ (fun ok s₃ h₃ => ?_) fun _ _ h' => h')) fun _ _ h' => h')
    cases ok with
    | false => exact wpAny_pure ⟨rfl, h₃⟩
    | true =>
      exact wpAny_bind (wpAny_bind (wpAny_mono h₃ (fun kv s₄ h₄ => wpAny_bind (wpAny_holding (wpAny_mono h₄ (fun vv s₅ h₅ => wpAny_bind (wpAny_standAt (wpAny_holding (wpAny_mono h₅ (fun _ s₆ h₆ => wpAny_pure ⟨rfl, h₆⟩) fun _ _ h' => h')))) fun _ _ h' => h'))) fun _ _ h' => h'))
/-- the inner walk begins -/
theorem dstart1 (h0 : codeAny (model prog w) A (.compLoop (.DictComp kx vx [⟨t0, i0, ifs0, 0⟩, ⟨t1, i1, ifs1, 0⟩] scope pos) 1 it (.ref D) env) R s)
    (h : wpAny (model prog w) A (pyIter it) (fun it' s' => codeAny (model prog w) A (.compLoop (.DictComp kx vx [⟨t0, i0, ifs0, 0⟩, ⟨t1, i1, ifs1, 0⟩] scope pos) 1 it' (.ref D) env) R s')
      (notedBy (model prog w) A env fun x s' => R (.error x) s') s) :
    codeAny (model prog w) A (.compStart (.DictComp kx vx [⟨t0, i0, ifs0, 0⟩, ⟨t1, i1, ifs1, 0⟩] scope pos) 1 it (.ref D) env) R s := by
  refine codeAny_of_tree ?_
  show wpAny _ _ ((compStart (.DictComp kx vx [⟨t0, i0, ifs0, 0⟩, ⟨t1, i1, ifs1, 0⟩] scope pos) 1 it (.ref D) env).onRaise (fun x => do noteFrame x env; standAt theWindowsPlace)) _ _ s
  refine wpAny_notedAt ?_
  unfold compStart
  show wpAny _ _ (ask >>= _) _ _ s
  refine wpAny_bind (wpAny_askSetting (wpAny_ite ?_))
  split
  · first
      | exact wpAny_bind (wpAny_pure (wpAny_pure (And.intro rfl h0)))
      | exact wpAny_pure (And.intro rfl h0)
  · first
      | exact wpAny_bind (wpAny_rule (wpAny_bind (wpAny_standAt (wpAny_bind (wpAny_mono h (fun it' s' h' => wpAny_pure (And.intro rfl h')) fun _ _ x => x)))))
      | (refine wpAny_bind (wpAny_rule ?_); show wpAny _ _ (standAt i1.pos >>= _) _ _ s; exact wpAny_bind (wpAny_standAt (wpAny_bind (wpAny_mono h (fun it' s' h' => wpAny_pure (And.intro rfl h')) fun _ _ x => x))))
end
section
variable {X : Cx}
/-- {k: v for tg in iter if .. for tg1 in iter1 if ..} -/
def tDc2 (wi : TI) (g : TG) (tt : TT) (wi1 : TI) (g1 : TG) (tt1 : TT) (tk tv : TE) (vs vs1 : List Nat) : TE := fun σ H Q => wi σ H fun J H1 => ∀ D, H1 D = none → ∃ W : Nat → Nat → Hp → Prop, (∃ m, W 0 m (upd H1 D (.dK []))) ∧ ∀ i m H, W i m H →
  (J.stop i H ∧ Q (.ref D) H) ∨ (J.go i H ∧ ∃ Nx : Hp → Prop, (∀ H', Nx H' → ∃ m', m' < m ∧ W (i + 1) m' H') ∧ ∀ x H', J.yld i H x H' → g x (wipe σ vs) H' fun σ2 H2 => wipe σ2 vs = wipe σ vs ∧ tt σ2 H2 fun b H3 =>
    if b = true then wi1 σ2 H3 fun J1 H4 => ∃ W1 : Nat → Nat → Hp → Prop, (∃ m, W1 0 m H4) ∧ ∀ j k H, W1 j k H →
      (J1.stop j H ∧ Nx H) ∨ (J1.go j H ∧ ∃ Nx1 : Hp → Prop, (∀ H', Nx1 H' → ∃ k', k' < k ∧ W1 (j + 1) k' H') ∧ ∀ x H', J1.yld j H x H' → g1 x (wipe σ2 vs1) H' fun σ3 H5 => wipe σ3 vs1 = wipe σ2 vs1 ∧ tt1 σ3 H5 fun b H6 =>
        if b = true then tk σ3 H6 fun y H7 => tv σ3 H7 fun z H8 => ∃ kvs k, y = kV k ∧ H8 D = some (.dK kvs) ∧ kvs.length < sizeLine ∧ Nx1 (upd H8 D (.dK (putK kvs k z))) else Nx1 H6)
    else Nx H3)
theorem dc2_core {pins : List (Addr × Obj)} {s : Shared} {σ : St} {H : Hp} {Q : VK} {kx vx tg iter tg1 iter1 : Expr} {ifs ifs1 : List Expr} {scope : Scope} {own : List (Str × Nat)} {vs1 : List Nat} {pos pos' : Pos} {wi wi1 : TI} {g g1 : TG} {tt tt1 : TT} {tk tv : TE} {use : Option (Value → Sem Unit)} {Qf : Value → Shared → Prop}
    (hc : X.calm = true) (hN : X.N.Nodup) (I : Inv X pins σ H s) (hi : PI X tg iter wi) (ok : BlkOk X.N X.env.scope scope own) (hv : ∀ i ∈ vs1, i ∈ own.map (·.2))
    (hg : ∀ (s : Shared) (H : Hp) (C : Addr) (cl : List (Str × Addr)) (fp : List Addr), PG (X.blk s H scope (compEnvC scope cl C X.env) fp) tg g) (ht : ∀ (s : Shared) (H : Hp) (C : Addr) (cl : List (Str × Addr)) (fp : List Addr), PTs (X.blk s H scope (compEnvC scope cl C X.env) fp) ifs tt)
    (hk : ∀ (s : Shared) (H : Hp) (C : Addr) (cl : List (Str × Addr)) (fp : List Addr), PE (X.blk s H scope (compEnvC scope cl C X.env) fp) kx tk)
    (he : ∀ (s : Shared) (H : Hp) (C : Addr) (cl : List (Str × Addr)) (fp : List Addr), PE (X.blk s H scope (compEnvC scope cl C X.env) fp) vx tv) (hs : ∀ x, foldedSetIterable iter X.env x = pure x)
    (hi1 : ∀ (s : Shared) (H : Hp) (C : Addr) (cl : List (Str × Addr)) (fp : List Addr), PI (X.blk s H scope (compEnvC scope cl C X.env) fp) tg1 iter1 wi1)
    (hg1 : ∀ (s : Shared) (H : Hp) (C : Addr) (cl : List (Str × Addr)) (fp : List Addr), PG (X.blk s H scope (compEnvC scope cl C X.env) fp) tg1 g1)
    (ht1 : ∀ (s : Shared) (H : Hp) (C : Addr) (cl : List (Str × Addr)) (fp : List Addr), PTs (X.blk s H scope (compEnvC scope cl C X.env) fp) ifs1 tt1)
    (hs1 : ∀ env x, foldedSetIterable iter1 env x = pure x)
    (h : tDc2 wi g tt wi1 g1 tt1 tk tv (own.map (·.2)) vs1 σ H Q)
    (hRR : ∀ D C s' m H', Inv X pins σ H' s' → Q (.ref D) H' → s'.heap.Ns C m → FpOk X pins H' C → compPost (model X.prog X.w) X.A X.xe use Qf (.ref D) C (.ok .next) s') :
    wpAny (model X.prog X.w) X.A (comprehension (.DictComp kx vx [⟨tg, iter, ifs, 0⟩, ⟨tg1, iter1, ifs1, 0⟩] scope pos) scope X.env pos' newDict false (eval iter X.env) use) Qf X.xe s := by
  have hfree : ∀ y ∈ scope.names, y.2 = .free → ∃ c, X.env.cells.lookup y.1 = some c := fun y hy e => by
    rcases ok.free y hy e with k | k
    · exact I.ok.has _ (.inl k)
    · exact I.ok.has _ (.inr k)
  refine wpAny_comprehension_free (use := use) rfl hs (closure_ok hfree) ok.kind (fun y hy e => by rw [ok.uniq y hy, e])
    (thn (hi.run pins s σ H _ I h) fun xv s1 hx => thn hx fun itv s2 h2 => ?_)
  obtain ⟨it, fp, tn, J, H2, e, I2, T, st2, f2, q⟩ := h2
  subst e
  refine wpAny_newObj_type (newEnv_comp ?_)
  generalize hD : s2.heap.objs.size = D
  have hDn : H2 D = none := I2.hok.fresh (Nat.le_of_eq hD)
  obtain ⟨W, ⟨m0, w0⟩, turn⟩ := q D hDn
  -- the new list
  generalize hs3 : ({ s2 with heap := s2.heap.push { cls := .type "dict", data := .dict #[] } } : Shared) = s3
  have I3 : Inv X pins σ (upd H2 D (.dK [])) s3 := by
    rw [← hs3]
    refine I2.laid (t' := s2.toks) (fun b o e => Heap.get?_push_of_some _ e) (Nat.le_of_eq hD) ?_
    rw [← hD]
    exact dk_empty s2.heap I2.big
  have h3 : s3.heap = s2.heap.push { cls := .type "dict", data := .dict #[] } := by rw [← hs3]
  have sz : ∀ b ∈ fp, b < s2.heap.objs.size := fun b hb => by
    obtain ⟨o, e, _⟩ := T.obj _ _ st2 b hb
    exact Heap.lt_size e
  have f3 : ∀ b ∈ fp, FpOk X pins (upd H2 D (.dK [])) b ∧ b < s3.heap.objs.size := fun b hb => by
    have hlt := sz b hb
    refine ⟨⟨?_, (f2 b hb).2⟩, by rw [h3, Heap.size_push]; exact Nat.lt_succ_of_lt hlt⟩
    rw [upd_ne (by rw [← hD]; exact Nat.ne_of_lt hlt)]
    exact (f2 b hb).1
  have st3 : tn 0 s3.heap := T.keep _ _ _ st2 fun b _ o e => by rw [h3]; exact Heap.get?_push_of_some _ e
  have I4 := block_start I3 ok hN f3
  have pg := hg s3 (upd H2 D (.dK [])) s3.heap.objs.size (cellsFrom (s3.heap.objs.size + 1) scope.names (cloFrom X.env.cells scope.names [])) fp
  have pt := ht s3 (upd H2 D (.dK [])) s3.heap.objs.size (cellsFrom (s3.heap.objs.size + 1) scope.names (cloFrom X.env.cells scope.names [])) fp
  have pk := hk s3 (upd H2 D (.dK [])) s3.heap.objs.size (cellsFrom (s3.heap.objs.size + 1) scope.names (cloFrom X.env.cells scope.names [])) fp
  have pe := he s3 (upd H2 D (.dK [])) s3.heap.objs.size (cellsFrom (s3.heap.objs.size + 1) scope.names (cloFrom X.env.cells scope.names [])) fp
  have pi1 := hi1 s3 (upd H2 D (.dK [])) s3.heap.objs.size (cellsFrom (s3.heap.objs.size + 1) scope.names (cloFrom X.env.cells scope.names [])) fp
  have pg1 := hg1 s3 (upd H2 D (.dK [])) s3.heap.objs.size (cellsFrom (s3.heap.objs.size + 1) scope.names (cloFrom X.env.cells scope.names [])) fp
  have pt1 := ht1 s3 (upd H2 D (.dK [])) s3.heap.objs.size (cellsFrom (s3.heap.objs.size + 1) scope.names (cloFrom X.env.cells scope.names [])) fp
  show codeAny _ _ (.compStart (.DictComp kx vx [⟨tg, iter, ifs, 0⟩, ⟨tg1, iter1, ifs1, 0⟩] scope pos) 0 (.ref it) (.ref D) (compEnvC scope (cellsFrom (s3.heap.objs.size + 1) scope.names (cloFrom X.env.cells scope.names [])) s3.heap.objs.size X.env)) (compPost (model X.prog X.w) X.A X.xe use Qf (.ref D) s3.heap.objs.size) { s3 with heap := pushCells (s3.heap.push { cls := .type "dict", data := .dict #[] }) scope.names }
  have nfp : ∀ b ∈ fp, (upd H2 D (.dK [])) b = none := fun b hb => (f3 b hb).1.1
  generalize hce : compEnvC scope (cellsFrom (s3.heap.objs.size + 1) scope.names (cloFrom X.env.cells scope.names [])) s3.heap.objs.size X.env = ce at I4 pg pt pk pe pi1 pg1 pt1 ⊢
  have cL : ce.locals = s3.heap.objs.size := by subst hce; rfl
  generalize hH3 : upd H2 D (.dK []) = H3 at I3 I4 pg pt pk pe pi1 pg1 pt1 w0 nfp f3
  generalize hs4 : ({ s3 with heap := pushCells (s3.heap.push { cls := .type "dict", data := .dict #[] }) scope.names } : Shared) = s4 at I4 ⊢
  have st4 : tn 0 s4.heap := T.keep _ _ _ st3 fun b _ o e => by rw [← hs4]; exact pushCells_keeps _ _ _ _ (Heap.get?_push_of_some _ e)
  have stat : ∀ {σ' : St} {H' : Hp} {s' : Shared}, Inv (X.blk s3 H3 scope ce fp) [] σ' H' s' → (∀ b ∈ fp, H' b = none) → ∀ b ∈ fp, FpOk (X.blk s3 H3 scope ce fp) [] H' b := fun {σ' H' s'} I' hn b hb =>
    ⟨hn b hb, (I'.ok.exf b hb).1, I'.ok.exfs b hb, .inl hb, fun x c e => (I'.ok.exf b hb).2 x c e, fun p hp => absurd (show p ∈ ([] : List (Addr × Obj)) ++ [] from hp) (by simp)⟩
  have loop : codeAny (model X.prog X.w) X.A (.compLoop (.DictComp kx vx [⟨tg, iter, ifs, 0⟩, ⟨tg1, iter1, ifs1, 0⟩] scope pos) 0 (.ref it) (.ref D) ce) (compPost (model X.prog X.w) X.A X.xe use Qf (.ref D) s3.heap.objs.size) s4 := by
    refine dloop_out (hs1 ce) (fun n s' => ∃ i H', Inv (X.blk s3 H3 scope ce fp) [] (wipe σ (own.map (·.2))) H' s' ∧ tn i s'.heap ∧ (∀ b ∈ fp, H' b = none) ∧ W i n H') ?_ m0 ⟨0, H3, I4, st4, nfp, w0⟩
    rintro n s5 ⟨i, H5, I5, st5, n5, w5⟩
    rcases turn i n H5 w5 with ⟨stop, qq⟩ | ⟨go, Nx, hNx, step⟩
    · have td := T.done (X.blk s3 H3 scope ce fp) rfl rfl rfl hc i [] s5 _ H5 (fun _ _ => False) I5 (stat I5 n5) st5 stop
      refine thnF td fun r s6 ⟨hr, I6⟩ => ?_
      subst hr
      -- back in the def's context
      have I7 : Inv X pins σ H5 s6 := I3.call' (ch := fp) I6.os I6.base I6.hok I6.bare fun b hb => ⟨(f3 b hb).1.2.2.2.1, (f3 b hb).1.2.1, (f3 b hb).1.2.2.2.2.1, (f3 b hb).1.2.2.2.2.2⟩
      have nC : H5 s3.heap.objs.size = none := by
        have z : H5 ce.locals = none := I6.free
        rw [cL] at z
        exact z
      obtain ⟨m, hn, _⟩ := I6.loc
      have hn : s6.heap.Ns ce.locals m := hn
      rw [cL] at hn
      exact hRR D s3.heap.objs.size s6 m H5 I7 qq hn (I3.fpOk (Nat.le_refl _) nC)
    · have ti := T.item (X.blk s3 H3 scope ce fp) rfl rfl rfl hc i [] s5 _ H5 (fun _ _ => False) I5 (stat I5 n5) st5 go
      refine thnF ti fun r s6 ⟨u, hr, h6⟩ => ?_
      subst hr
      refine thnF h6 fun _ s7 ⟨x, H7, I7, r7, y7, st7, n7⟩ => ?_
      have I7' := I7.pinned (stat I7 n7) (T.obj _ _ st7)
      refine thnF (pg.run _ s7 _ H7 x u _ I7' r7 (step x H7 y7)) fun _ s8 ⟨σ8, H8, I8, hw8, q8⟩ => ?_
      refine thnF (pt.run _ s8 σ8 H8 _ I8 q8) fun b s9 ⟨H9, I9, q9⟩ => ?_
      -- the turn's end, from any slots that know what the block knew at its start
      have fin : ∀ {σ9 : St} {s' : Shared} {H' : Hp}, Inv (X.blk s3 H3 scope ce fp) ([] ++ pinsAt fp s7.heap) σ9 H' s' → (wipe σ (own.map (·.2))).length = σ9.length → (∀ (j : Nat) v, (wipe σ (own.map (·.2)))[j]? = some (some v) → σ9[j]? = some (some v)) → Nx H' →
          ∃ m, m < n ∧ ∃ i H', Inv (X.blk s3 H3 scope ce fp) [] (wipe σ (own.map (·.2))) H' s' ∧ tn i s'.heap ∧ (∀ b ∈ fp, H' b = none) ∧ W i m H' := fun {σ9 s' H'} I' hl hk nx => by
        obtain ⟨m', hm, w'⟩ := hNx H' nx
        have pin' : ∀ b ∈ fp, ∀ o, s7.heap.get? b = some o → s'.heap.get? b = some o ∧ H' b = none := fun b hb o e =>
          let z := I'.pin (b, o) (List.mem_append_right _ (List.mem_append_right _ (mem_pinsAt hb e)))
          ⟨z.1, z.2.1⟩
        refine ⟨m', hm, i + 1, H', (I'.unpinned (pins := [])).weak hl hk, T.keep _ _ _ st7 fun b hb o e => (pin' b hb o e).1, fun b hb => ?_, w'⟩
        obtain ⟨o, e, _⟩ := T.obj _ _ st7 b hb
        exact (pin' b hb o e).2
      have hl8 : (wipe σ (own.map (·.2))).length = σ8.length := by rw [← hw8, wipe_length]
      have hk8 : ∀ (j : Nat) v, (wipe σ (own.map (·.2)))[j]? = some (some v) → σ8[j]? = some (some v) := fun j v e => by
        rw [← hw8] at e
        exact (wipe_some e).1
      have hk9 : ∀ (j : Nat) v, (wipe σ (own.map (·.2)))[j]? = some (some v) → (wipe σ8 vs1)[j]? = some (some v) := fun j v e => by
        rw [← hw8] at e
        obtain ⟨e1, e2⟩ := wipe_some e
        rw [wipe_out fun z => e2 (hv j z)]
        exact e1
      cases b with
      | false =>
        simp only [Bool.false_eq_true, if_false] at q9 ⊢
        exact fin I9 hl8 hk8 q9
      | true =>
        simp only [if_true] at q9 ⊢
        refine thnF (pi1.run _ s9 σ8 H9 _ I9 q9) fun xv s10 hx => thnF hx fun itv s11 h11 => ?_
        obtain ⟨it1, fp1, tn1, J1, H11, e1, I11, T1, st11, f11, W1, ⟨m1, w1⟩, turn1⟩ := h11
        subst e1
        -- the inner loop
        have stat1 : ∀ {H' : Hp}, (∀ b ∈ fp1, H' b = none) → ∀ b ∈ fp1, FpOk (X.blk s3 H3 scope ce fp) ([] ++ pinsAt fp s7.heap) H' b := fun hn b hb => ⟨hn b hb, (f11 b hb).2⟩
        have loop1 : codeAny (model X.prog X.w) X.A (.compLoop (.DictComp kx vx [⟨tg, iter, ifs, 0⟩, ⟨tg1, iter1, ifs1, 0⟩] scope pos) 1 (.ref it1) (.ref D) ce)
            (fun r s' => match r with
              | .ok _ => ∃ m, m < n ∧ ∃ i H', Inv (X.blk s3 H3 scope ce fp) [] (wipe σ (own.map (·.2))) H' s' ∧ tn i s'.heap ∧ (∀ b ∈ fp, H' b = none) ∧ W i m H'
              | .error _ => False) s11 := by
          refine dloop_in (fun k s' => ∃ j H', Inv (X.blk s3 H3 scope ce fp) ([] ++ pinsAt fp s7.heap) (wipe σ8 vs1) H' s' ∧ tn1 j s'.heap ∧ (∀ b ∈ fp1, H' b = none) ∧ W1 j k H') ?_ m1 ⟨0, H11, I11.weak (wipe_length _ _) (fun j v e => (wipe_some e).1), st11, fun b hb => (f11 b hb).1, w1⟩
          rintro k s12 ⟨j, H12, I12, st12, n12, w12⟩
          rcases turn1 j k H12 w12 with ⟨stop1, nx1⟩ | ⟨go1, Nx1, hNx1, step1⟩
          · refine thnF (T1.done (X.blk s3 H3 scope ce fp) rfl rfl rfl hc j _ s12 (wipe σ8 vs1) H12 (fun _ _ => False) I12 (stat1 n12) st12 stop1) fun r s13 ⟨hr, I13⟩ => ?_
            subst hr
            exact fin I13 (hl8.trans (wipe_length σ8 vs1).symm) hk9 nx1
          · refine thnF (T1.item (X.blk s3 H3 scope ce fp) rfl rfl rfl hc j _ s12 (wipe σ8 vs1) H12 (fun _ _ => False) I12 (stat1 n12) st12 go1) fun r s13 ⟨u1, hr, h13⟩ => ?_
            subst hr
            refine thnF h13 fun _ s14 ⟨x1, H14, I14, r14, y14, st14, n14⟩ => ?_
            have I14' := I14.pinned (stat1 n14) (T1.obj _ _ st14)
            refine thnF (pg1.run _ s14 (wipe σ8 vs1) H14 x1 u1 _ I14' r14 (step1 x1 H14 y14)) fun _ s15 ⟨σ15, H15, I15, hw15, q15⟩ => ?_
            refine thnF (pt1.run _ s15 σ15 H15 _ I15 q15) fun b1 s16 ⟨H16, I16, q16⟩ => ?_
            have fin1 : ∀ {s' : Shared} {H' : Hp}, Inv (X.blk s3 H3 scope ce fp) (([] ++ pinsAt fp s7.heap) ++ pinsAt fp1 s14.heap) σ15 H' s' → Nx1 H' → ∃ m, m < k ∧ ∃ j H', Inv (X.blk s3 H3 scope ce fp) ([] ++ pinsAt fp s7.heap) (wipe σ8 vs1) H' s' ∧ tn1 j s'.heap ∧ (∀ b ∈ fp1, H' b = none) ∧ W1 j m H' := fun {s' H'} I' nx => by
              obtain ⟨m', hm, w'⟩ := hNx1 H' nx
              have pin' : ∀ b ∈ fp1, ∀ o, s14.heap.get? b = some o → s'.heap.get? b = some o ∧ H' b = none := fun b hb o e =>
                let z := I'.pin (b, o) (List.mem_append_right _ (List.mem_append_right _ (mem_pinsAt hb e)))
                ⟨z.1, z.2.1⟩
              refine ⟨m', hm, j + 1, H', I'.unpinned.weak (by rw [← hw15, wipe_length]) (fun j v e => by rw [← hw15] at e; exact (wipe_some e).1), T1.keep _ _ _ st14 fun b hb o e => (pin' b hb o e).1, fun b hb => ?_, w'⟩
              obtain ⟨o, e, _⟩ := T1.obj _ _ st14 b hb
              exact (pin' b hb o e).2
            cases b1 with
            | false =>
              simp only [Bool.false_eq_true, if_false] at q16 ⊢
              exact fin1 I16 q16
            | true =>
              simp only [if_true] at q16 ⊢
              refine thnF (pk.run _ s16 σ15 H16 _ I16 q16) fun z s17 ⟨yk, H17, I17, r17, q17⟩ => ?_
              refine thnF (pe.run _ s17 σ15 H17 _ I17 q17) fun z2 s18 ⟨yv, H18, I18, r18, kvs, k9, ek, hD18, hz18, nx⟩ => ?_
              subst ek
              exact d_dictSet (X := X.blk s3 H3 scope ce fp) I18 hD18 hz18 r17 r18 fun s19 I19 => fin1 I19 nx
        exact dstart1 loop1 (T1.self X.A 0 _ _ _ st11 loop1)
  exact codeAny_compStart_dict loop (T.self X.A 0 _ _ _ st4 loop)
theorem pe_dc2 {kx vx tg iter tg1 iter1 : Expr} {ifs ifs1 : List Expr} {scope : Scope} {own : List (Str × Nat)} {vs1 : List Nat} {pos : Pos} {wi wi1 : TI} {g g1 : TG} {tt tt1 : TT} {tk tv : TE} (hc : X.calm = true) (hN : X.N.Nodup) (hi : PI X tg iter wi) (ok : BlkOk X.N X.env.scope scope own) (hv : ∀ i ∈ vs1, i ∈ own.map (·.2))
    (hg : ∀ (s : Shared) (H : Hp) (C : Addr) (cl : List (Str × Addr)) (fp : List Addr), PG (X.blk s H scope (compEnvC scope cl C X.env) fp) tg g) (ht : ∀ (s : Shared) (H : Hp) (C : Addr) (cl : List (Str × Addr)) (fp : List Addr), PTs (X.blk s H scope (compEnvC scope cl C X.env) fp) ifs tt)
    (hi1 : ∀ (s : Shared) (H : Hp) (C : Addr) (cl : List (Str × Addr)) (fp : List Addr), PI (X.blk s H scope (compEnvC scope cl C X.env) fp) tg1 iter1 wi1)
    (hg1 : ∀ (s : Shared) (H : Hp) (C : Addr) (cl : List (Str × Addr)) (fp : List Addr), PG (X.blk s H scope (compEnvC scope cl C X.env) fp) tg1 g1) (ht1 : ∀ (s : Shared) (H : Hp) (C : Addr) (cl : List (Str × Addr)) (fp : List Addr), PTs (X.blk s H scope (compEnvC scope cl C X.env) fp) ifs1 tt1)
    (hk : ∀ (s : Shared) (H : Hp) (C : Addr) (cl : List (Str × Addr)) (fp : List Addr), PE (X.blk s H scope (compEnvC scope cl C X.env) fp) kx tk)
    (he : ∀ (s : Shared) (H : Hp) (C : Addr) (cl : List (Str × Addr)) (fp : List Addr), PE (X.blk s H scope (compEnvC scope cl C X.env) fp) vx tv) (hs : ∀ x, foldedSetIterable iter X.env x = pure x := by intro _; rfl) (hs1 : ∀ env x, foldedSetIterable iter1 env x = pure x := by intro _ _; rfl) :
    PE X (.DictComp kx vx [⟨tg, iter, ifs, 0⟩, ⟨tg1, iter1, ifs1, 0⟩] scope pos) (tDc2 wi g tt wi1 g1 tt1 tk tv (own.map (·.2)) vs1) := by
  refine ⟨fun pins s σ H Q I h => ?_⟩
  rw [arm_eval_DictComp]
  refine dc2_core hc hN I hi ok hv hg ht hk he hs hi1 hg1 ht1 hs1 h fun D C s' m H' I' q hn f => ⟨m, hn, fun h'' sb => ?_⟩
  obtain ⟨f0, f1, f2, f3, f4, f5⟩ := f
  exact ⟨.ref D, H', I'.turned (t' := s'.toks) (fun b o hb e => (sb.2 b hb).trans e) f0 f1 f3 f4 f5, rfl, q⟩
end
end
end Oz

/-! Oz58: {k: True for x in xs if t [for y in ys if u]} with int keys, as data. -/
namespace Oz
open PySem PySem.Spec L2 PySem.Calls PySem.W
open PyProof.Rows hiding St
variable [WD]
noncomputable section
def dcE (g : Tgx) (t : Tx) (p : Px) (ρ0 : Ev) : List R → List Int → Option (List Int)
  | [], ns => some ns
  | r :: rs, ns => (match g r ρ0 with
    | none => none
    | some ρ1 => (match t ρ1 with
      | .ok b => if b = true then (match p ρ1 with
        | .ok y => (match y.d with
          | .int n => if ns.length < sizeLine then dcE g t p ρ0 rs (addK ns n) else none
          | _ => none)
        | _ => none) else dcE g t p ρ0 rs ns
      | _ => none))
def pDc (vs : List Nat) (src : Src) (g : Tgx) (t : Tx) (p : Px) : Px := fun ρ => if nov ρ = true then (src ρ).bind fun rs => match dcE g t p (wipeE ρ vs) rs [] with
  | some ns => .ok ⟨.own, dI ns⟩
  | none => .bad else .bad
def dc2E (vs1 : List Nat) (g : Tgx) (t : Tx) (src1 : Src) (g1 : Tgx) (t1 : Tx) (p : Px) (ρ0 : Ev) : List R → List Int → Option (List Int)
  | [], ns => some ns
  | r :: rs, ns => (match g r ρ0 with
    | none => none
    | some ρ1 => if nov ρ1 = true then (match t ρ1 with
      | .ok b => if b = true then (match src1 ρ1 with
        | .ok rs1 => (match dcE g1 t1 p (wipeE ρ1 vs1) rs1 ns with
          | some ms => dc2E vs1 g t src1 g1 t1 p ρ0 rs ms
          | none => none)
        | _ => none) else dc2E vs1 g t src1 g1 t1 p ρ0 rs ns
      | _ => none) else none)
def pDc2 (vs : List Nat) (src : Src) (g : Tgx) (t : Tx) (vs1 : List Nat) (src1 : Src) (g1 : Tgx) (t1 : Tx) (p : Px) : Px := fun ρ => if nov ρ = true then (src ρ).bind fun rs => match dc2E vs1 g t src1 g1 t1 p (wipeE ρ vs) rs [] with
  | some ns => .ok ⟨.own, dI ns⟩
  | none => .bad else .bad
/-- the dict so far -/
structure AccD (Z O H : Hp) (L : Addr) (ns : List Int) : Prop where
  at_ : H L = some (.dK (dKv ns))
  zl : Z L = none
  ol : O L = none
section
variable {K : PySem.W.Frag} {E : XK} {Hs Z O H Z' O' H' : Hp} {L : Addr} {ns : List Int}
theorem AccD.ext (a : AccD Z O H L ns) (e : Ext [] Z O H Z' O' H') : AccD Z' O' H' L ns := by
  have nn : ∀ {C C' : Hp}, (∀ c, C' c ≠ none → C c ≠ none ∨ H c = none ∨ c ∈ ([] : List Addr)) → ∀ {c : Addr}, C c = none → (∃ o, H c = some o) → C' c = none := fun {C C'} h {c} h1 h2 => by
    cases w : C' c with
    | none => rfl
    | some x =>
      obtain ⟨o, h3⟩ := h2
      rcases h c (by rw [w]; simp) with z | z | z
      · exact absurd h1 z
      · rw [h3] at z; cases z
      · cases z
  exact ⟨e.h.s _ _ a.at_ nofun, nn e.zn a.zl ⟨_, a.at_⟩, nn e.on a.ol ⟨_, a.at_⟩⟩
theorem AccD.push (g : Good Z O H) (a : AccD Z O H L ns) {n : Int} : Good Z O (upd H L (.dK (dKv (addK ns n)))) ∧ AccD Z O (upd H L (.dK (dKv (addK ns n)))) L (addK ns n) := by
  refine ⟨⟨g.zo, fun c o h => ?_, fun c o h f => ?_, g.nt⟩, ⟨upd_same, a.zl, a.ol⟩⟩
  · have ne : c ≠ L := fun z => by rw [z, a.ol] at h; cases h
    rw [upd_ne ne]
    exact g.oh c o h
  · by_cases z : c = L
    · rw [z, upd_same] at h; cases h; cases f
    · rw [upd_ne z] at h; exact g.tz c o h f
theorem reps_bl : ∀ (ns : List Int), Reps K Z (ns.map fun _ => V.bl true) (ns.map fun _ => PyData.bool true)
  | [] => .nil
  | _ :: ns => .cons (.bl true) (reps_bl ns)
theorem own_dI (h : H L = some (.dK (dKv ns))) : Own K Z H (.ref L) (dI ns) [L] := by
  have hv : Owns K Z H (ns.map fun _ => V.bl true) (ns.map fun _ => PyData.bool true) [] := .of_reps (reps_bl ns) (by simp [isVal])
  unfold dI
  refine .dct h ?_ ?_
  · simp [dKv, kd, Function.comp_def]
  · have e1 : (dKv ns).map (·.2) = ns.map fun _ => V.bl true := by simp [dKv, Function.comp_def]
    have e2 : (ns.map fun n => (PyData.int n, PyData.bool true)).map (·.2) = ns.map fun _ => PyData.bool true := by simp [Function.comp_def]
    rw [e1, e2]
    exact hv
theorem dc2_ok {vs vs1 : List Nat} {is is1 : List Nat} {w w1 : TI} {src src1 : Src} {t t1 : TG} {g gi : Tgx} {tt tt1 : Tx} {p : Px} {σ : St} {H : Hp} {Q : VK} (ik : IOc K E w src) (gk : GOc K is t g) (hv : ∀ i ∈ is, i ∈ vs) (ik1 : IOd K E w1 src1) (gk1 : GOc K is1 t1 gi) (hv1 : ∀ i ∈ is1, i ∈ vs1)
    (h : tP K E (pDc2 vs src g tt vs1 src1 gi tt1 p) σ H Q) : tDc2 w t (tT K E tt) w1 t1 (tT K E tt1) (tP K E p) (fun _ H Q => Q (.bl true) H) vs vs1 σ H Q := by
  obtain ⟨Z, O, ρ, F, rl, h⟩ := h
  refine ik σ H _ ⟨Z, O, ρ, F, rl, ?_⟩
  unfold pDc2 at h
  by_cases nv : nov ρ = true
  · rw [if_pos nv] at h
    cases e : src ρ with
    | bad => rw [e] at h; exact h.elim
    | exc c fs => rw [e] at h; exact h
    | ok rs =>
      rw [e] at h
      have h1 : ResK K E [] Z O H (match dc2E vs1 g tt src1 gi tt1 p (wipeE ρ vs) rs [] with
        | some ns => .ok ⟨.own, dI ns⟩
        | none => .bad) Q := h
      intro J H1 Z1 O1 x1 g1 wl L nL
      have zL : Z1 L = none := none_of g1.zh nL
      have oL : O1 L = none := none_of g1.oh nL
      cases e2 : dc2E vs1 g tt src1 gi tt1 p (wipeE ρ vs) rs [] with
      | none => rw [e2] at h1; exact h1.elim
      | some fin =>
      rw [e2] at h1
      have h1 : OkK K [] Z O H ⟨.own, dI fin⟩ Q := h1
      have rl1 := rl.ext x1 g1
      obtain ⟨Fw, rlw, sbw⟩ := rl1.wipe vs
      have nw := nov_wipe nv vs
      refine ⟨fun i m H' => m = rs.length - i ∧ i ≤ rs.length ∧ ∃ Z2 O2 F2, Good Z2 O2 H' ∧ Ext [] Z1 O1 H1 Z2 O2 H' ∧ Rel K Z2 O2 H' (L2.wipe σ vs) (wipeE ρ vs) F2 ∧ L ∉ F2 ∧ (∀ c ∈ F2, ∃ o, H1 c = some o) ∧ ∃ ns, AccD Z2 O2 H' L ns ∧ dc2E vs1 g tt src1 gi tt1 p (wipeE ρ vs) (rs.drop i) ns = some fin, ⟨rs.length, by simp, Nat.zero_le _, ?_⟩, ?_⟩
      · obtain ⟨x2, g2⟩ := ext_new (o := .dK []) g1 nL rfl
        have lv : ∀ c ∈ Fw, ∃ o, H1 c = some o := fun c hc => let ⟨o, h, _⟩ := rlw.sl.live c hc; ⟨o, h⟩
        have nF : L ∉ Fw := fun z => by
          obtain ⟨o, h⟩ := lv L z
          rw [nL] at h
          cases h
        exact ⟨Z1, O1, Fw, g2, x2, rlw.ext x2 g2, nF, lv, [], ⟨upd_same, zL, oL⟩, by rw [List.drop_zero, e2]⟩
      · rintro i m H' ⟨em, hi, Z2, O2, F2, g2, x2, rl2, nF2, lv2, ns, ac, hm⟩
        obtain ⟨w1, w2⟩ := wl Z2 O2 H' g2 x2.z x2.o (fun a o q _ n => x2.h.s a o q n) i hi
        by_cases hlt : i < rs.length
        · obtain ⟨go, yl⟩ := w2 rs[i] (List.getElem?_eq_getElem hlt)
          have ed : rs.drop i = rs[i] :: rs.drop (i + 1) := List.drop_eq_getElem_cons hlt
          rw [ed] at hm
          refine .inr ⟨go, fun H4 => ∃ Z4 O4 F4, Good Z4 O4 H4 ∧ Ext [] Z1 O1 H1 Z4 O4 H4 ∧ Rel K Z4 O4 H4 (L2.wipe σ vs) (wipeE ρ vs) F4 ∧ L ∉ F4 ∧ (∀ c ∈ F4, ∃ o, H1 c = some o) ∧ ∃ ns, AccD Z4 O4 H4 L ns ∧ dc2E vs1 g tt src1 gi tt1 p (wipeE ρ vs) (rs.drop (i + 1)) ns = some fin,
            fun H4 ⟨Z4, O4, F4, q1, q2, q3, q4, q5, q6⟩ => ⟨rs.length - (i + 1), by omega, rfl, hlt, Z4, O4, F4, q1, q2, q3, q4, q5, q6⟩, fun x H3 hy => ?_⟩
          obtain ⟨Z3, O3, x3, g3, r3⟩ := yl x H3 hy
          have rl3 := rl2.ext x3 g3
          have ac3 := ac.ext x3
          unfold dc2E at hm
          cases z : g rs[i] (wipeE ρ vs) with
          | none => simp only [z] at hm; cases hm
          | some ρ1 =>
            simp only [z] at hm
            by_cases nv1 : nov ρ1 = true
            rotate_left
            · rw [if_neg nv1] at hm; cases hm
            rw [if_pos nv1] at hm
            refine gk Z3 O3 H3 (L2.wipe σ vs) (wipeE ρ vs) F2 x rs[i] ρ1 rl3 r3 z _ fun σ1 F5 rl5 sb5 wp5 => ?_
            refine ⟨(wp5 vs hv).trans wipe_wipe, Z3, O3, ρ1, F5, rl5, ?_⟩
            cases et : tt ρ1 with
            | bad => simp only [et] at hm; cases hm
            | exc c fs => simp only [et] at hm; cases hm
            | ok b =>
              simp only [et] at hm
              intro H6 Z6 O6 x6 g6
              have rlw6 := (rl3.ext x6 g6)
              have ac6 := ac3.ext x6
              have x16 := (x2.trans0 x3).trans0 x6
              cases b with
              | false =>
                simp only [Bool.false_eq_true, if_false] at hm
                rw [if_neg Bool.false_ne_true]
                exact ⟨Z6, O6, F2, g6, x16, rlw6, nF2, lv2, ns, ac6, hm⟩
              | true =>
                simp only [if_true] at hm
                rw [if_pos rfl]
                cases es : src1 ρ1 with
                | bad => simp only [es] at hm; cases hm
                | exc c fs => simp only [es] at hm; cases hm
                | ok rs1 =>
                simp only [es] at hm
                have hL6 : ∃ o, H6 L = some o := ⟨_, ac6.at_⟩
                have rl56 := rl5.ext x6 g6
                refine ik1 L σ1 H6 _ ⟨Z6, O6, ρ1, F5, rl56, hL6, ?_⟩
                rw [es]
                intro J1 H8 Z8 O8 x8 g8 wl1
                have x18 := x16.trans0 x8
                obtain ⟨Fv, rlv, sbv⟩ := (rl56.ext x8 g8).wipe vs1
                have lv5 : ∀ c ∈ Fv, ∃ o, H1 c = some o := fun c hc => lv2 c (sb5.subset (sbv.subset hc))
                have nF5 : L ∉ Fv := fun z => nF2 (sb5.subset (sbv.subset z))
                have nw5 : nov (wipeE ρ1 vs1) = true := nov_wipe nv1 vs1
                cases ec : dcE gi tt1 p (wipeE ρ1 vs1) rs1 ns with
                | none => simp only [ec] at hm; cases hm
                | some ms =>
                simp only [ec] at hm
                refine ⟨fun j m H' => m = rs1.length - j ∧ j ≤ rs1.length ∧ ∃ Z2 O2 F4 F3, Good Z2 O2 H' ∧ Ext [] Z1 O1 H1 Z2 O2 H' ∧ (Same Z8 Z2 ∧ Same O8 O2 ∧ ∀ a o, H8 a = some o → a ∉ [L] → (∀ ps, o ≠ .tbl ps) → H' a = some o) ∧ Rel K Z2 O2 H' (L2.wipe σ vs) (wipeE ρ vs) F4 ∧ L ∉ F4 ∧ (∀ c ∈ F4, ∃ o, H1 c = some o) ∧ Rel K Z2 O2 H' (L2.wipe σ1 vs1) (wipeE ρ1 vs1) F3 ∧ L ∉ F3 ∧ (∀ c ∈ F3, ∃ o, H1 c = some o) ∧ ∃ ns, AccD Z2 O2 H' L ns ∧ dcE gi tt1 p (wipeE ρ1 vs1) (rs1.drop j) ns = some ms,
                  ⟨rs1.length, by simp, Nat.zero_le _, Z8, O8, F2, Fv, g8, x18, ⟨Same.refl _, Same.refl _, fun a o q _ _ => q⟩, rlw6.ext x8 g8, nF2, lv2, rlv, nF5, lv5, ns, ac6.ext x8, by rw [List.drop_zero, ec]⟩, ?_⟩
                rintro j m2 H9 ⟨em2, hj, Z9, O9, F4, F3, g9, x9, ⟨sz9, so9, k9⟩, rlo, nFo, lvo, rli, nFi, lvi, ns9, ac9, hm9⟩
                obtain ⟨w1', w2'⟩ := wl1 Z9 O9 H9 g9 sz9 so9 k9 j hj
                by_cases hlt1 : j < rs1.length
                · obtain ⟨go1, yl1⟩ := w2' rs1[j] (List.getElem?_eq_getElem hlt1)
                  have ed1 : rs1.drop j = rs1[j] :: rs1.drop (j + 1) := List.drop_eq_getElem_cons hlt1
                  rw [ed1] at hm9
                  refine .inr ⟨go1, fun H4 => ∃ Z4 O4 F4 F3, Good Z4 O4 H4 ∧ Ext [] Z1 O1 H1 Z4 O4 H4 ∧ (Same Z8 Z4 ∧ Same O8 O4 ∧ ∀ a o, H8 a = some o → a ∉ [L] → (∀ ps, o ≠ .tbl ps) → H4 a = some o) ∧ Rel K Z4 O4 H4 (L2.wipe σ vs) (wipeE ρ vs) F4 ∧ L ∉ F4 ∧ (∀ c ∈ F4, ∃ o, H1 c = some o) ∧ Rel K Z4 O4 H4 (L2.wipe σ1 vs1) (wipeE ρ1 vs1) F3 ∧ L ∉ F3 ∧ (∀ c ∈ F3, ∃ o, H1 c = some o) ∧ ∃ ns, AccD Z4 O4 H4 L ns ∧ dcE gi tt1 p (wipeE ρ1 vs1) (rs1.drop (j + 1)) ns = some ms,
                    fun H4 ⟨Z4, O4, F4, F3, q1, q2, q3, q4, q5, q6, q7, q8, q9, q10⟩ => ⟨rs1.length - (j + 1), by omega, rfl, hlt1, Z4, O4, F4, F3, q1, q2, q3, q4, q5, q6, q7, q8, q9, q10⟩, fun xx H10 hy => ?_⟩
                  obtain ⟨Z10, O10, x10, g10, r10⟩ := yl1 xx H10 hy
                  have rli10 := rli.ext x10 g10
                  have rlo10 := rlo.ext x10 g10
                  have ac10 := ac9.ext x10
                  unfold dcE at hm9
                  cases z1 : gi rs1[j] (wipeE ρ1 vs1) with
                  | none => simp only [z1] at hm9; cases hm9
                  | some ρ3 =>
                    simp only [z1] at hm9
                    refine gk1 Z10 O10 H10 (L2.wipe σ1 vs1) (wipeE ρ1 vs1) F3 xx rs1[j] ρ3 rli10 r10 z1 _ fun σ3 F7 rl7 sb7 wp7 => ?_
                    refine ⟨(wp7 vs1 hv1).trans wipe_wipe, Z10, O10, ρ3, F7, rl7, ?_⟩
                    cases et1 : tt1 ρ3 with
                    | bad => simp only [et1] at hm9; cases hm9
                    | exc c fs => simp only [et1] at hm9; cases hm9
                    | ok b1 =>
                      simp only [et1] at hm9
                      intro H11 Z11 O11 x11 g11
                      have ac11 := ac10.ext x11
                      have rlo11 := rlo10.ext x11 g11
                      have rli11 := rli10.ext x11 g11
                      have x1_11 := (x9.trans0 x10).trans0 x11
                      have x9_11 := x10.trans0 x11
                      have k11 : Same Z8 Z11 ∧ Same O8 O11 ∧ ∀ a o, H8 a = some o → a ∉ [L] → (∀ ps, o ≠ .tbl ps) → H11 a = some o := ⟨sz9.trans x9_11.z, so9.trans x9_11.o, fun a o q n nn => x9_11.h.s a o (k9 a o q n nn) nn⟩
                      cases b1 with
                      | false =>
                        simp only [Bool.false_eq_true, if_false] at hm9
                        rw [if_neg Bool.false_ne_true]
                        exact ⟨Z11, O11, F4, F3, g11, x1_11, k11, rlo11, nFo, lvo, rli11, nFi, lvi, ns9, ac11, hm9⟩
                      | true =>
                        simp only [if_true] at hm9
                        rw [if_pos rfl]
                        refine ⟨Z11, O11, ρ3, F7, rl7.ext x11 g11, ?_⟩
                        cases ep : p ρ3 with
                        | bad => simp only [ep] at hm9; cases hm9
                        | exc c fs => simp only [ep] at hm9; cases hm9
                        | ok y =>
                          obtain ⟨sy, dy⟩ := y
                          cases dy with
                          | int n =>
                            simp only [ep] at hm9
                            by_cases ll : ns9.length < sizeLine
                            rotate_left
                            · rw [if_neg ll] at hm9; cases hm9
                            rw [if_pos ll] at hm9
                            intro v H7 Z7 O7 G7 x7 g7 q7 n7 f7
                            have lk := q7.look g7
                            cases lk
                            have ac7 := ac11.ext x7
                            refine ⟨dKv ns9, .inl n, rfl, ac7.at_, by unfold dKv; rw [List.length_map]; exact ll, ?_⟩
                            rw [dKv_put]
                            obtain ⟨g8', ac8⟩ := ac7.push g7 (n := n)
                            have nsys : NSys L (H7 L) := ⟨fun ps z => (by rw [ac7.at_] at z; cases z), fun _ _ z => (by rw [ac7.at_] at z; cases z)⟩
                            have x17 := x1_11.trans0 x7
                            have keepR : ∀ {σq : St} {ρq : Ev} {Fq : List Addr}, nov ρq = true → L ∉ Fq → Rel K Z11 O11 H11 σq ρq Fq → Rel K Z7 O7 (upd H7 L (.dK (dKv (addK ns9 n)))) σq ρq Fq := fun {σq ρq Fq} nq nFq rq => by
                              have rl7 := rq.ext x7 g7
                              exact ⟨g8', rl7.nd, rl7.fo, rl7.sl.keep (Same.refl _) (Same.refl _) nq (fun a ha o h _ => by rw [upd_ne (fun (z : a = L) => nFq (z ▸ ha))]; exact h), fun P hP => upd_tab nsys (rl7.tb P hP)⟩
                            refine ⟨Z7, O7, F4, F3, g8', ⟨x17.h.updN nL nsys, x17.z, x17.o, x17.zn, x17.on⟩, ⟨k11.1.trans x7.z, k11.2.1.trans x7.o, fun a o q n nn => ?_⟩, keepR nw nFo rlo11, nFo, lvo, keepR nw5 nFi rli11, nFi, lvi, _, ac8, hm9⟩
                            rw [upd_ne (fun (z : a = L) => n (by simp [z]))]
                            exact x7.h.s a o (k11.2.2 a o q n nn) nn
                          | _ => simp only [ep] at hm9; cases hm9
                · have ej : j = rs1.length := by omega
                  refine .inl ⟨w1' ej, ?_⟩
                  have ed1 : rs1.drop j = [] := List.drop_eq_nil_of_le (by omega)
                  rw [ed1] at hm9
                  have ey2 : ns9 = ms := by
                    unfold dcE at hm9
                    exact Option.some.inj hm9
                  subst ey2
                  exact ⟨Z9, O9, F4, g9, x9, rlo, nFo, lvo, ns9, ac9, hm⟩
        · have ei : i = rs.length := by omega
          refine .inl ⟨w1 ei, ?_⟩
          have ed : rs.drop i = [] := List.drop_eq_nil_of_le (by omega)
          rw [ed] at hm
          have ey : ns = fin := by
            unfold dc2E at hm
            exact Option.some.inj hm
          subst ey
          refine h1 _ H' Z2 O2 [L] (x1.trans0 x2) g2 (own_dI ac.at_) (by simp) fun c hc => ?_
          rw [List.mem_singleton.mp hc]
          exact ⟨.inl (x1.h.free nL), ac.ol⟩
  · rw [if_neg nv] at h
    exact h.elim
end
section
variable {X : Cx} {E : XK} {kx tg iter tg1 iter1 : Expr} {ifs ifs1 : List Expr} {scope : Scope} {own : List (Str × Nat)} {vs1 : List Nat} {pos : Pos} {is is1 : List Nat} {w w1 : TI} {src src1 : Src} {t t1 : TG} {g g1 : Tgx} {tt tt1 : Tx} {p : Px}
theorem s_dc2 (hc : X.calm = true) (hN : X.N.Nodup) (hi : PI X tg iter w) (ik : IOc X.K E w src) (ok : BlkOk X.N X.env.scope scope own) (gk : GOc X.K is t g) (hv : ∀ i ∈ is, i ∈ own.map (·.2)) (ik1 : IOd X.K E w1 src1) (gk1 : GOc X.K is1 t1 g1) (hv1 : ∀ i ∈ is1, i ∈ vs1) (hvo : ∀ i ∈ vs1, i ∈ own.map (·.2))
    (hg : ∀ (s : Shared) (H : Hp) (C : Addr) (cl : List (Str × Addr)) (fp : List Addr), PG (X.blk s H scope (compEnvC scope cl C X.env) fp) tg t)
    (ht : ∀ (s : Shared) (H : Hp) (C : Addr) (cl : List (Str × Addr)) (fp : List Addr), PTs (X.blk s H scope (compEnvC scope cl C X.env) fp) ifs (tT X.K E tt))
    (hi1 : ∀ (s : Shared) (H : Hp) (C : Addr) (cl : List (Str × Addr)) (fp : List Addr), PI (X.blk s H scope (compEnvC scope cl C X.env) fp) tg1 iter1 w1)
    (hg1 : ∀ (s : Shared) (H : Hp) (C : Addr) (cl : List (Str × Addr)) (fp : List Addr), PG (X.blk s H scope (compEnvC scope cl C X.env) fp) tg1 t1)
    (ht1 : ∀ (s : Shared) (H : Hp) (C : Addr) (cl : List (Str × Addr)) (fp : List Addr), PTs (X.blk s H scope (compEnvC scope cl C X.env) fp) ifs1 (tT X.K E tt1))
    (he : ∀ (s : Shared) (H : Hp) (C : Addr) (cl : List (Str × Addr)) (fp : List Addr), PE (X.blk s H scope (compEnvC scope cl C X.env) fp) kx (tP X.K E p)) {vj : Nat} {vp : Pos} (hs : ∀ x, foldedSetIterable iter X.env x = pure x := by exact fun _ => rfl) (hs1 : ∀ env x, foldedSetIterable iter1 env x = pure x := by exact fun _ _ => rfl) :
    PE X (.DictComp kx (.Constant (.bool true) vj vp) [⟨tg, iter, ifs, 0⟩, ⟨tg1, iter1, ifs1, 0⟩] scope pos) (tP X.K E (pDc2 (own.map (·.2)) src g tt vs1 src1 g1 tt1 p)) :=
  (pe_dc2 hc hN hi ok hvo hg ht hi1 hg1 ht1 he (fun _ _ _ _ _ => pe_bl) hs hs1).imp fun σ H Q h => dc2_ok ik gk hv ik1 gk1 hv1 h
end
end
@[simp] theorem x_dc [WD] {vs : List Nat} {src : Src} {g : Tgx} {t : Tx} {p : Px} {ρ : Ev} : pDc vs src g t p ρ = (if nov ρ = true then (src ρ).bind fun rs => match dcE g t p (wipeE ρ vs) rs [] with
  | some ns => .ok ⟨.own, dI ns⟩
  | none => .bad else .bad) := id rfl
@[simp] theorem x_dc2 [WD] {vs vs1 : List Nat} {src src1 : Src} {g g1 : Tgx} {t t1 : Tx} {p : Px} {ρ : Ev} : pDc2 vs src g t vs1 src1 g1 t1 p ρ = (if nov ρ = true then (src ρ).bind fun rs => match dc2E vs1 g t src1 g1 t1 p (wipeE ρ vs) rs [] with
  | some ns => .ok ⟨.own, dI ns⟩
  | none => .bad else .bad) := id rfl
end Oz

/-! Oz59: in and sorted of a dict {int: True}. -/
namespace Oz
open PySem PySem.Spec L2 PySem.Calls PySem.W
open PyProof.Rows hiding St
variable [WD]
noncomputable section
def kvI : List (D × D) → Option (List Int)
  | [] => some []
  | (.int n, .bool true) :: r => (kvI r).map (n :: ·)
  | _ => none
def dIof : D → Option (List Int)
  | .dict es => kvI es
  | _ => none
@[simp] theorem dIof_dI {ns : List Int} : dIof (dI ns) = some ns := by
  show kvI _ = _
  induction ns with
  | nil => rfl
  | cons n ns ih => simp [kvI, ih]
theorem kvI_eq : ∀ {es : List (D × D)} {ns : List Int}, kvI es = some ns → es = ns.map fun n => (.int n, .bool true)
  | [], ns, h => by cases h; rfl
  | (a, b) :: r, ns, h => by
    cases a with
    | int n => cases b with
      | bool c => cases c with
        | true =>
          have h2 : (kvI r).map (n :: ·) = some ns := h
          cases e : kvI r with
          | none => rw [e] at h2; cases h2
          | some ms =>
            rw [e] at h2
            cases h2
            rw [kvI_eq e]
            rfl
        | false => cases h
      | _ => cases h
    | _ => cases b <;> cases h
theorem dIof_eq {d : D} {ns : List Int} (h : dIof d = some ns) : d = dI ns := by
  cases d with
  | dict es => rw [show es = _ from kvI_eq h]; rfl
  | _ => cases h
theorem keys_int : ∀ {ns : List Int} {kvs : List (Key × V)}, ns.map PyData.int = kvs.map (fun p => kd p.1) → kvs.map (·.1) = ns.map Sum.inl
  | [], [], _ => rfl
  | [], _ :: _, h => by simp at h
  | _ :: _, [], h => by simp at h
  | n :: ns, (k, v) :: kvs, h => by
    rw [List.map_cons, List.map_cons] at h
    injection h with h1 h2
    have hk : k = .inl n := by
      cases k with
      | inl i => cases h1; rfl
      | inr x => cases h1
    rw [List.map_cons, List.map_cons, keys_int h2, hk]
theorem rep_dI {K : PySem.W.Frag} {C : Hp} {v : V} {ns : List Int} (r : Rep K C v (dI ns)) : ∃ a kvs, v = .ref a ∧ C a = some (.dK kvs) ∧ kvs.map (·.1) = ns.map Sum.inl := by
  have hd : isDct (ns.map fun n => ((PyData.int n : D), (PyData.bool true : D))) = true := by simp [isDct, keyOf]
  obtain ⟨a, kvs, e, h, hk, _⟩ := Rep.dct_inv r hd
  refine ⟨a, kvs, e, h, keys_int ?_⟩
  rw [← hk, List.map_map]
  rfl
theorem val_int {ns : List Int} {kvs : List (Key × V)} (h : kvs.map (·.1) = ns.map Sum.inl) (i : Int) : (valV kvs (.inl i)).isSome = decide (i ∈ ns) := by
  rw [← valV_any]
  have e : (kvs.any fun kv => decide (kv.1 = .inl i)) = ((kvs.map (·.1)).any fun k => decide (k = .inl i)) := by rw [List.any_map]; rfl
  rw [e, h, List.any_map, Bool.eq_iff_iff]
  simp
def inK (a b : D) : Option D := match a, dIof b with
  | .int i, some ns => some (.bool (decide (i ∈ ns)))
  | _, _ => none
def ninK (a b : D) : Option D := match a, dIof b with
  | .int i, some ns => some (.bool (!decide (i ∈ ns)))
  | _, _ => none
def rInDk (f : Bool → Bool) : R2 := fun x y H Q => ∃ (a : Addr) (kvs : List (Key × V)) (i : Int), x = .int i ∧ y = .ref a ∧ H a = some (.dK kvs) ∧ Q (.bl (f (valV kvs (.inl i)).isSome)) H
theorem op_inK {X : Cx} (hu : X.A.units + 65 < cLine) : OpR X (compareOp .In) (rInDk id) := by
  intro pins s σ H x y v u Q I rx ry h
  obtain ⟨a, kvs, i, rfl, rfl, ha, q⟩ := h
  cases ry
  exact d_in (by omega) I (DGet.k (k := .inl i) ha) rx fun s' I' => ⟨.bl _, H, I', rfl, q⟩
theorem o_inK {K : PySem.W.Frag} : Op2 K (rInDk id) (at2 inK) := op2_at fun H x y a b d Q ra rb e q => by
  unfold inK at e
  cases a with
  | int i =>
    cases eb : dIof b with
    | none => simp only [eb] at e; cases e
    | some ns =>
      simp only [eb] at e
      cases e
      have := dIof_eq eb
      subst this
      obtain ⟨p, kvs, rfl, hp, hk⟩ := rep_dI rb
      cases ra
      refine ⟨p, kvs, i, rfl, rfl, hp, ?_⟩
      rw [val_int hk]
      exact q _ fun _ => .bl _
  | _ => cases e
@[simp] theorem x_inK {i : Int} {ns : List Int} : inK (.int i) (dI ns) = some (.bool (decide (i ∈ ns))) := by simp [inK]
@[simp] theorem x_ninK {i : Int} {ns : List Int} : ninK (.int i) (dI ns) = some (.bool (!decide (i ∈ ns))) := by simp [ninK]
/-! ### sorted -/
def leI (a b : Int) : Bool := decide (a ≤ b)
def bSortDk : List R → Res R
  | [r] => (match dIof r.d with
    | some ns => .ok ⟨.own, .list ((ns.mergeSort leI).map .int)⟩
    | none => .bad)
  | _ => .bad
@[simp] theorem x_sortDk {s : Sx} {ns : List Int} : bSortDk [⟨s, dI ns⟩] = .ok ⟨.own, .list ((ns.mergeSort leI).map .int)⟩ := by
  show (match dIof (dI ns) with
    | some ns => (Res.ok ⟨.own, .list ((ns.mergeSort leI).map .int)⟩ : Res R)
    | none => .bad) = _
  rw [dIof_dI]
/-! ### d[n] = True -/
theorem addK_mem {ns : List Int} {n m : Int} : m ∈ addK ns n ↔ m ∈ ns ∨ m = n := by
  unfold addK
  split
  · rename_i c
    exact ⟨.inl, fun h => h.elim id fun z => z ▸ c⟩
  · simp
end
end Oz

/-! Oz60: what an expression makes anew lasts from then on (a list to be put into a tuple). -/
namespace Oz
open PySem PySem.Spec L2
open PyProof.Rows hiding St
variable [WD]
def fzR (r : R) : R := match r.s with
  | .own => ⟨.imm, r.d⟩
  | _ => r
def pFz (p : Px) : Px := fun ρ => (p ρ).bind fun r => .ok (fzR r)
section
variable {K : PySem.W.Frag} {E : XK} {Z O H : Hp} {Q : VK} {p : Px} {σ : L2.St}
theorem fz_okK {d : D} (h : OkK K [] Z O H ⟨.imm, d⟩ Q) : OkK K [] Z O H ⟨.own, d⟩ Q := fun v H1 Z1 O1 G x g q nd fr => by
  have ow : Own K Z1 H1 v d G := q
  have oG : ∀ a ∈ G, O1 a = none := fun a ha => (fr a ha).2
  have zG : ∀ a ∈ G, Z1 a = none := fun a ha => g.zo.free (oG a ha)
  let Z' : Hp := fun a => if a ∈ G then H1 a else Z1 a
  let O' : Hp := fun a => if a ∈ G then H1 a else O1 a
  have z1 : ∀ a, a ∈ G → Z' a = H1 a := fun a ha => if_pos ha
  have z0 : ∀ a, a ∉ G → Z' a = Z1 a := fun a ha => if_neg ha
  have o1 : ∀ a, a ∈ G → O' a = H1 a := fun a ha => if_pos ha
  have o0 : ∀ a, a ∉ G → O' a = O1 a := fun a ha => if_neg ha
  have zz : Same Z1 Z' := fun a o h => by
    rw [z0 a fun ha => by rw [zG a ha] at h; cases h]; exact h
  have oo : Same O1 O' := fun a o h => by
    rw [o0 a fun ha => by rw [oG a ha] at h; cases h]; exact h
  have gd : Good Z' O' H1 := by
    refine ⟨fun a o h => ?_, fun a o h => ?_, fun a o h f => zz a o (g.tz a o h f), fun a ps h => ?_⟩
    rotate_right
    · by_cases ha : a ∈ G
      · rw [o1 a ha] at h; exact ow.ntb a ha ps h
      · rw [o0 a ha] at h; exact g.nt a ps h
    · by_cases ha : a ∈ G
      · rw [z1 a ha] at h; rw [o1 a ha]; exact h
      · rw [z0 a ha] at h; rw [o0 a ha]; exact g.zo a o h
    · by_cases ha : a ∈ G
      · rw [o1 a ha] at h; exact h
      · rw [o0 a ha] at h; exact g.oh a o h
  have rp : Rep K Z' v d := Own.rep (Same.refl Z') (Own.mono zz (fun a ha o h _ => by rw [z1 a ha]; exact h) ow)
  have hG : ∀ a ∈ G, H a = none := fun a ha => (fr a ha).1.elim id fun z => by cases z
  refine h v H1 Z' O' [] ⟨x.h, x.z.trans zz, x.o.trans oo, fun a h => ?_, fun a h => ?_⟩ gd ⟨rp, rfl⟩ List.nodup_nil fun a ha => by cases ha
  · by_cases ha : a ∈ G
    · exact .inr (.inl (hG a ha))
    · rw [z0 a ha] at h; exact x.zn a h
  · by_cases ha : a ∈ G
    · exact .inr (.inl (hG a ha))
    · rw [o0 a ha] at h; exact x.on a h
theorem fz_ok (h : tP K E (pFz p) σ H Q) : tP K E p σ H Q := by
  obtain ⟨Z, O, ρ, F, rl, q⟩ := h
  refine ⟨Z, O, ρ, F, rl, ?_⟩
  unfold pFz at q
  cases e : p ρ with
  | bad => rw [e] at q; exact q.elim
  | exc c fs => rw [e] at q; exact q
  | ok r =>
    rw [e] at q
    obtain ⟨s, d⟩ := r
    cases s with
    | own => exact fz_okK q
    | _ => exact q
end
theorem s_fz {X : Cx} {E : XK} {e : Expr} {p : Px} (h : PE X e (tP X.K E p)) : PE X e (tP X.K E (pFz p)) := h.imp fun σ H Q q => fz_ok q
@[simp] theorem x_fz {p : Px} {ρ : Ev} : pFz p ρ = (p ρ).bind fun r => .ok (fzR r) := id rfl
@[simp] theorem fzR_own {d : D} : fzR ⟨.own, d⟩ = ⟨.imm, d⟩ := id rfl
@[simp] theorem fzR_imm {d : D} : fzR ⟨.imm, d⟩ = ⟨.imm, d⟩ := id rfl
end Oz

/-! Oz61: l[p] += e of ints, in a list; {}. -/
namespace Oz
open PySem PySem.Spec L2
open PyProof.Rows hiding St
variable [WD]
def sAugI (l : Plx) (p q : Px) : Stx := fun ρ => match l ρ with
  | .bad => .bad
  | .exc c fs => .exc c fs ρ
  | .ok l => (match p ρ with
    | .bad => .bad
    | .exc c fs => .exc c fs ρ
    | .ok i => (match l.d, i.d with
      | .list ds, .int k => if 0 ≤ k then (match ds[k.toNat]? with
        | some (.int x) => (match q ρ with
          | .bad => .bad
          | .exc c fs => .exc c fs ρ
          | .ok r => (match r.d with
            | .int y => putE l (.list (ds.set k.toNat (.int (x + y)))) ρ
            | _ => .bad))
        | _ => .bad) else .bad
      | _, _ => .bad))
section
variable {X : Cx} {E : XK} {a b e : Expr} {l : Plx} {p q : Px} {pos apos : Pos}
end
@[simp] theorem x_augI {l : Plx} {p q : Px} {ρ : Ev} : sAugI l p q ρ = (match l ρ with
  | .bad => .bad
  | .exc c fs => .exc c fs ρ
  | .ok l => (match p ρ with
    | .bad => .bad
    | .exc c fs => .exc c fs ρ
    | .ok i => (match l.d, i.d with
      | .list ds, .int k => if 0 ≤ k then (match ds[k.toNat]? with
        | some (.int x) => (match q ρ with
          | .bad => .bad
          | .exc c fs => .exc c fs ρ
          | .ok r => (match r.d with
            | .int y => putE l (.list (ds.set k.toNat (.int (x + y)))) ρ
            | _ => .bad))
        | _ => .bad) else .bad
      | _, _ => .bad))) := id rfl
end Oz

/-! Oz62: __init__ of an own exception over ValueError: super().__init__(what); self.what = what -/
namespace Oz
open PySem PySem.Spec L2
open PyProof.Rows hiding St
structure XiPos where
  p0 : Pos
  p1 : Pos
  p2 : Pos
  p3 : Pos
  p4 : Pos
  p5 : Pos
  p6 : Pos
  p7 : Pos
  p8 : Pos
  p9 : Pos
  a0 : Pos
  a1 : Pos
def ixBody (p : XiPos) : List Stmt := [.Expr (.Call (.Attribute (.Call (.Name "super" p.p0) [] [] p.p1) "__init__" p.p2) [.Name "what" p.p3] [] p.p4) p.p5, .Assign [.Attribute (.Name "self" p.p6) "what" p.p7] (.Name "what" p.p8) p.p9]
def ixScope : Scope := {
  kind := .function, names := [(PySem.Str.ofString "self", .local), (PySem.Str.ofString "what", .local), (PySem.Str.ofString "__class__", .free), (PySem.Str.ofString "super", .globalImplicit)]
  isGenerator := false, isCoroutine := false, more := [] }
def ixPars (p : XiPos) : Arguments := { posonlyargs := [], args := [{ arg := "self", annotation := none, pos := p.a0 }, { arg := "what", annotation := none, pos := p.a1 }], vararg := none, kwonlyargs := [], kw_defaults := [], kwarg := none, defaults := [] }
/-- what the written part says of such a class -/
structure XiOk (P : Program) (K : PySem.W.Frag) (D f : Addr) (p : XiPos) (cc cda : Addr) (fd : FuncData) : Prop where
  T : OexC K D
  lk : ∃ (name qual : Str) (dV kV doc pm ct oc : Value) (an od : Option Addr) (osl : Array (Option Value)), fd = PySem.W.fnX name qual (ixPars p) (ixBody p) ixScope [("__class__", cc)] dV kV doc pm an (.ref cda) ct ∧ K.lookup f = some ⟨oc, od, .func fd, osl⟩ ∧ PySem.W.codeIn K (.ref cda) qual = true
  code : ∃ (ccl : Value) (cdd : Option Addr) (vs : Array Value) (ccs : Array (Option Value)) (file : Str) (tf : Tok), K.lookup cda = some ⟨ccl, cdd, .fields vs, ccs⟩ ∧ vs[2]? = some (.str file tf) ∧ ((P.main.file : Str) == file) = true
  cell : ∃ (cl : Value) (cld : Option Addr) (csl : Array (Option Value)), K.lookup cc = some ⟨cl, cld, .cell (some (.ref D)), csl⟩
  sub : PySem.W.mroIn K D (.ref D) = some true
  ot : PySem.W.nsIn K cStatics "thirdparty.any" = some none
  sup : PySem.W.ks_superIn K D D "__init__" = some (some (.builtin "ValueError.__init__"))
  ve : PySem.W.subIn K (.ref D) (.type "ValueError") = some true
  no : PySem.W.findIn K (.ref D) "what" = some none
  top : (P.main.scope.names.lookup ("super" : Str)).isSome = false
/-- the call's steps, at its places in the text -/
def XiCall (p : XiPos) : Prop := ∀ (qual : Str) (L f cc : Addr) (cd : Value), ∃ pl : Sem Bool, eval (.Call (.Attribute (.Call (.Name "super" p.p0) [] [] p.p1) "__init__" p.p2) [.Name "what" p.p3] [] p.p4) (PySem.W.envX qual ixScope L f cd [("__class__", cc)]) = (do
      let ov ← attributeBase (.Call (.Name "super" p.p0) [] [] p.p1) "__init__" (PySem.W.envX qual ixScope L f cd [("__class__", cc)]) (eval (.Call (.Name "super" p.p0) [] [] p.p1) (PySem.W.envX qual ixScope L f cd [("__class__", cc)]))
      standAt p.p2.atName
      let (g, first) ← holding [ov] (getMethod ov "__init__" pl)
      callWith p.p4 g first (backTo p.p4 (starEach [.Name "what" p.p3] (PySem.W.envX qual ixScope L f cd [("__class__", cc)]))) [])
end Oz

/-! Oz63: raise c("..") and try: return f(..) / except c as e: return e.what, c an own exception -/
namespace Oz
open PySem PySem.Spec L2
open PyProof.Rows hiding St
structure Rfs (P : Program) (K : PySem.W.Frag) (mg : Str → Option Value) (c : Str) : Prop where
  ex : ∃ (p : XiPos) (cc cda fI : Addr) (fd : FuncData), XiOk P K (He.ga K c) fI p cc cda fd ∧ XiCall p ∧ Binds K fd ["self", "what"] [] ∧ PySem.W.findIn K (.ref (He.ga K c)) "__init__" = some (some (.ref fI)) ∧ PySem.W.typeIn K (.ref fI) = some (.type "function")
  at_ : mg c = some (.ref (He.ga K c))
  xf : XfC K (He.ga K c)
  sup : mg "super" = none
  self : PySem.W.exmOne K (.ref (He.ga K c)) (.ref (He.ga K c)) = some true
variable [WD]
def sRse (c : Str) (d : D) : Stx := fun ρ => .exc c [("what", d)] ρ
def tryE (y : Option (Option R)) (fs : List (Str × D)) (ρ : Ev) : SR := match y, fs with
  | some none, [(f, d)] => if f = "what" then .ret ⟨.imm, d⟩ ρ else .bad
  | _, _ => .bad
/-- try: return f(..) / except c as n: return n.what -/
def sTry (i : Nat) (c : Str) (m : Fn) (md : List Md) (qs : List Px) : Stx := fun ρ => match pCall m md qs ρ with
  | .bad => .bad
  | .ok r => if storable r = true then .ret r ρ else .bad
  | .exc c' fs => if c' = c then tryE ρ[i]? fs ρ else .bad
section
variable {X : Cx} {E : XK} {c n x : Str} {i k k' : Nat} {md : List Md} {ps : List Str} {m : Fn} {p np p1 p2 p3 rp pos pos' pos'' : Pos} {e : Expr} {es : List Expr} {qs : List Px}
end
end Oz

/-! Oz64: the head's Hook with own exceptions -/
namespace Oz
open PySem PySem.Spec L2
open PyProof.Rows hiding St
structure RfD where
  c : Str
  p : XiPos
abbrev RfW : Type := Option (Arguments × FuncBody × Scope × Addr × List Str × Addr)
def rfW (K : PySem.W.Frag) (c : Str) : RfW := match K.lookup (He.ma K (He.ga K c) "__init__") with
  | some ⟨_, _, .func fd, _⟩ => some (fd.params, fd.body, fd.scope, fd.globals, fd.closure.map (·.1), fd.builtins)
  | _ => none
def RfD.val (r : RfD) : RfW := some (ixPars r.p, .stmts (ixBody r.p), ixScope, mainGlobals, ["__class__"], builtinsNs)
def oexB (K : PySem.W.Frag) (C : Addr) : Bool := match K.lookup C with
  | some ⟨.type "type", _, .cls cd, sl⟩ => (match cd.mro, sl.toList with
    | .ref C' :: bm, [_, _, _, _, some (.builtin n), _] => C' == C && (n == "ValueError.__new__" && (!cd.hasDel && (cd.hasDict && PySem.HandSPX.refsVE bm)))
    | _, _ => false)
  | _ => false
def initB (K : PySem.W.Frag) (fl : Str) (C f : Addr) : Bool := match K.lookup f with
  | some ⟨_, _, .func fd, _⟩ => (match fd.code, fd.closure, fd.defaults with
    | .ref cda, [(_, cc)], .none => PySem.W.codeIn K (.ref cda) fd.qualname && ((match K.lookup cda with
        | some ⟨_, _, .fields vs, _⟩ => (match (vs[2]? : Option Value) with
          | some (.str file _) => fl == file
          | _ => false)
        | _ => false) && (match K.lookup cc with
        | some ⟨_, _, .cell (some (.ref D)), _⟩ => D == C
        | _ => false))
    | _, _, _ => false)
  | _ => false
def rfB (K : PySem.W.Frag) (fl c : Str) : Bool :=
  oexB K (He.ga K c) && (initB K fl (He.ga K c) (He.ma K (He.ga K c) "__init__") && (
  decide (PySem.W.findIn K (.ref (He.ga K c)) "__setattr__" = some (some (.builtin "object.__setattr__"))) && (decide (PySem.W.subIn K (.ref (He.ga K c)) (.type "BaseException") = some true) && (
  decide (PySem.W.typeIn K (.ref (He.ga K c)) = some (.type "type")) && (PySem.W.keepIn K (.ref (He.ga K c)) && (
  decide (PySem.W.findIn K (.ref (He.ga K c)) "__init__" = some (some (.ref (He.ma K (He.ga K c) "__init__")))) && (decide (PySem.W.typeIn K (.ref (He.ma K (He.ga K c) "__init__")) = some (.type "function")) && (
  decide (PySem.W.mroIn K (He.ga K c) (.ref (He.ga K c)) = some true) && (decide (PySem.W.nsIn K cStatics "thirdparty.any" = some none) && (
  decide (PySem.W.ks_superIn K (He.ga K c) (He.ga K c) "__init__" = some (some (.builtin "ValueError.__init__"))) && (decide (PySem.W.subIn K (.ref (He.ga K c)) (.type "ValueError") = some true) && (
  decide (PySem.W.findIn K (.ref (He.ga K c)) "what" = some none) && (xfB K (He.ga K c) && decide (PySem.W.exmOne K (.ref (He.ga K c)) (.ref (He.ga K c)) = some true))))))))))))))
structure SaysE (fa : List He.Fa) (fn : List He.DefD) (ck : PySem.W.Frag → Bool) (dn : List (Str × List Str)) (tf : List He.Defn) (rs : List RfD) (fl : Str) (w : World) (h : Heap) (K : PySem.W.Frag) : Prop extends SaysZ fa fn ck dn tf w h K where
  r1 : rs.map (fun r => rfW K r.c) = rs.map RfD.val
  r2 : (rs.all fun r => rfB K fl r.c) = true
noncomputable section
end
end Oz

/-! Oz65: list(range(n)); the simp lemmas of raise and try -/
namespace Oz
open PySem PySem.Spec L2
open PyProof.Rows hiding St
variable [WD]
def rgD (n : Int) : List D := (List.range n.toNat).map fun i => PyData.int ((i : Nat) : Int)
noncomputable def pLRg (p : Px) : Px := fun ρ => (p ρ).bind fun r => match r.d with
  | .int n => if gd (decide (0 ≤ n ∧ n ≤ 1000000)) = true then dnew .own (rgD n) else .bad
  | _ => .bad
@[simp] theorem x_lRg {p : Px} {ρ : Ev} : pLRg p ρ = ((p ρ).bind fun r => match r.d with
  | .int n => if gd (decide (0 ≤ n ∧ n ≤ 1000000)) = true then dnew .own (rgD n) else .bad
  | _ => .bad) := id rfl
@[simp] theorem x_rse {c : Str} {d : PyData} {ρ : Ev} : sRse c d ρ = .exc c [("what", d)] ρ := id rfl
@[simp] theorem x_tryE1 {f : Str} {d : PyData} {ρ : Ev} : tryE (some none) [(f, d)] ρ = if f = "what" then .ret ⟨.imm, d⟩ ρ else .bad := id rfl
@[simp] theorem x_try {i : Nat} {c : Str} {m : Fn} {md : List Md} {qs : List Px} {ρ : Ev} : sTry i c m md qs ρ = (match pCall m md qs ρ with
  | .bad => .bad
  | .ok r => if storable r = true then .ret r ρ else .bad
  | .exc c' fs => if c' = c then tryE ρ[i]? fs ρ else .bad) := id rfl
end Oz

/-! Oz66: a law whose own body calls what may raise, and never lets anything out -/
namespace Oz
open PySem PySem.Spec L2
open PyProof.Rows hiding St
variable [WD]
end Oz

/-! Oz67: any and all of a generator expression whose element is any expression: its frame is a context of its own. -/
namespace Oz
open PySem PySem.Spec PyProof.Rows L2
variable [WD]
/-- the context of a generator expression's frame -/
abbrev genCx (X : Cx) (A : Around) (s : Shared) (H : Hp) (cenv : Env) (fp : List Addr) (pn : List (Addr × Obj)) : Cx :=
  { X with A := A, s_0 := s, H_0 := H, env := cenv, outer := X.stack, stack := cenv :: X.stack, ex := fp, fn := fun _ => false, calm := true, pn := pn, xe := fun _ _ => False }
theorem over_gen {A : Around} {elt tg iter : Expr} {scope : Scope} {pos : Pos} {it : Value} {cenv : Env} : A.over (.compLoop (.GeneratorExp elt [⟨tg, iter, [], 0⟩] scope pos) 0 it .none cenv) [] = A.deeper cenv := by
  first
    | rfl
    | (obtain ⟨hd, d, fr, gs, u⟩ := A; simp [Around.over, Around.deeper, marksOver, frameCount, unitsOf, envsOf, guardsOf, pushEnvs, pushGuards, Code.envs, Code.env?, Code.isFrame, Code.guards, Code.isGuard, Code.weight, Code.frames, Code.isCreation, Code.isCaller, Code.cUnits])
section
variable {X : Cx} {pins : List (Addr × Obj)} {σ : L2.St} {H : Hp} {s : Shared}
theorem gen_start {scope : Scope} {own : List (Str × Nat)} {fp : List Addr} {A : Around} {code : Value} {bi a : Addr} {go : Obj} {h' : Heap} {g' : Array GenState} {t' : Nat} {m : Str → Option Value}
    (I : Inv X pins σ H s) (ok : BlkOk X.N X.env.scope scope own) (hN : X.N.Nodup) (nc : ∀ y ∈ scope.names, y.2 ≠ .cell) (hA : A.handled = none)
    (hfr : A.frames = some (genEnv scope (cloFrom X.env.cells scope.names []) s.heap.objs.size code bi X.env :: X.stack)) (hbi : bi = builtinsNs)
    (hfp : ∀ b ∈ fp, FpOk X pins H b ∧ b < s.heap.objs.size) (hn : h'.Ns s.heap.objs.size m) (kp : ∀ b o, s.heap.get? b = some o → h'.get? b = some o)
    (ha : s.heap.objs.size < a) (hgo : h'.get? a = some go) (hgd : ∀ v, go.data ≠ .cell v) (hg : AllBare g') :
    Inv (genCx X A s H (genEnv scope (cloFrom X.env.cells scope.names []) s.heap.objs.size code bi X.env) fp [(a, go)]) [] (wipe σ (own.map (·.2))) H { s with heap := h', gens := g', toks := t' } := by
  have hfree : ∀ y ∈ scope.names, y.2 = .free → ∃ c, X.env.cells.lookup y.1 = some c := fun y hy e => by
    rcases ok.free y hy e with k | k
    · exact I.ok.has _ (.inl k)
    · exact I.ok.has _ (.inr k)
  generalize hcenv : genEnv scope (cloFrom X.env.cells scope.names []) s.heap.objs.size code bi X.env = cenv at hfr ⊢
  have hL : cenv.locals = s.heap.objs.size := by rw [← hcenv]; rfl
  have hcl : cenv.cells = cloFrom X.env.cells scope.names [] := by rw [← hcenv]; rfl
  have hsc : cenv.scope = scope := by rw [← hcenv]; rfl
  have cm : ∀ {y c}, cenv.cells.lookup y = some c → X.env.cells.lookup y = some c ∧ c < s.heap.objs.size := fun {y c} e => by
    rw [hcl] at e
    rcases cloFrom_mem (PySem.mem_of_lookup e) with hm | ⟨h1, rfl⟩
    · cases hm
    · obtain ⟨c, hc⟩ := hfree _ h1 rfl
      rw [hc]
      obtain ⟨w, z⟩ := I.cell _ _ hc
      exact ⟨rfl, z.lt⟩
  have look : ∀ {y}, scope.names.lookup y = some .free → ∃ c, cenv.cells.lookup y = some c ∧ X.env.cells.lookup y = some c := fun {y} hl => by
    have hy : (y, NameKind.free) ∈ scope.names := PySem.mem_of_lookup hl
    obtain ⟨c', e'⟩ := mem_lookup (cloFrom_has (cells := X.env.cells) (acc := []) hy)
    rw [← hcl] at e'
    exact ⟨c', e', (cm e').1⟩
  have nof : ∀ b, s.heap.objs.size ≤ b → b ∉ frs X.stack := fun b hb z => by
    rcases List.mem_cons.mp (I.stkSub b z) with y | y
    · have h1 := I.lt
      rw [← y] at h1
      exact absurd (Nat.lt_of_lt_of_le h1 hb) (Nat.lt_irrefl _)
    · exact I.nofs hb y
  have okB : (genCx X A s H cenv fp [(a, go)]).Ok := by
    refine ⟨I.ok.mod, by show cenv.scope.kind = _; rw [hsc]; exact ok.kind, by show cenv.globals = _; rw [← hcenv]; exact I.ok.glob, by show cenv.builtins = _; rw [← hcenv]; exact hbi, by show s.heap.objs.size ≤ cenv.locals; rw [hL]; exact Nat.le_refl _,
      fun y z c e1 e2 => I.ok.inj y z c (cm e1).1 (cm e2).1, fun y hy => ?_, fun y c z e => (by cases z), fun _ => hA, hfr, .inr ⟨rfl, by rw [← hcenv]; rfl⟩, fun b hb => ⟨?_, fun y c e z => (hfp b hb).1.2.2.2.2.1 y c (cm e).1 z⟩, I.bs, Nat.le_trans I.ok.bsz I.sz, fun b o e hb => ?_, fun b hb z => ?_, I.stack, I.stkFree⟩
    · have key : ∀ k, cenv.kindOf y = some k → (k = .cell ∨ k = .free) → ∃ c, cenv.cells.lookup y = some c := fun k hk hk' => by
        unfold Env.kindOf at hk
        rw [hsc] at hk
        rcases hk' with rfl | rfl
        · exact absurd rfl (nc _ (PySem.mem_of_lookup hk))
        · obtain ⟨c, h1, _⟩ := look hk
          exact ⟨c, h1⟩
      rcases hy with hy | hy
      · exact key _ hy (.inl rfl)
      · exact key _ hy (.inr rfl)
    · show b ≠ cenv.locals
      rw [hL]; exact Nat.ne_of_lt (hfp b hb).2
    · rcases (hfp b hb).1.2.2.2.1 with z | z
      · exact I.ok.noex b o e z
      · exact absurd (Nat.lt_of_lt_of_le (Heap.lt_size e) (Nat.le_trans I.ok.bsz z)) (Nat.lt_irrefl _)
    · rcases List.mem_cons.mp (I.stkSub b z) with z | z
      · exact (hfp b hb).1.2.1 z
      · exact (hfp b hb).1.2.2.1 z
  refine ⟨okB, rfl, hg, Un.kept kp, ⟨m, ?_, fun i y av e1 e2 e3 => ?_⟩, fun y c e => ?_, ?_, fun y c e => I.freeC y c (cm e).1, fun p hp => ?_, I.hok.kept kp, by rw [wipe_length]; exact I.len⟩
  · show Heap.Ns _ cenv.locals _
    rw [hL]
    exact hn
  · obtain ⟨e2, hne⟩ := wipe_some e2
    have hfr : scope.names.lookup y = some .free ∧ cenv.kindOf y = some .free := by
      have key : ∀ k, cenv.scope.names.lookup y = some k → k = .local ∨ k = .cell ∨ k = .free → scope.names.lookup y = some .free ∧ cenv.kindOf y = some .free := fun k hk hk' => by
        have hk0 := hk
        rw [hsc] at hk
        rcases hk' with rfl | rfl | rfl
        · rcases ok.own _ (PySem.mem_of_lookup hk) (.inl rfl) with e' | e'
          · obtain ⟨p, hp, hpy⟩ := List.mem_map.mp e'
            have e3 := ok.ix p hp
            have : p.1 = y := hpy
            rw [this] at e3
            exact absurd (List.mem_map.mpr ⟨p, hp, nodup_ix hN e3 e1⟩) hne
          · exact absurd (List.mem_of_getElem? e1) e'
        · exact absurd rfl (nc _ (PySem.mem_of_lookup hk))
        · exact ⟨hk, hk0⟩
      have e3 : Vis cenv.scope y := e3
      rcases e3 with e3 | e3 | e3
      · exact key _ e3 (.inl rfl)
      · exact key _ e3 (.inr (.inl rfl))
      · exact key _ e3 (.inr (.inr rfl))
    obtain ⟨m0, hn0, hl⟩ := I.loc
    have hvis : Vis X.env.scope y := (ok.free _ (PySem.mem_of_lookup hfr.1) rfl).elim (fun k => .inr (.inl k)) (fun k => .inr (.inr k))
    obtain ⟨w, r, q⟩ := hl i y av e1 e2 hvis
    refine ⟨w, r, .inr ⟨.inr hfr.2, ?_⟩⟩
    obtain ⟨c, h1, h2⟩ := look hfr.1
    rcases q with ⟨k, _⟩ | ⟨_, c', e', z⟩
    · have k : X.env.scope.names.lookup y = some .local := k
      rcases ok.free _ (PySem.mem_of_lookup hfr.1) rfl with k' | k' <;> rw [show X.env.scope.names.lookup y = _ from k'] at k <;> cases k
    · rw [h2] at e'; cases e'
      exact ⟨c, h1, z.keeps kp⟩
  · obtain ⟨w, z⟩ := I.cell y c (cm e).1
    exact ⟨w, z.keeps kp⟩
  · show H cenv.locals = none
    rw [hL]; exact I.hok.fresh (Nat.le_refl _)
  · have hp : p ∈ [(a, go)] ++ ([] : List (Addr × Obj)) := hp
    rw [List.append_nil] at hp
    rw [List.mem_singleton.mp hp]
    refine ⟨hgo, I.hok.fresh (Nat.le_of_lt ha), ?_, nof a (Nat.le_of_lt ha), hgd⟩
    show a ≠ cenv.locals
    rw [hL]; exact Nat.ne_of_gt ha
end
/-! ### its turns -/
/-- W at the turn i, at most n more -/
def GStep (J : It) (g : TG) (te : TE) (σ0 : L2.St) (vs : List Nat) (all : Bool) (Q : Bool → Hp → Prop) (W : Nat → Nat → Hp → Prop) : Prop := ∀ i n H', W i n H' →
  (J.stop i H' ∧ Q all H') ∨ (∃ n', n = n' + 1 ∧ J.go i H' ∧ ∀ x H'', J.yld i H' x H'' → g x σ0 H'' fun σ2 H3 => wipe σ2 vs = σ0 ∧ te σ2 H3 fun v H4 => ∃ b, v = .bl b ∧ (if b = all then W (i + 1) n' H4 else Q b H4))
def GEnd (Y : Cx) (Qa : Hp → Prop) (_ : Nat) (_ s₁ : Shared) : Prop := ∃ σ' H', Inv Y [] σ' H' s₁ ∧ Qa H'
def GYld (Y : Cx) (all : Bool) (Q : Bool → Hp → Prop) : Protocol := fun _ _ v s kap => ∃ b σ' H', v = .bool b ∧ Inv Y [] σ' H' s ∧ (if b = all then ∀ s'' : Shared, s''.heap = s.heap → s''.os = s.os → AllBare s''.gens → kap (.send .none) s'' else Q b H')
section
variable {Y : Cx} {A : Around} {scope : Scope} {elt tg iter : Expr} {gpos : Pos} {fp : List Addr} {a it : Addr} {go : Obj} {tn : Nat → Heap → Prop} {J : It} {g : TG} {te : TE} {all : Bool} {W : Nat → Nat → Hp → Prop} {Q : Bool → Hp → Prop} {σ0 : L2.St} {vs : List Nat}
theorem seg_loopG (hA : Y.A = A.over (.compLoop (.GeneratorExp elt [⟨tg, iter, [], 0⟩] scope gpos) 0 (.ref it) .none Y.env) []) (hex : Y.ex = fp) (hpn : Y.pn = [(a, go)]) (hxe : Y.xe = fun _ _ => False) (hc : Y.calm = true) (hco : Y.env.scope.isCoroutine = false)
    (T : Turn Y.prog Y.w Y.K tg J fp it tn) (pg : PG Y tg g) (pe : PE Y elt te) (haf : ∀ b ∈ fp, a ≠ b) (hW : GStep J g te σ0 vs all Q W) :
    ∀ (n i : Nat) (s₁ s : Shared) (H' : Hp), Inv Y [] σ0 H' s → tn i s.heap → (∀ b ∈ fp, H' b = none) → W i n H' →
      Seg (model Y.prog Y.w) A (fun n s₀ r s₁ => r = .ok .next ∧ GEnd Y (Q all) n s₀ s₁) (GYld Y all Q) n s₁
        (.compLoop (.GeneratorExp elt [⟨tg, iter, [], 0⟩] scope gpos) 0 (.ref it) .none Y.env) ((model Y.prog Y.w).den (.compLoop (.GeneratorExp elt [⟨tg, iter, [], 0⟩] scope gpos) 0 (.ref it) .none Y.env)) [] s := by
  have stat : ∀ {σ' : L2.St} {H' : Hp} {s' : Shared}, Inv Y [] σ' H' s' → (∀ b ∈ fp, H' b = none) → ∀ b ∈ fp, FpOk Y [] H' b := fun {σ' H' s'} I' hn b hb => by
    have hb2 : b ∈ Y.ex := by rw [hex]; exact hb
    refine ⟨hn b hb, (I'.ok.exf b hb2).1, I'.ok.exfs b hb2, .inl hb2, fun x c e => (I'.ok.exf b hb2).2 x c e, fun p hp => ?_⟩
    rw [hpn] at hp
    have : p = (a, go) := by simpa using hp
    rw [this]
    exact haf b hb
  intro n
  induction n with
  | zero =>
    intro i s₁ s H' I st fr w
    rcases hW i 0 H' w with ⟨stop, q⟩ | ⟨n', e, _⟩
    · show Seg _ A _ _ _ s₁ _ ((compTurn (.GeneratorExp elt [⟨tg, iter, [], 0⟩] scope gpos) 0 (.ref it) .none Y.env).onRaise (leaving Y.env)) [] s
      rw [compTurn_gen, Sem.onRaise_eq_wrap]
      refine seg_bind_wrap (wpAny_standAt ?_)
      have td := T.done Y rfl rfl rfl hc i [] s σ0 H' (fun _ _ => False) I (stat I fr) st stop
      rw [hA] at td
      refine seg_bind_wrap (thnF td fun r s6 ⟨hr, I6⟩ => ?_)
      subst hr
      exact seg_end (.ok .next) ⟨rfl, σ0, H', I6, q⟩
    · cases e
  | succ n ih =>
    intro i s₁ s H' I st fr w
    show Seg _ A _ _ _ s₁ _ ((compTurn (.GeneratorExp elt [⟨tg, iter, [], 0⟩] scope gpos) 0 (.ref it) .none Y.env).onRaise (leaving Y.env)) [] s
    rw [compTurn_gen, Sem.onRaise_eq_wrap]
    refine seg_bind_wrap (wpAny_standAt ?_)
    rcases hW i (n + 1) H' w with ⟨stop, q⟩ | ⟨n', e, gg, step⟩
    · have td := T.done Y rfl rfl rfl hc i [] s σ0 H' (fun _ _ => False) I (stat I fr) st stop
      rw [hA] at td
      refine seg_bind_wrap (thnF td fun r s6 ⟨hr, I6⟩ => ?_)
      subst hr
      exact seg_end (.ok .next) ⟨rfl, σ0, H', I6, q⟩
    · have e : n = n' := by omega
      subst e
      have ti := T.item Y rfl rfl rfl hc i [] s σ0 H' (fun _ _ => False) I (stat I fr) st gg
      rw [hA] at ti
      refine seg_bind_wrap (thnF ti fun r s6 ⟨u, hr, h6⟩ => ?_)
      subst hr
      refine seg_bind_wrap (thnF h6 fun _ s7 ⟨x, H7, I7, r7, y7, st7, n7⟩ => ?_)
      have I7' := I7.pinned (stat I7 n7) (T.obj _ _ st7)
      have hg := pg.run _ s7 _ H7 x u _ I7' r7 (step x H7 y7)
      rw [hA, hxe] at hg
      refine seg_bind_wrap (thnF hg fun _ s8 ⟨σ8, H8, I8, hw8, q8⟩ => ?_)
      refine seg_bind_wrap (?_ : wpAny _ _ (forIn [] true _) _ _ _)
      simp only [List.forIn_nil]
      refine wpAny_pure ?_
      simp only [if_true]
      have hy : ∀ v, yieldOut Y.env v = yieldValue v := fun v => by simp only [yieldOut, hco, Bool.false_eq_true, if_false]
      simp only [hy]
      rw [Sem.bind_eq_wrap', Sem.bind_eq_wrap', Sem.wrap_wrap, Sem.wrap_wrap]
      have he := pe.run _ s8 σ8 H8 _ I8 q8
      rw [hA, hxe] at he
      refine seg_wrap (thnF he fun v s9 ⟨xv, H9, I9, r9, b, eb, q9⟩ => ?_)
      subst eb
      have ev : v = .bool b := r9
      subst ev
      have pin' : ∀ c ∈ fp, ∀ o, s7.heap.get? c = some o → s9.heap.get? c = some o ∧ H9 c = none := fun c hc o e =>
        let z := I9.pin (c, o) (List.mem_append_right _ (List.mem_append_right _ (mem_pinsAt hc e)))
        ⟨z.1, z.2.1⟩
      have hl : σ0.length = σ8.length := by rw [← hw8, wipe_length]
      have I10 : Inv Y [] σ0 H9 s9 := (I9.unpinned (pins := [])).weak hl (fun j v e => by
        rw [← hw8] at e
        exact (wipe_some e).1)
      refine seg_at (seg_yield rfl rfl rfl ⟨b, σ0, H9, rfl, I10, ?_⟩)
      by_cases c : b = all
      · rw [if_pos c] at q9 ⊢
        intro s'' h1 h2 h3
        refine seg_again rfl (ih (i + 1) s'' s'' H9 (I10.call' (ch := []) h2 (Un.kept fun b o e => by rw [h1]; exact e) (I10.hok.kept fun b o e => by rw [h1]; exact e) h3 fun b z => by simp at z) (T.keep _ _ _ st7 fun c hc o e => by rw [h1]; exact (pin' c hc o e).1) (fun c hc => ?_) q9)
        obtain ⟨o, e, _⟩ := T.obj _ _ st7 c hc
        exact (pin' c hc o e).2
      · rw [if_neg c] at q9 ⊢
        exact q9
theorem seg_startG (hA : Y.A = A.over (.compLoop (.GeneratorExp elt [⟨tg, iter, [], 0⟩] scope gpos) 0 (.ref it) .none Y.env) []) (hex : Y.ex = fp) (hpn : Y.pn = [(a, go)]) (hxe : Y.xe = fun _ _ => False) (hc : Y.calm = true) (hco : Y.env.scope.isCoroutine = false)
    (T : Turn Y.prog Y.w Y.K tg J fp it tn) (pg : PG Y tg g) (pe : PE Y elt te) (haf : ∀ b ∈ fp, a ≠ b) (hW : GStep J g te σ0 vs all Q W) (n : Nat) (s₁ s : Shared) (H' : Hp) (I : Inv Y [] σ0 H' s) (st : tn 0 s.heap) (fr : ∀ b ∈ fp, H' b = none) (w : W 0 n H') :
    Seg (model Y.prog Y.w) A (fun n s₀ r s₁ => r = .ok .next ∧ GEnd Y (Q all) n s₀ s₁) (GYld Y all Q) n s₁
      (.compStart (.GeneratorExp elt [⟨tg, iter, [], 0⟩] scope gpos) 0 (.ref it) .none Y.env) ((model Y.prog Y.w).den (.compStart (.GeneratorExp elt [⟨tg, iter, [], 0⟩] scope gpos) 0 (.ref it) .none Y.env)) [] s := by
  have loop := seg_loopG hA hex hpn hxe hc hco T pg pe haf hW n 0 s₁ s H' I st fr w
  show Seg _ A _ _ _ s₁ _ ((compStart (.GeneratorExp elt [⟨tg, iter, [], 0⟩] scope gpos) 0 (.ref it) .none Y.env).onRaise (leaving Y.env)) [] s
  unfold compStart
  rw [Sem.onRaise_eq_wrap]
  show Seg _ A _ _ _ s₁ _ ((ask >>= _).wrap _ _ _ _) [] s
  refine seg_bind_wrap (wpAny_askSetting ?_)
  split
  · exact seg_again rfl loop
  · first
      | exact seg_bind_wrap (wpAny_rule (seg_bind_wrap (wpAny_standAt (seg_bind_wrap (T.self _ 0 s _ _ st (seg_again rfl loop))))))
      | (refine seg_bind_wrap (wpAny_rule ?_); show Seg _ A _ _ _ s₁ _ ((standAt iter.pos >>= _).wrap _ _ _ _) [] s; exact seg_bind_wrap (wpAny_standAt (seg_bind_wrap (T.self _ 0 s _ _ st (seg_again rfl loop)))))
end
end Oz

/-! Oz68: any and all over Oz67's generators; the generator expression made. -/
namespace Oz
open PySem PySem.Spec PyProof.Rows L2
variable [WD]
section
variable {Y : Cx} {A : Around} {a g : Nat} {Q : Bool → Hp → Prop} {R : Result → Shared → Prop}
theorem any_loopG (hh : A.handled = none) (hroom : A.depth < recursionLimit) (hgen : ∀ σ' H' s', Inv Y [] σ' H' s' → s'.heap.IsGen a g)
    (hfin : ∀ b σ' H' s' s'', Inv Y [] σ' H' s' → Q b H' → s''.os = s'.os → (∀ b o, s'.heap.get? b = some o → s''.heap.get? b = some o) → AllBare s''.gens → R (.ok (.ret (.bool b))) s'') :
    ∀ (n : Nat) (s : Shared), s.heap.IsGen a g → s.heap.NoLimit → (∃ gs, s.gens[g]? = some gs ∧ gs.Goes (model Y.prog Y.w) A.in1.in1 (fun n s₀ r s₁ => r = .ok .next ∧ GEnd Y (Q false) n s₀ s₁) (GYld Y false Q) n (.send .none) (s.setGen g .running)) →
      codeAny (model Y.prog Y.w) A (.builtin "any.loop" ⟨[.ref a], []⟩) R s := by
  intro n
  induction n with
  | zero =>
    intro s hg hl ⟨gs, hgs, hgo⟩
    refine codeAny_builtin F.entry_any_loop ?_
    rw [Around.under_plainId F.plain_any_loop _]
    show wpAny _ A.in1 (pyNext (.ref a) >>= _) _ _ s
    refine wpAny_bind ?_
    refine wpAny_pyNext_genexpQ (P := GEnd Y (Q false)) hh hl hroom hg hgs hgo (fun v s₁ gs' hb hv => ?_) (fun s₁ hp h' hk => ?_)
    · obtain ⟨b, σ', H', rfl, I, q⟩ := hv
      by_cases c : b = false
      · rw [if_pos c] at q
        exact (q s₁ rfl rfl I.bare).elim
      · rw [if_neg c] at q
        have c2 : b = true := by simpa using c
        subst c2
        refine wpAny_bind (wpAny_holding (wpAny_truthy_bool ?_))
        refine wpAny_bind (wpAny_letGo ?_)
        simp only [if_true]
        refine wpAny_bind (wpAny_rule (wpAny_pure ?_))
        exact hfin true σ' H' s₁ _ I q rfl (fun _ _ e => e) (L2.allBare_setGen I.bare hb)
    · obtain ⟨σ', H', I, q⟩ := hp
      refine wpAny_bind (wpAny_rule (wpAny_pure ?_))
      exact hfin false σ' H' s₁ _ I q rfl hk (L2.allBare_setGen I.bare rfl)
  | succ n ih =>
    intro s hg hl ⟨gs, hgs, hgo⟩
    have hsz : g + 1 ≤ s.gens.size := (Array.getElem?_eq_some_iff.mp hgs).1
    refine codeAny_builtin F.entry_any_loop ?_
    rw [Around.under_plainId F.plain_any_loop _]
    show wpAny _ A.in1 (pyNext (.ref a) >>= _) _ _ s
    refine wpAny_bind ?_
    refine GenW.wpAny_gsz hsz ?_
    refine wpAny_pyNext_genexpQ (P := GEnd Y (Q false)) hh hl hroom hg hgs hgo (fun v s₁ gs' hb hv => ?_) (fun s₁ hp h' hk => ?_)
    · intro hsz2
      rw [GenW.setGen_size] at hsz2
      obtain ⟨b, σ', H', rfl, I, q⟩ := hv
      refine wpAny_bind (wpAny_holding (wpAny_truthy_bool ?_))
      refine wpAny_bind (wpAny_letGo ?_)
      by_cases c : b = false
      · rw [if_pos c] at q
        subst c
        simp only [Bool.false_eq_true, if_false]
        refine wpAny_pure ⟨plainId_quiet F.plain_any_loop _, ih (s₁.setGen g gs') (hgen σ' H' s₁ I) I.nolimit ⟨gs', L2.setGen_at hsz2, ?_⟩⟩
        exact q ((s₁.setGen g gs').setGen g .running) rfl rfl (L2.allBare_setGen (s := s₁.setGen g gs') (L2.allBare_setGen I.bare hb) rfl)
      · rw [if_neg c] at q
        have c2 : b = true := by simpa using c
        subst c2
        simp only [if_true]
        refine wpAny_bind (wpAny_rule (wpAny_pure ?_))
        exact hfin true σ' H' s₁ _ I q rfl (fun _ _ e => e) (L2.allBare_setGen I.bare hb)
    · intro _
      obtain ⟨σ', H', I, q⟩ := hp
      refine wpAny_bind (wpAny_rule (wpAny_pure ?_))
      exact hfin false σ' H' s₁ _ I q rfl hk (L2.allBare_setGen I.bare rfl)
theorem all_loopG (hh : A.handled = none) (hroom : A.depth < recursionLimit) (hgen : ∀ σ' H' s', Inv Y [] σ' H' s' → s'.heap.IsGen a g)
    (hfin : ∀ b σ' H' s' s'', Inv Y [] σ' H' s' → Q b H' → s''.os = s'.os → (∀ b o, s'.heap.get? b = some o → s''.heap.get? b = some o) → AllBare s''.gens → R (.ok (.ret (.bool b))) s'') :
    ∀ (n : Nat) (s : Shared), s.heap.IsGen a g → s.heap.NoLimit → (∃ gs, s.gens[g]? = some gs ∧ gs.Goes (model Y.prog Y.w) A.in1.in1 (fun n s₀ r s₁ => r = .ok .next ∧ GEnd Y (Q true) n s₀ s₁) (GYld Y true Q) n (.send .none) (s.setGen g .running)) →
      codeAny (model Y.prog Y.w) A (.builtin "all.loop" ⟨[.ref a], []⟩) R s := by
  intro n
  induction n with
  | zero =>
    intro s hg hl ⟨gs, hgs, hgo⟩
    refine codeAny_builtin F.entry_all_loop ?_
    rw [Around.under_plainId F.plain_all_loop _]
    show wpAny _ A.in1 (pyNext (.ref a) >>= _) _ _ s
    refine wpAny_bind ?_
    refine wpAny_pyNext_genexpQ (P := GEnd Y (Q true)) hh hl hroom hg hgs hgo (fun v s₁ gs' hb hv => ?_) (fun s₁ hp h' hk => ?_)
    · obtain ⟨b, σ', H', rfl, I, q⟩ := hv
      by_cases c : b = true
      · rw [if_pos c] at q
        exact (q s₁ rfl rfl I.bare).elim
      · rw [if_neg c] at q
        have c2 : b = false := by simpa using c
        subst c2
        refine wpAny_bind (wpAny_holding (wpAny_truthy_bool ?_))
        refine wpAny_bind (wpAny_letGo ?_)
        simp only [Bool.false_eq_true, if_false]
        refine wpAny_bind (wpAny_rule (wpAny_pure ?_))
        exact hfin false σ' H' s₁ _ I q rfl (fun _ _ e => e) (L2.allBare_setGen I.bare hb)
    · obtain ⟨σ', H', I, q⟩ := hp
      refine wpAny_bind (wpAny_rule (wpAny_pure ?_))
      exact hfin true σ' H' s₁ _ I q rfl hk (L2.allBare_setGen I.bare rfl)
  | succ n ih =>
    intro s hg hl ⟨gs, hgs, hgo⟩
    have hsz : g + 1 ≤ s.gens.size := (Array.getElem?_eq_some_iff.mp hgs).1
    refine codeAny_builtin F.entry_all_loop ?_
    rw [Around.under_plainId F.plain_all_loop _]
    show wpAny _ A.in1 (pyNext (.ref a) >>= _) _ _ s
    refine wpAny_bind ?_
    refine GenW.wpAny_gsz hsz ?_
    refine wpAny_pyNext_genexpQ (P := GEnd Y (Q true)) hh hl hroom hg hgs hgo (fun v s₁ gs' hb hv => ?_) (fun s₁ hp h' hk => ?_)
    · intro hsz2
      rw [GenW.setGen_size] at hsz2
      obtain ⟨b, σ', H', rfl, I, q⟩ := hv
      refine wpAny_bind (wpAny_holding (wpAny_truthy_bool ?_))
      refine wpAny_bind (wpAny_letGo ?_)
      by_cases c : b = true
      · rw [if_pos c] at q
        subst c
        simp only [if_true]
        refine wpAny_pure ⟨plainId_quiet F.plain_all_loop _, ih (s₁.setGen g gs') (hgen σ' H' s₁ I) I.nolimit ⟨gs', L2.setGen_at hsz2, ?_⟩⟩
        exact q ((s₁.setGen g gs').setGen g .running) rfl rfl (L2.allBare_setGen (s := s₁.setGen g gs') (L2.allBare_setGen I.bare hb) rfl)
      · rw [if_neg c] at q
        have c2 : b = false := by simpa using c
        subst c2
        simp only [Bool.false_eq_true, if_false]
        refine wpAny_bind (wpAny_rule (wpAny_pure ?_))
        exact hfin false σ' H' s₁ _ I q rfl (fun _ _ e => e) (L2.allBare_setGen I.bare hb)
    · intro _
      obtain ⟨σ', H', I, q⟩ := hp
      refine wpAny_bind (wpAny_rule (wpAny_pure ?_))
      exact hfin true σ' H' s₁ _ I q rfl hk (L2.allBare_setGen I.bare rfl)
end
/-! ### the generator expression made -/
structure GRd (X : Cx) (pins : List (Addr × Obj)) (σ : L2.St) (all : Bool) (Q : VK) (a : Nat) (s5 : Shared) (Y : Cx) (n g : Nat) : Prop where
  pr : Y.prog = X.prog
  w : Y.w = X.w
  pin : ∀ σ' H' s', Inv Y [] σ' H' s' → s'.heap.IsGen a g
  gen : s5.heap.IsGen a g
  lim : s5.heap.NoLimit
  go : ∃ gs, s5.gens[g]? = some gs ∧ gs.Goes (model Y.prog Y.w) X.A.in1.in1 (fun n s₀ r s₁ => r = .ok .next ∧ GEnd Y (fun H' => Q (.bl all) H') n s₀ s₁) (GYld Y all fun b H' => Q (.bl b) H') n (.send .none) (s5.setGen g .running)
  fin : ∀ b σ' H' s' s'', Inv Y [] σ' H' s' → Q (.bl b) H' → s''.os = s'.os → (∀ b o, s'.heap.get? b = some o → s''.heap.get? b = some o) → AllBare s''.gens → EP X pins σ Q (.bool b) s''
def tGenX (P : Addr) (all : Bool) (wi : TI) (g : TG) (te : TE) (vs : List Nat) : TE := fun σ H Q => wi σ H fun J H1 => GxR.TabG H1 P ∧ ∀ H2, TabbedQ P H1 H2 → ∃ W : Nat → Nat → Hp → Prop, (∃ n, W 0 n H2) ∧ GStep J g te (wipe σ vs) vs all (fun b H' => Q (.bl b) H') W
section
variable {X : Cx} {pins : List (Addr × Obj)} {σ : L2.St} {H : Hp} {s : Shared}
theorem gen_makeX {all : Bool} {c P : Addr} {elt tg iter : Expr} {gpos : Pos} {scope : Scope} {own : List (Str × Nat)} {wi : TI} {g : TG} {te : TE} {k : Nat} {Q : VK} {Q' : Value → Shared → Prop}
    (hr : Room (k + 3) X.A) (TB : GxR.TabB X.base X.mg c P) (hcode : X.env.code = .ref c) (hN : X.N.Nodup) (ok : BlkOk X.N X.env.scope scope own) (nc : ∀ y ∈ scope.names, y.2 ≠ .cell) (hco : scope.isCoroutine = false) (h0 : scope.names.lookup (".0" : Str) = some NameKind.local)
    (hi : PI X tg iter wi) (hnp : nestP gpos = false)
    (hg : ∀ (A : Around) (s : Shared) (H : Hp) (cl : List (Str × Addr)) (C : Addr) (cd : Value) (bi : Addr) (fp : List Addr) (pn : List (Addr × Obj)), PG (genCx X A s H (genEnv scope cl C cd bi X.env) fp pn) tg g)
    (he : ∀ (A : Around) (s : Shared) (H : Hp) (cl : List (Str × Addr)) (C : Addr) (cd : Value) (bi : Addr) (fp : List Addr) (pn : List (Addr × Obj)), Room k A → PE (genCx X A s H (genEnv scope cl C cd bi X.env) fp pn) elt te)
    (hs : ∀ v, genFold iter X.env v = pure v) (I : Inv X pins σ H s) (h : tGenX P all wi g te (own.map (·.2)) σ H Q)
    (hQ : ∀ (a : Nat) (s5 : Shared) (Y : Cx) (n g : Nat), GRd X pins σ all Q a s5 Y n g → Q' (.ref a) s5) :
    wpAny (model X.prog X.w) X.A (eval (.GeneratorExp elt [⟨tg, iter, [], 0⟩] scope gpos) X.env) Q' X.xe s := by
  have hfree : ∀ y ∈ scope.names, y.2 = .free → ∃ c, X.env.cells.lookup y.1 = some c := fun y hy e => by
    rcases ok.free y hy e with k | k
    · exact I.ok.has _ (.inl k)
    · exact I.ok.has _ (.inr k)
  refine wpAny_GeneratorExp_make hco (closure_ok hfree) nc h0 ok.kind (by have := hr.dp; omega) ?_ hs
  refine thn (hi.run pins s σ H _ I h) fun xv s1 hx => thn hx fun itv s2 h2 => ?_
  obtain ⟨it, fp, tn, J, H1, rfl, I2, T, st2, f2, ⟨ps, hP, ht⟩, q⟩ := h2
  have hPs : s2.heap.get? P = some { cls := .none, data := .fields ps } := I2.hok P _ hP
  have hPlt : P < s2.heap.objs.size := Heap.lt_size hPs
  have cd : PySem.W.CodeHd s2.heap c P := TB.code.keeps fun b u e => I2.bk b u e
  refine ⟨I2.nolimit, ?_⟩
  have cont : ∀ (code : Value) (h3 : Heap) (tk : Nat) (ps' : Array Value), Heap.ExtBut P s2.heap h3 → s2.heap.objs.size ≤ h3.objs.size → h3.get? P = some { cls := .none, data := .fields ps' } → GrownF ps ps' →
      wpAny (model X.prog X.w) X.A (builtinsFor X.env.globals X.env.builtins) (fun bi s₄ => ∀ h', h'.Ns s₄.heap.objs.size (fun y => if y = ".0" then some (.ref it) else none) → Heap.SameBut s₄.heap.objs.size (s₄.heap.push { cls := .type "frame", data := .dict #[] }) h' →
          Q' (.ref h'.objs.size) { s₄ with
            gens := s₄.gens.push (.fresh (.compStart (.GeneratorExp elt [⟨tg, iter, [], 0⟩] scope gpos) 0 (.ref it) .none (genEnv scope (cloFrom X.env.cells scope.names []) s₄.heap.objs.size code bi X.env))),
            toks := s₄.toks + 1 + 1 + 1,
            heap := h'.push { cls := .type "generator", data := .fields #[.int s₄.gens.size 0, .str "<genexpr>" (s₄.toks + 1), .str (X.env.qual ++ "<genexpr>") (s₄.toks + 1 + 1)] } }) X.xe { s2 with heap := h3, toks := tk } := by
    intro code h3 tk ps' hx hsz hP3 hgr
    obtain ⟨bm, ob, e1, e2, e3, e4, e5, e6, e7, e8⟩ := TB.bm
    have keep3 : ∀ b u, b ≠ P → s2.heap.get? b = some u → h3.get? b = some u := fun b u hb e => hx b u hb e
    refine wpAny_builtinsFor (m := X.mg) (by rw [I2.ok.glob]; exact (I2.mod.glob.keeps I2.bk).extBut hx TB.gP) e1 e2 (keep3 _ _ e4 (I2.bk _ _ e5)) e6 e7 e8 ?_
    intro h' hn' hs'
    obtain ⟨more, em⟩ := hgr.1
    have I4 : Inv X pins σ (upd H1 P (.tbl ps')) { s2 with heap := h3, toks := tk } := by
      have := GxR.inv_tab (more := more) (h' := h3) (g' := s2.gens) (d' := s2.drawn) (t' := tk) I2 hP keep3 (by rw [← em]; exact hP3) I2.bare
      rw [← em] at this
      exact this
    obtain ⟨W, ⟨n, w0⟩, step⟩ := q _ (tabbed_upd hP hgr)
    have hfpP : ∀ b ∈ fp, b ≠ P := fun b hb z => by
      have := (f2 b hb).1
      rw [z, hP] at this
      cases this
    have st3 : tn 0 h3 := T.keep _ _ _ st2 fun b hb o e => keep3 b o (hfpP b hb) e
    have f4 : ∀ b ∈ fp, FpOk X pins (upd H1 P (.tbl ps')) b ∧ b < h3.objs.size := fun b hb => by
      obtain ⟨o, e, _⟩ := T.obj _ _ st3 b hb
      exact ⟨⟨by rw [upd_ne (hfpP b hb)]; exact (f2 b hb).1, (f2 b hb).2⟩, Heap.lt_size e⟩
    have hsz' : h'.objs.size = h3.objs.size + 1 := by rw [hs'.1, Heap.size_push]
    have keep' : ∀ b o, h3.get? b = some o → h'.get? b = some o := fun b o e => hs'.extBut b o (Nat.ne_of_lt (Heap.lt_size e)) (Heap.get?_push_of_some _ e)
    generalize hgo : ({ cls := .type "generator", data := .fields #[.int s2.gens.size 0, .str "<genexpr>" (tk + 1), .str (X.env.qual ++ "<genexpr>") (tk + 1 + 1)] } : Obj) = go
    have hgen : ∀ h : Heap, h.get? h'.objs.size = some go → h.IsGen h'.objs.size s2.gens.size := fun h e => by
      subst hgo
      exact ⟨_, _, _, e, rfl, rfl, rfl⟩
    have hgd : ∀ v, go.data ≠ .cell v := fun v q => by subst hgo; cases q
    have hpushed : (h'.push go).get? h'.objs.size = some go := by
      subst hgo
      exact Heap.get?_push_size _ rfl
    have keep5 : ∀ b o, h3.get? b = some o → (h'.push go).get? b = some o := fun b o e => Heap.get?_push_of_some _ (keep' b o e)
    have hbare : AllBare (s2.gens.push (.fresh (.compStart (.GeneratorExp elt [⟨tg, iter, [], 0⟩] scope gpos) 0 (.ref it) .none (genEnv scope (cloFrom X.env.cells scope.names []) h3.objs.size code builtinsNs X.env)))) := I2.bare.push rfl
    have hn5 : (h'.push go).Ns h3.objs.size (fun y => if y = ".0" then some (.ref it) else none) := hn'.push _
    have hbare' : AllBare (({ s2 with gens := s2.gens.push (.fresh (.compStart (.GeneratorExp elt [⟨tg, iter, [], 0⟩] scope gpos) 0 (.ref it) .none (genEnv scope (cloFrom X.env.cells scope.names []) h3.objs.size code builtinsNs X.env))), toks := tk + 1 + 1 + 1, heap := h'.push go } : Shared).setGen s2.gens.size .running).gens := L2.allBare_setGen hbare rfl
    have hA : (X.A.in1.in1.deeper (genEnv scope (cloFrom X.env.cells scope.names []) h3.objs.size code builtinsNs X.env)).frames = some (genEnv scope (cloFrom X.env.cells scope.names []) h3.objs.size code builtinsNs X.env :: X.stack) := by
      exact Around.frames_deeper (A := X.A.in1.in1) I2.ok.frames
    have IY := gen_start (A := X.A.in1.in1.deeper (genEnv scope (cloFrom X.env.cells scope.names []) h3.objs.size code builtinsNs X.env)) (code := code) (bi := builtinsNs) (a := h'.objs.size) (go := go) (h' := h'.push go) (t' := tk + 1 + 1 + 1) I4 ok hN nc hr.hd hA rfl f4 hn5 keep5 (by rw [hsz']; exact Nat.lt_succ_self _) hpushed hgd hbare'
    refine hQ _ _ (genCx X (X.A.in1.in1.deeper (genEnv scope (cloFrom X.env.cells scope.names []) h3.objs.size code builtinsNs X.env)) { s2 with heap := h3, toks := tk } (upd H1 P (.tbl ps')) (genEnv scope (cloFrom X.env.cells scope.names []) h3.objs.size code builtinsNs X.env) fp [(h'.objs.size, go)]) n s2.gens.size ⟨rfl, rfl, fun σ' H' s' I' => hgen _ (I'.pin (h'.objs.size, go) (List.mem_append_left _ (List.mem_singleton.mpr rfl))).1, hgen _ hpushed, I4.nolimit.keeps keep5, ⟨_, Array.getElem?_push_size .., rfl, ?_⟩, fun b σ' H' s' s'' I' q' h1 h2 h3 => ?_⟩
    · refine seg_startG (Y := (genCx X (X.A.in1.in1.deeper (genEnv scope (cloFrom X.env.cells scope.names []) h3.objs.size code builtinsNs X.env)) { s2 with heap := h3, toks := tk } (upd H1 P (.tbl ps')) (genEnv scope (cloFrom X.env.cells scope.names []) h3.objs.size code builtinsNs X.env) fp [(h'.objs.size, go)])) (A := X.A.in1.in1) (fp := fp) (a := h'.objs.size) (go := go) (vs := own.map (·.2)) (σ0 := wipe σ (own.map (·.2))) over_gen.symm rfl rfl rfl rfl hco T (hg _ _ _ _ _ _ _ _ _) (he _ _ _ _ _ _ _ _ _ (((hr.in1).in1).deeper _)) (fun b hb => Nat.ne_of_gt (Nat.lt_of_lt_of_le (f4 b hb).2 (by omega))) step n _ _ _ IY (T.keep 0 h3 (h'.push go) st3 fun b hb o e => keep5 b o e) (fun b hb => (f4 b hb).1.1) w0
    · have J := I4.call' (s' := s'') (ch := fp) (h1.trans I'.os) (I'.base.trans (Un.kept h2)) (I'.hok.kept h2) h3 fun b hb => ⟨(f4 b hb).1.2.2.2.1, (f4 b hb).1.2.1, (f4 b hb).1.2.2.2.2.1, (f4 b hb).1.2.2.2.2.2⟩
      exact ⟨.bl b, H', J, rfl, q'⟩
  cases hf : codeAmong gpos ps.toList with
  | none =>
    refine wpAny_genexprCodeX hcode (cd.code hPs ht) (cd.tab hPs) hf fun c' h' tk hx hge hlt hco' _ htab' _ => ?_
    exact cont _ h' tk _ hx (Nat.le_trans hge (Nat.le_of_lt hlt)) htab'.2 (GrownF.snoc ht hnp)
  | some cv =>
    refine wpAny_genexprCode_hit hcode (cd.code hPs ht) hf ?_
    exact cont cv s2.heap s2.toks ps (Heap.ExtBut.refl _ _) (Nat.le_refl _) hPs (GrownF.refl ht)
end
end Oz

/-! Oz69: any(e for t in xs), all(e for t in xs), e any expression: rules. -/
namespace Oz
open PySem PySem.Spec PyProof.Rows L2
variable [WD]
section
variable {X : Cx} {pins : List (Addr × Obj)} {σ : L2.St} {H : Hp} {s : Shared}
theorem pe_anyX {c P : Addr} {elt tg iter : Expr} {p pos gpos : Pos} {scope : Scope} {own : List (Str × Nat)} {wi : TI} {g : TG} {te : TE} {k : Nat}
    (hr : Room (k + 3) X.A) (hga : Gl X "any") (hm : X.mg "any" = none) (TB : GxR.TabB X.base X.mg c P) (hcode : X.env.code = .ref c) (hN : X.N.Nodup) (ok : BlkOk X.N X.env.scope scope own) (nc : ∀ y ∈ scope.names, y.2 ≠ .cell) (hco : scope.isCoroutine = false) (h0 : scope.names.lookup (".0" : Str) = some NameKind.local)
    (hi : PI X tg iter wi) (hnp : nestP gpos = false)
    (hg : ∀ (A : Around) (s : Shared) (H : Hp) (cl : List (Str × Addr)) (C : Addr) (cd : Value) (bi : Addr) (fp : List Addr) (pn : List (Addr × Obj)), PG (genCx X A s H (genEnv scope cl C cd bi X.env) fp pn) tg g)
    (hel : ∀ (A : Around) (s : Shared) (H : Hp) (cl : List (Str × Addr)) (C : Addr) (cd : Value) (bi : Addr) (fp : List Addr) (pn : List (Addr × Obj)), Room k A → PE (genCx X A s H (genEnv scope cl C cd bi X.env) fp pn) elt te)
    (hs : ∀ v, genFold iter X.env v = pure v)
    (he : starEach [.GeneratorExp elt [⟨tg, iter, [], 0⟩] scope gpos] X.env = (false, eval (.GeneratorExp elt [⟨tg, iter, [], 0⟩] scope gpos) X.env) :: starEach [] X.env := by rfl) :
    PE X (.Call (.Name "any" p) [.GeneratorExp elt [⟨tg, iter, [], 0⟩] scope gpos] [] pos) (tGenX P false wi g te (own.map (·.2))) := by
  refine ⟨fun pins s σ H Q I h => ?_⟩
  refine wpAny_Call_Name_kw (ld_blt I hga hm boot_any ?_)
  refine PyProof.Rows.callWith_builtin1 ?_ he (by rfl)
  rw [he]
  show wpAny _ _ (spliced ((false, eval (.GeneratorExp elt [⟨tg, iter, [], 0⟩] scope gpos) X.env) :: backTo pos (starEach [] X.env))) _ _ s
  refine Calls.spliced_cons (gen_makeX (all := false) hr TB hcode hN ok nc hco h0 hi hnp hg hel hs I h fun a s5 Y n g G => ?_)
  refine Calls.spliced_nil ?_
  refine call_function_tree F.kind_any F.plain_any F.entry_any (F.args_any1 _) ?_
  unfold Builtin.«any»
  refine wpAny_bind (m := oneArg "any" _) (wpAny_pure ?_)
  refine wpAny_bind (wpAny_pyIter_gen G.gen ?_)
  refine wpAny_pure ⟨plainId_quiet F.plain_any_loop _, ?_⟩
  have e1 := G.pr
  have e2 := G.w
  rw [← e1, ← e2]
  refine any_loopG (Y := Y) (Q := fun b H' => Q (.bl b) H') hr.hd (by have := hr.dp; omega) G.pin (fun b σ' H' s' s'' I' q h1 h2 h3 => ?_) n s5 G.gen G.lim G.go
  exact G.fin b σ' H' s' s'' I' q h1 h2 h3
theorem pe_allX {c P : Addr} {elt tg iter : Expr} {p pos gpos : Pos} {scope : Scope} {own : List (Str × Nat)} {wi : TI} {g : TG} {te : TE} {k : Nat}
    (hr : Room (k + 3) X.A) (hga : Gl X "all") (hm : X.mg "all" = none) (hb : bootBuiltins "all" = some (.builtin "all")) (TB : GxR.TabB X.base X.mg c P) (hcode : X.env.code = .ref c) (hN : X.N.Nodup) (ok : BlkOk X.N X.env.scope scope own) (nc : ∀ y ∈ scope.names, y.2 ≠ .cell) (hco : scope.isCoroutine = false) (h0 : scope.names.lookup (".0" : Str) = some NameKind.local)
    (hi : PI X tg iter wi) (hnp : nestP gpos = false)
    (hg : ∀ (A : Around) (s : Shared) (H : Hp) (cl : List (Str × Addr)) (C : Addr) (cd : Value) (bi : Addr) (fp : List Addr) (pn : List (Addr × Obj)), PG (genCx X A s H (genEnv scope cl C cd bi X.env) fp pn) tg g)
    (hel : ∀ (A : Around) (s : Shared) (H : Hp) (cl : List (Str × Addr)) (C : Addr) (cd : Value) (bi : Addr) (fp : List Addr) (pn : List (Addr × Obj)), Room k A → PE (genCx X A s H (genEnv scope cl C cd bi X.env) fp pn) elt te)
    (hs : ∀ v, genFold iter X.env v = pure v)
    (he : starEach [.GeneratorExp elt [⟨tg, iter, [], 0⟩] scope gpos] X.env = (false, eval (.GeneratorExp elt [⟨tg, iter, [], 0⟩] scope gpos) X.env) :: starEach [] X.env := by rfl) :
    PE X (.Call (.Name "all" p) [.GeneratorExp elt [⟨tg, iter, [], 0⟩] scope gpos] [] pos) (tGenX P true wi g te (own.map (·.2))) := by
  refine ⟨fun pins s σ H Q I h => ?_⟩
  refine wpAny_Call_Name_kw (ld_blt I hga hm hb ?_)
  refine PyProof.Rows.callWith_builtin1 ?_ he (by rfl)
  rw [he]
  show wpAny _ _ (spliced ((false, eval (.GeneratorExp elt [⟨tg, iter, [], 0⟩] scope gpos) X.env) :: backTo pos (starEach [] X.env))) _ _ s
  refine Calls.spliced_cons (gen_makeX (all := true) hr TB hcode hN ok nc hco h0 hi hnp hg hel hs I h fun a s5 Y n g G => ?_)
  refine Calls.spliced_nil ?_
  refine call_function_tree F.kind_all F.plain_all F.entry_all (F.args_all1 _) ?_
  unfold Builtin.«all»
  refine wpAny_bind (m := oneArg "all" _) (wpAny_pure ?_)
  refine wpAny_bind (wpAny_pyIter_gen G.gen ?_)
  refine wpAny_pure ⟨plainId_quiet F.plain_all_loop _, ?_⟩
  have e1 := G.pr
  have e2 := G.w
  rw [← e1, ← e2]
  refine all_loopG (Y := Y) (Q := fun b H' => Q (.bl b) H') hr.hd (by have := hr.dp; omega) G.pin (fun b σ' H' s' s'' I' q h1 h2 h3 => ?_) n s5 G.gen G.lim G.go
  exact G.fin b σ' H' s' s'' I' q h1 h2 h3
end
/-! ### its mirror -/
def anyE (all : Bool) (g : Tgx) (p : Px) (ρ0 : Ev) : List R → Option Bool
  | [] => some all
  | r :: rs => (match g r ρ0 with
    | none => none
    | some ρ1 => (match p ρ1 with
      | .ok ⟨_, .bool b⟩ => if b = all then anyE all g p ρ0 rs else some b
      | _ => none))
def pAnyX (all : Bool) (vs : List Nat) (src : Src) (g : Tgx) (p : Px) : Px := fun ρ => if nov ρ = true then (src ρ).bind fun rs => (match anyE all g p (wipeE ρ vs) rs with
  | some b => .ok ⟨.imm, .bool b⟩
  | none => .bad) else .bad
theorem wipe_wipeX {σ : L2.St} {vs : List Nat} : L2.wipe (L2.wipe σ vs) vs = L2.wipe σ vs := by
  apply List.ext_getElem?
  intro j
  by_cases hj : j ∈ vs
  · by_cases hl : j < σ.length
    · rw [wipe_in hj hl, wipe_in hj (by rw [wipe_length]; exact hl)]
    · rw [List.getElem?_eq_none (by rw [wipe_length, wipe_length]; omega), List.getElem?_eq_none (by rw [wipe_length]; omega)]
  · rw [wipe_out hj]
section
variable {X : Cx} {E : XK} {P : Addr} {all : Bool} {vs is : List Nat} {w : TI} {src : Src} {t : TG} {g : Tgx} {p : Px} {σ : L2.St} {H : Hp} {Q : VK}
theorem genX_ok (hP : P ∈ tabsK X.K) (ik : IOc X.K E w src) (gk : GOc X.K is t g) (hv : ∀ i ∈ is, i ∈ vs) (h : tP X.K E (pAnyX all vs src g p) σ H Q) : tGenX P all w t (tP X.K E0 p) vs σ H Q := by
  obtain ⟨Z, O, ρ, F, rl, h⟩ := h
  refine ik σ H _ ⟨Z, O, ρ, F, rl, ?_⟩
  unfold pAnyX at h
  by_cases nv : nov ρ = true
  · rw [if_pos nv] at h
    cases e : src ρ with
    | bad => rw [e] at h; exact h.elim
    | exc c fs => rw [e] at h; exact h
    | ok rs =>
      rw [e] at h
      have h1 : ResK X.K E [] Z O H (match anyE all g p (wipeE ρ vs) rs with
        | some b => .ok ⟨.imm, .bool b⟩
        | none => .bad) Q := h
      intro J H1 Z1 O1 x1 g1 wl
      have rl1 := rl.ext x1 g1
      have tg := (rl1.tb P hP).1
      refine ⟨tg, fun H2 t2 => ?_⟩
      obtain ⟨x2, g2⟩ := rl1.tabbed tg t2
      obtain ⟨Fw, rlw, sbw⟩ := (rl1.ext x2 g2).wipe vs
      cases e2 : anyE all g p (wipeE ρ vs) rs with
      | none => rw [e2] at h1; exact h1.elim
      | some b0 =>
        rw [e2] at h1
        refine ⟨fun i n H' => n = rs.length - i ∧ i ≤ rs.length ∧ ∃ Z3 O3, Good Z3 O3 H' ∧ Ext [] Z1 O1 H1 Z3 O3 H' ∧ Rel X.K Z3 O3 H' (L2.wipe σ vs) (wipeE ρ vs) Fw ∧ ∃ b, anyE all g p (wipeE ρ vs) (rs.drop i) = some b ∧ OkK X.K [] Z O H ⟨.imm, .bool b⟩ Q,
          ⟨rs.length, by simp, Nat.zero_le _, Z1, O1, g2, x2, rlw, b0, by rw [List.drop_zero, e2], h1⟩, ?_⟩
        rintro i n H' ⟨en, hi, Z3, O3, g3, x3, rl3, b, hm, hq⟩
        obtain ⟨w1, w2⟩ := wl Z3 O3 H' g3 x3.z x3.o (fun a o q _ n => x3.h.s a o q n) i hi
        by_cases hlt : i < rs.length
        · obtain ⟨go, yl⟩ := w2 rs[i] (List.getElem?_eq_getElem hlt)
          have ed : rs.drop i = rs[i] :: rs.drop (i + 1) := List.drop_eq_getElem_cons hlt
          rw [ed] at hm
          refine .inr ⟨rs.length - (i + 1), by omega, go, fun x H'' hy => ?_⟩
          obtain ⟨Z4, O4, x4, g4, r4⟩ := yl x H'' hy
          have rl4 := rl3.ext x4 g4
          unfold anyE at hm
          cases z : g rs[i] (wipeE ρ vs) with
          | none => simp only [z] at hm; cases hm
          | some ρ1 =>
            simp only [z] at hm
            refine gk Z4 O4 H'' (L2.wipe σ vs) (wipeE ρ vs) Fw x rs[i] ρ1 rl4 r4 z _ fun σ1 F5 rl5 sb5 wp5 => ?_
            refine ⟨(wp5 vs hv).trans wipe_wipeX, Z4, O4, ρ1, F5, rl5, ?_⟩
            cases ep : p ρ1 with
            | bad => simp only [ep] at hm; cases hm
            | exc c fs => simp only [ep] at hm; cases hm
            | ok y =>
              obtain ⟨ys, yd⟩ := y
              cases yd with
              | bool b' =>
                simp only [ep] at hm
                intro v H7 Z7 O7 G7 x7 g7 q7 n7 f7
                have lk := q7.look g7
                cases lk
                refine ⟨b', rfl, ?_⟩
                by_cases c : b' = all
                · rw [if_pos c] at hm ⊢
                  exact ⟨rfl, hlt, Z7, O7, g7, (x3.trans0 x4).trans0 x7, rl4.ext x7 g7, b, hm, hq⟩
                · rw [if_neg c] at hm ⊢
                  cases hm
                  exact hq _ H7 Z7 O7 [] (x1.trans0 ((x3.trans0 x4).trans0 x7)) g7 ⟨.bl _, rfl⟩ List.nodup_nil fun a ha => by cases ha
              | _ => simp only [ep] at hm; cases hm
        · have ei : i = rs.length := by omega
          rw [List.drop_of_length_le (by omega)] at hm
          have eb : all = b := Option.some.inj hm
          subst eb
          exact .inl ⟨w1 ei, hq _ H' Z3 O3 [] (x1.trans0 x3) g3 ⟨.bl _, rfl⟩ List.nodup_nil fun a ha => by cases ha⟩
  · rw [if_neg nv] at h
    exact h.elim
end
section
variable {X : Cx} {E : XK} {c P : Addr} {elt tg iter : Expr} {pf pos gpos : Pos} {scope : Scope} {own : List (Str × Nat)} {is : List Nat} {w : TI} {src : Src} {t : TG} {g : Tgx} {p : Px} {k : Nat}
theorem s_anyX (hP : P ∈ tabsK X.K) (hr : Room (k + 3) X.A) (hga : Gl X "any") (hm : X.mg "any" = none) (TB : GxR.TabB X.base X.mg c P) (hcode : X.env.code = .ref c) (hN : X.N.Nodup) (hi : PI X tg iter w) (ik : IOc X.K E w src) (ok : BlkOk X.N X.env.scope scope own) (gk : GOc X.K is t g) (hv : ∀ i ∈ is, i ∈ own.map (·.2))
    (hg : ∀ (A : Around) (s : Shared) (H : Hp) (cl : List (Str × Addr)) (C : Addr) (cd : Value) (bi : Addr) (fp : List Addr) (pn : List (Addr × Obj)), PG (genCx X A s H (genEnv scope cl C cd bi X.env) fp pn) tg t)
    (hel : ∀ (A : Around) (s : Shared) (H : Hp) (cl : List (Str × Addr)) (C : Addr) (cd : Value) (bi : Addr) (fp : List Addr) (pn : List (Addr × Obj)), Room k A → PE (genCx X A s H (genEnv scope cl C cd bi X.env) fp pn) elt (tP X.K E0 p))
    (nc : (scope.names.all fun y => match y.2 with | .cell => false | _ => true) = true := by kernel_rfl) (hco : scope.isCoroutine = false := by rfl) (h0 : scope.names.lookup (".0" : Str) = some NameKind.local := by rfl) (hnp : nestP gpos = false := by decide)
    (hs : ∀ v, genFold iter X.env v = pure v := by exact fun _ => rfl)
    (he : starEach [.GeneratorExp elt [⟨tg, iter, [], 0⟩] scope gpos] X.env = (false, eval (.GeneratorExp elt [⟨tg, iter, [], 0⟩] scope gpos) X.env) :: starEach [] X.env := by rfl) :
    PE X (.Call (.Name "any" pf) [.GeneratorExp elt [⟨tg, iter, [], 0⟩] scope gpos] [] pos) (tP X.K E (pAnyX false (own.map (·.2)) src g p)) :=
  (pe_anyX hr hga hm TB hcode hN ok (fun y hy e => by have := List.all_eq_true.mp nc y hy; rw [e] at this; cases this) hco h0 hi hnp hg hel hs he).imp fun _ _ _ h => genX_ok hP ik gk hv h
theorem s_allX (hP : P ∈ tabsK X.K) (hr : Room (k + 3) X.A) (hga : Gl X "all") (hm : X.mg "all" = none) (hb : bootBuiltins "all" = some (.builtin "all")) (TB : GxR.TabB X.base X.mg c P) (hcode : X.env.code = .ref c) (hN : X.N.Nodup) (hi : PI X tg iter w) (ik : IOc X.K E w src) (ok : BlkOk X.N X.env.scope scope own) (gk : GOc X.K is t g) (hv : ∀ i ∈ is, i ∈ own.map (·.2))
    (hg : ∀ (A : Around) (s : Shared) (H : Hp) (cl : List (Str × Addr)) (C : Addr) (cd : Value) (bi : Addr) (fp : List Addr) (pn : List (Addr × Obj)), PG (genCx X A s H (genEnv scope cl C cd bi X.env) fp pn) tg t)
    (hel : ∀ (A : Around) (s : Shared) (H : Hp) (cl : List (Str × Addr)) (C : Addr) (cd : Value) (bi : Addr) (fp : List Addr) (pn : List (Addr × Obj)), Room k A → PE (genCx X A s H (genEnv scope cl C cd bi X.env) fp pn) elt (tP X.K E0 p))
    (nc : (scope.names.all fun y => match y.2 with | .cell => false | _ => true) = true := by kernel_rfl) (hco : scope.isCoroutine = false := by rfl) (h0 : scope.names.lookup (".0" : Str) = some NameKind.local := by rfl) (hnp : nestP gpos = false := by decide)
    (hs : ∀ v, genFold iter X.env v = pure v := by exact fun _ => rfl)
    (he : starEach [.GeneratorExp elt [⟨tg, iter, [], 0⟩] scope gpos] X.env = (false, eval (.GeneratorExp elt [⟨tg, iter, [], 0⟩] scope gpos) X.env) :: starEach [] X.env := by rfl) :
    PE X (.Call (.Name "all" pf) [.GeneratorExp elt [⟨tg, iter, [], 0⟩] scope gpos] [] pos) (tP X.K E (pAnyX true (own.map (·.2)) src g p)) :=
  (pe_allX hr hga hm hb TB hcode hN ok (fun y hy e => by have := List.all_eq_true.mp nc y hy; rw [e] at this; cases this) hco h0 hi hnp hg hel hs he).imp fun _ _ _ h => genX_ok hP ik gk hv h
end
@[simp] theorem x_anyX {all : Bool} {vs : List Nat} {src : Src} {g : Tgx} {p : Px} {ρ : Ev} : pAnyX all vs src g p ρ = if nov ρ = true then (src ρ).bind fun rs => (match anyE all g p (wipeE ρ vs) rs with
  | some b => .ok ⟨.imm, .bool b⟩
  | none => .bad) else .bad := id rfl
/-- the elements' answers -/
theorem anyE_all {α : Type} {g : Tgx} {p : Px} {ρ0 : Ev} {item : α → R} {f : α → Bool} : ∀ {xs : List α}, (∀ x ∈ xs, ∃ ρ1 s, g (item x) ρ0 = some ρ1 ∧ p ρ1 = .ok ⟨s, .bool (f x)⟩) → anyE true g p ρ0 (xs.map item) = some (xs.all f)
  | [], _ => rfl
  | x :: xs, h => by
    obtain ⟨ρ1, s, h1, h2⟩ := h x (List.mem_cons_self ..)
    have ih := anyE_all (xs := xs) fun y hy => h y (List.mem_cons_of_mem _ hy)
    simp only [List.map_cons, anyE, h1, h2, List.all_cons]
    cases q : f x with
    | true => simp [ih]
    | false => simp
theorem anyE_any {α : Type} {g : Tgx} {p : Px} {ρ0 : Ev} {item : α → R} {f : α → Bool} : ∀ {xs : List α}, (∀ x ∈ xs, ∃ ρ1 s, g (item x) ρ0 = some ρ1 ∧ p ρ1 = .ok ⟨s, .bool (f x)⟩) → anyE false g p ρ0 (xs.map item) = some (xs.any f)
  | [], _ => rfl
  | x :: xs, h => by
    obtain ⟨ρ1, s, h1, h2⟩ := h x (List.mem_cons_self ..)
    have ih := anyE_any (xs := xs) fun y hy => h y (List.mem_cons_of_mem _ hy)
    simp only [List.map_cons, anyE, h1, h2, List.any_cons]
    cases q : f x with
    | true => simp
    | false => simp [ih]
end Oz

/-! Oz70: zip of two lists, for comprehensions and generator expressions. -/
namespace Oz
open PySem PySem.Spec L2
open PyProof.Rows hiding St
variable [WD]
def zpR (r r' : R) : R := ⟨if r.s = .imm ∧ r'.s = .imm then .imm else .view, .tuple [r.d, r'.d]⟩
section
variable {K : PySem.W.Frag} {E : XK} {Z O H Z' O' H' : Hp} {G G' : List Addr}
end
def srcZ (p q : Px) : Src := fun ρ => (p ρ).bind fun r => (q ρ).bind fun r' => match r.d, r'.d with
  | .list ds, .list ds' => .ok (List.zipWith zpR (ds.map (Oz.sub r.s)) (ds'.map (Oz.sub r'.s)))
  | _, _ => .bad
section
variable {K : PySem.W.Frag} {E : XK}
end
@[simp] theorem x_srcZ {p q : Px} {ρ : Ev} : srcZ p q ρ = ((p ρ).bind fun r => (q ρ).bind fun r' => match r.d, r'.d with
  | .list ds, .list ds' => .ok (List.zipWith zpR (ds.map (Oz.sub r.s)) (ds'.map (Oz.sub r'.s)))
  | _, _ => .bad) := id rfl
end Oz

/-! Oz71: max(l, default=i) of a list of ints. -/
namespace Oz
open PySem PySem.Spec L2 PySem.Calls PySem.W
open PyProof.Rows hiding St
variable [WD]
noncomputable section
def mxI (i : Int) : List Int → Int
  | [] => i
  | n :: ns => ns.foldl max n
end
noncomputable def pMaxDf (i : Int) (p : Px) : Px := fun ρ => (p ρ).bind fun r => match r.d with
  | .list ds => (match intsD ds with
    | some ns => .ok ⟨.imm, .int (mxI i ns)⟩
    | none => .bad)
  | _ => .bad
section
variable {X : Cx} {E : XK} {p0 pos kpos cpos : Pos} {e : Expr} {p : Px} {i : Int} {j : Option Str}
end
@[simp] theorem x_maxDf {i : Int} {p : Px} {ρ : Ev} : pMaxDf i p ρ = ((p ρ).bind fun r => match r.d with
  | .list ds => (match intsD ds with
    | some ns => .ok ⟨.imm, .int (mxI i ns)⟩
    | none => .bad)
  | _ => .bad) := id rfl
end Oz

/-! Oz72: while, with at most so many turns. -/
namespace Oz
open PySem PySem.Spec L2
open PyProof.Rows hiding St
variable [WD]
def whileS (t : Tx) (b : Stx) : Nat → Ev → SR
  | 0, _ => .bad
  | n + 1, ρ => (match t ρ with
    | .bad => .bad
    | .exc c fs => .exc c fs ρ
    | .ok false => .next ρ
    | .ok true => (match b ρ with
      | .next ρ' => whileS t b n ρ'
      | x => x))
def sWhile (n : Nat) (t : Tx) (b : Stx) : Stx := fun ρ => whileS t b n ρ
@[simp] theorem x_while {n : Nat} {t : Tx} {b : Stx} {ρ : Ev} : sWhile n t b ρ = whileS t b n ρ := id rfl
end Oz

namespace Oz
open PySem PySem.Spec L2
open PyProof.Rows hiding St
variable [WD]
/-! ### a list's display that lasts -/
def pLstF (ps : List Px) : Px := fun ρ => (evs ps ρ).bind fun rs => match frzs rs with
  | some ds => if ds.length ≤ sizeLine then .ok ⟨.imm, .list ds⟩ else .bad
  | none => .bad
section
variable {X : Cx} {E : XK} {es : List Expr} {ps : List Px} {pos : Pos}
theorem s_lstF (h : PA X es (tA X.K E ps)) : PE X (.List es pos) (tP X.K E (pLstF ps)) := by
  refine (pe_lst h).imp fun σ H Q h => ?_
  refine tA_bind h fun Z O H1 G vs rs g q nd fo h2 tb => ?_
  cases e : frzs rs with
  | none => rw [e] at h2; exact h2.elim
  | some ds =>
    rw [e] at h2
    have h3 : ResK X.K E G Z O H1 (if ds.length ≤ sizeLine then .ok ⟨.imm, .list ds⟩ else .bad) Q := h2
    have rz := frzs_ok g q e
    by_cases l : ds.length ≤ sizeLine
    · rw [if_pos l] at h3
      exact ⟨by rw [rz.length]; exact l, fun p np => OkK.lstF g h3 rz np⟩
    · rw [if_neg l] at h3
      exact h3.elim
end
@[simp] theorem x_lstF {ps : List Px} {ρ : Ev} : pLstF ps ρ = ((evs ps ρ).bind fun rs => match frzs rs with | some ds => if ds.length ≤ sizeLine then .ok ⟨.imm, .list ds⟩ else .bad | none => .bad) := id rfl
end Oz

/-! Oz74: t[::-1] of a tuple. -/
namespace Oz
open PySem PySem.Spec L2 HT
open PyProof.Rows hiding St
section
variable {prog : Program} {w : World} {A : Around} {E : Value → Shared → Prop} {s : Shared}
theorem places_rev (n : Nat) : Builtin.Slice.slicePlaces ((n : Int) - 1) (-1) (-1) = n := by
  unfold Builtin.Slice.slicePlaces
  rw [if_neg (by decide)]
  by_cases c : (n : Int) - 1 > -1
  · rw [if_pos c]
    have : ((n : Int) - 1 - -1 - 1) / (- -1) + 1 = n := by
      have e : (- -1 : Int) = 1 := rfl
      rw [e, Int.ediv_one]
      omega
    rw [this]
    omega
  · rw [if_neg c]
    have : n = 0 := by omega
    rw [this]; rfl
theorem adjust_rev (n : Nat) : Builtin.Slice.sliceAdjust none none (-1) (n : Int) = ((n : Int) - 1, -1) := by
  unfold Builtin.Slice.sliceAdjust
  simp
theorem sliceApplied_rev {sl : Addr} {vl vu vs : Value} {n : Nat} {Q : Int × Int × Nat → Shared → Prop} (hs : s.heap.IsSliceOf sl vl vu vs) (pl : IsPart vl none) (pu : IsPart vu none) (ps : IsPart vs (some (-1)))
    (h : Q ((n : Int) - 1, -1, n) s) : wpAny (model prog w) A (Builtin.Slice.sliceApplied (.ref sl) (pure (n : Int))) Q E s := by
  obtain ⟨os, hos, hcs, hds⟩ := id hs
  unfold Builtin.Slice.sliceApplied Builtin.Slice.sliceFields
  refine wpAny_bind (wpAny_bind (wpAny_field hos hds (x := vl) rfl (wpAny_bind (wpAny_field hos hds (x := vu) rfl (wpAny_bind (wpAny_field hos hds (x := vs) rfl (wpAny_pure ?_)))))))
  refine wpAny_bind (slicePart_ ps ?_)
  show wpAny _ _ (if ((-1 : Int) == 0) = true then _ else _) _ _ s
  rw [if_neg (by decide)]
  refine wpAny_bind (slicePart_ pl (wpAny_bind (slicePart_ pu (wpAny_bind (wpAny_pure ?_)))))
  show wpAny _ _ (match Builtin.Slice.sliceAdjust none none (-1) (n : Int) with | (lo, hi) => pure (lo, (-1 : Int), Builtin.Slice.slicePlaces lo hi (-1))) _ _ s
  rw [adjust_rev n]
  show wpAny _ _ (pure ((n : Int) - 1, (-1 : Int), Builtin.Slice.slicePlaces ((n : Int) - 1) (-1) (-1))) _ _ s
  rw [places_rev]
  exact wpAny_pure h
theorem pick_rev (xs : Array Value) : ((List.range xs.size).filterMap fun (m : Nat) => xs[(((xs.size : Int) - 1) + (m : Int) * -1).toNat]?).toArray = xs.toList.reverse.toArray := by
  congr 1
  have key : ∀ (n : Nat), n ≤ xs.size → (List.range n).filterMap (fun (m : Nat) => xs[(((xs.size : Int) - 1) + (m : Int) * -1).toNat]?) = (List.range n).map fun m => (xs[xs.size - 1 - m]?).getD .none := fun n => by
    induction n with
    | zero => intro _; rfl
    | succ n ih =>
      intro hn
      have e : (((xs.size : Int) - 1) + (n : Int) * -1).toNat = xs.size - 1 - n := by omega
      have hl : xs.size - 1 - n < xs.size := by omega
      have hx : xs[(((xs.size : Int) - 1) + (n : Int) * -1).toNat]? = some xs[xs.size - 1 - n] := by rw [e]; exact Array.getElem?_eq_getElem hl
      rw [List.range_succ, List.filterMap_append, ih (by omega), List.map_append]
      congr 1
      rw [List.filterMap_cons, hx, List.map_cons, Array.getElem?_eq_getElem hl]
      rfl
  rw [key xs.size (Nat.le_refl _)]
  apply List.ext_getElem?
  intro i
  by_cases c : i < xs.size
  · have hl : xs.size - 1 - i < xs.size := by omega
    rw [List.getElem?_map, List.getElem?_range c, List.getElem?_reverse (by simpa using c)]
    simp [hl]
  · rw [List.getElem?_eq_none (by simp; omega), List.getElem?_eq_none (by simp; omega)]
theorem getItem_tuple_rev {t sl : Addr} {items : Array Value} {vl vu vs : Value} {Q : Value → Shared → Prop} (ht : IsTup s.heap t items) (hs : s.heap.IsSliceOf sl vl vu vs) (pl : IsPart vl none) (pu : IsPart vu none) (ps : IsPart vs (some (-1)))
    (h : Q (.ref s.heap.objs.size) { s with heap := s.heap.push { cls := .type "tuple", data := .seq items.toList.reverse.toArray } })
    (hsz : items.size ≤ sizeLine) : wpAny (model prog w) A (getItem (.ref t) (.ref sl)) Q E s := by
  have htake : sizeOk (.seq items.toList.reverse.toArray) := by
    show items.toList.reverse.toArray.size ≤ sizeLine
    rw [List.size_toArray, List.length_reverse, Array.length_toList]
    exact hsz
  obtain ⟨os, hos, hcs, hds⟩ := id hs
  have hTs : s.TypeIs (.ref sl) "slice" := ⟨os, hos, hcs⟩
  unfold getItem
  try with_reducible refine wpAny_holding ?_
  first | refine wpAny_bind (wpAny_pure ?_) | skip
  refine wpAny_bind (wpAny_sequenceKey ht.typeIs (by decide) ?_)
  refine wpAny_bind (wpAny_callSpecial?_slot (name := Str.ofString "__getitem__") ht.typeIs PyProof.Rows.slot_tuple_getitem
    (wpAny_call_entry PyProof.Rows.slot_tuple_getitem ht.typeIs entry_tuple_getitem ?_ (args_tuple_getitem _ _)))
  show wpAny _ _ (Builtin.Tuple.tupleItemsOf (.ref t) >>= _) _ _ s
  refine wpAny_bind (tupleItemsOf_ ht ?_)
  refine wpAny_bind (wpAny_typeOf hTs ?_)
  rw [if_pos (by decide)]
  refine wpAny_bind (sliceApplied_rev hs pl pu ps ?_)
  have hno : ¬ ((((items.size : Int) - 1) == 0 && (-1 : Int) == 1 && items.size == items.size) = true) := by
    intro q
    rw [Bool.and_eq_true, Bool.and_eq_true] at q
    exact absurd q.1.2 (by decide)
  show wpAny _ _ (if (((items.size : Int) - 1) == 0 && (-1 : Int) == 1 && items.size == items.size) = true then _ else _) _ _ s
  rw [if_neg hno, pick_rev]
  first
    | exact wpAny_bind (m := Builtin.Tuple.tupleExact _) (wpAny_newObj_type (wpAny_pure ⟨_, rfl, wpAny_pure h⟩) htake)
    | exact wpAny_bind (m := Builtin.Tuple.tupleExact _) (wpAny_newObj_type (wpAny_bind (wpAny_pure (wpAny_pure ⟨_, rfl, wpAny_pure h⟩))) htake)
    | exact wpAny_bind (wpAny_bind (m := Builtin.Tuple.tupleExact _) (wpAny_newObj_type (wpAny_pure (wpAny_pure ⟨_, rfl, wpAny_pure h⟩)) htake))
    | exact wpAny_bind (wpAny_bind (m := Builtin.Tuple.tupleExact _) (wpAny_newObj_type (wpAny_pure ⟨_, rfl, wpAny_pure h⟩) htake))
end
def tRevT (K : PySem.W.Frag) (te : TE) : TE := fun σ H Q => te σ H fun x H1 => ∃ a xs, x = .ref a ∧ SqT K H1 a xs ∧ ∀ p, H1 p = none → Q (.ref p) (upd H1 p (.tup xs.reverse))
theorem pe_revT {X : Cx} {e : Expr} {te : TE} {k : Nat} {p1 p2 p3 pos : Pos} (he : PE X e te) : PE X (.Subscript e (.Slice none none (some (.UnaryOp .USub (.Constant (.int 1) k p1) p2)) p3) pos) (tRevT X.K te) := by
  refine ⟨fun pins s σ H Q I h => ?_⟩
  refine Subscript_ (thn (he.run pins s σ H _ I h) fun v s1 ⟨x, H1, I1, r1, q1⟩ => ?_)
  obtain ⟨a, xs, ex, hx, q⟩ := q1
  subst ex
  cases r1
  have hst : PO X (some (.UnaryOp .USub (.Constant (.int 1) k p1) p2)) (tPart (tUn (rU fun i => .int (-i)) (tC (.int 1)))) := po_some (pe_un un_neg pe_int)
  refine wpAny_Slice (thn (po_none.run pins s1 σ H1 (fun o H2 => o = none ∧ H2 = H1) I1 ⟨rfl, rfl⟩) fun vl s2 ⟨l, H2, I2, pl, el, e2⟩ => ?_)
  subst el e2
  refine thn (po_none.run pins s2 σ H2 (fun o H3 => o = none ∧ H3 = H2) I2 ⟨rfl, rfl⟩) fun vu s3 ⟨u, H3, I3, pu, eu, e3⟩ => ?_
  subst eu e3
  refine thn (hst.run pins s3 σ H3 (fun o H4 => o = some (-1) ∧ H4 = H3) I3 ⟨1, rfl, -1, rfl, rfl, rfl⟩) fun vs s4 ⟨o, H4, I4, ps, eo, e4⟩ => ?_
  subst eo e4
  have I5 : L2.Inv X pins σ H4 { s4 with heap := s4.heap.push { cls := .type "slice", data := .fields #[vl, vu, vs] } } := I4.kept (t' := s4.toks) fun b ob q => Heap.get?_push_of_some _ q
  obtain ⟨its, r, ht, hz⟩ := I5.tuple hx
  have hlen : its.toArray.size = xs.length := by rw [List.size_toArray]; exact r.length.symm
  show wpAny (model X.prog X.w) X.A (subscriptTail e (.Slice none none (some (.UnaryOp .USub (.Constant (.int 1) k p1) p2)) p3) (.ref a) (.ref s4.heap.objs.size)) (EP X pins σ Q) X.xe { s4 with heap := s4.heap.push { cls := .type "slice", data := .fields #[vl, vu, vs] } }
  refine tail_any (ops := [.ref a, .ref s4.heap.objs.size]) ht.typeIs (PyProof.Rows.slot_tuple_getitem.lookup) ?_ (by with_unfolding_all rfl)
  refine getItem_tuple_rev ht (Heap.IsSliceOf.new _ vl vu vs) pl pu ps ?_ (by rw [hlen]; exact hz)
  refine ⟨.ref _, _, I5.laid (t' := s4.toks) (o := .tup xs.reverse) (fun b ob q => Heap.get?_push_of_some _ q) (Nat.le_refl _) ?_, rfl, q _ (I5.hok.fresh (Nat.le_refl _))⟩
  exact ⟨by rw [List.length_reverse]; exact hz, _, r.reverse, IsTup.new _ _⟩
theorem Reps.reverse {K : PySem.W.Frag} {C : Hp} : ∀ {vs : List V} {ds : List D}, Reps K C vs ds → Reps K C vs.reverse ds.reverse
  | _, _, .nil => .nil
  | _, _, .cons h hs => by rw [List.reverse_cons, List.reverse_cons]; exact (Reps.reverse hs).append (.cons h .nil)
variable [WD]
def pRevT (p : Px) : Px := fun ρ => (p ρ).bind fun r => match r.d with
  | .tuple ds => tnew r.s ds.reverse
  | _ => .bad
section
variable {K : PySem.W.Frag} {E : XK} {H : Hp} {σ : St} {Q : VK}
theorem pRevT_ok {p : Px} (h : tP K E (pRevT p) σ H Q) : tRevT K (tP K E p) σ H Q := by
  refine tP_bind (k := fun r _ => match r.d with
    | .tuple ds => tnew r.s ds.reverse
    | _ => .bad) h fun Z O H1 Z1 O1 ρ F G v r rl x1 r1 q1 nd fr h2 => ?_
  have h5 : ResK K E [] Z1 O1 H1 (match r.d with
    | .tuple ds => tnew r.s ds.reverse
    | _ => .bad) Q := ResK.ext h2 x1 fun a ha => by cases ha
  obtain ⟨s, d⟩ := r
  have lk := q1.look r1.g
  cases d with
  | tuple ds =>
    have key : ∃ a vs, v = .ref a ∧ SqT K H1 a vs ∧ Reps K H1 vs ds ∧ (s = .imm → Reps K Z1 vs ds) := by
      by_cases es : s = .imm
      · obtain ⟨p', vs', e1, e2, e3⟩ := q1.ztup es
        exact ⟨p', vs', e1, Same.seqT r1.g.zh e2, e3.mono r1.g.zh, fun _ => e3⟩
      · cases lk with
        | tup ha rv => exact ⟨_, _, rfl, ha, rv, fun e => absurd e es⟩
    obtain ⟨a, vs, ev, ha, rv, rz⟩ := key
    subst ev
    exact ⟨a, vs, rfl, ha, fun p np => tnew_ok (s := s) r1.g h5 rv.reverse (fun es => (rz es).reverse) np⟩
  | _ => exact h5.elim
end
section
variable {X : Cx} {E : XK} {e : Expr} {p : Px} {k : Nat} {p1 p2 p3 pos : Pos}
theorem s_revT (he : PE X e (tP X.K E p)) : PE X (.Subscript e (.Slice none none (some (.UnaryOp .USub (.Constant (.int 1) k p1) p2)) p3) pos) (tP X.K E (pRevT p)) := (pe_revT he).imp fun σ H Q h => pRevT_ok h
end
@[simp] theorem x_revT {p : Px} {ρ : Ev} : pRevT p ρ = (p ρ).bind fun r => match r.d with
  | .tuple ds => tnew r.s ds.reverse
  | _ => .bad := id rfl
end Oz

/-! Oz75: a list of one's own that is given to another slot and looked at behind that. -/
namespace Oz
open PySem PySem.Spec L2
open PyProof.Rows hiding St
variable [WD]
def kpE (j x a : Nat) (ρ : Ev) : Option Ev := match ρ[j]? with
  | some (some ⟨.brw, d⟩) => gvE j x a d (ρ.set j none)
  | _ => none
def kpS (j x a : Nat) : SR → SR
  | .bad => .bad
  | .next ρ => (match kpE j x a ρ with
    | some ρ' => .next ρ'
    | none => .bad)
  | .ret r ρ => (match kpE j x a ρ with
    | some ρ' => .ret r ρ'
    | none => .bad)
  | .exc c fs ρ => (match kpE j x a ρ with
    | some ρ' => .exc c fs ρ'
    | none => .bad)
def kpB (j a : Nat) (ds : List D) (s2 : Stx) : SR → SR
  | .next ρ => (match ρ[j]? with
    | some (some ⟨.imm, t⟩) => if isPtr a (some t) = true then s2 (ρ.set j (some ⟨.brw, .list ds⟩)) else .bad
    | _ => .bad)
  | _ => .bad
noncomputable def sKeep (j x : Nat) (s1 s2 : Stx) : Stx := fun ρ => match ρ[j]? with
  | some (some ⟨.own, .list ds⟩) => if j ≠ x then ali fun a => kpS j x a (kpB j a ds s2 (s1 (ρ.set j (some ⟨.imm, ptrD a⟩)))) else .bad
  | _ => .bad
section
variable {K : PySem.W.Frag} {E : XK} {Z O H : Hp} {σ : St} {ρ ρ' : Ev} {F : List Addr} {j x : Nat} {a : Addr} {d : D}
theorem kp_nov (h : kpE j x a ρ = some ρ') : nov ρ = true := by
  unfold kpE at h
  split at h
  · rename_i d e
    have n := (gvE_some h).1
    unfold nov at n ⊢
    rw [List.all_eq_true] at n ⊢
    intro y hy
    obtain ⟨i, hi⟩ := List.getElem?_of_mem hy
    by_cases ij : j = i
    · subst ij
      rw [e] at hi
      cases hi
      rfl
    · exact n y (List.mem_of_getElem? (i := i) (by rw [List.getElem?_set_ne ij]; exact hi))
  · cases h
theorem kp_ok (rl : Rel K Z O H σ ρ F) (jx : j ≠ x) (n : nov ρ = true) (hj : σ[j]? = some (some (.ref a))) (h : kpE j x a ρ = some ρ') :
    ∃ F', Rel K Z O H σ ρ' F' ∧ nov ρ' = true ∧ (∀ c ∈ F', c ∈ F) ∧ ∀ (m : Nat) (dm : D), m ≠ j → ρ[m]? = some (some (R.mk .brw dm)) → ∃ d', ρ'[m]? = some (some (R.mk .brw d')) := by
  unfold kpE at h
  split at h
  · rename_i d e
    obtain ⟨hl, _⟩ := List.getElem?_eq_some_iff.mp e
    obtain ⟨y, y', F1, G, F2, h1, h2, h3, h4, h5⟩ := rl.sl.focus hl
    rw [e] at h2
    cases h2
    rw [hj] at h1
    cases h1
    have ow : Own K Z H (.ref a) d G := RepS.rep h4 nofun
    have sl := h5 (some (.ref a)) none [] Z O H (Same.refl _) (Same.refl _) (.inl fun _ _ q _ => q) (fun a _ o q _ => q) rfl
    rw [set_same hj] at sl
    have nF := rl.nd
    rw [h3] at nF
    obtain ⟨m1, m2, m3⟩ := List.nodup_append.mp nF
    obtain ⟨m4, m5, m6⟩ := List.nodup_append.mp m2
    have sb : (F1 ++ ([] ++ F2)).Sublist F := by
      rw [h3, List.nil_append]
      exact List.Sublist.append (List.Sublist.refl _) (List.sublist_append_right _ _)
    have dG : ∀ c ∈ G, c ∉ F1 ++ ([] ++ F2) := fun c hc z => by
      rcases List.mem_append.mp z with z | z
      · exact m3 c z c (List.mem_append_left _ hc) rfl
      · exact m6 c hc c (by simpa using z) rfl
    have inF : ∀ c ∈ G, c ∈ F := fun c hc => by rw [h3]; simp [hc]
    obtain ⟨F', r1, r2, r3, r4⟩ := gv_ok ⟨rl.g, rl.nd.sublist sb, fun c hc => rl.fo c (sb.subset hc), sl, rl.tb⟩ jx ow m4 dG (fun c hc => rl.fo c (inF c hc)) h
    exact ⟨F', r1, r2, fun c hc => (r3 c hc).elim (fun z => sb.subset z) (inF c), fun m dm hm hb => r4 m dm hm (by rw [List.getElem?_set_ne (Ne.symm hm)]; exact hb)⟩
  · cases h
theorem SRK.kp {Z1 O1 H1 : Hp} {σ1 : St} {ρ1 : Ev} {F1 : List Addr} {nx : St → Hp → Prop} {rt : VK} {r : SR} (jx : j ≠ x) (t : TrS Z O H σ ρ F Z1 O1 H1 σ1 ρ1 F1) (hj : σ1[j]? = some (some (.ref a))) (hb : ∃ d, ρ1[j]? = some (some (R.mk .brw d)))
    (nj : ∀ d, ρ[j]? ≠ some (some (R.mk .brw d))) (h : SRK K E Z O H σ ρ F nx rt (kpS j x a r)) : SRK K E Z1 O1 H1 σ1 ρ1 F1 nx rt r := by
  obtain ⟨db, hb⟩ := hb
  have fin : ∀ {σ' : St} {H' Z' O' : Hp} {F' F'' : List Addr} {ρ' ρ'' : Ev}, (∀ (m : Nat) (dm : D), m ≠ j → ρ'[m]? = some (some (R.mk .brw dm)) → ∃ d', ρ''[m]? = some (some (R.mk .brw d'))) → (∀ c ∈ F'', c ∈ F') → TrS Z1 O1 H1 σ1 ρ1 F1 Z' O' H' σ' ρ' F' → TrS Z O H σ ρ F Z' O' H' σ' ρ'' F'' := fun {σ' H' Z' O' F' F'' ρ' ρ''} e sb u => by
    have w := t.trans u
    refine ⟨⟨w.tr.z, w.tr.keep, w.tr.zn, fun c hc => w.tr.fn c (sb c hc), w.tr.fr, w.tr.tab⟩, w.o, w.len, fun m d hm => ?_, w.on⟩
    obtain ⟨q1, d1, q2⟩ := w.brw m d hm
    exact ⟨q1, e m d1 (fun z => nj d (z ▸ hm)) q2⟩
  have at_ : ∀ {σ' : St} {H' Z' O' : Hp} {F' : List Addr} {ρ' : Ev}, TrS Z1 O1 H1 σ1 ρ1 F1 Z' O' H' σ' ρ' F' → σ'[j]? = some (some (.ref a)) := fun u => by rw [(u.brw j db hb).1]; exact hj
  cases r with
  | bad => exact h
  | next ρ' =>
    intro σ' H' Z' O' F' rl n u
    have h2 : SRK K E Z O H σ ρ F nx rt (match kpE j x a ρ' with | some ρ' => .next ρ' | none => .bad) := h
    cases e : kpE j x a ρ' with
    | none => rw [e] at h2; exact h2.elim
    | some ρ'' =>
      rw [e] at h2
      obtain ⟨F'', rl2, n2, sb, bw⟩ := kp_ok rl jx n (at_ u) e
      exact h2 σ' H' Z' O' F'' rl2 n2 (fin bw sb u)
  | ret r ρ' =>
    intro v σ' H' Z' O' F' G rl w nd fo u u2
    have h2 : SRK K E Z O H σ ρ F nx rt (match kpE j x a ρ' with | some ρ' => .ret r ρ' | none => .bad) := h
    cases e : kpE j x a ρ' with
    | none => rw [e] at h2; exact h2.elim
    | some ρ'' =>
      rw [e] at h2
      obtain ⟨F'', rl2, n2, sb, bw⟩ := kp_ok rl jx (kp_nov e) (at_ u2) e
      have w2 := fin bw sb u2
      obtain ⟨d1, d2, d3⟩ := List.nodup_append.mp nd
      have u' := t.tr.trans u
      refine h2 v σ' H' Z' O' F'' G rl2 w ?_ fo ⟨u'.z, u'.keep, u'.zn, fun c hc => ?_, u'.fr, u'.tab⟩ w2
      · rw [List.nodup_append]
        exact ⟨rl2.nd, d2, fun x hx y hy => d3 x (sb x hx) y hy⟩
      · rcases List.mem_append.mp hc with hc | hc
        · exact u'.fn c (List.mem_append_left _ (sb c hc))
        · exact u'.fn c (List.mem_append_right _ hc)
  | exc c fs ρ' =>
    intro σ' H' Z' O' F' d xs rl u hd e1 e2
    have h2 : SRK K E Z O H σ ρ F nx rt (match kpE j x a ρ' with | some ρ' => .exc c fs ρ' | none => .bad) := h
    cases e : kpE j x a ρ' with
    | none => rw [e] at h2; exact h2.elim
    | some ρ'' =>
      rw [e] at h2
      obtain ⟨F'', rl2, n2, sb, bw⟩ := kp_ok rl jx (kp_nov e) (at_ u) e
      exact h2 σ' H' Z' O' F'' d xs rl2 (fin bw sb u) hd e1 e2
end
/-! ### reckoning -/
section
variable {ρ : Ev}
@[simp] theorem x_keep {j x : Nat} {s1 s2 : Stx} : sKeep j x s1 s2 ρ = (match ρ[j]? with
  | some (some ⟨.own, .list ds⟩) => if j ≠ x then ali fun a => kpS j x a (kpB j a ds s2 (s1 (ρ.set j (some ⟨.imm, ptrD a⟩)))) else .bad
  | _ => .bad) := id rfl
@[simp] theorem x_kpB {j a : Nat} {ds : List D} {s2 : Stx} : kpB j a ds s2 (.next ρ) = (match ρ[j]? with
    | some (some ⟨.imm, t⟩) => if isPtr a (some t) = true then s2 (ρ.set j (some ⟨.brw, .list ds⟩)) else .bad
    | _ => .bad) := id rfl
@[simp] theorem x_kpE {j x a : Nat} : kpE j x a ρ = (match ρ[j]? with
  | some (some ⟨.brw, d⟩) => gvE j x a d (ρ.set j none)
  | _ => none) := id rfl
@[simp] theorem x_kpSn {j x a : Nat} : kpS j x a (.next ρ) = (match kpE j x a ρ with
    | some ρ' => .next ρ'
    | none => .bad) := id rfl
@[simp] theorem x_kpSr {j x a : Nat} {r : R} : kpS j x a (.ret r ρ) = (match kpE j x a ρ with
    | some ρ' => .ret r ρ'
    | none => .bad) := id rfl
end
end Oz

/-! Oz76: tuple * int. -/
namespace Oz
open PySem PySem.Spec L2
open PyProof.Rows hiding St
theorem tuple_mulW1 (l : Addr) (items : Array Value) (n : Nat) (dd : Option Addr) (sl : Array (Option Value)) (u : Tok) :
    Meets (Builtin.«tuple.__mul__» ⟨[.ref l, .int 1 u], []⟩) (fun _ R s => s.heap.get? l = some { cls := .type "tuple", dict := dd, data := .seq items n, slots := sl } ∧ R (.ok (.ret (Value.ref l))) s) :=
  .of_wp fun prog w A R s h => by
    obtain ⟨hp, g, d, tk, os⟩ := s
    obtain ⟨hl, h⟩ := h
    have f1 := AutoSeq1.idx_int
    wp_walk using wpAny_loadPart' hl
    exact ⟨_, rfl, h⟩
def rRepT1 (K : PySem.W.Frag) : R2 := fun x y H Q => ∃ l xs, x = .ref l ∧ y = .int 1 ∧ SqT K H l xs ∧ Q (.ref l) H
theorem op_repT1 {X : Cx} : OpR X (binaryOp .Mult) (rRepT1 X.K) := by
  intro pins s σ H x y v u Q I rx ry h
  obtain ⟨l, xs, rfl, rfl, hT, q⟩ := h
  cases rx
  obtain ⟨t, rfl⟩ := ry
  obtain ⟨its, r, ⟨⟨cls, dd, data, sl⟩, ho, hc, n, hd⟩, hs⟩ := I.tuple hT
  simp only at hc hd
  subst hc hd
  refine wpAny_binaryOp_repeat_ref (T := "tuple") (U := "int") (by decide) ⟨_, ho, rfl⟩ (fun s' => typeIs_int s' 1 t) noFill_tuple_mul F.fills_int_mul F.slot_int_rmul repeat_tuple F.slot_int_index.lookup
    (call_meets F.slot_int_rmul (typeIs_int s 1 t) F.entry_int_rmul (F.args_int_rmul_2 _ _) (int_rmul_tuple 1 t l its.toArray n dd sl)
      ⟨ho, rfl, ⟨_, ho, rfl⟩, call_meets F.slot_tuple_mul ⟨_, ho, rfl⟩ F.entry_tuple_mul (F.args_tuple_mul_2 _ _) (tuple_mulW1 l its.toArray n dd sl t) ⟨ho, ?_⟩⟩)
  exact ⟨.ref l, _, I, rfl, q⟩
variable [WD]
/-- a tuple, k times -/
def mulT (a b : R) : Res R := match a.d, b.d with
  | .tuple ds, .int k => if k = 1 then .ok (vw a) else if (2 ≤ k ∧ k ≤ 1000) ∧ ds.length ≤ 1000 ∧ ds.isEmpty = false then tnew a.s (List.replicate k.toNat ds).flatten else .bad
  | _, _ => .bad
theorem o_mulT {K : PySem.W.Frag} : Op2 K (fun x y H Q => rRepT K x y H Q ∨ rRepT1 K x y H Q) mulT := by
  intro E Z O H x y a b F G Q g ra rb nd fo q
  obtain ⟨s, da⟩ := a
  obtain ⟨t, db⟩ := b
  have la := ra.look g
  have lb := rb.look g
  cases da with
  | tuple ds => cases db with
    | int k =>
      have q2 : ResK K E (F ++ G) Z O H (if k = 1 then .ok (vw ⟨s, .tuple ds⟩) else if (2 ≤ k ∧ k ≤ 1000) ∧ ds.length ≤ 1000 ∧ ds.isEmpty = false then tnew s (List.replicate k.toNat ds).flatten else .bad) Q := q
      cases lb
      have key : ∃ p vs, x = .ref p ∧ SqT K H p vs ∧ Reps K H vs ds ∧ (s = .imm → Reps K Z vs ds) := by
        by_cases es : s = .imm
        · obtain ⟨p', vs', e1, e2, e3⟩ := ra.ztup es
          exact ⟨p', vs', e1, Same.seqT g.zh e2, e3.mono g.zh, fun _ => e3⟩
        · cases la with
          | tup ha rv => exact ⟨_, _, rfl, ha, rv, fun e => absurd e es⟩
      obtain ⟨p, vs, rfl, ha, rv, rz⟩ := key
      by_cases c1 : k = 1
      · rw [if_pos c1] at q2
        subst c1
        have q3 : OkK K (F ++ G) Z O H (vw ⟨s, .tuple ds⟩) Q := q2
        exact .inr ⟨p, vs, rfl, rfl, ha, q3 _ H Z O [] (Ext.refl _ _ _ _) g (ra.vw g) List.nodup_nil fun c hc => by cases hc⟩
      · rw [if_neg c1] at q2
        by_cases c : (2 ≤ k ∧ k ≤ 1000) ∧ ds.length ≤ 1000 ∧ ds.isEmpty = false
        · rw [if_pos c] at q2
          obtain ⟨⟨c2, c3⟩, c4, c5⟩ := c
          refine .inl ⟨p, k, vs, rfl, rfl, ha, fun e => ?_, c2, c3, by rw [rv.length]; exact c4, fun p' np => tnew_ok (s := s) g q2 (rv.rep _) (fun es => (rz es).rep _) np⟩
          subst e
          cases rv
          cases c5
        · rw [if_neg c] at q2; exact q2.elim
    | _ => exact q.elim
  | _ => cases db <;> exact q.elim
theorem op_mulT {X : Cx} : OpR X (binaryOp .Mult) (fun x y H Q => rRepT X.K x y H Q ∨ rRepT1 X.K x y H Q) := OpR.or op_repT op_repT1
@[simp] theorem x_mulT {s t : Sx} {ds : List D} {k : Int} : mulT ⟨s, .tuple ds⟩ ⟨t, .int k⟩ = if k = 1 then .ok (vw ⟨s, .tuple ds⟩) else if (2 ≤ k ∧ k ≤ 1000) ∧ ds.length ≤ 1000 ∧ ds.isEmpty = false then tnew s (List.replicate k.toNat ds).flatten else .bad := id rfl
end Oz

namespace Law
open PySem PySem.Spec L2 Oz
open PyProof.Rows hiding St
structure Txt [WD] (w : World) (K : PySem.W.Frag) (mg : Str → Option Value) (base : Heap) : Prop where
  hw : w = WD.w
  f__law_evidence : ∃ f fd, FunD K "_law_evidence" "_law_evidence" (defArgs st__law_evidence) (defBody st__law_evidence) (defScope st__law_evidence) [] [] f fd ∧ mg "_law_evidence" = some (.ref f)
  f__law_begun : ∃ f fd, FunD K "_law_begun" "_law_begun" (defArgs st__law_begun) (defBody st__law_begun) (defScope st__law_begun) [] [] f fd ∧ mg "_law_begun" = some (.ref f)
  f__law_draws : ∃ f fd, FunD K "_law_draws" "_law_draws" (defArgs st__law_draws) (defBody st__law_draws) (defScope st__law_draws) [] [] f fd ∧ mg "_law_draws" = some (.ref f)
  f__law_parties : ∃ f fd, FunD K "_law_parties" "_law_parties" (defArgs st__law_parties) (defBody st__law_parties) (defScope st__law_parties) [] [] f fd ∧ mg "_law_parties" = some (.ref f)
  f__law_noted : ∃ f fd, FunD K "_law_noted" "_law_noted" (defArgs st__law_noted) (defBody st__law_noted) (defScope st__law_noted) [] [] f fd ∧ mg "_law_noted" = some (.ref f)
  f__law_lied : ∃ f fd, FunD K "_law_lied" "_law_lied" (defArgs st__law_lied) (defBody st__law_lied) (defScope st__law_lied) [] [] f fd ∧ mg "_law_lied" = some (.ref f)
  f__law_honest : ∃ f fd, FunD K "_law_honest" "_law_honest" (defArgs st__law_honest) (defBody st__law_honest) (defScope st__law_honest) [] [] f fd ∧ mg "_law_honest" = some (.ref f)
  f__law_did : ∃ f fd, FunD K "_law_did" "_law_did" (defArgs st__law_did) (defBody st__law_did) (defScope st__law_did) [] [] f fd ∧ mg "_law_did" = some (.ref f)
  f__law_cell : ∃ f fd, FunD K "_law_cell" "_law_cell" (defArgs st__law_cell) (defBody st__law_cell) (defScope st__law_cell) [] [] f fd ∧ mg "_law_cell" = some (.ref f)
  f__law_deed : ∃ f fd, FunD K "_law_deed" "_law_deed" (defArgs st__law_deed) (defBody st__law_deed) (defScope st__law_deed) [] [] f fd ∧ mg "_law_deed" = some (.ref f)
  f__law_world : ∃ f fd, FunD K "_law_world" "_law_world" (defArgs st__law_world) (defBody st__law_world) (defScope st__law_world) [] [] f fd ∧ mg "_law_world" = some (.ref f)
  f__law_put : ∃ f fd, FunD K "_law_put" "_law_put" (defArgs st__law_put) (defBody st__law_put) (defScope st__law_put) [] [] f fd ∧ mg "_law_put" = some (.ref f)
  f__law_odd : ∃ f fd, FunD K "_law_odd" "_law_odd" (defArgs st__law_odd) (defBody st__law_odd) (defScope st__law_odd) [] [] f fd ∧ mg "_law_odd" = some (.ref f)
  f__law_changed : ∃ f fd, FunD K "_law_changed" "_law_changed" (defArgs st__law_changed) (defBody st__law_changed) (defScope st__law_changed) [] [] f fd ∧ mg "_law_changed" = some (.ref f)
  f_entry_numbers : ∃ f fd, FunD K "entry_numbers" "entry_numbers" (defArgs st_entry_numbers) (defBody st_entry_numbers) (defScope st_entry_numbers) [] [] f fd ∧ mg "entry_numbers" = some (.ref f)
  f_ascend : ∃ f fd, FunD K "ascend" "ascend" (defArgs st_ascend) (defBody st_ascend) (defScope st_ascend) [] [] f fd ∧ mg "ascend" = some (.ref f) ∧ fd.code = .ref (He.cT K ("ascend", none)).1
  tb_ascend : GxR.TabB base mg (He.cT K ("ascend", none)).1 (He.cT K ("ascend", none)).2
  tp_ascend : (He.cT K ("ascend", none)).2 ∈ tabsK K
  f_is_number : ∃ f fd, FunD K "is_number" "is_number" (defArgs st_is_number) (defBody st_is_number) (defScope st_is_number) [] [] f fd ∧ mg "is_number" = some (.ref f)
  f_is_find : ∃ f fd, FunD K "is_find" "is_find" (defArgs st_is_find) (defBody st_is_find) (defScope st_is_find) [] [] f fd ∧ mg "is_find" = some (.ref f)
  f_are_finds : ∃ f fd, FunD K "are_finds" "are_finds" (defArgs st_are_finds) (defBody st_are_finds) (defScope st_are_finds) [] [] f fd ∧ mg "are_finds" = some (.ref f) ∧ fd.code = .ref (He.cT K ("are_finds", none)).1
  tb_are_finds : GxR.TabB base mg (He.cT K ("are_finds", none)).1 (He.cT K ("are_finds", none)).2
  tp_are_finds : (He.cT K ("are_finds", none)).2 ∈ tabsK K
  f_is_flag : ∃ f fd, FunD K "is_flag" "is_flag" (defArgs st_is_flag) (defBody st_is_flag) (defScope st_is_flag) [] [] f fd ∧ mg "is_flag" = some (.ref f)
  f_is_party : ∃ f fd, FunD K "is_party" "is_party" (defArgs st_is_party) (defBody st_is_party) (defScope st_is_party) [] [] f fd ∧ mg "is_party" = some (.ref f)
  f_is_parties : ∃ f fd, FunD K "is_parties" "is_parties" (defArgs st_is_parties) (defBody st_is_parties) (defScope st_is_parties) [] [] f fd ∧ mg "is_parties" = some (.ref f) ∧ fd.code = .ref (He.cT K ("is_parties", none)).1
  tb_is_parties : GxR.TabB base mg (He.cT K ("is_parties", none)).1 (He.cT K ("is_parties", none)).2
  tp_is_parties : (He.cT K ("is_parties", none)).2 ∈ tabsK K
  f_is_entry : ∃ f fd, FunD K "is_entry" "is_entry" (defArgs st_is_entry) (defBody st_is_entry) (defScope st_is_entry) [] [] f fd ∧ mg "is_entry" = some (.ref f)
  f_is_file : ∃ f fd, FunD K "is_file" "is_file" (defArgs st_is_file) (defBody st_is_file) (defScope st_is_file) [] [] f fd ∧ mg "is_file" = some (.ref f) ∧ fd.code = .ref (He.cT K ("is_file", none)).1
  tb_is_file : GxR.TabB base mg (He.cT K ("is_file", none)).1 (He.cT K ("is_file", none)).2
  tp_is_file : (He.cT K ("is_file", none)).2 ∈ tabsK K
  f_is_evidence : ∃ f fd, FunD K "is_evidence" "is_evidence" (defArgs st_is_evidence) (defBody st_is_evidence) (defScope st_is_evidence) [] [] f fd ∧ mg "is_evidence" = some (.ref f) ∧ fd.code = .ref (He.cT K ("is_evidence", none)).1
  tb_is_evidence : GxR.TabB base mg (He.cT K ("is_evidence", none)).1 (He.cT K ("is_evidence", none)).2
  tp_is_evidence : (He.cT K ("is_evidence", none)).2 ∈ tabsK K
  f__law_is_integer : ∃ f fd, FunD K "_law_is_integer" "_law_is_integer" (defArgs st__law_is_integer) (defBody st__law_is_integer) (defScope st__law_is_integer) [] [] f fd ∧ mg "_law_is_integer" = some (.ref f)
  f__law_ascends : ∃ f fd, FunD K "_law_ascends" "_law_ascends" (defArgs st__law_ascends) (defBody st__law_ascends) (defScope st__law_ascends) [] [] f fd ∧ mg "_law_ascends" = some (.ref f)
  f__law_is_row : ∃ f fd, FunD K "_law_is_row" "_law_is_row" (defArgs st__law_is_row) (defBody st__law_is_row) (defScope st__law_is_row) [] [] f fd ∧ mg "_law_is_row" = some (.ref f)
  f__law_is_find : ∃ f fd, FunD K "_law_is_find" "_law_is_find" (defArgs st__law_is_find) (defBody st__law_is_find) (defScope st__law_is_find) [] [] f fd ∧ mg "_law_is_find" = some (.ref f)
  f__law_is_evidence : ∃ f fd, FunD K "_law_is_evidence" "_law_is_evidence" (defArgs st__law_is_evidence) (defBody st__law_is_evidence) (defScope st__law_is_evidence) [] [] f fd ∧ mg "_law_is_evidence" = some (.ref f)
  f_law : ∃ f fd, FunD K "law" "law" (defArgs st_law) (defBody st_law) (defScope st_law) [] [] f fd ∧ mg "law" = some (.ref f)
  g_NUMBER_MOST : ∃ t, mg "NUMBER_MOST" = some (.int 1000000000 t)
  g_AMOUNT_MOST : ∃ t, mg "AMOUNT_MOST" = some (.int 1000000000000 t)
  g_ROWS_MOST : ∃ t, mg "ROWS_MOST" = some (.int 200 t)
  g_PARTIES_MOST : ∃ t, mg "PARTIES_MOST" = some (.int 8 t)
  g_PLAIN_DEEDS : mg "PLAIN_DEEDS" = some (.ref (He.ga K "PLAIN_DEEDS"))
  t_PLAIN_DEEDS : ∀ C, Rep K C (.ref (He.ga K "PLAIN_DEEDS")) (.tuple [.str "made", .str "treated"])
  g_COPY_DEEDS : mg "COPY_DEEDS" = some (.ref (He.ga K "COPY_DEEDS"))
  t_COPY_DEEDS : ∀ C, Rep K C (.ref (He.ga K "COPY_DEEDS")) (.tuple [.str "gave", .str "took"])
  g_KINDS_MOST : ∃ t, mg "KINDS_MOST" = some (.int 3 t)
  b_tuple : mg "tuple" = none
  b_range : mg "range" = none
  b_int : mg "int" = none
  b_len : mg "len" = none
  b_all : mg "all" = none
  b_enumerate : mg "enumerate" = none
  b_isinstance : mg "isinstance" = none
  b_bool : mg "bool" = none
  b_str : mg "str" = none
  b_any : mg "any" = none
  b_list : mg "list" = none
section
noncomputable def c__law_evidence_0 : Px := pB bTuple [pVar 2]
noncomputable def q__law_evidence_0 : Px := pComp [2] (srcC (p2 keyR (pVar 0) (pC (.str "files")))) (cN 2) (tYesD) (c__law_evidence_0)
noncomputable def b__law_evidence : Stx := sSeq (sAsg 1 (pB bTuple [q__law_evidence_0])) (sRet (pTup [p2 keyR (pVar 0) (pC (.str "kinds")), p2 keyR (pVar 0) (pC (.str "parties")), pVar 1, pB bTuple [p2 keyR (pVar 0) (pC (.str "finds"))]]))
noncomputable def m__law_evidence : Fn := fnD 3 [.v] b__law_evidence
noncomputable def c__law_begun_0 : Px := pC (.int 0)
noncomputable def q__law_begun_0 : Px := pComp [5] (srcR1 (pVar 0)) (cN 5) (tYesD) (c__law_begun_0)
noncomputable def c__law_begun_1 : Px := q__law_begun_0
noncomputable def q__law_begun_1 : Px := pComp [4] (srcC (pVar 1)) (cN 4) (tYesD) (c__law_begun_1)
noncomputable def c__law_begun_2 : Px := pLst []
noncomputable def q__law_begun_2 : Px := pComp [4] (srcC (pVar 1)) (cN 4) (tYesD) (c__law_begun_2)
noncomputable def b__law_begun : Stx := sSeq (sAsg 2 q__law_begun_1) (sSeq (sGive 2 3 (sAsg 3 (pDct (flatP [(pC (.str "kinds"), pVar 0), (pC (.str "parties"), pVar 1), (pC (.str "stock"), pVar 2), (pC (.str "files"), q__law_begun_2)])))) (sSeq (sPut (plN 3) (pC (.str "finds")) (pLst [])) (sSeq (sPut (plN 3) (pC (.str "events")) (pLst [])) (sSeq (sPut (plN 3) (pC (.str "last")) (pC (.int 0))) (sSeq (sPut (plN 3) (pC (.str "liars")) (pLst [])) (sRetV 3))))))
noncomputable def m__law_begun : Fn := fnD 6 [.v, .v] b__law_begun
noncomputable def l__law_draws_0 : Stx := sEnd [true, true, true, true, false, false] [false, false, false, false, false, false] (sIf (tTru (pVar 3)) (sSeq (sApp (plN 2) (p2 (at2 fMod) (pB (b1 fInt) [pVar 0]) (pC (.int 1009)))) (sAsg 0 (p2 (at2 fDiv) (pVar 0) (pC (.int 1009))))) (sSeq (sAsg 5 (p2 (at2 fMod) (pB (b1 fInt) [p2 addR (p2 mulR (pVar 0) (pC (.int 48271))) (p2 mulR (pVar 4) (pC (.int 69621)))]) (pC (.int 2147483647)))) (sApp (plN 2) (p2 (at2 fMod) (pB (b1 fInt) [p2 addR (p2 addR (p2 mulR (pVar 5) (pVar 5)) (p2 mulR (pVar 0) (pC (.int 31)))) (pVar 4)]) (pC (.int 1000003))))))
noncomputable def f__law_draws_0 : Stx := sEnd [false, false, true, false, false, false] [false, false, false, false, false, false] (sPre [true, true, true, true, false, false] (sFor (srcR1 (pVar 1)) (gN 4) (l__law_draws_0)))
noncomputable def b__law_draws : Stx := sSeq (sAsg 2 (pLst [])) (sSeq (sAsg 3 (p2 (at2 fGe) (pVar 0) (p2 (at2 fPow) (pC (.int 10)) (pC (.int 18))))) (sSeq (f__law_draws_0) (sRetV 2)))
noncomputable def m__law_draws : Fn := fnD 6 [.v, .v] b__law_draws
noncomputable def c__law_parties_0 : Px := p2 ixR (pVar 3) (p2 (at2 fMod) (pB (b1 fInt) [p2 ixR (pVar 2) (p2 addR (pC (.int 1)) (pVar 4))]) (pC (.int 4)))
noncomputable def q__law_parties_0 : Px := pComp [4] (srcR1 (p2 addR (pC (.int 1)) (p2 (at2 fMod) (pB (b1 fInt) [p2 ixR (pVar 2) (pC (.int 0))]) (pVar 1)))) (cN 4) (tYesD) (c__law_parties_0)
noncomputable def b__law_parties : Stx := sSeq (sAsg 2 (pCall m__law_draws [.v, .v] [pVar 0, pC (.int 10)])) (sSeq (sAsg 3 (pLst [pTup [pC (.bool true), pC (.bool false)], pTup [pC (.bool false), pC (.bool false)], pTup [pC (.bool false), pC (.bool true)], pTup [pC (.bool true), pC (.bool true)]])) (sRet (pB bTuple [q__law_parties_0])))
noncomputable def m__law_parties : Fn := fnD 5 [.v, .v] b__law_parties
noncomputable def b__law_noted : Stx := sSeq (sPut (plN 0) (pC (.str "last")) (p2 addR (p2 keyR (pVar 0) (pC (.str "last"))) (pC (.int 1)))) (sSeq (sApp (plI (plK (plN 0) (pC (.str "files"))) (pVar 1)) (pTup [p2 keyR (pVar 0) (pC (.str "last")), pC (.str "gave"), pVar 3, pVar 4, pVar 2, pVar 5])) (sApp (plI (plK (plN 0) (pC (.str "files"))) (pVar 2)) (pTup [p2 keyR (pVar 0) (pC (.str "last")), pC (.str "took"), pVar 3, pVar 4, pVar 1, pVar 5])))
noncomputable def m__law_noted : Fn := fnD 6 [.m, .v, .v, .v, .v, .v] b__law_noted
noncomputable def l__law_lied_0 : Stx := sEnd [true, false, false, false, false, false, false, false, true, false, false, false] [true, false, false, false, false, false, false, false, false, false, false, false] (sIf (tVal (p2 (at2 ninF) (pVar 11) (p2 keyR (pVar 0) (pC (.str "liars"))))) (sApp (plK (plN 0) (pC (.str "liars"))) (pVar 11)) (sNext))
noncomputable def f__law_lied_0 : Stx := sEnd [true, false, false, false, false, false, false, false, false, false, false, false] [true, false, false, false, false, false, false, false, false, false, false, false] (sPre [true, false, false, false, false, false, false, false, true, false, false, false] (sFrz 8 (sFor (srcS (pVar 8)) (gN 11) (l__law_lied_0))))
noncomputable def b__law_lied : Stx := sAli 0 7 "stock" (sSeq (sAsg 8 (pLst [pVar 2])) (sSeq (sEnd [true, false, false, false, false, false, false, false, true, false, false, false] [true, false, false, false, false, false, false, false, false, false, false, false] (sIf (tAndD (tVal (p2 (at2 eqF) (pVar 1) (pC (.str "pass")))) (tAndD (tVal (p2 (at2 neF) (pVar 2) (pVar 3))) (tVal (p2 (at2 fGe) (p2 ixR (p2 ixR (pVar 7) (pVar 2)) (pVar 4)) (pVar 5))))) (sSeq (sSetI (plI (plN 7) (pVar 2)) (pVar 4) (p2 (at2 fSub) (p2 ixR (p2 ixR (pVar 7) (pVar 2)) (pVar 4)) (pVar 5))) (sSeq (sSetI (plI (plN 7) (pVar 3)) (pVar 4) (p2 addR (p2 ixR (p2 ixR (pVar 7) (pVar 3)) (pVar 4)) (pVar 5))) (sSeq (sApp (plK (plN 0) (pC (.str "events"))) (pTup [pC (.str "passed"), pVar 2, pVar 3, pVar 4, pVar 5])) (sAsg 8 (pLst [pVar 2, pVar 3]))))) (sIf (tAndD (tVal (p2 (at2 eqF) (pVar 1) (pC (.str "dump")))) (tVal (p2 (at2 fGe) (p2 ixR (p2 ixR (pVar 7) (pVar 2)) (pVar 4)) (pVar 5)))) (sSeq (sSetI (plI (plN 7) (pVar 2)) (pVar 4) (p2 (at2 fSub) (p2 ixR (p2 ixR (pVar 7) (pVar 2)) (pVar 4)) (pVar 5))) (sApp (plK (plN 0) (pC (.str "events"))) (pTup [pC (.str "dumped"), pVar 2, pVar 4, pVar 5]))) (sIf (tAndD (tVal (p2 (at2 eqF) (pVar 1) (pC (.str "conjure")))) (tTru (p2 ixR (p2 ixR (p2 keyR (pVar 0) (pC (.str "parties"))) (pVar 2)) (pC (.int 0))))) (sSeq (sSetI (plI (plN 7) (pVar 2)) (pVar 4) (p2 addR (p2 ixR (p2 ixR (pVar 7) (pVar 2)) (pVar 4)) (pVar 5))) (sApp (plK (plN 0) (pC (.str "events"))) (pTup [pC (.str "conjured"), pVar 2, pVar 4, pVar 5]))) (sIf (tAndD (tVal (p2 (at2 eqF) (pVar 1) (pC (.str "sign")))) (tVal (p2 (at2 neF) (pVar 2) (pVar 3)))) (sSeq (mDrop (mCall m__law_noted [.m, .v, .v, .v, .v, .v] 0 [.n 0, .n 2, .n 3, .n 4, .n 5, .n 6])) (sAsg 8 (pLst [pVar 2, pVar 3]))) (sIf (tVal (p2 (at2 eqF) (pVar 1) (pC (.str "write")))) (sSeq (sPut (plN 0) (pC (.str "last")) (p2 addR (p2 keyR (pVar 0) (pC (.str "last"))) (pC (.int 1)))) (sSeq (sAsg 9 (p2 ixR (pLst [pC (.str "made"), pC (.str "treated"), pC (.str "gave"), pC (.str "took")]) (p2 addR (pB (b1 fInt) [pVar 6]) (p2 mulR (pC (.int 2)) (pB (b1 fInt) [p2 (at2 neF) (pVar 2) (pVar 3)]))))) (sSeq (sAsg 10 (pIf (tVal (p2 (at2 inF) (pVar 9) (pTup [pC (.str "gave"), pC (.str "took")]))) (pTup [pVar 3, pC (.bool false)]) (pTup []))) (sApp (plI (plK (plN 0) (pC (.str "files"))) (pVar 2)) (p2 addR (pTup [p2 keyR (pVar 0) (pC (.str "last")), pVar 9, pVar 4, pVar 5]) (pVar 10)))))) (sIf (tAndD (tVal (p2 (at2 eqF) (pVar 1) (pC (.str "omit")))) (tVal (p2 (at2 fGt) (pB (b1 fLen) [p2 ixR (p2 keyR (pVar 0) (pC (.str "files"))) (pVar 2)]) (pC (.int 0))))) (sPop (plI (plK (plN 0) (pC (.str "files"))) (pVar 2)) (p2 (at2 fMod) (pB (b1 fInt) [pVar 5]) (pB (b1 fLen) [p2 ixR (p2 keyR (pVar 0) (pC (.str "files"))) (pVar 2)]))) (sRet (pC (.bool false)))))))))) (sSeq (f__law_lied_0) (sRet (pC (.bool true))))))
noncomputable def m__law_lied : Fn := fnD 12 [.m, .v, .v, .v, .v, .v, .v] b__law_lied
noncomputable def b__law_honest : Stx := sAli 0 7 "stock" (sSeq (sIf (tAndD (tVal (p2 (at2 eqF) (pVar 1) (pC (.str "make")))) (tTru (p2 ixR (p2 ixR (p2 keyR (pVar 0) (pC (.str "parties"))) (pVar 2)) (pC (.int 0))))) (sSeq (sPut (plN 0) (pC (.str "last")) (p2 addR (p2 keyR (pVar 0) (pC (.str "last"))) (pC (.int 1)))) (sSeq (sSetI (plI (plN 7) (pVar 2)) (pVar 4) (p2 addR (p2 ixR (p2 ixR (pVar 7) (pVar 2)) (pVar 4)) (pVar 5))) (sSeq (sApp (plI (plK (plN 0) (pC (.str "files"))) (pVar 2)) (pTup [p2 keyR (pVar 0) (pC (.str "last")), pC (.str "made"), pVar 4, pVar 5])) (sApp (plK (plN 0) (pC (.str "events"))) (pTup [pC (.str "made"), p2 keyR (pVar 0) (pC (.str "last")), pVar 2, pVar 4, pVar 5]))))) (sIf (tAndD (tVal (p2 (at2 eqF) (pVar 1) (pC (.str "treat")))) (tAndD (tTru (p2 ixR (p2 ixR (p2 keyR (pVar 0) (pC (.str "parties"))) (pVar 2)) (pC (.int 1)))) (tVal (p2 (at2 fGe) (p2 ixR (p2 ixR (pVar 7) (pVar 2)) (pVar 4)) (pVar 5))))) (sSeq (sPut (plN 0) (pC (.str "last")) (p2 addR (p2 keyR (pVar 0) (pC (.str "last"))) (pC (.int 1)))) (sSeq (sSetI (plI (plN 7) (pVar 2)) (pVar 4) (p2 (at2 fSub) (p2 ixR (p2 ixR (pVar 7) (pVar 2)) (pVar 4)) (pVar 5))) (sSeq (sApp (plI (plK (plN 0) (pC (.str "files"))) (pVar 2)) (pTup [p2 keyR (pVar 0) (pC (.str "last")), pC (.str "treated"), pVar 4, pVar 5])) (sApp (plK (plN 0) (pC (.str "events"))) (pTup [pC (.str "treated"), p2 keyR (pVar 0) (pC (.str "last")), pVar 2, pVar 4, pVar 5]))))) (sIf (tAndD (tVal (p2 (at2 eqF) (pVar 1) (pC (.str "hand")))) (tAndD (tVal (p2 (at2 neF) (pVar 2) (pVar 3))) (tVal (p2 (at2 fGe) (p2 ixR (p2 ixR (pVar 7) (pVar 2)) (pVar 4)) (pVar 5))))) (sSeq (mDrop (mCall m__law_noted [.m, .v, .v, .v, .v, .v] 0 [.n 0, .n 2, .n 3, .n 4, .n 5, .n 6])) (sSeq (sSetI (plI (plN 7) (pVar 2)) (pVar 4) (p2 (at2 fSub) (p2 ixR (p2 ixR (pVar 7) (pVar 2)) (pVar 4)) (pVar 5))) (sSeq (sSetI (plI (plN 7) (pVar 3)) (pVar 4) (p2 addR (p2 ixR (p2 ixR (pVar 7) (pVar 3)) (pVar 4)) (pVar 5))) (sApp (plK (plN 0) (pC (.str "events"))) (pTup [pC (.str "handed"), p2 keyR (pVar 0) (pC (.str "last")), pVar 2, pVar 3, pVar 4, pVar 5, pVar 6]))))) (sIf (tVal (p2 (at2 eqF) (pVar 1) (pC (.str "inspect")))) (sSeq (sPut (plN 0) (pC (.str "last")) (p2 addR (p2 keyR (pVar 0) (pC (.str "last"))) (pC (.int 1)))) (sSeq (sApp (plK (plN 0) (pC (.str "finds"))) (pTup [p2 keyR (pVar 0) (pC (.str "last")), pVar 2, pVar 4, p2 ixR (p2 ixR (pVar 7) (pVar 2)) (pVar 4)])) (sApp (plK (plN 0) (pC (.str "events"))) (pTup [pC (.str "found"), p2 keyR (pVar 0) (pC (.str "last")), pVar 2, pVar 4, p2 ixR (p2 ixR (pVar 7) (pVar 2)) (pVar 4)])))) (sRet (pC (.bool false))))))) (sRet (pC (.bool true))))
noncomputable def m__law_honest : Fn := fnD 8 [.m, .v, .v, .v, .v, .v, .v] b__law_honest
noncomputable def b__law_did : Stx := sSeq (sAsgT (gT 6 (gsC (gN 2) (gsC (gN 3) (gsC (gN 4) (gsC (gN 5) (gsC (gN 6) (gsC (gN 7) (gsN)))))))) (pVar 1)) (sSeq (sIf (tVal (p2 (at2 inF) (pVar 2) (pTup [pC (.str "make"), pC (.str "treat"), pC (.str "hand"), pC (.str "inspect")]))) (mRet (mCall m__law_honest [.m, .v, .v, .v, .v, .v, .v] 0 [.n 0, .n 2, .n 3, .n 4, .n 5, .n 6, .n 7])) (sNext)) (mRet (mCall m__law_lied [.m, .v, .v, .v, .v, .v, .v] 0 [.n 0, .n 2, .n 3, .n 4, .n 5, .n 6, .n 7])))
noncomputable def m__law_did : Fn := fnD 8 [.m, .v] b__law_did
noncomputable def b__law_cell : Stx := sSeq (sIf (tVal (p2 (at2 fLt) (pVar 1) (pB (b1 fLen) [pVar 0]))) (sFrz 0 (sRet (p2 ixR (pVar 0) (pVar 1)))) (sNext)) (sRet (pC (.int 0)))
noncomputable def m__law_cell : Fn := fnD 2 [.v, .v] b__law_cell
noncomputable def b__law_deed : Stx := sSeq (sAsg 3 (pCall m__law_draws [.v, .v] [pVar 0, pC (.int 8)])) (sSeq (sAsg 4 (pB (b1 fLen) [p2 keyR (pVar 1) (pC (.str "parties"))])) (sSeq (sAsg 5 (pLst [pC (.str "make"), pC (.str "make"), pC (.str "hand"), pC (.str "hand"), pC (.str "hand"), pC (.str "treat"), pC (.str "inspect")])) (sSeq (sIf (tVal (p2 (at2 fLt) (p2 (at2 fMod) (pB (b1 fInt) [p2 ixR (pVar 3) (pC (.int 0))]) (pC (.int 10))) (pVar 2))) (sAsg 5 (pLst [pC (.str "pass"), pC (.str "dump"), pC (.str "conjure"), pC (.str "sign"), pC (.str "write"), pC (.str "omit"), pC (.str "pass")])) (sNext)) (sSeq (sAsg 6 (p2 (at2 fMod) (pB (b1 fInt) [p2 ixR (pVar 3) (pC (.int 2))]) (pVar 4))) (sSeq (sAsg 7 (p2 (at2 fMod) (pB (b1 fInt) [p2 ixR (pVar 3) (pC (.int 4))]) (p2 keyR (pVar 1) (pC (.str "kinds"))))) (sSeq (sAsg 8 (p2 ixR (pVar 5) (p2 (at2 fMod) (pB (b1 fInt) [p2 ixR (pVar 3) (pC (.int 1))]) (pC (.int 7))))) (sSeq (sAsg 9 (p2 addR (pC (.int 1)) (p2 (at2 fMod) (pB (b1 fInt) [p2 ixR (pVar 3) (pC (.int 5))]) (pC (.int 60))))) (sSeq (sAsg 10 (p2 ixR (p2 ixR (p2 keyR (pVar 1) (pC (.str "stock"))) (pVar 6)) (pVar 7))) (sSeq (sIf (tAndD (tVal (p2 (at2 inF) (pVar 8) (pTup [pC (.str "hand"), pC (.str "treat"), pC (.str "pass"), pC (.str "dump")]))) (tAndD (tVal (p2 (at2 fGt) (pVar 10) (pC (.int 0)))) (tVal (p2 (at2 fGt) (p2 (at2 fMod) (pB (b1 fInt) [p2 ixR (pVar 3) (pC (.int 6))]) (pC (.int 5))) (pC (.int 0)))))) (sAsg 9 (p2 addR (pC (.int 1)) (p2 (at2 fMod) (pB (b1 fInt) [p2 ixR (pVar 3) (pC (.int 5))]) (pVar 10)))) (sNext)) (sRet (pTup [pVar 8, pVar 6, p2 (at2 fMod) (pB (b1 fInt) [p2 ixR (pVar 3) (pC (.int 3))]) (pVar 4), pVar 7, pVar 9, p2 (at2 eqF) (p2 (at2 fMod) (pB (b1 fInt) [p2 ixR (pVar 3) (pC (.int 7))]) (pC (.int 2))) (pC (.int 0))])))))))))))
noncomputable def m__law_deed : Fn := fnD 11 [.v, .v, .v] b__law_deed
noncomputable def l__law_world_0 : Stx := sEnd [true, true, true, false, true, true, false] [false, false, false, false, false, false, false] (mDrop (mCall m__law_did [.m, .v] 5 [.n 5, .p (pCall m__law_deed [.v, .v, .v] [pCall m__law_cell [.v, .v] [pVar 0, p2 addR (p2 addR (pVar 1) (pC (.int 1))) (pVar 6)], pVar 5, pVar 4])]))
noncomputable def f__law_world_0 : Stx := sEnd [false, false, false, false, false, true, false] [false, false, false, false, false, false, false] (sPre [true, true, true, false, true, true, false] (sFor (srcR1 (pVar 2)) (gN 6) (l__law_world_0)))
noncomputable def b__law_world : Stx := sSeq (sAsg 5 (pCall m__law_begun [.v, .v] [p2 addR (pC (.int 1)) (p2 (at2 fMod) (p2 (at2 fDiv) (pCall m__law_cell [.v, .v] [pVar 0, pVar 1]) (pC (.int 7))) (pC (.int 2))), pCall m__law_parties [.v, .v] [pCall m__law_cell [.v, .v] [pVar 0, pVar 1], pVar 3]])) (sSeq (f__law_world_0) (sRetV 5))
noncomputable def m__law_world : Fn := fnD 7 [.v, .v, .v, .v, .v] b__law_world
noncomputable def b__law_put : Stx := sRet (p2 addR (p2 addR (pSl (pVar 0) none (some (pVar 1))) (pTup [pVar 2])) (pSl (pVar 0) (some (p2 addR (pVar 1) (pC (.int 1)))) none))
noncomputable def m__law_put : Fn := fnD 3 [.v, .v, .i] b__law_put
noncomputable def b__law_odd : Stx := sSeq (sAsg 2 (pLstF [pC (.bool true), pC (.bool false), pC .none, pNeg (pC (.int 1)), pC (.int 0), pC (.int 1), pC (.int 2), pC (.int 3), pC (.int 7), pC (.int 8), pC (.str "made"), pC (.str "gave"), pC (.str "x"), pTup [], pFz (pLst [])])) (sSeq (sAsg 2 (p2 addR (pVar 2) (pLstF [p2 (at2 fPow) (pC (.int 10)) (pC (.int 9)), p2 addR (p2 (at2 fPow) (pC (.int 10)) (pC (.int 9))) (pC (.int 1)), p2 (at2 fPow) (pC (.int 10)) (pC (.int 12)), p2 addR (p2 (at2 fPow) (pC (.int 10)) (pC (.int 12))) (pC (.int 1))]))) (sFrz 2 (sRet (p2 ixR (pVar 2) (p2 (at2 fMod) (pB (b1 fInt) [p2 ixR (pVar 0) (pVar 1)]) (pB (b1 fLen) [pVar 2]))))))
noncomputable def m__law_odd : Fn := fnD 3 [.v, .v] b__law_odd
noncomputable def t__law_changed_0 : Stx := sSeq (sAsg 11 (pIf (tVal (p2 (at2 eqF) (p2 (at2 fMod) (pB (b1 fInt) [p2 ixR (pVar 2) (pC (.int 4))]) (pC (.int 9))) (pC (.int 0)))) (pSl (pVar 11) none (some (pC (.int 3)))) (pCall m__law_put [.v, .v, .i] [pVar 11, p2 (at2 fMod) (pB (b1 fInt) [p2 ixR (pVar 2) (pC (.int 5))]) (pB (b1 fLen) [pVar 11]), pCall m__law_odd [.v, .v] [pVar 2, pC (.int 3)]]))) (sFrz 11 (sRet (pTup [pVar 3, pVar 4, pCall m__law_put [.v, .v, .i] [pVar 5, pVar 8, pCall m__law_put [.v, .v, .i] [p2 ixR (pVar 5) (pVar 8), pVar 10, pVar 11]], pVar 6])))
noncomputable def t__law_changed_1 : Stx := sSeq (sAsg 11 (p2 ixR (p2 ixR (pVar 5) (pVar 8)) (pVar 10))) (t__law_changed_0)
noncomputable def c__law_changed_0 : Px := pTup [p2 addR (pC (.int 1)) (pVar 14), pC (.str "made"), pC (.int 0), pC (.int 5)]
noncomputable def q__law_changed_0 : Px := pComp [14] (srcR1 (p2 addR (pC (.int 198)) (p2 (at2 fMod) (pB (b1 fInt) [p2 ixR (pVar 2) (pC (.int 2))]) (pC (.int 5))))) (cN 14) (tYesD) (c__law_changed_0)
noncomputable def t__law_changed_2 : Stx := sSeq (sIf (tVal (p2 (at2 eqF) (p2 (at2 fMod) (pB (b1 fInt) [p2 ixR (pVar 2) (pC (.int 7))]) (pC (.int 2))) (pC (.int 0)))) (sAsg 13 (pCall m__law_put [.v, .v, .i] [pVar 13, p2 (at2 fMod) (pB (b1 fInt) [p2 ixR (pVar 2) (pC (.int 5))]) (pC (.int 4)), pCall m__law_odd [.v, .v] [pVar 2, pC (.int 6)]])) (sNext)) (sRet (pTup [pVar 3, pVar 4, pVar 5, p2 addR (pVar 6) (pTup [pVar 13])]))
noncomputable def t__law_changed_3 : Stx := sSeq (sAsg 13 (pTup [p2 (at2 fMod) (pB (b1 fInt) [p2 ixR (pVar 2) (pC (.int 2))]) (pC (.int 60)), pVar 8, p2 (at2 fMod) (pB (b1 fInt) [p2 ixR (pVar 2) (pC (.int 3))]) (pC (.int 3)), p2 (at2 fMod) (pB (b1 fInt) [p2 ixR (pVar 2) (pC (.int 4))]) (pC (.int 3))])) (t__law_changed_2)
noncomputable def t__law_changed_4 : Stx := sSeq (sIf (tVal (p2 (at2 eqF) (pVar 7) (pC (.int 7)))) (sRet (pTup [pVar 3, pVar 4, pCall m__law_put [.v, .v, .i] [pVar 5, pVar 8, pRevT (p2 ixR (pVar 5) (pVar 8))], pRevT (pVar 6)])) (sNext)) (t__law_changed_3)
noncomputable def t__law_changed_5 : Stx := sSeq (sEnd [false, false, true, true, true, true, true, true, true, false, false, false, false, false, false] [false, false, false, false, false, false, false, false, false, false, false, false, false, false, false] (sIf (tVal (p2 (at2 eqF) (pVar 7) (pC (.int 6)))) (sSeq (sAsg 12 (pB bTuple [q__law_changed_0])) (sFrz 12 (sRet (pTup [pVar 3, pVar 4, pCall m__law_put [.v, .v, .i] [pVar 5, pVar 8, pVar 12], pTup []])))) (sNext))) (t__law_changed_4)
noncomputable def t__law_changed_6 : Stx := sSeq (sEnd [false, false, true, true, true, true, true, true, true, false, false, false, false, false, false] [false, false, false, false, false, false, false, false, false, false, false, false, false, false, false] (sIf (tAndD (tVal (p2 (at2 fLt) (pVar 7) (pC (.int 6)))) (tVal (p2 (at2 fGt) (pB (b1 fLen) [p2 ixR (pVar 5) (pVar 8)]) (pC (.int 0))))) (sSeq (sAsg 10 (p2 (at2 fMod) (pB (b1 fInt) [p2 ixR (pVar 2) (pC (.int 2))]) (pB (b1 fLen) [p2 ixR (pVar 5) (pVar 8)]))) (t__law_changed_1)) (sNext))) (t__law_changed_5)
noncomputable def t__law_changed_7 : Stx := sSeq (sIf (tVal (p2 (at2 eqF) (pVar 7) (pC (.int 3)))) (sRet (pTup [pVar 3, p2 mulT (pVar 4) (p2 addR (pC (.int 1)) (p2 (at2 fMod) (pB (b1 fInt) [p2 ixR (pVar 2) (pC (.int 2))]) (pC (.int 9)))), p2 mulT (pVar 5) (p2 addR (pC (.int 1)) (p2 (at2 fMod) (pB (b1 fInt) [p2 ixR (pVar 2) (pC (.int 2))]) (pC (.int 9)))), pVar 6])) (sNext)) (t__law_changed_6)
noncomputable def t__law_changed_8 : Stx := sSeq (sIf (tVal (p2 (at2 eqF) (pVar 7) (pC (.int 2)))) (sRet (pTup [pVar 3, pVar 4, pSl (pVar 5) none (some (pNeg (pC (.int 1)))), pVar 6])) (sNext)) (t__law_changed_7)
noncomputable def t__law_changed_9 : Stx := sSeq (sEnd [false, false, true, true, true, true, true, true, true, false, false, false, false, false, false] [false, false, false, false, false, false, false, false, false, false, false, false, false, false, false] (sIf (tVal (p2 (at2 eqF) (pVar 7) (pC (.int 1)))) (sSeq (sAsg 9 (pCall m__law_put [.v, .v, .i] [p2 ixR (pVar 4) (pVar 8), p2 (at2 fMod) (pB (b1 fInt) [p2 ixR (pVar 2) (pC (.int 2))]) (pC (.int 2)), pCall m__law_odd [.v, .v] [pVar 2, pC (.int 3)]])) (sFrz 9 (sRet (pTup [pVar 3, pCall m__law_put [.v, .v, .i] [pVar 4, pVar 8, pVar 9], pVar 5, pVar 6])))) (sNext))) (t__law_changed_8)
noncomputable def t__law_changed_10 : Stx := sSeq (sIf (tVal (p2 (at2 eqF) (pVar 7) (pC (.int 0)))) (sRet (pCall m__law_put [.v, .v, .i] [pVar 1, p2 (at2 fMod) (pB (b1 fInt) [p2 ixR (pVar 2) (pC (.int 2))]) (pC (.int 4)), pCall m__law_odd [.v, .v] [pVar 2, pC (.int 3)]])) (sNext)) (t__law_changed_9)
noncomputable def t__law_changed_11 : Stx := sSeq (sAsg 8 (p2 (at2 fMod) (pB (b1 fInt) [p2 ixR (pVar 2) (pC (.int 1))]) (pB (b1 fLen) [pVar 5]))) (t__law_changed_10)
noncomputable def t__law_changed_12 : Stx := sSeq (sAsg 7 (p2 (at2 fMod) (pB (b1 fInt) [p2 ixR (pVar 2) (pC (.int 0))]) (pC (.int 9)))) (t__law_changed_11)
noncomputable def t__law_changed_13 : Stx := sSeq (sAsgT (gT 4 (gsC (gN 3) (gsC (gN 4) (gsC (gN 5) (gsC (gN 6) (gsN)))))) (pVar 1)) (t__law_changed_12)
noncomputable def b__law_changed : Stx := sSeq (sAsg 2 (pCall m__law_draws [.v, .v] [pVar 0, pC (.int 9)])) (t__law_changed_13)
noncomputable def m__law_changed : Fn := fnD 15 [.v, .v] b__law_changed
noncomputable def c_entry_numbers_0 : Px := p2 ixR (pVar 2) (pC (.int 0))
noncomputable def cs_entry_numbers_0 : Src := srcS (pVar 1)
noncomputable def q_entry_numbers_0 : Px := pDc2 [1, 2] (srcC (pVar 0)) (cN 1) (tYesD) [2] (cs_entry_numbers_0) (cN 2) (tYesD) (c_entry_numbers_0)
noncomputable def b_entry_numbers : Stx := sRet (q_entry_numbers_0)
noncomputable def m_entry_numbers : Fn := fnD 3 [.i] b_entry_numbers
noncomputable def c_ascend_0 : Px := p2 (at2 fLt) (p2 ixR (p2 ixR (pVar 0) (pVar 1)) (pC (.int 0))) (p2 ixR (pVar 2) (pC (.int 0)))
noncomputable def q_ascend_0 : Px := pAnyX true [1, 2] (srcEc (pSl (pVar 0) (some (pC (.int 1))) none)) (gT 2 (gsC (cN 1) (gsC (cN 2) (gsN)))) (c_ascend_0)
noncomputable def b_ascend : Stx := sRet (q_ascend_0)
noncomputable def m_ascend : Fn := fnD 3 [.i] b_ascend
noncomputable def b_is_number : Stx := sRet (pAnd (pIsi "int" (pVar 0)) (pAnd (pNot (pIsi "bool" (pVar 0))) (pChI (fun i j => decide (i ≤ j)) (fun i j => decide (i ≤ j)) (pVar 1) (pVar 0) (pVar 2))))
noncomputable def m_is_number : Fn := fnD 3 [.i, .v, .v] b_is_number
noncomputable def b_is_find : Stx := sSeq (sIf (tOrD (tNotD (tTru (pIsi "tuple" (pVar 0)))) (tOrD (tVal (p2 (at2 neF) (pB (b1 fLen) [pVar 0]) (pC (.int 4)))) (tNotD (tTru (pCall m_is_number [.i, .v, .v] [p2 ixR (pVar 0) (pC (.int 0)), pC (.int 1), pC (.int 1000000000)]))))) (sRet (pC (.bool false))) (sNext)) (sSeq (sIf (tOrD (tNotD (tTru (pCall m_is_number [.i, .v, .v] [p2 ixR (pVar 0) (pC (.int 1)), pC (.int 0), p2 (at2 fSub) (pVar 2) (pC (.int 1))]))) (tNotD (tTru (pCall m_is_number [.i, .v, .v] [p2 ixR (pVar 0) (pC (.int 2)), pC (.int 0), p2 (at2 fSub) (pVar 1) (pC (.int 1))])))) (sRet (pC (.bool false))) (sNext)) (sRet (pCall m_is_number [.i, .v, .v] [p2 ixR (pVar 0) (pC (.int 3)), pC (.int 0), pC (.int 1000000000000)])))
noncomputable def m_is_find : Fn := fnD 3 [.i, .v, .v] b_is_find
noncomputable def c_are_finds_0 : Px := pCall m_is_find [.i, .v, .v] [pVar 3, pVar 1, pVar 2]
noncomputable def q_are_finds_0 : Px := pAnyX true [3] (srcC (pVar 0)) (cN 3) (c_are_finds_0)
noncomputable def b_are_finds : Stx := sSeq (sIf (tOrD (tNotD (tTru (pIsi "tuple" (pVar 0)))) (tVal (p2 (at2 fGt) (pB (b1 fLen) [pVar 0]) (pC (.int 200))))) (sRet (pC (.bool false))) (sNext)) (sFrz 3 (sRet (pAnd (q_are_finds_0) (pCall m_ascend [.i] [pVar 0]))))
noncomputable def m_are_finds : Fn := fnD 4 [.i, .v, .v] b_are_finds
noncomputable def b_is_flag : Stx := sRet (pIsi "bool" (pVar 0))
noncomputable def m_is_flag : Fn := fnD 1 [.i] b_is_flag
noncomputable def b_is_party : Stx := sRet (pAnd (pIsi "tuple" (pVar 0)) (pAnd (p2 (at2 eqF) (pB (b1 fLen) [pVar 0]) (pC (.int 2))) (pAnd (pCall m_is_flag [.i] [p2 ixR (pVar 0) (pC (.int 0))]) (pCall m_is_flag [.i] [p2 ixR (pVar 0) (pC (.int 1))]))))
noncomputable def m_is_party : Fn := fnD 1 [.i] b_is_party
noncomputable def c_is_parties_0 : Px := pCall m_is_party [.i] [pVar 1]
noncomputable def q_is_parties_0 : Px := pAnyX true [1] (srcC (pVar 0)) (cN 1) (c_is_parties_0)
noncomputable def b_is_parties : Stx := sFrz 1 (sRet (pAnd (pIsi "tuple" (pVar 0)) (pAnd (pChI (fun i j => decide (i ≤ j)) (fun i j => decide (i ≤ j)) (pC (.int 1)) (pB (b1 fLen) [pVar 0]) (pC (.int 8))) (q_is_parties_0))))
noncomputable def m_is_parties : Fn := fnD 2 [.i] b_is_parties
noncomputable def t_is_entry_0 : Stx := sSeq (sIf (tVal (p2 (at2 eqF) (pB (b1 fLen) [pVar 0]) (pC (.int 4)))) (sRet (pC (.bool true))) (sNext)) (sRet (pAnd (pCall m_is_number [.i, .v, .v] [p2 ixR (pVar 0) (pC (.int 4)), pC (.int 0), p2 (at2 fSub) (pVar 2) (pC (.int 1))]) (pAnd (p2 (at2 neF) (p2 ixR (pVar 0) (pC (.int 4))) (pVar 3)) (pCall m_is_flag [.i] [p2 ixR (pVar 0) (pC (.int 5))]))))
noncomputable def t_is_entry_1 : Stx := sSeq (sIf (tOrD (tNotD (tTru (pCall m_is_number [.i, .v, .v] [p2 ixR (pVar 0) (pC (.int 2)), pC (.int 0), p2 (at2 fSub) (pVar 1) (pC (.int 1))]))) (tNotD (tTru (pCall m_is_number [.i, .v, .v] [p2 ixR (pVar 0) (pC (.int 3)), pC (.int 1), pC (.int 1000000000000)])))) (sRet (pC (.bool false))) (sNext)) (t_is_entry_0)
noncomputable def t_is_entry_2 : Stx := sSeq (sIf (tOrD (tNotD (tTru (pCall m_is_number [.i, .v, .v] [p2 ixR (pVar 0) (pC (.int 0)), pC (.int 1), pC (.int 1000000000)]))) (tOrD (tNotD (tTru (pIsi "str" (p2 ixR (pVar 0) (pC (.int 1)))))) (tVal (p2 (at2 ninF) (p2 ixR (pVar 0) (pC (.int 1))) (pVar 4))))) (sRet (pC (.bool false))) (sNext)) (t_is_entry_1)
noncomputable def t_is_entry_3 : Stx := sSeq (sAsg 4 (pIf (tVal (p2 (at2 eqF) (pB (b1 fLen) [pVar 0]) (pC (.int 4)))) (pC (.tuple [.str "made", .str "treated"])) (pC (.tuple [.str "gave", .str "took"])))) (t_is_entry_2)
noncomputable def b_is_entry : Stx := sSeq (sIf (tOrD (tNotD (tTru (pIsi "tuple" (pVar 0)))) (tVal (p2 (at2 ninF) (pB (b1 fLen) [pVar 0]) (pTup [pC (.int 4), pC (.int 6)])))) (sRet (pC (.bool false))) (sNext)) (t_is_entry_3)
noncomputable def m_is_entry : Fn := fnD 5 [.i, .v, .v, .v] b_is_entry
noncomputable def c_is_file_0 : Px := pCall m_is_entry [.i, .v, .v, .v] [pVar 4, pVar 1, pVar 2, pVar 3]
noncomputable def q_is_file_0 : Px := pAnyX true [4] (srcC (pVar 0)) (cN 4) (c_is_file_0)
noncomputable def b_is_file : Stx := sSeq (sIf (tOrD (tNotD (tTru (pIsi "tuple" (pVar 0)))) (tVal (p2 (at2 fGt) (pB (b1 fLen) [pVar 0]) (pC (.int 200))))) (sRet (pC (.bool false))) (sNext)) (sFrz 4 (sRet (pAnd (q_is_file_0) (pCall m_ascend [.i] [pVar 0]))))
noncomputable def m_is_file : Fn := fnD 5 [.i, .v, .v, .v] b_is_file
noncomputable def c_is_evidence_0 : Px := pCall m_is_file [.i, .v, .v, .v] [pVar 7, pVar 1, pB (b1 fLen) [pVar 2], pVar 6]
noncomputable def q_is_evidence_0 : Px := pAnyX true [6, 7] (srcEc (pVar 3)) (gT 2 (gsC (cN 6) (gsC (cN 7) (gsN)))) (c_is_evidence_0)
noncomputable def c_is_evidence_1 : Px := p2 (at2 inK) (p2 ixR (pVar 8) (pC (.int 0))) (pVar 5)
noncomputable def q_is_evidence_1 : Px := pAnyX false [8] (srcC (pVar 4)) (cN 8) (c_is_evidence_1)
noncomputable def t_is_evidence_0 : Stx := sSeq (sAsg 5 (pCall m_entry_numbers [.i] [pVar 3])) (sRet (pNot (q_is_evidence_1)))
noncomputable def t_is_evidence_1 : Stx := sSeq (sIf (tNotD (tTru (pCall m_are_finds [.i, .v, .v] [pVar 4, pVar 1, pB (b1 fLen) [pVar 2]]))) (sRet (pC (.bool false))) (sNext)) (t_is_evidence_0)
noncomputable def t_is_evidence_2 : Stx := sSeq (sIf (tNotD (tTru (q_is_evidence_0))) (sRet (pC (.bool false))) (sNext)) (t_is_evidence_1)
noncomputable def t_is_evidence_3 : Stx := sSeq (sIf (tOrD (tNotD (tTru (pCall m_is_parties [.i] [pVar 2]))) (tOrD (tNotD (tTru (pIsi "tuple" (pVar 3)))) (tVal (p2 (at2 neF) (pB (b1 fLen) [pVar 3]) (pB (b1 fLen) [pVar 2]))))) (sRet (pC (.bool false))) (sNext)) (t_is_evidence_2)
noncomputable def t_is_evidence_4 : Stx := sSeq (sAsgT (gT 4 (gsC (gN 1) (gsC (gN 2) (gsC (gN 3) (gsC (gN 4) (gsN)))))) (pVar 0)) (t_is_evidence_3)
noncomputable def b_is_evidence : Stx := sSeq (sIf (tOrD (tNotD (tTru (pIsi "tuple" (pVar 0)))) (tOrD (tVal (p2 (at2 neF) (pB (b1 fLen) [pVar 0]) (pC (.int 4)))) (tNotD (tTru (pCall m_is_number [.i, .v, .v] [p2 ixR (pVar 0) (pC (.int 0)), pC (.int 1), pC (.int 3)]))))) (sRet (pC (.bool false))) (sNext)) (t_is_evidence_4)
noncomputable def m_is_evidence : Fn := fnD 9 [.i] b_is_evidence
noncomputable def b__law_is_integer : Stx := sRet (pAnd (pIsi "int" (pVar 0)) (pAnd (pNot (pIsi "bool" (pVar 0))) (pChI (fun i j => decide (i ≤ j)) (fun i j => decide (i ≤ j)) (pVar 1) (pVar 0) (pVar 2))))
noncomputable def m__law_is_integer : Fn := fnD 3 [.i, .v, .v] b__law_is_integer
noncomputable def c__law_ascends_0 : Px := pVar 1
noncomputable def ct__law_ascends_0 : Tx := tVal (p2 (at2 fGe) (p2 ixR (p2 ixR (pVar 0) (p2 (at2 fSub) (pVar 1) (pC (.int 1)))) (pC (.int 0))) (p2 ixR (p2 ixR (pVar 0) (pVar 1)) (pC (.int 0))))
noncomputable def q__law_ascends_0 : Px := pComp [1] (srcR2 (pC (.int 1)) (pB (b1 fLen) [pVar 0])) (cN 1) (ct__law_ascends_0) (c__law_ascends_0)
noncomputable def b__law_ascends : Stx := sRet (p2 (at2 eqF) (pB (b1 fLen) [q__law_ascends_0]) (pC (.int 0)))
noncomputable def m__law_ascends : Fn := fnD 2 [.i] b__law_ascends
noncomputable def t__law_is_row_0 : Stx := sSeq (sIf (tOrD (tNotD (tTru (pCall m__law_is_integer [.i, .v, .v] [p2 ixR (pVar 0) (pC (.int 2)), pC (.int 0), p2 (at2 fSub) (pVar 1) (pC (.int 1))]))) (tNotD (tTru (pCall m__law_is_integer [.i, .v, .v] [p2 ixR (pVar 0) (pC (.int 3)), pC (.int 1), p2 (at2 fPow) (pC (.int 10)) (pC (.int 12))])))) (sRet (pC (.bool false))) (sNext)) (sRet (pOr (p2 (at2 eqF) (pB (b1 fLen) [pVar 0]) (pC (.int 4))) (pAnd (pCall m__law_is_integer [.i, .v, .v] [p2 ixR (pVar 0) (pC (.int 4)), pC (.int 0), p2 (at2 fSub) (pVar 2) (pC (.int 1))]) (pAnd (p2 (at2 neF) (p2 ixR (pVar 0) (pC (.int 4))) (pVar 3)) (pIsi "bool" (p2 ixR (pVar 0) (pC (.int 5))))))))
noncomputable def t__law_is_row_1 : Stx := sSeq (sIf (tOrD (tNotD (tTru (pCall m__law_is_integer [.i, .v, .v] [p2 ixR (pVar 0) (pC (.int 0)), pC (.int 1), p2 (at2 fPow) (pC (.int 10)) (pC (.int 9))]))) (tVal (p2 (at2 ninF) (p2 ixR (pVar 0) (pC (.int 1))) (pVar 4)))) (sRet (pC (.bool false))) (sNext)) (t__law_is_row_0)
noncomputable def t__law_is_row_2 : Stx := sSeq (sAsg 4 (p2 ixR (pFz (pLst [pLst [pC (.str "made"), pC (.str "treated")], pLst [pC (.str "gave"), pC (.str "took")]])) (pB (b1 fInt) [p2 (at2 eqF) (pB (b1 fLen) [pVar 0]) (pC (.int 6))]))) (t__law_is_row_1)
noncomputable def b__law_is_row : Stx := sSeq (sIf (tOrD (tNotD (tTru (pIsi "tuple" (pVar 0)))) (tVal (p2 (at2 ninF) (pB (b1 fLen) [pVar 0]) (pTup [pC (.int 4), pC (.int 6)])))) (sRet (pC (.bool false))) (sNext)) (t__law_is_row_2)
noncomputable def m__law_is_row : Fn := fnD 5 [.i, .v, .v, .v] b__law_is_row
noncomputable def b__law_is_find : Stx := sSeq (sIf (tOrD (tNotD (tTru (pIsi "tuple" (pVar 0)))) (tOrD (tVal (p2 (at2 neF) (pB (b1 fLen) [pVar 0]) (pC (.int 4)))) (tNotD (tTru (pCall m__law_is_integer [.i, .v, .v] [p2 ixR (pVar 0) (pC (.int 0)), pC (.int 1), p2 (at2 fPow) (pC (.int 10)) (pC (.int 9))]))))) (sRet (pC (.bool false))) (sNext)) (sSeq (sIf (tOrD (tNotD (tTru (pCall m__law_is_integer [.i, .v, .v] [p2 ixR (pVar 0) (pC (.int 1)), pC (.int 0), p2 (at2 fSub) (pVar 2) (pC (.int 1))]))) (tNotD (tTru (pCall m__law_is_integer [.i, .v, .v] [p2 ixR (pVar 0) (pC (.int 2)), pC (.int 0), p2 (at2 fSub) (pVar 1) (pC (.int 1))])))) (sRet (pC (.bool false))) (sNext)) (sRet (pCall m__law_is_integer [.i, .v, .v] [p2 ixR (pVar 0) (pC (.int 3)), pC (.int 0), p2 (at2 fPow) (pC (.int 10)) (pC (.int 12))])))
noncomputable def m__law_is_find : Fn := fnD 3 [.i, .v, .v] b__law_is_find
noncomputable def c__law_is_evidence_0 : Px := pIsi "bool" (pVar 9)
noncomputable def q__law_is_evidence_0 : Px := pComp [9] (srcC (pVar 5)) (cN 9) (tYesD) (c__law_is_evidence_0)
noncomputable def l__law_is_evidence_0 : Stx := sEnd [false, true, true, true, true, false, false, false, false, false, false] [false, false, false, false, false, false, false, false, false, false, false] (sIf (tOrD (tNotD (tTru (pIsi "tuple" (pVar 5)))) (tVal (p2 (at2 neF) (q__law_is_evidence_0) (pLst [pC (.bool true), pC (.bool true)])))) (sRet (pC (.bool false))) (sNext))
noncomputable def f__law_is_evidence_0 : Stx := sEnd [false, true, true, true, true, false, false, false, false, false, false] [false, false, false, false, false, false, false, false, false, false, false] (sPre [false, true, true, true, true, false, false, false, false, false, false] (sFrz 2 (sFor (srcS (pVar 2)) (gN 5) (l__law_is_evidence_0))))
noncomputable def c__law_is_evidence_1 : Px := pVar 10
noncomputable def ct__law_is_evidence_1 : Tx := tNotD (tTru (pCall m__law_is_row [.i, .v, .v, .v] [pVar 10, pVar 1, pB (b1 fLen) [pVar 3], pVar 7]))
noncomputable def q__law_is_evidence_1 : Px := pComp [10] (srcC (pVar 8)) (cN 10) (ct__law_is_evidence_1) (c__law_is_evidence_1)
noncomputable def c__law_is_evidence_2 : Px := p2 ixR (pVar 10) (pC (.int 0))
noncomputable def q__law_is_evidence_2 : Px := pComp [10] (srcC (pVar 8)) (cN 10) (tYesD) (c__law_is_evidence_2)
noncomputable def t__law_is_evidence_0 : Stx := sSeq (sIf (tNotD (tTru (pCall m__law_ascends [.i] [pVar 8]))) (sRet (pC (.bool false))) (sNext)) (sAsg 6 (p2 addR (pVar 6) (q__law_is_evidence_2)))
noncomputable def t__law_is_evidence_1 : Stx := sSeq (sIf (tVal (p2 (at2 fGt) (pB (b1 fLen) [q__law_is_evidence_1]) (pC (.int 0)))) (sRet (pC (.bool false))) (sNext)) (t__law_is_evidence_0)
noncomputable def t__law_is_evidence_2 : Stx := sSeq (sIf (tOrD (tNotD (tTru (pIsi "tuple" (pVar 8)))) (tVal (p2 (at2 fGt) (pB (b1 fLen) [pVar 8]) (pC (.int 200))))) (sRet (pC (.bool false))) (sNext)) (t__law_is_evidence_1)
noncomputable def l__law_is_evidence_1 : Stx := sEnd [false, true, false, true, true, false, true, false, false, false, false] [false, false, false, false, false, false, false, false, false, false, false] (sSeq (sAsg 8 (p2 ixR (pVar 3) (pVar 7))) (t__law_is_evidence_2))
noncomputable def f__law_is_evidence_1 : Stx := sEnd [false, true, false, true, true, false, true, false, false, false, false] [false, false, false, false, false, false, false, false, false, false, false] (sPre [false, true, false, true, true, false, true, false, false, false, false] (sFor (srcR1 (pB (b1 fLen) [pVar 3])) (gN 7) (l__law_is_evidence_1)))
noncomputable def c__law_is_evidence_3 : Px := pVar 10
noncomputable def ct__law_is_evidence_3 : Tx := tNotD (tTru (pCall m__law_is_find [.i, .v, .v] [pVar 10, pVar 1, pB (b1 fLen) [pVar 3]]))
noncomputable def q__law_is_evidence_3 : Px := pComp [10] (srcC (pVar 4)) (cN 10) (ct__law_is_evidence_3) (c__law_is_evidence_3)
noncomputable def c__law_is_evidence_4 : Px := pVar 10
noncomputable def ct__law_is_evidence_4 : Tx := tVal (p2 (at2 inF) (p2 ixR (pVar 10) (pC (.int 0))) (pVar 6))
noncomputable def q__law_is_evidence_4 : Px := pComp [10] (srcC (pVar 4)) (cN 10) (ct__law_is_evidence_4) (c__law_is_evidence_4)
noncomputable def t__law_is_evidence_3 : Stx := sSeq (sIf (tOrD (tVal (p2 (at2 fGt) (pB (b1 fLen) [q__law_is_evidence_3]) (pC (.int 0)))) (tNotD (tTru (pCall m__law_ascends [.i] [pVar 4])))) (sRet (pC (.bool false))) (sNext)) (sRet (p2 (at2 eqF) (pB (b1 fLen) [q__law_is_evidence_4]) (pC (.int 0))))
noncomputable def t__law_is_evidence_4 : Stx := sSeq (f__law_is_evidence_1) (t__law_is_evidence_3)
noncomputable def t__law_is_evidence_5 : Stx := sSeq (sAsg 6 (pLst [])) (t__law_is_evidence_4)
noncomputable def t__law_is_evidence_6 : Stx := sSeq (sIf (tOrD (tVal (p2 (at2 neF) (pB (b1 fLen) [pVar 3]) (pB (b1 fLen) [pVar 2]))) (tVal (p2 (at2 fGt) (pB (b1 fLen) [pVar 4]) (pC (.int 200))))) (sRet (pC (.bool false))) (sNext)) (t__law_is_evidence_5)
noncomputable def t__law_is_evidence_7 : Stx := sSeq (f__law_is_evidence_0) (t__law_is_evidence_6)
noncomputable def t__law_is_evidence_8 : Stx := sSeq (sIf (tNotD (tVal (pChI (fun i j => decide (i ≤ j)) (fun i j => decide (i ≤ j)) (pC (.int 1)) (pB (b1 fLen) [pVar 2]) (pC (.int 8))))) (sRet (pC (.bool false))) (sNext)) (t__law_is_evidence_7)
noncomputable def t__law_is_evidence_9 : Stx := sSeq (sIf (tOrD (tNotD (tTru (pIsi "tuple" (pVar 2)))) (tOrD (tNotD (tTru (pIsi "tuple" (pVar 3)))) (tNotD (tTru (pIsi "tuple" (pVar 4)))))) (sRet (pC (.bool false))) (sNext)) (t__law_is_evidence_8)
noncomputable def t__law_is_evidence_10 : Stx := sSeq (sAsgT (gT 4 (gsC (gN 1) (gsC (gN 2) (gsC (gN 3) (gsC (gN 4) (gsN)))))) (pVar 0)) (t__law_is_evidence_9)
noncomputable def b__law_is_evidence : Stx := sSeq (sIf (tOrD (tNotD (tTru (pIsi "tuple" (pVar 0)))) (tOrD (tVal (p2 (at2 neF) (pB (b1 fLen) [pVar 0]) (pC (.int 4)))) (tNotD (tTru (pCall m__law_is_integer [.i, .v, .v] [p2 ixR (pVar 0) (pC (.int 0)), pC (.int 1), pC (.int 3)]))))) (sRet (pC (.bool false))) (sNext)) (t__law_is_evidence_10)
noncomputable def m__law_is_evidence : Fn := fnD 11 [.i] b__law_is_evidence
noncomputable def l_law_0 : Stx := sEnd [true, true, false, false, false, false] [false, false, false, false, false, false] (sIf (tVal (p2 (at2 isnF2) (pCall m_is_evidence [.i] [pVar 2]) (pC (.bool false)))) (sRet (pC (.bool false))) (sNext))
noncomputable def f_law_0 : Stx := sEnd [true, true, false, false, false, false] [false, false, false, false, false, false] (sPre [true, true, false, false, false, false] (sFor (srcS (pFz (pLst [pC (.int 5), pC .none, pC (.str "abcd"), pTup [], pTup [pC (.int 1), pC (.int 2), pC (.int 3)], pSl (pVar 1) none (some (pC (.int 3))), p2 addR (pVar 1) (pTup [pC (.int 1)]), pB bList [pVar 1]]))) (gN 2) (l_law_0)))
noncomputable def t_law_0 : Stx := sSeq (sAsg 5 (pCall m_is_evidence [.i] [pVar 4])) (sIf (tOrD (tNotD (tTru (pIsi "bool" (pVar 5)))) (tVal (p2 (at2 neF) (pVar 5) (pCall m__law_is_evidence [.i] [pVar 4])))) (sRet (pC (.bool false))) (sNext))
noncomputable def l_law_1 : Stx := sEnd [true, true, false, false, false, false] [false, false, false, false, false, false] (sSeq (sAsg 4 (pCall m__law_changed [.v, .v] [pCall m__law_cell [.v, .v] [pVar 0, p2 addR (pC (.int 40)) (pVar 3)], pVar 1])) (t_law_0))
noncomputable def f_law_1 : Stx := sEnd [false, false, false, false, false, false] [false, false, false, false, false, false] (sPre [true, true, false, false, false, false] (sFor (srcR1 (pC (.int 4))) (gN 3) (l_law_1)))
noncomputable def t_law_1 : Stx := sSeq (f_law_1) (sRet (pC (.bool true)))
noncomputable def t_law_2 : Stx := sSeq (f_law_0) (t_law_1)
noncomputable def t_law_3 : Stx := sSeq (sIf (tOrD (tVal (p2 (at2 isnF2) (pCall m_is_evidence [.i] [pVar 1]) (pC (.bool true)))) (tNotD (tTru (pCall m__law_is_evidence [.i] [pVar 1])))) (sRet (pC (.bool false))) (sNext)) (t_law_2)
noncomputable def b_law : Stx := sSeq (sAsg 1 (pCall m__law_evidence [.v] [pCall m__law_world [.v, .v, .v, .v, .v] [pVar 0, pC (.int 4), p2 (at2 fMod) (pCall m__law_cell [.v, .v] [pVar 0, pC (.int 0)]) (pC (.int 25)), pC (.int 5), pC (.int 3)]])) (t_law_3)
noncomputable def m_law : Fn := fnD 6 [.v] b_law
end
section
variable [WD] {P : Program} {w : World} {K : PySem.W.Frag} {mg : Str → Option Value} {base : Heap}
theorem sc__law_evidence : FnScope ["_law_world_here", "_law_files", "_law_file"] ["_law_world_here"] (defScope st__law_evidence) := ⟨rfl, rfl, rfl, by decide +kernel, rfl, by decide +kernel, by decide +kernel⟩
theorem ok__law_evidence (T : Txt w K mg base) {f : Addr} {fd : FuncData} (F : FunD K "_law_evidence" "_law_evidence" (defArgs st__law_evidence) (defBody st__law_evidence) (defScope st__law_evidence) [] [] f fd) : FnOk P w K mg base CX0 1 f fd ["_law_world_here"] (spF K [.v] m__law_evidence) := by
  have B : ∀ (cdv : Value) (A : Around) (outer : List Env) (s : Shared) (H : Hp) (E : XK), Room 0 (A.deeper (envOfC "_law_evidence" (defScope st__law_evidence) s.heap.objs.size f cdv)) → PSs (cxOf CX0 P w K mg base ["_law_world_here", "_law_files", "_law_file"] "_law_evidence" (defScope st__law_evidence) f cdv A outer s H E) (defBody st__law_evidence) (tS K E b__law_evidence) := by
    intro cdv A outer s H E hr
    have hu := hu64 hr
    have hu5 := hu65 hr
    exact s_cons (s_asg 1 sc__law_evidence.nd (s_callTy b_tuple call_tuple_of (by rfl) T.b_tuple PyProof.Rows.boot_tuple (s_acons (s_comp (own := [("_law_file", 2)]) rfl sc__law_evidence.nd (pi_seq (s_key hu (s_var 0) (s_str))) (srcC_ok) (blkB_ok (by kernel_rfl)) (c_name) (by decide) (fun _ _ _ _ _ => pg_name (i := 2) sc__law_evidence.nd rfl (by first | exact Or.inl rfl | exact Or.inr rfl)) (fun _ _ _ _ _ => s_ifs0) (fun _ _ _ _ _ => s_callTy b_tuple call_tuple_of (by rfl) T.b_tuple PyProof.Rows.boot_tuple (s_acons (s_var 2) (s_anil)))) (s_anil)))) (s_last (s_ret (s_tup (s_acons (s_key hu (s_var 0) (s_str)) (s_acons (s_key hu (s_var 0) (s_str)) (s_acons (s_var 1) (s_acons (s_callTy b_tuple call_tuple_of (by rfl) T.b_tuple PyProof.Rows.boot_tuple (s_acons (s_key hu (s_var 0) (s_str)) (s_anil))) (s_anil))))))))
  have e : m__law_evidence = fnD 3 [.v] b__law_evidence := rfl
  rw [e]
  exact fn_body F sc__law_evidence rfl (by decide) B
theorem cal__law_evidence (T : Txt w K mg base) : Cal CX0 P w K mg base 1 "_law_evidence" ["_law_world_here"] [.v] m__law_evidence :=
  cal_of T.f__law_evidence (fun _ _ _ _ _ _ us hl => match us, hl with | [_], _ => rfl) fun f fd F => ok__law_evidence T F
theorem sc__law_begun : FnScope ["_law_kinds", "_law_parties_here", "_law_stock", "_law_world_here", "_law_party", "_law_kind"] ["_law_kinds", "_law_parties_here"] (defScope st__law_begun) := ⟨rfl, rfl, rfl, by decide +kernel, rfl, by decide +kernel, by decide +kernel⟩
theorem ok__law_begun (T : Txt w K mg base) {f : Addr} {fd : FuncData} (F : FunD K "_law_begun" "_law_begun" (defArgs st__law_begun) (defBody st__law_begun) (defScope st__law_begun) [] [] f fd) : FnOk P w K mg base CX0 1 f fd ["_law_kinds", "_law_parties_here"] (spF K [.v, .v] m__law_begun) := by
  have B : ∀ (cdv : Value) (A : Around) (outer : List Env) (s : Shared) (H : Hp) (E : XK), Room 0 (A.deeper (envOfC "_law_begun" (defScope st__law_begun) s.heap.objs.size f cdv)) → PSs (cxOf CX0 P w K mg base ["_law_kinds", "_law_parties_here", "_law_stock", "_law_world_here", "_law_party", "_law_kind"] "_law_begun" (defScope st__law_begun) f cdv A outer s H E) (defBody st__law_begun) (tS K E b__law_begun) := by
    intro cdv A outer s H E hr
    have hu := hu64 hr
    have hu5 := hu65 hr
    exact s_cons (s_asgComp 2 (own := [("_law_party", 4)]) rfl sc__law_begun.nd rfl rfl (sw_true rfl rfl rfl rfl) (pi_seq (s_var 1)) (srcC_ok) (blkB_ok (by kernel_rfl)) (c_name) (by decide) (fun _ _ _ _ _ => pg_name (i := 4) sc__law_begun.nd rfl (by first | exact Or.inl rfl | exact Or.inr rfl)) (fun _ _ _ _ _ => s_ifs0) (fun _ _ _ _ _ => s_comp (own := [("_law_kind", 5)]) rfl sc__law_begun.nd (pi_range1 (by rfl) T.b_range (s_acons (s_var 0) (s_anil))) (srcR1_ok.c) (blkB_ok (by kernel_rfl)) (c_name) (by decide) (fun _ _ _ _ _ => pg_name (i := 5) sc__law_begun.nd rfl (by first | exact Or.inl rfl | exact Or.inr rfl)) (fun _ _ _ _ _ => s_ifs0) (fun _ _ _ _ _ => s_int))) (s_cons (s_give 2 3 (s_asg 3 sc__law_begun.nd (s_dct (kps := [(pC (.str "kinds"), pVar 0), (pC (.str "parties"), pVar 1), (pC (.str "stock"), pVar 2), (pC (.str "files"), q__law_begun_2)]) (pps_cons (s_str) (s_var 0) (pps_cons (s_str) (s_var 1) (pps_cons (s_str) (s_var 2) (pps_cons (s_str) (s_comp (own := [("_law_party", 4)]) rfl sc__law_begun.nd (pi_seq (s_var 1)) (srcC_ok) (blkB_ok (by kernel_rfl)) (c_name) (by decide) (fun _ _ _ _ _ => pg_name (i := 4) sc__law_begun.nd rfl (by first | exact Or.inl rfl | exact Or.inr rfl)) (fun _ _ _ _ _ => s_ifs0) (fun _ _ _ _ _ => s_lst (s_anil))) (pps_nil)))))))) (s_cons (s_put hu (s_lst (s_anil)) (s_plN 3) (s_str)) (s_cons (s_put hu (s_lst (s_anil)) (s_plN 3) (s_str)) (s_cons (s_put hu (s_int) (s_plN 3) (s_str)) (s_cons (s_put hu (s_lst (s_anil)) (s_plN 3) (s_str)) (s_last (s_retV 3)))))))
  have e : m__law_begun = fnD 6 [.v, .v] b__law_begun := rfl
  rw [e]
  exact fn_body F sc__law_begun rfl (by decide) B
theorem cal__law_begun (T : Txt w K mg base) : Cal CX0 P w K mg base 1 "_law_begun" ["_law_kinds", "_law_parties_here"] [.v, .v] m__law_begun :=
  cal_of T.f__law_begun (fun _ _ _ _ _ _ us hl => match us, hl with | [_, _], _ => rfl) fun f fd F => ok__law_begun T F
theorem sc__law_draws : FnScope ["_law_cell_here", "_law_count", "_law_found", "_law_is_wide", "_law_k", "_law_mixed"] ["_law_cell_here", "_law_count"] (defScope st__law_draws) := ⟨rfl, rfl, rfl, by decide +kernel, rfl, by decide +kernel, by decide +kernel⟩
theorem ok__law_draws (T : Txt w K mg base) {f : Addr} {fd : FuncData} (F : FunD K "_law_draws" "_law_draws" (defArgs st__law_draws) (defBody st__law_draws) (defScope st__law_draws) [] [] f fd) : FnOk P w K mg base CX0 1 f fd ["_law_cell_here", "_law_count"] (spF K [.v, .v] m__law_draws) := by
  have B : ∀ (cdv : Value) (A : Around) (outer : List Env) (s : Shared) (H : Hp) (E : XK), Room 0 (A.deeper (envOfC "_law_draws" (defScope st__law_draws) s.heap.objs.size f cdv)) → PSs (cxOf CX0 P w K mg base ["_law_cell_here", "_law_count", "_law_found", "_law_is_wide", "_law_k", "_law_mixed"] "_law_draws" (defScope st__law_draws) f cdv A outer s H E) (defBody st__law_draws) (tS K E b__law_draws) := by
    intro cdv A outer s H E hr
    have hu := hu64 hr
    have hu5 := hu65 hr
    exact s_cons (s_asg 2 sc__law_draws.nd (s_lst (s_anil))) (s_cons (s_asg 3 sc__law_draws.nd (s_cmp op_ge o_ge (s_var 0) (s_op op_pow o_pow (s_int) (s_int)) rfl)) (s_cons (s_end [false, false, true, false, false, false] [false, false, false, false, false, false] (s_pre [true, true, true, true, false, false] (s_for (passes_of rfl) rfl (pi_range1 (by rfl) T.b_range (s_acons (s_var 1) (s_anil))) (srcR1_ok) (pg_name (i := 4) sc__law_draws.nd rfl (by first | exact Or.inl rfl | exact Or.inr rfl)) (g_name) (s_ends [true, true, true, true, false, false] [false, false, false, false, false, false] (s_last (s_ifS (s_tru (s_var 3)) (s_cons (s_app (s_plN 2) (s_op op_mod o_mod (s_callTy b_int call_int1 (by rfl) T.b_int PyProof.Rows.boot_int (s_acons (s_var 0) (s_anil))) (s_int)) rfl (fun hl ha => ps_expr (pe_bm PySem.F.plainAttrs_list PySem.F.slot_list_append PySem.F.type_list_append mt_append hl ha))) (s_last (s_asg 0 sc__law_draws.nd (s_op op_fdiv o_div (s_var 0) (s_int))))) (s_cons (s_asg 5 sc__law_draws.nd (s_op op_mod o_mod (s_callTy b_int call_int1 (by rfl) T.b_int PyProof.Rows.boot_int (s_acons (s_op op_add4 o_add (s_op op_mul2 o_mul2 (s_var 0) (s_int)) (s_op op_mul2 o_mul2 (s_var 4) (s_int))) (s_anil))) (s_int))) (s_last (s_app (s_plN 2) (s_op op_mod o_mod (s_callTy b_int call_int1 (by rfl) T.b_int PyProof.Rows.boot_int (s_acons (s_op op_add4 o_add (s_op op_add4 o_add (s_op op_mul2 o_mul2 (s_var 5) (s_var 5)) (s_op op_mul2 o_mul2 (s_var 0) (s_int))) (s_var 4)) (s_anil))) (s_int)) rfl (fun hl ha => ps_expr (pe_bm PySem.F.plainAttrs_list PySem.F.slot_list_append PySem.F.type_list_append mt_append hl ha))))))))))) (s_last (s_retV 2))))
  have e : m__law_draws = fnD 6 [.v, .v] b__law_draws := rfl
  rw [e]
  exact fn_body F sc__law_draws rfl (by decide) B
theorem cal__law_draws (T : Txt w K mg base) : Cal CX0 P w K mg base 1 "_law_draws" ["_law_cell_here", "_law_count"] [.v, .v] m__law_draws :=
  cal_of T.f__law_draws (fun _ _ _ _ _ _ us hl => match us, hl with | [_, _], _ => rfl) fun f fd F => ok__law_draws T F
theorem sc__law_parties : FnScope ["_law_cell_here", "_law_most", "_law_draws_here", "_law_rows", "_law_k"] ["_law_cell_here", "_law_most"] (defScope st__law_parties) := ⟨rfl, rfl, rfl, by decide +kernel, rfl, by decide +kernel, by decide +kernel⟩
theorem ok__law_parties (T : Txt w K mg base) {f : Addr} {fd : FuncData} (F : FunD K "_law_parties" "_law_parties" (defArgs st__law_parties) (defBody st__law_parties) (defScope st__law_parties) [] [] f fd) : FnOk P w K mg base CX0 2 f fd ["_law_cell_here", "_law_most"] (spF K [.v, .v] m__law_parties) := by
  have c__law_draws : Cal CX0 P w K mg base 1 "_law_draws" ["_law_cell_here", "_law_count"] [.v, .v] m__law_draws := cal__law_draws T
  have B : ∀ (cdv : Value) (A : Around) (outer : List Env) (s : Shared) (H : Hp) (E : XK), Room 1 (A.deeper (envOfC "_law_parties" (defScope st__law_parties) s.heap.objs.size f cdv)) → PSs (cxOf CX0 P w K mg base ["_law_cell_here", "_law_most", "_law_draws_here", "_law_rows", "_law_k"] "_law_parties" (defScope st__law_parties) f cdv A outer s H E) (defBody st__law_parties) (tS K E b__law_parties) := by
    intro cdv A outer s H E hr
    have hu := hu64 hr
    have hu5 := hu65 hr
    exact s_cons (s_asg 2 sc__law_parties.nd (s_callC c__law_draws hr passE (s_acons (s_var 0) (s_acons (s_int) (s_anil))))) (s_cons (s_asg 3 sc__law_parties.nd (s_lst (s_acons (s_tup (s_acons (s_bl) (s_acons (s_bl) (s_anil)))) (s_acons (s_tup (s_acons (s_bl) (s_acons (s_bl) (s_anil)))) (s_acons (s_tup (s_acons (s_bl) (s_acons (s_bl) (s_anil)))) (s_acons (s_tup (s_acons (s_bl) (s_acons (s_bl) (s_anil)))) (s_anil))))))) (s_last (s_ret (s_callTy b_tuple call_tuple_of (by rfl) T.b_tuple PyProof.Rows.boot_tuple (s_acons (s_comp (own := [("_law_k", 4)]) rfl sc__law_parties.nd (pi_range1 (by rfl) T.b_range (s_acons (s_op op_add4 o_add (s_int) (s_op op_mod o_mod (s_callTy b_int call_int1 (by rfl) T.b_int PyProof.Rows.boot_int (s_acons (s_ix ix_seq o_ix (s_var 2) (s_int)) (s_anil))) (s_var 1))) (s_anil))) (srcR1_ok.c) (blkB_ok (by kernel_rfl)) (c_name) (by decide) (fun _ _ _ _ _ => pg_name (i := 4) sc__law_parties.nd rfl (by first | exact Or.inl rfl | exact Or.inr rfl)) (fun _ _ _ _ _ => s_ifs0) (fun _ _ _ _ _ => s_ix ix_seq o_ix (s_var 3) (s_op op_mod o_mod (s_callTy b_int call_int1 (by rfl) T.b_int PyProof.Rows.boot_int (s_acons (s_ix ix_seq o_ix (s_var 2) (s_op op_add4 o_add (s_int) (s_var 4))) (s_anil))) (s_int)))) (s_anil))))))
  have e : m__law_parties = fnD 5 [.v, .v] b__law_parties := rfl
  rw [e]
  exact fn_body F sc__law_parties rfl (by decide) B
theorem cal__law_parties (T : Txt w K mg base) : Cal CX0 P w K mg base 2 "_law_parties" ["_law_cell_here", "_law_most"] [.v, .v] m__law_parties :=
  cal_of T.f__law_parties (fun _ _ _ _ _ _ us hl => match us, hl with | [_, _], _ => rfl) fun f fd F => ok__law_parties T F
theorem sc__law_noted : FnScope ["_law_world_here", "_law_giver", "_law_taker", "_law_kind", "_law_amount", "_law_is_sealed"] ["_law_world_here", "_law_giver", "_law_taker", "_law_kind", "_law_amount", "_law_is_sealed"] (defScope st__law_noted) := ⟨rfl, rfl, rfl, by decide +kernel, rfl, by decide +kernel, by decide +kernel⟩
theorem ok__law_noted (T : Txt w K mg base) {f : Addr} {fd : FuncData} (F : FunD K "_law_noted" "_law_noted" (defArgs st__law_noted) (defBody st__law_noted) (defScope st__law_noted) [] [] f fd) : FnOk P w K mg base CX0 1 f fd ["_law_world_here", "_law_giver", "_law_taker", "_law_kind", "_law_amount", "_law_is_sealed"] (spF K [.m, .v, .v, .v, .v, .v] m__law_noted) := by
  have B : ∀ (cdv : Value) (A : Around) (outer : List Env) (s : Shared) (H : Hp) (E : XK), Room 0 (A.deeper (envOfC "_law_noted" (defScope st__law_noted) s.heap.objs.size f cdv)) → PSs (cxOf CX0 P w K mg base ["_law_world_here", "_law_giver", "_law_taker", "_law_kind", "_law_amount", "_law_is_sealed"] "_law_noted" (defScope st__law_noted) f cdv A outer s H E) (defBody st__law_noted) (tS K E b__law_noted) := by
    intro cdv A outer s H E hr
    have hu := hu64 hr
    have hu5 := hu65 hr
    exact s_cons (s_put hu (s_op op_add4 o_add (s_key hu (s_var 0) (s_str)) (s_int)) (s_plN 0) (s_str)) (s_cons (s_app (s_plI (s_plK hu (s_plN 0) (s_str)) (s_var 1)) (s_tup (s_acons (s_key hu (s_var 0) (s_str)) (s_acons (s_str) (s_acons (s_var 3) (s_acons (s_var 4) (s_acons (s_var 2) (s_acons (s_var 5) (s_anil)))))))) rfl (fun hl ha => ps_expr (pe_bm PySem.F.plainAttrs_list PySem.F.slot_list_append PySem.F.type_list_append mt_append hl ha))) (s_last (s_app (s_plI (s_plK hu (s_plN 0) (s_str)) (s_var 2)) (s_tup (s_acons (s_key hu (s_var 0) (s_str)) (s_acons (s_str) (s_acons (s_var 3) (s_acons (s_var 4) (s_acons (s_var 1) (s_acons (s_var 5) (s_anil)))))))) rfl (fun hl ha => ps_expr (pe_bm PySem.F.plainAttrs_list PySem.F.slot_list_append PySem.F.type_list_append mt_append hl ha)))))
  have e : m__law_noted = fnD 6 [.m, .v, .v, .v, .v, .v] b__law_noted := rfl
  rw [e]
  exact fn_body F sc__law_noted rfl (by decide) B
theorem cal__law_noted (T : Txt w K mg base) : Cal CX0 P w K mg base 1 "_law_noted" ["_law_world_here", "_law_giver", "_law_taker", "_law_kind", "_law_amount", "_law_is_sealed"] [.m, .v, .v, .v, .v, .v] m__law_noted :=
  cal_of T.f__law_noted (fun _ _ _ _ _ _ us hl => match us, hl with | [_, _, _, _, _, _], _ => rfl) fun f fd F => ok__law_noted T F
theorem sc__law_lied : FnScope ["_law_world_here", "_law_word", "_law_party", "_law_other", "_law_kind", "_law_amount", "_law_is_sealed", "_law_stock", "_law_liars", "_law_deed_here", "_law_more", "_law_liar"] ["_law_world_here", "_law_word", "_law_party", "_law_other", "_law_kind", "_law_amount", "_law_is_sealed"] (defScope st__law_lied) := ⟨rfl, rfl, rfl, by decide +kernel, rfl, by decide +kernel, by decide +kernel⟩
theorem ok__law_lied (T : Txt w K mg base) {f : Addr} {fd : FuncData} (F : FunD K "_law_lied" "_law_lied" (defArgs st__law_lied) (defBody st__law_lied) (defScope st__law_lied) [] [] f fd) : FnOk P w K mg base CX0 2 f fd ["_law_world_here", "_law_word", "_law_party", "_law_other", "_law_kind", "_law_amount", "_law_is_sealed"] (spF K [.m, .v, .v, .v, .v, .v, .v] m__law_lied) := by
  have c__law_noted : Cal CX0 P w K mg base 1 "_law_noted" ["_law_world_here", "_law_giver", "_law_taker", "_law_kind", "_law_amount", "_law_is_sealed"] [.m, .v, .v, .v, .v, .v] m__law_noted := cal__law_noted T
  have B : ∀ (cdv : Value) (A : Around) (outer : List Env) (s : Shared) (H : Hp) (E : XK), Room 1 (A.deeper (envOfC "_law_lied" (defScope st__law_lied) s.heap.objs.size f cdv)) → PSs (cxOf CX0 P w K mg base ["_law_world_here", "_law_word", "_law_party", "_law_other", "_law_kind", "_law_amount", "_law_is_sealed", "_law_stock", "_law_liars", "_law_deed_here", "_law_more", "_law_liar"] "_law_lied" (defScope st__law_lied) f cdv A outer s H E) (defBody st__law_lied) (tS K E b__law_lied) := by
    intro cdv A outer s H E hr
    have hu := hu64 hr
    have hu5 := hu65 hr
    exact s_ali 0 7 sc__law_lied.nd (s_plK hu (s_plN 0) (s_str)) (s_cons (s_asg 8 sc__law_lied.nd (s_lst (s_acons (s_var 2) (s_anil)))) (s_cons (s_end [true, false, false, false, false, false, false, false, true, false, false, false] [true, false, false, false, false, false, false, false, false, false, false, false] (s_ifS ((s_tand (s_tcmp (op_eq2 hu) o_eq (s_var 1) (s_str) rfl) (s_tand (s_tcmp (op_ne2 hu) o_ne (s_var 2) (s_var 3) rfl) (s_tand1 (s_tcmp op_ge o_ge (s_ix ix_seq o_ix (s_ix ix_seq o_ix (s_var 7) (s_var 2)) (s_var 4)) (s_var 5) rfl)))).pt) (s_cons (s_setI (s_op op_sub o_sub (s_ix ix_seq o_ix (s_ix ix_seq o_ix (s_var 7) (s_var 2)) (s_var 4)) (s_var 5)) (s_plI (s_plN 7) (s_var 2)) (s_var 4) (fun ho hi => pg_sub ho hi set_list)) (s_cons (s_setI (s_op op_add4 o_add (s_ix ix_seq o_ix (s_ix ix_seq o_ix (s_var 7) (s_var 3)) (s_var 4)) (s_var 5)) (s_plI (s_plN 7) (s_var 3)) (s_var 4) (fun ho hi => pg_sub ho hi set_list)) (s_cons (s_app (s_plK hu (s_plN 0) (s_str)) (s_tup (s_acons (s_str) (s_acons (s_var 2) (s_acons (s_var 3) (s_acons (s_var 4) (s_acons (s_var 5) (s_anil))))))) rfl (fun hl ha => ps_expr (pe_bm PySem.F.plainAttrs_list PySem.F.slot_list_append PySem.F.type_list_append mt_append hl ha))) (s_last (s_asg 8 sc__law_lied.nd (s_lst (s_acons (s_var 2) (s_acons (s_var 3) (s_anil))))))))) (s_last (s_ifS ((s_tand (s_tcmp (op_eq2 hu) o_eq (s_var 1) (s_str) rfl) (s_tand1 (s_tcmp op_ge o_ge (s_ix ix_seq o_ix (s_ix ix_seq o_ix (s_var 7) (s_var 2)) (s_var 4)) (s_var 5) rfl))).pt) (s_cons (s_setI (s_op op_sub o_sub (s_ix ix_seq o_ix (s_ix ix_seq o_ix (s_var 7) (s_var 2)) (s_var 4)) (s_var 5)) (s_plI (s_plN 7) (s_var 2)) (s_var 4) (fun ho hi => pg_sub ho hi set_list)) (s_last (s_app (s_plK hu (s_plN 0) (s_str)) (s_tup (s_acons (s_str) (s_acons (s_var 2) (s_acons (s_var 4) (s_acons (s_var 5) (s_anil)))))) rfl (fun hl ha => ps_expr (pe_bm PySem.F.plainAttrs_list PySem.F.slot_list_append PySem.F.type_list_append mt_append hl ha))))) (s_last (s_ifS ((s_tand (s_tcmp (op_eq2 hu) o_eq (s_var 1) (s_str) rfl) (s_tand1 (s_tru (s_ix ix_seq o_ix (s_ix ix_seq o_ix (s_key hu (s_var 0) (s_str)) (s_var 2)) (s_int))))).pt) (s_cons (s_setI (s_op op_add4 o_add (s_ix ix_seq o_ix (s_ix ix_seq o_ix (s_var 7) (s_var 2)) (s_var 4)) (s_var 5)) (s_plI (s_plN 7) (s_var 2)) (s_var 4) (fun ho hi => pg_sub ho hi set_list)) (s_last (s_app (s_plK hu (s_plN 0) (s_str)) (s_tup (s_acons (s_str) (s_acons (s_var 2) (s_acons (s_var 4) (s_acons (s_var 5) (s_anil)))))) rfl (fun hl ha => ps_expr (pe_bm PySem.F.plainAttrs_list PySem.F.slot_list_append PySem.F.type_list_append mt_append hl ha))))) (s_last (s_ifS ((s_tand (s_tcmp (op_eq2 hu) o_eq (s_var 1) (s_str) rfl) (s_tand1 (s_tcmp (op_ne2 hu) o_ne (s_var 2) (s_var 3) rfl))).pt) (s_cons (s_mdrop (s_mcall 0 c__law_noted hr passE (x_n 0 (x_n 2 (x_n 3 (x_n 4 (x_n 5 (x_n 6 (x_nil))))))))) (s_last (s_asg 8 sc__law_lied.nd (s_lst (s_acons (s_var 2) (s_acons (s_var 3) (s_anil))))))) (s_last (s_ifS (s_tcmp (op_eq2 hu) o_eq (s_var 1) (s_str) rfl) (s_cons (s_put hu (s_op op_add4 o_add (s_key hu (s_var 0) (s_str)) (s_int)) (s_plN 0) (s_str)) (s_cons (s_asg 9 sc__law_lied.nd (s_ix ix_seq o_ix (s_lst (s_acons (s_str) (s_acons (s_str) (s_acons (s_str) (s_acons (s_str) (s_anil)))))) (s_op op_add4 o_add (s_callTy b_int call_int1 (by rfl) T.b_int PyProof.Rows.boot_int (s_acons (s_var 6) (s_anil))) (s_op op_mul2 o_mul2 (s_int) (s_callTy b_int call_int1 (by rfl) T.b_int PyProof.Rows.boot_int (s_acons (s_cmp (op_ne2 hu) o_ne (s_var 2) (s_var 3) rfl) (s_anil))))))) (s_cons (s_asg 10 sc__law_lied.nd (s_if (s_tcmp (op_in3 hu5) o_in (s_var 9) (s_tup (s_acons (s_str) (s_acons (s_str) (s_anil)))) rfl) (s_tup (s_acons (s_var 3) (s_acons (s_bl) (s_anil)))) (s_tup (s_anil)))) (s_last (s_app (s_plI (s_plK hu (s_plN 0) (s_str)) (s_var 2)) (s_op op_add4 o_add (s_tup (s_acons (s_key hu (s_var 0) (s_str)) (s_acons (s_var 9) (s_acons (s_var 4) (s_acons (s_var 5) (s_anil)))))) (s_var 10)) rfl (fun hl ha => ps_expr (pe_bm PySem.F.plainAttrs_list PySem.F.slot_list_append PySem.F.type_list_append mt_append hl ha))))))) (s_last (s_ifS ((s_tand (s_tcmp (op_eq2 hu) o_eq (s_var 1) (s_str) rfl) (s_tand1 (s_tcmp op_gt o_gt (s_callB b_len call_lenA (by rfl) T.b_len boot_len (s_acons (s_ix ix_seq o_ix (s_key hu (s_var 0) (s_str)) (s_var 2)) (s_anil))) (s_int) rfl))).pt) (s_last (s_pop (s_plI (s_plK hu (s_plN 0) (s_str)) (s_var 2)) (s_op op_mod o_mod (s_callTy b_int call_int1 (by rfl) T.b_int PyProof.Rows.boot_int (s_acons (s_var 5) (s_anil))) (s_callB b_len call_lenA (by rfl) T.b_len boot_len (s_acons (s_ix ix_seq o_ix (s_key hu (s_var 0) (s_str)) (s_var 2)) (s_anil)))) rfl (fun hl ha => ps_expr (pe_bm PySem.F.plainAttrs_list PySem.F.slot_list_pop PySem.F.type_list_pop mt_popAt hl ha)))) (s_last (s_ret (s_bl))))))))))))))) (s_cons (s_end [true, false, false, false, false, false, false, false, false, false, false, false] [true, false, false, false, false, false, false, false, false, false, false, false] (s_pre [true, false, false, false, false, false, false, false, true, false, false, false] (s_frz 8 (s_for (passes_of rfl) rfl (pi_seq (s_var 8)) (srcS_ok) (pg_name (i := 11) sc__law_lied.nd rfl (by first | exact Or.inl rfl | exact Or.inr rfl)) (g_name) (s_ends [true, false, false, false, false, false, false, false, true, false, false, false] [true, false, false, false, false, false, false, false, false, false, false, false] (s_last (s_ifS (s_tcmp (op_nin3 hu5) o_nin (s_var 11) (s_key hu (s_var 0) (s_str)) rfl) (s_last (s_app (s_plK hu (s_plN 0) (s_str)) (s_var 11) rfl (fun hl ha => ps_expr (pe_bm PySem.F.plainAttrs_list PySem.F.slot_list_append PySem.F.type_list_append mt_append hl ha)))) (s_nil)))))))) (s_last (s_ret (s_bl))))))
  have e : m__law_lied = fnD 12 [.m, .v, .v, .v, .v, .v, .v] b__law_lied := rfl
  rw [e]
  exact fn_body F sc__law_lied rfl (by decide) B
theorem cal__law_lied (T : Txt w K mg base) : Cal CX0 P w K mg base 2 "_law_lied" ["_law_world_here", "_law_word", "_law_party", "_law_other", "_law_kind", "_law_amount", "_law_is_sealed"] [.m, .v, .v, .v, .v, .v, .v] m__law_lied :=
  cal_of T.f__law_lied (fun _ _ _ _ _ _ us hl => match us, hl with | [_, _, _, _, _, _, _], _ => rfl) fun f fd F => ok__law_lied T F
theorem sc__law_honest : FnScope ["_law_world_here", "_law_word", "_law_party", "_law_other", "_law_kind", "_law_amount", "_law_is_sealed", "_law_stock"] ["_law_world_here", "_law_word", "_law_party", "_law_other", "_law_kind", "_law_amount", "_law_is_sealed"] (defScope st__law_honest) := ⟨rfl, rfl, rfl, by decide +kernel, rfl, by decide +kernel, by decide +kernel⟩
theorem ok__law_honest (T : Txt w K mg base) {f : Addr} {fd : FuncData} (F : FunD K "_law_honest" "_law_honest" (defArgs st__law_honest) (defBody st__law_honest) (defScope st__law_honest) [] [] f fd) : FnOk P w K mg base CX0 2 f fd ["_law_world_here", "_law_word", "_law_party", "_law_other", "_law_kind", "_law_amount", "_law_is_sealed"] (spF K [.m, .v, .v, .v, .v, .v, .v] m__law_honest) := by
  have c__law_noted : Cal CX0 P w K mg base 1 "_law_noted" ["_law_world_here", "_law_giver", "_law_taker", "_law_kind", "_law_amount", "_law_is_sealed"] [.m, .v, .v, .v, .v, .v] m__law_noted := cal__law_noted T
  have B : ∀ (cdv : Value) (A : Around) (outer : List Env) (s : Shared) (H : Hp) (E : XK), Room 1 (A.deeper (envOfC "_law_honest" (defScope st__law_honest) s.heap.objs.size f cdv)) → PSs (cxOf CX0 P w K mg base ["_law_world_here", "_law_word", "_law_party", "_law_other", "_law_kind", "_law_amount", "_law_is_sealed", "_law_stock"] "_law_honest" (defScope st__law_honest) f cdv A outer s H E) (defBody st__law_honest) (tS K E b__law_honest) := by
    intro cdv A outer s H E hr
    have hu := hu64 hr
    have hu5 := hu65 hr
    exact s_ali 0 7 sc__law_honest.nd (s_plK hu (s_plN 0) (s_str)) (s_cons (s_ifS ((s_tand (s_tcmp (op_eq2 hu) o_eq (s_var 1) (s_str) rfl) (s_tand1 (s_tru (s_ix ix_seq o_ix (s_ix ix_seq o_ix (s_key hu (s_var 0) (s_str)) (s_var 2)) (s_int))))).pt) (s_cons (s_put hu (s_op op_add4 o_add (s_key hu (s_var 0) (s_str)) (s_int)) (s_plN 0) (s_str)) (s_cons (s_setI (s_op op_add4 o_add (s_ix ix_seq o_ix (s_ix ix_seq o_ix (s_var 7) (s_var 2)) (s_var 4)) (s_var 5)) (s_plI (s_plN 7) (s_var 2)) (s_var 4) (fun ho hi => pg_sub ho hi set_list)) (s_cons (s_app (s_plI (s_plK hu (s_plN 0) (s_str)) (s_var 2)) (s_tup (s_acons (s_key hu (s_var 0) (s_str)) (s_acons (s_str) (s_acons (s_var 4) (s_acons (s_var 5) (s_anil)))))) rfl (fun hl ha => ps_expr (pe_bm PySem.F.plainAttrs_list PySem.F.slot_list_append PySem.F.type_list_append mt_append hl ha))) (s_last (s_app (s_plK hu (s_plN 0) (s_str)) (s_tup (s_acons (s_str) (s_acons (s_key hu (s_var 0) (s_str)) (s_acons (s_var 2) (s_acons (s_var 4) (s_acons (s_var 5) (s_anil))))))) rfl (fun hl ha => ps_expr (pe_bm PySem.F.plainAttrs_list PySem.F.slot_list_append PySem.F.type_list_append mt_append hl ha))))))) (s_last (s_ifS ((s_tand (s_tcmp (op_eq2 hu) o_eq (s_var 1) (s_str) rfl) (s_tand (s_tru (s_ix ix_seq o_ix (s_ix ix_seq o_ix (s_key hu (s_var 0) (s_str)) (s_var 2)) (s_int))) (s_tand1 (s_tcmp op_ge o_ge (s_ix ix_seq o_ix (s_ix ix_seq o_ix (s_var 7) (s_var 2)) (s_var 4)) (s_var 5) rfl)))).pt) (s_cons (s_put hu (s_op op_add4 o_add (s_key hu (s_var 0) (s_str)) (s_int)) (s_plN 0) (s_str)) (s_cons (s_setI (s_op op_sub o_sub (s_ix ix_seq o_ix (s_ix ix_seq o_ix (s_var 7) (s_var 2)) (s_var 4)) (s_var 5)) (s_plI (s_plN 7) (s_var 2)) (s_var 4) (fun ho hi => pg_sub ho hi set_list)) (s_cons (s_app (s_plI (s_plK hu (s_plN 0) (s_str)) (s_var 2)) (s_tup (s_acons (s_key hu (s_var 0) (s_str)) (s_acons (s_str) (s_acons (s_var 4) (s_acons (s_var 5) (s_anil)))))) rfl (fun hl ha => ps_expr (pe_bm PySem.F.plainAttrs_list PySem.F.slot_list_append PySem.F.type_list_append mt_append hl ha))) (s_last (s_app (s_plK hu (s_plN 0) (s_str)) (s_tup (s_acons (s_str) (s_acons (s_key hu (s_var 0) (s_str)) (s_acons (s_var 2) (s_acons (s_var 4) (s_acons (s_var 5) (s_anil))))))) rfl (fun hl ha => ps_expr (pe_bm PySem.F.plainAttrs_list PySem.F.slot_list_append PySem.F.type_list_append mt_append hl ha))))))) (s_last (s_ifS ((s_tand (s_tcmp (op_eq2 hu) o_eq (s_var 1) (s_str) rfl) (s_tand (s_tcmp (op_ne2 hu) o_ne (s_var 2) (s_var 3) rfl) (s_tand1 (s_tcmp op_ge o_ge (s_ix ix_seq o_ix (s_ix ix_seq o_ix (s_var 7) (s_var 2)) (s_var 4)) (s_var 5) rfl)))).pt) (s_cons (s_mdrop (s_mcall 0 c__law_noted hr passE (x_n 0 (x_n 2 (x_n 3 (x_n 4 (x_n 5 (x_n 6 (x_nil))))))))) (s_cons (s_setI (s_op op_sub o_sub (s_ix ix_seq o_ix (s_ix ix_seq o_ix (s_var 7) (s_var 2)) (s_var 4)) (s_var 5)) (s_plI (s_plN 7) (s_var 2)) (s_var 4) (fun ho hi => pg_sub ho hi set_list)) (s_cons (s_setI (s_op op_add4 o_add (s_ix ix_seq o_ix (s_ix ix_seq o_ix (s_var 7) (s_var 3)) (s_var 4)) (s_var 5)) (s_plI (s_plN 7) (s_var 3)) (s_var 4) (fun ho hi => pg_sub ho hi set_list)) (s_last (s_app (s_plK hu (s_plN 0) (s_str)) (s_tup (s_acons (s_str) (s_acons (s_key hu (s_var 0) (s_str)) (s_acons (s_var 2) (s_acons (s_var 3) (s_acons (s_var 4) (s_acons (s_var 5) (s_acons (s_var 6) (s_anil))))))))) rfl (fun hl ha => ps_expr (pe_bm PySem.F.plainAttrs_list PySem.F.slot_list_append PySem.F.type_list_append mt_append hl ha))))))) (s_last (s_ifS (s_tcmp (op_eq2 hu) o_eq (s_var 1) (s_str) rfl) (s_cons (s_put hu (s_op op_add4 o_add (s_key hu (s_var 0) (s_str)) (s_int)) (s_plN 0) (s_str)) (s_cons (s_app (s_plK hu (s_plN 0) (s_str)) (s_tup (s_acons (s_key hu (s_var 0) (s_str)) (s_acons (s_var 2) (s_acons (s_var 4) (s_acons (s_ix ix_seq o_ix (s_ix ix_seq o_ix (s_var 7) (s_var 2)) (s_var 4)) (s_anil)))))) rfl (fun hl ha => ps_expr (pe_bm PySem.F.plainAttrs_list PySem.F.slot_list_append PySem.F.type_list_append mt_append hl ha))) (s_last (s_app (s_plK hu (s_plN 0) (s_str)) (s_tup (s_acons (s_str) (s_acons (s_key hu (s_var 0) (s_str)) (s_acons (s_var 2) (s_acons (s_var 4) (s_acons (s_ix ix_seq o_ix (s_ix ix_seq o_ix (s_var 7) (s_var 2)) (s_var 4)) (s_anil))))))) rfl (fun hl ha => ps_expr (pe_bm PySem.F.plainAttrs_list PySem.F.slot_list_append PySem.F.type_list_append mt_append hl ha)))))) (s_last (s_ret (s_bl)))))))))) (s_last (s_ret (s_bl))))
  have e : m__law_honest = fnD 8 [.m, .v, .v, .v, .v, .v, .v] b__law_honest := rfl
  rw [e]
  exact fn_body F sc__law_honest rfl (by decide) B
theorem cal__law_honest (T : Txt w K mg base) : Cal CX0 P w K mg base 2 "_law_honest" ["_law_world_here", "_law_word", "_law_party", "_law_other", "_law_kind", "_law_amount", "_law_is_sealed"] [.m, .v, .v, .v, .v, .v, .v] m__law_honest :=
  cal_of T.f__law_honest (fun _ _ _ _ _ _ us hl => match us, hl with | [_, _, _, _, _, _, _], _ => rfl) fun f fd F => ok__law_honest T F
theorem sc__law_did : FnScope ["_law_world_here", "_law_deed_here", "_law_word", "_law_party", "_law_other", "_law_kind", "_law_amount", "_law_is_sealed"] ["_law_world_here", "_law_deed_here"] (defScope st__law_did) := ⟨rfl, rfl, rfl, by decide +kernel, rfl, by decide +kernel, by decide +kernel⟩
theorem ok__law_did (T : Txt w K mg base) {f : Addr} {fd : FuncData} (F : FunD K "_law_did" "_law_did" (defArgs st__law_did) (defBody st__law_did) (defScope st__law_did) [] [] f fd) : FnOk P w K mg base CX0 3 f fd ["_law_world_here", "_law_deed_here"] (spF K [.m, .v] m__law_did) := by
  have c__law_honest : Cal CX0 P w K mg base 2 "_law_honest" ["_law_world_here", "_law_word", "_law_party", "_law_other", "_law_kind", "_law_amount", "_law_is_sealed"] [.m, .v, .v, .v, .v, .v, .v] m__law_honest := cal__law_honest T
  have c__law_lied : Cal CX0 P w K mg base 2 "_law_lied" ["_law_world_here", "_law_word", "_law_party", "_law_other", "_law_kind", "_law_amount", "_law_is_sealed"] [.m, .v, .v, .v, .v, .v, .v] m__law_lied := cal__law_lied T
  have B : ∀ (cdv : Value) (A : Around) (outer : List Env) (s : Shared) (H : Hp) (E : XK), Room 2 (A.deeper (envOfC "_law_did" (defScope st__law_did) s.heap.objs.size f cdv)) → PSs (cxOf CX0 P w K mg base ["_law_world_here", "_law_deed_here", "_law_word", "_law_party", "_law_other", "_law_kind", "_law_amount", "_law_is_sealed"] "_law_did" (defScope st__law_did) f cdv A outer s H E) (defBody st__law_did) (tS K E b__law_did) := by
    intro cdv A outer s H E hr
    have hu := hu64 hr
    have hu5 := hu65 hr
    exact s_cons (s_asgT (s_var 1) (pg_tup rfl (pgs_cons (pg_name (i := 2) sc__law_did.nd rfl (by first | exact Or.inl rfl | exact Or.inr rfl)) (pgs_cons (pg_name (i := 3) sc__law_did.nd rfl (by first | exact Or.inl rfl | exact Or.inr rfl)) (pgs_cons (pg_name (i := 4) sc__law_did.nd rfl (by first | exact Or.inl rfl | exact Or.inr rfl)) (pgs_cons (pg_name (i := 5) sc__law_did.nd rfl (by first | exact Or.inl rfl | exact Or.inr rfl)) (pgs_cons (pg_name (i := 6) sc__law_did.nd rfl (by first | exact Or.inl rfl | exact Or.inr rfl)) (pgs_cons (pg_name (i := 7) sc__law_did.nd rfl (by first | exact Or.inl rfl | exact Or.inr rfl)) (pgs_nil)))))))) (g_tup (gs_cons (g_name) (gs_cons (g_name) (gs_cons (g_name) (gs_cons (g_name) (gs_cons (g_name) (gs_cons (g_name) (gs_nil))))))))) (s_cons (s_ifS (s_tcmp (op_in3 hu5) o_in (s_var 2) (s_tup (s_acons (s_str) (s_acons (s_str) (s_acons (s_str) (s_acons (s_str) (s_anil)))))) rfl) (s_last (s_mret (s_mcall 0 c__law_honest hr passE (x_n 0 (x_n 2 (x_n 3 (x_n 4 (x_n 5 (x_n 6 (x_n 7 (x_nil))))))))))) (s_nil)) (s_last (s_mret (s_mcall 0 c__law_lied hr passE (x_n 0 (x_n 2 (x_n 3 (x_n 4 (x_n 5 (x_n 6 (x_n 7 (x_nil))))))))))))
  have e : m__law_did = fnD 8 [.m, .v] b__law_did := rfl
  rw [e]
  exact fn_body F sc__law_did rfl (by decide) B
theorem cal__law_did (T : Txt w K mg base) : Cal CX0 P w K mg base 3 "_law_did" ["_law_world_here", "_law_deed_here"] [.m, .v] m__law_did :=
  cal_of T.f__law_did (fun _ _ _ _ _ _ us hl => match us, hl with | [_, _], _ => rfl) fun f fd F => ok__law_did T F
theorem sc__law_cell : FnScope ["_law_script", "_law_k"] ["_law_script", "_law_k"] (defScope st__law_cell) := ⟨rfl, rfl, rfl, by decide +kernel, rfl, by decide +kernel, by decide +kernel⟩
theorem ok__law_cell (T : Txt w K mg base) {f : Addr} {fd : FuncData} (F : FunD K "_law_cell" "_law_cell" (defArgs st__law_cell) (defBody st__law_cell) (defScope st__law_cell) [] [] f fd) : FnOk P w K mg base CX0 1 f fd ["_law_script", "_law_k"] (spF K [.v, .v] m__law_cell) := by
  have B : ∀ (cdv : Value) (A : Around) (outer : List Env) (s : Shared) (H : Hp) (E : XK), Room 0 (A.deeper (envOfC "_law_cell" (defScope st__law_cell) s.heap.objs.size f cdv)) → PSs (cxOf CX0 P w K mg base ["_law_script", "_law_k"] "_law_cell" (defScope st__law_cell) f cdv A outer s H E) (defBody st__law_cell) (tS K E b__law_cell) := by
    intro cdv A outer s H E hr
    have hu := hu64 hr
    have hu5 := hu65 hr
    exact s_cons (s_ifS (s_tcmp op_lt o_lt (s_var 1) (s_callB b_len call_lenA (by rfl) T.b_len boot_len (s_acons (s_var 0) (s_anil))) rfl) (s_last (s_frz 0 (s_ret (s_ix ix_seq o_ix (s_var 0) (s_var 1))))) (s_nil)) (s_last (s_ret (s_int)))
  have e : m__law_cell = fnD 2 [.v, .v] b__law_cell := rfl
  rw [e]
  exact fn_body F sc__law_cell rfl (by decide) B
theorem cal__law_cell (T : Txt w K mg base) : Cal CX0 P w K mg base 1 "_law_cell" ["_law_script", "_law_k"] [.v, .v] m__law_cell :=
  cal_of T.f__law_cell (fun _ _ _ _ _ _ us hl => match us, hl with | [_, _], _ => rfl) fun f fd F => ok__law_cell T F
theorem sc__law_deed : FnScope ["_law_cell_here", "_law_world_here", "_law_lying", "_law_draws_here", "_law_many", "_law_words", "_law_party", "_law_kind", "_law_word", "_law_amount", "_law_stock"] ["_law_cell_here", "_law_world_here", "_law_lying"] (defScope st__law_deed) := ⟨rfl, rfl, rfl, by decide +kernel, rfl, by decide +kernel, by decide +kernel⟩
theorem ok__law_deed (T : Txt w K mg base) {f : Addr} {fd : FuncData} (F : FunD K "_law_deed" "_law_deed" (defArgs st__law_deed) (defBody st__law_deed) (defScope st__law_deed) [] [] f fd) : FnOk P w K mg base CX0 2 f fd ["_law_cell_here", "_law_world_here", "_law_lying"] (spF K [.v, .v, .v] m__law_deed) := by
  have c__law_draws : Cal CX0 P w K mg base 1 "_law_draws" ["_law_cell_here", "_law_count"] [.v, .v] m__law_draws := cal__law_draws T
  have B : ∀ (cdv : Value) (A : Around) (outer : List Env) (s : Shared) (H : Hp) (E : XK), Room 1 (A.deeper (envOfC "_law_deed" (defScope st__law_deed) s.heap.objs.size f cdv)) → PSs (cxOf CX0 P w K mg base ["_law_cell_here", "_law_world_here", "_law_lying", "_law_draws_here", "_law_many", "_law_words", "_law_party", "_law_kind", "_law_word", "_law_amount", "_law_stock"] "_law_deed" (defScope st__law_deed) f cdv A outer s H E) (defBody st__law_deed) (tS K E b__law_deed) := by
    intro cdv A outer s H E hr
    have hu := hu64 hr
    have hu5 := hu65 hr
    exact s_cons (s_asg 3 sc__law_deed.nd (s_callC c__law_draws hr passE (s_acons (s_var 0) (s_acons (s_int) (s_anil))))) (s_cons (s_asg 4 sc__law_deed.nd (s_callB b_len call_lenA (by rfl) T.b_len boot_len (s_acons (s_key hu (s_var 1) (s_str)) (s_anil)))) (s_cons (s_asg 5 sc__law_deed.nd (s_lst (s_acons (s_str) (s_acons (s_str) (s_acons (s_str) (s_acons (s_str) (s_acons (s_str) (s_acons (s_str) (s_acons (s_str) (s_anil)))))))))) (s_cons (s_ifS (s_tcmp op_lt o_lt (s_op op_mod o_mod (s_callTy b_int call_int1 (by rfl) T.b_int PyProof.Rows.boot_int (s_acons (s_ix ix_seq o_ix (s_var 3) (s_int)) (s_anil))) (s_int)) (s_var 2) rfl) (s_last (s_asg 5 sc__law_deed.nd (s_lst (s_acons (s_str) (s_acons (s_str) (s_acons (s_str) (s_acons (s_str) (s_acons (s_str) (s_acons (s_str) (s_acons (s_str) (s_anil))))))))))) (s_nil)) (s_cons (s_asg 6 sc__law_deed.nd (s_op op_mod o_mod (s_callTy b_int call_int1 (by rfl) T.b_int PyProof.Rows.boot_int (s_acons (s_ix ix_seq o_ix (s_var 3) (s_int)) (s_anil))) (s_var 4))) (s_cons (s_asg 7 sc__law_deed.nd (s_op op_mod o_mod (s_callTy b_int call_int1 (by rfl) T.b_int PyProof.Rows.boot_int (s_acons (s_ix ix_seq o_ix (s_var 3) (s_int)) (s_anil))) (s_key hu (s_var 1) (s_str)))) (s_cons (s_asg 8 sc__law_deed.nd (s_ix ix_seq o_ix (s_var 5) (s_op op_mod o_mod (s_callTy b_int call_int1 (by rfl) T.b_int PyProof.Rows.boot_int (s_acons (s_ix ix_seq o_ix (s_var 3) (s_int)) (s_anil))) (s_int)))) (s_cons (s_asg 9 sc__law_deed.nd (s_op op_add4 o_add (s_int) (s_op op_mod o_mod (s_callTy b_int call_int1 (by rfl) T.b_int PyProof.Rows.boot_int (s_acons (s_ix ix_seq o_ix (s_var 3) (s_int)) (s_anil))) (s_int)))) (s_cons (s_asg 10 sc__law_deed.nd (s_ix ix_seq o_ix (s_ix ix_seq o_ix (s_key hu (s_var 1) (s_str)) (s_var 6)) (s_var 7))) (s_cons (s_ifS ((s_tand (s_tcmp (op_in3 hu5) o_in (s_var 8) (s_tup (s_acons (s_str) (s_acons (s_str) (s_acons (s_str) (s_acons (s_str) (s_anil)))))) rfl) (s_tand (s_tcmp op_gt o_gt (s_var 10) (s_int) rfl) (s_tand1 (s_tcmp op_gt o_gt (s_op op_mod o_mod (s_callTy b_int call_int1 (by rfl) T.b_int PyProof.Rows.boot_int (s_acons (s_ix ix_seq o_ix (s_var 3) (s_int)) (s_anil))) (s_int)) (s_int) rfl)))).pt) (s_last (s_asg 9 sc__law_deed.nd (s_op op_add4 o_add (s_int) (s_op op_mod o_mod (s_callTy b_int call_int1 (by rfl) T.b_int PyProof.Rows.boot_int (s_acons (s_ix ix_seq o_ix (s_var 3) (s_int)) (s_anil))) (s_var 10))))) (s_nil)) (s_last (s_ret (s_tup (s_acons (s_var 8) (s_acons (s_var 6) (s_acons (s_op op_mod o_mod (s_callTy b_int call_int1 (by rfl) T.b_int PyProof.Rows.boot_int (s_acons (s_ix ix_seq o_ix (s_var 3) (s_int)) (s_anil))) (s_var 4)) (s_acons (s_var 7) (s_acons (s_var 9) (s_acons (s_cmp (op_eq2 hu) o_eq (s_op op_mod o_mod (s_callTy b_int call_int1 (by rfl) T.b_int PyProof.Rows.boot_int (s_acons (s_ix ix_seq o_ix (s_var 3) (s_int)) (s_anil))) (s_int)) (s_int) rfl) (s_anil)))))))))))))))))))
  have e : m__law_deed = fnD 11 [.v, .v, .v] b__law_deed := rfl
  rw [e]
  exact fn_body F sc__law_deed rfl (by decide) B
theorem cal__law_deed (T : Txt w K mg base) : Cal CX0 P w K mg base 2 "_law_deed" ["_law_cell_here", "_law_world_here", "_law_lying"] [.v, .v, .v] m__law_deed :=
  cal_of T.f__law_deed (fun _ _ _ _ _ _ us hl => match us, hl with | [_, _, _], _ => rfl) fun f fd F => ok__law_deed T F
theorem sc__law_world : FnScope ["_law_script", "_law_start", "_law_many", "_law_most", "_law_lying", "_law_world_here", "_law_k"] ["_law_script", "_law_start", "_law_many", "_law_most", "_law_lying"] (defScope st__law_world) := ⟨rfl, rfl, rfl, by decide +kernel, rfl, by decide +kernel, by decide +kernel⟩
theorem ok__law_world (T : Txt w K mg base) {f : Addr} {fd : FuncData} (F : FunD K "_law_world" "_law_world" (defArgs st__law_world) (defBody st__law_world) (defScope st__law_world) [] [] f fd) : FnOk P w K mg base CX0 4 f fd ["_law_script", "_law_start", "_law_many", "_law_most", "_law_lying"] (spF K [.v, .v, .v, .v, .v] m__law_world) := by
  have c__law_begun : Cal CX0 P w K mg base 1 "_law_begun" ["_law_kinds", "_law_parties_here"] [.v, .v] m__law_begun := cal__law_begun T
  have c__law_cell : Cal CX0 P w K mg base 1 "_law_cell" ["_law_script", "_law_k"] [.v, .v] m__law_cell := cal__law_cell T
  have c__law_parties : Cal CX0 P w K mg base 2 "_law_parties" ["_law_cell_here", "_law_most"] [.v, .v] m__law_parties := cal__law_parties T
  have c__law_did : Cal CX0 P w K mg base 3 "_law_did" ["_law_world_here", "_law_deed_here"] [.m, .v] m__law_did := cal__law_did T
  have c__law_deed : Cal CX0 P w K mg base 2 "_law_deed" ["_law_cell_here", "_law_world_here", "_law_lying"] [.v, .v, .v] m__law_deed := cal__law_deed T
  have B : ∀ (cdv : Value) (A : Around) (outer : List Env) (s : Shared) (H : Hp) (E : XK), Room 3 (A.deeper (envOfC "_law_world" (defScope st__law_world) s.heap.objs.size f cdv)) → PSs (cxOf CX0 P w K mg base ["_law_script", "_law_start", "_law_many", "_law_most", "_law_lying", "_law_world_here", "_law_k"] "_law_world" (defScope st__law_world) f cdv A outer s H E) (defBody st__law_world) (tS K E b__law_world) := by
    intro cdv A outer s H E hr
    have hu := hu64 hr
    have hu5 := hu65 hr
    exact s_cons (s_asg 5 sc__law_world.nd (s_callC c__law_begun hr passE (s_acons (s_op op_add4 o_add (s_int) (s_op op_mod o_mod (s_op op_fdiv o_div (s_callC c__law_cell hr passE (s_acons (s_var 0) (s_acons (s_var 1) (s_anil)))) (s_int)) (s_int))) (s_acons (s_callC c__law_parties hr passE (s_acons (s_callC c__law_cell hr passE (s_acons (s_var 0) (s_acons (s_var 1) (s_anil)))) (s_acons (s_var 3) (s_anil)))) (s_anil))))) (s_cons (s_end [false, false, false, false, false, true, false] [false, false, false, false, false, false, false] (s_pre [true, true, true, false, true, true, false] (s_for (passes_of rfl) rfl (pi_range1 (by rfl) T.b_range (s_acons (s_var 2) (s_anil))) (srcR1_ok) (pg_name (i := 6) sc__law_world.nd rfl (by first | exact Or.inl rfl | exact Or.inr rfl)) (g_name) (s_ends [true, true, true, false, true, true, false] [false, false, false, false, false, false, false] (s_last (s_mdrop (s_mcall 5 c__law_did hr passE (x_n 5 (x_p (s_callC c__law_deed hr passE (s_acons (s_callC c__law_cell hr passE (s_acons (s_var 0) (s_acons (s_op op_add4 o_add (s_op op_add4 o_add (s_var 1) (s_int)) (s_var 6)) (s_anil)))) (s_acons (s_var 5) (s_acons (s_var 4) (s_anil))))) (x_nil)))))))))) (s_last (s_retV 5)))
  have e : m__law_world = fnD 7 [.v, .v, .v, .v, .v] b__law_world := rfl
  rw [e]
  exact fn_body F sc__law_world rfl (by decide) B
theorem cal__law_world (T : Txt w K mg base) : Cal CX0 P w K mg base 4 "_law_world" ["_law_script", "_law_start", "_law_many", "_law_most", "_law_lying"] [.v, .v, .v, .v, .v] m__law_world :=
  cal_of T.f__law_world (fun _ _ _ _ _ _ us hl => match us, hl with | [_, _, _, _, _], _ => rfl) fun f fd F => ok__law_world T F
theorem sc__law_put : FnScope ["_law_row", "_law_at", "_law_thing"] ["_law_row", "_law_at", "_law_thing"] (defScope st__law_put) := ⟨rfl, rfl, rfl, by decide +kernel, rfl, by decide +kernel, by decide +kernel⟩
theorem ok__law_put (T : Txt w K mg base) {f : Addr} {fd : FuncData} (F : FunD K "_law_put" "_law_put" (defArgs st__law_put) (defBody st__law_put) (defScope st__law_put) [] [] f fd) : FnOk P w K mg base CX0 1 f fd ["_law_row", "_law_at", "_law_thing"] (spF K [.v, .v, .i] m__law_put) := by
  have B : ∀ (cdv : Value) (A : Around) (outer : List Env) (s : Shared) (H : Hp) (E : XK), Room 0 (A.deeper (envOfC "_law_put" (defScope st__law_put) s.heap.objs.size f cdv)) → PSs (cxOf CX0 P w K mg base ["_law_row", "_law_at", "_law_thing"] "_law_put" (defScope st__law_put) f cdv A outer s H E) (defBody st__law_put) (tS K E b__law_put) := by
    intro cdv A outer s H E hr
    have hu := hu64 hr
    have hu5 := hu65 hr
    exact s_last (s_ret (s_op op_add4 o_add (s_op op_add4 o_add (s_sl01 (s_var 0) (s_var 1)) (s_tup (s_acons (s_var 2) (s_anil)))) (s_sl10 (s_var 0) (s_op op_add4 o_add (s_var 1) (s_int)))))
  have e : m__law_put = fnD 3 [.v, .v, .i] b__law_put := rfl
  rw [e]
  exact fn_body F sc__law_put rfl (by decide) B
theorem cal__law_put (T : Txt w K mg base) : Cal CX0 P w K mg base 1 "_law_put" ["_law_row", "_law_at", "_law_thing"] [.v, .v, .i] m__law_put :=
  cal_of T.f__law_put (fun _ _ _ _ _ _ us hl => match us, hl with | [_, _, _], _ => rfl) fun f fd F => ok__law_put T F
theorem sc__law_odd : FnScope ["_law_draws_here", "_law_at", "_law_odd_here"] ["_law_draws_here", "_law_at"] (defScope st__law_odd) := ⟨rfl, rfl, rfl, by decide +kernel, rfl, by decide +kernel, by decide +kernel⟩
theorem ok__law_odd (T : Txt w K mg base) {f : Addr} {fd : FuncData} (F : FunD K "_law_odd" "_law_odd" (defArgs st__law_odd) (defBody st__law_odd) (defScope st__law_odd) [] [] f fd) : FnOk P w K mg base CX0 1 f fd ["_law_draws_here", "_law_at"] (spF K [.v, .v] m__law_odd) := by
  have B : ∀ (cdv : Value) (A : Around) (outer : List Env) (s : Shared) (H : Hp) (E : XK), Room 0 (A.deeper (envOfC "_law_odd" (defScope st__law_odd) s.heap.objs.size f cdv)) → PSs (cxOf CX0 P w K mg base ["_law_draws_here", "_law_at", "_law_odd_here"] "_law_odd" (defScope st__law_odd) f cdv A outer s H E) (defBody st__law_odd) (tS K E b__law_odd) := by
    intro cdv A outer s H E hr
    have hu := hu64 hr
    have hu5 := hu65 hr
    exact s_cons (s_asg 2 sc__law_odd.nd (s_lstF (s_acons (s_bl) (s_acons (s_bl) (s_acons (s_non) (s_acons (s_neg (s_int)) (s_acons (s_int) (s_acons (s_int) (s_acons (s_int) (s_acons (s_int) (s_acons (s_int) (s_acons (s_int) (s_acons (s_str) (s_acons (s_str) (s_acons (s_str) (s_acons (s_tup (s_anil)) (s_acons (s_fz (s_lst (s_anil))) (s_anil)))))))))))))))))) (s_cons (s_asg 2 sc__law_odd.nd (s_op op_add4 o_add (s_var 2) (s_lstF (s_acons (s_op op_pow o_pow (s_int) (s_int)) (s_acons (s_op op_add4 o_add (s_op op_pow o_pow (s_int) (s_int)) (s_int)) (s_acons (s_op op_pow o_pow (s_int) (s_int)) (s_acons (s_op op_add4 o_add (s_op op_pow o_pow (s_int) (s_int)) (s_int)) (s_anil)))))))) (s_last (s_frz 2 (s_ret (s_ix ix_seq o_ix (s_var 2) (s_op op_mod o_mod (s_callTy b_int call_int1 (by rfl) T.b_int PyProof.Rows.boot_int (s_acons (s_ix ix_seq o_ix (s_var 0) (s_var 1)) (s_anil))) (s_callB b_len call_lenA (by rfl) T.b_len boot_len (s_acons (s_var 2) (s_anil)))))))))
  have e : m__law_odd = fnD 3 [.v, .v] b__law_odd := rfl
  rw [e]
  exact fn_body F sc__law_odd rfl (by decide) B
theorem cal__law_odd (T : Txt w K mg base) : Cal CX0 P w K mg base 1 "_law_odd" ["_law_draws_here", "_law_at"] [.v, .v] m__law_odd :=
  cal_of T.f__law_odd (fun _ _ _ _ _ _ us hl => match us, hl with | [_, _], _ => rfl) fun f fd F => ok__law_odd T F
theorem sc__law_changed : FnScope ["_law_cell_here", "_law_evidence_here", "_law_draws_here", "_law_kinds", "_law_parties_here", "_law_files", "_law_finds", "_law_kind", "_law_owner", "_law_party", "_law_at", "_law_row", "_law_long", "_law_find", "_law_k"] ["_law_cell_here", "_law_evidence_here"] (defScope st__law_changed) := ⟨rfl, rfl, rfl, by decide +kernel, rfl, by decide +kernel, by decide +kernel⟩
theorem ok__law_changed (T : Txt w K mg base) {f : Addr} {fd : FuncData} (F : FunD K "_law_changed" "_law_changed" (defArgs st__law_changed) (defBody st__law_changed) (defScope st__law_changed) [] [] f fd) : FnOk P w K mg base CX0 2 f fd ["_law_cell_here", "_law_evidence_here"] (spF K [.v, .v] m__law_changed) := by
  have c__law_draws : Cal CX0 P w K mg base 1 "_law_draws" ["_law_cell_here", "_law_count"] [.v, .v] m__law_draws := cal__law_draws T
  have c__law_put : Cal CX0 P w K mg base 1 "_law_put" ["_law_row", "_law_at", "_law_thing"] [.v, .v, .i] m__law_put := cal__law_put T
  have c__law_odd : Cal CX0 P w K mg base 1 "_law_odd" ["_law_draws_here", "_law_at"] [.v, .v] m__law_odd := cal__law_odd T
  have B : ∀ (cdv : Value) (A : Around) (outer : List Env) (s : Shared) (H : Hp) (E : XK), Room 1 (A.deeper (envOfC "_law_changed" (defScope st__law_changed) s.heap.objs.size f cdv)) → PSs (cxOf CX0 P w K mg base ["_law_cell_here", "_law_evidence_here", "_law_draws_here", "_law_kinds", "_law_parties_here", "_law_files", "_law_finds", "_law_kind", "_law_owner", "_law_party", "_law_at", "_law_row", "_law_long", "_law_find", "_law_k"] "_law_changed" (defScope st__law_changed) f cdv A outer s H E) (defBody st__law_changed) (tS K E b__law_changed) := by
    intro cdv A outer s H E hr
    have hu := hu64 hr
    have hu5 := hu65 hr
    exact s_cons (s_asg 2 sc__law_changed.nd (s_callC c__law_draws hr passE (s_acons (s_var 0) (s_acons (s_int) (s_anil))))) (s_cons (s_asgT (s_var 1) (pg_tup rfl (pgs_cons (pg_name (i := 3) sc__law_changed.nd rfl (by first | exact Or.inl rfl | exact Or.inr rfl)) (pgs_cons (pg_name (i := 4) sc__law_changed.nd rfl (by first | exact Or.inl rfl | exact Or.inr rfl)) (pgs_cons (pg_name (i := 5) sc__law_changed.nd rfl (by first | exact Or.inl rfl | exact Or.inr rfl)) (pgs_cons (pg_name (i := 6) sc__law_changed.nd rfl (by first | exact Or.inl rfl | exact Or.inr rfl)) (pgs_nil)))))) (g_tup (gs_cons (g_name) (gs_cons (g_name) (gs_cons (g_name) (gs_cons (g_name) (gs_nil))))))) (s_cons (s_asg 7 sc__law_changed.nd (s_op op_mod o_mod (s_callTy b_int call_int1 (by rfl) T.b_int PyProof.Rows.boot_int (s_acons (s_ix ix_seq o_ix (s_var 2) (s_int)) (s_anil))) (s_int))) (s_cons (s_asg 8 sc__law_changed.nd (s_op op_mod o_mod (s_callTy b_int call_int1 (by rfl) T.b_int PyProof.Rows.boot_int (s_acons (s_ix ix_seq o_ix (s_var 2) (s_int)) (s_anil))) (s_callB b_len call_lenA (by rfl) T.b_len boot_len (s_acons (s_var 5) (s_anil))))) (s_cons (s_ifS (s_tcmp (op_eq2 hu) o_eq (s_var 7) (s_int) rfl) (s_last (s_ret (s_callC c__law_put hr passE (s_acons (s_var 1) (s_acons (s_op op_mod o_mod (s_callTy b_int call_int1 (by rfl) T.b_int PyProof.Rows.boot_int (s_acons (s_ix ix_seq o_ix (s_var 2) (s_int)) (s_anil))) (s_int)) (s_acons (s_callC c__law_odd hr passE (s_acons (s_var 2) (s_acons (s_int) (s_anil)))) (s_anil))))))) (s_nil)) (s_cons (s_end [false, false, true, true, true, true, true, true, true, false, false, false, false, false, false] [false, false, false, false, false, false, false, false, false, false, false, false, false, false, false] (s_ifS (s_tcmp (op_eq2 hu) o_eq (s_var 7) (s_int) rfl) (s_cons (s_asg 9 sc__law_changed.nd (s_callC c__law_put hr passE (s_acons (s_ix ix_seq o_ix (s_var 4) (s_var 8)) (s_acons (s_op op_mod o_mod (s_callTy b_int call_int1 (by rfl) T.b_int PyProof.Rows.boot_int (s_acons (s_ix ix_seq o_ix (s_var 2) (s_int)) (s_anil))) (s_int)) (s_acons (s_callC c__law_odd hr passE (s_acons (s_var 2) (s_acons (s_int) (s_anil)))) (s_anil)))))) (s_last (s_frz 9 (s_ret (s_tup (s_acons (s_var 3) (s_acons (s_callC c__law_put hr passE (s_acons (s_var 4) (s_acons (s_var 8) (s_acons (s_var 9) (s_anil))))) (s_acons (s_var 5) (s_acons (s_var 6) (s_anil)))))))))) (s_nil))) (s_cons (s_ifS (s_tcmp (op_eq2 hu) o_eq (s_var 7) (s_int) rfl) (s_last (s_ret (s_tup (s_acons (s_var 3) (s_acons (s_var 4) (s_acons (s_sl01 (s_var 5) (s_neg (s_int))) (s_acons (s_var 6) (s_anil)))))))) (s_nil)) (s_cons (s_ifS (s_tcmp (op_eq2 hu) o_eq (s_var 7) (s_int) rfl) (s_last (s_ret (s_tup (s_acons (s_var 3) (s_acons (s_op op_mulT o_mulT (s_var 4) (s_op op_add4 o_add (s_int) (s_op op_mod o_mod (s_callTy b_int call_int1 (by rfl) T.b_int PyProof.Rows.boot_int (s_acons (s_ix ix_seq o_ix (s_var 2) (s_int)) (s_anil))) (s_int)))) (s_acons (s_op op_mulT o_mulT (s_var 5) (s_op op_add4 o_add (s_int) (s_op op_mod o_mod (s_callTy b_int call_int1 (by rfl) T.b_int PyProof.Rows.boot_int (s_acons (s_ix ix_seq o_ix (s_var 2) (s_int)) (s_anil))) (s_int)))) (s_acons (s_var 6) (s_anil)))))))) (s_nil)) (s_cons (s_end [false, false, true, true, true, true, true, true, true, false, false, false, false, false, false] [false, false, false, false, false, false, false, false, false, false, false, false, false, false, false] (s_ifS ((s_tand (s_tcmp op_lt o_lt (s_var 7) (s_int) rfl) (s_tand1 (s_tcmp op_gt o_gt (s_callB b_len call_lenA (by rfl) T.b_len boot_len (s_acons (s_ix ix_seq o_ix (s_var 5) (s_var 8)) (s_anil))) (s_int) rfl))).pt) (s_cons (s_asg 10 sc__law_changed.nd (s_op op_mod o_mod (s_callTy b_int call_int1 (by rfl) T.b_int PyProof.Rows.boot_int (s_acons (s_ix ix_seq o_ix (s_var 2) (s_int)) (s_anil))) (s_callB b_len call_lenA (by rfl) T.b_len boot_len (s_acons (s_ix ix_seq o_ix (s_var 5) (s_var 8)) (s_anil))))) (s_cons (s_asg 11 sc__law_changed.nd (s_ix ix_seq o_ix (s_ix ix_seq o_ix (s_var 5) (s_var 8)) (s_var 10))) (s_cons (s_asg 11 sc__law_changed.nd (s_if (s_tcmp (op_eq2 hu) o_eq (s_op op_mod o_mod (s_callTy b_int call_int1 (by rfl) T.b_int PyProof.Rows.boot_int (s_acons (s_ix ix_seq o_ix (s_var 2) (s_int)) (s_anil))) (s_int)) (s_int) rfl) (s_sl01 (s_var 11) (s_int)) (s_callC c__law_put hr passE (s_acons (s_var 11) (s_acons (s_op op_mod o_mod (s_callTy b_int call_int1 (by rfl) T.b_int PyProof.Rows.boot_int (s_acons (s_ix ix_seq o_ix (s_var 2) (s_int)) (s_anil))) (s_callB b_len call_lenA (by rfl) T.b_len boot_len (s_acons (s_var 11) (s_anil)))) (s_acons (s_callC c__law_odd hr passE (s_acons (s_var 2) (s_acons (s_int) (s_anil)))) (s_anil))))))) (s_last (s_frz 11 (s_ret (s_tup (s_acons (s_var 3) (s_acons (s_var 4) (s_acons (s_callC c__law_put hr passE (s_acons (s_var 5) (s_acons (s_var 8) (s_acons (s_callC c__law_put hr passE (s_acons (s_ix ix_seq o_ix (s_var 5) (s_var 8)) (s_acons (s_var 10) (s_acons (s_var 11) (s_anil))))) (s_anil))))) (s_acons (s_var 6) (s_anil)))))))))))) (s_nil))) (s_cons (s_end [false, false, true, true, true, true, true, true, true, false, false, false, false, false, false] [false, false, false, false, false, false, false, false, false, false, false, false, false, false, false] (s_ifS (s_tcmp (op_eq2 hu) o_eq (s_var 7) (s_int) rfl) (s_cons (s_asg 12 sc__law_changed.nd (s_callTy b_tuple call_tuple_of (by rfl) T.b_tuple PyProof.Rows.boot_tuple (s_acons (s_comp (own := [("_law_k", 14)]) rfl sc__law_changed.nd (pi_range1 (by rfl) T.b_range (s_acons (s_op op_add4 o_add (s_int) (s_op op_mod o_mod (s_callTy b_int call_int1 (by rfl) T.b_int PyProof.Rows.boot_int (s_acons (s_ix ix_seq o_ix (s_var 2) (s_int)) (s_anil))) (s_int))) (s_anil))) (srcR1_ok.c) (blkB_ok (by kernel_rfl)) (c_name) (by decide) (fun _ _ _ _ _ => pg_name (i := 14) sc__law_changed.nd rfl (by first | exact Or.inl rfl | exact Or.inr rfl)) (fun _ _ _ _ _ => s_ifs0) (fun _ _ _ _ _ => s_tup (s_acons (s_op op_add4 o_add (s_int) (s_var 14)) (s_acons (s_str) (s_acons (s_int) (s_acons (s_int) (s_anil))))))) (s_anil)))) (s_last (s_frz 12 (s_ret (s_tup (s_acons (s_var 3) (s_acons (s_var 4) (s_acons (s_callC c__law_put hr passE (s_acons (s_var 5) (s_acons (s_var 8) (s_acons (s_var 12) (s_anil))))) (s_acons (s_tup (s_anil)) (s_anil)))))))))) (s_nil))) (s_cons (s_ifS (s_tcmp (op_eq2 hu) o_eq (s_var 7) (s_int) rfl) (s_last (s_ret (s_tup (s_acons (s_var 3) (s_acons (s_var 4) (s_acons (s_callC c__law_put hr passE (s_acons (s_var 5) (s_acons (s_var 8) (s_acons (s_revT (s_ix ix_seq o_ix (s_var 5) (s_var 8))) (s_anil))))) (s_acons (s_revT (s_var 6)) (s_anil)))))))) (s_nil)) (s_cons (s_asg 13 sc__law_changed.nd (s_tup (s_acons (s_op op_mod o_mod (s_callTy b_int call_int1 (by rfl) T.b_int PyProof.Rows.boot_int (s_acons (s_ix ix_seq o_ix (s_var 2) (s_int)) (s_anil))) (s_int)) (s_acons (s_var 8) (s_acons (s_op op_mod o_mod (s_callTy b_int call_int1 (by rfl) T.b_int PyProof.Rows.boot_int (s_acons (s_ix ix_seq o_ix (s_var 2) (s_int)) (s_anil))) (s_int)) (s_acons (s_op op_mod o_mod (s_callTy b_int call_int1 (by rfl) T.b_int PyProof.Rows.boot_int (s_acons (s_ix ix_seq o_ix (s_var 2) (s_int)) (s_anil))) (s_int)) (s_anil))))))) (s_cons (s_ifS (s_tcmp (op_eq2 hu) o_eq (s_op op_mod o_mod (s_callTy b_int call_int1 (by rfl) T.b_int PyProof.Rows.boot_int (s_acons (s_ix ix_seq o_ix (s_var 2) (s_int)) (s_anil))) (s_int)) (s_int) rfl) (s_last (s_asg 13 sc__law_changed.nd (s_callC c__law_put hr passE (s_acons (s_var 13) (s_acons (s_op op_mod o_mod (s_callTy b_int call_int1 (by rfl) T.b_int PyProof.Rows.boot_int (s_acons (s_ix ix_seq o_ix (s_var 2) (s_int)) (s_anil))) (s_int)) (s_acons (s_callC c__law_odd hr passE (s_acons (s_var 2) (s_acons (s_int) (s_anil)))) (s_anil))))))) (s_nil)) (s_last (s_ret (s_tup (s_acons (s_var 3) (s_acons (s_var 4) (s_acons (s_var 5) (s_acons (s_op op_add4 o_add (s_var 6) (s_tup (s_acons (s_var 13) (s_anil)))) (s_anil))))))))))))))))))))
  have e : m__law_changed = fnD 15 [.v, .v] b__law_changed := rfl
  rw [e]
  exact fn_body F sc__law_changed rfl (by decide) B
theorem cal__law_changed (T : Txt w K mg base) : Cal CX0 P w K mg base 2 "_law_changed" ["_law_cell_here", "_law_evidence_here"] [.v, .v] m__law_changed :=
  cal_of T.f__law_changed (fun _ _ _ _ _ _ us hl => match us, hl with | [_, _], _ => rfl) fun f fd F => ok__law_changed T F
theorem sc_entry_numbers : FnScope ["files", "file", "entry"] ["files"] (defScope st_entry_numbers) := ⟨rfl, rfl, rfl, by decide +kernel, rfl, by decide +kernel, by decide +kernel⟩
theorem ok_entry_numbers (T : Txt w K mg base) {f : Addr} {fd : FuncData} (F : FunD K "entry_numbers" "entry_numbers" (defArgs st_entry_numbers) (defBody st_entry_numbers) (defScope st_entry_numbers) [] [] f fd) : FnOk P w K mg base CX0 1 f fd ["files"] (spF K [.i] m_entry_numbers) := by
  have B : ∀ (cdv : Value) (A : Around) (outer : List Env) (s : Shared) (H : Hp) (E : XK), Room 0 (A.deeper (envOfC "entry_numbers" (defScope st_entry_numbers) s.heap.objs.size f cdv)) → PSs (cxOf CX0 P w K mg base ["files", "file", "entry"] "entry_numbers" (defScope st_entry_numbers) f cdv A outer s H E) (defBody st_entry_numbers) (tS K E b_entry_numbers) := by
    intro cdv A outer s H E hr
    have hu := hu64 hr
    have hu5 := hu65 hr
    exact s_last (s_ret (s_dc2 (own := [("file", 1), ("entry", 2)]) (vs1 := [2]) rfl sc_entry_numbers.nd (pi_seq (s_var 0)) (srcC_ok) (blkB_ok (by kernel_rfl)) (c_name) (by decide) (srcS_d) (c_name) (by decide) (by decide) (fun _ _ _ _ _ => pg_name (i := 1) sc_entry_numbers.nd rfl (by first | exact Or.inl rfl | exact Or.inr rfl)) (fun _ _ _ _ _ => s_ifs0) (fun _ _ _ _ _ => pi_seq (s_var 1)) (fun _ _ _ _ _ => pg_name (i := 2) sc_entry_numbers.nd rfl (by first | exact Or.inl rfl | exact Or.inr rfl)) (fun _ _ _ _ _ => s_ifs0) (fun _ _ _ _ _ => s_ix ix_seq o_ix (s_var 2) (s_int))))
  have e : m_entry_numbers = fnD 3 [.i] b_entry_numbers := rfl
  rw [e]
  exact fn_body F sc_entry_numbers rfl (by decide) B
theorem cal_entry_numbers (T : Txt w K mg base) : Cal CX0 P w K mg base 1 "entry_numbers" ["files"] [.i] m_entry_numbers :=
  cal_of T.f_entry_numbers (fun _ _ _ _ _ _ us hl => match us, hl with | [_], _ => rfl) fun f fd F => ok_entry_numbers T F
theorem sc_ascend : FnScope ["rows", "at", "row"] ["rows"] (defScope st_ascend) := ⟨rfl, rfl, rfl, by decide +kernel, rfl, by decide +kernel, by decide +kernel⟩
theorem ok_ascend (T : Txt w K mg base) {f : Addr} {fd : FuncData} (F : FunD K "ascend" "ascend" (defArgs st_ascend) (defBody st_ascend) (defScope st_ascend) [] [] f fd) (hc : fd.code = .ref (He.cT K ("ascend", none)).1) : FnOk P w K mg base CX0 4 f fd ["rows"] (spF K [.i] m_ascend) := by
  have B : ∀ (A : Around) (outer : List Env) (s : Shared) (H : Hp) (E : XK), Room 3 (A.deeper (envOfC "ascend" (defScope st_ascend) s.heap.objs.size f fd.code)) → PSs (cxOf CX0 P w K mg base ["rows", "at", "row"] "ascend" (defScope st_ascend) f fd.code A outer s H E) (defBody st_ascend) (tS K E b_ascend) := by
    intro A outer s H E hr
    have hu := hu64 hr
    have hu5 := hu65 hr
    exact s_last (s_ret (s_allX (own := [("at", 1), ("row", 2)]) T.tp_ascend hr (by rfl) T.b_all (by decide +kernel) T.tb_ascend hc sc_ascend.nd (pi_enumA (by rfl) T.b_enumerate (s_acons (s_sl10 (s_var 0) (s_int)) (s_anil))) (srcEc_ok) (blkB_ok (by kernel_rfl)) (c_tup (cs_cons (c_name) (cs_cons (c_name) (cs_nil)))) (by decide) (fun _ _ _ _ _ _ _ _ _ => pg_tup rfl (pgs_cons (pg_name (i := 1) sc_ascend.nd rfl (by first | exact Or.inl rfl | exact Or.inr rfl)) (pgs_cons (pg_name (i := 2) sc_ascend.nd rfl (by first | exact Or.inl rfl | exact Or.inr rfl)) (pgs_nil)))) (fun _ _ _ _ _ _ _ _ _ hr => have hu := hu64 hr; have hu5 := hu65 hr; s_cmp op_lt o_lt (s_ix ix_seq o_ix (s_ix ix_seq o_ix (s_var 0) (s_var 1)) (s_int)) (s_ix ix_seq o_ix (s_var 2) (s_int)) rfl)))
  have e : m_ascend = fnD 3 [.i] b_ascend := rfl
  rw [e]
  exact fn_bodyC F sc_ascend rfl (by decide) B
theorem cal_ascend (T : Txt w K mg base) : Cal CX0 P w K mg base 4 "ascend" ["rows"] [.i] m_ascend :=
  cal_ofC T.f_ascend (fun _ _ _ _ _ _ us hl => match us, hl with | [_], _ => rfl) fun f fd F hc => ok_ascend T F hc
theorem sc_is_number : FnScope ["thing", "least", "most"] ["thing", "least", "most"] (defScope st_is_number) := ⟨rfl, rfl, rfl, by decide +kernel, rfl, by decide +kernel, by decide +kernel⟩
theorem ok_is_number (T : Txt w K mg base) {f : Addr} {fd : FuncData} (F : FunD K "is_number" "is_number" (defArgs st_is_number) (defBody st_is_number) (defScope st_is_number) [] [] f fd) : FnOk P w K mg base CX0 1 f fd ["thing", "least", "most"] (spF K [.i, .v, .v] m_is_number) := by
  have B : ∀ (cdv : Value) (A : Around) (outer : List Env) (s : Shared) (H : Hp) (E : XK), Room 0 (A.deeper (envOfC "is_number" (defScope st_is_number) s.heap.objs.size f cdv)) → PSs (cxOf CX0 P w K mg base ["thing", "least", "most"] "is_number" (defScope st_is_number) f cdv A outer s H E) (defBody st_is_number) (tS K E b_is_number) := by
    intro cdv A outer s H E hr
    have hu := hu64 hr
    have hu5 := hu65 hr
    exact s_last (s_ret (s_and (s_isi tyOk_int PyProof.Rows.boot_int (by rfl) T.b_isinstance (by rfl) T.b_int (s_var 0)) (s_and (s_not (s_isi tyOk_bool (by decide +kernel) (by rfl) T.b_isinstance (by rfl) T.b_bool (s_var 0))) (s_one (s_chI op_le op_le (s_var 1) (s_var 0) (s_var 2))))))
  have e : m_is_number = fnD 3 [.i, .v, .v] b_is_number := rfl
  rw [e]
  exact fn_body F sc_is_number rfl (by decide) B
theorem cal_is_number (T : Txt w K mg base) : Cal CX0 P w K mg base 1 "is_number" ["thing", "least", "most"] [.i, .v, .v] m_is_number :=
  cal_of T.f_is_number (fun _ _ _ _ _ _ us hl => match us, hl with | [_, _, _], _ => rfl) fun f fd F => ok_is_number T F
theorem sc_is_find : FnScope ["thing", "kinds", "parties"] ["thing", "kinds", "parties"] (defScope st_is_find) := ⟨rfl, rfl, rfl, by decide +kernel, rfl, by decide +kernel, by decide +kernel⟩
theorem ok_is_find (T : Txt w K mg base) {f : Addr} {fd : FuncData} (F : FunD K "is_find" "is_find" (defArgs st_is_find) (defBody st_is_find) (defScope st_is_find) [] [] f fd) : FnOk P w K mg base CX0 2 f fd ["thing", "kinds", "parties"] (spF K [.i, .v, .v] m_is_find) := by
  have c_is_number : Cal CX0 P w K mg base 1 "is_number" ["thing", "least", "most"] [.i, .v, .v] m_is_number := cal_is_number T
  have B : ∀ (cdv : Value) (A : Around) (outer : List Env) (s : Shared) (H : Hp) (E : XK), Room 1 (A.deeper (envOfC "is_find" (defScope st_is_find) s.heap.objs.size f cdv)) → PSs (cxOf CX0 P w K mg base ["thing", "kinds", "parties"] "is_find" (defScope st_is_find) f cdv A outer s H E) (defBody st_is_find) (tS K E b_is_find) := by
    intro cdv A outer s H E hr
    have hu := hu64 hr
    have hu5 := hu65 hr
    exact s_cons (s_ifS ((s_tor (s_tnot (s_tru (s_isi tyOk_tuple PyProof.Rows.boot_tuple (by rfl) T.b_isinstance (by rfl) T.b_tuple (s_var 0)))) (s_tor (s_tcmp (op_ne2 hu) o_ne (s_callB b_len call_lenA (by rfl) T.b_len boot_len (s_acons (s_var 0) (s_anil))) (s_int) rfl) (s_tor1 (s_tnot (s_tru (s_callC c_is_number hr passE (s_acons (s_ix ix_seq o_ix (s_var 0) (s_int)) (s_acons (s_int) (s_acons (s_globI T.g_NUMBER_MOST) (s_anil)))))))))).pt) (s_last (s_ret (s_bl))) (s_nil)) (s_cons (s_ifS ((s_tor (s_tnot (s_tru (s_callC c_is_number hr passE (s_acons (s_ix ix_seq o_ix (s_var 0) (s_int)) (s_acons (s_int) (s_acons (s_op op_sub o_sub (s_var 2) (s_int)) (s_anil))))))) (s_tor1 (s_tnot (s_tru (s_callC c_is_number hr passE (s_acons (s_ix ix_seq o_ix (s_var 0) (s_int)) (s_acons (s_int) (s_acons (s_op op_sub o_sub (s_var 1) (s_int)) (s_anil))))))))).pt) (s_last (s_ret (s_bl))) (s_nil)) (s_last (s_ret (s_callC c_is_number hr passE (s_acons (s_ix ix_seq o_ix (s_var 0) (s_int)) (s_acons (s_int) (s_acons (s_globI T.g_AMOUNT_MOST) (s_anil))))))))
  have e : m_is_find = fnD 3 [.i, .v, .v] b_is_find := rfl
  rw [e]
  exact fn_body F sc_is_find rfl (by decide) B
theorem cal_is_find (T : Txt w K mg base) : Cal CX0 P w K mg base 2 "is_find" ["thing", "kinds", "parties"] [.i, .v, .v] m_is_find :=
  cal_of T.f_is_find (fun _ _ _ _ _ _ us hl => match us, hl with | [_, _, _], _ => rfl) fun f fd F => ok_is_find T F
theorem sc_are_finds : FnScope ["thing", "kinds", "parties", "find"] ["thing", "kinds", "parties"] (defScope st_are_finds) := ⟨rfl, rfl, rfl, by decide +kernel, rfl, by decide +kernel, by decide +kernel⟩
theorem ok_are_finds (T : Txt w K mg base) {f : Addr} {fd : FuncData} (F : FunD K "are_finds" "are_finds" (defArgs st_are_finds) (defBody st_are_finds) (defScope st_are_finds) [] [] f fd) (hc : fd.code = .ref (He.cT K ("are_finds", none)).1) : FnOk P w K mg base CX0 6 f fd ["thing", "kinds", "parties"] (spF K [.i, .v, .v] m_are_finds) := by
  have c_is_find : Cal CX0 P w K mg base 2 "is_find" ["thing", "kinds", "parties"] [.i, .v, .v] m_is_find := cal_is_find T
  have c_ascend : Cal CX0 P w K mg base 4 "ascend" ["rows"] [.i] m_ascend := cal_ascend T
  have B : ∀ (A : Around) (outer : List Env) (s : Shared) (H : Hp) (E : XK), Room 5 (A.deeper (envOfC "are_finds" (defScope st_are_finds) s.heap.objs.size f fd.code)) → PSs (cxOf CX0 P w K mg base ["thing", "kinds", "parties", "find"] "are_finds" (defScope st_are_finds) f fd.code A outer s H E) (defBody st_are_finds) (tS K E b_are_finds) := by
    intro A outer s H E hr
    have hu := hu64 hr
    have hu5 := hu65 hr
    exact s_cons (s_ifS ((s_tor (s_tnot (s_tru (s_isi tyOk_tuple PyProof.Rows.boot_tuple (by rfl) T.b_isinstance (by rfl) T.b_tuple (s_var 0)))) (s_tor1 (s_tcmp op_gt o_gt (s_callB b_len call_lenA (by rfl) T.b_len boot_len (s_acons (s_var 0) (s_anil))) (s_globI T.g_ROWS_MOST) rfl))).pt) (s_last (s_ret (s_bl))) (s_nil)) (s_last (s_frz 3 (s_ret (s_and (s_allX (own := [("find", 3)]) T.tp_are_finds hr (by rfl) T.b_all (by decide +kernel) T.tb_are_finds hc sc_are_finds.nd (pi_seq (s_var 0)) (srcC_ok) (blkB_ok (by kernel_rfl)) (c_name) (by decide) (fun _ _ _ _ _ _ _ _ _ => pg_name (i := 3) sc_are_finds.nd rfl (by first | exact Or.inl rfl | exact Or.inr rfl)) (fun _ _ _ _ _ _ _ _ _ hr => have hu := hu64 hr; have hu5 := hu65 hr; s_callC c_is_find hr passE (s_acons (s_var 3) (s_acons (s_var 1) (s_acons (s_var 2) (s_anil)))))) (s_one (s_callC c_ascend hr passE (s_acons (s_var 0) (s_anil))))))))
  have e : m_are_finds = fnD 4 [.i, .v, .v] b_are_finds := rfl
  rw [e]
  exact fn_bodyC F sc_are_finds rfl (by decide) B
theorem cal_are_finds (T : Txt w K mg base) : Cal CX0 P w K mg base 6 "are_finds" ["thing", "kinds", "parties"] [.i, .v, .v] m_are_finds :=
  cal_ofC T.f_are_finds (fun _ _ _ _ _ _ us hl => match us, hl with | [_, _, _], _ => rfl) fun f fd F hc => ok_are_finds T F hc
theorem sc_is_flag : FnScope ["thing"] ["thing"] (defScope st_is_flag) := ⟨rfl, rfl, rfl, by decide +kernel, rfl, by decide +kernel, by decide +kernel⟩
theorem ok_is_flag (T : Txt w K mg base) {f : Addr} {fd : FuncData} (F : FunD K "is_flag" "is_flag" (defArgs st_is_flag) (defBody st_is_flag) (defScope st_is_flag) [] [] f fd) : FnOk P w K mg base CX0 1 f fd ["thing"] (spF K [.i] m_is_flag) := by
  have B : ∀ (cdv : Value) (A : Around) (outer : List Env) (s : Shared) (H : Hp) (E : XK), Room 0 (A.deeper (envOfC "is_flag" (defScope st_is_flag) s.heap.objs.size f cdv)) → PSs (cxOf CX0 P w K mg base ["thing"] "is_flag" (defScope st_is_flag) f cdv A outer s H E) (defBody st_is_flag) (tS K E b_is_flag) := by
    intro cdv A outer s H E hr
    have hu := hu64 hr
    have hu5 := hu65 hr
    exact s_last (s_ret (s_isi tyOk_bool (by decide +kernel) (by rfl) T.b_isinstance (by rfl) T.b_bool (s_var 0)))
  have e : m_is_flag = fnD 1 [.i] b_is_flag := rfl
  rw [e]
  exact fn_body F sc_is_flag rfl (by decide) B
theorem cal_is_flag (T : Txt w K mg base) : Cal CX0 P w K mg base 1 "is_flag" ["thing"] [.i] m_is_flag :=
  cal_of T.f_is_flag (fun _ _ _ _ _ _ us hl => match us, hl with | [_], _ => rfl) fun f fd F => ok_is_flag T F
theorem sc_is_party : FnScope ["thing"] ["thing"] (defScope st_is_party) := ⟨rfl, rfl, rfl, by decide +kernel, rfl, by decide +kernel, by decide +kernel⟩
theorem ok_is_party (T : Txt w K mg base) {f : Addr} {fd : FuncData} (F : FunD K "is_party" "is_party" (defArgs st_is_party) (defBody st_is_party) (defScope st_is_party) [] [] f fd) : FnOk P w K mg base CX0 2 f fd ["thing"] (spF K [.i] m_is_party) := by
  have c_is_flag : Cal CX0 P w K mg base 1 "is_flag" ["thing"] [.i] m_is_flag := cal_is_flag T
  have B : ∀ (cdv : Value) (A : Around) (outer : List Env) (s : Shared) (H : Hp) (E : XK), Room 1 (A.deeper (envOfC "is_party" (defScope st_is_party) s.heap.objs.size f cdv)) → PSs (cxOf CX0 P w K mg base ["thing"] "is_party" (defScope st_is_party) f cdv A outer s H E) (defBody st_is_party) (tS K E b_is_party) := by
    intro cdv A outer s H E hr
    have hu := hu64 hr
    have hu5 := hu65 hr
    exact s_last (s_ret (s_and (s_isi tyOk_tuple PyProof.Rows.boot_tuple (by rfl) T.b_isinstance (by rfl) T.b_tuple (s_var 0)) (s_and (s_cmp (op_eq2 hu) o_eq (s_callB b_len call_lenA (by rfl) T.b_len boot_len (s_acons (s_var 0) (s_anil))) (s_int) rfl) (s_and (s_callC c_is_flag hr passE (s_acons (s_ix ix_seq o_ix (s_var 0) (s_int)) (s_anil))) (s_one (s_callC c_is_flag hr passE (s_acons (s_ix ix_seq o_ix (s_var 0) (s_int)) (s_anil))))))))
  have e : m_is_party = fnD 1 [.i] b_is_party := rfl
  rw [e]
  exact fn_body F sc_is_party rfl (by decide) B
theorem cal_is_party (T : Txt w K mg base) : Cal CX0 P w K mg base 2 "is_party" ["thing"] [.i] m_is_party :=
  cal_of T.f_is_party (fun _ _ _ _ _ _ us hl => match us, hl with | [_], _ => rfl) fun f fd F => ok_is_party T F
theorem sc_is_parties : FnScope ["thing", "party"] ["thing"] (defScope st_is_parties) := ⟨rfl, rfl, rfl, by decide +kernel, rfl, by decide +kernel, by decide +kernel⟩
theorem ok_is_parties (T : Txt w K mg base) {f : Addr} {fd : FuncData} (F : FunD K "is_parties" "is_parties" (defArgs st_is_parties) (defBody st_is_parties) (defScope st_is_parties) [] [] f fd) (hc : fd.code = .ref (He.cT K ("is_parties", none)).1) : FnOk P w K mg base CX0 6 f fd ["thing"] (spF K [.i] m_is_parties) := by
  have c_is_party : Cal CX0 P w K mg base 2 "is_party" ["thing"] [.i] m_is_party := cal_is_party T
  have B : ∀ (A : Around) (outer : List Env) (s : Shared) (H : Hp) (E : XK), Room 5 (A.deeper (envOfC "is_parties" (defScope st_is_parties) s.heap.objs.size f fd.code)) → PSs (cxOf CX0 P w K mg base ["thing", "party"] "is_parties" (defScope st_is_parties) f fd.code A outer s H E) (defBody st_is_parties) (tS K E b_is_parties) := by
    intro A outer s H E hr
    have hu := hu64 hr
    have hu5 := hu65 hr
    exact s_last (s_frz 1 (s_ret (s_and (s_isi tyOk_tuple PyProof.Rows.boot_tuple (by rfl) T.b_isinstance (by rfl) T.b_tuple (s_var 0)) (s_and (s_chI op_le op_le (s_int) (s_callB b_len call_lenA (by rfl) T.b_len boot_len (s_acons (s_var 0) (s_anil))) (s_globI T.g_PARTIES_MOST)) (s_one (s_allX (own := [("party", 1)]) T.tp_is_parties hr (by rfl) T.b_all (by decide +kernel) T.tb_is_parties hc sc_is_parties.nd (pi_seq (s_var 0)) (srcC_ok) (blkB_ok (by kernel_rfl)) (c_name) (by decide) (fun _ _ _ _ _ _ _ _ _ => pg_name (i := 1) sc_is_parties.nd rfl (by first | exact Or.inl rfl | exact Or.inr rfl)) (fun _ _ _ _ _ _ _ _ _ hr => have hu := hu64 hr; have hu5 := hu65 hr; s_callC c_is_party hr passE (s_acons (s_var 1) (s_anil)))))))))
  have e : m_is_parties = fnD 2 [.i] b_is_parties := rfl
  rw [e]
  exact fn_bodyC F sc_is_parties rfl (by decide) B
theorem cal_is_parties (T : Txt w K mg base) : Cal CX0 P w K mg base 6 "is_parties" ["thing"] [.i] m_is_parties :=
  cal_ofC T.f_is_parties (fun _ _ _ _ _ _ us hl => match us, hl with | [_], _ => rfl) fun f fd F hc => ok_is_parties T F hc
theorem sc_is_entry : FnScope ["thing", "kinds", "parties", "owner", "deeds"] ["thing", "kinds", "parties", "owner"] (defScope st_is_entry) := ⟨rfl, rfl, rfl, by decide +kernel, rfl, by decide +kernel, by decide +kernel⟩
theorem ok_is_entry (T : Txt w K mg base) {f : Addr} {fd : FuncData} (F : FunD K "is_entry" "is_entry" (defArgs st_is_entry) (defBody st_is_entry) (defScope st_is_entry) [] [] f fd) : FnOk P w K mg base CX0 2 f fd ["thing", "kinds", "parties", "owner"] (spF K [.i, .v, .v, .v] m_is_entry) := by
  have c_is_number : Cal CX0 P w K mg base 1 "is_number" ["thing", "least", "most"] [.i, .v, .v] m_is_number := cal_is_number T
  have c_is_flag : Cal CX0 P w K mg base 1 "is_flag" ["thing"] [.i] m_is_flag := cal_is_flag T
  have B : ∀ (cdv : Value) (A : Around) (outer : List Env) (s : Shared) (H : Hp) (E : XK), Room 1 (A.deeper (envOfC "is_entry" (defScope st_is_entry) s.heap.objs.size f cdv)) → PSs (cxOf CX0 P w K mg base ["thing", "kinds", "parties", "owner", "deeds"] "is_entry" (defScope st_is_entry) f cdv A outer s H E) (defBody st_is_entry) (tS K E b_is_entry) := by
    intro cdv A outer s H E hr
    have hu := hu64 hr
    have hu5 := hu65 hr
    exact s_cons (s_ifS ((s_tor (s_tnot (s_tru (s_isi tyOk_tuple PyProof.Rows.boot_tuple (by rfl) T.b_isinstance (by rfl) T.b_tuple (s_var 0)))) (s_tor1 (s_tcmp (op_nin3 hu5) o_nin (s_callB b_len call_lenA (by rfl) T.b_len boot_len (s_acons (s_var 0) (s_anil))) (s_tup (s_acons (s_int) (s_acons (s_int) (s_anil)))) rfl))).pt) (s_last (s_ret (s_bl))) (s_nil)) (s_cons (s_asg 4 sc_is_entry.nd (s_if (s_tcmp (op_eq2 hu) o_eq (s_callB b_len call_lenA (by rfl) T.b_len boot_len (s_acons (s_var 0) (s_anil))) (s_int) rfl) (s_globT T.t_PLAIN_DEEDS T.g_PLAIN_DEEDS) (s_globT T.t_COPY_DEEDS T.g_COPY_DEEDS))) (s_cons (s_ifS ((s_tor (s_tnot (s_tru (s_callC c_is_number hr passE (s_acons (s_ix ix_seq o_ix (s_var 0) (s_int)) (s_acons (s_int) (s_acons (s_globI T.g_NUMBER_MOST) (s_anil))))))) (s_tor (s_tnot (s_tru (s_isi tyOk_str (by decide +kernel) (by rfl) T.b_isinstance (by rfl) T.b_str (s_ix ix_seq o_ix (s_var 0) (s_int))))) (s_tor1 (s_tcmp (op_nin3 hu5) o_nin (s_ix ix_seq o_ix (s_var 0) (s_int)) (s_var 4) rfl)))).pt) (s_last (s_ret (s_bl))) (s_nil)) (s_cons (s_ifS ((s_tor (s_tnot (s_tru (s_callC c_is_number hr passE (s_acons (s_ix ix_seq o_ix (s_var 0) (s_int)) (s_acons (s_int) (s_acons (s_op op_sub o_sub (s_var 1) (s_int)) (s_anil))))))) (s_tor1 (s_tnot (s_tru (s_callC c_is_number hr passE (s_acons (s_ix ix_seq o_ix (s_var 0) (s_int)) (s_acons (s_int) (s_acons (s_globI T.g_AMOUNT_MOST) (s_anil))))))))).pt) (s_last (s_ret (s_bl))) (s_nil)) (s_cons (s_ifS (s_tcmp (op_eq2 hu) o_eq (s_callB b_len call_lenA (by rfl) T.b_len boot_len (s_acons (s_var 0) (s_anil))) (s_int) rfl) (s_last (s_ret (s_bl))) (s_nil)) (s_last (s_ret (s_and (s_callC c_is_number hr passE (s_acons (s_ix ix_seq o_ix (s_var 0) (s_int)) (s_acons (s_int) (s_acons (s_op op_sub o_sub (s_var 2) (s_int)) (s_anil))))) (s_and (s_cmp (op_ne2 hu) o_ne (s_ix ix_seq o_ix (s_var 0) (s_int)) (s_var 3) rfl) (s_one (s_callC c_is_flag hr passE (s_acons (s_ix ix_seq o_ix (s_var 0) (s_int)) (s_anil))))))))))))
  have e : m_is_entry = fnD 5 [.i, .v, .v, .v] b_is_entry := rfl
  rw [e]
  exact fn_body F sc_is_entry rfl (by decide) B
theorem cal_is_entry (T : Txt w K mg base) : Cal CX0 P w K mg base 2 "is_entry" ["thing", "kinds", "parties", "owner"] [.i, .v, .v, .v] m_is_entry :=
  cal_of T.f_is_entry (fun _ _ _ _ _ _ us hl => match us, hl with | [_, _, _, _], _ => rfl) fun f fd F => ok_is_entry T F
theorem sc_is_file : FnScope ["thing", "kinds", "parties", "owner", "entry"] ["thing", "kinds", "parties", "owner"] (defScope st_is_file) := ⟨rfl, rfl, rfl, by decide +kernel, rfl, by decide +kernel, by decide +kernel⟩
theorem ok_is_file (T : Txt w K mg base) {f : Addr} {fd : FuncData} (F : FunD K "is_file" "is_file" (defArgs st_is_file) (defBody st_is_file) (defScope st_is_file) [] [] f fd) (hc : fd.code = .ref (He.cT K ("is_file", none)).1) : FnOk P w K mg base CX0 6 f fd ["thing", "kinds", "parties", "owner"] (spF K [.i, .v, .v, .v] m_is_file) := by
  have c_is_entry : Cal CX0 P w K mg base 2 "is_entry" ["thing", "kinds", "parties", "owner"] [.i, .v, .v, .v] m_is_entry := cal_is_entry T
  have c_ascend : Cal CX0 P w K mg base 4 "ascend" ["rows"] [.i] m_ascend := cal_ascend T
  have B : ∀ (A : Around) (outer : List Env) (s : Shared) (H : Hp) (E : XK), Room 5 (A.deeper (envOfC "is_file" (defScope st_is_file) s.heap.objs.size f fd.code)) → PSs (cxOf CX0 P w K mg base ["thing", "kinds", "parties", "owner", "entry"] "is_file" (defScope st_is_file) f fd.code A outer s H E) (defBody st_is_file) (tS K E b_is_file) := by
    intro A outer s H E hr
    have hu := hu64 hr
    have hu5 := hu65 hr
    exact s_cons (s_ifS ((s_tor (s_tnot (s_tru (s_isi tyOk_tuple PyProof.Rows.boot_tuple (by rfl) T.b_isinstance (by rfl) T.b_tuple (s_var 0)))) (s_tor1 (s_tcmp op_gt o_gt (s_callB b_len call_lenA (by rfl) T.b_len boot_len (s_acons (s_var 0) (s_anil))) (s_globI T.g_ROWS_MOST) rfl))).pt) (s_last (s_ret (s_bl))) (s_nil)) (s_last (s_frz 4 (s_ret (s_and (s_allX (own := [("entry", 4)]) T.tp_is_file hr (by rfl) T.b_all (by decide +kernel) T.tb_is_file hc sc_is_file.nd (pi_seq (s_var 0)) (srcC_ok) (blkB_ok (by kernel_rfl)) (c_name) (by decide) (fun _ _ _ _ _ _ _ _ _ => pg_name (i := 4) sc_is_file.nd rfl (by first | exact Or.inl rfl | exact Or.inr rfl)) (fun _ _ _ _ _ _ _ _ _ hr => have hu := hu64 hr; have hu5 := hu65 hr; s_callC c_is_entry hr passE (s_acons (s_var 4) (s_acons (s_var 1) (s_acons (s_var 2) (s_acons (s_var 3) (s_anil))))))) (s_one (s_callC c_ascend hr passE (s_acons (s_var 0) (s_anil))))))))
  have e : m_is_file = fnD 5 [.i, .v, .v, .v] b_is_file := rfl
  rw [e]
  exact fn_bodyC F sc_is_file rfl (by decide) B
theorem cal_is_file (T : Txt w K mg base) : Cal CX0 P w K mg base 6 "is_file" ["thing", "kinds", "parties", "owner"] [.i, .v, .v, .v] m_is_file :=
  cal_ofC T.f_is_file (fun _ _ _ _ _ _ us hl => match us, hl with | [_, _, _, _], _ => rfl) fun f fd F hc => ok_is_file T F hc
theorem sc_is_evidence : FnScope ["thing", "kinds", "parties", "files", "finds", "taken", "owner", "file", "find"] ["thing"] (defScope st_is_evidence) := ⟨rfl, rfl, rfl, by decide +kernel, rfl, by decide +kernel, by decide +kernel⟩
theorem ok_is_evidence (T : Txt w K mg base) {f : Addr} {fd : FuncData} (F : FunD K "is_evidence" "is_evidence" (defArgs st_is_evidence) (defBody st_is_evidence) (defScope st_is_evidence) [] [] f fd) (hc : fd.code = .ref (He.cT K ("is_evidence", none)).1) : FnOk P w K mg base CX0 10 f fd ["thing"] (spF K [.i] m_is_evidence) := by
  have c_is_number : Cal CX0 P w K mg base 1 "is_number" ["thing", "least", "most"] [.i, .v, .v] m_is_number := cal_is_number T
  have c_is_parties : Cal CX0 P w K mg base 6 "is_parties" ["thing"] [.i] m_is_parties := cal_is_parties T
  have c_is_file : Cal CX0 P w K mg base 6 "is_file" ["thing", "kinds", "parties", "owner"] [.i, .v, .v, .v] m_is_file := cal_is_file T
  have c_are_finds : Cal CX0 P w K mg base 6 "are_finds" ["thing", "kinds", "parties"] [.i, .v, .v] m_are_finds := cal_are_finds T
  have c_entry_numbers : Cal CX0 P w K mg base 1 "entry_numbers" ["files"] [.i] m_entry_numbers := cal_entry_numbers T
  have B : ∀ (A : Around) (outer : List Env) (s : Shared) (H : Hp) (E : XK), Room 9 (A.deeper (envOfC "is_evidence" (defScope st_is_evidence) s.heap.objs.size f fd.code)) → PSs (cxOf CX0 P w K mg base ["thing", "kinds", "parties", "files", "finds", "taken", "owner", "file", "find"] "is_evidence" (defScope st_is_evidence) f fd.code A outer s H E) (defBody st_is_evidence) (tS K E b_is_evidence) := by
    intro A outer s H E hr
    have hu := hu64 hr
    have hu5 := hu65 hr
    exact s_cons (s_ifS ((s_tor (s_tnot (s_tru (s_isi tyOk_tuple PyProof.Rows.boot_tuple (by rfl) T.b_isinstance (by rfl) T.b_tuple (s_var 0)))) (s_tor (s_tcmp (op_ne2 hu) o_ne (s_callB b_len call_lenA (by rfl) T.b_len boot_len (s_acons (s_var 0) (s_anil))) (s_int) rfl) (s_tor1 (s_tnot (s_tru (s_callC c_is_number hr passE (s_acons (s_ix ix_seq o_ix (s_var 0) (s_int)) (s_acons (s_int) (s_acons (s_globI T.g_KINDS_MOST) (s_anil)))))))))).pt) (s_last (s_ret (s_bl))) (s_nil)) (s_cons (s_asgT (s_var 0) (pg_tup rfl (pgs_cons (pg_name (i := 1) sc_is_evidence.nd rfl (by first | exact Or.inl rfl | exact Or.inr rfl)) (pgs_cons (pg_name (i := 2) sc_is_evidence.nd rfl (by first | exact Or.inl rfl | exact Or.inr rfl)) (pgs_cons (pg_name (i := 3) sc_is_evidence.nd rfl (by first | exact Or.inl rfl | exact Or.inr rfl)) (pgs_cons (pg_name (i := 4) sc_is_evidence.nd rfl (by first | exact Or.inl rfl | exact Or.inr rfl)) (pgs_nil)))))) (g_tup (gs_cons (g_name) (gs_cons (g_name) (gs_cons (g_name) (gs_cons (g_name) (gs_nil))))))) (s_cons (s_ifS ((s_tor (s_tnot (s_tru (s_callC c_is_parties hr passE (s_acons (s_var 2) (s_anil))))) (s_tor (s_tnot (s_tru (s_isi tyOk_tuple PyProof.Rows.boot_tuple (by rfl) T.b_isinstance (by rfl) T.b_tuple (s_var 3)))) (s_tor1 (s_tcmp (op_ne2 hu) o_ne (s_callB b_len call_lenA (by rfl) T.b_len boot_len (s_acons (s_var 3) (s_anil))) (s_callB b_len call_lenA (by rfl) T.b_len boot_len (s_acons (s_var 2) (s_anil))) rfl)))).pt) (s_last (s_ret (s_bl))) (s_nil)) (s_cons (s_ifS (s_tnot (s_tru (s_allX (own := [("owner", 6), ("file", 7)]) T.tp_is_evidence hr (by rfl) T.b_all (by decide +kernel) T.tb_is_evidence hc sc_is_evidence.nd (pi_enumA (by rfl) T.b_enumerate (s_acons (s_var 3) (s_anil))) (srcEc_ok) (blkB_ok (by kernel_rfl)) (c_tup (cs_cons (c_name) (cs_cons (c_name) (cs_nil)))) (by decide) (fun _ _ _ _ _ _ _ _ _ => pg_tup rfl (pgs_cons (pg_name (i := 6) sc_is_evidence.nd rfl (by first | exact Or.inl rfl | exact Or.inr rfl)) (pgs_cons (pg_name (i := 7) sc_is_evidence.nd rfl (by first | exact Or.inl rfl | exact Or.inr rfl)) (pgs_nil)))) (fun _ _ _ _ _ _ _ _ _ hr => have hu := hu64 hr; have hu5 := hu65 hr; s_callC c_is_file hr passE (s_acons (s_var 7) (s_acons (s_var 1) (s_acons (s_callB b_len call_lenA (by rfl) T.b_len boot_len (s_acons (s_var 2) (s_anil))) (s_acons (s_var 6) (s_anil))))))))) (s_last (s_ret (s_bl))) (s_nil)) (s_cons (s_ifS (s_tnot (s_tru (s_callC c_are_finds hr passE (s_acons (s_var 4) (s_acons (s_var 1) (s_acons (s_callB b_len call_lenA (by rfl) T.b_len boot_len (s_acons (s_var 2) (s_anil))) (s_anil))))))) (s_last (s_ret (s_bl))) (s_nil)) (s_cons (s_asg 5 sc_is_evidence.nd (s_callC c_entry_numbers hr passE (s_acons (s_var 3) (s_anil)))) (s_last (s_ret (s_not (s_anyX (own := [("find", 8)]) T.tp_is_evidence hr (by rfl) T.b_any T.tb_is_evidence hc sc_is_evidence.nd (pi_seq (s_var 4)) (srcC_ok) (blkB_ok (by kernel_rfl)) (c_name) (by decide) (fun _ _ _ _ _ _ _ _ _ => pg_name (i := 8) sc_is_evidence.nd rfl (by first | exact Or.inl rfl | exact Or.inr rfl)) (fun _ _ _ _ _ _ _ _ _ hr => have hu := hu64 hr; have hu5 := hu65 hr; s_cmp (op_inK hu5) o_inK (s_ix ix_seq o_ix (s_var 8) (s_int)) (s_var 5) rfl))))))))))
  have e : m_is_evidence = fnD 9 [.i] b_is_evidence := rfl
  rw [e]
  exact fn_bodyC F sc_is_evidence rfl (by decide) B
theorem cal_is_evidence (T : Txt w K mg base) : Cal CX0 P w K mg base 10 "is_evidence" ["thing"] [.i] m_is_evidence :=
  cal_ofC T.f_is_evidence (fun _ _ _ _ _ _ us hl => match us, hl with | [_], _ => rfl) fun f fd F hc => ok_is_evidence T F hc
theorem sc__law_is_integer : FnScope ["_law_thing", "_law_least", "_law_most"] ["_law_thing", "_law_least", "_law_most"] (defScope st__law_is_integer) := ⟨rfl, rfl, rfl, by decide +kernel, rfl, by decide +kernel, by decide +kernel⟩
theorem ok__law_is_integer (T : Txt w K mg base) {f : Addr} {fd : FuncData} (F : FunD K "_law_is_integer" "_law_is_integer" (defArgs st__law_is_integer) (defBody st__law_is_integer) (defScope st__law_is_integer) [] [] f fd) : FnOk P w K mg base CX0 1 f fd ["_law_thing", "_law_least", "_law_most"] (spF K [.i, .v, .v] m__law_is_integer) := by
  have B : ∀ (cdv : Value) (A : Around) (outer : List Env) (s : Shared) (H : Hp) (E : XK), Room 0 (A.deeper (envOfC "_law_is_integer" (defScope st__law_is_integer) s.heap.objs.size f cdv)) → PSs (cxOf CX0 P w K mg base ["_law_thing", "_law_least", "_law_most"] "_law_is_integer" (defScope st__law_is_integer) f cdv A outer s H E) (defBody st__law_is_integer) (tS K E b__law_is_integer) := by
    intro cdv A outer s H E hr
    have hu := hu64 hr
    have hu5 := hu65 hr
    exact s_last (s_ret (s_and (s_isi tyOk_int PyProof.Rows.boot_int (by rfl) T.b_isinstance (by rfl) T.b_int (s_var 0)) (s_and (s_not (s_isi tyOk_bool (by decide +kernel) (by rfl) T.b_isinstance (by rfl) T.b_bool (s_var 0))) (s_one (s_chI op_le op_le (s_var 1) (s_var 0) (s_var 2))))))
  have e : m__law_is_integer = fnD 3 [.i, .v, .v] b__law_is_integer := rfl
  rw [e]
  exact fn_body F sc__law_is_integer rfl (by decide) B
theorem cal__law_is_integer (T : Txt w K mg base) : Cal CX0 P w K mg base 1 "_law_is_integer" ["_law_thing", "_law_least", "_law_most"] [.i, .v, .v] m__law_is_integer :=
  cal_of T.f__law_is_integer (fun _ _ _ _ _ _ us hl => match us, hl with | [_, _, _], _ => rfl) fun f fd F => ok__law_is_integer T F
theorem sc__law_ascends : FnScope ["_law_rows", "_law_k"] ["_law_rows"] (defScope st__law_ascends) := ⟨rfl, rfl, rfl, by decide +kernel, rfl, by decide +kernel, by decide +kernel⟩
theorem ok__law_ascends (T : Txt w K mg base) {f : Addr} {fd : FuncData} (F : FunD K "_law_ascends" "_law_ascends" (defArgs st__law_ascends) (defBody st__law_ascends) (defScope st__law_ascends) [] [] f fd) : FnOk P w K mg base CX0 1 f fd ["_law_rows"] (spF K [.i] m__law_ascends) := by
  have B : ∀ (cdv : Value) (A : Around) (outer : List Env) (s : Shared) (H : Hp) (E : XK), Room 0 (A.deeper (envOfC "_law_ascends" (defScope st__law_ascends) s.heap.objs.size f cdv)) → PSs (cxOf CX0 P w K mg base ["_law_rows", "_law_k"] "_law_ascends" (defScope st__law_ascends) f cdv A outer s H E) (defBody st__law_ascends) (tS K E b__law_ascends) := by
    intro cdv A outer s H E hr
    have hu := hu64 hr
    have hu5 := hu65 hr
    exact s_last (s_ret (s_cmp (op_eq2 hu) o_eq (s_callB b_len call_lenA (by rfl) T.b_len boot_len (s_acons (s_comp (own := [("_law_k", 1)]) rfl sc__law_ascends.nd (pi_range2 (by rfl) T.b_range (s_acons (s_int) (s_acons (s_callB b_len call_lenA (by rfl) T.b_len boot_len (s_acons (s_var 0) (s_anil))) (s_anil)))) (srcR2_ok.c) (blkB_ok (by kernel_rfl)) (c_name) (by decide) (fun _ _ _ _ _ => pg_name (i := 1) sc__law_ascends.nd rfl (by first | exact Or.inl rfl | exact Or.inr rfl)) (fun _ _ _ _ _ => s_ifs1 (s_tcmp op_ge o_ge (s_ix ix_seq o_ix (s_ix ix_seq o_ix (s_var 0) (s_op op_sub o_sub (s_var 1) (s_int))) (s_int)) (s_ix ix_seq o_ix (s_ix ix_seq o_ix (s_var 0) (s_var 1)) (s_int)) rfl)) (fun _ _ _ _ _ => s_var 1)) (s_anil))) (s_int) rfl))
  have e : m__law_ascends = fnD 2 [.i] b__law_ascends := rfl
  rw [e]
  exact fn_body F sc__law_ascends rfl (by decide) B
theorem cal__law_ascends (T : Txt w K mg base) : Cal CX0 P w K mg base 1 "_law_ascends" ["_law_rows"] [.i] m__law_ascends :=
  cal_of T.f__law_ascends (fun _ _ _ _ _ _ us hl => match us, hl with | [_], _ => rfl) fun f fd F => ok__law_ascends T F
theorem sc__law_is_row : FnScope ["_law_row", "_law_kinds", "_law_many", "_law_owner", "_law_deeds"] ["_law_row", "_law_kinds", "_law_many", "_law_owner"] (defScope st__law_is_row) := ⟨rfl, rfl, rfl, by decide +kernel, rfl, by decide +kernel, by decide +kernel⟩
theorem ok__law_is_row (T : Txt w K mg base) {f : Addr} {fd : FuncData} (F : FunD K "_law_is_row" "_law_is_row" (defArgs st__law_is_row) (defBody st__law_is_row) (defScope st__law_is_row) [] [] f fd) : FnOk P w K mg base CX0 2 f fd ["_law_row", "_law_kinds", "_law_many", "_law_owner"] (spF K [.i, .v, .v, .v] m__law_is_row) := by
  have c__law_is_integer : Cal CX0 P w K mg base 1 "_law_is_integer" ["_law_thing", "_law_least", "_law_most"] [.i, .v, .v] m__law_is_integer := cal__law_is_integer T
  have B : ∀ (cdv : Value) (A : Around) (outer : List Env) (s : Shared) (H : Hp) (E : XK), Room 1 (A.deeper (envOfC "_law_is_row" (defScope st__law_is_row) s.heap.objs.size f cdv)) → PSs (cxOf CX0 P w K mg base ["_law_row", "_law_kinds", "_law_many", "_law_owner", "_law_deeds"] "_law_is_row" (defScope st__law_is_row) f cdv A outer s H E) (defBody st__law_is_row) (tS K E b__law_is_row) := by
    intro cdv A outer s H E hr
    have hu := hu64 hr
    have hu5 := hu65 hr
    exact s_cons (s_ifS ((s_tor (s_tnot (s_tru (s_isi tyOk_tuple PyProof.Rows.boot_tuple (by rfl) T.b_isinstance (by rfl) T.b_tuple (s_var 0)))) (s_tor1 (s_tcmp (op_nin3 hu5) o_nin (s_callB b_len call_lenA (by rfl) T.b_len boot_len (s_acons (s_var 0) (s_anil))) (s_tup (s_acons (s_int) (s_acons (s_int) (s_anil)))) rfl))).pt) (s_last (s_ret (s_bl))) (s_nil)) (s_cons (s_asg 4 sc__law_is_row.nd (s_ix ix_seq o_ix (s_fz (s_lst (s_acons (s_lst (s_acons (s_str) (s_acons (s_str) (s_anil)))) (s_acons (s_lst (s_acons (s_str) (s_acons (s_str) (s_anil)))) (s_anil))))) (s_callTy b_int call_int1 (by rfl) T.b_int PyProof.Rows.boot_int (s_acons (s_cmp (op_eq2 hu) o_eq (s_callB b_len call_lenA (by rfl) T.b_len boot_len (s_acons (s_var 0) (s_anil))) (s_int) rfl) (s_anil))))) (s_cons (s_ifS ((s_tor (s_tnot (s_tru (s_callC c__law_is_integer hr passE (s_acons (s_ix ix_seq o_ix (s_var 0) (s_int)) (s_acons (s_int) (s_acons (s_op op_pow o_pow (s_int) (s_int)) (s_anil))))))) (s_tor1 (s_tcmp (op_nin3 hu5) o_nin (s_ix ix_seq o_ix (s_var 0) (s_int)) (s_var 4) rfl))).pt) (s_last (s_ret (s_bl))) (s_nil)) (s_cons (s_ifS ((s_tor (s_tnot (s_tru (s_callC c__law_is_integer hr passE (s_acons (s_ix ix_seq o_ix (s_var 0) (s_int)) (s_acons (s_int) (s_acons (s_op op_sub o_sub (s_var 1) (s_int)) (s_anil))))))) (s_tor1 (s_tnot (s_tru (s_callC c__law_is_integer hr passE (s_acons (s_ix ix_seq o_ix (s_var 0) (s_int)) (s_acons (s_int) (s_acons (s_op op_pow o_pow (s_int) (s_int)) (s_anil))))))))).pt) (s_last (s_ret (s_bl))) (s_nil)) (s_last (s_ret (s_or (s_cmp (op_eq2 hu) o_eq (s_callB b_len call_lenA (by rfl) T.b_len boot_len (s_acons (s_var 0) (s_anil))) (s_int) rfl) (s_one (s_and (s_callC c__law_is_integer hr passE (s_acons (s_ix ix_seq o_ix (s_var 0) (s_int)) (s_acons (s_int) (s_acons (s_op op_sub o_sub (s_var 2) (s_int)) (s_anil))))) (s_and (s_cmp (op_ne2 hu) o_ne (s_ix ix_seq o_ix (s_var 0) (s_int)) (s_var 3) rfl) (s_one (s_isi tyOk_bool (by decide +kernel) (by rfl) T.b_isinstance (by rfl) T.b_bool (s_ix ix_seq o_ix (s_var 0) (s_int)))))))))))))
  have e : m__law_is_row = fnD 5 [.i, .v, .v, .v] b__law_is_row := rfl
  rw [e]
  exact fn_body F sc__law_is_row rfl (by decide) B
theorem cal__law_is_row (T : Txt w K mg base) : Cal CX0 P w K mg base 2 "_law_is_row" ["_law_row", "_law_kinds", "_law_many", "_law_owner"] [.i, .v, .v, .v] m__law_is_row :=
  cal_of T.f__law_is_row (fun _ _ _ _ _ _ us hl => match us, hl with | [_, _, _, _], _ => rfl) fun f fd F => ok__law_is_row T F
theorem sc__law_is_find : FnScope ["_law_row", "_law_kinds", "_law_many"] ["_law_row", "_law_kinds", "_law_many"] (defScope st__law_is_find) := ⟨rfl, rfl, rfl, by decide +kernel, rfl, by decide +kernel, by decide +kernel⟩
theorem ok__law_is_find (T : Txt w K mg base) {f : Addr} {fd : FuncData} (F : FunD K "_law_is_find" "_law_is_find" (defArgs st__law_is_find) (defBody st__law_is_find) (defScope st__law_is_find) [] [] f fd) : FnOk P w K mg base CX0 2 f fd ["_law_row", "_law_kinds", "_law_many"] (spF K [.i, .v, .v] m__law_is_find) := by
  have c__law_is_integer : Cal CX0 P w K mg base 1 "_law_is_integer" ["_law_thing", "_law_least", "_law_most"] [.i, .v, .v] m__law_is_integer := cal__law_is_integer T
  have B : ∀ (cdv : Value) (A : Around) (outer : List Env) (s : Shared) (H : Hp) (E : XK), Room 1 (A.deeper (envOfC "_law_is_find" (defScope st__law_is_find) s.heap.objs.size f cdv)) → PSs (cxOf CX0 P w K mg base ["_law_row", "_law_kinds", "_law_many"] "_law_is_find" (defScope st__law_is_find) f cdv A outer s H E) (defBody st__law_is_find) (tS K E b__law_is_find) := by
    intro cdv A outer s H E hr
    have hu := hu64 hr
    have hu5 := hu65 hr
    exact s_cons (s_ifS ((s_tor (s_tnot (s_tru (s_isi tyOk_tuple PyProof.Rows.boot_tuple (by rfl) T.b_isinstance (by rfl) T.b_tuple (s_var 0)))) (s_tor (s_tcmp (op_ne2 hu) o_ne (s_callB b_len call_lenA (by rfl) T.b_len boot_len (s_acons (s_var 0) (s_anil))) (s_int) rfl) (s_tor1 (s_tnot (s_tru (s_callC c__law_is_integer hr passE (s_acons (s_ix ix_seq o_ix (s_var 0) (s_int)) (s_acons (s_int) (s_acons (s_op op_pow o_pow (s_int) (s_int)) (s_anil)))))))))).pt) (s_last (s_ret (s_bl))) (s_nil)) (s_cons (s_ifS ((s_tor (s_tnot (s_tru (s_callC c__law_is_integer hr passE (s_acons (s_ix ix_seq o_ix (s_var 0) (s_int)) (s_acons (s_int) (s_acons (s_op op_sub o_sub (s_var 2) (s_int)) (s_anil))))))) (s_tor1 (s_tnot (s_tru (s_callC c__law_is_integer hr passE (s_acons (s_ix ix_seq o_ix (s_var 0) (s_int)) (s_acons (s_int) (s_acons (s_op op_sub o_sub (s_var 1) (s_int)) (s_anil))))))))).pt) (s_last (s_ret (s_bl))) (s_nil)) (s_last (s_ret (s_callC c__law_is_integer hr passE (s_acons (s_ix ix_seq o_ix (s_var 0) (s_int)) (s_acons (s_int) (s_acons (s_op op_pow o_pow (s_int) (s_int)) (s_anil))))))))
  have e : m__law_is_find = fnD 3 [.i, .v, .v] b__law_is_find := rfl
  rw [e]
  exact fn_body F sc__law_is_find rfl (by decide) B
theorem cal__law_is_find (T : Txt w K mg base) : Cal CX0 P w K mg base 2 "_law_is_find" ["_law_row", "_law_kinds", "_law_many"] [.i, .v, .v] m__law_is_find :=
  cal_of T.f__law_is_find (fun _ _ _ _ _ _ us hl => match us, hl with | [_, _, _], _ => rfl) fun f fd F => ok__law_is_find T F
theorem sc__law_is_evidence : FnScope ["_law_thing", "_law_kinds", "_law_parties_here", "_law_files", "_law_finds", "_law_party", "_law_numbers", "_law_owner", "_law_file", "_law_flag", "_law_row"] ["_law_thing"] (defScope st__law_is_evidence) := ⟨rfl, rfl, rfl, by decide +kernel, rfl, by decide +kernel, by decide +kernel⟩
theorem ok__law_is_evidence (T : Txt w K mg base) {f : Addr} {fd : FuncData} (F : FunD K "_law_is_evidence" "_law_is_evidence" (defArgs st__law_is_evidence) (defBody st__law_is_evidence) (defScope st__law_is_evidence) [] [] f fd) : FnOk P w K mg base CX0 3 f fd ["_law_thing"] (spF K [.i] m__law_is_evidence) := by
  have c__law_is_integer : Cal CX0 P w K mg base 1 "_law_is_integer" ["_law_thing", "_law_least", "_law_most"] [.i, .v, .v] m__law_is_integer := cal__law_is_integer T
  have c__law_is_row : Cal CX0 P w K mg base 2 "_law_is_row" ["_law_row", "_law_kinds", "_law_many", "_law_owner"] [.i, .v, .v, .v] m__law_is_row := cal__law_is_row T
  have c__law_ascends : Cal CX0 P w K mg base 1 "_law_ascends" ["_law_rows"] [.i] m__law_ascends := cal__law_ascends T
  have c__law_is_find : Cal CX0 P w K mg base 2 "_law_is_find" ["_law_row", "_law_kinds", "_law_many"] [.i, .v, .v] m__law_is_find := cal__law_is_find T
  have B : ∀ (cdv : Value) (A : Around) (outer : List Env) (s : Shared) (H : Hp) (E : XK), Room 2 (A.deeper (envOfC "_law_is_evidence" (defScope st__law_is_evidence) s.heap.objs.size f cdv)) → PSs (cxOf CX0 P w K mg base ["_law_thing", "_law_kinds", "_law_parties_here", "_law_files", "_law_finds", "_law_party", "_law_numbers", "_law_owner", "_law_file", "_law_flag", "_law_row"] "_law_is_evidence" (defScope st__law_is_evidence) f cdv A outer s H E) (defBody st__law_is_evidence) (tS K E b__law_is_evidence) := by
    intro cdv A outer s H E hr
    have hu := hu64 hr
    have hu5 := hu65 hr
    exact s_cons (s_ifS ((s_tor (s_tnot (s_tru (s_isi tyOk_tuple PyProof.Rows.boot_tuple (by rfl) T.b_isinstance (by rfl) T.b_tuple (s_var 0)))) (s_tor (s_tcmp (op_ne2 hu) o_ne (s_callB b_len call_lenA (by rfl) T.b_len boot_len (s_acons (s_var 0) (s_anil))) (s_int) rfl) (s_tor1 (s_tnot (s_tru (s_callC c__law_is_integer hr passE (s_acons (s_ix ix_seq o_ix (s_var 0) (s_int)) (s_acons (s_int) (s_acons (s_int) (s_anil)))))))))).pt) (s_last (s_ret (s_bl))) (s_nil)) (s_cons (s_asgT (s_var 0) (pg_tup rfl (pgs_cons (pg_name (i := 1) sc__law_is_evidence.nd rfl (by first | exact Or.inl rfl | exact Or.inr rfl)) (pgs_cons (pg_name (i := 2) sc__law_is_evidence.nd rfl (by first | exact Or.inl rfl | exact Or.inr rfl)) (pgs_cons (pg_name (i := 3) sc__law_is_evidence.nd rfl (by first | exact Or.inl rfl | exact Or.inr rfl)) (pgs_cons (pg_name (i := 4) sc__law_is_evidence.nd rfl (by first | exact Or.inl rfl | exact Or.inr rfl)) (pgs_nil)))))) (g_tup (gs_cons (g_name) (gs_cons (g_name) (gs_cons (g_name) (gs_cons (g_name) (gs_nil))))))) (s_cons (s_ifS ((s_tor (s_tnot (s_tru (s_isi tyOk_tuple PyProof.Rows.boot_tuple (by rfl) T.b_isinstance (by rfl) T.b_tuple (s_var 2)))) (s_tor (s_tnot (s_tru (s_isi tyOk_tuple PyProof.Rows.boot_tuple (by rfl) T.b_isinstance (by rfl) T.b_tuple (s_var 3)))) (s_tor1 (s_tnot (s_tru (s_isi tyOk_tuple PyProof.Rows.boot_tuple (by rfl) T.b_isinstance (by rfl) T.b_tuple (s_var 4))))))).pt) (s_last (s_ret (s_bl))) (s_nil)) (s_cons (s_ifS (s_tnot (s_tchI op_le op_le (s_int) (s_callB b_len call_lenA (by rfl) T.b_len boot_len (s_acons (s_var 2) (s_anil))) (s_int))) (s_last (s_ret (s_bl))) (s_nil)) (s_cons (s_end [false, true, true, true, true, false, false, false, false, false, false] [false, false, false, false, false, false, false, false, false, false, false] (s_pre [false, true, true, true, true, false, false, false, false, false, false] (s_frz 2 (s_for (passes_of rfl) rfl (pi_seq (s_var 2)) (srcS_ok) (pg_name (i := 5) sc__law_is_evidence.nd rfl (by first | exact Or.inl rfl | exact Or.inr rfl)) (g_name) (s_ends [false, true, true, true, true, false, false, false, false, false, false] [false, false, false, false, false, false, false, false, false, false, false] (s_last (s_ifS ((s_tor (s_tnot (s_tru (s_isi tyOk_tuple PyProof.Rows.boot_tuple (by rfl) T.b_isinstance (by rfl) T.b_tuple (s_var 5)))) (s_tor1 (s_tcmp (op_ne2 hu) o_ne (s_comp (own := [("_law_flag", 9)]) rfl sc__law_is_evidence.nd (pi_seq (s_var 5)) (srcC_ok) (blkB_ok (by kernel_rfl)) (c_name) (by decide) (fun _ _ _ _ _ => pg_name (i := 9) sc__law_is_evidence.nd rfl (by first | exact Or.inl rfl | exact Or.inr rfl)) (fun _ _ _ _ _ => s_ifs0) (fun _ _ _ _ _ => s_isi tyOk_bool (by decide +kernel) (by rfl) T.b_isinstance (by rfl) T.b_bool (s_var 9))) (s_lst (s_acons (s_bl) (s_acons (s_bl) (s_anil)))) rfl))).pt) (s_last (s_ret (s_bl))) (s_nil)))))))) (s_cons (s_ifS ((s_tor (s_tcmp (op_ne2 hu) o_ne (s_callB b_len call_lenA (by rfl) T.b_len boot_len (s_acons (s_var 3) (s_anil))) (s_callB b_len call_lenA (by rfl) T.b_len boot_len (s_acons (s_var 2) (s_anil))) rfl) (s_tor1 (s_tcmp op_gt o_gt (s_callB b_len call_lenA (by rfl) T.b_len boot_len (s_acons (s_var 4) (s_anil))) (s_int) rfl))).pt) (s_last (s_ret (s_bl))) (s_nil)) (s_cons (s_asg 6 sc__law_is_evidence.nd (s_lst (s_anil))) (s_cons (s_end [false, true, false, true, true, false, true, false, false, false, false] [false, false, false, false, false, false, false, false, false, false, false] (s_pre [false, true, false, true, true, false, true, false, false, false, false] (s_for (passes_of rfl) rfl (pi_range1 (by rfl) T.b_range (s_acons (s_callB b_len call_lenA (by rfl) T.b_len boot_len (s_acons (s_var 3) (s_anil))) (s_anil))) (srcR1_ok) (pg_name (i := 7) sc__law_is_evidence.nd rfl (by first | exact Or.inl rfl | exact Or.inr rfl)) (g_name) (s_ends [false, true, false, true, true, false, true, false, false, false, false] [false, false, false, false, false, false, false, false, false, false, false] (s_cons (s_asg 8 sc__law_is_evidence.nd (s_ix ix_seq o_ix (s_var 3) (s_var 7))) (s_cons (s_ifS ((s_tor (s_tnot (s_tru (s_isi tyOk_tuple PyProof.Rows.boot_tuple (by rfl) T.b_isinstance (by rfl) T.b_tuple (s_var 8)))) (s_tor1 (s_tcmp op_gt o_gt (s_callB b_len call_lenA (by rfl) T.b_len boot_len (s_acons (s_var 8) (s_anil))) (s_int) rfl))).pt) (s_last (s_ret (s_bl))) (s_nil)) (s_cons (s_ifS (s_tcmp op_gt o_gt (s_callB b_len call_lenA (by rfl) T.b_len boot_len (s_acons (s_comp (own := [("_law_row", 10)]) rfl sc__law_is_evidence.nd (pi_seq (s_var 8)) (srcC_ok) (blkB_ok (by kernel_rfl)) (c_name) (by decide) (fun _ _ _ _ _ => pg_name (i := 10) sc__law_is_evidence.nd rfl (by first | exact Or.inl rfl | exact Or.inr rfl)) (fun _ _ _ _ _ => s_ifs1 (s_tnot (s_tru (s_callC c__law_is_row hr passE (s_acons (s_var 10) (s_acons (s_var 1) (s_acons (s_callB b_len call_lenA (by rfl) T.b_len boot_len (s_acons (s_var 3) (s_anil))) (s_acons (s_var 7) (s_anil))))))))) (fun _ _ _ _ _ => s_var 10)) (s_anil))) (s_int) rfl) (s_last (s_ret (s_bl))) (s_nil)) (s_cons (s_ifS (s_tnot (s_tru (s_callC c__law_ascends hr passE (s_acons (s_var 8) (s_anil))))) (s_last (s_ret (s_bl))) (s_nil)) (s_last (s_asg 6 sc__law_is_evidence.nd (s_op op_add4 o_add (s_var 6) (s_comp (own := [("_law_row", 10)]) rfl sc__law_is_evidence.nd (pi_seq (s_var 8)) (srcC_ok) (blkB_ok (by kernel_rfl)) (c_name) (by decide) (fun _ _ _ _ _ => pg_name (i := 10) sc__law_is_evidence.nd rfl (by first | exact Or.inl rfl | exact Or.inr rfl)) (fun _ _ _ _ _ => s_ifs0) (fun _ _ _ _ _ => s_ix ix_seq o_ix (s_var 10) (s_int)))))))))))))) (s_cons (s_ifS ((s_tor (s_tcmp op_gt o_gt (s_callB b_len call_lenA (by rfl) T.b_len boot_len (s_acons (s_comp (own := [("_law_row", 10)]) rfl sc__law_is_evidence.nd (pi_seq (s_var 4)) (srcC_ok) (blkB_ok (by kernel_rfl)) (c_name) (by decide) (fun _ _ _ _ _ => pg_name (i := 10) sc__law_is_evidence.nd rfl (by first | exact Or.inl rfl | exact Or.inr rfl)) (fun _ _ _ _ _ => s_ifs1 (s_tnot (s_tru (s_callC c__law_is_find hr passE (s_acons (s_var 10) (s_acons (s_var 1) (s_acons (s_callB b_len call_lenA (by rfl) T.b_len boot_len (s_acons (s_var 3) (s_anil))) (s_anil)))))))) (fun _ _ _ _ _ => s_var 10)) (s_anil))) (s_int) rfl) (s_tor1 (s_tnot (s_tru (s_callC c__law_ascends hr passE (s_acons (s_var 4) (s_anil))))))).pt) (s_last (s_ret (s_bl))) (s_nil)) (s_last (s_ret (s_cmp (op_eq2 hu) o_eq (s_callB b_len call_lenA (by rfl) T.b_len boot_len (s_acons (s_comp (own := [("_law_row", 10)]) rfl sc__law_is_evidence.nd (pi_seq (s_var 4)) (srcC_ok) (blkB_ok (by kernel_rfl)) (c_name) (by decide) (fun _ _ _ _ _ => pg_name (i := 10) sc__law_is_evidence.nd rfl (by first | exact Or.inl rfl | exact Or.inr rfl)) (fun _ _ _ _ _ => s_ifs1 (s_tcmp (op_in3 hu5) o_in (s_ix ix_seq o_ix (s_var 10) (s_int)) (s_var 6) rfl)) (fun _ _ _ _ _ => s_var 10)) (s_anil))) (s_int) rfl)))))))))))
  have e : m__law_is_evidence = fnD 11 [.i] b__law_is_evidence := rfl
  rw [e]
  exact fn_body F sc__law_is_evidence rfl (by decide) B
theorem cal__law_is_evidence (T : Txt w K mg base) : Cal CX0 P w K mg base 3 "_law_is_evidence" ["_law_thing"] [.i] m__law_is_evidence :=
  cal_of T.f__law_is_evidence (fun _ _ _ _ _ _ us hl => match us, hl with | [_], _ => rfl) fun f fd F => ok__law_is_evidence T F
theorem sc_law : FnScope ["_law_script", "_law_evidence_here", "_law_thing", "_law_k", "_law_other", "_law_told"] ["_law_script"] (defScope st_law) := ⟨rfl, rfl, rfl, by decide +kernel, rfl, by decide +kernel, by decide +kernel⟩
theorem ok_law (T : Txt w K mg base) {f : Addr} {fd : FuncData} (F : FunD K "law" "law" (defArgs st_law) (defBody st_law) (defScope st_law) [] [] f fd) : FnOk P w K mg base CX0 11 f fd ["_law_script"] (spF K [.v] m_law) := by
  have c__law_evidence : Cal CX0 P w K mg base 1 "_law_evidence" ["_law_world_here"] [.v] m__law_evidence := cal__law_evidence T
  have c__law_world : Cal CX0 P w K mg base 4 "_law_world" ["_law_script", "_law_start", "_law_many", "_law_most", "_law_lying"] [.v, .v, .v, .v, .v] m__law_world := cal__law_world T
  have c__law_cell : Cal CX0 P w K mg base 1 "_law_cell" ["_law_script", "_law_k"] [.v, .v] m__law_cell := cal__law_cell T
  have c_is_evidence : Cal CX0 P w K mg base 10 "is_evidence" ["thing"] [.i] m_is_evidence := cal_is_evidence T
  have c__law_is_evidence : Cal CX0 P w K mg base 3 "_law_is_evidence" ["_law_thing"] [.i] m__law_is_evidence := cal__law_is_evidence T
  have c__law_changed : Cal CX0 P w K mg base 2 "_law_changed" ["_law_cell_here", "_law_evidence_here"] [.v, .v] m__law_changed := cal__law_changed T
  have B : ∀ (cdv : Value) (A : Around) (outer : List Env) (s : Shared) (H : Hp) (E : XK), Room 10 (A.deeper (envOfC "law" (defScope st_law) s.heap.objs.size f cdv)) → PSs (cxOf CX0 P w K mg base ["_law_script", "_law_evidence_here", "_law_thing", "_law_k", "_law_other", "_law_told"] "law" (defScope st_law) f cdv A outer s H E) (defBody st_law) (tS K E b_law) := by
    intro cdv A outer s H E hr
    have hu := hu64 hr
    have hu5 := hu65 hr
    exact s_cons (s_asg 1 sc_law.nd (s_callC c__law_evidence hr passE (s_acons (s_callC c__law_world hr passE (s_acons (s_var 0) (s_acons (s_int) (s_acons (s_op op_mod o_mod (s_callC c__law_cell hr passE (s_acons (s_var 0) (s_acons (s_int) (s_anil)))) (s_int)) (s_acons (s_int) (s_acons (s_int) (s_anil))))))) (s_anil)))) (s_cons (s_ifS ((s_tor (s_tcmp op_isn2 o_isn2 (s_callC c_is_evidence hr passE (s_acons (s_var 1) (s_anil))) (s_bl) rfl) (s_tor1 (s_tnot (s_tru (s_callC c__law_is_evidence hr passE (s_acons (s_var 1) (s_anil))))))).pt) (s_last (s_ret (s_bl))) (s_nil)) (s_cons (s_end [true, true, false, false, false, false] [false, false, false, false, false, false] (s_pre [true, true, false, false, false, false] (s_for (passes_of rfl) rfl (pi_seq (s_fz (s_lst (s_acons (s_int) (s_acons (s_non) (s_acons (s_str) (s_acons (s_tup (s_anil)) (s_acons (s_tup (s_acons (s_int) (s_acons (s_int) (s_acons (s_int) (s_anil))))) (s_acons (s_sl01 (s_var 1) (s_int)) (s_acons (s_op op_add4 o_add (s_var 1) (s_tup (s_acons (s_int) (s_anil)))) (s_acons (s_callTy b_list call_list_of (by rfl) T.b_list PyProof.Rows.boot_list (s_acons (s_var 1) (s_anil))) (s_anil)))))))))))) (srcS_ok) (pg_name (i := 2) sc_law.nd rfl (by first | exact Or.inl rfl | exact Or.inr rfl)) (g_name) (s_ends [true, true, false, false, false, false] [false, false, false, false, false, false] (s_last (s_ifS (s_tcmp op_isn2 o_isn2 (s_callC c_is_evidence hr passE (s_acons (s_var 2) (s_anil))) (s_bl) rfl) (s_last (s_ret (s_bl))) (s_nil))))))) (s_cons (s_end [false, false, false, false, false, false] [false, false, false, false, false, false] (s_pre [true, true, false, false, false, false] (s_for (passes_of rfl) rfl (pi_range1 (by rfl) T.b_range (s_acons (s_int) (s_anil))) (srcR1_ok) (pg_name (i := 3) sc_law.nd rfl (by first | exact Or.inl rfl | exact Or.inr rfl)) (g_name) (s_ends [true, true, false, false, false, false] [false, false, false, false, false, false] (s_cons (s_asg 4 sc_law.nd (s_callC c__law_changed hr passE (s_acons (s_callC c__law_cell hr passE (s_acons (s_var 0) (s_acons (s_op op_add4 o_add (s_int) (s_var 3)) (s_anil)))) (s_acons (s_var 1) (s_anil))))) (s_cons (s_asg 5 sc_law.nd (s_callC c_is_evidence hr passE (s_acons (s_var 4) (s_anil)))) (s_last (s_ifS ((s_tor (s_tnot (s_tru (s_isi tyOk_bool (by decide +kernel) (by rfl) T.b_isinstance (by rfl) T.b_bool (s_var 5)))) (s_tor1 (s_tcmp (op_ne2 hu) o_ne (s_var 5) (s_callC c__law_is_evidence hr passE (s_acons (s_var 4) (s_anil))) rfl))).pt) (s_last (s_ret (s_bl))) (s_nil))))))))) (s_last (s_ret (s_bl))))))
  have e : m_law = fnD 6 [.v] b_law := rfl
  rw [e]
  exact fn_body F sc_law rfl (by decide) B
end
end Law

namespace Law
open PySem Oz L2
variable [Oz.WD]
/-! ### the script's cells and draws -/
def dr (ds : List Int) (i : Nat) : Int := ds.getD i 0
theorem dr_at {ds : List Int} {i : Nat} (h : i < ds.length) : atI ds (i : Int) = some (dr ds i) := by
  rw [atI_ofNat]; simp [h, dr]
theorem dr_get {ds : List Int} {i : Nat} (h : i < ds.length) : ds[i]? = some (dr ds i) := by simp [h, dr]
theorem dr_nn {ds : List Int} (h : ∀ d ∈ ds, 0 ≤ d) (i : Nat) : 0 ≤ dr ds i := by
  unfold dr
  rw [List.getD_eq_getElem?_getD]
  cases e : ds[i]? with
  | none => simp
  | some d => exact h d (List.mem_of_getElem? e)
theorem e_cell (ns : List Int) (i : Nat) : m__law_cell [scrD (ns.map .int), .int i] = .ok ⟨.imm, .int (dr ns i)⟩ [] := by
  by_cases h : i < ns.length
  · simp [m__law_cell, b__law_cell, h, atI_ofNat, dr]
  · simp [m__law_cell, b__law_cell, h, atI_ofNat, dr]
theorem e_draws (c : Int) (k : Nat) (hk : k < 100) : ∃ ds : List Int, m__law_draws [.int c, .int k] = .ok ⟨.own, .list (ds.map .int)⟩ [] ∧ ds.length = k ∧ (∀ d ∈ ds, 0 ≤ d) ∧ ∀ d ∈ ds, d < 1000003 := by
  obtain ⟨⟨c', ds⟩, e, hl, hp⟩ := loop_st (g := gN 4) (b := l__law_draws_0) (item := fun (k : Nat) => (⟨.imm, .int (0 + (k : Int))⟩ : R))
    (fun (s : Int × List Int) => [some ⟨.imm, .int s.1⟩, some ⟨.imm, .int k⟩, some ⟨.own, .list (s.2.map .int)⟩, some ⟨.imm, .bool (decide (10 ^ 18 ≤ c))⟩, none, none])
    (fun pre s => s.2.length = pre.length ∧ ∀ d ∈ s.2, 0 ≤ d ∧ d < 1000003) (List.range k) (c, []) (by simp) (by
      rintro pre x post ⟨c', ds⟩ hx ⟨hl, hp⟩
      have hpre : ds.length < 16777216 := by
        have := pre_rng hx
        simp at hl
        omega
      cases hw : decide (10 ^ 18 ≤ c) with
      | true =>
        refine ⟨(c' / 1009, ds ++ [c' % 1009]), by simp [x_stp, l__law_draws_0, hpre, sizeLine], by simp at hl; simp [hl], ?_⟩
        intro d hd
        rcases List.mem_append.mp hd with h | h
        · exact hp d h
        · simp at h; omega
      | false =>
        have hm : (c' * 48271 + (x : Int) * 69621) % 2147483647 < 18446744073709551616 := by omega
        have hm2 : -18446744073709551616 < (c' * 48271 + (x : Int) * 69621) % 2147483647 := by omega
        refine ⟨(c', ds ++ [((c' * 48271 + (x : Int) * 69621) % 2147483647 * ((c' * 48271 + (x : Int) * 69621) % 2147483647) + c' * 31 + x) % 1000003]), by simp [x_stp, l__law_draws_0, hpre, hm, hm2, sizeLine], by simp at hl; simp [hl], ?_⟩
        intro d hd
        rcases List.mem_append.mp hd with h | h
        · exact hp d h
        · simp at h; rw [h]; exact ⟨Int.emod_nonneg _ (by decide), Int.emod_lt_of_pos _ (by decide)⟩)
  have hr : inR (k : Int) = true := inR_of (by omega) (by omega)
  refine ⟨ds, ?_, by simpa using hl, fun d hd => (hp d hd).1, fun d hd => (hp d hd).2⟩
  rw [← irng_map] at e
  simp at e
  simp [m__law_draws, b__law_draws, f__law_draws_0, hr, e]
theorem dr_lt {ds : List Int} (h : ∀ d ∈ ds, d < 1000003) (i : Nat) : dr ds i < 1000003 := by
  unfold dr
  rw [List.getD_eq_getElem?_getD]
  cases e : ds[i]? with
  | none => simp
  | some d => exact h d (List.mem_of_getElem? e)
/-! ### parties -/
def partiesD (ps : List (Bool × Bool)) : D := .tuple (ps.map fun p => .tuple [.bool p.1, .bool p.2])
@[simp] theorem lfs_pt {ps : List (Bool × Bool)} : Oz.lfs (ps.map fun p => (.tuple [.bool p.1, .bool p.2] : D)) = true := by rw [lfs_all]; simp
@[simp] theorem lf_parties {ps : List (Bool × Bool)} : lf (partiesD ps) = true := by show Oz.lfs _ = true; simp
@[simp] theorem len_parties {ps : List (Bool × Bool)} : fLen (partiesD ps) = some (.int ps.length) := by simp [partiesD]
@[simp] theorem src_parties {ps : List (Bool × Bool)} {s : Sx} : srcR ⟨s, partiesD ps⟩ = .ok (ps.map fun p => (⟨.imm, .tuple [.bool p.1, .bool p.2]⟩ : R)) := by
  simp only [partiesD, x_srcRt]
  simp [Function.comp_def]
def pOf (ps : List (Bool × Bool)) (p : Int) : Bool × Bool := ps.getD p.toNat (false, false)
theorem p_at {ps : List (Bool × Bool)} {p : Int} (h0 : 0 ≤ p) (h : p < ps.length) : atI ps p = some (pOf ps p) := by
  rw [atI_some h0 h]
  have : p.toNat < ps.length := by omega
  simp [pOf, this]
theorem at_parties {ps : List (Bool × Bool)} {p : Int} {s t : Sx} (h0 : 0 ≤ p) (h : p < ps.length) : ixR ⟨s, partiesD ps⟩ ⟨t, .int p⟩ = .ok ⟨.imm, .tuple [.bool (pOf ps p).1, .bool (pOf ps p).2]⟩ := by
  simp [partiesD, p_at h0 h]
theorem e_parties (c : Int) (m : Nat) (hm : 0 < m) (hm2 : m ≤ 8) : ∃ ps : List (Bool × Bool), m__law_parties [.int c, .int m] = .ok ⟨.imm, partiesD ps⟩ [] ∧ 1 ≤ ps.length ∧ ps.length ≤ m := by
  obtain ⟨ds, hd0, hdl, hdn, hdb⟩ := e_draws c 10 (by decide)
  have hd : m__law_draws [.int c, .int 10] = _ := hd0
  have h0 : 0 ≤ dr ds 0 % m := Int.emod_nonneg _ (by omega)
  have h4 : dr ds 0 % m < m := Int.emod_lt_of_pos _ (by omega)
  obtain ⟨n, hn⟩ := Int.eq_ofNat_of_zero_le h0
  have hn4 : n < m := by omega
  let row : Int → Bool × Bool := fun i => ([(true, false), (false, false), (false, true), (true, true)] : List (Bool × Bool)).getD i.toNat (false, false)
  have hc : compE (cN 4) tYesD c__law_parties_0 [some ⟨.imm, .int c⟩, some ⟨.imm, .int m⟩, some ⟨.own, .list (ds.map .int)⟩, some ⟨.own, .list [.tuple [.bool true, .bool false], .tuple [.bool false, .bool false], .tuple [.bool false, .bool true], .tuple [.bool true, .bool true]]⟩, none] (irng 0 (1 + n)) = some ((List.range (1 + n)).map fun k => (⟨.imm, .tuple [.bool (row (dr ds (1 + k) % 4)).1, .bool (row (dr ds (1 + k) % 4)).2]⟩ : R)) := by
    rw [irng_map]
    refine comp_map1 fun k hk => ?_
    have hk2 : k < 1 + n := by simpa using hk
    have e1 : atI ds (1 + (k : Int)) = some (dr ds (1 + k)) := dr_at (ds := ds) (i := 1 + k) (by omega)
    have hf : dr ds (1 + k) % 4 = 0 ∨ dr ds (1 + k) % 4 = 1 ∨ dr ds (1 + k) % 4 = 2 ∨ dr ds (1 + k) % 4 = 3 := by omega
    refine ⟨[some ⟨.imm, .int c⟩, some ⟨.imm, .int m⟩, some ⟨.own, .list (ds.map .int)⟩, some ⟨.own, .list [.tuple [.bool true, .bool false], .tuple [.bool false, .bool false], .tuple [.bool false, .bool true], .tuple [.bool true, .bool true]]⟩, some ⟨.imm, .int k⟩], by simp, ?_⟩
    rcases hf with h | h | h | h <;> simp [c__law_parties_0, e1, h, row, sizeLine]
  have hr : inR (1 + (n : Int)) = true := inR_of (by omega) (by omega)
  have ht : ((1 : Int) + n).toNat = 1 + n := by omega
  have e0 := dr_get (ds := ds) (i := 0) (by omega)
  have hcr := compR_own (xs := List.range (1 + n)) (f := fun k => (⟨.imm, .tuple [.bool (row (dr ds (1 + k) % 4)).1, .bool (row (dr ds (1 + k) % 4)).2]⟩ : R)) (e := fun k => .tuple [.bool (row (dr ds (1 + k) % 4)).1, .bool (row (dr ds (1 + k) % 4)).2]) (by simp [sizeLine]; omega) (fun k _ => by simp)
  refine ⟨(List.range (1 + n)).map fun k => row (dr ds (1 + k) % 4), ?_, by simp, by simp; omega⟩
  have hlf : lfs ((List.range (1 + n)).map fun k => (.tuple [.bool (row (dr ds (1 + k) % 4)).1, .bool (row (dr ds (1 + k) % 4)).2] : D)) = true := by
    rw [lfs_all]; simp
  simp [m__law_parties, b__law_parties, q__law_parties_0, hd, e0, hn, hr, ht, hc, hcr, hlf, Function.comp_def, partiesD, hm, sizeLine]
end Law

namespace Law
open PySem Oz L2
variable [Oz.WD]
/-! ### the world -/
inductive Ent where
  | pl (num : Int) (made : Bool) (k a : Int)
  | cp (num : Int) (gave : Bool) (k a o : Int) (s : Bool)
  deriving DecidableEq
def encE : Ent → D
  | .pl num w k a => .tuple [.int num, .str (if w then "made" else "treated"), .int k, .int a]
  | .cp num w k a o s => .tuple [.int num, .str (if w then "gave" else "took"), .int k, .int a, .int o, .bool s]
@[simp] theorem lf_encE {e : Ent} : lf (encE e) = true := by cases e <;> simp [encE]
inductive E where
  | mk (w : Bool) (num p k a : Int)
  | found (num p k a : Int)
  | handed (num g t k a : Int) (s : Bool)
  | passed (a b k m : Int)
  | gone (w : Bool) (p k a : Int)
  deriving DecidableEq
def enc : E → D
  | .mk w num p k a => .tuple [.str (if w then "made" else "treated"), .int num, .int p, .int k, .int a]
  | .found num p k a => .tuple [.str "found", .int num, .int p, .int k, .int a]
  | .handed num g t k a s => .tuple [.str "handed", .int num, .int g, .int t, .int k, .int a, .bool s]
  | .passed a b k m => .tuple [.str "passed", .int a, .int b, .int k, .int m]
  | .gone w p k a => .tuple [.str (if w then "dumped" else "conjured"), .int p, .int k, .int a]
@[simp] theorem lf_enc {e : E} : lf (enc e) = true := by cases e <;> simp [enc]
structure Fd where
  num : Int
  p : Int
  k : Int
  a : Int
  deriving DecidableEq
def encF (f : Fd) : D := .tuple [.int f.num, .int f.p, .int f.k, .int f.a]
@[simp] theorem lf_encF {e : Fd} : lf (encF e) = true := by simp [encF]
def rowD (r : List Int) : D := .list (r.map .int)
@[simp] theorem lf_rowD {r : List Int} : lf (rowD r) = false := id rfl
def fileL (f : List Ent) : D := .list (f.map encE)
@[simp] theorem lf_fileL {r : List Ent} : lf (fileL r) = false := id rfl
structure W where
  last : Int
  stock : List (List Int)
  files : List (List Ent)
  finds : List Fd
  events : List E
  liars : List Int
def wEs (k p st fl fi ev la li : D) : List (D × D) := [(.str (Str.ofString "kinds"), k), (.str (Str.ofString "parties"), p), (.str (Str.ofString "stock"), st), (.str (Str.ofString "files"), fl), (.str (Str.ofString "finds"), fi), (.str (Str.ofString "events"), ev), (.str (Str.ofString "last"), la), (.str (Str.ofString "liars"), li)]
section
variable {k p st fl fi ev la li d : D}
@[simp] theorem w_len : (wEs k p st fl fi ev la li).length = 8 := rfl
@[simp] theorem w_dct : isDct (wEs k p st fl fi ev la li) = true := by simp [wEs]
@[simp] theorem w_uk {x : Str} : ukD (.inr x) (wEs k p st fl fi ev la li) = true := by
  simp only [wEs, ukD_cons, keyOf_s, Option.some.injEq, Sum.inr.injEq, noD_cons, noD_nil, ukD_nil]
  repeat' split
  all_goals first | rfl | (rename_i h; subst h; simp)
@[simp] theorem lk_kinds : lkD (.inr (Str.ofString "kinds")) (wEs k p st fl fi ev la li) = some k := by simp [wEs]
@[simp] theorem lk_parties : lkD (.inr (Str.ofString "parties")) (wEs k p st fl fi ev la li) = some p := by simp [wEs]
@[simp] theorem lk_stock : lkD (.inr (Str.ofString "stock")) (wEs k p st fl fi ev la li) = some st := by simp [wEs]
@[simp] theorem lk_files : lkD (.inr (Str.ofString "files")) (wEs k p st fl fi ev la li) = some fl := by simp [wEs]
@[simp] theorem lk_finds : lkD (.inr (Str.ofString "finds")) (wEs k p st fl fi ev la li) = some fi := by simp [wEs]
@[simp] theorem lk_events : lkD (.inr (Str.ofString "events")) (wEs k p st fl fi ev la li) = some ev := by simp [wEs]
@[simp] theorem lk_last : lkD (.inr (Str.ofString "last")) (wEs k p st fl fi ev la li) = some la := by simp [wEs]
@[simp] theorem lk_liars : lkD (.inr (Str.ofString "liars")) (wEs k p st fl fi ev la li) = some li := by simp [wEs]
@[simp] theorem pt_stock : ptD (.inr (Str.ofString "stock")) d (wEs k p st fl fi ev la li) = wEs k p d fl fi ev la li := by simp [wEs]
@[simp] theorem pt_files : ptD (.inr (Str.ofString "files")) d (wEs k p st fl fi ev la li) = wEs k p st d fi ev la li := by simp [wEs]
@[simp] theorem pt_finds : ptD (.inr (Str.ofString "finds")) d (wEs k p st fl fi ev la li) = wEs k p st fl d ev la li := by simp [wEs]
@[simp] theorem pt_events : ptD (.inr (Str.ofString "events")) d (wEs k p st fl fi ev la li) = wEs k p st fl fi d la li := by simp [wEs]
@[simp] theorem pt_last : ptD (.inr (Str.ofString "last")) d (wEs k p st fl fi ev la li) = wEs k p st fl fi ev d li := by simp [wEs]
@[simp] theorem pt_liars : ptD (.inr (Str.ofString "liars")) d (wEs k p st fl fi ev la li) = wEs k p st fl fi ev la d := by simp [wEs]
end
def worldX (kn : Int) (ps : List (Bool × Bool)) (st : D) (w : W) : D := .dict (wEs (.int kn) (partiesD ps) st (.list (w.files.map fileL)) (.list (w.finds.map encF)) (.list (w.events.map enc)) (.int w.last) (.list (w.liars.map .int)))
def worldD (kn : Int) (ps : List (Bool × Bool)) (w : W) : D := worldX kn ps (.list (w.stock.map rowD)) w
@[simp] theorem lf_worldX {kn : Int} {ps : List (Bool × Bool)} {st : D} {w : W} : lf (worldX kn ps st w) = false := id rfl
@[simp] theorem lf_worldD {kn : Int} {ps : List (Bool × Bool)} {w : W} : lf (worldD kn ps w) = false := id rfl
/-! ### rows -/
def valS (S : List (List Int)) (p k : Int) : Int := (S.getD p.toNat []).getD k.toNat 0
def updS (S : List (List Int)) (p k v : Int) : List (List Int) := S.set p.toNat ((S.getD p.toNat []).set k.toNat v)
structure SOk (n m : Nat) (S : List (List Int)) : Prop where
  len : S.length = n
  row : ∀ r ∈ S, r.length = m
theorem SOk.upd {n m : Nat} {S : List (List Int)} (h : SOk n m S) {p k v : Int} (h0 : 0 ≤ p) (h1 : p < n) : SOk n m (updS S p k v) := by
  have hl : p.toNat < S.length := by have := h.len; omega
  refine ⟨by simp [updS, h.len], fun r hr => ?_⟩
  rcases List.mem_or_eq_of_mem_set hr with z | z
  · exact h.row r z
  · rw [z, List.length_set]
    exact h.row _ (by simp [hl])
structure At (S : List (List Int)) (p k : Int) (r : List Int) : Prop where
  ip : ixN S.length p = some p.toNat
  gp : S[p.toNat]? = some r
  ap : atI S p = some r
  ik : ixN r.length k = some k.toNat
  ak : atI r k = some (valS S p k)
  eq : S.getD p.toNat [] = r
theorem SOk.at {n m : Nat} {S : List (List Int)} (h : SOk n m S) {p k : Int} (h0 : 0 ≤ p) (h1 : p < n) (k0 : 0 ≤ k) (k1 : k < m) : ∃ r, At S p k r := by
  have hl : p.toNat < S.length := by have := h.len; omega
  have hr := h.row _ (List.getElem_mem hl)
  have hk : k.toNat < (S[p.toNat]).length := by omega
  have hp : p < S.length := by have := h.len; omega
  refine ⟨S[p.toNat], ixN_some h0 hp, by simp [hl], atI_some h0 hp, ixN_some k0 (by omega), ?_, by simp [hl]⟩
  rw [atI_some k0 (by omega)]
  simp [valS, hl, hk]
theorem row_setI {S : List (List Int)} {p k v : Int} {r : List Int} (h : At S p k r) : (S.map rowD).set p.toNat (.list ((r.map .int).set k.toNat (.int v))) = (updS S p k v).map rowD := by
  rw [updS, h.eq, List.map_set, rowD, List.map_set]
/-! ### deeds -/
def addE (fs : List (List Ent)) (p : Int) (e : Ent) : List (List Ent) := fs.set p.toNat (fs.getD p.toNat [] ++ [e])
structure FAt (fs : List (List Ent)) (p : Int) (f : List Ent) : Prop where
  ip : ixN fs.length p = some p.toNat
  gp : fs[p.toNat]? = some f
  ap : atI fs p = some f
theorem fAt {fs : List (List Ent)} {p : Int} (h0 : 0 ≤ p) (h : p < fs.length) : ∃ f, FAt fs p f ∧ f ∈ fs := by
  have hl : p.toNat < fs.length := by omega
  exact ⟨fs[p.toNat], ⟨ixN_some h0 h, by simp [hl], atI_some h0 h⟩, List.getElem_mem hl⟩
theorem fAt_add {fs : List (List Ent)} {p q : Int} {f : List Ent} {e : Ent} (h : FAt fs p f) (hp : 0 ≤ p) (hq : 0 ≤ q) (ne : q ≠ p) : FAt (addE fs q e) p f := by
  have n2 : q.toNat ≠ p.toNat := by omega
  have hl : (addE fs q e).length = fs.length := by simp [addE]
  have hp2 : (addE fs q e)[p.toNat]? = some f := by simp only [addE]; rw [List.getElem?_set_ne n2]; exact h.gp
  refine ⟨by rw [hl]; exact h.ip, hp2, ?_⟩
  unfold atI
  rw [hl, h.ip]
  exact hp2
theorem file_add {fs : List (List Ent)} {p : Int} {f : List Ent} (h : FAt fs p f) (e : Ent) : (fs.map fileL).set p.toNat (.list (f.map encE ++ [encE e])) = (addE fs p e).map fileL := by
  unfold addE
  rw [List.map_set, List.getD_eq_getElem?_getD, h.gp]
  simp [fileL]
theorem file_addP {fs : List (List Ent)} {p : Int} {f : List Ent} (h : FAt fs p f) (num : Int) (w : Bool) (k a : Int) : (fs.map fileL).set p.toNat (.list (f.map encE ++ [.tuple [.int num, .str (if w then "made" else "treated"), .int k, .int a]])) = (addE fs p (.pl num w k a)).map fileL := file_add h (.pl num w k a)
theorem file_addC {fs : List (List Ent)} {p : Int} {f : List Ent} (h : FAt fs p f) (num : Int) (w : Bool) (k a o : Int) (s : Bool) : (fs.map fileL).set p.toNat (.list (f.map encE ++ [.tuple [.int num, .str (if w then "gave" else "took"), .int k, .int a, .int o, .bool s]])) = (addE fs p (.cp num w k a o s)).map fileL := file_add h (.cp num w k a o s)
inductive Wd where
  | make | treat | hand | inspect | pass | dump | conj | sign | write | omit
  deriving DecidableEq
def wdS : Wd → Str
  | .make => "make" | .treat => "treat" | .hand => "hand" | .inspect => "inspect" | .pass => "pass" | .dump => "dump" | .conj => "conjure" | .sign => "sign" | .write => "write" | .omit => "omit"
structure Deed where
  w : Wd
  p : Int
  o : Int
  k : Int
  a : Int
  s : Bool
def deedD (d : Deed) : D := .tuple [.str (wdS d.w), .int d.p, .int d.o, .int d.k, .int d.a, .bool d.s]
structure DOk (n m : Nat) (d : Deed) : Prop where
  p0 : 0 ≤ d.p
  p1 : d.p < n
  o0 : 0 ≤ d.o
  o1 : d.o < n
  k0 : 0 ≤ d.k
  k1 : d.k < m
  a0 : 0 < d.a
  a1 : d.a ≤ 1000003
def notedW (w : W) (g t k a : Int) (s : Bool) : W := { w with last := w.last + 1, files := addE (addE w.files g (.cp (w.last + 1) true k a t s)) t (.cp (w.last + 1) false k a g s) }
structure WOk (n m c : Nat) (w : W) : Prop where
  st : SOk n m w.stock
  fl : w.files.length = n
  fc : ∀ f ∈ w.files, f.length ≤ c
  fi : w.finds.length ≤ c
  ev : w.events.length ≤ c
  li : w.liars.length ≤ c
theorem e_noted (kn : Int) (ps : List (Bool × Bool)) (st : D) {n m c : Nat} {w : W} (h : WOk n m c w) (hc : c < 1000) {g t : Int} (g0 : 0 ≤ g) (g1 : g < n) (t0 : 0 ≤ t) (t1 : t < n) (ne : g ≠ t) (k a : Int) (s : Bool) :
    m__law_noted [worldX kn ps st w, .int g, .int t, .int k, .int a, .bool s] = .ok ⟨.imm, .none⟩ [worldX kn ps st (notedW w g t k a s)] := by
  obtain ⟨f, hf, mf⟩ := fAt (fs := w.files) g0 (by rw [h.fl]; exact g1)
  obtain ⟨f2, hf2, mf2⟩ := fAt (fs := w.files) t0 (by rw [h.fl]; exact t1)
  have c1 := h.fc f mf
  have c2 := h.fc f2 mf2
  have hf3 := fAt_add (e := .cp (w.last + 1) true k a t s) hf2 t0 g0 ne
  have e1 := file_addC hf (w.last + 1) true k a t s
  have e2 := file_addC hf3 (w.last + 1) false k a g s
  have l1 : f.length < 16777216 := by omega
  have l2 : f2.length < 16777216 := by omega
  simp at e1 e2
  have hl : (addE w.files g (.cp (w.last + 1) true k a t s)).length = w.files.length := by simp [addE]
  simp [m__law_noted, b__law_noted, worldX, notedW, hf.ip, hf.gp, fileL, l1, l2, e1, hf3.gp, hf3.ip, hf2.ip, e2, sizeLine]
end Law

namespace Law
open PySem Oz L2
variable [Oz.WD]
def honestW (ps : List (Bool × Bool)) (w : W) (d : Deed) : Option W := match d.w with
  | .make => if (pOf ps d.p).1 = true then some { w with last := w.last + 1, stock := updS w.stock d.p d.k (valS w.stock d.p d.k + d.a), files := addE w.files d.p (.pl (w.last + 1) true d.k d.a), events := w.events ++ [.mk true (w.last + 1) d.p d.k d.a] } else none
  | .treat => if (pOf ps d.p).2 = true ∧ d.a ≤ valS w.stock d.p d.k then some { w with last := w.last + 1, stock := updS w.stock d.p d.k (valS w.stock d.p d.k - d.a), files := addE w.files d.p (.pl (w.last + 1) false d.k d.a), events := w.events ++ [.mk false (w.last + 1) d.p d.k d.a] } else none
  | .hand => if d.p ≠ d.o ∧ d.a ≤ valS w.stock d.p d.k then some { notedW w d.p d.o d.k d.a d.s with stock := updS (updS w.stock d.p d.k (valS w.stock d.p d.k - d.a)) d.o d.k (valS (updS w.stock d.p d.k (valS w.stock d.p d.k - d.a)) d.o d.k + d.a), events := w.events ++ [.handed (w.last + 1) d.p d.o d.k d.a d.s] } else none
  | .inspect => some { w with last := w.last + 1, finds := w.finds ++ [⟨w.last + 1, d.p, d.k, valS w.stock d.p d.k⟩], events := w.events ++ [.found (w.last + 1) d.p d.k (valS w.stock d.p d.k)] }
  | _ => none
def outW (kn : Int) (ps : List (Bool × Bool)) (w : W) : Option W → FR
  | some w' => .ok ⟨.imm, .bool true⟩ [worldD kn ps w']
  | none => .ok ⟨.imm, .bool false⟩ [worldD kn ps w]
theorem e_honest (kn : Int) {ps : List (Bool × Bool)} {m c : Nat} {w : W} (h : WOk ps.length m c w) (hc : c < 1000) {d : Deed} (hd : DOk ps.length m d) (hw : d.w = .make ∨ d.w = .treat ∨ d.w = .hand ∨ d.w = .inspect) :
    m__law_honest [worldD kn ps w, .str (wdS d.w), .int d.p, .int d.o, .int d.k, .int d.a, .bool d.s] = outW kn ps w (honestW ps w d) := by
  obtain ⟨f, hf, mf⟩ := fAt (fs := w.files) hd.p0 (by rw [h.fl]; exact hd.p1)
  obtain ⟨r, hr⟩ := h.st.at hd.p0 hd.p1 hd.k0 hd.k1
  have c1 := h.fc f mf
  have hp := fun s t => at_parties (s := s) (t := t) hd.p0 hd.p1
  have l1 : f.length < 16777216 := by omega
  have l2 : w.events.length < 16777216 := by have := h.ev; omega
  have l3 : w.finds.length < 16777216 := by have := h.fi; omega
  obtain ⟨dw, dp, do_, dk, da, ds⟩ := d
  simp only at hw hf hr hp
  rcases hw with rfl | rfl | rfl | rfl
  · have e1 := file_addP hf (w.last + 1) true dk da
    have e2 := row_setI (v := valS w.stock dp dk + da) hr
    simp at e1
    cases q : (pOf ps dp).1 <;>
      simp [m__law_honest, b__law_honest, x_ali, honestW, outW, worldD, worldX, wdS, q, hp, hf.ip, hf.gp, fileL, l1, l2, hr.ap, hr.ip, hr.gp, hr.ik, hr.ak, rowD, e1, e2, enc, sizeLine]
  · have e1 := file_addP hf (w.last + 1) false dk da
    have e2 := row_setI (v := valS w.stock dp dk - da) hr
    simp at e1
    cases q : (pOf ps dp).2 <;> by_cases q2 : da ≤ valS w.stock dp dk <;>
      simp [m__law_honest, b__law_honest, x_ali, honestW, outW, worldD, worldX, wdS, q, q2, hp, hf.ip, hf.gp, fileL, l1, l2, hr.ap, hr.ip, hr.gp, hr.ik, hr.ak, rowD, e1, e2, enc, sizeLine]
  · by_cases q : dp = do_
    · subst q
      simp [m__law_honest, b__law_honest, x_ali, honestW, outW, worldD, worldX, wdS]
    · by_cases q2 : da ≤ valS w.stock dp dk
      · obtain ⟨r2, hr2⟩ := (h.st.upd (k := dk) (v := valS w.stock dp dk - da) hd.p0 hd.p1).at hd.o0 hd.o1 hd.k0 hd.k1
        have e1 := row_setI (v := valS w.stock dp dk - da) hr
        have e2 := row_setI (v := valS (updS w.stock dp dk (valS w.stock dp dk - da)) do_ dk + da) hr2
        simp only at e1 e2 hr2
        have en := fun a => e_noted kn ps (ptrD a) h hc hd.p0 hd.p1 hd.o0 hd.o1 q dk da ds
        simp only [worldX] at en
        simp [m__law_honest, b__law_honest, x_ali, honestW, outW, worldD, worldX, wdS, q, q2, hr.ap, hr.ip, hr.gp, hr.ik, hr.ak, rowD, en, hr2.ap, hr2.ip, hr2.gp, hr2.ik, hr2.ak, e1, e2, enc, l2, notedW, sizeLine]
      · simp [m__law_honest, b__law_honest, x_ali, honestW, outW, worldD, worldX, wdS, q, q2, hr.ap, hr.ip, hr.gp, hr.ik, hr.ak, rowD]
  · simp [m__law_honest, b__law_honest, x_ali, honestW, outW, worldD, worldX, wdS, hr.ap, hr.ip, hr.gp, hr.ik, hr.ak, rowD, enc, encF, l2, l3, sizeLine]
end Law

namespace Law
open PySem Oz L2
variable [Oz.WD]
def addL (ls : List Int) (x : Int) : List Int := if ls.any (fun z => z == x) = true then ls else ls ++ [x]
theorem in_ints {ls : List Int} {x : Int} : fIn (.int x) (.list (ls.map .int)) = some (ls.any fun z => z == x) := by
  unfold fIn
  simp [Function.comp_def]
theorem addL_len {ls : List Int} {x : Int} : (addL ls x).length ≤ ls.length + 1 := by
  unfold addL
  split <;> simp
theorem map_erase {α β : Type} {f : α → β} : ∀ (xs : List α) (k : Nat), (xs.map f).eraseIdx k = (xs.eraseIdx k).map f
  | [], _ => by simp
  | _ :: _, 0 => rfl
  | x :: xs, k + 1 => by simp [map_erase xs k]
theorem e_liars (kn : Int) (ps : List (Bool × Bool)) (st S I : D) : ∀ (L : List Int) (w : W), w.liars.length + L.length < 16777216 →
    loopS (gN 11) l__law_lied_0 (L.map fun x => (⟨.imm, .int x⟩ : R)) [some ⟨.brw, worldX kn ps st w⟩, none, none, none, none, none, none, some ⟨.brw, S⟩, some ⟨.imm, I⟩, none, none, none] =
      .next [some ⟨.brw, worldX kn ps st { w with liars := L.foldl addL w.liars }⟩, none, none, none, none, none, none, some ⟨.brw, S⟩, some ⟨.imm, I⟩, none, none, none]
  | [], w, h => rfl
  | x :: L, w, h => by
    have hl : w.liars.length < 16777216 := by simp at h; omega
    have key : stp (gN 11) l__law_lied_0 ⟨.imm, .int x⟩ [some ⟨.brw, worldX kn ps st w⟩, none, none, none, none, none, none, some ⟨.brw, S⟩, some ⟨.imm, I⟩, none, none, none] =
        .next [some ⟨.brw, worldX kn ps st { w with liars := addL w.liars x }⟩, none, none, none, none, none, none, some ⟨.brw, S⟩, some ⟨.imm, I⟩, none, none, none] := by
      by_cases q : w.liars.any (fun z => z == x) = true
      · simp [x_stp, l__law_lied_0, worldX, in_ints, q, addL]
      · have q' : w.liars.any (fun z => z == x) = false := Bool.eq_false_iff.mpr q
        simp [x_stp, l__law_lied_0, worldX, in_ints, q', addL, hl, sizeLine]
    rw [List.map_cons, loop_c, key]
    have hl2 := addL_len (ls := w.liars) (x := x)
    simp at h
    exact e_liars kn ps st S I L { w with liars := addL w.liars x } (by show (addL w.liars x).length + L.length < _; omega)
def liedW (ps : List (Bool × Bool)) (w : W) (d : Deed) : Option (W × List Int) := match d.w with
  | .pass => if d.p ≠ d.o ∧ d.a ≤ valS w.stock d.p d.k then some ({ w with stock := updS (updS w.stock d.p d.k (valS w.stock d.p d.k - d.a)) d.o d.k (valS (updS w.stock d.p d.k (valS w.stock d.p d.k - d.a)) d.o d.k + d.a), events := w.events ++ [.passed d.p d.o d.k d.a] }, [d.p, d.o]) else none
  | .dump => if d.a ≤ valS w.stock d.p d.k then some ({ w with stock := updS w.stock d.p d.k (valS w.stock d.p d.k - d.a), events := w.events ++ [.gone true d.p d.k d.a] }, [d.p]) else none
  | .conj => if (pOf ps d.p).1 = true then some ({ w with stock := updS w.stock d.p d.k (valS w.stock d.p d.k + d.a), events := w.events ++ [.gone false d.p d.k d.a] }, [d.p]) else none
  | .sign => if d.p ≠ d.o then some (notedW w d.p d.o d.k d.a d.s, [d.p, d.o]) else none
  | .write => some ({ w with last := w.last + 1, files := addE w.files d.p (if d.p = d.o then .pl (w.last + 1) (!d.s) d.k d.a else .cp (w.last + 1) (!d.s) d.k d.a d.o false) }, [d.p])
  | .omit => if 0 < (w.files.getD d.p.toNat []).length then some ({ w with files := w.files.set d.p.toNat ((w.files.getD d.p.toNat []).eraseIdx (d.a % ((w.files.getD d.p.toNat []).length : Int)).toNat) }, [d.p]) else none
  | _ => none
def liedW2 (ps : List (Bool × Bool)) (w : W) (d : Deed) : Option W := (liedW ps w d).map fun x => { x.1 with liars := x.2.foldl addL x.1.liars }
theorem e_lied (kn : Int) {ps : List (Bool × Bool)} {m c : Nat} {w : W} (h : WOk ps.length m c w) (hc : c < 1000) {d : Deed} (hd : DOk ps.length m d) (hw : d.w = .pass ∨ d.w = .dump ∨ d.w = .conj ∨ d.w = .sign ∨ d.w = .write ∨ d.w = .omit) :
    m__law_lied [worldD kn ps w, .str (wdS d.w), .int d.p, .int d.o, .int d.k, .int d.a, .bool d.s] = outW kn ps w (liedW2 ps w d) := by
  obtain ⟨f, hf, mf⟩ := fAt (fs := w.files) hd.p0 (by rw [h.fl]; exact hd.p1)
  obtain ⟨r, hr⟩ := h.st.at hd.p0 hd.p1 hd.k0 hd.k1
  have c1 := h.fc f mf
  have hp := fun s t => at_parties (s := s) (t := t) hd.p0 hd.p1
  have l1 : f.length < 16777216 := by omega
  have l1' : f.length ≤ 16777216 := by omega
  have l2 : w.events.length < 16777216 := by have := h.ev; omega
  have hli := h.li
  obtain ⟨dw, dp, do_, dk, da, ds⟩ := d
  simp only at hw hf hr hp
  have hfd : w.files[dp.toNat]?.getD [] = f := by rw [hf.gp]; rfl
  rcases hw with rfl | rfl | rfl | rfl | rfl | rfl
  · by_cases q : dp = do_
    · subst q
      simp [m__law_lied, b__law_lied, x_ali, liedW2, liedW, outW, worldD, worldX, wdS, sizeLine]
    · by_cases q2 : da ≤ valS w.stock dp dk
      · obtain ⟨r2, hr2⟩ := (h.st.upd (k := dk) (v := valS w.stock dp dk - da) hd.p0 hd.p1).at hd.o0 hd.o1 hd.k0 hd.k1
        have e1 := row_setI (v := valS w.stock dp dk - da) hr
        have e2 := row_setI (v := valS (updS w.stock dp dk (valS w.stock dp dk - da)) do_ dk + da) hr2
        simp only at e1 e2 hr2
        have el := fun (st S I : D) => e_liars kn ps st S I [dp, do_] { w with events := w.events ++ [.passed dp do_ dk da] } (by simp; omega)
        simp [worldX, enc] at el
        simp [m__law_lied, b__law_lied, f__law_lied_0, x_ali, liedW2, liedW, outW, worldD, worldX, wdS, q, q2, hr.ap, hr.ip, hr.gp, hr.ik, hr.ak, rowD, hr2.ap, hr2.ip, hr2.gp, hr2.ik, hr2.ak, e1, e2, enc, l2, el, sizeLine]
      · simp [m__law_lied, b__law_lied, x_ali, liedW2, liedW, outW, worldD, worldX, wdS, q, q2, hr.ap, hr.ip, hr.gp, hr.ik, hr.ak, rowD, sizeLine]
  · by_cases q2 : da ≤ valS w.stock dp dk
    · have e1 := row_setI (v := valS w.stock dp dk - da) hr
      have el := fun (st S I : D) => e_liars kn ps st S I [dp] { w with events := w.events ++ [.gone true dp dk da] } (by simp; omega)
      simp [worldX, enc] at el
      simp [m__law_lied, b__law_lied, f__law_lied_0, x_ali, liedW2, liedW, outW, worldD, worldX, wdS, q2, hr.ap, hr.ip, hr.gp, hr.ik, hr.ak, rowD, e1, enc, l2, el, sizeLine]
    · simp [m__law_lied, b__law_lied, x_ali, liedW2, liedW, outW, worldD, worldX, wdS, q2, hr.ap, hr.ip, hr.gp, hr.ik, hr.ak, rowD, sizeLine]
  · cases q : (pOf ps dp).1 with
    | true =>
      have e1 := row_setI (v := valS w.stock dp dk + da) hr
      have el := fun (st S I : D) => e_liars kn ps st S I [dp] { w with events := w.events ++ [.gone false dp dk da] } (by simp; omega)
      simp [worldX, enc] at el
      simp [m__law_lied, b__law_lied, f__law_lied_0, x_ali, liedW2, liedW, outW, worldD, worldX, wdS, q, hp, hr.ap, hr.ip, hr.gp, hr.ik, hr.ak, rowD, e1, enc, l2, el, sizeLine]
    | false => simp [m__law_lied, b__law_lied, x_ali, liedW2, liedW, outW, worldD, worldX, wdS, q, hp, sizeLine]
  · by_cases q : dp = do_
    · subst q
      simp [m__law_lied, b__law_lied, x_ali, liedW2, liedW, outW, worldD, worldX, wdS, sizeLine]
    · have en := fun a => e_noted kn ps (ptrD a) h hc hd.p0 hd.p1 hd.o0 hd.o1 q dk da ds
      have el := fun (st S I : D) => e_liars kn ps st S I [dp, do_] (notedW w dp do_ dk da ds) (by simp [notedW]; omega)
      simp [worldX] at en el
      simp [m__law_lied, b__law_lied, f__law_lied_0, x_ali, liedW2, liedW, outW, worldD, worldX, wdS, q, en, el, sizeLine]
      simp [notedW]
  · by_cases q : dp = do_
    · subst q
      have e1 := file_addP hf (w.last + 1) (!ds) dk da
      have el := fun (st S I : D) => e_liars kn ps st S I [dp] { w with last := w.last + 1, files := addE w.files dp (.pl (w.last + 1) (!ds) dk da) } (by simp; omega)
      simp [worldX] at el
      cases ds <;> simp at e1 el <;> simp [m__law_lied, b__law_lied, f__law_lied_0, x_ali, liedW2, liedW, outW, worldD, worldX, wdS, hf.ip, hf.gp, fileL, l1, e1, el, sizeLine]
    · have e1 := file_addC hf (w.last + 1) (!ds) dk da do_ false
      have el := fun (st S I : D) => e_liars kn ps st S I [dp] { w with last := w.last + 1, files := addE w.files dp (.cp (w.last + 1) (!ds) dk da do_ false) } (by simp; omega)
      simp [worldX] at el
      cases ds <;> simp at e1 el <;> simp [m__law_lied, b__law_lied, f__law_lied_0, x_ali, liedW2, liedW, outW, worldD, worldX, wdS, q, hf.ip, hf.gp, fileL, l1, e1, el, sizeLine]
  · by_cases q : 0 < f.length
    · have q0 : (0 : Int) < f.length := by omega
      have i0 := Int.emod_nonneg da (Int.ne_of_gt q0)
      have i1 := Int.emod_lt_of_pos da q0
      have ix := ixN_some i0 i1
      have e1 : (w.files.map fileL).set dp.toNat (.list ((f.map encE).eraseIdx (da % (f.length : Int)).toNat)) = (w.files.set dp.toNat (f.eraseIdx (da % (f.length : Int)).toNat)).map fileL := by
        rw [List.map_set, fileL, map_erase]
      have el := fun (st S I : D) => e_liars kn ps st S I [dp] { w with files := w.files.set dp.toNat (f.eraseIdx (da % (f.length : Int)).toNat) } (by simp; omega)
      simp only [worldX, ← e1, List.map_cons, List.map_nil, List.foldl_cons, List.foldl_nil] at el
      simp [m__law_lied, b__law_lied, f__law_lied_0, x_ali, liedW2, liedW, outW, worldD, worldX, wdS, hf.ap, hf.ip, hf.gp, hfd, fileL, l1, l1', q, q0, ix, el, sizeLine]
      rw [map_erase]
    · have q0 : ¬ (0 : Int) < f.length := by omega
      have q1 : f = [] := by cases f with
        | nil => rfl
        | cons _ _ => simp at q
      simp [m__law_lied, b__law_lied, x_ali, liedW2, liedW, outW, worldD, worldX, wdS, hf.ap, hf.ip, hf.gp, hfd, fileL, q1, sizeLine]
end Law

namespace Law
open PySem Oz L2
variable [Oz.WD]
def didW (ps : List (Bool × Bool)) (w : W) (d : Deed) : Option W := match d.w with
  | .make => honestW ps w d
  | .treat => honestW ps w d
  | .hand => honestW ps w d
  | .inspect => honestW ps w d
  | _ => liedW2 ps w d
theorem e_did (kn : Int) {ps : List (Bool × Bool)} {m c : Nat} {w : W} (h : WOk ps.length m c w) (hc : c < 1000) {d : Deed} (hd : DOk ps.length m d) :
    m__law_did [worldD kn ps w, deedD d] = outW kn ps w (didW ps w d) := by
  have e1 := fun hw => e_honest kn h hc hd hw
  have e2 := fun hw => e_lied kn h hc hd hw
  obtain ⟨dw, dp, do_, dk, da, ds⟩ := d
  cases dw <;> simp [wdS] at e1 e2 <;> simp [m__law_did, b__law_did, deedD, didW, wdS, e1, e2, sizeLine] <;> (first | (cases honestW ps w _ <;> (simp [outW]; done)) | (cases liedW2 ps w _ <;> (simp [outW]; done)))
/-! ### what stays -/
theorem addE_len {fs : List (List Ent)} {p : Int} {e : Ent} : (addE fs p e).length = fs.length := by simp [addE]
theorem addE_le {fs : List (List Ent)} {p : Int} {e : Ent} {c : Nat} (h : ∀ f ∈ fs, f.length ≤ c) : ∀ f ∈ addE fs p e, f.length ≤ c + 1 := by
  intro f hf
  rcases List.mem_or_eq_of_mem_set hf with z | z
  · have := h f z; omega
  · rw [z, List.length_append, List.length_singleton, List.getD_eq_getElem?_getD]
    cases q : fs[p.toNat]? with
    | none => simp
    | some g =>
      have := h g (List.mem_of_getElem? q)
      simp; omega
theorem liars_le {L : List Int} : ∀ {ls : List Int}, (L.foldl addL ls).length ≤ ls.length + L.length := by
  induction L with
  | nil => intro ls; simp
  | cons x L ih =>
    intro ls
    have h1 := ih (ls := addL ls x)
    have h2 := addL_len (ls := ls) (x := x)
    simp only [List.foldl_cons, List.length_cons]
    omega
theorem WOk.le {n m c c' : Nat} {w : W} (h : WOk n m c w) (hc : c ≤ c') : WOk n m c' w := ⟨h.st, h.fl, fun f hf => Nat.le_trans (h.fc f hf) hc, Nat.le_trans h.fi hc, Nat.le_trans h.ev hc, Nat.le_trans h.li hc⟩
theorem noted_ok {n m c : Nat} {w : W} (h : WOk n m c w) {g t k a : Int} {s : Bool} : WOk n m (c + 2) (notedW w g t k a s) :=
  ⟨h.st, by simp [notedW, addE_len, h.fl], fun f hf => addE_le (addE_le h.fc) f hf, by have := h.fi; simp [notedW]; omega, by have := h.ev; simp [notedW]; omega, by have := h.li; simp [notedW]; omega⟩
theorem did_ok {ps : List (Bool × Bool)} {m c : Nat} {w w' : W} (h : WOk ps.length m c w) {d : Deed} (hd : DOk ps.length m d) (e : didW ps w d = some w') : WOk ps.length m (c + 2) w' := by
  have h2 := h.le (c' := c + 2) (by omega)
  have hfi := h.fi
  have hev := h.ev
  have hli := h.li
  have le1 : ∀ {p : Int} {e : Ent}, ∀ f ∈ addE w.files p e, f.length ≤ c + 2 := fun f hf => by have := addE_le h.fc f hf; omega
  obtain ⟨dw, dp, do_, dk, da, ds⟩ := d
  have u1 : ∀ v, SOk ps.length m (updS w.stock dp dk v) := fun v => h.st.upd hd.p0 hd.p1
  have u2 : ∀ v v', SOk ps.length m (updS (updS w.stock dp dk v) do_ dk v') := fun v v' => (u1 v).upd hd.o0 hd.o1
  cases dw
  · simp only [didW, honestW] at e
    split at e
    · cases e; exact ⟨u1 _, by simp [addE_len, h.fl], le1, h2.fi, by simp; omega, h2.li⟩
    · cases e
  · simp only [didW, honestW] at e
    split at e
    · cases e; exact ⟨u1 _, by simp [addE_len, h.fl], le1, h2.fi, by simp; omega, h2.li⟩
    · cases e
  · simp only [didW, honestW] at e
    split at e
    · cases e
      have q := noted_ok h (g := dp) (t := do_) (k := dk) (a := da) (s := ds)
      exact ⟨u2 _ _, q.fl, q.fc, q.fi, by simp; omega, q.li⟩
    · cases e
  · simp only [didW, honestW] at e
    cases e
    exact ⟨h2.st, h2.fl, h2.fc, by simp; omega, by simp; omega, h2.li⟩
  · simp only [didW, liedW2, liedW] at e
    split at e
    · cases e; exact ⟨u2 _ _, h2.fl, h2.fc, h2.fi, by simp; omega, Nat.le_trans liars_le (by simp; omega)⟩
    · cases e
  · simp only [didW, liedW2, liedW] at e
    split at e
    · cases e; exact ⟨u1 _, h2.fl, h2.fc, h2.fi, by simp; omega, Nat.le_trans liars_le (by simp; omega)⟩
    · cases e
  · simp only [didW, liedW2, liedW] at e
    split at e
    · cases e; exact ⟨u1 _, h2.fl, h2.fc, h2.fi, by simp; omega, Nat.le_trans liars_le (by simp; omega)⟩
    · cases e
  · simp only [didW, liedW2, liedW] at e
    split at e
    · cases e
      have q := noted_ok h (g := dp) (t := do_) (k := dk) (a := da) (s := ds)
      exact ⟨q.st, q.fl, q.fc, q.fi, q.ev, Nat.le_trans liars_le (by simp [notedW]; omega)⟩
    · cases e
  · simp only [didW, liedW2, liedW] at e
    cases e
    exact ⟨h2.st, by simp [addE_len, h.fl], le1, h2.fi, h2.ev, Nat.le_trans liars_le (by simp; omega)⟩
  · simp only [didW, liedW2, liedW] at e
    split at e
    · cases e
      refine ⟨h2.st, by simp [h.fl], fun f hf => ?_, h2.fi, h2.ev, Nat.le_trans liars_le (by simp; omega)⟩
      rcases List.mem_or_eq_of_mem_set hf with z | z
      · exact h2.fc f z
      · rw [z]
        refine Nat.le_trans (List.length_eraseIdx_le _ _) ?_
        rw [List.getD_eq_getElem?_getD]
        cases q : w.files[dp.toNat]? with
        | none => simp
        | some g =>
          have := h2.fc g (List.mem_of_getElem? q)
          simpa using this
    · cases e
end Law

namespace Law
open PySem Oz L2
variable [Oz.WD]
theorem words7 (l : Bool) (d : Int) : ∃ wd : Wd, atI (if l then [PyData.str (Str.ofString "pass"), .str (Str.ofString "dump"), .str (Str.ofString "conjure"), .str (Str.ofString "sign"), .str (Str.ofString "write"), .str (Str.ofString "omit"), .str (Str.ofString "pass")] else [PyData.str (Str.ofString "make"), .str (Str.ofString "make"), .str (Str.ofString "hand"), .str (Str.ofString "hand"), .str (Str.ofString "hand"), .str (Str.ofString "treat"), .str (Str.ofString "inspect")]) (d % 7) = some (.str (wdS wd)) ∧
    (l = false → wd = .make ∨ wd = .treat ∨ wd = .hand ∨ wd = .inspect) := by
  have hf : d % 7 = 0 ∨ d % 7 = 1 ∨ d % 7 = 2 ∨ d % 7 = 3 ∨ d % 7 = 4 ∨ d % 7 = 5 ∨ d % 7 = 6 := by omega
  cases l
  · rcases hf with h | h | h | h | h | h | h <;> rw [h]
    · exact ⟨.make, rfl, by simp⟩
    · exact ⟨.make, rfl, by simp⟩
    · exact ⟨.hand, rfl, by simp⟩
    · exact ⟨.hand, rfl, by simp⟩
    · exact ⟨.hand, rfl, by simp⟩
    · exact ⟨.treat, rfl, by simp⟩
    · exact ⟨.inspect, rfl, by simp⟩
  · rcases hf with h | h | h | h | h | h | h <;> rw [h]
    · exact ⟨.pass, rfl, by simp⟩
    · exact ⟨.dump, rfl, by simp⟩
    · exact ⟨.conj, rfl, by simp⟩
    · exact ⟨.sign, rfl, by simp⟩
    · exact ⟨.write, rfl, by simp⟩
    · exact ⟨.omit, rfl, by simp⟩
    · exact ⟨.pass, rfl, by simp⟩
def isQ (wd : Wd) : Bool := decide (wd = .hand) || decide (wd = .treat) || decide (wd = .pass) || decide (wd = .dump)
theorem e_deed (cell : Int) {ps : List (Bool × Bool)} {m c : Nat} {w : W} (h : WOk ps.length m c w) (hm : 0 < m) (hn : 0 < ps.length) (lying : Int) :
    ∃ d, m__law_deed [.int cell, worldD m ps w, .int lying] = .ok ⟨.imm, deedD d⟩ [] ∧ DOk ps.length m d ∧ (lying ≤ 0 → d.w = .make ∨ d.w = .treat ∨ d.w = .hand ∨ d.w = .inspect) := by
  obtain ⟨ds, hd0, hdl, hdn, hdb⟩ := e_draws cell 8 (by decide)
  have hd : m__law_draws [.int cell, .int 8] = _ := hd0
  have g0 := dr_get (ds := ds) (i := 0) (by omega)
  have g1 := dr_get (ds := ds) (i := 1) (by omega)
  have g2 := dr_get (ds := ds) (i := 2) (by omega)
  have g3 := dr_get (ds := ds) (i := 3) (by omega)
  have g4 := dr_get (ds := ds) (i := 4) (by omega)
  have g5 := dr_get (ds := ds) (i := 5) (by omega)
  have g6 := dr_get (ds := ds) (i := 6) (by omega)
  have g7 := dr_get (ds := ds) (i := 7) (by omega)
  have n0 : (0 : Int) < ps.length := by omega
  have m0 : (0 : Int) < m := by omega
  have p0 := Int.emod_nonneg (dr ds 2) (Int.ne_of_gt n0)
  have p1 := Int.emod_lt_of_pos (dr ds 2) n0
  have o0 := Int.emod_nonneg (dr ds 3) (Int.ne_of_gt n0)
  have o1 := Int.emod_lt_of_pos (dr ds 3) n0
  have k0 := Int.emod_nonneg (dr ds 4) (Int.ne_of_gt m0)
  have k1 := Int.emod_lt_of_pos (dr ds 4) m0
  obtain ⟨r, hr⟩ := h.st.at p0 p1 k0 k1
  have hrow : atI (w.stock.map rowD) (dr ds 2 % ps.length) = some (rowD r) := by rw [atI_map, hr.ap]; rfl
  have hz := (words7 (decide (dr ds 0 % 10 < lying)) (dr ds 1))
  obtain ⟨wd, hwd, hon⟩ := hz
  have big : ∀ a : Int, 0 < a → a ≤ 1000003 → DOk ps.length m ⟨wd, dr ds 2 % ps.length, dr ds 3 % ps.length, dr ds 4 % m, a, dr ds 7 % 2 == 0⟩ := fun a ha hb => ⟨p0, p1, o0, o1, k0, k1, ha, hb⟩
  have hon2 : lying ≤ 0 → wd = .make ∨ wd = .treat ∨ wd = .hand ∨ wd = .inspect := fun hl => hon (by
    have := Int.emod_nonneg (dr ds 0) (by decide : (10 : Int) ≠ 0)
    simp; omega)
  have hq : fIn (.str (wdS wd)) (.tuple [.str (Str.ofString "hand"), .str (Str.ofString "treat"), .str (Str.ofString "pass"), .str (Str.ofString "dump")]) = some (isQ wd) := by
    cases wd <;> simp [wdS, isQ]
  have fin : ∀ a : Int, 0 < a → (isQ wd = true ∧ 0 < valS w.stock (dr ds 2 % ps.length) (dr ds 4 % m) ∧ 0 < dr ds 6 % 5 → a = 1 + dr ds 5 % valS w.stock (dr ds 2 % ps.length) (dr ds 4 % m)) → (¬ (isQ wd = true ∧ 0 < valS w.stock (dr ds 2 % ps.length) (dr ds 4 % m) ∧ 0 < dr ds 6 % 5) → a = 1 + dr ds 5 % 60) →
      m__law_deed [.int cell, worldD m ps w, .int lying] = .ok ⟨.imm, deedD ⟨wd, dr ds 2 % ps.length, dr ds 3 % ps.length, dr ds 4 % m, a, dr ds 7 % 2 == 0⟩⟩ [] := by
    intro a ha h1 h2
    have go : ∀ L : List D, atI L (dr ds 1 % 7) = some (.str (wdS wd)) → True := fun _ _ => trivial
    cases q : isQ wd with
    | false =>
      have := h2 (by simp [q])
      subst this
      by_cases cl : dr ds 0 % 10 < lying <;> simp [cl] at hwd <;>
        simp [m__law_deed, b__law_deed, worldD, worldX, hd, g0, g1, g2, g3, g4, g5, g6, g7, n0, m0, cl, hwd, hr.ap, hr.ak, rowD, deedD, hn, hm, hq, q, sizeLine]
    | true =>
      by_cases c1 : (0 : Int) < valS w.stock (dr ds 2 % ps.length) (dr ds 4 % m)
      · by_cases c2 : (0 : Int) < dr ds 6 % 5
        · have := h1 ⟨q, c1, c2⟩
          subst this
          by_cases cl : dr ds 0 % 10 < lying <;> simp [cl] at hwd <;>
            simp [m__law_deed, b__law_deed, worldD, worldX, hd, g0, g1, g2, g3, g4, g5, g6, g7, n0, m0, cl, hwd, hr.ap, hr.ak, rowD, deedD, hn, hm, hq, q, c1, c2, sizeLine]
        · have := h2 (by simp [c2])
          subst this
          by_cases cl : dr ds 0 % 10 < lying <;> simp [cl] at hwd <;>
            simp [m__law_deed, b__law_deed, worldD, worldX, hd, g0, g1, g2, g3, g4, g5, g6, g7, n0, m0, cl, hwd, hr.ap, hr.ak, rowD, deedD, hn, hm, hq, q, c1, c2, sizeLine]
      · have := h2 (by simp [c1])
        subst this
        by_cases cl : dr ds 0 % 10 < lying <;> simp [cl] at hwd <;>
          simp [m__law_deed, b__law_deed, worldD, worldX, hd, g0, g1, g2, g3, g4, g5, g6, g7, n0, m0, cl, hwd, hr.ap, hr.ak, rowD, deedD, hn, hm, hq, q, c1, sizeLine]
  by_cases c : isQ wd = true ∧ 0 < valS w.stock (dr ds 2 % ps.length) (dr ds 4 % m) ∧ 0 < dr ds 6 % 5
  · have := Int.emod_nonneg (dr ds 5) (Int.ne_of_gt c.2.1)
    have b5 := dr_lt hdb 5
    have le5 : dr ds 5 % valS w.stock (dr ds 2 % ps.length) (dr ds 4 % m) ≤ dr ds 5 := by
      by_cases z : dr ds 5 < valS w.stock (dr ds 2 % ps.length) (dr ds 4 % m)
      · rw [Int.emod_eq_of_lt (dr_nn hdn 5) z]; exact Int.le_refl _
      · have := Int.emod_lt_of_pos (dr ds 5) c.2.1
        omega
    exact ⟨_, fin _ (by omega) (fun _ => rfl) (fun z => absurd c z), big _ (by omega) (by omega), hon2⟩
  · exact ⟨_, fin (1 + dr ds 5 % 60) (by omega) (fun z => absurd z c) (fun _ => rfl), big _ (by omega) (by omega), hon2⟩
end Law

namespace Law
open PySem Oz L2
variable [Oz.WD]
/-! ### the trail -/
def W0 (n m : Nat) : W := ⟨0, List.replicate n (List.replicate m 0), List.replicate n [], [], [], []⟩
def isHon (d : Deed) : Prop := d.w = .make ∨ d.w = .treat ∨ d.w = .hand ∨ d.w = .inspect
inductive Trail (ps : List (Bool × Bool)) (m : Nat) (lying : Int) : Nat → W → Prop
  | nil : Trail ps m lying 0 (W0 ps.length m)
  | step {c : Nat} {w : W} {d : Deed} : Trail ps m lying c w → DOk ps.length m d → (lying ≤ 0 → isHon d) → Trail ps m lying (c + 1) ((didW ps w d).getD w)
theorem W0_ok (n m : Nat) : WOk n m 0 (W0 n m) :=
  ⟨⟨by simp [W0], fun r hr => by rw [List.eq_of_mem_replicate hr]; simp⟩, by simp [W0], fun f hf => by rw [List.eq_of_mem_replicate hf]; simp, by simp [W0], by simp [W0], by simp [W0]⟩
theorem Trail.ok {ps : List (Bool × Bool)} {m : Nat} {lying : Int} {c : Nat} {w : W} (h : Trail ps m lying c w) : WOk ps.length m (2 * c) w := by
  induction h with
  | nil => exact W0_ok _ _
  | @step c w d t hd hon ih =>
    cases e : didW ps w d with
    | none => exact ih.le (by omega)
    | some w' =>
      have := did_ok ih hd e
      exact this.le (by omega)
theorem e_begun (m : Nat) (ps : List (Bool × Bool)) (hm : m < 100) (hp : ps.length < 100) : m__law_begun [.int m, partiesD ps] = .ok ⟨.own, worldD m ps (W0 ps.length m)⟩ [] := by
  have hr : inR (m : Int) = true := inR_of (by omega) (by omega)
  have hs : sizeLine = 16777216 := rfl
  have hrow : ∀ (A B C D4 E4 : Option R), compE (cN 5) tYesD c__law_begun_0 [A, B, C, D4, E4, none] (irng 0 m) = some ((List.range m).map fun _ => (⟨.imm, .int 0⟩ : R)) := fun A B C D4 E4 => by
    rw [irng_map]
    exact comp_map1 fun k _ => ⟨[A, B, C, D4, E4, some ⟨.imm, .int (0 + k)⟩], by simp, by simp [c__law_begun_0]⟩
  have hcr : compR ((List.range m).map fun _ => (⟨.imm, .int 0⟩ : R)) = .ok ⟨.own, rowD (List.replicate m 0)⟩ := by
    rw [compR_own (e := fun _ => .int 0) (by simp; omega) fun _ _ => rfl]
    simp [rowD, List.map_const']
  have hout : compE (cN 4) tYesD c__law_begun_1 [some ⟨.imm, .int m⟩, some ⟨.imm, partiesD ps⟩, none, none, none, none] (ps.map fun p => (⟨.imm, .tuple [.bool p.1, .bool p.2]⟩ : R)) = some (ps.map fun _ => (⟨.own, rowD (List.replicate m 0)⟩ : R)) := by
    refine comp_map1 fun p _ => ⟨[some ⟨.imm, .int m⟩, some ⟨.imm, partiesD ps⟩, none, none, some ⟨.imm, .tuple [.bool p.1, .bool p.2]⟩, none], by simp, ?_⟩
    simp [c__law_begun_1, q__law_begun_0, hr, hrow, hcr]
  have hcr2 : compR (ps.map fun _ => (⟨.own, rowD (List.replicate m 0)⟩ : R)) = .ok ⟨.own, .list ((List.replicate ps.length (List.replicate m (0 : Int))).map rowD)⟩ := by
    rw [compR_own (e := fun _ => rowD (List.replicate m 0)) (by omega) fun _ _ => rfl]
    simp [List.map_const']
  have hfl : ∀ (S : Option R), compE (cN 4) tYesD c__law_begun_2 [some ⟨.imm, .int m⟩, some ⟨.imm, partiesD ps⟩, S, none, none, none] (ps.map fun p => (⟨.imm, .tuple [.bool p.1, .bool p.2]⟩ : R)) = some (ps.map fun _ => (⟨.own, fileL []⟩ : R)) := fun S => by
    refine comp_map1 fun p _ => ⟨[some ⟨.imm, .int m⟩, some ⟨.imm, partiesD ps⟩, S, none, some ⟨.imm, .tuple [.bool p.1, .bool p.2]⟩, none], by simp, ?_⟩
    simp [c__law_begun_2, fileL, sizeLine]
  have hcr3 : compR (ps.map fun _ => (⟨.own, fileL []⟩ : R)) = .ok ⟨.own, .list ((List.replicate ps.length ([] : List Ent)).map fileL)⟩ := by
    rw [compR_own (e := fun _ => fileL []) (by omega) fun _ _ => rfl]
    simp [List.map_const']
  rw [List.map_const'] at hcr2 hcr3
  simp [m__law_begun, b__law_begun, q__law_begun_1, q__law_begun_2, hout, hcr2, hfl, hcr3, List.map_const', worldD, worldX, W0, wEs, sizeLine]
theorem e_world (ns : List Int) (start many most : Nat) (hmany : many ≤ 60) (hmost : 0 < most) (hmost2 : most ≤ 8) (lying : Int) :
    ∃ (m : Nat) (ps : List (Bool × Bool)) (w : W), m__law_world [scrD (ns.map .int), .int start, .int many, .int most, .int lying] = .ok ⟨.own, worldD m ps w⟩ [] ∧ (1 ≤ m ∧ m ≤ 2) ∧ (1 ≤ ps.length ∧ ps.length ≤ most) ∧ Trail ps m lying many w := by
  have hc := e_cell ns start
  obtain ⟨ps, hps, p1, p2⟩ := e_parties (dr ns start) most hmost hmost2
  obtain ⟨m, hm⟩ := Int.eq_ofNat_of_zero_le (a := 1 + dr ns start / 7 % 2) (by omega)
  have hm3 : 1 ≤ m ∧ m ≤ 2 := by omega
  have hb := e_begun m ps (by omega) (by omega)
  obtain ⟨w, e, t⟩ := loop_st (g := gN 6) (b := l__law_world_0) (item := fun (k : Nat) => (⟨.imm, .int (0 + (k : Int))⟩ : R))
    (fun w => [some ⟨.out, scrD (ns.map .int)⟩, some ⟨.imm, .int start⟩, some ⟨.imm, .int many⟩, none, some ⟨.imm, .int lying⟩, some ⟨.own, worldD m ps w⟩, none])
    (fun pre w => Trail ps m lying pre.length w) (List.range many) (W0 ps.length m) .nil (by
      rintro pre x post w hx t
      obtain ⟨rfl, hx2⟩ := pre_rng hx
      have ok := t.ok
      have hcell : m__law_cell [scrD (ns.map .int), .int ((start : Int) + 1 + (pre.length : Int))] = _ := e_cell ns (start + 1 + pre.length)
      obtain ⟨d, hd, hdo, hon⟩ := e_deed (dr ns (start + 1 + pre.length)) ok (by omega) (by omega) lying
      have hdid := e_did m ok (by omega) hdo
      refine ⟨(didW ps w d).getD w, ?_, by rw [List.length_append]; exact .step t hdo hon⟩
      cases q : didW ps w d <;> rw [q] at hdid <;> simp [outW] at hdid <;> simp [x_stp, l__law_world_0, hcell, hd, hdid])
  rw [← irng_map] at e
  simp at e t
  have hr : inR (many : Int) = true := inR_of (by omega) (by omega)
  refine ⟨m, ps, w, ?_, hm3, ⟨p1, p2⟩, t⟩
  simp [m__law_world, b__law_world, f__law_world_0, hc, hps, hm, hb, hr, e]
/-! ### the evidence -/
def fileT (f : List Ent) : D := .tuple (f.map encE)
@[simp] theorem lf_fileT {f : List Ent} : lf (fileT f) = true := by show Oz.lfs _ = true; rw [lfs_all]; simp
structure Evi where
  kinds : Nat
  parties : List (Bool × Bool)
  files : List (List Ent)
  finds : List Fd
def eviD (e : Evi) : D := .tuple [.int e.kinds, partiesD e.parties, .tuple (e.files.map fileT), .tuple (e.finds.map encF)]
@[simp] theorem lfs_files {fs : List (List Ent)} : Oz.lfs (fs.map fileT) = true := by rw [lfs_all]; simp
@[simp] theorem lfs_finds {fs : List Fd} : Oz.lfs (fs.map encF) = true := by rw [lfs_all]; simp
@[simp] theorem lfs_ents {fs : List Ent} : Oz.lfs (fs.map encE) = true := by rw [lfs_all]; simp
@[simp] theorem lf_eviD {e : Evi} : lf (eviD e) = true := by simp [eviD]
theorem e_evidence (m : Nat) {ps : List (Bool × Bool)} {n mm c : Nat} {w : W} (h : WOk n mm c w) (hn : n < 100) (hc : c < 1000) :
    m__law_evidence [worldD m ps w] = .ok ⟨.imm, eviD ⟨m, ps, w.files, w.finds⟩⟩ [] := by
  have hs : sizeLine = 16777216 := rfl
  have hf : compE (cN 2) tYesD c__law_evidence_0 [some ⟨.out, worldD m ps w⟩, none, none] (w.files.map fun f => (⟨.out, fileL f⟩ : R)) = some (w.files.map fun f => (⟨.imm, fileT f⟩ : R)) := by
    refine comp_map1 fun f _ => ⟨[some ⟨.out, worldD m ps w⟩, none, some ⟨.out, fileL f⟩], by simp, ?_⟩
    simp [c__law_evidence_0, fileL, fileT]
  have hcr : compR (w.files.map fun f => (⟨.imm, fileT f⟩ : R)) = .ok ⟨.own, .list (w.files.map fileT)⟩ := by
    rw [compR_own (e := fileT) (by rw [h.fl]; omega) fun _ _ => by simp]
  simp only [worldD, worldX] at hf
  simp [m__law_evidence, b__law_evidence, q__law_evidence_0, worldD, worldX, Function.comp_def, hf, hcr, eviD, sizeLine]
end Law

namespace Law
open PySem Oz L2
variable [Oz.WD]
/-! ### entries -/
def isCp : Ent → Bool
  | .cp .. => true
  | .pl .. => false
def numE : Ent → Int
  | .pl n _ _ _ => n
  | .cp n _ _ _ _ _ => n
def kE : Ent → Int
  | .pl _ _ k _ => k
  | .cp _ _ k _ _ _ => k
def aE : Ent → Int
  | .pl _ _ _ a => a
  | .cp _ _ _ a _ _ => a
def oE : Ent → Int
  | .pl _ _ _ _ => -1
  | .cp _ _ _ _ o _ => o
def worth : Ent → Int
  | .pl _ w _ a => if w then a else -a
  | .cp _ g _ a _ _ => if g then -a else a
def other (p : Int) : Ent → Ent
  | .pl n w k a => .pl n w k a
  | .cp n g k a _ s => .cp n (!g) k a p s
def wordE : Ent → Str
  | .pl _ w _ _ => if w then "made" else "treated"
  | .cp _ g _ _ _ _ => if g then "gave" else "took"
section
variable {e : Ent} {s t : Sx}
@[simp] theorem ent_len : fLen (encE e) = some (.int (if isCp e then 6 else 4)) := by cases e <;> rfl
@[simp] theorem ent_0 : ixR ⟨s, encE e⟩ ⟨t, .int 0⟩ = .ok ⟨.imm, .int (numE e)⟩ := by cases e <;> simp [encE, numE]
@[simp] theorem ent_1 : ixR ⟨s, encE e⟩ ⟨t, .int 1⟩ = .ok ⟨.imm, .str (wordE e)⟩ := by cases e <;> simp [encE, wordE]
@[simp] theorem ent_2 : ixR ⟨s, encE e⟩ ⟨t, .int 2⟩ = .ok ⟨.imm, .int (kE e)⟩ := by cases e <;> simp [encE, kE]
@[simp] theorem ent_3 : ixR ⟨s, encE e⟩ ⟨t, .int 3⟩ = .ok ⟨.imm, .int (aE e)⟩ := by cases e <;> simp [encE, aE]
end
@[simp] theorem src_file {s : Sx} {f : List Ent} : srcR ⟨s, fileT f⟩ = .ok (f.map fun e => (⟨.imm, encE e⟩ : R)) := by
  simp [fileT, Function.comp_def]
theorem ints_map {xs : List Int} : intsD (xs.map .int) = some xs := by
  induction xs with
  | nil => rfl
  | cons x xs ih => simp [intsD, ih]
@[simp] theorem sum_ints {xs : List Int} : fSum (.list (xs.map .int)) = some (.int xs.sum) := by
  simp [fSum, ints_map]
/-! ### evidence -/
@[simp] theorem evi_2 {e : Evi} {s t : Sx} : ixR ⟨s, eviD e⟩ ⟨t, .int 2⟩ = .ok ⟨.imm, .tuple (e.files.map fileT)⟩ := by simp [eviD]
def fileOf (e : Evi) (p : Int) : List Ent := e.files.getD p.toNat []
structure EOk (e : Evi) : Prop where
  len : e.files.length = e.parties.length
  n8 : e.parties.length ≤ 8
  sz : ∀ f ∈ e.files, f.length ≤ 1000
  oth : ∀ f ∈ e.files, ∀ x ∈ f, isCp x = true → 0 ≤ oE x ∧ oE x < e.parties.length
theorem EOk.at {e : Evi} (h : EOk e) {p : Int} (h0 : 0 ≤ p) (h1 : p < e.parties.length) : atI e.files p = some (fileOf e p) := by
  have : p.toNat < e.files.length := by rw [h.len]; omega
  rw [atI_some h0 (by rw [h.len]; exact h1)]
  simp [fileOf, this]
end Law

namespace Law
open PySem Oz L2
variable [Oz.WD]
/-! ### what holds of the files of a trail -/
structure FOk (n : Nat) (last : Int) (i : Nat) (f : List Ent) : Prop where
  asc : f.Pairwise fun a b => numE a < numE b
  le : ∀ x ∈ f, 1 ≤ numE x ∧ numE x ≤ last
  kk : ∀ x ∈ f, 1 ≤ aE x
  oth : ∀ x ∈ f, isCp x = true → (0 ≤ oE x ∧ oE x < n) ∧ oE x ≠ i
structure FInv (n : Nat) (last : Int) (fs : List (List Ent)) : Prop where
  len : fs.length = n
  l0 : 0 ≤ last
  ok : ∀ i f, fs[i]? = some f → FOk n last i f
theorem FOk.le_last {n : Nat} {last last' : Int} {i : Nat} {f : List Ent} (h : FOk n last i f) (hl : last ≤ last') : FOk n last' i f := ⟨h.asc, fun x hx => ⟨(h.le x hx).1, Int.le_trans (h.le x hx).2 hl⟩, h.kk, h.oth⟩
theorem FInv.last {n : Nat} {last last' : Int} {fs : List (List Ent)} (h : FInv n last fs) (hl : last ≤ last') : FInv n last' fs := ⟨h.len, Int.le_trans h.l0 hl, fun i f e => (h.ok i f e).le_last hl⟩
theorem get_set {fs : List (List Ent)} {p i : Nat} {g f : List Ent} (e : (fs.set p g)[i]? = some f) : (i = p ∧ f = g ∧ p < fs.length) ∨ (i ≠ p ∧ fs[i]? = some f) := by
  by_cases h : p = i
  · subst h
    by_cases hl : p < fs.length
    · rw [List.getElem?_set_self hl] at e
      exact .inl ⟨rfl, (Option.some.inj e).symm, hl⟩
    · rw [List.getElem?_eq_none (by simpa using hl)] at e
      cases e
  · rw [List.getElem?_set_ne h] at e
    exact .inr ⟨Ne.symm h, e⟩
theorem getD_some {fs : List (List Ent)} {p : Nat} (h : p < fs.length) : fs[p]? = some (fs.getD p []) := by simp [h]
theorem FInv.add {n : Nat} {last last' : Int} {fs : List (List Ent)} (h : FInv n last fs) {p : Int} (p0 : 0 ≤ p) {e : Ent} (hn : numE e = last') (hl : last < last') (hk : 1 ≤ aE e) (ho : isCp e = true → (0 ≤ oE e ∧ oE e < n) ∧ oE e ≠ p) : FInv n last' (addE fs p e) := by
  refine ⟨by rw [addE_len]; exact h.len, by have := h.l0; omega, fun i f q => ?_⟩
  rcases get_set q with ⟨rfl, rfl, hlt⟩ | ⟨_, q⟩
  · have ok := h.ok _ _ (getD_some hlt)
    refine ⟨?_, fun x hx => ?_, fun x hx => ?_, fun x hx hc => ?_⟩
    · rw [List.pairwise_append]
      refine ⟨ok.asc, by simp, fun a ha b hb => ?_⟩
      simp at hb
      subst hb
      have := (ok.le a ha).2
      omega
    · rcases List.mem_append.mp hx with z | z
      · have := ok.le x z; omega
      · simp at z; subst z; have := h.l0; omega
    · rcases List.mem_append.mp hx with z | z
      · exact ok.kk x z
      · simp at z; subst z; exact hk
    · rcases List.mem_append.mp hx with z | z
      · exact ok.oth x z hc
      · simp at z
        subst z
        refine ⟨(ho hc).1, ?_⟩
        have := (ho hc).2
        omega
  · exact (h.ok i f q).le_last (by omega)
theorem FInv.add2 {n : Nat} {last : Int} {fs : List (List Ent)} (h : FInv n last fs) {p o : Int} (p0 : 0 ≤ p) (o0 : 0 ≤ o) (ne : p ≠ o) {e e2 : Ent} (hn : numE e = last + 1) (hn2 : numE e2 = last + 1) (hk : 1 ≤ aE e) (hk2 : 1 ≤ aE e2) (ho : isCp e = true → (0 ≤ oE e ∧ oE e < n) ∧ oE e ≠ p) (ho2 : isCp e2 = true → (0 ≤ oE e2 ∧ oE e2 < n) ∧ oE e2 ≠ o) : FInv n (last + 1) (addE (addE fs p e) o e2) := by
  have h1 := h.add p0 hn (by omega) hk ho
  have h2 := h.add o0 hn2 (by omega) hk2 ho2
  refine ⟨by rw [addE_len, addE_len]; exact h.len, h1.l0, fun i f q => ?_⟩
  have no : p.toNat ≠ o.toNat := by omega
  rcases get_set q with ⟨rfl, rfl, hlt⟩ | ⟨_, q⟩
  · have e1 : (addE fs p e).getD o.toNat [] = fs.getD o.toNat [] := by
      simp only [addE, List.getD_eq_getElem?_getD]
      rw [List.getElem?_set_ne no]
    rw [e1]
    refine h2.ok _ _ ?_
    rw [addE, List.getElem?_set_self (by rw [addE_len] at hlt; exact hlt)]
  · exact h1.ok i f q
theorem FInv.erase {n : Nat} {last : Int} {fs : List (List Ent)} (h : FInv n last fs) {p k : Nat} : FInv n last (fs.set p ((fs.getD p []).eraseIdx k)) := by
  refine ⟨by simp [h.len], h.l0, fun i f q => ?_⟩
  rcases get_set q with ⟨rfl, rfl, hlt⟩ | ⟨_, q⟩
  · have ok := h.ok _ _ (getD_some hlt)
    have sb := List.eraseIdx_sublist (fs.getD i []) k
    exact ⟨ok.asc.sublist sb, fun x hx => ok.le x (sb.subset hx), fun x hx => ok.kk x (sb.subset hx), fun x hx => ok.oth x (sb.subset hx)⟩
  · exact h.ok i f q
theorem did_files {ps : List (Bool × Bool)} {m : Nat} {w w' : W} {d : Deed} (hd : DOk ps.length m d) (h : FInv ps.length w.last w.files) (e : didW ps w d = some w') : FInv ps.length w'.last w'.files ∧ w'.last ≤ w.last + 1 := by
  obtain ⟨dw, dp, do_, dk, da, ds⟩ := d
  have p0 := hd.p0
  have p1 := hd.p1
  have o0 := hd.o0
  have o1 := hd.o1
  have a0 := hd.a0
  simp only at p0 p1 o0 o1 a0
  cases dw
  · simp only [didW, honestW] at e
    split at e
    · cases e; exact ⟨h.add p0 rfl (by simp only; omega) (by simp [aE]; omega) (by simp [isCp]), Int.le_refl _⟩
    · cases e
  · simp only [didW, honestW] at e
    split at e
    · cases e; exact ⟨h.add p0 rfl (by simp only; omega) (by simp [aE]; omega) (by simp [isCp]), Int.le_refl _⟩
    · cases e
  · simp only [didW, honestW] at e
    split at e
    · rename_i c
      cases e; exact ⟨h.add2 p0 o0 c.1 rfl rfl (by simp [aE]; omega) (by simp [aE]; omega) (fun _ => ⟨⟨o0, o1⟩, Ne.symm c.1⟩) (fun _ => ⟨⟨p0, p1⟩, c.1⟩), Int.le_refl _⟩
    · cases e
  · simp only [didW, honestW] at e
    cases e
    exact ⟨h.last (by simp; omega), Int.le_refl _⟩
  · simp only [didW, liedW2, liedW] at e
    split at e
    · cases e; exact ⟨h, by simp; omega⟩
    · cases e
  · simp only [didW, liedW2, liedW] at e
    split at e
    · cases e; exact ⟨h, by simp; omega⟩
    · cases e
  · simp only [didW, liedW2, liedW] at e
    split at e
    · cases e; exact ⟨h, by simp; omega⟩
    · cases e
  · simp only [didW, liedW2, liedW] at e
    split at e
    · rename_i c
      cases e; exact ⟨h.add2 p0 o0 c rfl rfl (by simp [aE]; omega) (by simp [aE]; omega) (fun _ => ⟨⟨o0, o1⟩, Ne.symm c⟩) (fun _ => ⟨⟨p0, p1⟩, c⟩), Int.le_refl _⟩
    · cases e
  · simp only [didW, liedW2, liedW] at e
    cases e
    refine ⟨?_, Int.le_refl _⟩
    by_cases c : dp = do_
    · simp only [if_pos c]
      exact h.add p0 rfl (by omega) (by simp [aE]; omega) (by simp [isCp])
    · simp only [if_neg c]
      exact h.add p0 rfl (by omega) (by simp [aE]; omega) fun _ => ⟨⟨o0, o1⟩, Ne.symm c⟩
  · simp only [didW, liedW2, liedW] at e
    split at e
    · cases e; exact ⟨h.erase, by simp; omega⟩
    · cases e
theorem Trail.files {ps : List (Bool × Bool)} {m : Nat} {lying : Int} {c : Nat} {w : W} (h : Trail ps m lying c w) : FInv ps.length w.last w.files ∧ w.last ≤ c := by
  induction h with
  | nil => exact ⟨⟨by simp [W0], by simp [W0], fun i f e => by
      have := List.eq_of_mem_replicate (List.mem_of_getElem? e)
      subst this
      exact ⟨by simp, by simp, by simp, by simp⟩⟩, by simp [W0]⟩
  | @step c w d t hd hon ih =>
    cases e : didW ps w d with
    | none => exact ⟨ih.1, by have := ih.2; simp; omega⟩
    | some w' =>
      obtain ⟨q1, q2⟩ := did_files hd ih.1 e
      exact ⟨q1, by have := ih.2; simp; omega⟩
/-! ### honest deeds alone: every copy has its other copy -/
def Mir (fs : List (List Ent)) : Prop := ∀ (i : Nat) (f : List Ent), fs[i]? = some f → ∀ x ∈ f, isCp x = true → other (i : Int) x ∈ fs.getD (oE x).toNat []
theorem mem_add {fs : List (List Ent)} {p : Int} {e x : Ent} {i : Nat} (h : x ∈ fs.getD i []) : x ∈ (addE fs p e).getD i [] := by
  unfold addE
  by_cases c : p.toNat = i
  · subst c
    by_cases hl : p.toNat < fs.length
    · simp [hl] at h ⊢
      exact .inl h
    · rw [List.set_eq_of_length_le (by omega)]
      exact h
  · rw [List.getD_eq_getElem?_getD, List.getElem?_set_ne c, ← List.getD_eq_getElem?_getD]
    exact h
theorem Mir.plain {fs : List (List Ent)} (h : Mir fs) {p : Int} {e : Ent} (he : isCp e = false) : Mir (addE fs p e) := by
  intro i f q x hx hc
  rcases get_set q with ⟨rfl, rfl, hlt⟩ | ⟨_, q⟩
  · rcases List.mem_append.mp hx with z | z
    · exact mem_add (h _ _ (getD_some hlt) x z hc)
    · simp at z; subst z; rw [he] at hc; cases hc
  · exact mem_add (h _ _ q x hx hc)
end Law

namespace Law
open PySem Oz L2
variable [Oz.WD]
/-! ### what a trail's files and finds are -/
theorem row_nn {S : List (List Int)} (h : ∀ r ∈ S, ∀ v ∈ r, 0 ≤ v) (i : Nat) : ∀ v ∈ S.getD i [], 0 ≤ v := fun v hv => by
  rw [List.getD_eq_getElem?_getD] at hv
  cases e : S[i]? with
  | none => rw [e] at hv; cases hv
  | some r => rw [e] at hv; exact h r (List.mem_of_getElem? e) v hv
theorem val_nn {S : List (List Int)} (h : ∀ r ∈ S, ∀ v ∈ r, 0 ≤ v) (p k : Int) : 0 ≤ valS S p k := by
  unfold valS
  rw [List.getD_eq_getElem?_getD]
  cases e : (S.getD p.toNat [])[k.toNat]? with
  | none => exact Int.le_refl 0
  | some v => exact row_nn h p.toNat v (List.mem_of_getElem? e)
theorem upd_nn {S : List (List Int)} (h : ∀ r ∈ S, ∀ v ∈ r, 0 ≤ v) {p k v : Int} (hv : 0 ≤ v) : ∀ r ∈ updS S p k v, ∀ x ∈ r, 0 ≤ x := fun r hr x hx => by
  unfold updS at hr
  rcases List.mem_or_eq_of_mem_set hr with z | z
  · exact h r z x hx
  · subst z
    rcases List.mem_or_eq_of_mem_set hx with y | y
    · exact row_nn h p.toNat x y
    · rw [y]; exact hv
structure WB (n m : Nat) (w : W) : Prop where
  e : ∀ f ∈ w.files, ∀ x ∈ f, 0 ≤ kE x ∧ kE x < m
  s : ∀ r ∈ w.stock, ∀ v ∈ r, 0 ≤ v
  f : ∀ q ∈ w.finds, (1 ≤ q.num ∧ q.num ≤ w.last) ∧ (0 ≤ q.p ∧ q.p < n) ∧ (0 ≤ q.k ∧ q.k < m) ∧ 0 ≤ q.a
  fi : (w.finds.map (·.num)).Pairwise (· < ·)
  dj : ∀ f ∈ w.files, ∀ x ∈ f, ∀ q ∈ w.finds, numE x ≠ q.num
theorem mem_addX {fs : List (List Ent)} {p : Int} {e x : Ent} {g : List Ent} (hg : g ∈ addE fs p e) (hx : x ∈ g) : x = e ∨ ∃ g' ∈ fs, x ∈ g' := by
  unfold addE at hg
  rcases List.mem_or_eq_of_mem_set hg with z | z
  · exact .inr ⟨g, z, hx⟩
  · rw [z] at hx
    rcases List.mem_append.mp hx with y | y
    · by_cases c : p.toNat < fs.length
      · exact .inr ⟨_, List.mem_of_getElem? (getD_some c), y⟩
      · rw [List.getD_eq_getElem?_getD, List.getElem?_eq_none (by omega)] at y
        cases y
    · exact .inl (by simpa using y)
theorem did_wb {ps : List (Bool × Bool)} {m : Nat} {w w' : W} {d : Deed} (hd : DOk ps.length m d) (hf : FInv ps.length w.last w.files) (h : WB ps.length m w) (e : didW ps w d = some w') : WB ps.length m w' := by
  have l0 := hf.l0
  have hle : ∀ f ∈ w.files, ∀ x ∈ f, numE x ≤ w.last := fun f hg x hx => by
    obtain ⟨i, hi, e1⟩ := List.mem_iff_getElem.mp hg
    exact ((hf.ok i f (by rw [List.getElem?_eq_getElem hi]; exact congrArg some e1)).le x hx).2
  have hfw : ∀ q ∈ w.finds, (1 ≤ q.num ∧ q.num ≤ w.last + 1) ∧ (0 ≤ q.p ∧ q.p < ps.length) ∧ (0 ≤ q.k ∧ q.k < m) ∧ 0 ≤ q.a := fun q hq => by
    obtain ⟨a, b, c, d⟩ := h.f q hq
    exact ⟨⟨a.1, by have := a.2; omega⟩, b, c, d⟩
  obtain ⟨dw, dp, do_, dk, da, ds⟩ := d
  have p0 := hd.p0
  have p1 := hd.p1
  have k0 := hd.k0
  have k1 := hd.k1
  have a0 := hd.a0
  simp only at p0 p1 k0 k1 a0
  have v1 := val_nn h.s dp dk
  have ad : ∀ {fs : List (List Ent)} {p : Int} {x : Ent}, (∀ f ∈ fs, ∀ x ∈ f, 0 ≤ kE x ∧ kE x < m) → (0 ≤ kE x ∧ kE x < m) → ∀ f ∈ addE fs p x, ∀ y ∈ f, 0 ≤ kE y ∧ kE y < m := fun {fs p x} h1 h2 f hf y hy => (mem_addX hf hy).elim (fun z => z ▸ h2) fun ⟨g, hg, z⟩ => h1 g hg y z
  have dj : ∀ {fs : List (List Ent)} {p : Int} {x : Ent}, (∀ f ∈ fs, ∀ x ∈ f, ∀ q ∈ w.finds, numE x ≠ q.num) → numE x = w.last + 1 → ∀ f ∈ addE fs p x, ∀ y ∈ f, ∀ q ∈ w.finds, numE y ≠ q.num := fun {fs p x} h1 h2 f hf y hy q hq => (mem_addX hf hy).elim (fun z => by
    subst z
    have := (h.f q hq).1.2
    omega) fun ⟨g, hg, z⟩ => h1 g hg y z q hq
  have one : ∀ {v : Int}, 0 ≤ v → ∀ r ∈ updS w.stock dp dk v, ∀ u ∈ r, 0 ≤ u := fun hv => upd_nn h.s hv
  have two : da ≤ valS w.stock dp dk → ∀ r ∈ updS (updS w.stock dp dk (valS w.stock dp dk - da)) do_ dk (valS (updS w.stock dp dk (valS w.stock dp dk - da)) do_ dk + da), ∀ u ∈ r, 0 ≤ u := fun c => by
    have m1 := one (v := valS w.stock dp dk - da) (by omega)
    have v2 := val_nn m1 do_ dk
    exact upd_nn m1 (by omega)
  cases dw
  · simp only [didW, honestW] at e
    split at e
    · cases e; exact ⟨ad h.e ⟨k0, k1⟩, one (by omega), hfw, h.fi, dj h.dj rfl⟩
    · cases e
  · simp only [didW, honestW] at e
    split at e
    · rename_i c
      cases e; exact ⟨ad h.e ⟨k0, k1⟩, one (by have := c.2; omega), hfw, h.fi, dj h.dj rfl⟩
    · cases e
  · simp only [didW, honestW] at e
    split at e
    · rename_i c
      cases e; exact ⟨ad (ad h.e ⟨k0, k1⟩) ⟨k0, k1⟩, two c.2, hfw, h.fi, dj (dj h.dj rfl) rfl⟩
    · cases e
  · simp only [didW, honestW] at e
    cases e
    refine ⟨h.e, h.s, fun q hq => ?_, ?_, fun f hf x hx q hq => ?_⟩
    · rcases List.mem_append.mp hq with z | z
      · exact hfw q z
      · rw [List.mem_singleton.mp z]
        exact ⟨⟨by show 1 ≤ w.last + 1; omega, Int.le_refl _⟩, ⟨p0, p1⟩, ⟨k0, k1⟩, v1⟩
    · rw [List.map_append, List.pairwise_append]
      refine ⟨h.fi, by simp, fun y hy z hz => ?_⟩
      obtain ⟨q, hq, rfl⟩ := List.mem_map.mp hy
      have hz : z = w.last + 1 := by simpa using hz
      have := (h.f q hq).1.2
      omega
    · rcases List.mem_append.mp hq with z | z
      · exact h.dj f hf x hx q z
      · rw [List.mem_singleton.mp z]
        have := hle f hf x hx
        show numE x ≠ w.last + 1
        omega
  · simp only [didW, liedW2, liedW] at e
    split at e
    · rename_i c
      cases e; exact ⟨h.e, two c.2, h.f, h.fi, h.dj⟩
    · cases e
  · simp only [didW, liedW2, liedW] at e
    split at e
    · rename_i c
      cases e; exact ⟨h.e, one (by omega), h.f, h.fi, h.dj⟩
    · cases e
  · simp only [didW, liedW2, liedW] at e
    split at e
    · cases e; exact ⟨h.e, one (by omega), h.f, h.fi, h.dj⟩
    · cases e
  · simp only [didW, liedW2, liedW] at e
    split at e
    · cases e; exact ⟨ad (ad h.e ⟨k0, k1⟩) ⟨k0, k1⟩, h.s, hfw, h.fi, dj (dj h.dj rfl) rfl⟩
    · cases e
  · simp only [didW, liedW2, liedW] at e
    cases e
    by_cases c : dp = do_
    · simp only [if_pos c]
      exact ⟨ad h.e ⟨k0, k1⟩, h.s, hfw, h.fi, dj h.dj rfl⟩
    · simp only [if_neg c]
      exact ⟨ad h.e ⟨k0, k1⟩, h.s, hfw, h.fi, dj h.dj rfl⟩
  · simp only [didW, liedW2, liedW] at e
    split at e
    · cases e
      have sb : ∀ f ∈ w.files.set dp.toNat ((w.files.getD dp.toNat []).eraseIdx (da % ((w.files.getD dp.toNat []).length : Int)).toNat), ∀ x ∈ f, ∃ g ∈ w.files, x ∈ g := fun f hf x hx => by
        rcases List.mem_or_eq_of_mem_set hf with z | z
        · exact ⟨f, z, hx⟩
        · rw [z] at hx
          have hx := (List.eraseIdx_sublist _ _).subset hx
          by_cases c : dp.toNat < w.files.length
          · exact ⟨_, List.mem_of_getElem? (getD_some c), hx⟩
          · rw [List.getD_eq_getElem?_getD, List.getElem?_eq_none (by omega)] at hx
            cases hx
      exact ⟨fun f hf x hx => by obtain ⟨g, hg, z⟩ := sb f hf x hx; exact h.e g hg x z, h.s, h.f, h.fi, fun f hf x hx q hq => by obtain ⟨g, hg, z⟩ := sb f hf x hx; exact h.dj g hg x z q hq⟩
    · cases e
theorem Trail.wb {ps : List (Bool × Bool)} {m : Nat} {lying : Int} {c : Nat} {w : W} (h : Trail ps m lying c w) : WB ps.length m w := by
  induction h with
  | nil =>
    refine ⟨fun f hf x hx => ?_, fun r hr v hv => ?_, fun q hq => ?_, ?_, fun f hf x hx => ?_⟩
    · rw [List.eq_of_mem_replicate hf] at hx; cases hx
    · rw [List.eq_of_mem_replicate hr] at hv
      rw [List.eq_of_mem_replicate hv]
      exact Int.le_refl _
    · cases hq
    · exact List.Pairwise.nil
    · rw [List.eq_of_mem_replicate hf] at hx; cases hx
  | @step c w d t hd hon ih =>
    cases e : didW ps w d with
    | none => exact ih
    | some w' => exact did_wb hd t.files.1 ih e
end Law

namespace Law
open PySem Oz L2
variable [Oz.WD]
/-! ### the files' own functions -/
def stand (f : List Ent) (k n : Int) : Int := ((f.filter fun e => kE e == k && decide (numE e < n)).map worth).sum
end Law

namespace Law
open PySem Oz L2
variable [Oz.WD]
/-! ### conflicts -/
inductive Cf where
  | bk (p n : Int)
  | ms (p n : Int)
  | df (a b n : Int)
  deriving DecidableEq
def encC : Cf → D
  | .bk p n => .tuple [.str "books", .tuple [.int p], .int n]
  | .ms p n => .tuple [.str "missing", .tuple [.int p], .int n]
  | .df a b n => .tuple [.str "differs", .tuple [.int a, .int b], .int n]
@[simp] theorem lf_encC {c : Cf} : lf (encC c) = true := by cases c <;> simp [encC]
theorem lfs_map {α : Type} {f : α → D} {xs : List α} (h : ∀ x, lf (f x) = true) : lfs (xs.map f) = true := by
  rw [lfs_all, List.all_map, List.all_eq_true]
  exact fun x _ => h x
@[simp] theorem lfs_encC {xs : List Cf} : lfs (xs.map encC) = true := lfs_map fun x => lf_encC
@[simp] theorem lfs_app2 {xs ys : List D} : lfs (xs ++ ys) = (lfs xs && lfs ys) := by rw [lfs_all, lfs_all, lfs_all, List.all_append]
@[simp] theorem sub_encF {s : Sx} : sub s ∘ encF = fun q => (⟨.imm, encF q⟩ : R) := funext fun q => by simp [Function.comp_def]
@[simp] theorem evi_1 {e : Evi} {s t : Sx} : ixR ⟨s, eviD e⟩ ⟨t, .int 1⟩ = .ok ⟨.imm, partiesD e.parties⟩ := by simp [eviD]
@[simp] theorem evi_3 {e : Evi} {s t : Sx} : ixR ⟨s, eviD e⟩ ⟨t, .int 3⟩ = .ok ⟨.imm, .tuple (e.finds.map encF)⟩ := by simp [eviD]
/-! ### missing copies -/
/-! ### what differs -/
/-! ### all of them -/
end Law

namespace Law
open PySem Oz L2
variable [Oz.WD]
/-! ### spoilt evidence -/
def filesS (fs : List (List Ent)) (o : Nat) (f : List Ent) : List (List Ent) := fs.take o ++ f :: fs.drop (o + 1)
theorem filesS_len {fs : List (List Ent)} {o : Nat} {f : List Ent} (h : o < fs.length) : (filesS fs o f).length = fs.length := by
  simp only [filesS, List.length_append, List.length_take, List.length_cons, List.length_drop]; omega
theorem filesS_mem {fs : List (List Ent)} {o : Nat} {f g : List Ent} (h : g ∈ filesS fs o f) : g = f ∨ g ∈ fs := by
  unfold filesS at h
  rcases List.mem_append.mp h with z | z
  · exact .inr (List.mem_of_mem_take z)
  · rcases List.mem_cons.mp z with z | z
    · exact .inl z
    · exact .inr (List.mem_of_mem_drop z)
@[simp] theorem dnew_ent {s : Sx} {f : List Ent} : dnew s (f.map encE) = .ok ⟨.own, .list (f.map encE)⟩ := dnew_lf (lfs_map fun x => lf_encE)
@[simp] theorem lfs_fileT {fs : List (List Ent)} : lfs (fs.map fileT) = true := lfs_map fun f => by show lfs (f.map encE) = true; exact lfs_map fun x => lf_encE
@[simp] theorem lfs_ent {f : List Ent} : lfs (f.map encE) = true := lfs_map fun x => lf_encE
def rowOk (n : Nat) (x : Ent) : Prop := isCp x = true → 0 ≤ oE x ∧ oE x < n
/-- the file behind: its entries are fit, and it is at most one longer -/
def FileOk (Pr : Ent → Prop) (n k : Nat) (f : List Ent) : Prop := f.length ≤ k ∧ ∀ x ∈ f, rowOk n x ∧ Pr x
def setA (a : Int) : Ent → Ent
  | .pl n w k _ => .pl n w k a
  | .cp n g k _ o s => .cp n g k a o s
def setK (k : Int) : Ent → Ent
  | .pl n w _ a => .pl n w k a
  | .cp n g _ a o s => .cp n g k a o s
def setS : Ent → Ent
  | .pl n w k a => .pl n w k a
  | .cp n g k a o s => .cp n g k a o (!s)
section
variable {n : Nat} {x : Ent}
theorem rowOk.a {v : Int} (h : rowOk n x) : rowOk n (setA v x) := by cases x <;> exact h
theorem rowOk.k {v : Int} (h : rowOk n x) : rowOk n (setK v x) := by cases x <;> exact h
theorem rowOk.s (h : rowOk n x) : rowOk n (setS x) := by cases x <;> exact h
end
theorem FileOk.set {Pr : Ent → Prop} {n k : Nat} {f : List Ent} (h : FileOk Pr n k f) {a : Nat} {x : Ent} (hx : rowOk n x ∧ Pr x) : FileOk Pr n (k + 1) (f.set a x) :=
  ⟨by rw [List.length_set]; exact Nat.le_succ_of_le h.1, fun y hy => (List.mem_or_eq_of_mem_set hy).elim (h.2 y) fun z => z ▸ hx⟩
/-- what is kept when evidence is spoilt -/
structure Keep (kn : Nat) (Pr : Ent → Prop) : Prop where
  a : ∀ (x : Ent) (v : Int), 1 ≤ v → v ≤ 60 → Pr x → Pr (setA v x)
  k : ∀ (x : Ent) (v : Int), 0 ≤ v → v < (kn : Int) → Pr x → Pr (setK v x)
  s : ∀ x, Pr x → Pr (setS x)
  n : ∀ x, 1 ≤ numE x → numE x ≤ 40 → kE x = 0 → 1 ≤ aE x → aE x ≤ 60 → Pr x
theorem EOk.spoilt {Pr : Ent → Prop} {e : Evi} {k o : Nat} {f : List Ent} (h : EOk e) (hk : ∀ f ∈ e.files, f.length ≤ k) (hk2 : k + 1 ≤ 1000) (ho : o < e.files.length) (hf : FileOk Pr e.parties.length (k + 1) f) :
    EOk ⟨e.kinds, e.parties, filesS e.files o f, e.finds⟩ ∧ ∀ g ∈ filesS e.files o f, g.length ≤ k + 1 := by
  have sz : ∀ g ∈ filesS e.files o f, g.length ≤ k + 1 := fun g hg => (filesS_mem hg).elim (fun z => z ▸ hf.1) fun z => Nat.le_succ_of_le (hk g z)
  exact ⟨⟨by rw [filesS_len ho]; exact h.len, h.n8, fun g hg => Nat.le_trans (sz g hg) hk2, fun g hg x hx hc => (filesS_mem hg).elim (fun z => (hf.2 x (z ▸ hx)).1 hc) fun z => h.oth g z x hx hc⟩, sz⟩
end Law

namespace Law
open PySem Oz L2
variable [Oz.WD]
/-! ### evidence is small enough to be shown -/
def Bd (i : Int) : Prop := -999999999999 ≤ i ∧ i ≤ 999999999999
structure ShD (b dep : Nat) (d : D) : Prop where
  p : pl d = true
  s : d.showable = true
  n : d.hasDict = false
  l : d.leavesShort 13 = true
  dp : d.depth ≤ dep
  bk : d.bulk ≤ b
structure ShL (b dep : Nat) (ds : List D) : Prop where
  p : pls ds = true
  s : PyData.showableAll ds = true
  n : PyData.hasDictAll ds = false
  l : PyData.leavesShortAll 13 ds = true
  dp : PyData.depthAll ds ≤ dep
  bk : PyData.bulkAll ds ≤ b
theorem ShD.mono {b b' dep dep' : Nat} {d : D} (h : ShD b dep d) (h1 : b ≤ b') (h2 : dep ≤ dep') : ShD b' dep' d := ⟨h.p, h.s, h.n, h.l, Nat.le_trans h.dp h2, Nat.le_trans h.bk h1⟩
theorem ShL.nil {dep : Nat} : ShL 0 dep [] := ⟨rfl, by simp [PyData.showableAll], by simp [PyData.hasDictAll], by simp [PyData.leavesShortAll], by simp [PyData.depthAll], by simp [PyData.bulkAll]⟩
theorem ShL.cons {a b c dep : Nat} {d : D} {ds : List D} (h : ShD a dep d) (t : ShL b dep ds) (hc : a + 1 + b ≤ c) : ShL c dep (d :: ds) := by
  refine ⟨?_, ?_, ?_, ?_, ?_, ?_⟩
  · show (_ && _) = true
    rw [h.p, t.p]; rfl
  · rw [PyData.showableAll, h.s, t.s]; rfl
  · rw [PyData.hasDictAll, h.n, t.n]; rfl
  · rw [PyData.leavesShortAll, h.l, t.l]; rfl
  · rw [PyData.depthAll]; have := h.dp; have := t.dp; omega
  · rw [PyData.bulkAll]; have := h.bk; have := t.bk; omega
theorem ShL.tup {b dep : Nat} {ds : List D} (h : ShL b dep ds) : ShD b (dep + 1) (.tuple ds) :=
  ⟨by simpa [pl] using h.p, by simpa [PyData.showable] using h.s, by simpa [PyData.hasDict] using h.n, by simpa [PyData.leavesShort] using h.l, by rw [PyData.depth]; have := h.dp; omega, by rw [PyData.bulk]; exact h.bk⟩
theorem ShL.map {α : Type} {f : α → D} {b dep n : Nat} : ∀ {xs : List α}, (∀ x ∈ xs, ShD b dep (f x)) → xs.length ≤ n → ShL ((b + 1) * n) dep (xs.map f)
  | [], _, _ => have z : ShL 0 dep [] := ShL.nil
    ⟨z.p, z.s, z.n, z.l, z.dp, Nat.le_trans z.bk (Nat.zero_le _)⟩
  | x :: xs, h, hl => by
    obtain ⟨m, rfl⟩ : ∃ m, n = m + 1 := ⟨n - 1, by simp at hl; omega⟩
    have t := ShL.map (n := m) (xs := xs) (fun y hy => h y (by simp [hy])) (by simpa using hl)
    exact ShL.cons (h x (by simp)) t (by rw [Nat.mul_add]; omega)
def smE (x : Ent) : Prop := Bd (numE x) ∧ Bd (kE x) ∧ Bd (aE x)
def smF (q : Fd) : Prop := (Bd q.num ∧ Bd q.p) ∧ Bd q.k ∧ Bd q.a
/-! ### trails are small -/
def eB (m : Nat) (x : Ent) : Prop := aE x ≤ 1000003 ∧ 0 ≤ kE x ∧ kE x < m
structure TB (n m c : Nat) (w : W) : Prop where
  e : ∀ f ∈ w.files, ∀ x ∈ f, eB m x
  s : ∀ r ∈ w.stock, ∀ v ∈ r, -(2000006 * (c : Int)) ≤ v ∧ v ≤ 2000006 * (c : Int)
  f : ∀ q ∈ w.finds, (1 ≤ q.num ∧ q.num ≤ c) ∧ (0 ≤ q.p ∧ q.p < n) ∧ (0 ≤ q.k ∧ q.k < m) ∧ -(2000006 * (c : Int)) ≤ q.a ∧ q.a ≤ 2000006 * (c : Int)
theorem mem_addE {fs : List (List Ent)} {p : Int} {e x : Ent} {g : List Ent} (hg : g ∈ addE fs p e) (hx : x ∈ g) : x = e ∨ ∃ g' ∈ fs, x ∈ g' := by
  unfold addE at hg
  rcases List.mem_or_eq_of_mem_set hg with z | z
  · exact .inr ⟨g, z, hx⟩
  · rw [z] at hx
    rcases List.mem_append.mp hx with y | y
    · by_cases c : p.toNat < fs.length
      · exact .inr ⟨_, List.mem_of_getElem? (getD_some c), y⟩
      · rw [List.getD_eq_getElem?_getD, List.getElem?_eq_none (by omega)] at y
        cases y
    · exact .inl (by simpa using y)
theorem vals_bd {S : List (List Int)} {B : Int} (h0 : 0 ≤ B) (h : ∀ r ∈ S, ∀ v ∈ r, -B ≤ v ∧ v ≤ B) (p k : Int) : -B ≤ valS S p k ∧ valS S p k ≤ B := by
  unfold valS
  rw [List.getD_eq_getElem?_getD]
  cases e : (S.getD p.toNat [])[k.toNat]? with
  | none => exact ⟨by show -B ≤ 0; omega, h0⟩
  | some v =>
    have hv := List.mem_of_getElem? e
    by_cases c : p.toNat < S.length
    · have : S.getD p.toNat [] = S[p.toNat] := by simp [c]
      rw [this] at hv
      exact h _ (List.getElem_mem c) v hv
    · rw [List.getD_eq_getElem?_getD, List.getElem?_eq_none (by omega)] at hv
      cases hv
theorem upd_bd {S : List (List Int)} {B B' : Int} (hB : B ≤ B') (h : ∀ r ∈ S, ∀ v ∈ r, -B ≤ v ∧ v ≤ B) {p k v : Int} (hv : -B' ≤ v ∧ v ≤ B') : ∀ r ∈ updS S p k v, ∀ u ∈ r, -B' ≤ u ∧ u ≤ B' := fun r hr u hu => by
  have up : ∀ u, (-B ≤ u ∧ u ≤ B) → -B' ≤ u ∧ u ≤ B' := fun u z => ⟨by omega, by omega⟩
  unfold updS at hr
  rcases List.mem_or_eq_of_mem_set hr with z | z
  · exact up u (h r z u hu)
  · rw [z] at hu
    rcases List.mem_or_eq_of_mem_set hu with y | y
    · by_cases c : p.toNat < S.length
      · have e : S.getD p.toNat [] = S[p.toNat] := by simp [c]
        rw [e] at y
        exact up u (h _ (List.getElem_mem c) u y)
      · rw [List.getD_eq_getElem?_getD, List.getElem?_eq_none (by omega)] at y
        cases y
    · rw [y]; exact hv
theorem TB.wait {n m c : Nat} {w : W} (h : TB n m c w) : TB n m (c + 1) w :=
  ⟨h.e, fun r hr v hv => by have := h.s r hr v hv; exact ⟨by omega, by omega⟩, fun q hq => by obtain ⟨a, b, d, e1, e2⟩ := h.f q hq; exact ⟨⟨a.1, by have := a.2; omega⟩, b, d, by omega, by omega⟩⟩
theorem did_tb {ps : List (Bool × Bool)} {m c : Nat} {w w' : W} {d : Deed} (hd : DOk ps.length m d) (hl0 : 0 ≤ w.last) (hl : w.last ≤ c) (h : TB ps.length m c w) (e : didW ps w d = some w') : TB ps.length m (c + 1) w' := by
  have hw := h.wait
  obtain ⟨dw, dp, do_, dk, da, ds⟩ := d
  have p0 := hd.p0
  have p1 := hd.p1
  have k0 := hd.k0
  have k1 := hd.k1
  have a0 := hd.a0
  have a1 := hd.a1
  simp only at p0 p1 k0 k1 a0 a1
  have v1 := vals_bd (B := 2000006 * (c : Int)) (by omega) h.s dp dk
  have eN : ∀ (num : Int) (made : Bool), eB m (.pl num made dk da) := fun _ _ => ⟨a1, k0, k1⟩
  have eC : ∀ (num : Int) (g : Bool) (o : Int) (s : Bool), eB m (.cp num g dk da o s) := fun _ _ _ _ => ⟨a1, k0, k1⟩
  have ad : ∀ {fs : List (List Ent)} {p : Int} {x : Ent}, (∀ f ∈ fs, ∀ x ∈ f, eB m x) → eB m x → ∀ f ∈ addE fs p x, ∀ y ∈ f, eB m y := fun {fs p x} h1 h2 f hf y hy => (mem_addE hf hy).elim (fun z => z ▸ h2) fun ⟨g, hg, z⟩ => h1 g hg y z
  have mid : ∀ {v : Int}, (-(2000006 * (c : Int)) - 1000003 ≤ v ∧ v ≤ 2000006 * (c : Int) + 1000003) → ∀ r ∈ updS w.stock dp dk v, ∀ u ∈ r, -(2000006 * (c : Int) + 1000003) ≤ u ∧ u ≤ 2000006 * (c : Int) + 1000003 := fun {v} hv => upd_bd (by omega) h.s ⟨by omega, by omega⟩
  have one : ∀ {v : Int}, (-(2000006 * (c : Int)) - 1000003 ≤ v ∧ v ≤ 2000006 * (c : Int) + 1000003) → ∀ r ∈ updS w.stock dp dk v, ∀ u ∈ r, -(2000006 * ((c + 1 : Nat) : Int)) ≤ u ∧ u ≤ 2000006 * ((c + 1 : Nat) : Int) := fun {v} hv r hr u hu => by
    have := mid hv r hr u hu
    exact ⟨by omega, by omega⟩
  have two : ∀ r ∈ updS (updS w.stock dp dk (valS w.stock dp dk - da)) do_ dk (valS (updS w.stock dp dk (valS w.stock dp dk - da)) do_ dk + da), ∀ u ∈ r, -(2000006 * ((c + 1 : Nat) : Int)) ≤ u ∧ u ≤ 2000006 * ((c + 1 : Nat) : Int) := by
    have m1 := mid (v := valS w.stock dp dk - da) ⟨by omega, by omega⟩
    have v2 := vals_bd (by omega) m1 do_ dk
    exact upd_bd (by omega) m1 ⟨by omega, by omega⟩
  cases dw
  · simp only [didW, honestW] at e
    split at e
    · cases e; exact ⟨ad h.e (eN _ _), one ⟨by omega, by omega⟩, hw.f⟩
    · cases e
  · simp only [didW, honestW] at e
    split at e
    · cases e; exact ⟨ad h.e (eN _ _), one ⟨by omega, by omega⟩, hw.f⟩
    · cases e
  · simp only [didW, honestW] at e
    split at e
    · cases e; exact ⟨ad (ad h.e (eC _ _ _ _)) (eC _ _ _ _), two, hw.f⟩
    · cases e
  · simp only [didW, honestW] at e
    cases e
    refine ⟨h.e, hw.s, fun q hq => ?_⟩
    rcases List.mem_append.mp hq with z | z
    · exact hw.f q z
    · simp at z
      rw [z]
      exact ⟨⟨by simp only; omega, by simp only; omega⟩, ⟨p0, p1⟩, ⟨k0, k1⟩, by simp only; omega, by simp only; omega⟩
  · simp only [didW, liedW2, liedW] at e
    split at e
    · cases e; exact ⟨h.e, two, hw.f⟩
    · cases e
  · simp only [didW, liedW2, liedW] at e
    split at e
    · cases e; exact ⟨h.e, one ⟨by omega, by omega⟩, hw.f⟩
    · cases e
  · simp only [didW, liedW2, liedW] at e
    split at e
    · cases e; exact ⟨h.e, one ⟨by omega, by omega⟩, hw.f⟩
    · cases e
  · simp only [didW, liedW2, liedW] at e
    split at e
    · cases e; exact ⟨ad (ad h.e (eC _ _ _ _)) (eC _ _ _ _), hw.s, hw.f⟩
    · cases e
  · simp only [didW, liedW2, liedW] at e
    cases e
    refine ⟨ad h.e ?_, hw.s, hw.f⟩
    by_cases q : dp = do_
    · rw [if_pos q]; exact eN _ _
    · rw [if_neg q]; exact eC _ _ _ _
  · simp only [didW, liedW2, liedW] at e
    split at e
    · cases e
      refine ⟨fun f hf x hx => ?_, hw.s, hw.f⟩
      rcases List.mem_or_eq_of_mem_set hf with z | z
      · exact h.e f z x hx
      · rw [z] at hx
        have hx2 := (List.eraseIdx_sublist _ _).subset hx
        by_cases q : dp.toNat < w.files.length
        · exact h.e _ (List.mem_of_getElem? (getD_some q)) x hx2
        · rw [List.getD_eq_getElem?_getD, List.getElem?_eq_none (by omega)] at hx2
          cases hx2
    · cases e
theorem Trail.tb {ps : List (Bool × Bool)} {m : Nat} {lying : Int} {c : Nat} {w : W} (h : Trail ps m lying c w) : TB ps.length m c w := by
  induction h with
  | nil =>
    refine ⟨fun f hf => ?_, fun r hr v hv => ?_, fun q hq => (by cases hq)⟩
    · rw [List.eq_of_mem_replicate hf]
      intro x hx
      cases hx
    · rw [List.eq_of_mem_replicate hr] at hv
      rw [List.eq_of_mem_replicate hv]
      exact ⟨by omega, by omega⟩
  | @step c w d t hd hon ih =>
    cases e : didW ps w d with
    | none => exact ih.wait
    | some w' => exact did_tb hd t.files.1.l0 t.files.2 ih e
theorem Trail.sm {ps : List (Bool × Bool)} {m : Nat} {lying : Int} {c : Nat} {w : W} (h : Trail ps m lying c w) (hc : c ≤ 60) (hm : m ≤ 1000) (hp : ps.length ≤ 8) : (∀ f ∈ w.files, ∀ x ∈ f, smE x) ∧ ∀ q ∈ w.finds, smF q := by
  have tb := h.tb
  have fl := h.files
  refine ⟨fun f hf x hx => ?_, fun q hq => ?_⟩
  · obtain ⟨i, hi, rfl⟩ := List.getElem_of_mem hf
    have h1 := (fl.1.ok i _ (List.getElem?_eq_getElem hi)).le x hx
    have h2 := (fl.1.ok i _ (List.getElem?_eq_getElem hi)).kk x hx
    obtain ⟨b1, b2, b3⟩ := tb.e _ hf x hx
    have := fl.2
    exact ⟨⟨by omega, by omega⟩, ⟨by omega, by omega⟩, ⟨by omega, by omega⟩⟩
  · obtain ⟨⟨a1, a2⟩, ⟨b1, b2⟩, ⟨c1, c2⟩, d1, d2⟩ := tb.f q hq
    exact ⟨⟨⟨by omega, by omega⟩, ⟨by omega, by omega⟩⟩, ⟨by omega, by omega⟩, ⟨by omega, by omega⟩⟩
end Law

namespace Law
open PySem Oz L2
variable [Oz.WD]
/-! ### data that may be asked -/
def niB : Nat → PyData → Bool
  | _, .none => true
  | _, .bool _ => true
  | _, .int _ => true
  | _, .str x => PyData.strOk x
  | _, .list ds => ds.isEmpty
  | n + 1, .tuple ds => decide (ds.length ≤ 2000) && ds.all (niB n)
  | _, _ => false
def Ni (n : Nat) (d : PyData) : Prop := niB n d = true
theorem Ni.mem {n : Nat} {ds : List D} (h : Ni (n + 1) (.tuple ds)) : ∀ d ∈ ds, Ni n d := by
  unfold Ni niB at h
  exact List.all_eq_true.mp (Bool.and_eq_true_iff.mp h).2
theorem Ni.len {n : Nat} {ds : List D} (h : Ni (n + 1) (.tuple ds)) : ds.length ≤ 2000 := by
  unfold Ni niB at h
  exact of_decide_eq_true (Bool.and_eq_true_iff.mp h).1
theorem Ni.tup {n : Nat} {ds : List D} (hl : ds.length ≤ 2000) (h : ∀ d ∈ ds, Ni n d) : Ni (n + 1) (.tuple ds) := by
  unfold Ni niB
  rw [decide_eq_true hl, Bool.true_and]
  exact List.all_eq_true.mpr h
theorem Ni.sh : ∀ {n : Nat} {d : D}, Ni n d → Sh (n + 1) d
  | n, .none, _ => .none
  | n, .bool _, _ => .bool
  | n, .int _, _ => .int
  | n, .str x, h => .str (by cases n <;> exact h)
  | n, .list ds, h => by
    have e : ds = [] := by
      cases n <;> exact List.isEmpty_iff.mp h
    subst e
    exact .list fun d hd => by cases hd
  | 0, .tuple ds, h => by cases h
  | n + 1, .tuple ds, h => .tup fun d hd => (h.mem d hd).sh
  | n, .dict es, h => by cases n <;> cases h
theorem Ni.le : ∀ {n m : Nat} {d : D}, Ni n d → n ≤ m → Ni m d
  | n, m, .none, _, _ => by cases m <;> rfl
  | n, m, .bool _, _, _ => by cases m <;> rfl
  | n, m, .int _, _, _ => by cases m <;> rfl
  | n, m, .str x, h, _ => by cases n <;> cases m <;> exact h
  | n, m, .list ds, h, _ => by cases n <;> cases m <;> exact h
  | 0, m, .tuple ds, h, _ => by cases h
  | n + 1, 0, .tuple ds, h, l => by omega
  | n + 1, m + 1, .tuple ds, h, l => .tup h.len fun d hd => (h.mem d hd).le (by omega)
  | n, m, .dict es, h, _ => by cases n <;> cases h
/-! ### what is meant -/
def numB (lo hi : Int) : PyData → Bool
  | .int i => decide (lo ≤ i) && decide (i ≤ hi)
  | _ => false
def flagB : PyData → Bool
  | .bool _ => true
  | _ => false
def wordB (a b : Str) : PyData → Bool
  | .str s => s == a || s == b
  | _ => false
def neB (o : Int) : PyData → Bool
  | .int i => i != o
  | _ => true
def rowB (k n o : Int) : PyData → Bool
  | .tuple [a, b, c, v] => numB 1 1000000000 a && wordB "made" "treated" b && numB 0 (k - 1) c && numB 1 1000000000000 v
  | .tuple [a, b, c, v, q, s] => numB 1 1000000000 a && wordB "gave" "took" b && numB 0 (k - 1) c && numB 1 1000000000000 v && (numB 0 (n - 1) q && (neB o q && flagB s))
  | _ => false
def findB (k n : Int) : PyData → Bool
  | .tuple [a, p, c, v] => numB 1 1000000000 a && numB 0 (n - 1) p && numB 0 (k - 1) c && numB 0 1000000000000 v
  | _ => false
def partyB : PyData → Bool
  | .tuple [a, b] => flagB a && flagB b
  | _ => false
theorem e_number {n : Nat} {d : D} (h : Ni n d) (lo hi : Int) : m_is_number [d, .int lo, .int hi] = .ok ⟨.imm, .bool (numB lo hi d)⟩ [] := by
  cases d with
  | dict => cases n <;> cases h
  | int i => by_cases c : lo ≤ i <;> simp [m_is_number, b_is_number, numB, c]
  | _ => simp [m_is_number, b_is_number, numB]
theorem e_linteger {n : Nat} {d : D} (h : Ni n d) (lo hi : Int) : m__law_is_integer [d, .int lo, .int hi] = .ok ⟨.imm, .bool (numB lo hi d)⟩ [] := by
  cases d with
  | dict => cases n <;> cases h
  | int i => by_cases c : lo ≤ i <;> simp [m__law_is_integer, b__law_is_integer, numB, c]
  | _ => simp [m__law_is_integer, b__law_is_integer, numB]
theorem e_flag {n : Nat} {d : D} (h : Ni n d) : m_is_flag [d] = .ok ⟨.imm, .bool (flagB d)⟩ [] := by
  cases d with
  | dict => cases n <;> cases h
  | _ => simp [m_is_flag, b_is_flag, flagB]
theorem isi_bool {n : Nat} {d : D} (h : Ni n d) : isiD "bool" d = some (flagB d) := by
  cases d with
  | dict => cases n <;> cases h
  | _ => rfl
theorem len2 {ds : List D} (h : ds.length = 2) : ∃ a b, ds = [a, b] := by
  match ds, h with
  | [a, b], _ => exact ⟨a, b, rfl⟩
theorem len4 {ds : List D} (h : ds.length = 4) : ∃ a b c v, ds = [a, b, c, v] := by
  match ds, h with
  | [a, b, c, v], _ => exact ⟨a, b, c, v, rfl⟩
theorem len6 {ds : List D} (h : ds.length = 6) : ∃ a b c v q s, ds = [a, b, c, v, q, s] := by
  match ds, h with
  | [a, b, c, v, q, s], _ => exact ⟨a, b, c, v, q, s, rfl⟩
theorem e_party {n : Nat} {d : D} (h : Ni (n + 1) d) : m_is_party [d] = .ok ⟨.imm, .bool (partyB d)⟩ [] := by
  cases d with
  | dict => cases h
  | tuple ds =>
    by_cases c : ds.length = 2
    · obtain ⟨a, b, rfl⟩ := len2 c
      have h1 := e_flag (h.mem a (by simp))
      have h2 := e_flag (h.mem b (by simp))
      have e : partyB (.tuple [a, b]) = (flagB a && flagB b) := rfl
      rw [e]
      generalize flagB a = x at *
      generalize flagB b = y at *
      cases x <;> simp [m_is_party, b_is_party, h1, h2]
    · have e : partyB (.tuple ds) = false := by
        unfold partyB
        split
        · rename_i he
          cases he
          exact absurd rfl c
        · rfl
      rw [e]
      have c2 : ((ds.length : Int) == 2) = false := beq_eq_false_iff_ne.mpr (by omega)
      simp [m_is_party, b_is_party, c2]
  | _ => simp [m_is_party, b_is_party, partyB]
theorem row_f {k n o : Int} {ds : List D} (c4 : ds.length ≠ 4) (c6 : ds.length ≠ 6) : rowB k n o (.tuple ds) = false := by
  unfold rowB
  split
  · rename_i he
    cases he
    exact absurd rfl c4
  · rename_i he
    cases he
    exact absurd rfl c6
  · rfl
def strB : PyData → Bool
  | .str _ => true
  | _ => false
theorem isi_str {n : Nat} {d : D} (h : Ni n d) : isiD "str" d = some (strB d) := by
  cases d with
  | dict => cases n <;> cases h
  | _ => rfl
theorem in_words {a b w : Str} : fIn (.str w) (.tuple [.str a, .str b]) = some (w == a || w == b) := by
  rw [fIn_t rfl rfl]
  simp only [List.any_cons, List.any_nil, Bool.or_false, Option.some.injEq]
  have e : ∀ x y : Str, PyData.eqv (.str x) (.str y) = (y == x) := fun x y => by simp [PyData.eqv, Bool.beq_comm]
  rw [e, e]
theorem e_entry {n : Nat} {d : D} (h : Ni (n + 1) d) (k np o : Int) : m_is_entry [d, .int k, .int np, .int o] = .ok ⟨.imm, .bool (rowB k np o d)⟩ [] := by
  cases d with
  | dict => cases h
  | tuple ds =>
    by_cases c4 : ds.length = 4
    · obtain ⟨a, b, c, v, rfl⟩ := len4 c4
      have n0 := e_number (h.mem a (by simp)) 1 1000000000
      have n2 := e_number (h.mem c (by simp)) 0 (k - 1)
      have n3 := e_number (h.mem v (by simp)) 1 1000000000000
      have hb := h.mem b (by simp)
      have i1 := isi_str hb
      have e : rowB k np o (.tuple [a, b, c, v]) = (numB 1 1000000000 a && wordB "made" "treated" b && numB 0 (k - 1) c && numB 1 1000000000000 v) := rfl
      rw [e]
      generalize numB 1 1000000000 a = x at *
      generalize numB 0 (k - 1) c = y at *
      generalize numB 1 1000000000000 v = z at *
      cases b with
      | str w =>
        have hw := in_words (a := "made") (b := "treated") (w := w)
        have e5 : wordB "made" "treated" (.str w) = (w == ("made" : Str) || w == ("treated" : Str)) := rfl
        rw [e5]
        clear e e5
        generalize (w == ("made" : Str) || w == ("treated" : Str)) = t at *
        cases x <;> cases t <;> cases y <;> cases z <;> simp [m_is_entry, b_is_entry, t_is_entry_0, t_is_entry_1, t_is_entry_2, t_is_entry_3, sizeLine, n0, n2, n3, i1, strB, hw]
      | _ => cases x <;> simp [m_is_entry, b_is_entry, t_is_entry_0, t_is_entry_1, t_is_entry_2, t_is_entry_3, sizeLine, n0, n2, n3, i1, strB, wordB]
    · by_cases c6 : ds.length = 6
      · obtain ⟨a, b, c, v, q, s, rfl⟩ := len6 c6
        have n0 := e_number (h.mem a (by simp)) 1 1000000000
        have n2 := e_number (h.mem c (by simp)) 0 (k - 1)
        have n3 := e_number (h.mem v (by simp)) 1 1000000000000
        have n4 := e_number (h.mem q (by simp)) 0 (np - 1)
        have n5 := e_flag (h.mem s (by simp))
        have hb := h.mem b (by simp)
        have i1 := isi_str hb
        have e : rowB k np o (.tuple [a, b, c, v, q, s]) = (numB 1 1000000000 a && wordB "gave" "took" b && numB 0 (k - 1) c && numB 1 1000000000000 v && (numB 0 (np - 1) q && (neB o q && flagB s))) := rfl
        rw [e]
        clear e
        generalize numB 1 1000000000 a = x at *
        generalize numB 0 (k - 1) c = y at *
        generalize numB 1 1000000000000 v = z at *
        generalize flagB s = u at *
        have key : ∃ j r, numB 0 (np - 1) q = j ∧ neB o q = r ∧ m_is_number [q, .int 0, .int (np - 1)] = .ok ⟨.imm, .bool j⟩ [] ∧ (j = true → fEq q (.int o) = some (!r)) := by
          refine ⟨_, _, rfl, rfl, n4, fun hj => ?_⟩
          cases q with
          | int i => simp [fEq, neB, bne]
          | _ => cases hj
        obtain ⟨j, r, e1, e2, e3, e4⟩ := key
        rw [e1, e2]
        clear n4 e1 e2
        cases b with
        | str w =>
          have hw := in_words (a := "gave") (b := "took") (w := w)
          have e5 : wordB "gave" "took" (.str w) = (w == ("gave" : Str) || w == ("took" : Str)) := rfl
          rw [e5]
          clear e5
          generalize (w == ("gave" : Str) || w == ("took" : Str)) = t at *
          cases x
          · simp [m_is_entry, b_is_entry, t_is_entry_0, t_is_entry_1, t_is_entry_2, t_is_entry_3, sizeLine, n0, n2, n3, i1, strB, hw]
          cases t
          · simp [m_is_entry, b_is_entry, t_is_entry_0, t_is_entry_1, t_is_entry_2, t_is_entry_3, sizeLine, n0, n2, n3, i1, strB, hw]
          cases y
          · simp [m_is_entry, b_is_entry, t_is_entry_0, t_is_entry_1, t_is_entry_2, t_is_entry_3, sizeLine, n0, n2, n3, i1, strB, hw]
          cases z
          · simp [m_is_entry, b_is_entry, t_is_entry_0, t_is_entry_1, t_is_entry_2, t_is_entry_3, sizeLine, n0, n2, n3, i1, strB, hw]
          cases j
          · simp [m_is_entry, b_is_entry, t_is_entry_0, t_is_entry_1, t_is_entry_2, t_is_entry_3, sizeLine, n0, n2, n3, i1, strB, hw, e3]
          have e4 := e4 rfl
          cases r <;> simp [m_is_entry, b_is_entry, t_is_entry_0, t_is_entry_1, t_is_entry_2, t_is_entry_3, sizeLine, n0, n2, n3, i1, strB, hw, e3, e4, n5]
        | _ => cases x <;> simp [m_is_entry, b_is_entry, t_is_entry_0, t_is_entry_1, t_is_entry_2, t_is_entry_3, sizeLine, n0, n2, n3, i1, strB, wordB]
      · rw [row_f c4 c6]
        have d4 : ¬ (ds.length : Int) = 4 := by omega
        have d6 : ¬ (ds.length : Int) = 6 := by omega
        have f4 : ¬ 4 = (ds.length : Int) := by omega
        have f6 : ¬ 6 = (ds.length : Int) := by omega
        simp [m_is_entry, b_is_entry, d4, d6, f4, f6, sizeLine]
  | _ => simp [m_is_entry, b_is_entry, rowB]
theorem find_f {k n : Int} {ds : List D} (c4 : ds.length ≠ 4) : findB k n (.tuple ds) = false := by
  unfold findB
  split
  · rename_i he
    cases he
    exact absurd rfl c4
  · rfl
theorem e_find {n : Nat} {d : D} (h : Ni (n + 1) d) (k np : Int) : m_is_find [d, .int k, .int np] = .ok ⟨.imm, .bool (findB k np d)⟩ [] := by
  cases d with
  | dict => cases h
  | tuple ds =>
    by_cases c4 : ds.length = 4
    · obtain ⟨a, b, c, v, rfl⟩ := len4 c4
      have n0 := e_number (h.mem a (by simp)) 1 1000000000
      have n1 := e_number (h.mem b (by simp)) 0 (np - 1)
      have n2 := e_number (h.mem c (by simp)) 0 (k - 1)
      have n3 := e_number (h.mem v (by simp)) 0 1000000000000
      have e : findB k np (.tuple [a, b, c, v]) = (numB 1 1000000000 a && numB 0 (np - 1) b && numB 0 (k - 1) c && numB 0 1000000000000 v) := rfl
      rw [e]
      clear e
      generalize numB 1 1000000000 a = x at *
      generalize numB 0 (np - 1) b = t at *
      generalize numB 0 (k - 1) c = y at *
      generalize numB 0 1000000000000 v = z at *
      cases x <;> cases t <;> cases y <;> simp [m_is_find, b_is_find, n0, n1, n2, n3]
    · rw [find_f c4]
      have d4 : ((ds.length : Int) == 4) = false := beq_eq_false_iff_ne.mpr (by omega)
      have d5 : ¬ (ds.length : Int) = 4 := by omega
      simp [m_is_find, b_is_find, d4, d5]
  | _ => simp [m_is_find, b_is_find, findB]
theorem e_lfind {n : Nat} {d : D} (h : Ni (n + 1) d) (k np : Int) : m__law_is_find [d, .int k, .int np] = .ok ⟨.imm, .bool (findB k np d)⟩ [] := by
  cases d with
  | dict => cases h
  | tuple ds =>
    by_cases c4 : ds.length = 4
    · obtain ⟨a, b, c, v, rfl⟩ := len4 c4
      have n0 := e_linteger (h.mem a (by simp)) 1 1000000000
      have n1 := e_linteger (h.mem b (by simp)) 0 (np - 1)
      have n2 := e_linteger (h.mem c (by simp)) 0 (k - 1)
      have n3 := e_linteger (h.mem v (by simp)) 0 1000000000000
      have e : findB k np (.tuple [a, b, c, v]) = (numB 1 1000000000 a && numB 0 (np - 1) b && numB 0 (k - 1) c && numB 0 1000000000000 v) := rfl
      rw [e]
      clear e
      generalize numB 1 1000000000 a = x at *
      generalize numB 0 (np - 1) b = t at *
      generalize numB 0 (k - 1) c = y at *
      generalize numB 0 1000000000000 v = z at *
      cases x <;> cases t <;> cases y <;> simp [m__law_is_find, b__law_is_find, n0, n1, n2, n3]
    · rw [find_f c4]
      have d4 : ((ds.length : Int) == 4) = false := beq_eq_false_iff_ne.mpr (by omega)
      have d5 : ¬ (ds.length : Int) = 4 := by omega
      simp [m__law_is_find, b__law_is_find, d4, d5]
  | _ => simp [m__law_is_find, b__law_is_find, findB]
theorem in_wordsL {n : Nat} {a b : String} {d : D} (h : Ni n d) (l : n ≤ 50) : fIn d (.list [.str a, .str b]) = some (wordB a b d) := by
  have hs : SeqAt.shaped d = true := h.sh.shaped (by omega)
  have h2 : Sh 1 (.list [PyData.str a, .str b]) := .list fun x hx => by
    simp only [List.mem_cons, List.not_mem_nil, or_false] at hx
    rcases hx with rfl | rfl <;> exact .lit
  rw [fIn_shaped rfl hs h2.shaped]
  simp only [List.any_cons, List.any_nil, Bool.or_false, Option.some.injEq]
  have e : ∀ x y : Str, PyData.eqv (.str x) (.str y) = (y == x) := fun x y => by simp [PyData.eqv, Bool.beq_comm]
  cases d with
  | str w => rw [e, e]; rfl
  | _ => simp [PyData.eqv, wordB]
theorem e_lrow {n : Nat} {d : D} (h : Ni (n + 1) d) (l : n ≤ 50) (k np o : Int) : m__law_is_row [d, .int k, .int np, .int o] = .ok ⟨.imm, .bool (rowB k np o d)⟩ [] := by
  cases d with
  | dict => cases h
  | tuple ds =>
    by_cases c4 : ds.length = 4
    · obtain ⟨a, b, c, v, rfl⟩ := len4 c4
      have n0 := e_linteger (h.mem a (by simp)) 1 1000000000
      have n2 := e_linteger (h.mem c (by simp)) 0 (k - 1)
      have n3 := e_linteger (h.mem v (by simp)) 1 1000000000000
      have hw := in_wordsL (a := "made") (b := "treated") (h.mem b (by simp)) l
      have e : rowB k np o (.tuple [a, b, c, v]) = (numB 1 1000000000 a && wordB "made" "treated" b && numB 0 (k - 1) c && numB 1 1000000000000 v) := rfl
      rw [e]
      clear e
      generalize numB 1 1000000000 a = x at *
      generalize numB 0 (k - 1) c = y at *
      generalize numB 1 1000000000000 v = z at *
      generalize wordB "made" "treated" b = t at *
      cases x <;> cases t <;> cases y <;> cases z <;> simp [m__law_is_row, b__law_is_row, t__law_is_row_0, t__law_is_row_1, t__law_is_row_2, sizeLine, n0, n2, n3, hw]
    · by_cases c6 : ds.length = 6
      · obtain ⟨a, b, c, v, q, s, rfl⟩ := len6 c6
        have n0 := e_linteger (h.mem a (by simp)) 1 1000000000
        have n2 := e_linteger (h.mem c (by simp)) 0 (k - 1)
        have n3 := e_linteger (h.mem v (by simp)) 1 1000000000000
        have n4 := e_linteger (h.mem q (by simp)) 0 (np - 1)
        have n5 := isi_bool (h.mem s (by simp))
        have hw := in_wordsL (a := "gave") (b := "took") (h.mem b (by simp)) l
        have e : rowB k np o (.tuple [a, b, c, v, q, s]) = (numB 1 1000000000 a && wordB "gave" "took" b && numB 0 (k - 1) c && numB 1 1000000000000 v && (numB 0 (np - 1) q && (neB o q && flagB s))) := rfl
        rw [e]
        clear e
        generalize numB 1 1000000000 a = x at *
        generalize numB 0 (k - 1) c = y at *
        generalize numB 1 1000000000000 v = z at *
        generalize flagB s = u at *
        generalize wordB "gave" "took" b = t at *
        have key : ∃ j r, numB 0 (np - 1) q = j ∧ neB o q = r ∧ m__law_is_integer [q, .int 0, .int (np - 1)] = .ok ⟨.imm, .bool j⟩ [] ∧ (j = true → fEq q (.int o) = some (!r)) := by
          refine ⟨_, _, rfl, rfl, n4, fun hj => ?_⟩
          cases q with
          | int i => simp [fEq, neB, bne]
          | _ => cases hj
        obtain ⟨j, r, e1, e2, e3, e4⟩ := key
        rw [e1, e2]
        clear n4 e1 e2
        cases x
        · simp [m__law_is_row, b__law_is_row, t__law_is_row_0, t__law_is_row_1, t__law_is_row_2, sizeLine, n0, n2, n3, hw]
        cases t
        · simp [m__law_is_row, b__law_is_row, t__law_is_row_0, t__law_is_row_1, t__law_is_row_2, sizeLine, n0, n2, n3, hw]
        cases y
        · simp [m__law_is_row, b__law_is_row, t__law_is_row_0, t__law_is_row_1, t__law_is_row_2, sizeLine, n0, n2, n3, hw]
        cases z
        · simp [m__law_is_row, b__law_is_row, t__law_is_row_0, t__law_is_row_1, t__law_is_row_2, sizeLine, n0, n2, n3, hw]
        cases j
        · simp [m__law_is_row, b__law_is_row, t__law_is_row_0, t__law_is_row_1, t__law_is_row_2, sizeLine, n0, n2, n3, hw, e3]
        have e4 := e4 rfl
        cases r <;> simp [m__law_is_row, b__law_is_row, t__law_is_row_0, t__law_is_row_1, t__law_is_row_2, sizeLine, n0, n2, n3, hw, e3, e4, n5]
      · rw [row_f c4 c6]
        have d4 : ¬ (ds.length : Int) = 4 := by omega
        have d6 : ¬ (ds.length : Int) = 6 := by omega
        have f4 : ¬ 4 = (ds.length : Int) := by omega
        have f6 : ¬ 6 = (ds.length : Int) := by omega
        simp [m__law_is_row, b__law_is_row, d4, d6, f4, f6, sizeLine]
  | _ => simp [m__law_is_row, b__law_is_row, rowB]
end Law

namespace Law
open PySem Oz L2
variable [Oz.WD]
/-! ### loops that may return, and rows that ascend -/
theorem loop_all {α σ : Type} (env : σ → Ev) (ρr : Ev) (r : R) (p : α → Bool) (f : σ → α → σ) {g : Tgx} {b : Stx} {item : α → R} : ∀ (xs : List α) (I : List α → σ → Prop) (s0 : σ), I [] s0 →
    (∀ pre x post s, xs = pre ++ x :: post → I pre s → (p x = true → stp g b (item x) (env s) = .next (env (f s x)) ∧ I (pre ++ [x]) (f s x)) ∧ (p x = false → stp g b (item x) (env s) = .ret r ρr)) →
    (xs.all p = true → loopS g b (xs.map item) (env s0) = .next (env (xs.foldl f s0)) ∧ I xs (xs.foldl f s0)) ∧ (xs.all p = false → loopS g b (xs.map item) (env s0) = .ret r ρr)
  | [], I, s0, h0, hs => ⟨fun _ => ⟨rfl, h0⟩, fun h => by cases h⟩
  | x :: xs, I, s0, h0, hs => by
    have hx := hs [] x xs s0 rfl h0
    rw [List.map_cons, loop_c, List.all_cons, List.foldl_cons]
    cases px : p x with
    | false =>
      rw [hx.2 px]
      exact ⟨fun h => (by cases h), fun _ => rfl⟩
    | true =>
      obtain ⟨h1, h2⟩ := hx.1 px
      rw [h1, Bool.true_and]
      exact loop_all env ρr r p f xs (fun pre s => I (x :: pre) s) (f s0 x) h2 fun pre y post s e hI => hs (x :: pre) y post s (by rw [e]; rfl) hI
theorem enum_rangeK {α : Type} {f : α → R} {xs : List α} {d : α} : enumR (xs.map f) = (List.range xs.length).map fun k => enR k (f (xs.getD k d)) := by
  apply List.ext_getElem?
  intro i
  simp only [enumR, List.getElem?_mapIdx, List.getElem?_map]
  by_cases c : i < xs.length
  · rw [List.getElem?_eq_getElem c, List.getElem?_range c]
    simp [c]
  · rw [List.getElem?_eq_none (by omega), List.getElem?_eq_none (by simp; omega)]
    rfl
def num0 : PyData → Int
  | .tuple (.int i :: _) => i
  | _ => 0
/-- a row with a number ahead -/
def Hd (d : PyData) : Prop := ∃ i r, d = .tuple (.int i :: r)
theorem Hd.num {d : D} (h : Hd d) (s t : Sx) (hs : s = .imm) : ixR ⟨s, d⟩ ⟨t, .int 0⟩ = .ok ⟨.imm, .int (num0 d)⟩ := by
  obtain ⟨i, r, rfl⟩ := h
  subst hs
  simp [num0]
theorem row_hd {k n o : Int} {d : D} (h : rowB k n o d = true) : Hd d := by
  unfold rowB at h
  split at h
  · rename_i a b c v
    simp only [Bool.and_eq_true] at h
    cases a with
    | int i => exact ⟨i, _, rfl⟩
    | _ => cases h.1.1.1
  · rename_i a b c v q s
    simp only [Bool.and_eq_true] at h
    cases a with
    | int i => exact ⟨i, _, rfl⟩
    | _ => cases h.1.1.1.1
  · cases h
theorem find_hd {k n : Int} {d : D} (h : findB k n d = true) : Hd d := by
  unfold findB at h
  split at h
  · rename_i a b c v
    simp only [Bool.and_eq_true] at h
    cases a with
    | int i => exact ⟨i, _, rfl⟩
    | _ => cases h.1.1.1
  · cases h
def ascB (ds : List PyData) : Bool := (List.range (ds.length - 1)).all fun j => decide (num0 (ds.getD j .none) < num0 (ds.getD (j + 1) .none))
theorem cut1 {ds : List D} : cutD ds (some 1) none = ds.drop 1 := by
  have e : (1 : Int) = ((1 : Nat) : Int) := rfl
  rw [e, cutD, HT.sIx_none, HT.sIx_nat, List.take_of_length_le (by simp)]
  rcases Nat.eq_zero_or_pos ds.length with h | h
  · have : ds = [] := List.eq_nil_of_length_eq_zero h
    subst this
    rfl
  · rw [Nat.min_eq_left (by omega)]
theorem sub_I {ds : List D} : ds.map (sub .imm) = ds.map fun d => (⟨.imm, d⟩ : R) := List.map_congr_left fun d _ => by simp
theorem at_getD {ds : List D} {j : Nat} (h : j < ds.length) : atI ds (j : Int) = some (ds.getD j .none) := by
  rw [atI_ofNat, List.getElem?_eq_getElem h, List.getD_eq_getElem?_getD, List.getElem?_eq_getElem h]; rfl
theorem e_ascend {ds : List D} (hl : ds.length ≤ 2000) (hh : ∀ d ∈ ds, Hd d) : m_ascend [.tuple ds] = .ok ⟨.imm, .bool (ascB ds)⟩ [] := by
  have hg : ∀ {j : Nat}, j < ds.length → Hd (ds.getD j .none) := fun {j} hj => by
    rw [List.getD_eq_getElem?_getD, List.getElem?_eq_getElem hj]
    exact hh _ (List.getElem_mem hj)
  have e1 : (ds.drop 1).length = ds.length - 1 := by simp
  have e2 : ∀ k, (ds.drop 1).getD k .none = ds.getD (k + 1) .none := fun k => by
    rw [List.getD_eq_getElem?_getD, List.getD_eq_getElem?_getD, List.getElem?_drop, Nat.add_comm]
  have hs : enumR ((ds.drop 1).map (sub .imm)) = (List.range (ds.length - 1)).map fun k => enR k (⟨.imm, ds.getD (k + 1) .none⟩ : R) := by
    rw [sub_I, enum_rangeK (d := PyData.none), e1]
    exact List.map_congr_left fun k _ => by rw [e2]
  have hc : anyE true (gT 2 (gsC (cN 1) (gsC (cN 2) (gsN)))) c_ascend_0 [some ⟨.imm, .tuple ds⟩, none, none] ((List.range (ds.length - 1)).map fun k => enR k (⟨.imm, ds.getD (k + 1) .none⟩ : R)) = some (ascB ds) :=
    anyE_all fun j hj => by
      have hj := List.mem_range.mp hj
      have h1 := at_getD (ds := ds) (j := j) (by omega)
      have n1 := (hg (j := j) (by omega)).num .imm .imm rfl
      have n2 := (hg (j := j + 1) (by omega)).num .imm .imm rfl
      refine ⟨[some ⟨.imm, .tuple ds⟩, some ⟨.imm, .int j⟩, some ⟨.imm, ds.getD (j + 1) .none⟩], .imm, ?_, ?_⟩
      · generalize ds.getD (j + 1) .none = X at *
        simp [enR]
      · generalize ds.getD (j + 1) .none = X at *
        generalize ds.getD j .none = Y at *
        simp [c_ascend_0, h1, n1, n2]
  have hcut := cut1 (ds := ds)
  have hs2 : ((srcR ⟨.imm, .tuple (ds.drop 1)⟩).bind fun rs => Res.ok (enumR rs)) = .ok ((List.range (ds.length - 1)).map fun k => enR k (⟨.imm, ds.getD (k + 1) .none⟩ : R)) := by
    show Res.ok (enumR ((ds.drop 1).map (sub .imm))) = _
    rw [hs]
  generalize ascB ds = B at *
  generalize ((List.range (ds.length - 1)).map fun k => enR k (⟨.imm, ds.getD (k + 1) .none⟩ : R)) = RI at *
  clear hs hg e1 e2
  generalize ds.drop 1 = dd at *
  simp [m_ascend, b_ascend, q_ascend_0, hcut, hs2, hc, -x_srcRt]
theorem ints_ownK {ns : List Int} (h : ns.length ≤ 100000) : compR (ns.map fun n => (⟨.imm, .int n⟩ : R)) = .ok ⟨.own, .list (ns.map .int)⟩ := by
  have hs : sizeLine = 16777216 := rfl
  exact compR_own (e := fun n => PyData.int n) (by omega) fun _ _ => rfl
theorem e_lascends {ds : List D} (hl : ds.length ≤ 2000) (hh : ∀ d ∈ ds, Hd d) : m__law_ascends [.tuple ds] = .ok ⟨.imm, .bool (ascB ds)⟩ [] := by
  have hg : ∀ {j : Nat}, j < ds.length → Hd (ds.getD j .none) := fun {j} hj => by
    rw [List.getD_eq_getElem?_getD, List.getElem?_eq_getElem hj]
    exact hh _ (List.getElem_mem hj)
  have hi : irng 1 (ds.length - 1) = (List.range (ds.length - 1)).map fun (k : Nat) => (⟨.imm, .int (1 + (k : Int))⟩ : R) := irng_map ..
  have hin1 : inR 1 = true := inR_of (by omega) (by omega)
  have hc : compE (cN 1) ct__law_ascends_0 c__law_ascends_0 [some ⟨.imm, .tuple ds⟩, none] ((List.range (ds.length - 1)).map fun (k : Nat) => (⟨.imm, .int (1 + (k : Int))⟩ : R)) =
      some ((((List.range (ds.length - 1)).filter fun j => !decide (num0 (ds.getD j .none) < num0 (ds.getD (j + 1) .none))).map fun (k : Nat) => (1 + (k : Int))).map fun n => (⟨.imm, .int n⟩ : R)) := by
    rw [List.map_map]
    exact comp_map fun j hj => ⟨[some ⟨.imm, .tuple ds⟩, some ⟨.imm, .int (1 + (j : Int))⟩], by simp, by
      have hj := List.mem_range.mp hj
      have h1 := at_getD (ds := ds) (j := j) (by omega)
      have h2 := at_getD (ds := ds) (j := j + 1) (by omega)
      have n1 := (hg (j := j) (by omega)).num .imm .imm rfl
      have n2 := (hg (j := j + 1) (by omega)).num .imm .imm rfl
      have f1 : (1 + (j : Int)) - 1 = (j : Int) := by omega
      have f2 : ((j + 1 : Nat) : Int) = 1 + (j : Int) := by omega
      rw [f2] at h2
      generalize ds.getD (j + 1) .none = X at *
      generalize ds.getD j .none = Y at *
      by_cases c : num0 Y < num0 X
      · have c2 : ¬ num0 X ≤ num0 Y := by omega
        simp [ct__law_ascends_0, f1, h1, h2, n1, n2, c, c2]
      · have c2 : num0 X ≤ num0 Y := by omega
        simp [ct__law_ascends_0, f1, h1, h2, n1, n2, c, c2], fun _ => by simp [c__law_ascends_0]⟩
  have hfl := List.length_filter_le (fun j => !decide (num0 (ds.getD j .none) < num0 (ds.getD (j + 1) .none))) (List.range (ds.length - 1))
  rw [List.length_range] at hfl
  have hr := ints_ownK (ns := ((List.range (ds.length - 1)).filter fun j => !decide (num0 (ds.getD j .none) < num0 (ds.getD (j + 1) .none))).map fun (k : Nat) => (1 + (k : Int))) (by rw [List.length_map]; omega)
  have hb : ascB ds = decide (((List.range (ds.length - 1)).filter fun j => !decide (num0 (ds.getD j .none) < num0 (ds.getD (j + 1) .none))).length = 0) := by
    unfold ascB
    rw [Bool.eq_iff_iff, decide_eq_true_eq, List.length_eq_zero_iff, List.filter_eq_nil_iff, List.all_eq_true]
    exact forall_congr' fun j => forall_congr' fun hj => by simp
  have hn : (((List.range (ds.length - 1)).filter fun j => !decide (num0 (ds.getD j .none) < num0 (ds.getD (j + 1) .none))).map fun (k : Nat) => (1 + (k : Int))).length = ((List.range (ds.length - 1)).filter fun j => !decide (num0 (ds.getD j .none) < num0 (ds.getD (j + 1) .none))).length := List.length_map ..
  have hin : inR (ds.length : Int) = true := inR_of (by omega) (by omega)
  rw [hb]
  generalize ((List.range (ds.length - 1)).filter fun j => !decide (num0 (ds.getD j .none) < num0 (ds.getD (j + 1) .none))).length = FL at *
  generalize (((List.range (ds.length - 1)).filter fun j => !decide (num0 (ds.getD j .none) < num0 (ds.getD (j + 1) .none))).map fun (k : Nat) => (1 + (k : Int))) = NS at *
  by_cases z : FL = 0
  · rw [z] at hn ⊢
    simp [m__law_ascends, b__law_ascends, q__law_ascends_0, hin, hin1, hi, hc, hr, hn, -List.map_map]
  · have z2 : ((FL : Int) == 0) = false := beq_eq_false_iff_ne.mpr (by omega)
    simp [m__law_ascends, b__law_ascends, q__law_ascends_0, hin, hin1, hi, hc, hr, hn, z, z2, -List.map_map]
end Law

namespace Law
open PySem Oz L2
variable [Oz.WD]
/-! ### files, parties, finds -/
def tupL : PyData → List PyData
  | .tuple ds => ds
  | _ => []
def isT : PyData → Bool
  | .tuple _ => true
  | _ => false
def fileB (k n o : Int) : PyData → Bool
  | .tuple ds => decide (ds.length ≤ 200) && (ds.all (rowB k n o) && ascB ds)
  | _ => false
def findsB (k n : Int) : PyData → Bool
  | .tuple ds => decide (ds.length ≤ 200) && (ds.all (findB k n) && ascB ds)
  | _ => false
def partiesB : PyData → Bool
  | .tuple ds => decide (1 ≤ ds.length) && (decide (ds.length ≤ 8) && ds.all partyB)
  | _ => false
theorem e_file {n : Nat} {d : D} (h : Ni (n + 2) d) (k np o : Int) : m_is_file [d, .int k, .int np, .int o] = .ok ⟨.imm, .bool (fileB k np o d)⟩ [] := by
  cases d with
  | dict => cases h
  | tuple ds =>
    have hl := h.len
    have hc : anyE true (cN 4) c_is_file_0 [some ⟨.imm, .tuple ds⟩, some ⟨.imm, .int k⟩, some ⟨.imm, .int np⟩, some ⟨.imm, .int o⟩, none] (ds.map fun d => (⟨.imm, d⟩ : R)) = some (ds.all (rowB k np o)) :=
      anyE_all fun d hd => by
        have h1 := e_entry (h.mem d hd) k np o
        refine ⟨[some ⟨.imm, .tuple ds⟩, some ⟨.imm, .int k⟩, some ⟨.imm, .int np⟩, some ⟨.imm, .int o⟩, some ⟨.imm, d⟩], .imm, by simp, ?_⟩
        simp [c_is_file_0, h1]
    have hs := sub_I (ds := ds)
    have e : fileB k np o (.tuple ds) = (decide (ds.length ≤ 200) && (ds.all (rowB k np o) && ascB ds)) := rfl
    rw [e]
    clear e
    by_cases c : ds.length ≤ 200
    · have c2 : ¬ (200 : Int) < ds.length := by omega
      rw [decide_eq_true c, Bool.true_and]
      cases a : ds.all (rowB k np o) with
      | false =>
        rw [a] at hc
        simp [m_is_file, b_is_file, q_is_file_0, c2, hs, hc]
      | true =>
        have h2 := e_ascend hl fun d hd => row_hd (List.all_eq_true.mp a d hd)
        rw [a] at hc
        simp [m_is_file, b_is_file, q_is_file_0, c2, hs, hc, h2]
    · have c2 : (200 : Int) < ds.length := by omega
      rw [decide_eq_false c, Bool.false_and]
      simp [m_is_file, b_is_file, c2]
  | _ => simp [m_is_file, b_is_file, fileB]
theorem e_finds {n : Nat} {d : D} (h : Ni (n + 2) d) (k np : Int) : m_are_finds [d, .int k, .int np] = .ok ⟨.imm, .bool (findsB k np d)⟩ [] := by
  cases d with
  | dict => cases h
  | tuple ds =>
    have hl := h.len
    have hc : anyE true (cN 3) c_are_finds_0 [some ⟨.imm, .tuple ds⟩, some ⟨.imm, .int k⟩, some ⟨.imm, .int np⟩, none] (ds.map fun d => (⟨.imm, d⟩ : R)) = some (ds.all (findB k np)) :=
      anyE_all fun d hd => by
        have h1 := e_find (h.mem d hd) k np
        refine ⟨[some ⟨.imm, .tuple ds⟩, some ⟨.imm, .int k⟩, some ⟨.imm, .int np⟩, some ⟨.imm, d⟩], .imm, by simp, ?_⟩
        simp [c_are_finds_0, h1]
    have hs := sub_I (ds := ds)
    have e : findsB k np (.tuple ds) = (decide (ds.length ≤ 200) && (ds.all (findB k np) && ascB ds)) := rfl
    rw [e]
    clear e
    by_cases c : ds.length ≤ 200
    · have c2 : ¬ (200 : Int) < ds.length := by omega
      rw [decide_eq_true c, Bool.true_and]
      cases a : ds.all (findB k np) with
      | false =>
        rw [a] at hc
        simp [m_are_finds, b_are_finds, q_are_finds_0, c2, hs, hc]
      | true =>
        have h2 := e_ascend hl fun d hd => find_hd (List.all_eq_true.mp a d hd)
        rw [a] at hc
        simp [m_are_finds, b_are_finds, q_are_finds_0, c2, hs, hc, h2]
    · have c2 : (200 : Int) < ds.length := by omega
      rw [decide_eq_false c, Bool.false_and]
      simp [m_are_finds, b_are_finds, c2]
  | _ => simp [m_are_finds, b_are_finds, findsB]
theorem e_parties0 {n : Nat} {d : D} (h : Ni (n + 2) d) : m_is_parties [d] = .ok ⟨.imm, .bool (partiesB d)⟩ [] := by
  cases d with
  | dict => cases h
  | tuple ds =>
    have hl := h.len
    have hc : anyE true (cN 1) c_is_parties_0 [some ⟨.imm, .tuple ds⟩, none] (ds.map fun d => (⟨.imm, d⟩ : R)) = some (ds.all partyB) :=
      anyE_all fun d hd => by
        have h1 := e_party (h.mem d hd)
        refine ⟨[some ⟨.imm, .tuple ds⟩, some ⟨.imm, d⟩], .imm, by simp, ?_⟩
        simp [c_is_parties_0, h1]
    have hs := sub_I (ds := ds)
    have e : partiesB (.tuple ds) = (decide (1 ≤ ds.length) && (decide (ds.length ≤ 8) && ds.all partyB)) := rfl
    rw [e]
    clear e
    generalize ds.all partyB = B at *
    by_cases c : 1 ≤ ds.length
    · have c1 : (1 : Int) ≤ ds.length := by omega
      rw [decide_eq_true c, Bool.true_and]
      by_cases c2 : ds.length ≤ 8
      · have c3 : (ds.length : Int) ≤ 8 := by omega
        rw [decide_eq_true c2, Bool.true_and]
        simp [m_is_parties, b_is_parties, q_is_parties_0, c1, c3, hs, hc]
      · have c3 : ¬ (ds.length : Int) ≤ 8 := by omega
        rw [decide_eq_false c2, Bool.false_and]
        simp [m_is_parties, b_is_parties, q_is_parties_0, c1, c3]
    · have c1 : ¬ (1 : Int) ≤ ds.length := by omega
      rw [decide_eq_false c, Bool.false_and]
      simp [m_is_parties, b_is_parties, q_is_parties_0, c1]
  | _ => simp [m_is_parties, b_is_parties, partiesB]
end Law

namespace Law
open PySem Oz L2
variable [Oz.WD]
/-! ### dicts of numbers -/
@[simp] theorem lf_dI {ns : List Int} : lf (dI ns) = false := id rfl
theorem foldK_len : ∀ (xs ns : List Int), (xs.foldl addK ns).length ≤ ns.length + xs.length
  | [], ns => Nat.le_refl _
  | x :: xs, ns => by
    have h1 := foldK_len xs (addK ns x)
    have h2 := addK_len (ns := ns) (n := x)
    rw [List.foldl_cons, List.length_cons]
    omega
theorem foldK_mem {m : Int} : ∀ (xs ns : List Int), m ∈ xs.foldl addK ns ↔ m ∈ ns ∨ m ∈ xs
  | [], ns => by simp
  | x :: xs, ns => by
    rw [List.foldl_cons, foldK_mem xs (addK ns x), addK_mem, List.mem_cons]
    constructor
    · rintro ((h | h) | h)
      · exact .inl h
      · exact .inr (.inl h)
      · exact .inr (.inr h)
    · rintro (h | h | h)
      · exact .inl (.inl h)
      · exact .inl (.inr h)
      · exact .inr h
theorem dcE_fold {α : Type} {g : Tgx} {t : Tx} {p : Px} {ρ : Ev} {item : α → R} {c : α → Bool} {f : α → Int} : ∀ (xs : List α) (ns : List Int),
    (∀ x ∈ xs, ∃ ρ1, g (item x) ρ = some ρ1 ∧ t ρ1 = .ok (c x) ∧ (c x = true → ∃ s, p ρ1 = .ok ⟨s, .int (f x)⟩)) → ns.length + xs.length ≤ 10000000 →
    dcE g t p ρ (xs.map item) ns = some (((xs.filter c).map f).foldl addK ns)
  | [], ns, _, _ => rfl
  | x :: xs, ns, h, hl => by
    obtain ⟨ρ1, h1, h2, h3⟩ := h x (by simp)
    have ih := fun ms hm => dcE_fold xs ms (fun y hy => h y (by simp [hy])) hm
    rw [List.length_cons] at hl
    rw [List.map_cons]
    unfold dcE
    rw [h1]
    simp only [h2]
    cases cx : c x with
    | false =>
      rw [if_neg Bool.false_ne_true, ih ns (by omega), List.filter_cons, if_neg (by rw [cx]; exact Bool.false_ne_true)]
    | true =>
      obtain ⟨s, h4⟩ := h3 cx
      have hs : sizeLine = 16777216 := rfl
      have h5 := addK_len (ns := ns) (n := f x)
      simp only [if_true, h4]
      rw [if_pos (by omega), ih _ (by omega), List.filter_cons, if_pos cx]
      rfl
theorem dc2E_fold {α : Type} {vs1 : List Nat} {g g1 : Tgx} {t t1 : Tx} {src1 : Src} {p : Px} {ρ : Ev} {item : α → R} {row : α → List Int} : ∀ (xs : List α) (ns : List Int),
    (∀ x ∈ xs, ∃ ρ1, g (item x) ρ = some ρ1 ∧ nov ρ1 = true ∧ t ρ1 = .ok true ∧ ∃ rs1, src1 ρ1 = .ok rs1 ∧ ∀ ns : List Int, ns.length + (row x).length ≤ 10000000 → dcE g1 t1 p (wipeE ρ1 vs1) rs1 ns = some ((row x).foldl addK ns)) → ns.length + (xs.flatMap row).length ≤ 10000000 →
    dc2E vs1 g t src1 g1 t1 p ρ (xs.map item) ns = some ((xs.flatMap row).foldl addK ns)
  | [], ns, _, _ => rfl
  | x :: xs, ns, h, hl => by
    obtain ⟨ρ1, h1, h2, h3, rs1, h4, h5⟩ := h x (by simp)
    have ih := fun ms hm => dc2E_fold xs ms (fun y hy => h y (by simp [hy])) hm
    rw [List.flatMap_cons, List.length_append] at hl
    have h6 := foldK_len (row x) ns
    rw [List.map_cons]
    unfold dc2E
    rw [h1]
    simp only [h2, if_true, h3, h4]
    rw [h5 ns (by omega)]
    simp only
    rw [ih _ (by omega), List.flatMap_cons, List.foldl_append]
/-! ### the numbers of files -/
def numsD (fs : List PyData) : List Int := fs.flatMap fun f => (tupL f).map num0
/-- files whose rows have numbers ahead -/
structure FD (fs : List PyData) : Prop where
  n : fs.length ≤ 8
  t : ∀ f ∈ fs, ∃ ds, f = .tuple ds ∧ ds.length ≤ 200 ∧ ∀ d ∈ ds, Hd d
theorem nums_len {fs : List PyData} (h : ∀ f ∈ fs, ∃ ds, f = PyData.tuple ds ∧ ds.length ≤ 200 ∧ ∀ d ∈ ds, Hd d) : (numsD fs).length ≤ 200 * fs.length := by
  induction fs with
  | nil => simp [numsD]
  | cons f fs ih =>
    obtain ⟨ds, rfl, h1, _⟩ := h f (by simp)
    have h2 := ih fun g hg => h g (by simp [hg])
    have e : numsD (.tuple ds :: fs) = ds.map num0 ++ numsD fs := by unfold numsD; rw [List.flatMap_cons]; rfl
    rw [e, List.length_append, List.length_map, List.length_cons]
    omega
theorem e_numbers {fs : List PyData} (h : FD fs) : m_entry_numbers [.tuple fs] = .ok ⟨.own, dI ((numsD fs).foldl addK [])⟩ [] := by
  have hl := nums_len h.t
  have h8 := h.n
  have hs := sub_I (ds := fs)
  have hc : dc2E [2] (cN 1) tYesD cs_entry_numbers_0 (cN 2) tYesD c_entry_numbers_0 [some ⟨.imm, .tuple fs⟩, none, none] (fs.map fun f => (⟨.imm, f⟩ : R)) [] = some ((numsD fs).foldl addK []) := by
    refine dc2E_fold (row := fun f : PyData => (tupL f).map num0) fs [] (fun f hf => ?_) (by simp only [List.length_nil]; have : (numsD fs).length = (fs.flatMap fun f => (tupL f).map num0).length := rfl; omega)
    obtain ⟨ds, rfl, h1, h2⟩ := h.t f hf
    refine ⟨[some ⟨.imm, .tuple fs⟩, some ⟨.imm, .tuple ds⟩, none], by simp, by simp, rfl, ds.map fun x => (⟨.imm, x⟩ : R), ?_, fun ns hns => ?_⟩
    · have := sub_I (ds := ds)
      simp [cs_entry_numbers_0, this]
    · have := dcE_fold (g := cN 2) (t := tYesD) (p := c_entry_numbers_0) (ρ := [some ⟨.imm, .tuple fs⟩, some ⟨.imm, .tuple ds⟩, none]) (item := fun x => (⟨.imm, x⟩ : R)) (c := fun _ => true) (f := num0) ds ns (fun x hx => ⟨[some ⟨.imm, .tuple fs⟩, some ⟨.imm, .tuple ds⟩, some ⟨.imm, x⟩], by simp, rfl, fun _ => ⟨.imm, by
        have := (h2 x hx).num .imm .imm rfl
        simp [c_entry_numbers_0, this]⟩⟩) (by simpa [tupL] using hns)
      rw [List.filter_eq_self.mpr (fun _ _ => rfl)] at this
      simpa [tupL] using this
  simp [m_entry_numbers, b_entry_numbers, q_entry_numbers_0, hs, hc]
/-! ### evidence -/
def kI : PyData → Int
  | .int i => i
  | _ => 0
def disjB (fs ds : List PyData) : Bool := !(ds.any fun d => decide (num0 d ∈ numsD fs))
def filesB (k : Int) (fs : List PyData) : Bool := (List.range fs.length).all fun (o : Nat) => fileB k fs.length o (fs.getD o .none)
def evB : PyData → Bool
  | .tuple [k, p, f, d] => numB 1 3 k && ((partiesB p && (isT f && decide ((tupL f).length = (tupL p).length))) && (filesB (kI k) (tupL f) && (findsB (kI k) (tupL f).length d && disjB (tupL f) (tupL d))))
  | _ => false
theorem ev_f {ds : List D} (c4 : ds.length ≠ 4) : evB (.tuple ds) = false := by
  unfold evB
  split
  · rename_i he
    cases he
    exact absurd rfl c4
  · rfl
theorem file_fd {k n o : Int} {d : D} (h : fileB k n o d = true) : ∃ ds, d = .tuple ds ∧ ds.length ≤ 200 ∧ ∀ x ∈ ds, Hd x := by
  cases d with
  | tuple ds =>
    have h : (decide (ds.length ≤ 200) && (ds.all (rowB k n o) && ascB ds)) = true := h
    simp only [Bool.and_eq_true, decide_eq_true_eq] at h
    exact ⟨ds, rfl, h.1, fun x hx => row_hd (List.all_eq_true.mp h.2.1 x hx)⟩
  | _ => cases h
theorem files_fd {k : Int} {fs : List D} (h : filesB k fs = true) (h8 : fs.length ≤ 8) : FD fs := by
  refine ⟨h8, fun f hf => ?_⟩
  obtain ⟨i, hi, rfl⟩ := List.getElem_of_mem hf
  have := List.all_eq_true.mp h i (List.mem_range.mpr hi)
  rw [List.getD_eq_getElem?_getD, List.getElem?_eq_getElem hi] at this
  exact file_fd this
theorem parties_t {d : D} (h : partiesB d = true) : ∃ ps, d = .tuple ps ∧ 1 ≤ ps.length ∧ ps.length ≤ 8 ∧ ps.all partyB = true := by
  cases d with
  | tuple ds =>
    have h : (decide (1 ≤ ds.length) && (decide (ds.length ≤ 8) && ds.all partyB)) = true := h
    simp only [Bool.and_eq_true, decide_eq_true_eq] at h
    exact ⟨ds, rfl, h.1, h.2.1, h.2.2⟩
  | _ => cases h
theorem finds_t {k n : Int} {d : D} (h : findsB k n d = true) : ∃ ds, d = .tuple ds ∧ ds.length ≤ 200 ∧ ∀ x ∈ ds, Hd x := by
  cases d with
  | tuple ds =>
    have h : (decide (ds.length ≤ 200) && (ds.all (findB k n) && ascB ds)) = true := h
    simp only [Bool.and_eq_true, decide_eq_true_eq] at h
    exact ⟨ds, rfl, h.1, fun x hx => find_hd (List.all_eq_true.mp h.2.1 x hx)⟩
  | _ => cases h
theorem e_is_evidence {d : D} (h : Ni 6 d) : m_is_evidence [d] = .ok ⟨.imm, .bool (evB d)⟩ [] := by
  cases d with
  | dict => cases h
  | tuple ds =>
    by_cases c4 : ds.length = 4
    · obtain ⟨k, p, f, d, rfl⟩ := len4 c4
      have nk := e_number (h.mem k (by simp)) 1 3
      have np := e_parties0 (n := 3) (h.mem p (by simp))
      have hf := h.mem f (by simp)
      have hd := h.mem d (by simp)
      have e : evB (.tuple [k, p, f, d]) = (numB 1 3 k && ((partiesB p && (isT f && decide ((tupL f).length = (tupL p).length))) && (filesB (kI k) (tupL f) && (findsB (kI k) (tupL f).length d && disjB (tupL f) (tupL d))))) := rfl
      rw [e]
      clear e
      cases ck : numB 1 3 k with
      | false =>
        rw [ck] at nk
        simp [m_is_evidence, b_is_evidence, nk]
      | true =>
        rw [ck] at nk
        rw [Bool.true_and]
        cases k with
        | int kk =>
          have ekk : kI (.int kk) = kk := rfl
          rw [ekk]
          cases cp : partiesB p with
          | false =>
            rw [cp] at np
            simp [m_is_evidence, b_is_evidence, t_is_evidence_4, t_is_evidence_3, nk, np]
          | true =>
            rw [cp] at np
            rw [Bool.true_and]
            obtain ⟨ps, rfl, p1, p8, _⟩ := parties_t cp
            have etp : tupL (.tuple ps) = ps := rfl
            rw [etp]
            cases f with
            | dict => cases hf
            | tuple fs =>
              have etf : tupL (.tuple fs) = fs := rfl
              have eit : isT (.tuple fs) = true := rfl
              rw [etf, eit, Bool.true_and]
              by_cases cl : fs.length = ps.length
              · rw [decide_eq_true cl, Bool.true_and]
                have cl2 : (fs.length : Int) = ps.length := by omega
                have hse : ((srcR ⟨.imm, .tuple fs⟩).bind fun rs => Res.ok (enumR rs)) = .ok ((List.range fs.length).map fun o => enR o (⟨.imm, fs.getD o .none⟩ : R)) := by
                  show Res.ok (enumR (fs.map (sub .imm))) = _
                  rw [sub_I, enum_rangeK (d := PyData.none)]
                have hc : anyE true (gT 2 (gsC (cN 6) (gsC (cN 7) (gsN)))) c_is_evidence_0 [some ⟨.imm, .tuple [.int kk, .tuple ps, .tuple fs, d]⟩, some ⟨.imm, .int kk⟩, some ⟨.imm, .tuple ps⟩, some ⟨.imm, .tuple fs⟩, some ⟨.imm, d⟩, none, none, none, none] ((List.range fs.length).map fun o => enR o (⟨.imm, fs.getD o .none⟩ : R)) = some (filesB kk fs) :=
                  anyE_all fun o ho => by
                    have ho := List.mem_range.mp ho
                    have hm : fs.getD o .none ∈ fs := by
                      rw [List.getD_eq_getElem?_getD, List.getElem?_eq_getElem ho]
                      exact List.getElem_mem ho
                    have h1 := e_file (n := 2) (hf.mem _ hm) kk fs.length o
                    rw [cl2] at h1
                    rw [cl2]
                    refine ⟨[some ⟨.imm, .tuple [.int kk, .tuple ps, .tuple fs, d]⟩, some ⟨.imm, .int kk⟩, some ⟨.imm, .tuple ps⟩, some ⟨.imm, .tuple fs⟩, some ⟨.imm, d⟩, none, some ⟨.imm, .int o⟩, some ⟨.imm, fs.getD o .none⟩, none], .imm, ?_, ?_⟩
                    · generalize fs.getD o .none = X at *
                      simp [enR]
                    · generalize fs.getD o .none = X at *
                      simp [c_is_evidence_0, h1]
                cases cf : filesB kk fs with
                | false =>
                  rw [cf] at hc
                  generalize ((List.range fs.length).map fun o => enR o (⟨.imm, fs.getD o .none⟩ : R)) = RI at *
                  simp [m_is_evidence, b_is_evidence, t_is_evidence_4, t_is_evidence_3, t_is_evidence_2, q_is_evidence_0, nk, np, cl2, hse, hc, -x_srcRt]
                | true =>
                  rw [cf] at hc
                  rw [Bool.true_and]
                  have fd := files_fd cf (by omega)
                  have nd := e_finds (n := 3) hd kk fs.length
                  cases cd : findsB kk fs.length d with
                  | false =>
                    rw [cd, cl2] at nd
                    generalize ((List.range fs.length).map fun o => enR o (⟨.imm, fs.getD o .none⟩ : R)) = RI at *
                    simp [m_is_evidence, b_is_evidence, t_is_evidence_4, t_is_evidence_3, t_is_evidence_2, t_is_evidence_1, q_is_evidence_0, nk, np, cl2, hse, hc, nd, -x_srcRt]
                  | true =>
                    rw [cd, cl2] at nd
                    rw [Bool.true_and]
                    obtain ⟨ds, rfl, d1, d2⟩ := finds_t cd
                    have etd : tupL (.tuple ds) = ds := rfl
                    rw [etd]
                    have nn := e_numbers fd
                    have hc2 : anyE false (cN 8) c_is_evidence_1 [some ⟨.imm, .tuple [.int kk, .tuple ps, .tuple fs, .tuple ds]⟩, some ⟨.imm, .int kk⟩, some ⟨.imm, .tuple ps⟩, some ⟨.imm, .tuple fs⟩, some ⟨.imm, .tuple ds⟩, some ⟨.own, dI ((numsD fs).foldl addK [])⟩, none, none, none] (ds.map fun d => (⟨.imm, d⟩ : R)) = some (ds.any fun d => decide (num0 d ∈ numsD fs)) :=
                      anyE_any fun x hx => by
                        have n1 := (d2 x hx).num .imm .imm rfl
                        have e2 : (num0 x ∈ (numsD fs).foldl addK []) = (num0 x ∈ numsD fs) := by rw [foldK_mem]; simp
                        refine ⟨[some ⟨.imm, .tuple [.int kk, .tuple ps, .tuple fs, .tuple ds]⟩, some ⟨.imm, .int kk⟩, some ⟨.imm, .tuple ps⟩, some ⟨.imm, .tuple fs⟩, some ⟨.imm, .tuple ds⟩, some ⟨.own, dI ((numsD fs).foldl addK [])⟩, none, none, some ⟨.imm, x⟩], .imm, by simp, ?_⟩
                        simp [c_is_evidence_1, n1, e2]
                    have hs := sub_I (ds := ds)
                    have hs2 : ∀ s : Sx, s = .imm → srcR ⟨s, .tuple ds⟩ = .ok (ds.map fun d => (⟨.imm, d⟩ : R)) := fun s e => by subst e; show Res.ok (ds.map (sub .imm)) = _; rw [hs]
                    have hs3 := hs2 .imm rfl
                    unfold disjB
                    generalize (ds.any fun d => decide (num0 d ∈ numsD fs)) = B at *
                    generalize ((List.range fs.length).map fun o => enR o (⟨.imm, fs.getD o .none⟩ : R)) = RI at *
                    simp [m_is_evidence, b_is_evidence, t_is_evidence_4, t_is_evidence_3, t_is_evidence_2, t_is_evidence_1, t_is_evidence_0, q_is_evidence_0, q_is_evidence_1, nk, np, cl2, hse, hs3, hc, hc2, nd, nn, -x_srcRt]
              · have cl2 : ((fs.length : Int) == ps.length) = false := beq_eq_false_iff_ne.mpr (by omega)
                have cl3 : ¬ (fs.length : Int) = ps.length := by omega
                rw [decide_eq_false cl, Bool.false_and]
                simp [m_is_evidence, b_is_evidence, t_is_evidence_4, t_is_evidence_3, nk, np, cl2, cl3]
            | _ => simp [m_is_evidence, b_is_evidence, t_is_evidence_4, t_is_evidence_3, nk, np, isT]
        | _ => cases ck
    · rw [ev_f c4]
      have d4 : ((ds.length : Int) == 4) = false := beq_eq_false_iff_ne.mpr (by omega)
      have d5 : ¬ (ds.length : Int) = 4 := by omega
      simp [m_is_evidence, b_is_evidence, d4, d5]
  | _ => simp [m_is_evidence, b_is_evidence, evB]
end Law

namespace Law
open PySem Oz L2
variable [Oz.WD]
/-! ### the law's own word: the parties -/
def leEnv (k : Int) (P F D6 : Option R) (d : PyData) : Ev := [none, some ⟨.imm, .int k⟩, P, F, some ⟨.imm, d⟩, none, D6, none, none, none, none]
theorem eq_flags (bs : List Bool) : fEq (.list (bs.map .bool)) (.list [.bool true, .bool true]) = some (bs == [true, true]) := by
  have h1 : Sh 1 (.list (bs.map PyData.bool)) := .list fun x hx => by
    obtain ⟨b, _, rfl⟩ := List.mem_map.mp hx
    exact .bool
  have h2 : Sh 1 (.list [PyData.bool true, .bool true]) := .list fun x hx => by
    simp only [List.mem_cons, List.not_mem_nil, or_false] at hx
    rcases hx with rfl | rfl <;> exact .bool
  rw [fEq_shaped h1.shaped h2.shaped]
  match bs with
  | [] => simp
  | [a] => simp
  | [a, b] => simp
  | a :: b :: c :: r => simp
theorem party_flags {xs : List PyData} : partyB (.tuple xs) = (xs.map flagB == [true, true]) := by
  match xs with
  | [] => rfl
  | [a] => simp [partyB]
  | [a, b] =>
    show (flagB a && flagB b) = ([flagB a, flagB b] == [true, true])
    generalize flagB a = x
    generalize flagB b = y
    cases x <;> cases y <;> rfl
  | a :: b :: c :: r => simp [partyB]
theorem party_step {x : PyData} (h : Ni 4 x) (k : Int) (P F : Option R) (d : PyData) (hP : ∃ p, P = some ⟨.imm, p⟩) (hF : ∃ f, F = some ⟨.imm, f⟩) :
    (partyB x = true → stp (gN 5) l__law_is_evidence_0 ⟨.imm, x⟩ (leEnv k P F none d) = .next (leEnv k P F none d)) ∧
    (partyB x = false → stp (gN 5) l__law_is_evidence_0 ⟨.imm, x⟩ (leEnv k P F none d) = .ret ⟨.imm, .bool false⟩ [none, none, none, none, none, none, none, none, none, none, none]) := by
  obtain ⟨p, rfl⟩ := hP
  obtain ⟨f, rfl⟩ := hF
  cases x with
  | dict => cases h
  | tuple xs =>
    have hl := h.len
    have hs := sub_I (ds := xs)
    have hc : compE (cN 9) tYesD c__law_is_evidence_0 [none, some ⟨.imm, .int k⟩, some ⟨.imm, p⟩, some ⟨.imm, f⟩, some ⟨.imm, d⟩, some ⟨.imm, .tuple xs⟩, none, none, none, none, none] (xs.map fun y => (⟨.imm, y⟩ : R)) = some (xs.map fun y => (⟨.imm, .bool (flagB y)⟩ : R)) :=
      comp_map1 fun y hy => ⟨[none, some ⟨.imm, .int k⟩, some ⟨.imm, p⟩, some ⟨.imm, f⟩, some ⟨.imm, d⟩, some ⟨.imm, .tuple xs⟩, none, none, none, some ⟨.imm, y⟩, none], by simp, by
        have := isi_bool (h.mem y hy)
        simp [c__law_is_evidence_0, this]⟩
    have hr : compR (xs.map fun y => (⟨.imm, .bool (flagB y)⟩ : R)) = .ok ⟨.own, .list ((xs.map flagB).map .bool)⟩ := by
      have hz : sizeLine = 16777216 := rfl
      rw [List.map_map]
      exact compR_own (e := fun y => PyData.bool (flagB y)) (by omega) fun _ _ => rfl
    have he := eq_flags (xs.map flagB)
    rw [← party_flags] at he
    unfold leEnv
    generalize (xs.map flagB).map PyData.bool = BL at *
    generalize (xs.map fun y => (⟨.imm, .bool (flagB y)⟩ : R)) = BR at *
    generalize partyB (.tuple xs) = B at *
    refine ⟨fun e => ?_, fun e => ?_⟩
    · subst e
      simp [x_stp, l__law_is_evidence_0, q__law_is_evidence_0, hs, hc, hr, he, sizeLine]
    · subst e
      simp [x_stp, l__law_is_evidence_0, q__law_is_evidence_0, hs, hc, hr, he, sizeLine]
  | _ =>
    refine ⟨fun e => (by cases e), fun _ => ?_⟩
    unfold leEnv
    simp [x_stp, l__law_is_evidence_0]
theorem parties_loop {ps : List PyData} (h : ∀ x ∈ ps, Ni 4 x) (k : Int) (f d : PyData) :
    f__law_is_evidence_0 [some ⟨.imm, .tuple [.int k, .tuple ps, f, d]⟩, some ⟨.imm, .int k⟩, some ⟨.imm, .tuple ps⟩, some ⟨.imm, f⟩, some ⟨.imm, d⟩, none, none, none, none, none, none] =
      if ps.all partyB = true then .next (leEnv k (some ⟨.imm, .tuple ps⟩) (some ⟨.imm, f⟩) none d) else .ret ⟨.imm, .bool false⟩ [none, none, none, none, none, none, none, none, none, none, none] := by
  have loop := loop_all (g := gN 5) (b := l__law_is_evidence_0) (item := fun x => (⟨.imm, x⟩ : R)) (fun (_ : Unit) => leEnv k (some ⟨.imm, .tuple ps⟩) (some ⟨.imm, f⟩) none d) [none, none, none, none, none, none, none, none, none, none, none] ⟨.imm, .bool false⟩
    partyB (fun _ _ => ()) ps (fun _ _ => True) () trivial (fun pre x post s hx _ => by
      have := party_step (h x (by rw [hx]; simp)) k (some ⟨.imm, .tuple ps⟩) (some ⟨.imm, f⟩) d ⟨_, rfl⟩ ⟨_, rfl⟩
      exact ⟨fun e => ⟨this.1 e, trivial⟩, this.2⟩)
  have hs := sub_I (ds := ps)
  unfold leEnv at loop ⊢
  cases c : ps.all partyB with
  | true =>
    have l1 := (loop.1 c).1
    simp [f__law_is_evidence_0, hs, l1]
  | false =>
    have l2 := loop.2 c
    simp [f__law_is_evidence_0, hs, l2]
/-! ### the files -/
theorem owns_imm : ∀ {ds es : List PyData}, owns (ds.map fun d => (⟨.imm, d⟩ : R)) = some es → es = ds
  | [], es, h => by cases h; rfl
  | d :: ds, es, h => by
    have h : (match ownR (⟨.imm, d⟩ : R), owns (ds.map fun d => (⟨.imm, d⟩ : R)) with | some d, some ds => some (d :: ds) | _, _ => none) = some es := h
    cases e1 : ownR (⟨.imm, d⟩ : R) with
    | none => rw [e1] at h; cases h
    | some d' =>
      cases e2 : owns (ds.map fun d => (⟨.imm, d⟩ : R)) with
      | none => rw [e1, e2] at h; cases h
      | some es' =>
        rw [e1, e2] at h
        have h3 : es = d' :: es' := (Option.some.inj h).symm
        have hd : d' = d := by
          unfold ownR at e1
          simp only at e1
          split at e1
          · exact (Option.some.inj e1).symm
          · split at e1
            · exact (Option.some.inj e1).symm
            · cases e1
        rw [h3, owns_imm e2, hd]
theorem comp_imm {ds : List PyData} (h : ds.length ≤ 100000) : ∃ s, compR (ds.map fun d => (⟨.imm, d⟩ : R)) = .ok ⟨s, .list ds⟩ := by
  have hz : sizeLine = 16777216 := rfl
  unfold compR
  rw [List.length_map, if_pos (by omega)]
  cases e : owns (ds.map fun d => (⟨.imm, d⟩ : R)) with
  | some es => exact ⟨.own, by rw [owns_imm e]⟩
  | none =>
    refine ⟨.imm, ?_⟩
    have : frzs (ds.map fun d => (⟨.imm, d⟩ : R)) = some (ds.map id) := frzs_map fun _ _ => rfl
    rw [this, List.map_id]
theorem filter_all {α : Type} {p : α → Bool} {ds : List α} : ds.all p = decide ((ds.filter fun d => !p d).length = 0) := by
  rw [Bool.eq_iff_iff, decide_eq_true_eq, List.length_eq_zero_iff, List.filter_eq_nil_iff, List.all_eq_true]
  exact forall_congr' fun d => forall_congr' fun hd => by simp
theorem owner_step {fs : List PyData} (hfs : ∀ f ∈ fs, Ni 4 f) (k : Int) (d : PyData) {o : Nat} (ho : o < fs.length) (nums : List Int) (hn : nums.length ≤ 10000) :
    (fileB k fs.length o (fs.getD o .none) = true → stp (gN 7) l__law_is_evidence_1 ⟨.imm, .int (0 + (o : Int))⟩ (leEnv k none (some ⟨.imm, .tuple fs⟩) (some ⟨.own, .list (nums.map .int)⟩) d) = .next (leEnv k none (some ⟨.imm, .tuple fs⟩) (some ⟨.own, .list ((nums ++ (tupL (fs.getD o .none)).map num0).map .int)⟩) d)) ∧
    (fileB k fs.length o (fs.getD o .none) = false → stp (gN 7) l__law_is_evidence_1 ⟨.imm, .int (0 + (o : Int))⟩ (leEnv k none (some ⟨.imm, .tuple fs⟩) (some ⟨.own, .list (nums.map .int)⟩) d) = .ret ⟨.imm, .bool false⟩ [none, none, none, none, none, none, none, none, none, none, none]) := by
  have hat := at_getD (ds := fs) ho
  have hm : fs.getD o .none ∈ fs := by
    rw [List.getD_eq_getElem?_getD, List.getElem?_eq_getElem ho]
    exact List.getElem_mem ho
  have hx := hfs _ hm
  rw [Int.zero_add]
  generalize fs.getD o .none = x at *
  have lNL : lf (.list (nums.map .int)) = false := rfl
  cases x with
  | dict => cases hx
  | tuple ds =>
    have e : fileB k fs.length o (.tuple ds) = (decide (ds.length ≤ 200) && (ds.all (rowB k fs.length o) && ascB ds)) := rfl
    rw [e]
    clear e
    have et : tupL (.tuple ds) = ds := rfl
    rw [et]
    have hs := sub_I (ds := ds)
    by_cases c : ds.length ≤ 200
    · have c2 : ¬ (200 : Int) < ds.length := by omega
      rw [decide_eq_true c, Bool.true_and]
      have hc : compE (cN 10) ct__law_is_evidence_1 c__law_is_evidence_1 [none, some ⟨.imm, .int k⟩, none, some ⟨.imm, .tuple fs⟩, some ⟨.imm, d⟩, none, some ⟨.own, .list (nums.map .int)⟩, some ⟨.imm, .int o⟩, some ⟨.imm, .tuple ds⟩, none, none] (ds.map fun y => (⟨.imm, y⟩ : R)) = some ((ds.filter fun y => !rowB k fs.length o y).map fun y => (⟨.imm, y⟩ : R)) :=
        comp_map fun y hy => ⟨[none, some ⟨.imm, .int k⟩, none, some ⟨.imm, .tuple fs⟩, some ⟨.imm, d⟩, none, some ⟨.own, .list (nums.map .int)⟩, some ⟨.imm, .int o⟩, some ⟨.imm, .tuple ds⟩, none, some ⟨.imm, y⟩], by simp, by
          have := e_lrow (n := 2) (hx.mem y hy) (by decide) k fs.length o
          generalize nums.map PyData.int = NL at *
          simp [ct__law_is_evidence_1, this], fun _ => by
          generalize nums.map PyData.int = NL at *
          simp [c__law_is_evidence_1]⟩
      have hfl := List.length_filter_le (fun y => !rowB k fs.length o y) ds
      obtain ⟨s1, hr⟩ := comp_imm (ds := ds.filter fun y => !rowB k fs.length o y) (by omega)
      have hfa := filter_all (p := rowB k fs.length o) (ds := ds)
      have hlen : fLen (.list (ds.filter fun y => !rowB k fs.length o y)) = some (.int (ds.filter fun y => !rowB k fs.length o y).length) := by simp
      by_cases a : (ds.filter fun y => !rowB k fs.length o y).length = 0
      · rw [decide_eq_true a] at hfa
        rw [a] at hlen
        have hh : ∀ y ∈ ds, Hd y := fun y hy => row_hd (List.all_eq_true.mp hfa y hy)
        have h2 := e_lascends (ds := ds) (by omega) hh
        rw [hfa, Bool.true_and]
        have hc2 : compE (cN 10) tYesD c__law_is_evidence_2 [none, some ⟨.imm, .int k⟩, none, some ⟨.imm, .tuple fs⟩, some ⟨.imm, d⟩, none, some ⟨.own, .list (nums.map .int)⟩, some ⟨.imm, .int o⟩, some ⟨.imm, .tuple ds⟩, none, none] (ds.map fun y => (⟨.imm, y⟩ : R)) = some ((ds.map num0).map fun v => (⟨.imm, .int v⟩ : R)) := by
          rw [List.map_map]
          exact comp_map1 fun y hy => ⟨[none, some ⟨.imm, .int k⟩, none, some ⟨.imm, .tuple fs⟩, some ⟨.imm, d⟩, none, some ⟨.own, .list (nums.map .int)⟩, some ⟨.imm, .int o⟩, some ⟨.imm, .tuple ds⟩, none, some ⟨.imm, y⟩], by simp, by
            have := (hh y hy).num .imm .imm rfl
            generalize nums.map PyData.int = NL at *
            simp [c__law_is_evidence_2, this]⟩
        have hr2 := ints_ownK (ns := ds.map num0) (by rw [List.length_map]; omega)
        have hm2 : (nums ++ ds.map num0).map PyData.int = nums.map .int ++ (ds.map num0).map .int := List.map_append
        have z1 : (nums.map PyData.int).length = nums.length := by simp
        have z2 : ((ds.map num0).map PyData.int).length = ds.length := by simp
        have f1 : lfs (nums.map PyData.int) = true := by rw [lfs_all]; simp
        have f2 : lfs ((ds.map num0).map PyData.int) = true := by rw [lfs_all]; simp
        have hadd : ∀ s, addR ⟨s, .list (nums.map .int)⟩ ⟨.own, .list ((ds.map num0).map .int)⟩ = .ok ⟨.own, .list (nums.map .int ++ (ds.map num0).map .int)⟩ := fun s => by
          have hs : sizeLine = 16777216 := rfl
          have f3 : lfs (nums.map PyData.int ++ (ds.map num0).map PyData.int) = true := by
            rw [lfs_all] at f1 f2 ⊢
            rw [List.all_append, f1, f2]; rfl
          have hle : (nums.map PyData.int ++ (ds.map num0).map PyData.int).length ≤ sizeLine := by
            rw [List.length_append]; omega
          generalize (ds.map num0).map PyData.int = RD at *
          generalize nums.map PyData.int = LD at *
          simp [addR, dnew_lf f3, f1, f2, hle]
          all_goals (simp only [List.length_append] at hle; omega)
        rw [hm2]
        clear hm2 z1 z2 f1 f2 hfa hm
        unfold leEnv
        generalize (ds.map num0).map PyData.int = ND at *
        generalize (ds.map num0).map (fun v => (⟨.imm, .int v⟩ : R)) = NI at *
        generalize nums.map PyData.int = NL at *
        generalize (ds.filter fun y => !rowB k fs.length o y).map (fun y => (⟨.imm, y⟩ : R)) = RI at *
        generalize (ds.filter fun y => !rowB k fs.length o y) = FL at *
        generalize ascB ds = B at *
        refine ⟨fun e => ?_, fun e => ?_⟩
        · subst e
          simp [x_stp, l__law_is_evidence_1, t__law_is_evidence_2, t__law_is_evidence_1, t__law_is_evidence_0, q__law_is_evidence_1, q__law_is_evidence_2, hat, c2, hs, hc, hr, hlen, h2, hc2, hr2, hadd, lNL, -List.map_map]
        · subst e
          simp [x_stp, l__law_is_evidence_1, t__law_is_evidence_2, t__law_is_evidence_1, t__law_is_evidence_0, q__law_is_evidence_1, q__law_is_evidence_2, hat, c2, hs, hc, hr, hlen, h2, hc2, hr2, hadd, lNL, -List.map_map]
      · rw [decide_eq_false a] at hfa
        rw [hfa, Bool.false_and]
        have a2 : (0 : Int) < (ds.filter fun y => !rowB k fs.length o y).length := by omega
        refine ⟨fun e => (by cases e), fun _ => ?_⟩
        clear hfa hm
        unfold leEnv
        generalize nums.map PyData.int = NL at *
        generalize (ds.filter fun y => !rowB k fs.length o y).map (fun y => (⟨.imm, y⟩ : R)) = RI at *
        generalize (ds.filter fun y => !rowB k fs.length o y) = FL at *
        generalize (FL.length : Int) = FN at *
        simp [x_stp, l__law_is_evidence_1, t__law_is_evidence_2, t__law_is_evidence_1, q__law_is_evidence_1, hat, c2, hs, hc, hr, hlen, a2, lNL, -List.map_map]
    · have c2 : (200 : Int) < ds.length := by omega
      rw [decide_eq_false c, Bool.false_and]
      refine ⟨fun e => (by cases e), fun _ => ?_⟩
      unfold leEnv
      simp [x_stp, l__law_is_evidence_1, t__law_is_evidence_2, hat, c2]
  | _ =>
    refine ⟨fun e => (by cases e), fun _ => ?_⟩
    unfold leEnv
    simp [x_stp, l__law_is_evidence_1, t__law_is_evidence_2, hat]
end Law

namespace Law
open PySem Oz L2
variable [Oz.WD]
theorem foldl_nums {fs : List PyData} : ∀ (os : List Nat) (nums : List Int), os.foldl (fun nums o => nums ++ (tupL (fs.getD o .none)).map num0) nums = nums ++ os.flatMap fun o => (tupL (fs.getD o .none)).map num0
  | [], nums => by simp
  | o :: os, nums => by rw [List.foldl_cons, foldl_nums os, List.flatMap_cons, List.append_assoc]
theorem range_getD {fs : List PyData} : (List.range fs.length).map (fun o => fs.getD o .none) = fs := by
  apply List.ext_getElem
  · simp
  · intro i h1 h2
    simp [h2]
theorem nums_range {fs : List PyData} : (List.range fs.length).flatMap (fun o => (tupL (fs.getD o .none)).map num0) = numsD fs := by
  have e : (List.range fs.length).flatMap (fun o => (tupL (fs.getD o .none)).map num0) = ((List.range fs.length).map fun o => fs.getD o .none).flatMap fun f => (tupL f).map num0 := by rw [List.flatMap_map]
  rw [e, range_getD]
  rfl
theorem owners_loop {fs : List PyData} (hfs : ∀ f ∈ fs, Ni 4 f) (h8 : fs.length ≤ 8) (k : Int) (ps d : PyData) :
    f__law_is_evidence_1 (leEnv k (some ⟨.imm, ps⟩) (some ⟨.imm, .tuple fs⟩) (some ⟨.own, .list []⟩) d) =
      if filesB k fs = true then .next (leEnv k none (some ⟨.imm, .tuple fs⟩) (some ⟨.own, .list ((numsD fs).map .int)⟩) d) else .ret ⟨.imm, .bool false⟩ [none, none, none, none, none, none, none, none, none, none, none] := by
  have hin : inR (fs.length : Int) = true := inR_of (by omega) (by omega)
  have loop := loop_all (g := gN 7) (b := l__law_is_evidence_1) (item := fun (o : Nat) => (⟨.imm, .int (0 + (o : Int))⟩ : R)) (fun (nums : List Int) => leEnv k none (some ⟨.imm, .tuple fs⟩) (some ⟨.own, .list (nums.map .int)⟩) d) [none, none, none, none, none, none, none, none, none, none, none] ⟨.imm, .bool false⟩
    (fun (o : Nat) => fileB k fs.length o (fs.getD o .none)) (fun nums o => nums ++ (tupL (fs.getD o .none)).map num0) (List.range fs.length) (fun pre nums => nums.length ≤ 200 * pre.length) [] (by simp) (fun pre o post nums hx hI => by
      obtain ⟨rfl, ho⟩ := pre_rng hx
      have h1 := owner_step hfs k d ho nums (by omega)
      refine ⟨fun e => ⟨h1.1 e, ?_⟩, h1.2⟩
      obtain ⟨ds, e1, e2, _⟩ := file_fd e
      rw [e1, List.length_append, List.length_append, List.length_map, List.length_singleton]
      show nums.length + ds.length ≤ _
      omega)
  rw [foldl_nums, List.nil_append, nums_range, ← irng_map] at loop
  have e : (List.range fs.length).all (fun (o : Nat) => fileB k fs.length o (fs.getD o .none)) = filesB k fs := rfl
  rw [e] at loop
  have e0 : (([] : List Int).map PyData.int) = [] := rfl
  rw [e0] at loop
  have l1 : lf (.list ((numsD fs).map .int)) = false := rfl
  unfold leEnv at loop ⊢
  generalize PyData.list ((numsD fs).map .int) = ND at *
  cases c : filesB k fs with
  | true =>
    have l2 := (loop.1 c).1
    simp [f__law_is_evidence_1, hin, l2, l1]
  | false =>
    have l2 := loop.2 c
    simp [f__law_is_evidence_1, hin, l2]
theorem any_memZ {ns : List Int} {x : Int} : (ns.any fun z => z == x) = decide (x ∈ ns) := by
  rw [Bool.eq_iff_iff, List.any_eq_true, decide_eq_true_eq]
  constructor
  · rintro ⟨z, hz, e⟩
    rw [beq_iff_eq] at e
    rw [← e]; exact hz
  · intro h
    exact ⟨x, h, by simp⟩
/-- the finds, at the end -/
theorem finds_end {ds : List PyData} (hd : ∀ y ∈ ds, Ni 4 y) (h200 : ds.length ≤ 200) (k : Int) {fs : List PyData} :
    t__law_is_evidence_3 (leEnv k none (some ⟨.imm, .tuple fs⟩) (some ⟨.own, .list ((numsD fs).map .int)⟩) (.tuple ds)) = .ret ⟨.imm, .bool (findsB k fs.length (.tuple ds) && disjB fs ds)⟩ (leEnv k none (some ⟨.imm, .tuple fs⟩) (some ⟨.own, .list ((numsD fs).map .int)⟩) (.tuple ds)) := by
  have hs := sub_I (ds := ds)
  have lN : lf (.list ((numsD fs).map .int)) = false := rfl
  have hc : compE (cN 10) ct__law_is_evidence_3 c__law_is_evidence_3 (leEnv k none (some ⟨.imm, .tuple fs⟩) (some ⟨.own, .list ((numsD fs).map .int)⟩) (.tuple ds)) (ds.map fun y => (⟨.imm, y⟩ : R)) = some ((ds.filter fun y => !findB k fs.length y).map fun y => (⟨.imm, y⟩ : R)) :=
    comp_map fun y hy => ⟨[none, some ⟨.imm, .int k⟩, none, some ⟨.imm, .tuple fs⟩, some ⟨.imm, .tuple ds⟩, none, some ⟨.own, .list ((numsD fs).map .int)⟩, none, none, none, some ⟨.imm, y⟩], by simp [leEnv], by
      have := e_lfind (n := 3) (hd y hy) k fs.length
      generalize (numsD fs).map PyData.int = NL at *
      simp [ct__law_is_evidence_3, this], fun _ => by
      generalize (numsD fs).map PyData.int = NL at *
      simp [c__law_is_evidence_3]⟩
  have hfl := List.length_filter_le (fun y => !findB k fs.length y) ds
  obtain ⟨s1, hr⟩ := comp_imm (ds := ds.filter fun y => !findB k fs.length y) (by omega)
  have hfa := filter_all (p := findB k fs.length) (ds := ds)
  have hlen : fLen (.list (ds.filter fun y => !findB k fs.length y)) = some (.int (ds.filter fun y => !findB k fs.length y).length) := by simp
  have e : findsB k fs.length (.tuple ds) = (decide (ds.length ≤ 200) && (ds.all (findB k fs.length) && ascB ds)) := rfl
  rw [e, decide_eq_true h200, Bool.true_and]
  clear e
  by_cases a : (ds.filter fun y => !findB k fs.length y).length = 0
  · rw [decide_eq_true a] at hfa
    rw [a] at hlen
    have hh : ∀ y ∈ ds, Hd y := fun y hy => find_hd (List.all_eq_true.mp hfa y hy)
    have h2 := e_lascends (ds := ds) (by omega) hh
    rw [hfa, Bool.true_and]
    cases ca : ascB ds with
    | false =>
      rw [ca] at h2
      unfold leEnv at hc ⊢
      generalize (numsD fs).map PyData.int = NL at *
      generalize (ds.filter fun y => !findB k fs.length y).map (fun y => (⟨.imm, y⟩ : R)) = RI at *
      generalize (ds.filter fun y => !findB k fs.length y) = FL at *
      simp [t__law_is_evidence_3, q__law_is_evidence_3, hs, hc, hr, hlen, h2, -List.map_map]
    | true =>
      rw [ca] at h2
      rw [Bool.true_and]
      have hc2 : compE (cN 10) ct__law_is_evidence_4 c__law_is_evidence_4 (leEnv k none (some ⟨.imm, .tuple fs⟩) (some ⟨.own, .list ((numsD fs).map .int)⟩) (.tuple ds)) (ds.map fun y => (⟨.imm, y⟩ : R)) = some ((ds.filter fun y => decide (num0 y ∈ numsD fs)).map fun y => (⟨.imm, y⟩ : R)) :=
        comp_map fun y hy => ⟨[none, some ⟨.imm, .int k⟩, none, some ⟨.imm, .tuple fs⟩, some ⟨.imm, .tuple ds⟩, none, some ⟨.own, .list ((numsD fs).map .int)⟩, none, none, none, some ⟨.imm, y⟩], by simp [leEnv], by
          have n1 := (hh y hy).num .imm .imm rfl
          have hi := in_ints (ls := numsD fs) (x := num0 y)
          rw [any_memZ] at hi
          generalize decide (num0 y ∈ numsD fs) = B at *
          generalize (numsD fs).map PyData.int = NL at *
          simp [ct__law_is_evidence_4, n1, hi], fun _ => by
          generalize (numsD fs).map PyData.int = NL at *
          simp [c__law_is_evidence_4]⟩
      have hfl2 := List.length_filter_le (fun y => decide (num0 y ∈ numsD fs)) ds
      obtain ⟨s2, hr2⟩ := comp_imm (ds := ds.filter fun y => decide (num0 y ∈ numsD fs)) (by omega)
      have hlen2 : fLen (.list (ds.filter fun y => decide (num0 y ∈ numsD fs))) = some (.int (ds.filter fun y => decide (num0 y ∈ numsD fs)).length) := by simp
      have hdj : disjB fs ds = (((ds.filter fun y => decide (num0 y ∈ numsD fs)).length : Int) == 0) := by
        unfold disjB
        rw [Bool.eq_iff_iff]
        simp [List.filter_eq_nil_iff]
      rw [hdj]
      unfold leEnv at hc hc2 ⊢
      clear hdj hfa hh hfl hfl2
      generalize (ds.filter fun y => decide (num0 y ∈ numsD fs)).map (fun y => (⟨.imm, y⟩ : R)) = RJ at *
      generalize (ds.filter fun y => decide (num0 y ∈ numsD fs)) = FJ at *
      generalize (numsD fs).map PyData.int = NL at *
      generalize (ds.filter fun y => !findB k fs.length y).map (fun y => (⟨.imm, y⟩ : R)) = RI at *
      generalize (ds.filter fun y => !findB k fs.length y) = FL at *
      simp [t__law_is_evidence_3, q__law_is_evidence_3, q__law_is_evidence_4, hs, hc, hr, hlen, h2, hc2, hr2, hlen2, -List.map_map]
  · rw [decide_eq_false a] at hfa
    rw [hfa, Bool.false_and, Bool.false_and]
    have a2 : (0 : Int) < (ds.filter fun y => !findB k fs.length y).length := by omega
    unfold leEnv at hc ⊢
    clear hfa
    generalize (numsD fs).map PyData.int = NL at *
    generalize (ds.filter fun y => !findB k fs.length y).map (fun y => (⟨.imm, y⟩ : R)) = RI at *
    generalize (ds.filter fun y => !findB k fs.length y) = FL at *
    generalize (FL.length : Int) = FN at *
    simp [t__law_is_evidence_3, q__law_is_evidence_3, hs, hc, hr, hlen, a2, -List.map_map]
end Law

namespace Law
open PySem Oz L2
variable [Oz.WD]
theorem e_law_is_evidence {d : D} (h : Ni 6 d) : m__law_is_evidence [d] = .ok ⟨.imm, .bool (evB d)⟩ [] := by
  cases d with
  | dict => cases h
  | tuple ds =>
    by_cases c4 : ds.length = 4
    · obtain ⟨k, p, f, d, rfl⟩ := len4 c4
      have nk := e_linteger (h.mem k (by simp)) 1 3
      have hp := h.mem p (by simp)
      have hf := h.mem f (by simp)
      have hd := h.mem d (by simp)
      have e : evB (.tuple [k, p, f, d]) = (numB 1 3 k && ((partiesB p && (isT f && decide ((tupL f).length = (tupL p).length))) && (filesB (kI k) (tupL f) && (findsB (kI k) (tupL f).length d && disjB (tupL f) (tupL d))))) := rfl
      rw [e]
      clear e
      cases ck : numB 1 3 k with
      | false =>
        rw [ck] at nk
        simp [m__law_is_evidence, b__law_is_evidence, nk]
      | true =>
        rw [ck] at nk
        rw [Bool.true_and]
        cases k with
        | int kk =>
          have ekk : kI (.int kk) = kk := rfl
          rw [ekk]
          cases p with
          | dict => cases hp
          | tuple ps =>
            cases f with
            | dict => cases hf
            | tuple fs =>
              cases d with
              | dict => cases hd
              | tuple ds =>
                have etp : tupL (.tuple ps) = ps := rfl
                have etf : tupL (.tuple fs) = fs := rfl
                have etd : tupL (.tuple ds) = ds := rfl
                have eit : isT (.tuple fs) = true := rfl
                rw [etp, etf, etd, eit, Bool.true_and]
                have ep : partiesB (.tuple ps) = (decide (1 ≤ ps.length) && (decide (ps.length ≤ 8) && ps.all partyB)) := rfl
                rw [ep]
                clear ep
                by_cases p1 : 1 ≤ ps.length
                · have q1 : (1 : Int) ≤ ps.length := by omega
                  rw [decide_eq_true p1, Bool.true_and]
                  by_cases p8 : ps.length ≤ 8
                  · have q8 : (ps.length : Int) ≤ 8 := by omega
                    rw [decide_eq_true p8, Bool.true_and]
                    have lp := parties_loop (ps := ps) (fun x hx => hp.mem x hx) kk (.tuple fs) (.tuple ds)
                    cases ca : ps.all partyB with
                    | false =>
                      rw [ca, if_neg Bool.false_ne_true] at lp
                      simp [m__law_is_evidence, b__law_is_evidence, t__law_is_evidence_10, t__law_is_evidence_9, t__law_is_evidence_8, t__law_is_evidence_7, nk, q1, q8, lp]
                    | true =>
                      rw [ca, if_pos rfl] at lp
                      rw [Bool.true_and]
                      by_cases cl : fs.length = ps.length
                      · have cl2 : (fs.length : Int) = ps.length := by omega
                        rw [decide_eq_true cl, Bool.true_and]
                        have ef : findsB kk fs.length (.tuple ds) = (decide (ds.length ≤ 200) && (ds.all (findB kk fs.length) && ascB ds)) := rfl
                        by_cases c2 : ds.length ≤ 200
                        · have d2 : ¬ (200 : Int) < ds.length := by omega
                          have lo := owners_loop (fs := fs) (fun x hx => hf.mem x hx) (by omega) kk (.tuple ps) (.tuple ds)
                          have le := finds_end (ds := ds) (fun x hx => hd.mem x hx) c2 kk (fs := fs)
                          unfold leEnv at lp lo le
                          cases cf : filesB kk fs with
                          | false =>
                            rw [cf, if_neg Bool.false_ne_true] at lo
                            simp [m__law_is_evidence, b__law_is_evidence, t__law_is_evidence_10, t__law_is_evidence_9, t__law_is_evidence_8, t__law_is_evidence_7, t__law_is_evidence_6, t__law_is_evidence_5, t__law_is_evidence_4, nk, q1, q8, lp, cl2, d2, lo, sizeLine]
                          | true =>
                            rw [cf, if_pos rfl] at lo
                            rw [Bool.true_and]
                            generalize (findsB kk fs.length (.tuple ds) && disjB fs ds) = B at *
                            generalize PyData.list ((numsD fs).map .int) = ND at *
                            simp [m__law_is_evidence, b__law_is_evidence, t__law_is_evidence_10, t__law_is_evidence_9, t__law_is_evidence_8, t__law_is_evidence_7, t__law_is_evidence_6, t__law_is_evidence_5, t__law_is_evidence_4, nk, q1, q8, lp, cl2, d2, lo, le, sizeLine]
                        · have d2 : (200 : Int) < ds.length := by omega
                          rw [ef, decide_eq_false c2, Bool.false_and, Bool.false_and, Bool.and_false]
                          unfold leEnv at lp
                          simp [m__law_is_evidence, b__law_is_evidence, t__law_is_evidence_10, t__law_is_evidence_9, t__law_is_evidence_8, t__law_is_evidence_7, t__law_is_evidence_6, nk, q1, q8, lp, cl2, d2]
                      · have cl2 : ((fs.length : Int) == ps.length) = false := beq_eq_false_iff_ne.mpr (by omega)
                        have cl3 : ¬ (fs.length : Int) = ps.length := by omega
                        rw [decide_eq_false cl, Bool.false_and]
                        unfold leEnv at lp
                        simp [m__law_is_evidence, b__law_is_evidence, t__law_is_evidence_10, t__law_is_evidence_9, t__law_is_evidence_8, t__law_is_evidence_7, t__law_is_evidence_6, nk, q1, q8, lp, cl2, cl3]
                  · have q8 : ¬ (ps.length : Int) ≤ 8 := by omega
                    rw [decide_eq_false p8, Bool.false_and, Bool.false_and, Bool.false_and]
                    simp [m__law_is_evidence, b__law_is_evidence, t__law_is_evidence_10, t__law_is_evidence_9, t__law_is_evidence_8, nk, q1, q8]
                · have q1 : ¬ (1 : Int) ≤ ps.length := by omega
                  rw [decide_eq_false p1, Bool.false_and, Bool.false_and, Bool.false_and]
                  simp [m__law_is_evidence, b__law_is_evidence, t__law_is_evidence_10, t__law_is_evidence_9, t__law_is_evidence_8, nk, q1]
              | _ => simp [m__law_is_evidence, b__law_is_evidence, t__law_is_evidence_10, t__law_is_evidence_9, nk, findsB]
            | _ => simp [m__law_is_evidence, b__law_is_evidence, t__law_is_evidence_10, t__law_is_evidence_9, nk, isT]
          | _ => simp [m__law_is_evidence, b__law_is_evidence, t__law_is_evidence_10, t__law_is_evidence_9, nk, partiesB]
        | _ => cases ck
    · rw [ev_f c4]
      have d4 : ((ds.length : Int) == 4) = false := beq_eq_false_iff_ne.mpr (by omega)
      have d5 : ¬ (ds.length : Int) = 4 := by omega
      simp [m__law_is_evidence, b__law_is_evidence, d4, d5]
  | _ => simp [m__law_is_evidence, b__law_is_evidence, evB]
end Law

namespace Law
open PySem Oz L2
variable [Oz.WD]
/-! ### evidence that is changed -/
def oddL : List PyData := [.bool true, .bool false, .none, .int (-1), .int 0, .int 1, .int 2, .int 3, .int 7, .int 8, .str "made", .str "gave", .str "x", .tuple [], .list [], .int 1000000000, .int 1000000001, .int 1000000000000, .int 1000000000001]
theorem odd_ni : ∀ x ∈ oddL, Ni 1 x := fun x hx => by
  unfold oddL at hx
  simp only [List.mem_cons, List.not_mem_nil, or_false] at hx
  rcases hx with rfl | rfl | rfl | rfl | rfl | rfl | rfl | rfl | rfl | rfl | rfl | rfl | rfl | rfl | rfl | rfl | rfl | rfl | rfl <;> first | rfl | exact strOk_of _
theorem draw_at {ds : List Int} {i : Nat} (hi : i < ds.length) (s t : Sx) : ixR ⟨s, .list (ds.map .int)⟩ ⟨t, .int i⟩ = .ok ⟨.imm, .int (dr ds i)⟩ := by
  have h1 : atI (ds.map PyData.int) (i : Int) = some (.int (dr ds i)) := by rw [atI_ofNat, List.getElem?_map, dr_get hi]; rfl
  have h2 : ixR ⟨s, .list (ds.map .int)⟩ ⟨t, .int i⟩ = (match atI (ds.map PyData.int) (i : Int) with
    | some d => .ok (sub s d)
    | none => .bad) := rfl
  rw [h2, h1]
  exact congrArg Res.ok (sub_lf rfl)
theorem e_odd {ds : List Int} {i : Nat} (hi : i < ds.length) : ∃ od, m__law_odd [.list (ds.map .int), .int i] = .ok ⟨.imm, od⟩ [] ∧ Ni 1 od := by
  have hd := draw_at hi
  obtain ⟨j, hj⟩ := Int.eq_ofNat_of_zero_le (Int.emod_nonneg (dr ds i) (b := 19) (by decide))
  have hj2 : j < 19 := by have := Int.emod_lt_of_pos (dr ds i) (b := 19) (by decide); omega
  have hl : oddL.length = 19 := rfl
  have hm : oddL[j]? = some (oddL.getD j .none) := by
    rw [List.getD_eq_getElem?_getD, List.getElem?_eq_getElem (by omega)]; rfl
  have hix : atI oddL (j : Int) = some (oddL.getD j .none) := by rw [atI_ofNat]; exact hm
  refine ⟨oddL.getD j .none, ?_, odd_ni _ (List.mem_of_getElem? hm)⟩
  have lD : lf (.list (ds.map .int)) = false := rfl
  have hdn : dnew .imm oddL = .ok ⟨.imm, .list oddL⟩ := by
    have e : lfs oddL = false := rfl
    unfold dnew
    rw [e, if_neg Bool.false_ne_true, if_pos rfl]
  generalize oddL.getD j .none = OD at *
  unfold oddL at hix hdn
  generalize PyData.list (ds.map .int) = DD at *
  simp [m__law_odd, b__law_odd, hd, hj, hix, hdn, lD, sizeLine]
theorem cut_loZ {ds : List D} {o : Nat} (h : o ≤ ds.length) : cutD ds none (some (o : Int)) = ds.take o := by
  rw [cutD, HT.sIx_none, HT.sIx_nat, List.drop_zero, Nat.min_eq_left h]; rfl
theorem cut_hiZ {ds : List D} {o : Nat} (h : o ≤ ds.length) : cutD ds (some (o : Int)) none = ds.drop o := by
  rw [cutD, HT.sIx_none, HT.sIx_nat, Nat.min_eq_left h, List.take_of_length_le (by simp)]
def putL (rs : List PyData) (a : Nat) (t : PyData) : List PyData := rs.take a ++ t :: rs.drop (a + 1)
theorem put_len {rs : List PyData} {a : Nat} (h : a < rs.length) (t : PyData) : (putL rs a t).length = rs.length := by
  simp only [putL, List.length_append, List.length_take, List.length_cons, List.length_drop]; omega
theorem put_mem {rs : List PyData} {a : Nat} {t x : PyData} (h : x ∈ putL rs a t) : x = t ∨ x ∈ rs := by
  unfold putL at h
  rcases List.mem_append.mp h with z | z
  · exact .inr (List.mem_of_mem_take z)
  · rcases List.mem_cons.mp z with z | z
    · exact .inl z
    · exact .inr (List.mem_of_mem_drop z)
theorem e_put {rs : List PyData} {a : Nat} (hl : lfs rs = true) (h : a < rs.length) (h2 : rs.length ≤ 2000) (t : PyData) : m__law_put [.tuple rs, .int a, t] = .ok ⟨.imm, .tuple (putL rs a t)⟩ [] := by
  have c1 := cut_loZ (ds := rs) (o := a) (by omega)
  have c2 : cutD rs (some ((a : Int) + 1)) none = rs.drop (a + 1) := cut_hiZ (ds := rs) (o := a + 1) (by omega)
  have hlf : lf (.tuple rs) = true := hl
  have n1 : (rs.take a).length ≤ 2000 := by rw [List.length_take]; omega
  have n2 : (rs.drop (a + 1)).length ≤ 2000 := by rw [List.length_drop]; omega
  have e : putL rs a t = rs.take a ++ ([t] ++ rs.drop (a + 1)) := rfl
  rw [e]
  generalize rs.take a = X at *
  generalize rs.drop (a + 1) = Y at *
  have z1 : X.length + 1 ≤ 16777216 := by omega
  have z2 : X.length + 1 + Y.length ≤ 16777216 := by omega
  simp [m__law_put, b__law_put, hlf, c1, c2, z1, z2, both, sizeLine]
theorem Ni.put {n a : Nat} {rs : List PyData} {t : PyData} (h : Ni (n + 1) (.tuple rs)) (ha : a < rs.length) (ht : Ni n t) : Ni (n + 1) (.tuple (putL rs a t)) :=
  .tup (by rw [put_len ha]; exact h.len) fun x hx => (put_mem hx).elim (fun e => e ▸ ht) (h.mem x)
end Law

namespace Law
open PySem Oz L2
variable [Oz.WD]
structure LE (P F G : List PyData) : Prop where
  lP : lfs P = true
  lF : lfs F = true
  lG : lfs G = true
  n1 : 1 ≤ F.length
  n8 : F.length ≤ 8
  pl : P.length = F.length
  p : ∀ p ∈ P, ∃ rs, p = .tuple rs ∧ rs.length = 2 ∧ lfs rs = true ∧ Ni 2 p
  f : ∀ f ∈ F, ∃ rs, f = .tuple rs ∧ rs.length ≤ 200 ∧ lfs rs = true ∧ Ni 3 f ∧ ∀ r ∈ rs, ∃ xs, r = .tuple xs ∧ 1 ≤ xs.length ∧ xs.length ≤ 6 ∧ lfs xs = true
  g : G.length ≤ 200 ∧ ∀ x ∈ G, Ni 2 x
theorem LE.NP {P F G : List PyData} (h : LE P F G) : Ni 3 (.tuple P) := .tup (by have := h.pl; have := h.n8; omega) fun x hx => by obtain ⟨_, _, _, _, q⟩ := h.p x hx; exact q
theorem LE.NF {P F G : List PyData} (h : LE P F G) : Ni 4 (.tuple F) := .tup (by have := h.n8; omega) fun x hx => by obtain ⟨_, _, _, _, q, _⟩ := h.f x hx; exact q
theorem LE.NG {P F G : List PyData} (h : LE P F G) : Ni 3 (.tuple G) := .tup (by have := h.g.1; omega) h.g.2
theorem ni4 {k : Int} {p f g : PyData} (hp : Ni 4 p) (hf : Ni 4 f) (hg : Ni 4 g) : Ni 6 (.tuple [.int k, p, f, g]) := (Ni.tup (n := 4) (by simp) fun x hx => by
  simp only [List.mem_cons, List.not_mem_nil, or_false] at hx
  rcases hx with rfl | rfl | rfl | rfl
  · rfl
  · exact hp
  · exact hf
  · exact hg).le (by decide)
theorem get_mem {ds : List PyData} {j : Nat} (h : j < ds.length) : ds.getD j .none ∈ ds := by
  rw [List.getD_eq_getElem?_getD, List.getElem?_eq_getElem h]
  exact List.getElem_mem h
theorem cut_sub {ds : List PyData} {lo hi : Option Int} : (∀ x ∈ cutD ds lo hi, x ∈ ds) ∧ (cutD ds lo hi).length ≤ ds.length := by
  unfold cutD
  refine ⟨fun x hx => List.mem_of_mem_drop (List.mem_of_mem_take hx), ?_⟩
  rw [List.length_take, List.length_drop]; omega
theorem rep_mem {ds : List PyData} {m : Nat} : (∀ x ∈ (List.replicate m ds).flatten, x ∈ ds) ∧ (List.replicate m ds).flatten.length = m * ds.length := by
  refine ⟨fun x hx => ?_, by rw [PyProof.Rows.lm_len_rep_flat]⟩
  obtain ⟨l, hl, hx⟩ := List.mem_flatten.mp hx
  rw [List.eq_of_mem_replicate hl] at hx
  exact hx
theorem e_changed (c : Int) {P F G : List PyData} (h : LE P F G) (k : Int) : ∃ d, m__law_changed [.int c, .tuple [.int k, .tuple P, .tuple F, .tuple G]] = .ok ⟨.imm, d⟩ [] ∧ Ni 6 d := by
  obtain ⟨ds, hd0, hdl, hdn, hdb⟩ := e_draws c 9 (by decide)
  have hd : m__law_draws [.int c, .int 9] = _ := hd0
  have d0 : ∀ s t, ixR ⟨s, .list (ds.map .int)⟩ ⟨t, .int 0⟩ = .ok ⟨.imm, .int (dr ds 0)⟩ := fun s t => draw_at (i := 0) (by omega) s t
  have d1 : ∀ s t, ixR ⟨s, .list (ds.map .int)⟩ ⟨t, .int 1⟩ = .ok ⟨.imm, .int (dr ds 1)⟩ := fun s t => draw_at (i := 1) (by omega) s t
  have d2 : ∀ s t, ixR ⟨s, .list (ds.map .int)⟩ ⟨t, .int 2⟩ = .ok ⟨.imm, .int (dr ds 2)⟩ := fun s t => draw_at (i := 2) (by omega) s t
  have d3 : ∀ s t, ixR ⟨s, .list (ds.map .int)⟩ ⟨t, .int 3⟩ = .ok ⟨.imm, .int (dr ds 3)⟩ := fun s t => draw_at (i := 3) (by omega) s t
  have d4 : ∀ s t, ixR ⟨s, .list (ds.map .int)⟩ ⟨t, .int 4⟩ = .ok ⟨.imm, .int (dr ds 4)⟩ := fun s t => draw_at (i := 4) (by omega) s t
  have d5 : ∀ s t, ixR ⟨s, .list (ds.map .int)⟩ ⟨t, .int 5⟩ = .ok ⟨.imm, .int (dr ds 5)⟩ := fun s t => draw_at (i := 5) (by omega) s t
  have d7 : ∀ s t, ixR ⟨s, .list (ds.map .int)⟩ ⟨t, .int 7⟩ = .ok ⟨.imm, .int (dr ds 7)⟩ := fun s t => draw_at (i := 7) (by omega) s t
  obtain ⟨o3, q3, N3⟩ := e_odd (ds := ds) (i := 3) (by omega)
  obtain ⟨o6, q6, N6⟩ := e_odd (ds := ds) (i := 6) (by omega)
  have q3' : m__law_odd [.list (ds.map .int), .int 3] = .ok ⟨.imm, o3⟩ [] := q3
  have q6' : m__law_odd [.list (ds.map .int), .int 6] = .ok ⟨.imm, o6⟩ [] := q6
  clear q3 q6 hd0
  have n1 := h.n1
  have n8 := h.n8
  have npl := h.pl
  obtain ⟨o, ho⟩ := Int.eq_ofNat_of_zero_le (Int.emod_nonneg (dr ds 1) (b := (F.length : Int)) (by omega))
  have ho2 : o < F.length := by
    have := Int.emod_lt_of_pos (dr ds 1) (b := (F.length : Int)) (by omega)
    omega
  have hFz : (F.length : Int) ≠ 0 := by omega
  have hpos : 0 < F.length := by omega
  have hFs : (F.length : Int) < 1073741824 := by omega
  have atP := at_getD (ds := P) (j := o) (by omega)
  have atF := at_getD (ds := F) (j := o) ho2
  obtain ⟨pr, ep, pr2, prl, prn⟩ := h.p _ (get_mem (ds := P) (j := o) (by omega))
  obtain ⟨fr, ef, fr2, frl, frn, frr⟩ := h.f _ (get_mem (ds := F) (j := o) ho2)
  rw [ep] at atP
  rw [ef] at atF
  rw [ep] at prn
  rw [ef] at frn
  clear ep ef
  have hX : lf (.tuple [.int k, .tuple P, .tuple F, .tuple G]) = true := by
    simp [lf, lfs, h.lP, h.lF, h.lG]
  have hX2 : lfs [.int k, .tuple P, .tuple F, .tuple G] = true := hX
  have lDD : lf (.list (ds.map .int)) = false := rfl
  have NP := h.NP
  have NF := h.NF
  have NG := h.NG
  have NP4 := NP.le (m := 4) (by decide)
  have NG4 := NG.le (m := 4) (by decide)
  obtain ⟨q, hq⟩ := Int.eq_ofNat_of_zero_le (Int.emod_nonneg (dr ds 0) (b := 9) (by decide))
  have hq9 : q < 9 := by have := Int.emod_lt_of_pos (dr ds 0) (b := 9) (by decide); omega
  generalize PyData.list (ds.map .int) = DD at *
  by_cases c0 : q = 0
  · subst c0
    obtain ⟨a, ha⟩ := Int.eq_ofNat_of_zero_le (Int.emod_nonneg (dr ds 2) (b := 4) (by decide))
    have ha4 : a < 4 := by have := Int.emod_lt_of_pos (dr ds 2) (b := 4) (by decide); omega
    have hp := e_put (rs := [.int k, .tuple P, .tuple F, .tuple G]) (a := a) hX2 (by simpa using ha4) (by simp) o3
    refine ⟨.tuple (putL [.int k, .tuple P, .tuple F, .tuple G] a o3), ?_, ?_⟩
    · generalize putL [.int k, .tuple P, .tuple F, .tuple G] a o3 = RS at *
      simp [m__law_changed, b__law_changed, t__law_changed_13, t__law_changed_12, t__law_changed_11, t__law_changed_10, hd, d0, d1, d2, q3', hX, ho, hFz, hpos, hFs, hq, ha, hp, lDD]
    · exact ((Ni.tup (n := 4) (ds := [.int k, .tuple P, .tuple F, .tuple G]) (by simp) fun x hx => by
        simp only [List.mem_cons, List.not_mem_nil, or_false] at hx
        rcases hx with rfl | rfl | rfl | rfl
        · rfl
        · exact NP4
        · exact NF
        · exact NG4).put (by simpa using ha4) (N3.le (by decide))).le (by decide)
  by_cases c1 : q = 1
  · subst c1
    obtain ⟨a, ha⟩ := Int.eq_ofNat_of_zero_le (Int.emod_nonneg (dr ds 2) (b := 2) (by decide))
    have ha2 : a < 2 := by have := Int.emod_lt_of_pos (dr ds 2) (b := 2) (by decide); omega
    have hp := e_put (rs := pr) (a := a) prl (by omega) (by omega) o3
    have hp2 := e_put (rs := P) (a := o) h.lP (by omega) (by omega) (.tuple (putL pr a o3))
    have N1 : Ni 2 (.tuple (putL pr a o3)) := Ni.put prn (by omega) N3
    have N2 : Ni 3 (.tuple (putL P o (.tuple (putL pr a o3)))) := Ni.put NP (by omega) N1
    refine ⟨.tuple [.int k, .tuple (putL P o (.tuple (putL pr a o3))), .tuple F, .tuple G], ?_, ni4 (N2.le (by decide)) NF NG4⟩
    generalize putL P o (.tuple (putL pr a o3)) = RP at *
    generalize putL pr a o3 = RS at *
    simp [m__law_changed, b__law_changed, t__law_changed_13, t__law_changed_12, t__law_changed_11, t__law_changed_10, t__law_changed_9, hd, d0, d1, d2, q3', hX, ho, hFz, hpos, hFs, hq, ha, atP, hp, hp2, lDD, sizeLine]
  by_cases c2 : q = 2
  · subst c2
    have hcs := cut_sub (ds := F) (lo := none) (hi := some (-1))
    have NC : Ni 4 (.tuple (cutD F none (some (-1)))) := .tup (by have := hcs.2; omega) fun x hx => NF.mem x (hcs.1 x hx)
    refine ⟨.tuple [.int k, .tuple P, .tuple (cutD F none (some (-1))), .tuple G], ?_, ni4 NP4 NC NG4⟩
    generalize hCF : cutD F none (some (-1)) = CF at *
    simp [hCF, m__law_changed, b__law_changed, t__law_changed_13, t__law_changed_12, t__law_changed_11, t__law_changed_10, t__law_changed_9, t__law_changed_8, hd, d0, d1, d2, hX, ho, hFz, hpos, hFs, hq, lDD, sizeLine]
  by_cases c3 : q = 3
  · subst c3
    obtain ⟨a, ha⟩ := Int.eq_ofNat_of_zero_le (Int.emod_nonneg (dr ds 2) (b := 9) (by decide))
    have ha9 : a < 9 := by have := Int.emod_lt_of_pos (dr ds 2) (b := 9) (by decide); omega
    by_cases a0 : a = 0
    · subst a0
      refine ⟨.tuple [.int k, .tuple P, .tuple F, .tuple G], ?_, ni4 NP4 NF NG4⟩
      simp [m__law_changed, b__law_changed, t__law_changed_13, t__law_changed_12, t__law_changed_11, t__law_changed_10, t__law_changed_9, t__law_changed_8, t__law_changed_7, hd, d0, d1, d2, hX, ho, hFz, hpos, hFs, hq, ha, lDD, sizeLine]
    · have rP := rep_mem (ds := P) (m := a + 1)
      have rF := rep_mem (ds := F) (m := a + 1)
      have mP : (a + 1) * P.length ≤ 9 * 8 := Nat.mul_le_mul (by omega) (by omega)
      have mF : (a + 1) * F.length ≤ 9 * 8 := Nat.mul_le_mul (by omega) (by omega)
      have NRP : Ni 3 (.tuple (List.replicate (a + 1) P).flatten) := .tup (by rw [rP.2]; omega) fun x hx => NP.mem x (rP.1 x hx)
      have NRF : Ni 4 (.tuple (List.replicate (a + 1) F).flatten) := .tup (by rw [rF.2]; omega) fun x hx => NF.mem x (rF.1 x hx)
      have e1 : ∀ {s t : Sx}, s = .imm → mulT ⟨s, .tuple P⟩ ⟨t, .int (1 + (a : Int))⟩ = .ok ⟨.imm, .tuple (List.replicate (a + 1) P).flatten⟩ := fun {s t} es => by
        subst es
        have en : (1 + (a : Int)).toNat = a + 1 := by omega
        have ee : P.isEmpty = false := by cases hP : P with
          | nil => rw [hP] at npl; simp at npl; omega
          | cons => rfl
        rw [x_mulT, if_neg (by omega), if_pos ⟨⟨by omega, by omega⟩, by omega, ee⟩, en, tnew_imm]
      have e2 : ∀ {s t : Sx}, s = .imm → mulT ⟨s, .tuple F⟩ ⟨t, .int (1 + (a : Int))⟩ = .ok ⟨.imm, .tuple (List.replicate (a + 1) F).flatten⟩ := fun {s t} es => by
        subst es
        have en : (1 + (a : Int)).toNat = a + 1 := by omega
        have ee : F.isEmpty = false := by cases hF : F with
          | nil => rw [hF] at hpos; simp at hpos
          | cons => rfl
        rw [x_mulT, if_neg (by omega), if_pos ⟨⟨by omega, by omega⟩, by omega, ee⟩, en, tnew_imm]
      have e1' := e1 (t := .imm) rfl
      have e2' := e2 (t := .imm) rfl
      refine ⟨.tuple [.int k, .tuple (List.replicate (a + 1) P).flatten, .tuple (List.replicate (a + 1) F).flatten, .tuple G], ?_, ni4 (NRP.le (by decide)) NRF NG4⟩
      clear e1 e2 rP rF mP mF NRP NRF
      generalize (List.replicate (a + 1) P).flatten = RP at *
      generalize (List.replicate (a + 1) F).flatten = RF at *
      simp [m__law_changed, b__law_changed, t__law_changed_13, t__law_changed_12, t__law_changed_11, t__law_changed_10, t__law_changed_9, t__law_changed_8, t__law_changed_7, hd, d0, d1, d2, hX, ho, hFz, hpos, hFs, hq, ha, e1', e2', lDD, sizeLine, -x_mulT]
  have i0 : ¬ (q : Int) = 0 := by omega
  have i1 : ¬ (q : Int) = 1 := by omega
  have i2 : ¬ (q : Int) = 2 := by omega
  have i3 : ¬ (q : Int) = 3 := by omega
  have T := fun {X : List PyData} (hx : Ni 4 (.tuple X)) => ni4 (k := k) NP4 hx NG4
  by_cases cA : q < 6 ∧ 0 < fr.length
  · obtain ⟨q6, fpos⟩ := cA
    have i6 : (q : Int) < 6 := by omega
    have hfz : (fr.length : Int) ≠ 0 := by omega
    have hfs : (fr.length : Int) < 1073741824 := by omega
    obtain ⟨a, ha⟩ := Int.eq_ofNat_of_zero_le (Int.emod_nonneg (dr ds 2) (b := (fr.length : Int)) hfz)
    have ha2 : a < fr.length := by
      have := Int.emod_lt_of_pos (dr ds 2) (b := (fr.length : Int)) (by omega)
      omega
    have atR := at_getD (ds := fr) (j := a) ha2
    have hmR := get_mem (ds := fr) (j := a) ha2
    obtain ⟨xs, ex, x1, x6, xl⟩ := frr _ hmR
    rw [ex] at atR hmR
    clear ex
    have NR := frn.mem _ hmR
    have hp2 := fun t => e_put (rs := fr) (a := a) frl ha2 (by omega) t
    have hp3 := fun t => e_put (rs := F) (a := o) h.lF ho2 (by omega) t
    by_cases b9 : dr ds 4 % 9 = 0
    · have hcs := cut_sub (ds := xs) (lo := none) (hi := some 3)
      have NC : Ni 2 (.tuple (cutD xs none (some 3))) := .tup (by have := hcs.2; omega) fun x hx => NR.mem x (hcs.1 x hx)
      have N1 : Ni 3 (.tuple (putL fr a (.tuple (cutD xs none (some 3))))) := Ni.put frn ha2 NC
      have N2 : Ni 4 (.tuple (putL F o (.tuple (putL fr a (.tuple (cutD xs none (some 3))))))) := Ni.put NF ho2 N1
      refine ⟨.tuple [.int k, .tuple P, .tuple (putL F o (.tuple (putL fr a (.tuple (cutD xs none (some 3)))))), .tuple G], ?_, T N2⟩
      have h2 := hp2 (.tuple (cutD xs none (some 3)))
      have h3 := hp3 (.tuple (putL fr a (.tuple (cutD xs none (some 3)))))
      clear hp2 hp3 N1 N2 NC hcs T
      generalize putL F o (.tuple (putL fr a (.tuple (cutD xs none (some 3))))) = RF at *
      generalize putL fr a (.tuple (cutD xs none (some 3))) = RR at *
      generalize hCF : cutD xs none (some 3) = CF at *
      simp [hCF, m__law_changed, b__law_changed, t__law_changed_13, t__law_changed_12, t__law_changed_11, t__law_changed_10, t__law_changed_9, t__law_changed_8, t__law_changed_7, t__law_changed_6, t__law_changed_1, t__law_changed_0, hd, d0, d1, d2, d4, hX, ho, hFz, hpos, hFs, hq, i0, i1, i2, i3, c0, c1, c2, c3, i6, fpos, hfz, hfs, ha, atF, atR, b9, h2, h3, lDD, sizeLine]
    · have hxz : (xs.length : Int) ≠ 0 := by omega
      have hxs : (xs.length : Int) < 1073741824 := by omega
      have hxp : 0 < xs.length := by omega
      obtain ⟨b, hb⟩ := Int.eq_ofNat_of_zero_le (Int.emod_nonneg (dr ds 5) (b := (xs.length : Int)) hxz)
      have hb2 : b < xs.length := by
        have := Int.emod_lt_of_pos (dr ds 5) (b := (xs.length : Int)) (by omega)
        omega
      have hp := e_put (rs := xs) (a := b) xl hb2 (by omega) o3
      have NC : Ni 2 (.tuple (putL xs b o3)) := Ni.put NR hb2 N3
      have N1 : Ni 3 (.tuple (putL fr a (.tuple (putL xs b o3)))) := Ni.put frn ha2 NC
      have N2 : Ni 4 (.tuple (putL F o (.tuple (putL fr a (.tuple (putL xs b o3)))))) := Ni.put NF ho2 N1
      refine ⟨.tuple [.int k, .tuple P, .tuple (putL F o (.tuple (putL fr a (.tuple (putL xs b o3))))), .tuple G], ?_, T N2⟩
      have h2 := hp2 (.tuple (putL xs b o3))
      have h3 := hp3 (.tuple (putL fr a (.tuple (putL xs b o3))))
      clear hp2 hp3 N1 N2 NC T
      generalize putL F o (.tuple (putL fr a (.tuple (putL xs b o3)))) = RF at *
      generalize putL fr a (.tuple (putL xs b o3)) = RR at *
      generalize putL xs b o3 = RX at *
      simp [m__law_changed, b__law_changed, t__law_changed_13, t__law_changed_12, t__law_changed_11, t__law_changed_10, t__law_changed_9, t__law_changed_8, t__law_changed_7, t__law_changed_6, t__law_changed_1, t__law_changed_0, hd, d0, d1, d2, d4, d5, q3', hX, ho, hFz, hpos, hFs, hq, i0, i1, i2, i3, c0, c1, c2, c3, i6, fpos, hfz, hfs, hxz, hxs, hxp, ha, hb, atF, atR, b9, hp, h2, h3, lDD, sizeLine]
  by_cases c6 : q = 6
  · subst c6
    obtain ⟨a, ha⟩ := Int.eq_ofNat_of_zero_le (Int.emod_nonneg (dr ds 2) (b := 5) (by decide))
    have ha5 : a < 5 := by have := Int.emod_lt_of_pos (dr ds 2) (b := 5) (by decide); omega
    have hir : irng 0 (198 + (a : Int)).toNat = (List.range (198 + a)).map fun (j : Nat) => (⟨.imm, .int (0 + (j : Int))⟩ : R) := by
      have : (198 + (a : Int)).toNat = 198 + a := by omega
      rw [this, irng_map]
    have hin : inR (198 + (a : Int)) = true := inR_of (by omega) (by omega)
    have hc : compE (cN 14) tYesD c__law_changed_0 [none, none, some ⟨.own, DD⟩, some ⟨.imm, .int k⟩, some ⟨.imm, .tuple P⟩, some ⟨.imm, .tuple F⟩, some ⟨.imm, .tuple G⟩, some ⟨.imm, .int 6⟩, some ⟨.imm, .int o⟩, none, none, none, none, none, none] ((List.range (198 + a)).map fun (j : Nat) => (⟨.imm, .int (0 + (j : Int))⟩ : R)) = some ((List.range (198 + a)).map fun (j : Nat) => (⟨.imm, .tuple [.int (1 + (j : Int)), .str "made", .int 0, .int 5]⟩ : R)) :=
      comp_map1 fun j hj => ⟨[none, none, some ⟨.own, DD⟩, some ⟨.imm, .int k⟩, some ⟨.imm, .tuple P⟩, some ⟨.imm, .tuple F⟩, some ⟨.imm, .tuple G⟩, some ⟨.imm, .int 6⟩, some ⟨.imm, .int o⟩, none, none, none, none, none, some ⟨.imm, .int (0 + (j : Int))⟩], by simp, by simp [c__law_changed_0, sizeLine]⟩
    have hr : compR ((List.range (198 + a)).map fun (j : Nat) => (⟨.imm, .tuple [.int (1 + (j : Int)), .str "made", .int 0, .int 5]⟩ : R)) = .ok ⟨.own, .list ((List.range (198 + a)).map fun (j : Nat) => PyData.tuple [.int (1 + (j : Int)), .str "made", .int 0, .int 5])⟩ := by
      have hs : sizeLine = 16777216 := rfl
      exact compR_own (e := fun (j : Nat) => PyData.tuple [.int (1 + (j : Int)), .str "made", .int 0, .int 5]) (by rw [List.length_range]; omega) fun _ _ => ownR_lf rfl
    have NL : Ni 3 (.tuple ((List.range (198 + a)).map fun (j : Nat) => PyData.tuple [.int (1 + (j : Int)), .str "made", .int 0, .int 5])) := .tup (by rw [List.length_map, List.length_range]; omega) fun x hx => by
      obtain ⟨j, _, rfl⟩ := List.mem_map.mp hx
      exact .tup (by simp) fun y hy => by
        simp only [List.mem_cons, List.not_mem_nil, or_false] at hy
        rcases hy with rfl | rfl | rfl | rfl <;> first | rfl | exact strOk_of _
    have hlf : lfs ((List.range (198 + a)).map fun (j : Nat) => PyData.tuple [.int (1 + (j : Int)), .str "made", .int 0, .int 5]) = true := by rw [lfs_all, List.all_map]; simp [lf, lfs]
    have N2 : Ni 4 (.tuple (putL F o (.tuple ((List.range (198 + a)).map fun (j : Nat) => PyData.tuple [.int (1 + (j : Int)), .str "made", .int 0, .int 5])))) := Ni.put NF ho2 NL
    have hp := e_put (rs := F) (a := o) h.lF ho2 (by omega) (.tuple ((List.range (198 + a)).map fun (j : Nat) => PyData.tuple [.int (1 + (j : Int)), .str "made", .int 0, .int 5]))
    refine ⟨.tuple [.int k, .tuple P, .tuple (putL F o (.tuple ((List.range (198 + a)).map fun (j : Nat) => PyData.tuple [.int (1 + (j : Int)), .str "made", .int 0, .int 5]))), .tuple []], ?_, ni4 NP4 N2 rfl⟩
    clear N2 NL
    generalize putL F o (.tuple ((List.range (198 + a)).map fun (j : Nat) => PyData.tuple [.int (1 + (j : Int)), .str "made", .int 0, .int 5])) = RF at *
    generalize ((List.range (198 + a)).map fun (j : Nat) => PyData.tuple [.int (1 + (j : Int)), .str "made", .int 0, .int 5]) = LL at *
    generalize ((List.range (198 + a)).map fun (j : Nat) => (⟨.imm, .tuple [.int (1 + (j : Int)), .str "made", .int 0, .int 5]⟩ : R)) = LI at *
    generalize ((List.range (198 + a)).map fun (j : Nat) => (⟨.imm, .int (0 + (j : Int))⟩ : R)) = JI at *
    simp [m__law_changed, b__law_changed, t__law_changed_13, t__law_changed_12, t__law_changed_11, t__law_changed_10, t__law_changed_9, t__law_changed_8, t__law_changed_7, t__law_changed_6, t__law_changed_5, q__law_changed_0, hd, d0, d1, d2, hX, ho, hFz, hpos, hFs, hq, ha, atF, hin, hir, hc, hr, hlf, hp, lDD, sizeLine]
  have i6' : ¬ (q : Int) = 6 := by omega
  by_cases c7 : q = 7
  · subst c7
    have NR : Ni 3 (.tuple fr.reverse) := .tup (by rw [List.length_reverse]; omega) fun x hx => frn.mem x (List.mem_reverse.mp hx)
    have NRG : Ni 3 (.tuple G.reverse) := .tup (by rw [List.length_reverse]; exact NG.len) fun x hx => NG.mem x (List.mem_reverse.mp hx)
    have N2 : Ni 4 (.tuple (putL F o (.tuple fr.reverse))) := Ni.put NF ho2 NR
    have hp := e_put (rs := F) (a := o) h.lF ho2 (by omega) (.tuple fr.reverse)
    refine ⟨.tuple [.int k, .tuple P, .tuple (putL F o (.tuple fr.reverse)), .tuple G.reverse], ?_, ni4 NP4 N2 (NRG.le (by decide))⟩
    clear NR NRG N2
    generalize putL F o (.tuple fr.reverse) = RF at *
    simp [m__law_changed, b__law_changed, t__law_changed_13, t__law_changed_12, t__law_changed_11, t__law_changed_10, t__law_changed_9, t__law_changed_8, t__law_changed_7, t__law_changed_6, t__law_changed_5, t__law_changed_4, hd, d0, d1, hX, ho, hFz, hpos, hFs, hq, atF, hp, lDD, sizeLine]
  have i7 : ¬ (q : Int) = 7 := by omega
  obtain ⟨a, ha⟩ := Int.eq_ofNat_of_zero_le (Int.emod_nonneg (dr ds 5) (b := 4) (by decide))
  have ha4 : a < 4 := by have := Int.emod_lt_of_pos (dr ds 5) (b := 4) (by decide); omega
  have NI : Ni 2 (.tuple [.int (dr ds 2 % 60), .int o, .int (dr ds 3 % 3), .int (dr ds 4 % 3)]) := .tup (by simp) fun y hy => by
    simp only [List.mem_cons, List.not_mem_nil, or_false] at hy
    rcases hy with rfl | rfl | rfl | rfl <;> rfl
  have hp := e_put (rs := [.int (dr ds 2 % 60), .int o, .int (dr ds 3 % 3), .int (dr ds 4 % 3)]) (a := a) rfl (by simpa using ha4) (by simp) o6
  have NIP : Ni 2 (.tuple (putL [.int (dr ds 2 % 60), .int o, .int (dr ds 3 % 3), .int (dr ds 4 % 3)] a o6)) := Ni.put NI (by simpa using ha4) N6
  have NGx : ∀ {x : PyData}, Ni 2 x → Ni 4 (.tuple (G ++ [x])) := fun {x} hx => (Ni.tup (n := 2) (by rw [List.length_append, List.length_singleton]; have := h.g.1; omega) fun y hy => (List.mem_append.mp hy).elim (NG.mem y) fun z => by rw [List.mem_singleton.mp z]; exact hx).le (by decide)
  have hG : G.length + 1 ≤ 16777216 := by have := h.g.1; omega
  by_cases q6 : q < 6
  · have i6 : (q : Int) < 6 := by omega
    have fz : fr.length = 0 := by
      rcases Nat.eq_zero_or_pos fr.length with z | z
      · exact z
      · exact absurd ⟨q6, z⟩ cA
    by_cases b7 : dr ds 7 % 2 = 0
    · refine ⟨.tuple [.int k, .tuple P, .tuple F, .tuple (G ++ [.tuple (putL [.int (dr ds 2 % 60), .int o, .int (dr ds 3 % 3), .int (dr ds 4 % 3)] a o6)])], ?_, ni4 NP4 NF (NGx NIP)⟩
      clear NIP NI NGx T
      generalize putL [.int (dr ds 2 % 60), .int o, .int (dr ds 3 % 3), .int (dr ds 4 % 3)] a o6 = RX at *
      simp [m__law_changed, b__law_changed, t__law_changed_13, t__law_changed_12, t__law_changed_11, t__law_changed_10, t__law_changed_9, t__law_changed_8, t__law_changed_7, t__law_changed_6, t__law_changed_5, t__law_changed_4, t__law_changed_3, t__law_changed_2, hd, d0, d1, d2, d3, d4, d5, d7, q6', hX, ho, hFz, hpos, hFs, hq, i0, i1, i2, i3, c0, c1, c2, c3, i6, i6', i7, c6, c7, fz, ha, atF, b7, hp, hG, both, lDD, sizeLine]
    · refine ⟨.tuple [.int k, .tuple P, .tuple F, .tuple (G ++ [.tuple [.int (dr ds 2 % 60), .int o, .int (dr ds 3 % 3), .int (dr ds 4 % 3)]])], ?_, ni4 NP4 NF (NGx NI)⟩
      clear NIP NI NGx T hp
      simp [m__law_changed, b__law_changed, t__law_changed_13, t__law_changed_12, t__law_changed_11, t__law_changed_10, t__law_changed_9, t__law_changed_8, t__law_changed_7, t__law_changed_6, t__law_changed_5, t__law_changed_4, t__law_changed_3, t__law_changed_2, hd, d0, d1, d2, d3, d4, d7, hX, ho, hFz, hpos, hFs, hq, i0, i1, i2, i3, c0, c1, c2, c3, i6, i6', i7, c6, c7, fz, atF, b7, hG, both, lDD, sizeLine]
  · have i6 : ¬ (q : Int) < 6 := by omega
    by_cases b7 : dr ds 7 % 2 = 0
    · refine ⟨.tuple [.int k, .tuple P, .tuple F, .tuple (G ++ [.tuple (putL [.int (dr ds 2 % 60), .int o, .int (dr ds 3 % 3), .int (dr ds 4 % 3)] a o6)])], ?_, ni4 NP4 NF (NGx NIP)⟩
      clear NIP NI NGx T
      generalize putL [.int (dr ds 2 % 60), .int o, .int (dr ds 3 % 3), .int (dr ds 4 % 3)] a o6 = RX at *
      simp [m__law_changed, b__law_changed, t__law_changed_13, t__law_changed_12, t__law_changed_11, t__law_changed_10, t__law_changed_9, t__law_changed_8, t__law_changed_7, t__law_changed_6, t__law_changed_5, t__law_changed_4, t__law_changed_3, t__law_changed_2, hd, d0, d1, d2, d3, d4, d5, d7, q6', hX, ho, hFz, hpos, hFs, hq, i0, i1, i2, i3, c0, c1, c2, c3, i6, i6', i7, c6, c7, ha, atF, b7, hp, hG, both, lDD, sizeLine]
    · refine ⟨.tuple [.int k, .tuple P, .tuple F, .tuple (G ++ [.tuple [.int (dr ds 2 % 60), .int o, .int (dr ds 3 % 3), .int (dr ds 4 % 3)]])], ?_, ni4 NP4 NF (NGx NI)⟩
      clear NIP NI NGx T hp
      simp [m__law_changed, b__law_changed, t__law_changed_13, t__law_changed_12, t__law_changed_11, t__law_changed_10, t__law_changed_9, t__law_changed_8, t__law_changed_7, t__law_changed_6, t__law_changed_5, t__law_changed_4, t__law_changed_3, t__law_changed_2, hd, d0, d1, d2, d3, d4, d7, hX, ho, hFz, hpos, hFs, hq, i0, i1, i2, i3, c0, c1, c2, c3, i6, i6', i7, c6, c7, atF, b7, hG, both, lDD, sizeLine]
end Law

namespace Law
open PySem Oz L2
variable [Oz.WD]
/-! ### a trail's evidence is evidence -/
theorem asc_of {α : Type} {f : α → PyData} {key : α → Int} {xs : List α} (h : xs.Pairwise fun a b => key a < key b) (hn : ∀ x, num0 (f x) = key x) : ascB (xs.map f) = true := by
  unfold ascB
  rw [List.all_eq_true]
  intro j hj
  have hj := List.mem_range.mp hj
  rw [List.length_map] at hj
  have h1 : (xs.map f).getD j .none = f xs[j] := by
    rw [List.getD_eq_getElem?_getD, List.getElem?_map, List.getElem?_eq_getElem (by omega)]; rfl
  have h2 : (xs.map f).getD (j + 1) .none = f xs[j + 1] := by
    rw [List.getD_eq_getElem?_getD, List.getElem?_map, List.getElem?_eq_getElem (by omega)]; rfl
  rw [h1, h2, hn, hn]
  exact decide_eq_true (List.pairwise_iff_getElem.mp h j (j + 1) (by omega) (by omega) (by omega))
theorem row_true {k n o : Int} {x : Ent} (h1 : 1 ≤ numE x ∧ numE x ≤ 1000000000) (h2 : 0 ≤ kE x ∧ kE x < k) (h3 : 1 ≤ aE x ∧ aE x ≤ 1000000000000) (h4 : isCp x = true → (0 ≤ oE x ∧ oE x < n) ∧ oE x ≠ o) : rowB k n o (encE x) = true := by
  have nb : ∀ {lo hi i : Int}, lo ≤ i → i ≤ hi → numB lo hi (.int i) = true := fun {lo hi i} a b => by
    show (decide _ && decide _) = true
    rw [decide_eq_true a, decide_eq_true b]; rfl
  cases x with
  | pl num w kk a =>
    simp only [numE, kE, aE] at h1 h2 h3
    have e1 := nb h1.1 h1.2
    have e2 := nb (hi := k - 1) h2.1 (by omega)
    have e3 := nb h3.1 h3.2
    have e4 : wordB "made" "treated" (.str (if w then "made" else "treated")) = true := by cases w <;> simp [wordB]
    show (numB 1 1000000000 (.int num) && wordB "made" "treated" (.str (if w then "made" else "treated")) && numB 0 (k - 1) (.int kk) && numB 1 1000000000000 (.int a)) = true
    rw [e1, e2, e3, e4]; rfl
  | cp num w kk a q s =>
    simp only [numE, kE, aE, oE] at h1 h2 h3 h4
    have h4 := h4 rfl
    have e1 := nb h1.1 h1.2
    have e2 := nb (hi := k - 1) h2.1 (by omega)
    have e3 := nb h3.1 h3.2
    have e4 : wordB "gave" "took" (.str (if w then "gave" else "took")) = true := by cases w <;> simp [wordB]
    have e5 := nb (hi := n - 1) h4.1.1 (by omega)
    have e6 : neB o (.int q) = true := by simp [neB, h4.2]
    show (numB 1 1000000000 (.int num) && wordB "gave" "took" (.str (if w then "gave" else "took")) && numB 0 (k - 1) (.int kk) && numB 1 1000000000000 (.int a) && (numB 0 (n - 1) (.int q) && (neB o (.int q) && true))) = true
    rw [e1, e2, e3, e4, e5, e6]; rfl
theorem find_true {k n : Int} {q : Fd} (h1 : 1 ≤ q.num ∧ q.num ≤ 1000000000) (h2 : 0 ≤ q.p ∧ q.p < n) (h3 : 0 ≤ q.k ∧ q.k < k) (h4 : 0 ≤ q.a ∧ q.a ≤ 1000000000000) : findB k n (encF q) = true := by
  have nb : ∀ {lo hi i : Int}, lo ≤ i → i ≤ hi → numB lo hi (.int i) = true := fun {lo hi i} a b => by
    show (decide _ && decide _) = true
    rw [decide_eq_true a, decide_eq_true b]; rfl
  show (numB 1 1000000000 (.int q.num) && numB 0 (n - 1) (.int q.p) && numB 0 (k - 1) (.int q.k) && numB 0 1000000000000 (.int q.a)) = true
  rw [nb h1.1 h1.2, nb h2.1 (by omega), nb h3.1 (by omega), nb h4.1 h4.2]; rfl
theorem num_ent (x : Ent) : num0 (encE x) = numE x := by cases x <;> rfl
theorem num_fd (q : Fd) : num0 (encF q) = q.num := rfl
/-- what a trail's evidence is -/
structure GT (e : Evi) : Prop where
  k1 : 1 ≤ e.kinds
  k2 : e.kinds ≤ 2
  n1 : 1 ≤ e.parties.length
  n5 : e.parties.length ≤ 5
  len : e.files.length = e.parties.length
  f : ∀ (i : Nat) (f : List Ent), e.files[i]? = some f → f.length ≤ 100 ∧ (f.Pairwise fun a b => numE a < numE b) ∧ ∀ x ∈ f, (1 ≤ numE x ∧ numE x ≤ 1000000000) ∧ (0 ≤ kE x ∧ kE x < e.kinds) ∧ (1 ≤ aE x ∧ aE x ≤ 1000000000000) ∧ (isCp x = true → (0 ≤ oE x ∧ oE x < e.parties.length) ∧ oE x ≠ (i : Int))
  gl : e.finds.length ≤ 100
  ga : (e.finds.map (·.num)).Pairwise (· < ·)
  g : ∀ q ∈ e.finds, (1 ≤ q.num ∧ q.num ≤ 1000000000) ∧ (0 ≤ q.p ∧ q.p < e.parties.length) ∧ (0 ≤ q.k ∧ q.k < e.kinds) ∧ (0 ≤ q.a ∧ q.a ≤ 1000000000000)
  dj : ∀ f ∈ e.files, ∀ x ∈ f, ∀ q ∈ e.finds, numE x ≠ q.num
theorem GT.ev {e : Evi} (h : GT e) : evB (eviD e) = true := by
  have a1 : numB 1 3 (.int e.kinds) = true := by
    have := h.k1
    have := h.k2
    show (decide _ && decide _) = true
    rw [decide_eq_true (by omega), decide_eq_true (by omega)]; rfl
  have a2 : partiesB (partiesD e.parties) = true := by
    show (decide (1 ≤ (e.parties.map _).length) && (decide ((e.parties.map _).length ≤ 8) && (e.parties.map _).all partyB)) = true
    have := h.n1
    have := h.n5
    rw [List.length_map, decide_eq_true (by omega), decide_eq_true (by omega), Bool.true_and, Bool.true_and, List.all_map, List.all_eq_true]
    intro p _
    rfl
  have a3 : decide ((e.files.map fileT).length = (e.parties.map fun p => PyData.tuple [.bool p.1, .bool p.2]).length) = true := by
    rw [List.length_map, List.length_map]
    exact decide_eq_true h.len
  have a4 : filesB e.kinds (e.files.map fileT) = true := by
    unfold filesB
    rw [List.all_eq_true]
    intro o ho
    have ho := List.mem_range.mp ho
    rw [List.length_map] at ho ⊢
    have h1 : (e.files.map fileT).getD o .none = fileT e.files[o] := by
      rw [List.getD_eq_getElem?_getD, List.getElem?_map, List.getElem?_eq_getElem ho]; rfl
    obtain ⟨f1, f2, f3⟩ := h.f o e.files[o] (List.getElem?_eq_getElem ho)
    rw [h1]
    show (decide ((e.files[o].map encE).length ≤ 200) && ((e.files[o].map encE).all (rowB e.kinds e.files.length o) && ascB (e.files[o].map encE))) = true
    rw [List.length_map, decide_eq_true (by omega), asc_of f2 num_ent, Bool.true_and, Bool.and_true, List.all_map, List.all_eq_true]
    intro x hx
    obtain ⟨b1, b2, b3, b4⟩ := f3 x hx
    exact row_true b1 b2 b3 fun z => by rw [h.len]; exact b4 z
  have a5 : findsB e.kinds (e.files.map fileT).length (.tuple (e.finds.map encF)) = true := by
    show (decide ((e.finds.map encF).length ≤ 200) && ((e.finds.map encF).all (findB e.kinds ((e.files.map fileT).length : Nat)) && ascB (e.finds.map encF))) = true
    have := h.gl
    rw [List.length_map, List.length_map, decide_eq_true (by omega), asc_of (List.pairwise_map.mp h.ga) num_fd, Bool.true_and, Bool.and_true, List.all_map, List.all_eq_true]
    intro q hq
    obtain ⟨b1, b2, b3, b4⟩ := h.g q hq
    exact find_true b1 (by rw [h.len]; exact b2) b3 b4
  have a6 : disjB (e.files.map fileT) (e.finds.map encF) = true := by
    unfold disjB
    rw [Bool.not_eq_true', List.any_eq_false]
    intro d hd
    obtain ⟨q, hq, rfl⟩ := List.mem_map.mp hd
    rw [decide_eq_true_eq]
    intro hm
    unfold numsD at hm
    obtain ⟨f, hf, hx⟩ := List.mem_flatMap.mp hm
    obtain ⟨f', hf', rfl⟩ := List.mem_map.mp hf
    obtain ⟨y, hy, e1⟩ := List.mem_map.mp hx
    obtain ⟨x, hx', rfl⟩ := List.mem_map.mp (show y ∈ f'.map encE from hy)
    rw [num_ent, num_fd] at e1
    exact h.dj f' hf' x hx' q hq e1
  show (numB 1 3 (.int e.kinds) && ((partiesB (partiesD e.parties) && (true && decide ((e.files.map fileT).length = (e.parties.map fun p => PyData.tuple [.bool p.1, .bool p.2]).length))) && (filesB e.kinds (e.files.map fileT) && (findsB e.kinds (e.files.map fileT).length (.tuple (e.finds.map encF)) && disjB (e.files.map fileT) (e.finds.map encF))))) = true
  rw [a1, a2, a3, a4, a5, a6]; rfl
theorem ni_ent {x : Ent} : Ni 2 (encE x) := by
  cases x with
  | pl num w kk a =>
    exact (Ni.tup (n := 1) (by simp) fun y hy => by
      simp only [List.mem_cons, List.not_mem_nil, or_false] at hy
      rcases hy with rfl | rfl | rfl | rfl <;> first | rfl | (cases w <;> exact strOk_of _))
  | cp num w kk a q s =>
    exact (Ni.tup (n := 1) (by simp) fun y hy => by
      simp only [List.mem_cons, List.not_mem_nil, or_false] at hy
      rcases hy with rfl | rfl | rfl | rfl | rfl | rfl <;> first | rfl | (cases w <;> exact strOk_of _))
theorem ni_fd {q : Fd} : Ni 2 (encF q) := (Ni.tup (n := 1) (by simp) fun y hy => by
  simp only [List.mem_cons, List.not_mem_nil, or_false] at hy
  rcases hy with rfl | rfl | rfl | rfl <;> rfl)
theorem GT.le {e : Evi} (h : GT e) : LE (e.parties.map fun p => PyData.tuple [.bool p.1, .bool p.2]) (e.files.map fileT) (e.finds.map encF) where
  lP := by rw [lfs_all, List.all_map]; simp [lf, lfs]
  lF := lfs_fileT
  lG := by rw [lfs_all, List.all_map]; simp [encF, lf, lfs]
  n1 := by rw [List.length_map, h.len]; exact h.n1
  n8 := by rw [List.length_map, h.len]; have := h.n5; omega
  pl := by rw [List.length_map, List.length_map, h.len]
  p := fun p hp => by
    obtain ⟨q, _, rfl⟩ := List.mem_map.mp hp
    exact ⟨_, rfl, rfl, rfl, Ni.tup (n := 1) (by simp) fun y hy => by
      simp only [List.mem_cons, List.not_mem_nil, or_false] at hy
      rcases hy with rfl | rfl <;> rfl⟩
  f := fun f hf => by
    obtain ⟨g, hg, rfl⟩ := List.mem_map.mp hf
    obtain ⟨i, hi, rfl⟩ := List.getElem_of_mem hg
    obtain ⟨f1, _, _⟩ := h.f i _ (List.getElem?_eq_getElem hi)
    refine ⟨_, rfl, by rw [List.length_map]; omega, lfs_ent, Ni.tup (n := 2) (by rw [List.length_map]; omega) fun y hy => ?_, fun r hr => ?_⟩
    · obtain ⟨x, _, rfl⟩ := List.mem_map.mp hy
      exact ni_ent
    · obtain ⟨x, _, rfl⟩ := List.mem_map.mp hr
      cases x with
      | pl => exact ⟨_, rfl, by simp, by simp, rfl⟩
      | cp => exact ⟨_, rfl, by simp, by simp, rfl⟩
  g := ⟨by rw [List.length_map]; have := h.gl; omega, fun x hx => by
    obtain ⟨q, _, rfl⟩ := List.mem_map.mp hx
    exact ni_fd⟩
theorem LE.ni {P F G : List PyData} (h : LE P F G) (k : Int) : Ni 6 (.tuple [.int k, .tuple P, .tuple F, .tuple G]) := ni4 (h.NP.le (by decide)) h.NF (h.NG.le (by decide))
theorem ev_list {ds : List PyData} : m_is_evidence [.list ds] = .ok ⟨.imm, .bool false⟩ [] := by simp [m_is_evidence, b_is_evidence]
theorem gt_trail {ps : List (Bool × Bool)} {m : Nat} {lying : Int} {c : Nat} {w : W} (h : Trail ps m lying c w) (hc : c ≤ 40) (hm : 1 ≤ m ∧ m ≤ 2) (hp : 1 ≤ ps.length ∧ ps.length ≤ 5) : GT ⟨m, ps, w.files, w.finds⟩ := by
  have ok := h.ok
  have fl := h.files.1
  have ll := h.files.2
  have wb := h.wb
  have tb := h.tb
  refine ⟨hm.1, hm.2, hp.1, hp.2, fl.len, fun i f hf => ?_, by have := ok.fi; show w.finds.length ≤ 100; omega, wb.fi, fun q hq => ?_, wb.dj⟩
  · have hf : w.files[i]? = some f := hf
    have fo := fl.ok i f hf
    have hm' := List.mem_of_getElem? hf
    refine ⟨by have := ok.fc f hm'; omega, fo.asc, fun x hx => ⟨?_, ?_, ?_, fun z => fo.oth x hx z⟩⟩
    · have := fo.le x hx
      exact ⟨this.1, by omega⟩
    · have := wb.e f hm' x hx
      exact this
    · have h1 := fo.kk x hx
      have h2 := (tb.e f hm' x hx).1
      exact ⟨h1, by omega⟩
  · have hq : q ∈ w.finds := hq
    obtain ⟨a1, a2, a3, a4⟩ := wb.f q hq
    obtain ⟨_, _, _, _, b5⟩ := tb.f q hq
    exact ⟨⟨a1.1, by omega⟩, a2, a3, a4, by omega⟩
theorem law_true (ns : List Int) (hn : ns.length ≤ 63) : m_law [scrD (ns.map .int)] = .ok ⟨.imm, .bool true⟩ [] := by
  have c0 : m__law_cell [scrD (ns.map .int), .int 0] = _ := e_cell ns 0
  obtain ⟨many, hmany⟩ := Int.eq_ofNat_of_zero_le (a := dr ns 0 % 25) (by omega)
  have hm2 : many < 25 := by omega
  obtain ⟨m, ps, w, hw, ⟨m1, m2⟩, ⟨p1, p2⟩, t⟩ := e_world ns 4 many 5 (by omega) (by decide) (by decide) 3
  have hw' : m__law_world [scrD (ns.map .int), .int 4, .int many, .int 5, .int 3] = _ := hw
  have ok := t.ok
  have he := e_evidence (ps := ps) m ok (by omega) (by omega)
  have gt := gt_trail t (by omega) ⟨m1, m2⟩ ⟨p1, p2⟩
  have le := gt.le
  have ev := gt.ev
  have ni : Ni 6 (eviD ⟨m, ps, w.files, w.finds⟩) := le.ni _
  have v1 := e_is_evidence ni
  have v2 := e_law_is_evidence ni
  rw [ev] at v1 v2
  have lW : lf (worldD m ps w) = false := rfl
  have lX : lf (eviD ⟨m, ps, w.files, w.finds⟩) = true := lf_eviD
  -- the things that are none
  have eX : eviD ⟨m, ps, w.files, w.finds⟩ = .tuple [.int m, partiesD ps, .tuple (w.files.map fileT), .tuple (w.finds.map encF)] := rfl
  have hX : ∃ X1 X2 X3, eviD ⟨m, ps, w.files, w.finds⟩ = .tuple [.int m, X1, X2, X3] ∧ lf X1 = true ∧ lf X2 = true ∧ lf X3 = true ∧ Ni 4 X1 ∧ Ni 4 X2 ∧ Ni 4 X3 := ⟨_, _, _, eX, le.lP, le.lF, le.lG, le.NP.le (by decide), le.NF, le.NG.le (by decide)⟩
  have ch : ∀ c : Int, ∃ d, m__law_changed [.int c, eviD ⟨m, ps, w.files, w.finds⟩] = .ok ⟨.imm, d⟩ [] ∧ Ni 6 d := fun c => e_changed c le m
  generalize eviD ⟨m, ps, w.files, w.finds⟩ = X at *
  clear eX
  obtain ⟨X1, X2, X3, rfl, l1, l2, l3, n1, n2, n3⟩ := hX
  have bad : ∀ {n : Nat} {d : PyData}, Ni 6 d → evB d = false → m_is_evidence [d] = .ok ⟨.imm, .bool false⟩ [] := fun {n d} h1 h2 => by rw [e_is_evidence h1, h2]
  have hL : ∀ d ∈ [PyData.int 5, .none, .str "abcd", .tuple [], .tuple [.int 1, .int 2, .int 3], .tuple [.int m, X1, X2], .tuple [.int m, X1, X2, X3, .int 1], .list [.int m, X1, X2, X3]], m_is_evidence [d] = .ok ⟨.imm, .bool false⟩ [] := fun d hd => by
    simp only [List.mem_cons, List.not_mem_nil, or_false] at hd
    rcases hd with rfl | rfl | rfl | rfl | rfl | rfl | rfl | rfl
    · exact bad (n := 0) rfl rfl
    · exact bad (n := 0) rfl rfl
    · exact bad (n := 0) (strOk_of _) rfl
    · exact bad (n := 0) rfl rfl
    · exact bad (n := 0) rfl rfl
    · exact bad (n := 0) (Ni.tup (n := 5) (by simp) fun y hy => by
        simp only [List.mem_cons, List.not_mem_nil, or_false] at hy
        rcases hy with rfl | rfl | rfl
        · rfl
        · exact n1.le (by decide)
        · exact n2.le (by decide)) rfl
    · exact bad (n := 0) (Ni.tup (n := 5) (by simp) fun y hy => by
        simp only [List.mem_cons, List.not_mem_nil, or_false] at hy
        rcases hy with rfl | rfl | rfl | rfl | rfl
        · rfl
        · exact n1.le (by decide)
        · exact n2.le (by decide)
        · exact n3.le (by decide)
        · rfl) rfl
    · exact ev_list
  have step0 : ∀ d ∈ [PyData.int 5, .none, .str "abcd", .tuple [], .tuple [.int 1, .int 2, .int 3], .tuple [.int m, X1, X2], .tuple [.int m, X1, X2, X3, .int 1], .list [.int m, X1, X2, X3]],
      stp (gN 2) l_law_0 ⟨.imm, d⟩ [some ⟨.out, scrD (ns.map .int)⟩, some ⟨.imm, .tuple [.int m, X1, X2, X3]⟩, none, none, none, none] = .next [some ⟨.out, scrD (ns.map .int)⟩, some ⟨.imm, .tuple [.int m, X1, X2, X3]⟩, none, none, none, none] := fun d hd => by
    have h1 := hL d hd
    simp [x_stp, l_law_0, h1, l1, l2, l3]
  have loop0 := loop_same (g := gN 2) (b := l_law_0) (item := fun d => (⟨.imm, d⟩ : R)) step0
  have step1 : ∀ k : Nat, stp (gN 3) l_law_1 ⟨.imm, .int (0 + (k : Int))⟩ [some ⟨.out, scrD (ns.map .int)⟩, some ⟨.imm, .tuple [.int m, X1, X2, X3]⟩, none, none, none, none] = .next [some ⟨.out, scrD (ns.map .int)⟩, some ⟨.imm, .tuple [.int m, X1, X2, X3]⟩, none, none, none, none] := fun k => by
    have hcell : m__law_cell [scrD (ns.map .int), .int (40 + (k : Int))] = .ok ⟨.imm, .int (dr ns (40 + k))⟩ [] := e_cell ns (40 + k)
    obtain ⟨d, hd, nd⟩ := ch (dr ns (40 + k))
    have h1 := e_is_evidence nd
    have h2 := e_law_is_evidence nd
    generalize evB d = B at *
    have hB : fEq (.bool B) (.bool B) = some true := fEq_refl (Sh.bool (n := 1)).shaped
    simp [x_stp, l_law_1, t_law_0, hcell, hd, h1, h2, hB, l1, l2, l3]
  have loop1 := loop_same (g := gN 3) (b := l_law_1) (item := fun (k : Nat) => (⟨.imm, .int (0 + (k : Int))⟩ : R)) (xs := List.range 4) fun k _ => step1 k
  rw [← irng_map] at loop1
  have hcut : cutD [PyData.int m, X1, X2, X3] none (some 3) = [.int m, X1, X2] := cut_loZ (o := 3) (by simp)
  have hin : inR 4 = true := inR_of (by omega) (by omega)
  simp only [List.map_cons, List.map_nil] at loop0
  clear hL step0 step1 bad ch
  generalize worldD m ps w = WW at *
  simp [m_law, b_law, t_law_3, t_law_2, t_law_1, f_law_0, f_law_1, c0, hmany, hw', he, v1, v2, loop0, loop1, hcut, hin, lW, l1, l2, l3, both, sizeLine]
end Law

namespace Law
open PySem PySem.Spec L2 Oz
open PyProof.Rows hiding St
theorem txt [WD] {w : World} (hw : w = WD.w) {K : PySem.W.Frag} {h : Heap} {mg : Str → Option Value} (X : K.In h) (G : h.Ns mainGlobals mg) (c : He.SaysD fa fn K) (k : ck K = true) (dk : dn.map (fun q => He.dicW K (He.ga K q.1)) = dn.map (fun q => some (He.keysIn w.params q.2))) {base : Heap} (cz : SaysZ fa fn ck dn tf w h K) (tb : ∀ p ∈ tf, GxR.TabB base mg (He.cT K p).1 (He.cT K p).2) : Txt w K mg base where
  hw := hw
  f__law_evidence := by
    obtain ⟨fd, F⟩ := c.def_ 0 (d := d__law_evidence) rfl
    exact ⟨_, fd, F, He.glo_ok X G (c.fact 0 (f := .glo "_law_evidence") rfl)⟩
  f__law_begun := by
    obtain ⟨fd, F⟩ := c.def_ 1 (d := d__law_begun) rfl
    exact ⟨_, fd, F, He.glo_ok X G (c.fact 1 (f := .glo "_law_begun") rfl)⟩
  f__law_draws := by
    obtain ⟨fd, F⟩ := c.def_ 2 (d := d__law_draws) rfl
    exact ⟨_, fd, F, He.glo_ok X G (c.fact 2 (f := .glo "_law_draws") rfl)⟩
  f__law_parties := by
    obtain ⟨fd, F⟩ := c.def_ 3 (d := d__law_parties) rfl
    exact ⟨_, fd, F, He.glo_ok X G (c.fact 3 (f := .glo "_law_parties") rfl)⟩
  f__law_noted := by
    obtain ⟨fd, F⟩ := c.def_ 4 (d := d__law_noted) rfl
    exact ⟨_, fd, F, He.glo_ok X G (c.fact 4 (f := .glo "_law_noted") rfl)⟩
  f__law_lied := by
    obtain ⟨fd, F⟩ := c.def_ 5 (d := d__law_lied) rfl
    exact ⟨_, fd, F, He.glo_ok X G (c.fact 5 (f := .glo "_law_lied") rfl)⟩
  f__law_honest := by
    obtain ⟨fd, F⟩ := c.def_ 6 (d := d__law_honest) rfl
    exact ⟨_, fd, F, He.glo_ok X G (c.fact 6 (f := .glo "_law_honest") rfl)⟩
  f__law_did := by
    obtain ⟨fd, F⟩ := c.def_ 7 (d := d__law_did) rfl
    exact ⟨_, fd, F, He.glo_ok X G (c.fact 7 (f := .glo "_law_did") rfl)⟩
  f__law_cell := by
    obtain ⟨fd, F⟩ := c.def_ 8 (d := d__law_cell) rfl
    exact ⟨_, fd, F, He.glo_ok X G (c.fact 8 (f := .glo "_law_cell") rfl)⟩
  f__law_deed := by
    obtain ⟨fd, F⟩ := c.def_ 9 (d := d__law_deed) rfl
    exact ⟨_, fd, F, He.glo_ok X G (c.fact 9 (f := .glo "_law_deed") rfl)⟩
  f__law_world := by
    obtain ⟨fd, F⟩ := c.def_ 10 (d := d__law_world) rfl
    exact ⟨_, fd, F, He.glo_ok X G (c.fact 10 (f := .glo "_law_world") rfl)⟩
  f__law_put := by
    obtain ⟨fd, F⟩ := c.def_ 11 (d := d__law_put) rfl
    exact ⟨_, fd, F, He.glo_ok X G (c.fact 11 (f := .glo "_law_put") rfl)⟩
  f__law_odd := by
    obtain ⟨fd, F⟩ := c.def_ 12 (d := d__law_odd) rfl
    exact ⟨_, fd, F, He.glo_ok X G (c.fact 12 (f := .glo "_law_odd") rfl)⟩
  f__law_changed := by
    obtain ⟨fd, F⟩ := c.def_ 13 (d := d__law_changed) rfl
    exact ⟨_, fd, F, He.glo_ok X G (c.fact 13 (f := .glo "_law_changed") rfl)⟩
  f_entry_numbers := by
    obtain ⟨fd, F⟩ := c.def_ 14 (d := d_entry_numbers) rfl
    exact ⟨_, fd, F, He.glo_ok X G (c.fact 14 (f := .glo "entry_numbers") rfl)⟩
  f_ascend := by
    obtain ⟨fd, F⟩ := c.def_ 15 (d := d_ascend) rfl
    exact ⟨_, fd, F, He.glo_ok X G (c.fact 15 (f := .glo "ascend") rfl), code_of F⟩
  tb_ascend := tb ("ascend", none) (by simp [tf])
  tp_ascend := by rw [cz.tk]; exact List.mem_map.mpr ⟨("ascend", none), by simp [tf], rfl⟩
  f_is_number := by
    obtain ⟨fd, F⟩ := c.def_ 16 (d := d_is_number) rfl
    exact ⟨_, fd, F, He.glo_ok X G (c.fact 16 (f := .glo "is_number") rfl)⟩
  f_is_find := by
    obtain ⟨fd, F⟩ := c.def_ 17 (d := d_is_find) rfl
    exact ⟨_, fd, F, He.glo_ok X G (c.fact 17 (f := .glo "is_find") rfl)⟩
  f_are_finds := by
    obtain ⟨fd, F⟩ := c.def_ 18 (d := d_are_finds) rfl
    exact ⟨_, fd, F, He.glo_ok X G (c.fact 18 (f := .glo "are_finds") rfl), code_of F⟩
  tb_are_finds := tb ("are_finds", none) (by simp [tf])
  tp_are_finds := by rw [cz.tk]; exact List.mem_map.mpr ⟨("are_finds", none), by simp [tf], rfl⟩
  f_is_flag := by
    obtain ⟨fd, F⟩ := c.def_ 19 (d := d_is_flag) rfl
    exact ⟨_, fd, F, He.glo_ok X G (c.fact 19 (f := .glo "is_flag") rfl)⟩
  f_is_party := by
    obtain ⟨fd, F⟩ := c.def_ 20 (d := d_is_party) rfl
    exact ⟨_, fd, F, He.glo_ok X G (c.fact 20 (f := .glo "is_party") rfl)⟩
  f_is_parties := by
    obtain ⟨fd, F⟩ := c.def_ 21 (d := d_is_parties) rfl
    exact ⟨_, fd, F, He.glo_ok X G (c.fact 21 (f := .glo "is_parties") rfl), code_of F⟩
  tb_is_parties := tb ("is_parties", none) (by simp [tf])
  tp_is_parties := by rw [cz.tk]; exact List.mem_map.mpr ⟨("is_parties", none), by simp [tf], rfl⟩
  f_is_entry := by
    obtain ⟨fd, F⟩ := c.def_ 22 (d := d_is_entry) rfl
    exact ⟨_, fd, F, He.glo_ok X G (c.fact 22 (f := .glo "is_entry") rfl)⟩
  f_is_file := by
    obtain ⟨fd, F⟩ := c.def_ 23 (d := d_is_file) rfl
    exact ⟨_, fd, F, He.glo_ok X G (c.fact 23 (f := .glo "is_file") rfl), code_of F⟩
  tb_is_file := tb ("is_file", none) (by simp [tf])
  tp_is_file := by rw [cz.tk]; exact List.mem_map.mpr ⟨("is_file", none), by simp [tf], rfl⟩
  f_is_evidence := by
    obtain ⟨fd, F⟩ := c.def_ 24 (d := d_is_evidence) rfl
    exact ⟨_, fd, F, He.glo_ok X G (c.fact 24 (f := .glo "is_evidence") rfl), code_of F⟩
  tb_is_evidence := tb ("is_evidence", none) (by simp [tf])
  tp_is_evidence := by rw [cz.tk]; exact List.mem_map.mpr ⟨("is_evidence", none), by simp [tf], rfl⟩
  f__law_is_integer := by
    obtain ⟨fd, F⟩ := c.def_ 25 (d := d__law_is_integer) rfl
    exact ⟨_, fd, F, He.glo_ok X G (c.fact 25 (f := .glo "_law_is_integer") rfl)⟩
  f__law_ascends := by
    obtain ⟨fd, F⟩ := c.def_ 26 (d := d__law_ascends) rfl
    exact ⟨_, fd, F, He.glo_ok X G (c.fact 26 (f := .glo "_law_ascends") rfl)⟩
  f__law_is_row := by
    obtain ⟨fd, F⟩ := c.def_ 27 (d := d__law_is_row) rfl
    exact ⟨_, fd, F, He.glo_ok X G (c.fact 27 (f := .glo "_law_is_row") rfl)⟩
  f__law_is_find := by
    obtain ⟨fd, F⟩ := c.def_ 28 (d := d__law_is_find) rfl
    exact ⟨_, fd, F, He.glo_ok X G (c.fact 28 (f := .glo "_law_is_find") rfl)⟩
  f__law_is_evidence := by
    obtain ⟨fd, F⟩ := c.def_ 29 (d := d__law_is_evidence) rfl
    exact ⟨_, fd, F, He.glo_ok X G (c.fact 29 (f := .glo "_law_is_evidence") rfl)⟩
  f_law := by
    obtain ⟨fd, F⟩ := c.def_ 30 (d := d_law) rfl
    exact ⟨_, fd, F, He.glo_ok X G (c.fact 30 (f := .glo "law") rfl)⟩
  g_NUMBER_MOST := He.int_ok X G (c.fact 31 (f := .int "NUMBER_MOST" 1000000000) rfl)
  g_AMOUNT_MOST := He.int_ok X G (c.fact 32 (f := .int "AMOUNT_MOST" 1000000000000) rfl)
  g_ROWS_MOST := He.int_ok X G (c.fact 33 (f := .int "ROWS_MOST" 200) rfl)
  g_PARTIES_MOST := He.int_ok X G (c.fact 34 (f := .int "PARTIES_MOST" 8) rfl)
  g_PLAIN_DEEDS := He.glo_ok X G (c.fact 35 (f := .glo "PLAIN_DEEDS") rfl)
  t_PLAIN_DEEDS := fun C => tup_glob (vs := [.str "made", .str "treated"]) (ck_0 k) rfl C
  g_COPY_DEEDS := He.glo_ok X G (c.fact 36 (f := .glo "COPY_DEEDS") rfl)
  t_COPY_DEEDS := fun C => tup_glob (vs := [.str "gave", .str "took"]) (ck_1 k) rfl C
  g_KINDS_MOST := He.int_ok X G (c.fact 37 (f := .int "KINDS_MOST" 3) rfl)
  b_tuple := He.free_ok X G (c.fact 38 (f := .free "tuple") rfl)
  b_range := He.free_ok X G (c.fact 39 (f := .free "range") rfl)
  b_int := He.free_ok X G (c.fact 40 (f := .free "int") rfl)
  b_len := He.free_ok X G (c.fact 41 (f := .free "len") rfl)
  b_all := He.free_ok X G (c.fact 42 (f := .free "all") rfl)
  b_enumerate := He.free_ok X G (c.fact 43 (f := .free "enumerate") rfl)
  b_isinstance := He.free_ok X G (c.fact 44 (f := .free "isinstance") rfl)
  b_bool := He.free_ok X G (c.fact 45 (f := .free "bool") rfl)
  b_str := He.free_ok X G (c.fact 46 (f := .free "str") rfl)
  b_any := He.free_ok X G (c.fact 47 (f := .free "any") rfl)
  b_list := He.free_ok X G (c.fact 48 (f := .free "list") rfl)
theorem facts [WD] {P : Program} {w : World} {K : PySem.W.Frag} {h : Heap} {mg : Str → Option Value} {fa' : Addr} (X : K.In h) (G : h.Ns mainGlobals mg) (hfa : mg ("law" : Str) = some (.ref fa')) (c : He.SaysD fa fn K) (k : ck K = true) (dk : dn.map (fun q => He.dicW K (He.ga K q.1)) = dn.map (fun q => some (He.keysIn w.params q.2))) (cz : SaysZ fa fn ck dn tf w h K) (hw : w = WD.w) :
    ∃ fd : FuncData, (∀ (s : Shared) (v : Value), BindsTo s fd ⟨[v], []⟩ [("_law_script", v)]) ∧ ∀ base : Heap, K.In base → base.Ns mainGlobals mg → (∀ p ∈ tf, GxR.TabB base mg (He.cT K p).1 (He.cT K p).2) → FnOk P w K mg base CX0 11 fa' fd ["_law_script"] (spF K [.v] m_law) := by
  obtain ⟨fd, F⟩ := c.def_ 30 (d := d_law) rfl
  have hm : mg ("law" : Str) = some (.ref _) := He.glo_ok X G (c.fact 30 (f := .glo "law") rfl)
  have e := hfa.symm.trans hm
  cases e
  have b := FunD.bindsA (ps := ["_law_script"]) F fun _ _ _ _ _ _ us hl => match us, hl with | [_], _ => rfl
  exact ⟨fd, fun s v => b s [v] rfl, fun base _ _ tb => ok_law (txt hw X G c k dk cz tb) F⟩
end Law
open PySem PySem.W PySem.Calls PyProof.Rows
theorem PySem.Challenge.cw_notetrail_k00_what_is_evidence_holds : PySem.Challenge.rw_notetrail_k00_what_is_evidence.Holds := by
  w_on; o_law
  refine HandSHeadRun.head_any (r := OpenLaw.row PySem.Challenge.rw_notetrail_k00_what_is_evidence) (q := view (OpenLaw.row PySem.Challenge.rw_notetrail_k00_what_is_evidence).prog [39]) (H := Law.hk) (ob := Law.ob) (M := 3000) (loose := Law.loose) (d := HandSHeadRun.topDef (OpenLaw.row PySem.Challenge.rw_notetrail_k00_what_is_evidence).prog 39) (kwd := []) Law.ob_eq
    (by kernel_rfl) (fun s => by kernel_rfl) Law.run (by kernel_rfl) (by kernel_rfl) (by kernel_rfl) (by rfl) (by first | assumption | decide +kernel) (by decide +kernel) ⟨rfl, rfl, rfl, rfl, rfl, by decide +kernel⟩ ?hw ?hc
  case hw => w_witness2
  case hc =>
    refine Oz.walk_ofTsE (l := PySem.Challenge.rw_notetrail_k00_what_is_evidence) (n := 63) (k := 11) (x := "_law_script") rfl (by decide) (by kernel_rfl) ⟨rfl, by decide, by decide⟩ ?F
    intro w mg fa h Y G hmg0
    letI : Oz.WD := ⟨(PySem.Challenge.rw_notetrail_k00_what_is_evidence).prog, w⟩
    obtain ⟨K, KX, cz⟩ := Y
    have hmg : mg ("law" : PySem.Str) = some (.ref fa) := by
      have e : (HandSHeadRun.topDef (OpenLaw.row PySem.Challenge.rw_notetrail_k00_what_is_evidence).prog 39).name = ("law" : PySem.Str) := by kernel_rfl
      rw [← e]
      exact hmg0
    obtain ⟨fd, hb, hF⟩ := Law.facts (P := (PySem.Challenge.rw_notetrail_k00_what_is_evidence).prog) (w := w) KX G hmg cz.d cz.ck cz.dn cz rfl
    exact ⟨K, KX, Oz.lawAt KX cz hb Law.law_true hF⟩
