import PyProof.Rows.All
import Wide.All
import OpenK.AllK
import Wide.FinOn
import HandS.ForMost
import HandS.Deep
import HandS.HeadHook2
import HandS.AnyAll
import KE.KeyNested
import KE.KDictCopyH
import HandS.HeadHook4
import HandS.EndTab
import HandS.NestedK
import HandS.Exc
import HandS.ExcInit
import HandS.ExcField
import HandS.Nested
import KE.KExcSuper
import KE.KSuper
import HandS.Head2
import HandS.HeadEnd
import HandS.TupAny
import HandS.Flow
import HandS.ForDict
import KE.GoesMore
import HandS.TupLe
import HandS.IsInst
import HandS.More
import HandS.HeadHook3
import PyProof.Rows.CountFlat
import KE.SortData
import PyProof.JoinWalk
import PyProof.WalksMore
import KE.KNest
import PyProof.ReprRoads
import PyProof.ReprBulk
import KE.SortKeyHeap
import KE.KDictSum
import HandS.SortKw
import HandS.ExcValue
import HandS.Keys
import KE.DataMinMax
import HandS.DictComp
import HandS.SortInts
import HandS.CallSlots
import HandS.Conv
import HandS.GenOver
import HandS.GenList
import HandS.Style
import HandS.TupMul
import HandS.TryOnly
import PySem.Challenge.RW_notetrail_k41_full_desks
set_option Elab.async false
set_option linter.all false
set_option maxRecDepth 100000
set_option maxHeartbeats 0
namespace Oz
open PySem PySem.Spec PyProof.Rows L2

abbrev D := PyData
/-- a guard that no reduction opens -/
theorem gd_ex (b : Bool) : ∃ x : Bool, x = b := ⟨b, rfl⟩
noncomputable def gd (b : Bool) : Bool := Classical.choose (gd_ex b)
theorem gd_eq (b : Bool) : gd b = b := Classical.choose_spec (gd_ex b)
theorem gd_el {b : Bool} (h : gd b = true) : b = true := (gd_eq b).symm.trans h
/-! ### data: what is a value of its own, what holds no list or dict -/
def isVal : D → Bool
  | .list _ => false
  | .dict ((.bool false, _) :: _) => true
  | .dict _ => false
  | _ => true
mutual
def lf : D → Bool
  | .list _ => false
  | .dict _ => false
  | .tuple xs => lfs xs
  | .none => true
  | .bool _ => true
  | .int _ => true
  | .str _ => true
def lfs : List D → Bool
  | [] => true
  | x :: xs => lf x && lfs xs
end
theorem lf_val : ∀ {d : D}, lf d = true → isVal d = true
  | .none, _ => rfl
  | .bool _, _ => rfl
  | .int _, _ => rfl
  | .str _, _ => rfl
  | .tuple _, _ => rfl
  | .list _, h => by simp [lf] at h
  | .dict _, h => by simp [lf] at h
/-- a key as data -/
def kd : Key → D
  | .inl i => .int i
  | .inr x => .str x
/-- the script; an object of the class c with its attributes, as data -/
def scrD (ds : List D) : D := .dict [(.none, .list ds)]
/-- just this object, whatever it is -/
def ptrD (a : Addr) : D := .dict [(.bool false, .int (a : Nat))]
def objD (c : Str) (fs : List (D × D)) : D := .dict ((.none, .str c) :: fs)

/-! ### data in a heap -/
/-- a list that one looks at only -/
def SqF (K : PySem.W.Frag) (C : Hp) (a : Addr) (xs : List V) : Prop := SqL K C a xs
theorem SqF.sqL {K : PySem.W.Frag} {C : Hp} {a : Addr} {xs : List V} (h : SqF K C a xs) : SqL K C a xs := h
theorem SqF.mono {K : PySem.W.Frag} {C C' : Hp} {a : Addr} {xs : List V} (e : Same C C') (h : SqF K C a xs) : SqF K C' a xs := by
  rcases h with (h | ⟨o, h⟩) | h
  · exact .inl (.inl (e _ _ h))
  · exact .inl (.inr ⟨o, e _ _ h⟩)
  · exact .inr h
mutual
inductive Rep (K : PySem.W.Frag) (C : Hp) : V → D → Prop
  | non : Rep K C .non .none
  | bl (b : Bool) : Rep K C (.bl b) (.bool b)
  | int (i : Int) : Rep K C (.int i) (.int i)
  | str (x : Str) : Rep K C (.str x) (.str x)
  | lst {a : Addr} {xs : List V} {ds : List D} : C a = some (.lst xs) → Reps K C xs ds → Rep K C (.ref a) (.list ds)
  | scr {a : Addr} {xs : List V} {ds : List D} : SqF K C a xs → Reps K C xs ds → Rep K C (.ref a) (scrD ds)
  | tup {a : Addr} {xs : List V} {ds : List D} : SqT K C a xs → Reps K C xs ds → Rep K C (.ref a) (.tuple ds)
  | dct {a : Addr} {kvs : List (Key × V)} {es : List (D × D)} : C a = some (.dK kvs) → es.map (·.1) = kvs.map (fun p => kd p.1) → Reps K C (kvs.map (·.2)) (es.map (·.2)) → Rep K C (.ref a) (.dict es)
  | ptr (a : Addr) : Rep K C (.ref a) (ptrD a)
  | obj {a Cl dx : Addr} {c : Str} {fs : List (Str × V)} {es : List (D × D)} : C a = some (.ins Cl dx fs) → Cl = He.ga K c → es.map (·.1) = fs.map (fun p => PyData.str p.1) → Reps K C (fs.map (·.2)) (es.map (·.2)) → Rep K C (.ref a) (objD c es)
inductive Reps (K : PySem.W.Frag) (C : Hp) : List V → List D → Prop
  | nil : Reps K C [] []
  | cons {v : V} {vs : List V} {d : D} {ds : List D} : Rep K C v d → Reps K C vs ds → Reps K C (v :: vs) (d :: ds)
end
theorem Same.seqT {K : PySem.W.Frag} {H H' : Hp} {a : Addr} {xs : List V} (e : Same H H') (h : SqT K H a xs) : SqT K H' a xs := by
  rcases h with (h | ⟨o, h⟩) | h
  · exact .inl (.inl (e _ _ h))
  · exact .inl (.inr ⟨o, e _ _ h⟩)
  · exact .inr h
/-- the code object at c, its table at P -/
abbrev codO (c P : Addr) : HO := .ext fun h => PySem.W.CodeHd h c P
/-- the places of the generator expressions that hold others (of all laws; one that is flat must not stand at such a place) -/
def nestPos : List (Nat × Nat) := [(63, 15), (64, 15), (67, 15), (71, 15), (154, 15), (166, 15), (186, 19)]
def nestP (p : Pos) : Bool := nestPos.contains (p.line, p.col)
/-- each code object that a table names at such a place is known, and so is its own table -/
def Trk (H : Hp) (b : Addr) : Prop := ∀ ps : Array Value, H b = some (.tbl ps) → ∀ pos cv, nestP pos = true → codeAmong pos ps.toList = some cv → ∃ c P, cv = .ref c ∧ P ≠ b ∧ H c = some (codO c P) ∧ GxR.TabG H P
def TabQ (n : Bool) (H : Hp) (b : Addr) : Prop := GxR.TabG H b ∧ (n = true → Trk H b)
def NSys (p : Addr) (x : Option HO) : Prop := (∀ ps, x ≠ some (.tbl ps)) ∧ ∀ P, p ≠ P → x ≠ some (codO p P)
/-- the running world -/
class WD where
  p : Program
  w : World
theorem TabQ.to {n : Bool} {H H' : Hp} {b : Addr} (h : TabQ n H b) (k1 : ∀ x ps, H x = some (.tbl ps) → H' x = some (.tbl ps)) (k2 : ∀ c P, c ≠ P → H c = some (codO c P) → H' c = some (codO c P)) : TabQ n H' b := by
  obtain ⟨⟨ps, h1, h2⟩, h3⟩ := h
  refine ⟨⟨ps, k1 _ _ h1, h2⟩, fun e ps' h4 pos cv hn h5 => ?_⟩
  rw [k1 _ _ h1] at h4
  cases h4
  obtain ⟨c, P, q1, q0, q2, ps2, q3, q4⟩ := h3 e ps h1 pos cv hn h5
  exact ⟨c, P, q1, q0, k2 _ _ (fun e => by rw [e, q3] at q2; cases q2) q2, ps2, k1 _ _ q3, q4⟩
theorem upd_tab {n : Bool} {H : Hp} {p a : Addr} {o : HO} (e : NSys p (H p)) (h : TabQ n H a) : TabQ n (upd H p o) a :=
  h.to (fun x ps q => by rw [upd_ne (fun z => e.1 ps (by rw [← z]; exact q))]; exact q) fun c P ne q => by rw [upd_ne (fun z => by subst z; exact e.2 P ne q)]; exact q
/-- H' is H, but that tables of code objects may have grown -/
structure SameT (H H' : Hp) : Prop where
  s : ∀ b o, H b = some o → (∀ ps, o ≠ .tbl ps) → H' b = some o
  fr : ∀ b, H' b = none → H b = none
  tab : ∀ {n : Bool} b, TabQ n H b → TabQ n H' b
abbrev SameN (H H' : Hp) : Prop := ∀ b o, H b = some o → (∀ ps, o ≠ .tbl ps) → H' b = some o
abbrev NoT (H : Hp) : Prop := ∀ a ps, H a ≠ some (.tbl ps)
theorem Same.toN {H H' : Hp} (n : NoT H) (e : SameN H H') : Same H H' := fun b o h => e b o h fun ps z => n b ps (by rw [h, z])
theorem toT {H H' : Hp} (e : Same H H') : SameT H H' := ⟨fun b o h _ => e b o h, fun _ h => e.free h, fun b h => h.to (fun x ps q => e x _ q) fun c P _ q => e c _ q⟩
theorem SameT.refl (H : Hp) : SameT H H := toT (Same.refl H)
theorem SameT.trans {H H1 H2 : Hp} (a : SameT H H1) (b : SameT H1 H2) : SameT H H2 := ⟨fun c o h n => b.s c o (a.s c o h n) n, fun c h => a.fr c (b.fr c h), fun c h => b.tab c (a.tab c h)⟩
theorem SameT.free {H H' : Hp} (e : SameT H H') {l : Addr} (h : H' l = Option.none) : H l = Option.none := e.fr l h
theorem SameT.l {H H' : Hp} (e : SameT H H') {a : Addr} {xs : List V} (h : H a = some (.lst xs)) : H' a = some (.lst xs) := e.s _ _ h nofun
theorem SameT.f {H H' : Hp} (e : SameT H H') {a : Addr} {o : Obj} {x : HO} (h : H a = some (.frz o x)) : H' a = some (.frz o x) := e.s _ _ h nofun
theorem SameT.seqT {K : PySem.W.Frag} {H H' : Hp} {a : Addr} {xs : List V} (e : SameT H H') (h : SqT K H a xs) : SqT K H' a xs := by
  rcases h with (h | ⟨o, h⟩) | h
  · exact .inl (.inl (e.s _ _ h nofun))
  · exact .inl (.inr ⟨o, e.s _ _ h nofun⟩)
  · exact .inr h
theorem SameT.updN {H H' : Hp} {p : Addr} {o : HO} (e : SameT H H') (n : H p = Option.none) (ns : NSys p (H' p)) : SameT H (upd H' p o) := by
  refine ⟨fun b x h t => ?_, fun b h => ?_, fun b h => ?_⟩
  · rw [upd_ne (fun z => by rw [z, n] at h; cases h)]
    exact e.s b x h t
  · by_cases q : b = p
    · rw [q, upd_same] at h; cases h
    · rw [upd_ne q] at h; exact e.fr b h
  · exact upd_tab ns (e.tab b h)
theorem SameN.seqT {K : PySem.W.Frag} {H H' : Hp} {a : Addr} {xs : List V} (e : SameN H H') (h : SqT K H a xs) : SqT K H' a xs := by
  rcases h with (h | ⟨o, h⟩) | h
  · exact .inl (.inl (e _ _ h nofun))
  · exact .inl (.inr ⟨o, e _ _ h nofun⟩)
  · exact .inr h
theorem SqF.monoN {K : PySem.W.Frag} {C C' : Hp} {a : Addr} {xs : List V} (e : SameN C C') (h : SqF K C a xs) : SqF K C' a xs := by
  rcases h with (h | ⟨o, h⟩) | h
  · exact .inl (.inl (e _ _ h nofun))
  · exact .inl (.inr ⟨o, e _ _ h nofun⟩)
  · exact .inr h
theorem SqF.monoT {K : PySem.W.Frag} {C C' : Hp} {a : Addr} {xs : List V} (e : SameT C C') (h : SqF K C a xs) : SqF K C' a xs := SqF.monoN e.s h
section
variable {K : PySem.W.Frag} {C C' : Hp}
mutual
theorem Rep.monoN (e : SameN C C') : ∀ {v : V} {d : D}, Rep K C v d → Rep K C' v d
  | _, _, .non => .non
  | _, _, .bl b => .bl b
  | _, _, .int i => .int i
  | _, _, .str x => .str x
  | _, _, .lst h r => .lst (e _ _ h nofun) (Reps.monoN e r)
  | _, _, .scr h r => .scr (h.monoN e) (Reps.monoN e r)
  | _, _, .tup h r => .tup (SameN.seqT e h) (Reps.monoN e r)
  | _, _, .dct h k r => .dct (e _ _ h nofun) k (Reps.monoN e r)
  | _, _, .ptr a => .ptr a
  | _, _, .obj h c k r => .obj (e _ _ h nofun) c k (Reps.monoN e r)
theorem Reps.monoN (e : SameN C C') : ∀ {vs : List V} {ds : List D}, Reps K C vs ds → Reps K C' vs ds
  | _, _, .nil => .nil
  | _, _, .cons h r => .cons (Rep.monoN e h) (Reps.monoN e r)
end
theorem Rep.monoT (e : SameT C C') {v : V} {d : D} (h : Rep K C v d) : Rep K C' v d := Rep.monoN e.s h
theorem Reps.monoT (e : SameT C C') {vs : List V} {ds : List D} (h : Reps K C vs ds) : Reps K C' vs ds := Reps.monoN e.s h
theorem Rep.mono (e : Same C C') {v : V} {d : D} (h : Rep K C v d) : Rep K C' v d := Rep.monoT (toT e) h
theorem Reps.mono (e : Same C C') {vs : List V} {ds : List D} (h : Reps K C vs ds) : Reps K C' vs ds := Reps.monoT (toT e) h
theorem Reps.length : ∀ {vs : List V} {ds : List D}, Reps K C vs ds → vs.length = ds.length
  | _, _, .nil => rfl
  | _, _, .cons _ r => congrArg (· + 1) (Reps.length r)
theorem Reps.get : ∀ {vs : List V} {ds : List D} {i : Nat} {d : D}, Reps K C vs ds → ds[i]? = some d → ∃ v, vs[i]? = some v ∧ Rep K C v d
  | _, _, _, _, .nil, h => by simp at h
  | _, _, 0, _, .cons h _, e => ⟨_, rfl, by simp at e; exact e ▸ h⟩
  | _, _, i + 1, _, .cons _ r, e => by
    obtain ⟨v, h1, h2⟩ := Reps.get (i := i) r (by simpa using e)
    exact ⟨v, by simpa using h1, h2⟩
theorem Reps.getV : ∀ {vs : List V} {ds : List D} {i : Nat} {v : V}, Reps K C vs ds → vs[i]? = some v → ∃ d, ds[i]? = some d ∧ Rep K C v d
  | _, _, _, _, .nil, h => by simp at h
  | _, _, 0, _, .cons h _, e => ⟨_, rfl, by simp at e; exact e ▸ h⟩
  | _, _, i + 1, _, .cons _ r, e => by
    obtain ⟨v, h1, h2⟩ := Reps.getV (i := i) r (by simpa using e)
    exact ⟨v, by simpa using h1, h2⟩
theorem Reps.append : ∀ {vs ws : List V} {ds es : List D}, Reps K C vs ds → Reps K C ws es → Reps K C (vs ++ ws) (ds ++ es)
  | _, _, _, _, .nil, s => s
  | _, _, _, _, .cons h r, s => .cons h (Reps.append r s)
theorem Reps.take : ∀ {vs : List V} {ds : List D} (n : Nat), Reps K C vs ds → Reps K C (vs.take n) (ds.take n)
  | _, _, 0, _ => .nil
  | _, _, _ + 1, .nil => .nil
  | _, _, n + 1, .cons h r => .cons h (Reps.take n r)
theorem Reps.drop : ∀ {vs : List V} {ds : List D} (n : Nat), Reps K C vs ds → Reps K C (vs.drop n) (ds.drop n)
  | _, _, 0, r => r
  | _, _, _ + 1, .nil => .nil
  | _, _, n + 1, .cons _ r => Reps.drop n r
/-! data of the kind of the library -/
mutual
def pl : D → Bool
  | .list xs => pls xs
  | .tuple xs => pls xs
  | .dict _ => false
  | .none => true
  | .bool _ => true
  | .int _ => true
  | .str _ => true
def pls : List D → Bool
  | [] => true
  | x :: xs => pl x && pls xs
end
mutual
theorem Rep.dp : ∀ {v : V} {d : D}, Rep K C v d → pl d = true → Dp K C v d
  | _, _, .non, _ => .non
  | _, _, .bl b, _ => .bl b
  | _, _, .int i, _ => .int i
  | _, _, .str x, _ => .str x
  | _, _, .lst h r, p => .lst (.inl (.inl h)) (Reps.dp r (by simpa [pl] using p))
  | _, _, .scr _ _, p => by simp [pl, scrD] at p
  | _, _, .tup h r, p => .tup h (Reps.dp r (by simpa [pl] using p))
  | _, _, .dct _ _ _, p => by simp [pl] at p
  | _, _, .ptr _, p => by simp [pl, ptrD] at p
  | _, _, .obj _ _ _ _, p => by simp [pl, objD] at p
theorem Reps.dp : ∀ {vs : List V} {ds : List D}, Reps K C vs ds → pls ds = true → DpAll K C vs ds
  | _, _, .nil, _ => .nil
  | _, _, .cons h r, p => by
    have q : (_ && _) = true := p
    obtain ⟨q1, q2⟩ := Bool.and_eq_true_iff.mp q
    exact .cons (Rep.dp h q1) (Reps.dp r q2)
end
end
/-- an object that never changes -/
def fzn : HO → Bool
  | .tup _ => true
  | .frz _ (.tup _) => true
  | .frz _ (.lst _) => true
  | _ => false
section
variable {K : PySem.W.Frag} {Z H : Hp}
theorem tup_in (tz : ∀ a o, H a = some o → fzn o = true → Z a = some o) {a : Addr} {xs : List V} (h : SqT K H a xs) : SqT K Z a xs := by
  rcases h with (h | ⟨o, h⟩) | h
  · exact .inl (.inl (tz _ _ h rfl))
  · exact .inl (.inr ⟨o, tz _ _ h rfl⟩)
  · exact .inr h
mutual
theorem Rep.up (tz : ∀ a o, H a = some o → fzn o = true → Z a = some o) : ∀ {v : V} {d : D}, Rep K H v d → lf d = true → Rep K Z v d
  | _, _, .non, _ => .non
  | _, _, .bl b, _ => .bl b
  | _, _, .int i, _ => .int i
  | _, _, .str x, _ => .str x
  | _, _, .lst h r, p => by simp [lf] at p
  | _, _, .scr _ _, p => by simp [lf, scrD] at p
  | _, _, .tup h r, p => .tup (tup_in tz h) (Reps.up tz r (by simpa [lf] using p))
  | _, _, .dct _ _ _, p => by simp [lf] at p
  | _, _, .ptr _, p => by simp [lf, ptrD] at p
  | _, _, .obj _ _ _ _, p => by simp [lf, objD] at p
theorem Reps.up (tz : ∀ a o, H a = some o → fzn o = true → Z a = some o) : ∀ {vs : List V} {ds : List D}, Reps K H vs ds → lfs ds = true → Reps K Z vs ds
  | _, _, .nil, _ => .nil
  | _, _, .cons h r, p => by
    have q : (_ && _) = true := p
    obtain ⟨q1, q2⟩ := Bool.and_eq_true_iff.mp q
    exact .cons (Rep.up tz h q1) (Reps.up tz r q2)
end
end

/-! ### data that one owns: F its cells -/
mutual
inductive Own (K : PySem.W.Frag) (Z H : Hp) : V → D → List Addr → Prop
  | imm {v : V} {d : D} : Rep K Z v d → isVal d = true → Own K Z H v d []
  | lst {a : Addr} {xs : List V} {ds : List D} {F : List Addr} : H a = some (.lst xs) → Owns K Z H xs ds F → Own K Z H (.ref a) (.list ds) (a :: F)
  | dct {a : Addr} {kvs : List (Key × V)} {es : List (D × D)} {F : List Addr} : H a = some (.dK kvs) → es.map (·.1) = kvs.map (fun p => kd p.1) → Owns K Z H (kvs.map (·.2)) (es.map (·.2)) F → Own K Z H (.ref a) (.dict es) (a :: F)
  | obj {a Cl dx : Addr} {c : Str} {fs : List (Str × V)} {es : List (D × D)} {F : List Addr} : H a = some (.ins Cl dx fs) → H dx = some (.own a) → Cl = He.ga K c → es.map (·.1) = fs.map (fun p => PyData.str p.1) →
      Owns K Z H (fs.map (·.2)) (es.map (·.2)) F → Own K Z H (.ref a) (objD c es) (a :: dx :: F)
inductive Owns (K : PySem.W.Frag) (Z H : Hp) : List V → List D → List Addr → Prop
  | nil : Owns K Z H [] [] []
  | cons {v : V} {vs : List V} {d : D} {ds : List D} {F G : List Addr} : Own K Z H v d F → Owns K Z H vs ds G → Owns K Z H (v :: vs) (d :: ds) (F ++ G)
end
section
variable {K : PySem.W.Frag} {Z Z' H H' : Hp}
mutual
/-- the cells of F stand as they stood -/
theorem Own.mono (ez : Same Z Z') : ∀ {v : V} {d : D} {F : List Addr}, (∀ a ∈ F, ∀ o, H a = some o → (∀ ps, o ≠ .tbl ps) → H' a = some o) → Own K Z H v d F → Own K Z' H' v d F
  | _, _, _, _, .imm r p => .imm (r.mono ez) p
  | _, _, _, k, .lst h r => .lst (k _ List.mem_cons_self _ h nofun) (Owns.mono ez (fun a ha => k a (List.mem_cons_of_mem _ ha)) r)
  | _, _, _, k, .dct h e r => .dct (k _ List.mem_cons_self _ h nofun) e (Owns.mono ez (fun a ha => k a (List.mem_cons_of_mem _ ha)) r)
  | _, _, _, k, .obj h h2 c e r => .obj (k _ List.mem_cons_self _ h nofun) (k _ (List.mem_cons_of_mem _ List.mem_cons_self) _ h2 nofun) c e (Owns.mono ez (fun a ha => k a (List.mem_cons_of_mem _ (List.mem_cons_of_mem _ ha))) r)
theorem Owns.mono (ez : Same Z Z') : ∀ {vs : List V} {ds : List D} {F : List Addr}, (∀ a ∈ F, ∀ o, H a = some o → (∀ ps, o ≠ .tbl ps) → H' a = some o) → Owns K Z H vs ds F → Owns K Z' H' vs ds F
  | _, _, _, _, .nil => .nil
  | _, _, _, k, .cons h r => .cons (Own.mono ez (fun a ha => k a (List.mem_append_left _ ha)) h) (Owns.mono ez (fun a ha => k a (List.mem_append_right _ ha)) r)
end
mutual
theorem Own.live : ∀ {v : V} {d : D} {F : List Addr}, Own K Z H v d F → ∀ a ∈ F, ∃ o, H a = some o ∧ fzn o = false
  | _, _, _, .imm _ _, _, h => by cases h
  | _, _, _, .lst h r, a, m => by
    rcases List.mem_cons.mp m with e | m
    · exact ⟨_, e ▸ h, rfl⟩
    · exact Owns.live r a m
  | _, _, _, .dct h _ r, a, m => by
    rcases List.mem_cons.mp m with e | m
    · exact ⟨_, e ▸ h, rfl⟩
    · exact Owns.live r a m
  | _, _, _, .obj h h2 _ _ r, a, m => by
    rcases List.mem_cons.mp m with e | m
    · exact ⟨_, e ▸ h, rfl⟩
    · rcases List.mem_cons.mp m with e | m
      · exact ⟨_, e ▸ h2, rfl⟩
      · exact Owns.live r a m
theorem Owns.live : ∀ {vs : List V} {ds : List D} {F : List Addr}, Owns K Z H vs ds F → ∀ a ∈ F, ∃ o, H a = some o ∧ fzn o = false
  | _, _, _, .nil, _, h => by cases h
  | _, _, _, .cons h r, a, m => (List.mem_append.mp m).elim (Own.live h a) (Owns.live r a)
end
mutual
theorem Own.ntb : ∀ {v : V} {d : D} {F : List Addr}, Own K Z H v d F → ∀ a ∈ F, ∀ ps, H a ≠ some (.tbl ps)
  | _, _, _, .imm _ _, _, h => by cases h
  | _, _, _, .lst h r, a, m => by
    rcases List.mem_cons.mp m with e | m
    · exact fun ps z => by rw [e, h] at z; cases z
    · exact Owns.ntb r a m
  | _, _, _, .dct h _ r, a, m => by
    rcases List.mem_cons.mp m with e | m
    · exact fun ps z => by rw [e, h] at z; cases z
    · exact Owns.ntb r a m
  | _, _, _, .obj h h2 _ _ r, a, m => by
    rcases List.mem_cons.mp m with e | m
    · exact fun ps z => by rw [e, h] at z; cases z
    · rcases List.mem_cons.mp m with e | m
      · exact fun ps z => by rw [e, h2] at z; cases z
      · exact Owns.ntb r a m
theorem Owns.ntb : ∀ {vs : List V} {ds : List D} {F : List Addr}, Owns K Z H vs ds F → ∀ a ∈ F, ∀ ps, H a ≠ some (.tbl ps)
  | _, _, _, .nil, _, h => by cases h
  | _, _, _, .cons h r, a, m => (List.mem_append.mp m).elim (Own.ntb h a) (Owns.ntb r a)
end
mutual
theorem Own.nsy : ∀ {v : V} {d : D} {F : List Addr}, Own K Z H v d F → ∀ a ∈ F, NSys a (H a)
  | _, _, _, .imm _ _, _, h => by cases h
  | _, _, _, .lst h r, a, m => by
    rcases List.mem_cons.mp m with e | m
    · exact ⟨fun ps z => (by rw [e, h] at z; cases z), fun _ _ z => (by rw [e, h] at z; cases z)⟩
    · exact Owns.nsy r a m
  | _, _, _, .dct h _ r, a, m => by
    rcases List.mem_cons.mp m with e | m
    · exact ⟨fun ps z => (by rw [e, h] at z; cases z), fun _ _ z => (by rw [e, h] at z; cases z)⟩
    · exact Owns.nsy r a m
  | _, _, _, .obj h h2 _ _ r, a, m => by
    rcases List.mem_cons.mp m with e | m
    · exact ⟨fun ps z => (by rw [e, h] at z; cases z), fun _ _ z => (by rw [e, h] at z; cases z)⟩
    · rcases List.mem_cons.mp m with e | m
      · exact ⟨fun ps z => (by rw [e, h2] at z; cases z), fun _ _ z => (by rw [e, h2] at z; cases z)⟩
      · exact Owns.nsy r a m
theorem Owns.nsy : ∀ {vs : List V} {ds : List D} {F : List Addr}, Owns K Z H vs ds F → ∀ a ∈ F, NSys a (H a)
  | _, _, _, .nil, _, h => by cases h
  | _, _, _, .cons h r, a, m => (List.mem_append.mp m).elim (Own.nsy h a) (Owns.nsy r a)
end
mutual
/-- what one owns may be looked at -/
theorem Own.rep (zh : Same Z H) : ∀ {v : V} {d : D} {F : List Addr}, Own K Z H v d F → Rep K H v d
  | _, _, _, .imm r _ => r.mono zh
  | _, _, _, .lst h r => .lst h (Owns.rep zh r)
  | _, _, _, .dct h e r => .dct h e (Owns.rep zh r)
  | _, _, _, .obj h _ c e r => .obj h c e (Owns.rep zh r)
theorem Owns.rep (zh : Same Z H) : ∀ {vs : List V} {ds : List D} {F : List Addr}, Owns K Z H vs ds F → Reps K H vs ds
  | _, _, _, .nil => .nil
  | _, _, _, .cons h r => .cons (Own.rep zh h) (Owns.rep zh r)
end
theorem Owns.length : ∀ {vs : List V} {ds : List D} {F : List Addr}, Owns K Z H vs ds F → vs.length = ds.length
  | _, _, _, .nil => rfl
  | _, _, _, .cons _ r => congrArg (· + 1) (Owns.length r)
theorem Owns.append : ∀ {vs ws : List V} {ds es : List D} {F G : List Addr}, Owns K Z H vs ds F → Owns K Z H ws es G → Owns K Z H (vs ++ ws) (ds ++ es) (F ++ G)
  | _, _, _, _, _, _, .nil, s => s
  | _, _, _, _, _, _, .cons h r, s => by
    rw [List.append_assoc]
    exact .cons h (Owns.append r s)
theorem Owns.one {v : V} {d : D} {F : List Addr} (h : Own K Z H v d F) : Owns K Z H [v] [d] F := by
  have := Owns.cons h Owns.nil
  rwa [List.append_nil] at this
theorem Owns.of_reps : ∀ {vs : List V} {ds : List D}, Reps K Z vs ds → ds.all isVal = true → Owns K Z H vs ds []
  | _, _, .nil, _ => .nil
  | _, _, .cons h r, p => by
    rw [List.all_cons] at p
    obtain ⟨q1, q2⟩ := Bool.and_eq_true_iff.mp p
    exact .cons (F := []) (.imm h q1) (Owns.of_reps r q2)
end
end Oz

namespace Oz
open PySem PySem.Spec PyProof.Rows L2
variable [WD]

/-! ### results, frames -/
inductive Sx where
  | imm | out | view | own | brw | tab
  deriving DecidableEq
structure R where
  s : Sx
  d : D
abbrev Ev := List (Option R)
inductive Res (α : Type) where
  | bad
  | ok (a : α)
  | exc (c : Str) (fs : List (Str × D))
def Res.bind {α β : Type} : Res α → (α → Res β) → Res β
  | .bad, _ => .bad
  | .ok a, f => f a
  | .exc c fs, _ => .exc c fs
theorem Res.bind_ok {α β : Type} (a : α) (f : α → Res β) : (Res.ok a).bind f = f a := rfl
abbrev Px := Ev → Res R
abbrev Tx := Ev → Res Bool

/-! ### heaps within heaps -/
structure Good (Z O H : Hp) : Prop where
  zo : Same Z O
  oh : Same O H
  tz : ∀ a o, H a = some o → fzn o = true → Z a = some o
  nt : NoT O
theorem Good.ohT {Z O H H' : Hp} (g : Good Z O H) (e : SameT H H') : Same O H' := Same.toN g.nt fun b o h n => e.s b o (g.oh b o h) n
theorem Good.ntz {Z O H : Hp} (g : Good Z O H) : NoT Z := fun a ps h => g.nt a ps (g.zo _ _ h)
theorem noT_upd {O : Hp} {p : Addr} {o : HO} (n : NoT O) (h : ∀ ps, o ≠ .tbl ps) : NoT (upd O p o) := fun a ps e => by
  by_cases q : a = p
  · subst q; rw [upd_same] at e; exact h ps (Option.some.inj e)
  · rw [upd_ne q] at e; exact n a ps e
theorem Good.zh {Z O H : Hp} (g : Good Z O H) : Same Z H := g.zo.trans g.oh
/-- nothing but new things, and what stood in W -/
structure Ext (W : List Addr) (Z O H Z' O' H' : Hp) : Prop where
  h : SameT H H'
  z : Same Z Z'
  o : Same O O'
  zn : ∀ a, Z' a ≠ none → Z a ≠ none ∨ H a = none ∨ a ∈ W
  on : ∀ a, O' a ≠ none → O a ≠ none ∨ H a = none ∨ a ∈ W
theorem Ext.refl (W : List Addr) (Z O H : Hp) : Ext W Z O H Z O H := ⟨SameT.refl _, Same.refl _, Same.refl _, fun _ h => .inl h, fun _ h => .inl h⟩
/-- first W0, then W whose cells are new -/
theorem Ext.trans {W0 W : List Addr} {Z O H Z1 O1 H1 Z2 O2 H2 : Hp} (a : Ext W0 Z O H Z1 O1 H1) (b : Ext W Z1 O1 H1 Z2 O2 H2) (w : ∀ c ∈ W, H c = none ∨ c ∈ W0) : Ext W0 Z O H Z2 O2 H2 :=
  ⟨a.h.trans b.h, a.z.trans b.z, a.o.trans b.o,
    fun c h => (b.zn c h).elim (a.zn c) (fun q => q.elim (fun q => .inr (.inl (a.h.free q))) fun q => .inr (w c q)),
    fun c h => (b.on c h).elim (a.on c) (fun q => q.elim (fun q => .inr (.inl (a.h.free q))) fun q => .inr (w c q))⟩
theorem Ext.trans0 {Z O H Z1 O1 H1 Z2 O2 H2 : Hp} (a : Ext [] Z O H Z1 O1 H1) (b : Ext [] Z1 O1 H1 Z2 O2 H2) : Ext [] Z O H Z2 O2 H2 := a.trans b fun _ h => by cases h
theorem Ext.mono {W W' : List Addr} {Z O H Z' O' H' : Hp} (a : Ext W Z O H Z' O' H') (w : ∀ c ∈ W, c ∈ W') : Ext W' Z O H Z' O' H' :=
  ⟨a.h, a.z, a.o, fun c h => (a.zn c h).imp id fun q => q.imp id (w c), fun c h => (a.on c h).imp id fun q => q.imp id (w c)⟩
theorem same_new {H : Hp} {p : Addr} {o : HO} (h : H p = none) : Same H (upd H p o) := fun b x e => by
  rw [upd_ne (ne_of_none e h)]
  exact e
theorem upd_some {H : Hp} {p a : Addr} {o : HO} (h : upd H p o a ≠ none) : H a ≠ none ∨ a = p := by
  by_cases e : a = p
  · exact .inr e
  · rw [upd_ne e] at h
    exact .inl h
theorem upd_fr {H : Hp} {p a : Addr} {o : HO} (h : upd H p o a = none) : H a = none := by
  by_cases e : a = p
  · rw [e, upd_same] at h; cases h
  · rw [upd_ne e] at h; exact h
theorem none_of {Z H : Hp} (z : Same Z H) {p : Addr} (h : H p = none) : Z p = none := z.free h
/-- a new object that never changes -/
theorem ext_frz {Z O H : Hp} (g : Good Z O H) {p : Addr} {o : HO} (np : H p = none) (hn : ∀ ps, o ≠ .tbl ps := by nofun) : Ext [] Z O H (upd Z p o) (upd O p o) (upd H p o) ∧ Good (upd Z p o) (upd O p o) (upd H p o) := by
  have zp := none_of g.zh np
  have op := none_of g.oh np
  refine ⟨⟨toT (same_new np), same_new zp, same_new op, fun a h => ?_, fun a h => ?_⟩, ⟨fun a x h => ?_, fun a x h => ?_, fun a x h f => ?_, noT_upd g.nt hn⟩⟩
  · exact (upd_some h).imp id fun (e : a = p) => .inl (e ▸ np)
  · exact (upd_some h).imp id fun (e : a = p) => .inl (e ▸ np)
  · by_cases e : a = p
    · subst e; rw [upd_same] at h ⊢; exact h
    · rw [upd_ne e] at h ⊢; exact g.zo _ _ h
  · by_cases e : a = p
    · subst e; rw [upd_same] at h ⊢; exact h
    · rw [upd_ne e] at h ⊢; exact g.oh _ _ h
  · by_cases e : a = p
    · subst e; rw [upd_same] at h ⊢; exact h
    · rw [upd_ne e] at h ⊢; exact g.tz _ _ h f
/-- a new object of one's own -/
theorem ext_new {Z O H : Hp} (g : Good Z O H) {p : Addr} {o : HO} (np : H p = none) (f : fzn o = false) : Ext [] Z O H Z O (upd H p o) ∧ Good Z O (upd H p o) := by
  refine ⟨⟨toT (same_new np), Same.refl _, Same.refl _, fun a h => .inl h, fun a h => .inl h⟩, ⟨g.zo, g.oh.trans (same_new np), fun a x h q => ?_, g.nt⟩⟩
  by_cases e : a = p
  · subst e; rw [upd_same] at h; cases h; rw [f] at q; cases q
  · rw [upd_ne e] at h; exact g.tz _ _ h q

/-! ### tables of code objects: the addresses that the markers at K's end name -/
def mkD : Obj → Option Addr
  | ⟨.none, some P, .plain, _⟩ => some P
  | _ => none
def tabsK (K : PySem.W.Frag) : List Addr := K.filterMap fun q => mkD q.2
def Tabs (K : PySem.W.Frag) (H : Hp) : Prop := ∀ P ∈ tabsK K, TabQ true H P
theorem Tabs.ext {K : PySem.W.Frag} {H H' : Hp} (t : Tabs K H) (e : SameT H H') : Tabs K H' := fun P hP => e.tab P (t P hP)

/-! ### what a result stands for -/
def RepR (K : PySem.W.Frag) (Z O H : Hp) (v : V) (r : R) (F : List Addr) : Prop := match r.s with
  | .imm => Rep K Z v r.d ∧ F = []
  | .out => Rep K O v r.d ∧ F = []
  | .view => Rep K H v r.d ∧ F = []
  | .own => Own K Z H v r.d F
  | .brw => Own K Z H v r.d F
  | .tab => False
section
variable {K : PySem.W.Frag} {Z O H Z' O' H' : Hp}
theorem RepR.live {v : V} {r : R} {F : List Addr} (h : RepR K Z O H v r F) : ∀ a ∈ F, ∃ o, H a = some o ∧ fzn o = false := by
  obtain ⟨s, d⟩ := r
  cases s with
  | imm => obtain ⟨_, rfl⟩ := h; intro a ha; cases ha
  | out => obtain ⟨_, rfl⟩ := h; intro a ha; cases ha
  | view => obtain ⟨_, rfl⟩ := h; intro a ha; cases ha
  | own => exact Own.live h
  | brw => exact Own.live h
  | tab => exact (show False from h).elim
theorem RepR.ntb {v : V} {r : R} {F : List Addr} (h : RepR K Z O H v r F) : ∀ a ∈ F, ∀ ps, H a ≠ some (.tbl ps) := by
  obtain ⟨s, d⟩ := r
  cases s with
  | imm => obtain ⟨_, rfl⟩ := h; intro a ha; cases ha
  | out => obtain ⟨_, rfl⟩ := h; intro a ha; cases ha
  | view => obtain ⟨_, rfl⟩ := h; intro a ha; cases ha
  | own => exact Own.ntb h
  | brw => exact Own.ntb h
  | tab => exact (show False from h).elim
theorem RepR.nsy {v : V} {r : R} {F : List Addr} (h : RepR K Z O H v r F) : ∀ a ∈ F, NSys a (H a) := by
  obtain ⟨s, d⟩ := r
  cases s with
  | imm => obtain ⟨_, rfl⟩ := h; intro a ha; cases ha
  | out => obtain ⟨_, rfl⟩ := h; intro a ha; cases ha
  | view => obtain ⟨_, rfl⟩ := h; intro a ha; cases ha
  | own => exact Own.nsy h
  | brw => exact Own.nsy h
  | tab => exact (show False from h).elim
theorem RepR.sameM {v : V} {r : R} {F : List Addr} (ez : Same Z Z') (eo : Same O O') (eh : SameN H H') (h : RepR K Z O H v r F) : RepR K Z' O' H' v r F := by
  obtain ⟨s, d⟩ := r
  cases s with
  | imm => exact ⟨h.1.mono ez, h.2⟩
  | out => exact ⟨h.1.mono eo, h.2⟩
  | view => exact ⟨h.1.monoN eh, h.2⟩
  | own => exact Own.mono ez (fun a _ o q n => eh a o q n) h
  | brw => exact Own.mono ez (fun a _ o q n => eh a o q n) h
  | tab => exact (show False from h).elim
theorem RepR.ext {v : V} {r : R} {F : List Addr} (h : RepR K Z O H v r F) {W : List Addr} (e : Ext W Z O H Z' O' H') : RepR K Z' O' H' v r F := by
  obtain ⟨s, d⟩ := r
  cases s with
  | imm => exact ⟨h.1.mono e.z, h.2⟩
  | out => exact ⟨h.1.mono e.o, h.2⟩
  | view => exact ⟨h.1.monoT e.h, h.2⟩
  | own => exact Own.mono e.z (fun a _ o q n => e.h.s a o q n) h
  | brw => exact Own.mono e.z (fun a _ o q n => e.h.s a o q n) h
  | tab => exact (show False from h).elim
/-- the cells of others changed: no view stays -/
theorem RepR.keep {v : V} {r : R} {F : List Addr} (h : RepR K Z O H v r F) (hv : r.s ≠ .view) (ez : Same Z Z') (eo : Same O O') (eh : ∀ a ∈ F, ∀ o, H a = some o → (∀ ps, o ≠ .tbl ps) → H' a = some o) : RepR K Z' O' H' v r F := by
  obtain ⟨s, d⟩ := r
  cases s with
  | imm => exact ⟨h.1.mono ez, h.2⟩
  | out => exact ⟨h.1.mono eo, h.2⟩
  | view => exact absurd rfl hv
  | own => exact Own.mono ez eh h
  | brw => exact Own.mono ez eh h
  | tab => exact (show False from h).elim
/-- anything may be looked at -/
theorem RepR.look {v : V} {r : R} {F : List Addr} (g : Good Z O H) (h : RepR K Z O H v r F) : Rep K H v r.d := by
  obtain ⟨s, d⟩ := r
  cases s with
  | imm => exact h.1.mono g.zh
  | out => exact h.1.mono g.oh
  | view => exact h.1
  | own => exact Own.rep g.zh h
  | brw => exact Own.rep g.zh h
  | tab => exact (show False from h).elim
end

/-! ### a dict whose keys are tuples of ints, texts and truth values: its keys, one by one -/
/-- numbers as they count as keys -/
def keyB : D → Option NestedKey
  | .int i => some (.num i)
  | .bool b => some (.num (if b = true then 1 else 0))
  | .str x => some (.text x)
  | .none => some .none
  | _ => none
def keysB : List D → Option (List NestedKey)
  | [] => some []
  | d :: ds => match keyB d, keysB ds with
    | some k, some ks => some (k :: ks)
    | _, _ => none
def tdE [WD] (x : NestedKey × Addr) : DictEntry := ⟨x.1.hash WD.w, .ref x.2, .bool true⟩
/-- the object at a is a dict: its keys stand at the addresses, each with its value True -/
def tdO [WD] (a : Addr) (xs : List (NestedKey × Addr)) : Heap → Prop := fun h => ∃ o es ep, h.get? a = some o ∧ o.ExactDict ∧ o.data = .dict es ep ∧
  es.toList = xs.map tdE ∧ (xs.map (·.1)).Nodup ∧ (a == sysModules) = false
theorem tdO_ne [WD] {a P : Addr} {xs : List (NestedKey × Addr)} (ne : a ≠ P) : HO.ext (tdO a xs) ≠ codO a P := fun e => by
  injection e with e
  have hg : (⟨Array.replicate (a + 1) ⟨.type "code", none, .fields #[.none, .none, .none, .none, .none, .none, .none, .int 0 0, .none, .bool true, .int 0 0, .ref P, .none, .none, .none, .none, .none, .none, .str "" 0], #[]⟩, {}⟩ : Heap).get? a = some ⟨.type "code", none, .fields #[.none, .none, .none, .none, .none, .none, .none, .int 0 0, .none, .bool true, .int 0 0, .ref P, .none, .none, .none, .none, .none, .none, .str "" 0], #[]⟩ := by
    simp [Heap.get?]
  have h := (congrFun e _).mpr (show PySem.W.CodeHd _ a P from ⟨_, _, _, _, _, _, _, _, _, hg, rfl, rfl, rfl, rfl, rfl, rfl, rfl, rfl, ne⟩)
  obtain ⟨o, es, ep, h1, h2, _⟩ := h
  rw [hg] at h1
  cases h1
  have h3 : Value.type "code" = Value.type "dict" := h2.1
  injection h3 with h4
  exact absurd h4 (by decide)
/-- the keys: frozen tuples -/
inductive KeysAt (K : PySem.W.Frag) (Z : Hp) : List (NestedKey × Addr) → List D → Prop
  | nil : KeysAt K Z [] []
  | cons {ks : List NestedKey} {b : Addr} {ds : List D} {xs : List (NestedKey × Addr)} {es : List D} : keysB ds = some ks → Rep K Z (.ref b) (.tuple ds) → KeysAt K Z xs es → KeysAt K Z ((.tup ks, b) :: xs) (.tuple ds :: es)
theorem KeysAt.mono {K : PySem.W.Frag} {Z Z' : Hp} (e : Same Z Z') : ∀ {xs : List (NestedKey × Addr)} {es : List D}, KeysAt K Z xs es → KeysAt K Z' xs es
  | _, _, .nil => .nil
  | _, _, .cons h r t => .cons h (r.mono e) (KeysAt.mono e t)
def TabR [WD] (K : PySem.W.Frag) (Z H : Hp) (v : V) (d : D) (F : List Addr) : Prop := ∃ a xs es, v = .ref a ∧ d = .list es ∧ H a = some (.ext (tdO a xs)) ∧ KeysAt K Z xs es ∧ F = [a]
/-- what a slot may hold -/
def RepS [WD] (K : PySem.W.Frag) (Z O H : Hp) (v : V) (r : R) (F : List Addr) : Prop := RepR K Z O H v r F ∨ (r.s = .tab ∧ TabR K Z H v r.d F)
section
variable [WD] {K : PySem.W.Frag} {Z O H Z' O' H' : Hp} {v : V} {r : R} {F : List Addr}
theorem RepS.live (h : RepS K Z O H v r F) : ∀ a ∈ F, ∃ o, H a = some o ∧ fzn o = false := by
  rcases h with h | ⟨_, a, xs, es, _, _, h, _, rfl⟩
  · exact h.live
  · intro b hb
    simp at hb
    rw [hb]
    exact ⟨_, h, rfl⟩
theorem RepS.ntb (h : RepS K Z O H v r F) : ∀ a ∈ F, ∀ ps, H a ≠ some (.tbl ps) := by
  rcases h with h | ⟨_, a, xs, es, _, _, h, _, rfl⟩
  · exact h.ntb
  · intro b hb ps e
    simp at hb
    rw [hb, h] at e
    cases e
theorem RepS.nsy (h : RepS K Z O H v r F) : ∀ a ∈ F, NSys a (H a) := by
  rcases h with h | ⟨_, a, xs, es, _, _, h, _, rfl⟩
  · exact h.nsy
  · intro b hb
    simp at hb
    subst hb
    refine ⟨fun ps e => ?_, fun P ne e => ?_⟩
    · rw [h] at e; cases e
    · rw [h] at e
      exact tdO_ne ne (Option.some.inj e)
theorem RepS.mono (h : RepS K Z O H v r F) (hr : RepR K Z O H v r F → RepR K Z' O' H' v r F) (ez : Same Z Z') (eh : ∀ a ∈ F, ∀ o, H a = some o → (∀ ps, o ≠ .tbl ps) → H' a = some o) : RepS K Z' O' H' v r F := by
  rcases h with h | ⟨e, a, xs, es, e1, e2, h, ka, rfl⟩
  · exact .inl (hr h)
  · exact .inr ⟨e, a, xs, es, e1, e2, eh a (by simp) _ h nofun, ka.mono ez, rfl⟩
theorem RepS.sameM (ez : Same Z Z') (eo : Same O O') (eh : SameN H H') (h : RepS K Z O H v r F) : RepS K Z' O' H' v r F := h.mono (fun q => q.sameM ez eo eh) ez fun a _ o e n => eh a o e n
theorem RepS.ext (h : RepS K Z O H v r F) {W : List Addr} (e : Ext W Z O H Z' O' H') : RepS K Z' O' H' v r F := h.mono (fun q => q.ext e) e.z fun a _ o q n => e.h.s a o q n
theorem RepS.keep (h : RepS K Z O H v r F) (hv : r.s ≠ .view) (ez : Same Z Z') (eo : Same O O') (eh : ∀ a ∈ F, ∀ o, H a = some o → (∀ ps, o ≠ .tbl ps) → H' a = some o) : RepS K Z' O' H' v r F := h.mono (fun q => q.keep hv ez eo eh) ez eh
/-- but for tables, a slot is as any result -/
theorem RepS.rep (h : RepS K Z O H v r F) (ht : r.s ≠ .tab) : RepR K Z O H v r F := h.elim id fun z => absurd z.1 ht
end
inductive Slots (K : PySem.W.Frag) (Z O H : Hp) : List (Option V) → Ev → List Addr → Prop
  | nil : Slots K Z O H [] [] []
  | non {x : Option V} {σ : List (Option V)} {ρ : Ev} {F : List Addr} : Slots K Z O H σ ρ F → Slots K Z O H (x :: σ) (none :: ρ) F
  | val {v : V} {r : R} {σ : List (Option V)} {ρ : Ev} {F G : List Addr} : RepS K Z O H v r F → Slots K Z O H σ ρ G → Slots K Z O H (some v :: σ) (some r :: ρ) (F ++ G)
/-- no view among them -/
def nov (ρ : Ev) : Bool := ρ.all fun x => match x with
  | some ⟨.view, _⟩ => false
  | _ => true
section
variable {K : PySem.W.Frag} {Z O H Z' O' H' : Hp}
theorem Slots.length : ∀ {σ : List (Option V)} {ρ : Ev} {F : List Addr}, Slots K Z O H σ ρ F → σ.length = ρ.length
  | _, _, _, .nil => rfl
  | _, _, _, .non s => congrArg (· + 1) s.length
  | _, _, _, .val _ s => congrArg (· + 1) s.length
theorem Slots.live : ∀ {σ : List (Option V)} {ρ : Ev} {F : List Addr}, Slots K Z O H σ ρ F → ∀ a ∈ F, ∃ o, H a = some o ∧ fzn o = false
  | _, _, _, .nil, _, h => by cases h
  | _, _, _, .non s, a, h => s.live a h
  | _, _, _, .val r s, a, h => (List.mem_append.mp h).elim (r.live a) (s.live a)
theorem Slots.ntb : ∀ {σ : List (Option V)} {ρ : Ev} {F : List Addr}, Slots K Z O H σ ρ F → ∀ a ∈ F, ∀ ps, H a ≠ some (.tbl ps)
  | _, _, _, .nil, _, h => by cases h
  | _, _, _, .non s, a, h => s.ntb a h
  | _, _, _, .val r s, a, h => (List.mem_append.mp h).elim (r.ntb a) (s.ntb a)
theorem Slots.nsy : ∀ {σ : List (Option V)} {ρ : Ev} {F : List Addr}, Slots K Z O H σ ρ F → ∀ a ∈ F, NSys a (H a)
  | _, _, _, .nil, _, h => by cases h
  | _, _, _, .non s, a, h => s.nsy a h
  | _, _, _, .val r s, a, h => (List.mem_append.mp h).elim (r.nsy a) (s.nsy a)
theorem Slots.sameM (ez : Same Z Z') (eo : Same O O') (eh : SameN H H') : ∀ {σ : List (Option V)} {ρ : Ev} {F : List Addr}, Slots K Z O H σ ρ F → Slots K Z' O' H' σ ρ F
  | _, _, _, .nil => .nil
  | _, _, _, .non s => .non (Slots.sameM ez eo eh s)
  | _, _, _, .val r s => .val (r.sameM ez eo eh) (Slots.sameM ez eo eh s)
theorem Slots.ext {W : List Addr} (e : Ext W Z O H Z' O' H') : ∀ {σ : List (Option V)} {ρ : Ev} {F : List Addr}, Slots K Z O H σ ρ F → Slots K Z' O' H' σ ρ F
  | _, _, _, .nil => .nil
  | _, _, _, .non s => .non (Slots.ext e s)
  | _, _, _, .val r s => .val (r.ext e) (Slots.ext e s)
theorem Slots.keep (ez : Same Z Z') (eo : Same O O') : ∀ {σ : List (Option V)} {ρ : Ev} {F : List Addr}, Slots K Z O H σ ρ F → nov ρ = true → (∀ a ∈ F, ∀ o, H a = some o → (∀ ps, o ≠ .tbl ps) → H' a = some o) → Slots K Z' O' H' σ ρ F
  | _, _, _, .nil, _, _ => .nil
  | _, _, _, .non s, n, k => .non (Slots.keep ez eo s (by simpa [nov] using n) k)
  | _, _, _, .val (r := r) q s, n, k => by
    have n1 : (_ && _) = true := n
    obtain ⟨n2, n3⟩ := Bool.and_eq_true_iff.mp n1
    refine .val (q.keep (fun e => ?_) ez eo fun a ha => k a (List.mem_append_left _ ha)) (Slots.keep ez eo s n3 fun a ha => k a (List.mem_append_right _ ha))
    obtain ⟨s, d⟩ := r
    cases e
    cases n2
/-- a slot by itself -/
def SlotR (K : PySem.W.Frag) (Z O H : Hp) : Option V → Option R → List Addr → Prop
  | _, none, F => F = []
  | some v, some r, F => RepS K Z O H v r F
  | none, some _, _ => False
theorem Slots.get : ∀ {σ : List (Option V)} {ρ : Ev} {F : List Addr} {i : Nat} {r : R}, Slots K Z O H σ ρ F → ρ[i]? = some (some r) → ∃ v, σ[i]? = some (some v) ∧ ∃ G, RepS K Z O H v r G
  | _, _, _, _, _, .nil, h => by simp at h
  | _, _, _, 0, _, .non s, h => by simp at h
  | _, _, _, i + 1, _, .non s, h => by
    obtain ⟨v, h1, h2⟩ := Slots.get (i := i) s (by simpa using h)
    exact ⟨v, by simpa using h1, h2⟩
  | _, _, _, 0, _, .val r s, h => by
    simp at h
    subst h
    exact ⟨_, rfl, _, r⟩
  | _, _, _, i + 1, _, .val r s, h => by
    obtain ⟨v, h1, h2⟩ := Slots.get (i := i) s (by simpa using h)
    exact ⟨v, by simpa using h1, h2⟩
/-- one slot taken out, the others kept -/
theorem Slots.focus : ∀ {σ : List (Option V)} {ρ : Ev} {F : List Addr} {i : Nat}, Slots K Z O H σ ρ F → i < ρ.length →
    ∃ (x : Option V) (y : Option R) (F1 G F2 : List Addr), σ[i]? = some x ∧ ρ[i]? = some y ∧ F = F1 ++ (G ++ F2) ∧ SlotR K Z O H x y G ∧
      (∀ (x' : Option V) (y' : Option R) (G' : List Addr) (Z' O' H' : Hp), Same Z Z' → Same O O' → (SameN H H' ∨ nov ρ = true) → (∀ a ∈ F1 ++ F2, ∀ o, H a = some o → (∀ ps, o ≠ .tbl ps) → H' a = some o) → SlotR K Z' O' H' x' y' G' → Slots K Z' O' H' (σ.set i x') (ρ.set i y') (F1 ++ (G' ++ F2)))
  | _, _, _, _, .nil, h => by simp at h
  | x :: σ, _ :: ρ, F, 0, .non s, h => by
    refine ⟨x, none, [], [], F, rfl, rfl, rfl, rfl, fun x' y' G' Z' O' H' ez eo eh k q => ?_⟩
    have s' : Slots K Z' O' H' σ ρ F := by
      rcases eh with eh | n
      · exact Slots.sameM ez eo eh s
      · exact Slots.keep ez eo s (by simpa [nov] using n) (by simpa using k)
    cases y' with
    | none => have e : G' = [] := q; subst e; exact .non s'
    | some r => cases x' with
      | none => cases q
      | some v =>
        have z := Slots.val q s'
        exact z
  | some _ :: σ, some _ :: ρ, _, 0, .val (r := r) (F := F) (G := G) q s, h => by
    refine ⟨_, some r, [], F, G, rfl, rfl, rfl, q, fun x' y' G' Z' O' H' ez eo eh k q => ?_⟩
    have s' : Slots K Z' O' H' σ ρ G := by
      rcases eh with eh | n
      · exact Slots.sameM ez eo eh s
      · exact Slots.keep ez eo s (by have n1 : (_ && _) = true := n; exact (Bool.and_eq_true_iff.mp n1).2) (by simpa using k)
    cases y' with
    | none => have e : G' = [] := q; subst e; exact .non s'
    | some r => cases x' with
      | none => cases q
      | some v =>
        have z := Slots.val q s'
        exact z
  | x :: σ, _ :: ρ, F, i + 1, .non s, h => by
    obtain ⟨x1, y1, F1, G, F2, h1, h2, h3, h4, h5⟩ := Slots.focus (i := i) s (by simpa using h)
    refine ⟨x1, y1, F1, G, F2, by simpa using h1, by simpa using h2, h3, h4, fun x' y' G' Z' O' H' ez eo eh k q => ?_⟩
    exact .non (h5 x' y' G' Z' O' H' ez eo (eh.imp id fun n => by simpa [nov] using n) k q)
  | some _ :: σ, some _ :: ρ, _, i + 1, .val (r := r) (F := F0) (G := G0) q0 s, h => by
    obtain ⟨x1, y1, F1, G, F2, h1, h2, h3, h4, h5⟩ := Slots.focus (i := i) s (by simpa using h)
    refine ⟨x1, y1, F0 ++ F1, G, F2, by simpa using h1, by simpa using h2, by rw [h3, List.append_assoc], h4, fun x' y' G' Z' O' H' ez eo eh k q => ?_⟩
    rw [List.append_assoc]
    refine .val ?_ (h5 x' y' G' Z' O' H' ez eo (eh.imp id fun n => by have n1 : (_ && _) = true := n; exact (Bool.and_eq_true_iff.mp n1).2) (fun a ha => k a ?_) q)
    · rcases eh with eh | n
      · exact RepS.sameM ez eo eh q0
      · refine q0.keep (fun e => ?_) ez eo fun a ha => k a (List.mem_append_left _ (List.mem_append_left _ ha))
        have n1 : (_ && _) = true := n
        obtain ⟨n2, _⟩ := Bool.and_eq_true_iff.mp n1
        obtain ⟨s, d⟩ := r
        cases e
        cases n2
    · rcases List.mem_append.mp ha with ha | ha
      · exact List.mem_append_left _ (List.mem_append_right _ ha)
      · exact List.mem_append_right _ ha
end
end Oz

/-! Oz37: the head's Hook with tables of code objects: markers at K's end name them. -/
namespace Oz
open PySem PySem.Spec L2
open PyProof.Rows hiding St
def mkr (q : Addr × Addr) : Addr × Obj := (q.1, ⟨.none, some q.2, .plain, #[]⟩)
def addM (K0 : PySem.W.Frag) (tf : List He.Defn) : PySem.W.Frag := K0 ++ tf.map fun p => mkr (He.cT K0 p)
def zB (g : Addr → Option Obj) (tf : List He.Defn) (K0 K : PySem.W.Frag) : Bool := (tf.all fun p => (K0.lookup (He.cT K0 p).1).isSome && (PySem.W.codeHdIn K (He.cT K p).1 (He.cT K p).2 && ((match g (He.cT K p).2 with
  | some o => He.emptyTab o
  | none => false) && (K.lookup (He.cT K p).2).isNone))) && decide (tabsK K = tf.map fun p => (He.cT K p).2)
structure SaysZ (fa : List He.Fa) (fn : List He.DefD) (ck : PySem.W.Frag → Bool) (dn : List (Str × List Str)) (tf : List He.Defn) (w : World) (h : Heap) (K : PySem.W.Frag) : Prop where
  d : He.SaysD fa fn K
  ck : ck K = true
  dn : dn.map (fun q => He.dicW K (He.ga K q.1)) = dn.map (fun q => some (He.keysIn w.params q.2))
  hd : ∀ p ∈ tf, PySem.W.codeHdIn K (He.cT K p).1 (He.cT K p).2 = true
  out : ∀ p ∈ tf, K.lookup (He.cT K p).2 = none
  empty : ∀ p ∈ tf, h.get? (He.cT K p).2 = some { cls := .none, data := .fields #[] }
  tk : tabsK K = tf.map fun p => (He.cT K p).2
theorem lookup_app {a : Addr} {o : Obj} {l m : List (Addr × Obj)} (h : (l ++ m).lookup a = some o) : l.lookup a = some o ∨ (l.lookup a = none ∧ m.lookup a = some o) := by
  induction l with
  | nil => exact .inr ⟨rfl, h⟩
  | cons p l ih =>
    obtain ⟨b, u⟩ := p
    rw [List.cons_append, List.lookup_cons] at h
    rw [List.lookup_cons]
    by_cases e : (a == b) = true
    · rw [e] at h ⊢; exact .inl h
    · have e' : (a == b) = false := Bool.eq_false_iff.mpr e
      rw [e'] at h ⊢
      exact ih h
theorem in_addM {K0 : PySem.W.Frag} {tf : List He.Defn} {h : Heap} (H : K0.In h) (hs : ∀ p ∈ tf, (K0.lookup (He.cT K0 p).1).isSome = true) : (addM K0 tf).In h := fun a o e => by
  rcases lookup_app e with e | ⟨e1, e2⟩
  · exact H a o e
  · have hm := He.lookup_mem e2
    obtain ⟨p, hp, ep⟩ := List.mem_map.mp hm
    have ea : (He.cT K0 p).1 = a := congrArg Prod.fst ep
    have := hs p hp
    rw [ea, e1] at this
    cases this
noncomputable section
end
end Oz

/-! Oz62: __init__ of an own exception over ValueError: super().__init__(what); self.what = what -/
namespace Oz
open PySem PySem.Spec L2
open PyProof.Rows hiding St
structure XiPos where
  p0 : Pos
  p1 : Pos
  p2 : Pos
  p3 : Pos
  p4 : Pos
  p5 : Pos
  p6 : Pos
  p7 : Pos
  p8 : Pos
  p9 : Pos
  a0 : Pos
  a1 : Pos
def ixBody (p : XiPos) : List Stmt := [.Expr (.Call (.Attribute (.Call (.Name "super" p.p0) [] [] p.p1) "__init__" p.p2) [.Name "what" p.p3] [] p.p4) p.p5, .Assign [.Attribute (.Name "self" p.p6) "what" p.p7] (.Name "what" p.p8) p.p9]
def ixScope : Scope := {
  kind := .function, names := [(PySem.Str.ofString "self", .local), (PySem.Str.ofString "what", .local), (PySem.Str.ofString "__class__", .free), (PySem.Str.ofString "super", .globalImplicit)]
  isGenerator := false, isCoroutine := false, more := [] }
def ixPars (p : XiPos) : Arguments := { posonlyargs := [], args := [{ arg := "self", annotation := none, pos := p.a0 }, { arg := "what", annotation := none, pos := p.a1 }], vararg := none, kwonlyargs := [], kw_defaults := [], kwarg := none, defaults := [] }
end Oz

/-! Oz64: the head's Hook with own exceptions -/
namespace Oz
open PySem PySem.Spec L2
open PyProof.Rows hiding St
structure RfD where
  c : Str
  p : XiPos
abbrev RfW : Type := Option (Arguments × FuncBody × Scope × Addr × List Str × Addr)
def rfW (K : PySem.W.Frag) (c : Str) : RfW := match K.lookup (He.ma K (He.ga K c) "__init__") with
  | some ⟨_, _, .func fd, _⟩ => some (fd.params, fd.body, fd.scope, fd.globals, fd.closure.map (·.1), fd.builtins)
  | _ => none
def RfD.val (r : RfD) : RfW := some (ixPars r.p, .stmts (ixBody r.p), ixScope, mainGlobals, ["__class__"], builtinsNs)
def oexB (K : PySem.W.Frag) (C : Addr) : Bool := match K.lookup C with
  | some ⟨.type "type", _, .cls cd, sl⟩ => (match cd.mro, sl.toList with
    | .ref C' :: bm, [_, _, _, _, some (.builtin n), _] => C' == C && (n == "ValueError.__new__" && (!cd.hasDel && (cd.hasDict && PySem.HandSPX.refsVE bm)))
    | _, _ => false)
  | _ => false
def initB (K : PySem.W.Frag) (fl : Str) (C f : Addr) : Bool := match K.lookup f with
  | some ⟨_, _, .func fd, _⟩ => (match fd.code, fd.closure, fd.defaults with
    | .ref cda, [(_, cc)], .none => PySem.W.codeIn K (.ref cda) fd.qualname && ((match K.lookup cda with
        | some ⟨_, _, .fields vs, _⟩ => (match (vs[2]? : Option Value) with
          | some (.str file _) => fl == file
          | _ => false)
        | _ => false) && (match K.lookup cc with
        | some ⟨_, _, .cell (some (.ref D)), _⟩ => D == C
        | _ => false))
    | _, _, _ => false)
  | _ => false
def rfB (K : PySem.W.Frag) (fl c : Str) : Bool :=
  oexB K (He.ga K c) && (initB K fl (He.ga K c) (He.ma K (He.ga K c) "__init__") && (
  decide (PySem.W.findIn K (.ref (He.ga K c)) "__setattr__" = some (some (.builtin "object.__setattr__"))) && (decide (PySem.W.subIn K (.ref (He.ga K c)) (.type "BaseException") = some true) && (
  decide (PySem.W.typeIn K (.ref (He.ga K c)) = some (.type "type")) && (PySem.W.keepIn K (.ref (He.ga K c)) && (
  decide (PySem.W.findIn K (.ref (He.ga K c)) "__init__" = some (some (.ref (He.ma K (He.ga K c) "__init__")))) && (decide (PySem.W.typeIn K (.ref (He.ma K (He.ga K c) "__init__")) = some (.type "function")) && (
  decide (PySem.W.mroIn K (He.ga K c) (.ref (He.ga K c)) = some true) && (decide (PySem.W.nsIn K cStatics "thirdparty.any" = some none) && (
  decide (PySem.W.ks_superIn K (He.ga K c) (He.ga K c) "__init__" = some (some (.builtin "ValueError.__init__"))) && (decide (PySem.W.subIn K (.ref (He.ga K c)) (.type "ValueError") = some true) && (
  decide (PySem.W.findIn K (.ref (He.ga K c)) "what" = some none) && (xfB K (He.ga K c) && decide (PySem.W.exmOne K (.ref (He.ga K c)) (.ref (He.ga K c)) = some true))))))))))))))
def Ke (n : Nat) (tf : List He.Defn) (g : Addr → Option Obj) : PySem.W.Frag := addM (He.frT g (He.asD g n ++ [cStatics])) tf
structure SaysE (fa : List He.Fa) (fn : List He.DefD) (ck : PySem.W.Frag → Bool) (dn : List (Str × List Str)) (tf : List He.Defn) (rs : List RfD) (fl : Str) (w : World) (h : Heap) (K : PySem.W.Frag) : Prop extends SaysZ fa fn ck dn tf w h K where
  r1 : rs.map (fun r => rfW K r.c) = rs.map RfD.val
  r2 : (rs.all fun r => rfB K fl r.c) = true
noncomputable section
abbrev AlE : Type := List RfW × Bool × Bool × Bool × List (Option (List (Option (Str × Int)))) × He.AlD
def obsE (n : Nat) (fa : List He.Fa) (fn : List He.DefD) (ck : PySem.W.Frag → Bool) (dn : List (Str × List Str)) (tf : List He.Defn) (rs : List RfD) (fl : Str) (g : Addr → Option Obj) : AlE :=
  (rs.map (fun r => rfW (Ke n tf g) r.c), rs.all (fun r => rfB (Ke n tf g) fl r.c), zB g tf (He.frT g (He.asD g n ++ [cStatics])) (Ke n tf g), ck (Ke n tf g), dn.map (fun q => He.dicW (Ke n tf g) (He.ga (Ke n tf g) q.1)), He.obsD fa fn (Ke n tf g))
def hookE (n : Nat) (fa : List He.Fa) (fn : List He.DefD) (ck : PySem.W.Frag → Bool) (dn : List (Str × List Str)) (tf : List He.Defn) (rs : List RfD) (fl : Str) : PySem.W.Hook where
  α := AlE
  obs := fun s => obsE n fa fn ck dn tf rs fl s.heap.get?
  val := fun w => (rs.map RfD.val, true, true, true, dn.map (fun q => some (He.keysIn w.params q.2)), He.valD fn)
  says := fun w h => ∃ K : PySem.W.Frag, K.In h ∧ SaysE fa fn ck dn tf rs fl w h K
  of := fun _ _ e => by
    obtain ⟨r1, e0⟩ := Prod.mk.inj e
    obtain ⟨r2, e⟩ := Prod.mk.inj e0
    have e1 := (Prod.mk.inj e).1
    obtain ⟨e2, e3⟩ := Prod.mk.inj (Prod.mk.inj e).2
    obtain ⟨e4, e5⟩ := Prod.mk.inj e3
    unfold zB at e1
    rw [Bool.and_eq_true, List.all_eq_true, decide_eq_true_eq] at e1
    obtain ⟨z1, z2⟩ := e1
    have zz := fun p hp => z1 p hp
    simp only [Bool.and_eq_true] at zz
    refine ⟨_, in_addM He.frT_in fun p hp => (zz p hp).1, ⟨e5, e2, e4, fun p hp => (zz p hp).2.1, fun p hp => Option.isNone_iff_eq_none.mp (zz p hp).2.2.2, fun p hp => ?_, z2⟩, r1, r2⟩
    have h3 := (zz p hp).2.2.1
    split at h3
    · rename_i o ho
      rw [← He.emptyTab_eq h3]
      exact ho
    · cases h3
  keeps := fun _ _ _ ⟨K, hK, c⟩ k => ⟨K, PySem.W.Frag.In.keeps hK k, ⟨⟨c.d, c.ck, c.dn, c.hd, c.out, fun p hp => k _ _ (c.empty p hp), c.tk⟩, c.r1, c.r2⟩⟩
end
end Oz

namespace Law
open PySem PySem.Spec L2 Oz
open PyProof.Rows hiding St
def top (i : Nat) : Stmt := PySem.Challenge.pw_notetrail_k41_full_desks.main.body.getD i (.Pass ⟨0, 0, 0, 0⟩)
abbrev st_Desk___init__ : Stmt := inClass (top 16) 0
abbrev st_Desk_evidence : Stmt := inClass (top 16) 10
abbrev st__law_cell : Stmt := top 18
abbrev st_Desk_step : Stmt := inClass (top 16) 1
abbrev st_is_number : Stmt := top 10
abbrev st_is_flag : Stmt := top 11
abbrev st_is_entry : Stmt := top 12
abbrev st_Desk_with_file : Stmt := inClass (top 16) 2
abbrev st_Desk_enter : Stmt := inClass (top 16) 3
abbrev st__law_entered : Stmt := top 20
abbrev st_is_find : Stmt := top 13
abbrev st_entry_numbers : Stmt := top 14
abbrev st_Desk_found : Stmt := inClass (top 16) 4
abbrev st__law_found : Stmt := top 21
abbrev st_law : Stmt := top 22
end Law

namespace Law
open PySem PySem.Spec L2 Oz
open PyProof.Rows hiding St
def d_Desk___init__ : He.DefD := ⟨("Desk", some "__init__"), "__init__", "Desk.__init__", defArgs st_Desk___init__, defBody st_Desk___init__, defScope st_Desk___init__, [], []⟩
def d_Desk_evidence : He.DefD := ⟨("Desk", some "evidence"), "evidence", "Desk.evidence", defArgs st_Desk_evidence, defBody st_Desk_evidence, defScope st_Desk_evidence, [], []⟩
def d__law_cell : He.DefD := ⟨("_law_cell", none), "_law_cell", "_law_cell", defArgs st__law_cell, defBody st__law_cell, defScope st__law_cell, [], []⟩
def d_Desk_step : He.DefD := ⟨("Desk", some "step"), "step", "Desk.step", defArgs st_Desk_step, defBody st_Desk_step, defScope st_Desk_step, [], []⟩
def d_is_number : He.DefD := ⟨("is_number", none), "is_number", "is_number", defArgs st_is_number, defBody st_is_number, defScope st_is_number, [], []⟩
def d_is_flag : He.DefD := ⟨("is_flag", none), "is_flag", "is_flag", defArgs st_is_flag, defBody st_is_flag, defScope st_is_flag, [], []⟩
def d_is_entry : He.DefD := ⟨("is_entry", none), "is_entry", "is_entry", defArgs st_is_entry, defBody st_is_entry, defScope st_is_entry, [], []⟩
def d_Desk_with_file : He.DefD := ⟨("Desk", some "with_file"), "with_file", "Desk.with_file", defArgs st_Desk_with_file, defBody st_Desk_with_file, defScope st_Desk_with_file, [], []⟩
def d_Desk_enter : He.DefD := ⟨("Desk", some "enter"), "enter", "Desk.enter", defArgs st_Desk_enter, defBody st_Desk_enter, defScope st_Desk_enter, [], []⟩
def d__law_entered : He.DefD := ⟨("_law_entered", none), "_law_entered", "_law_entered", defArgs st__law_entered, defBody st__law_entered, defScope st__law_entered, [], []⟩
def d_is_find : He.DefD := ⟨("is_find", none), "is_find", "is_find", defArgs st_is_find, defBody st_is_find, defScope st_is_find, [], []⟩
def d_entry_numbers : He.DefD := ⟨("entry_numbers", none), "entry_numbers", "entry_numbers", defArgs st_entry_numbers, defBody st_entry_numbers, defScope st_entry_numbers, [], []⟩
def d_Desk_found : He.DefD := ⟨("Desk", some "found"), "found", "Desk.found", defArgs st_Desk_found, defBody st_Desk_found, defScope st_Desk_found, [], []⟩
def d__law_found : He.DefD := ⟨("_law_found", none), "_law_found", "_law_found", defArgs st__law_found, defBody st__law_found, defScope st__law_found, [], []⟩
def d_law : He.DefD := ⟨("law", none), "law", "law", defArgs st_law, defBody st_law, defScope st_law, [], []⟩
def fn : List He.DefD := [d_Desk___init__, d_Desk_evidence, d__law_cell, d_Desk_step, d_is_number, d_is_flag, d_is_entry, d_Desk_with_file, d_Desk_enter, d__law_entered, d_is_find, d_entry_numbers, d_Desk_found, d__law_found, d_law]
def ck (K : PySem.W.Frag) : Bool := (He.tupB K "PLAIN_DEEDS" [.str "made", .str "treated"]) && (He.tupB K "COPY_DEEDS" [.str "gave", .str "took"])
theorem ck_0 {K : PySem.W.Frag} (h : ck K = true) : He.tupB K "PLAIN_DEEDS" [.str "made", .str "treated"] = true := by
  unfold ck at h
  simp only [Bool.and_eq_true] at h
  exact h.1
theorem ck_1 {K : PySem.W.Frag} (h : ck K = true) : He.tupB K "COPY_DEEDS" [.str "gave", .str "took"] = true := by
  unfold ck at h
  simp only [Bool.and_eq_true] at h
  exact h.2
abbrev Rw0 : PySem.W.OpenRow := PySem.W.OpenLaw.row PySem.Challenge.rw_notetrail_k41_full_desks
def dn : List (Str × List Str) := []
def tf : List He.Defn := [("Desk", some "enter")]
def xp_Refused : XiPos := ⟨⟨10, 8, 10, 13⟩, ⟨10, 8, 10, 15⟩, ⟨10, 8, 10, 24⟩, ⟨10, 25, 10, 29⟩, ⟨10, 8, 10, 30⟩, ⟨10, 8, 10, 30⟩, ⟨11, 8, 11, 12⟩, ⟨11, 8, 11, 17⟩, ⟨11, 20, 11, 24⟩, ⟨11, 8, 11, 24⟩, ⟨9, 17, 9, 21⟩, ⟨9, 23, 9, 27⟩⟩
def rs : List RfD := [⟨"Refused", xp_Refused⟩]
def fl : Str := (PySem.Challenge.rw_notetrail_k41_full_desks).prog.main.file
def fa : List He.Fa := [.mkr "Desk", .meth "Desk" "evidence", .glo "_law_cell", .meth "Desk" "step", .glo "is_number", .glo "is_flag", .glo "is_entry", .meth "Desk" "with_file", .meth "Desk" "enter", .glo "_law_entered", .glo "is_find", .glo "entry_numbers", .meth "Desk" "found", .glo "_law_found", .glo "law", .cls "Desk", .glo "Desk", .noat "Desk" "kinds", .noat "Desk" "parties", .noat "Desk" "past", .noat "Desk" "done", .noat "Desk" "state", .glo "PLAIN_DEEDS", .glo "COPY_DEEDS", .int "NUMBER_MOST" 1000000000, .int "AMOUNT_MOST" 1000000000000, .int "ROWS_MOST" 200, .free "tuple", .free "len", .free "isinstance", .free "int", .free "bool", .free "str", .free "enumerate", .free "any", .free "range", .free "min", .glo "Refused", .free "super"]
abbrev hk : PySem.W.Hook := Oz.hookE 4 fa fn ck dn tf rs fl
def ob (s : PySem.W.SharedT) : AlE := obsE 4 fa fn ck dn tf rs fl (HandSHeadRun.getT s)
theorem ob_eq (s : PySem.W.SharedT) : ob s = hk.obs s.abs := by
  have e : HandSHeadRun.getT s = s.abs.heap.get? := funext fun a => HandSHeadRun.getT_eq s a
  unfold ob
  rw [e]
  rfl
def loose0 : List Str := ["_wall", "TrailError", "Refused", "ROWS_MOST", "NUMBER_MOST", "AMOUNT_MOST", "PLAIN_DEEDS", "COPY_DEEDS", "is_number", "is_flag", "is_entry", "is_find", "entry_numbers", "Desk", "_law_cell", "_law_draws", "_law_entered", "_law_found"]
def loose : List Str := loose0
theorem run (w : World) : HandSHeadRun.RunEq Rw0 (PySem.W.view Rw0.prog [22]) hk ob 3000 loose w := by
  intro os
  kernel_rfl
end Law

namespace Oz
open PySem PySem.Spec L2
open PyProof.Rows hiding St
variable [WD]

structure Rel (K : PySem.W.Frag) (Z O H : Hp) (σ : St) (ρ : Ev) (F : List Addr) : Prop where
  g : Good Z O H
  nd : F.Nodup
  fo : ∀ a ∈ F, O a = none
  sl : Slots K Z O H σ ρ F
  tb : Tabs K H
section
variable {K : PySem.W.Frag} {Z O H Z' O' H' : Hp} {σ : St} {ρ : Ev} {F : List Addr}
theorem Rel.ext (r : Rel K Z O H σ ρ F) (e : Ext [] Z O H Z' O' H') (g : Good Z' O' H') : Rel K Z' O' H' σ ρ F :=
  ⟨g, r.nd, (fun a h => by
    obtain ⟨o, q, _⟩ := r.sl.live a h
    cases w : O' a with
    | none => rfl
    | some x =>
      rcases e.on a (by rw [w]; simp) with z | z | z
      · exact absurd (r.fo a h) z
      · rw [q] at z; cases z
      · cases z), r.sl.ext e, r.tb.ext e.h⟩
end
theorem Rel.updT {K : PySem.W.Frag} {Z O H : Hp} {σ : St} {ρ : Ev} {F : List Addr} (r : Rel K Z O H σ ρ F) {a : Addr} (ha : a ∈ F) (o : HO) : Tabs K (upd H a o) := fun P hP =>
  upd_tab (r.sl.nsy a ha) (r.tb P hP)
/-- an exception of the class c with its attributes -/
def ExcK (K : PySem.W.Frag) (E : XK) (Z O H : Hp) (c : Str) (fs : List (Str × D)) : Prop :=
  ∀ (H' Z' O' : Hp) (d : Addr) (xs : List (Str × V)), Ext [] Z O H Z' O' H' → Good Z' O' H' → H' d = some (.xd xs) → xs.map (·.1) = fs.map (·.1) → Reps K Z' (xs.map (·.2)) (fs.map (·.2)) → E (.ref (He.ga K c)) (some d) H'
/-- a result; W: the temporary things that may be in it -/
def OkK (K : PySem.W.Frag) (W : List Addr) (Z O H : Hp) (r : R) (Q : VK) : Prop :=
  ∀ v H' Z' O' G, Ext W Z O H Z' O' H' → Good Z' O' H' → RepR K Z' O' H' v r G → G.Nodup → (∀ a ∈ G, (H a = none ∨ a ∈ W) ∧ O' a = none) → Q v H'
def ResK (K : PySem.W.Frag) (E : XK) (W : List Addr) (Z O H : Hp) (r : Res R) (Q : VK) : Prop := match r with
  | .bad => False
  | .ok r => OkK K W Z O H r Q
  | .exc c fs => ExcK K E Z O H c fs
section
variable {K : PySem.W.Frag} {E : XK} {Z O H Z1 O1 H1 : Hp} {Q : VK} {W : List Addr}
theorem OkK.ext {r : R} (h : OkK K [] Z O H r Q) (e : Ext [] Z O H Z1 O1 H1) (w : ∀ a ∈ W, H a = none) : OkK K W Z1 O1 H1 r Q := fun v H' Z' O' G e' g' q nd f =>
  h v H' Z' O' G (e.trans e' fun c hc => .inl (w c hc)) g' q nd fun a ha => ⟨.inl ((f a ha).1.elim (fun z => e.h.free z) (w a)), (f a ha).2⟩
theorem ExcK.ext {c : Str} {fs : List (Str × D)} (h : ExcK K E Z O H c fs) (e : Ext [] Z O H Z1 O1 H1) : ExcK K E Z1 O1 H1 c fs := fun H' Z' O' d xs e' g' q a b =>
  h H' Z' O' d xs (e.trans0 e') g' q a b
theorem ResK.ext {r : Res R} (h : ResK K E [] Z O H r Q) (e : Ext [] Z O H Z1 O1 H1) (w : ∀ a ∈ W, H a = none) : ResK K E W Z1 O1 H1 r Q := by
  cases r with
  | bad => exact h
  | ok r => exact OkK.ext h e w
  | exc c fs => exact ExcK.ext h e
end

/-! ### the readings -/
def tP (K : PySem.W.Frag) (E : XK) (p : Px) : TE := fun σ H Q => ∃ Z O ρ F, Rel K Z O H σ ρ F ∧ ResK K E [] Z O H (p ρ) Q
def tT (K : PySem.W.Frag) (E : XK) (t : Tx) : TT := fun σ H Q => ∃ Z O ρ F, Rel K Z O H σ ρ F ∧ match t ρ with
  | .bad => False
  | .ok b => ∀ H' Z' O', Ext [] Z O H Z' O' H' → Good Z' O' H' → Q b H'
  | .exc c fs => ExcK K E Z O H c fs
inductive RepRs (K : PySem.W.Frag) (Z O H : Hp) : List V → List R → List Addr → Prop
  | nil : RepRs K Z O H [] [] []
  | cons {v : V} {vs : List V} {r : R} {rs : List R} {F G : List Addr} : RepR K Z O H v r F → RepRs K Z O H vs rs G → RepRs K Z O H (v :: vs) (r :: rs) (F ++ G)
def evs : List Px → Ev → Res (List R)
  | [], _ => .ok []
  | p :: ps, ρ => (p ρ).bind fun r => (evs ps ρ).bind fun rs => .ok (r :: rs)
def OksK (K : PySem.W.Frag) (Z O H : Hp) (rs : List R) (Q : List V → Hp → Prop) : Prop :=
  ∀ vs H' Z' O' G, Ext [] Z O H Z' O' H' → Good Z' O' H' → RepRs K Z' O' H' vs rs G → G.Nodup → (∀ a ∈ G, H a = none ∧ O' a = none) → Q vs H'
def tA (K : PySem.W.Frag) (E : XK) (ps : List Px) : TA := fun σ H Q => ∃ Z O ρ F, Rel K Z O H σ ρ F ∧ match evs ps ρ with
  | .bad => False
  | .ok rs => OksK K Z O H rs Q
  | .exc c fs => ExcK K E Z O H c fs
section
variable {X : Cx}
theorem _root_.L2.PE.imp {e : Expr} {t t' : TE} (h : PE X e t) (i : ∀ σ H Q, t' σ H Q → t σ H Q) : PE X e t' := ⟨fun pins s σ H Q I q => h.run pins s σ H Q I (i σ H Q q)⟩
theorem _root_.L2.PT.imp {e : Expr} {t t' : TT} (h : PT X e t) (i : ∀ σ H Q, t' σ H Q → t σ H Q) : PT X e t' := ⟨fun pins s σ H Q I q => h.run pins s σ H Q I (i σ H Q q)⟩
theorem _root_.L2.PW.imp {e : Expr} {t t' : TT} (h : PW X e t) (i : ∀ σ H Q, t' σ H Q → t σ H Q) : PW X e t' := ⟨fun w pins s σ H Q I q => h.run w pins s σ H Q I (i σ H Q q)⟩
theorem _root_.L2.PA.imp {es : List Expr} {t t' : TA} (h : PA X es t) (i : ∀ σ H Q, t' σ H Q → t σ H Q) : PA X es t' := ⟨fun pos pins s σ H Q I q => h.run pos pins s σ H Q I (i σ H Q q)⟩
theorem _root_.L2.PS.imp {st : Stmt} {t t' : TS} (h : PS X st t) (i : ∀ D σ H, t' D σ H → t D σ H) : PS X st t' := ⟨fun pins s σ H D I q => h.run pins s σ H D I (i D σ H q)⟩
theorem _root_.L2.PSs.imp {st : List Stmt} {t t' : TS} (h : PSs X st t) (i : ∀ D σ H, t' D σ H → t D σ H) : PSs X st t' := ⟨fun pins s σ H D I q => h.run pins s σ H D I (i D σ H q)⟩
end
section
variable {K : PySem.W.Frag} {Z O H Z' O' H' : Hp}
theorem RepRs.ext {W : List Addr} (e : Ext W Z O H Z' O' H') : ∀ {vs : List V} {rs : List R} {F : List Addr}, RepRs K Z O H vs rs F → RepRs K Z' O' H' vs rs F
  | _, _, _, .nil => .nil
  | _, _, _, .cons r s => .cons (r.ext e) (RepRs.ext e s)
theorem RepRs.live : ∀ {vs : List V} {rs : List R} {F : List Addr}, RepRs K Z O H vs rs F → ∀ a ∈ F, ∃ o, H a = some o ∧ fzn o = false
  | _, _, _, .nil, _, h => by cases h
  | _, _, _, .cons r s, a, h => (List.mem_append.mp h).elim (r.live a) (s.live a)
theorem RepRs.length : ∀ {vs : List V} {rs : List R} {F : List Addr}, RepRs K Z O H vs rs F → vs.length = rs.length
  | _, _, _, .nil => rfl
  | _, _, _, .cons _ s => congrArg (· + 1) s.length
theorem RepRs.look (g : Good Z O H) : ∀ {vs : List V} {rs : List R} {F : List Addr}, RepRs K Z O H vs rs F → Reps K H vs (rs.map (·.d))
  | _, _, _, .nil => .nil
  | _, _, _, .cons r s => .cons (r.look g) (RepRs.look g s)
/-- new cells beside live ones -/
theorem nodup_fresh {F G : List Addr} (nF : F.Nodup) (nG : G.Nodup) (lv : ∀ a ∈ F, ∃ o, H a = some o) (fr : ∀ a ∈ G, H a = none) : (F ++ G).Nodup := by
  rw [List.nodup_append]
  refine ⟨nF, nG, fun a ha b hb e => ?_⟩
  subst e
  obtain ⟨o, h⟩ := lv a ha
  rw [fr a hb] at h
  cases h
end

/-! ### names, constants -/
def vw (r : R) : R := if lf r.d then ⟨.imm, r.d⟩ else match r.s with
  | .own => ⟨.view, r.d⟩
  | .brw => ⟨.view, r.d⟩
  | s => ⟨s, r.d⟩
theorem RepR.vw {K : PySem.W.Frag} {Z O H : Hp} {v : V} {r : R} {F : List Addr} (g : Good Z O H) (h : RepR K Z O H v r F) : RepR K Z O H v (Oz.vw r) [] := by
  have lk := h.look g
  unfold Oz.vw
  split
  · exact ⟨lk.up g.tz ‹_›, rfl⟩
  · obtain ⟨s, d⟩ := r
    cases s with
    | imm => exact ⟨h.1, rfl⟩
    | out => exact ⟨h.1, rfl⟩
    | view => exact ⟨h.1, rfl⟩
    | own => exact ⟨lk, rfl⟩
    | brw => exact ⟨lk, rfl⟩
    | tab => exact (show False from h).elim
def pVar (i : Nat) : Px := fun ρ => match ρ[i]? with
  | some (some ⟨.tab, _⟩) => .bad
  | some (some r) => .ok (vw r)
  | _ => .bad
def pC (d : D) : Px := fun _ => .ok ⟨.imm, d⟩
section
variable {X : Cx} {E : XK}
theorem s_var (i : Nat) {x : Str} {pos : Pos} (hN : X.N[i]? = some x := by rfl) (hv : Vis X.env.scope x := by first | exact Or.inl rfl | exact Or.inr (Or.inl rfl) | exact Or.inr (Or.inr rfl)) (hd : (x == ("__debug__" : Str)) = false := by decide)
    (hcd : (x == ("__classdict__" : Str)) = false := by decide) : PE X (.Name x pos) (tP X.K E (pVar i)) := by
  refine (pe_var hN hv hd hcd).imp fun σ H Q ⟨Z, O, ρ, F, r, q⟩ => ?_
  unfold pVar at q
  cases e : ρ[i]? with
  | none => rw [e] at q; exact q.elim
  | some y =>
    cases y with
    | none => rw [e] at q; exact q.elim
    | some y =>
      rw [e] at q
      obtain ⟨v, h1, G, h2⟩ := r.sl.get e
      have ht : y.s ≠ .tab := fun z => by
        obtain ⟨s, d⟩ := y
        cases z
        exact q.elim
      have q2 : OkK X.K [] Z O H (vw y) Q := by
        obtain ⟨s, d⟩ := y
        cases s <;> first | exact q | exact absurd rfl ht
      exact ⟨v, h1, q2 v H Z O [] (Ext.refl _ _ _ _) r.g ((h2.rep ht).vw r.g) List.nodup_nil fun a ha => by cases ha⟩
theorem okC {K : PySem.W.Frag} {d : D} {v : V} {σ : St} {H : Hp} {Q : VK} (rep : ∀ C, Rep K C v d) (h : tP K E (pC d) σ H Q) : Q v H := by
  obtain ⟨Z, O, ρ, F, r, q⟩ := h
  exact q v H Z O [] (Ext.refl _ _ _ _) r.g ⟨rep Z, rfl⟩ List.nodup_nil fun a ha => by cases ha
theorem s_int {i j pos} : PE X (.Constant (.int i) j pos) (tP X.K E (pC (.int i))) := pe_int.imp fun σ H Q h => okC (fun _ => .int i) h
theorem s_bl {b j pos} : PE X (.Constant (.bool b) j pos) (tP X.K E (pC (.bool b))) := pe_bl.imp fun σ H Q h => okC (fun _ => .bl b) h
theorem s_non {j pos} : PE X (.Constant .none j pos) (tP X.K E (pC .none)) := pe_non.imp fun σ H Q h => okC (fun _ => .non) h
theorem s_str {x j pos} : PE X (.Constant (.str x) j pos) (tP X.K E (pC (.str x))) := pe_str.imp fun σ H Q h => okC (fun _ => .str x) h
/-- a constant of the module: an int, a tuple of such -/
theorem s_glob {x : Str} {v : V} {u : Value} {d : D} {pos : Pos} (hg : Gl X x) (hm : X.mg x = some u) (r : RelV v u) (rep : ∀ C, Rep X.K C v d) (hd : (x == ("__debug__" : Str)) = false := by decide) : PE X (.Name x pos) (tP X.K E (pC d)) :=
  (pe_glob hg hm r hd).imp fun σ H Q h => okC rep h
end

/-! ### two in a row -/
def Op2 (K : PySem.W.Frag) (T : R2) (f : R → R → Res R) : Prop := ∀ (E : XK) (Z O H : Hp) (x y : V) (a b : R) (F G : List Addr) (Q : VK), Good Z O H → RepR K Z O H x a F → RepR K Z O H y b G → (F ++ G).Nodup → (∀ c ∈ F ++ G, O c = none) →
  ResK K E (F ++ G) Z O H (f a b) Q → T x y H Q
def p2 (f : R → R → Res R) (p q : Px) : Px := fun ρ => (p ρ).bind fun a => (q ρ).bind fun b => f a b
section
variable {K : PySem.W.Frag} {E : XK} {p q : Px}
/-- a first one, then the rest -/
theorem tP_bind {k : R → Ev → Res R} {σ : St} {H : Hp} {Q : VK} (h : tP K E (fun ρ => (p ρ).bind fun a => k a ρ) σ H Q) {T : V → Hp → Prop}
    (next : ∀ (Z O H1 Z1 O1 : Hp) (ρ : Ev) (F G : List Addr) (v : V) (a : R), Rel K Z O H σ ρ F → Ext [] Z O H Z1 O1 H1 → Rel K Z1 O1 H1 σ ρ F → RepR K Z1 O1 H1 v a G → G.Nodup → (∀ c ∈ G, H c = none ∧ O1 c = none) → ResK K E [] Z O H (k a ρ) Q → T v H1) :
    tP K E p σ H T := by
  obtain ⟨Z, O, ρ, F, r, h⟩ := h
  refine ⟨Z, O, ρ, F, r, ?_⟩
  have h2 : ResK K E [] Z O H ((p ρ).bind fun a => k a ρ) Q := h
  cases e : p ρ with
  | bad => rw [e] at h2; exact h2.elim
  | exc c fs => rw [e] at h2; exact h2
  | ok a =>
    rw [e] at h2
    intro v H1 Z1 O1 G x1 g1 r1 nd f
    exact next Z O H1 Z1 O1 ρ F G v a r x1 (r.ext x1 g1) r1 nd (fun c hc => ⟨(f c hc).1.elim id (fun z => by cases z), (f c hc).2⟩) h2
theorem tP_op2 {T : R2} {f : R → R → Res R} (hf : Op2 K T f) {σ : St} {H : Hp} {Q : VK} (h : tP K E (p2 f p q) σ H Q) : tOp T (tP K E p) (tP K E q) σ H Q := by
  refine tP_bind (k := fun a ρ => (q ρ).bind fun b => f a b) h fun Z O H1 Z1 O1 ρ F G v a r x1 r1 q1 nd fr h2 => ?_
  refine ⟨Z1, O1, ρ, F, r1, ?_⟩
  cases e : q ρ with
  | bad => rw [e] at h2; exact h2.elim
  | exc c fs => rw [e] at h2; exact ExcK.ext h2 x1
  | ok b =>
    rw [e] at h2
    intro w H2 Z2 O2 G2 x2 g2 q2 nd2 fr2
    have h3 : ResK K E [] Z O H (f a b) Q := h2
    have n12 : (G ++ G2).Nodup := nodup_fresh nd nd2 (fun c hc => let ⟨o, z, _⟩ := q1.live c hc; ⟨o, z⟩) (fun c hc => (fr2 c hc).1.elim id fun z => by cases z)
    refine hf E Z2 O2 H2 v w a b G G2 Q g2 (q1.ext x2) q2 n12 (fun c hc => ?_) (h3.ext (x1.trans0 x2) fun c hc => ?_)
    · rcases List.mem_append.mp hc with hc | hc
      · cases z : O2 c with
        | none => rfl
        | some o =>
          obtain ⟨o1, w1, _⟩ := q1.live c hc
          rcases x2.on c (by rw [z]; simp) with y | y | y
          · exact absurd (fr c hc).2 y
          · rw [w1] at y; cases y
          · cases y
      · exact (fr2 c hc).2
    · rcases List.mem_append.mp hc with hc | hc
      · exact (fr c hc).1
      · exact x1.h.free ((fr2 c hc).1.elim id fun z => by cases z)
end
section
variable {X : Cx} {E : XK} {a b : Expr} {p q : Px} {pos : Pos}
theorem s_op {op : Operator} {T : R2} {f : R → R → Res R} (ho : OpR X (binaryOp op) T) (hf : Op2 X.K T f) (ha : PE X a (tP X.K E p)) (hb : PE X b (tP X.K E q)) : PE X (.BinOp a op b pos) (tP X.K E (p2 f p q)) :=
  (pe_op ho ha hb).imp fun σ H Q h => tP_op2 hf h
theorem s_cmp {op : CmpOp} {T : R2} {f : R → R → Res R} (ho : OpR X (compareOp op) T) (hf : Op2 X.K T f) (ha : PE X a (tP X.K E p)) (hb : PE X b (tP X.K E q)) (hm : behindInMarks op b = false) : PE X (.Compare a [op] [b] pos) (tP X.K E (p2 f p q)) :=
  (pe_cmpR ho ha hb hm).imp fun σ H Q h => tP_op2 hf h
theorem s_ix {T : R2} {f : R → R → Res R} (ho : IxR X T) (hf : Op2 X.K T f) (ha : PE X a (tP X.K E p)) (hb : PE X b (tP X.K E q)) (hs : PlainIx b := by exact fun _ _ => rfl) : PE X (.Subscript a b pos) (tP X.K E (p2 f p q)) :=
  (pe_ix ho ha hb hs).imp fun σ H Q h => tP_op2 hf h
/-- a bool as a test -/
def tVal (p : Px) : Tx := fun ρ => (p ρ).bind fun r => match r.d with
  | .bool b => .ok b
  | _ => .bad
theorem tT_val {K : PySem.W.Frag} {σ : St} {H : Hp} {Q : Bool → Hp → Prop} (h : tT K E (tVal p) σ H Q) : tP K E p σ H fun x H' => ∃ k, x = .bl k ∧ Q k H' := by
  obtain ⟨Z, O, ρ, F, r, h⟩ := h
  refine ⟨Z, O, ρ, F, r, ?_⟩
  unfold tVal at h
  cases e : p ρ with
  | bad => rw [e] at h; exact h.elim
  | exc c fs => rw [e] at h; exact h
  | ok a =>
    rw [e] at h
    obtain ⟨s, d⟩ := a
    cases d with
    | bool k =>
      intro v H' Z' O' G x g q nd f
      have lk := q.look g
      cases lk
      exact ⟨k, rfl, h H' Z' O' x g⟩
    | _ => exact h.elim
theorem s_tcmp {op : CmpOp} {T : R2} {f : R → R → Res R} (ho : OpR X (compareOp op) T) (hf : Op2 X.K T f) (ha : PE X a (tP X.K E p)) (hb : PE X b (tP X.K E q)) (hm : behindInMarks op b = false) : PT X (.Compare a [op] [b] pos) (tT X.K E (tVal (p2 f p q))) :=
  (pt_cmpR ho ha hb hm).imp fun σ H Q h => tP_op2 hf (tT_val h)
/-- truth -/
def truth : D → Option Bool
  | .none => some false
  | .bool b => some b
  | .int i => some (i != 0)
  | .str x => if x.length ≤ sizeLine then some ((x.length : Int) != 0) else none
  | .list xs => some (!xs.isEmpty)
  | .tuple xs => some (!xs.isEmpty)
  | .dict [] => some false
  | .dict ((.int _, _) :: _) => some true
  | .dict ((.str _, _) :: _) => some true
  | .dict _ => none
def tTru (p : Px) : Tx := fun ρ => (p ρ).bind fun r => match truth r.d with
  | some b => .ok b
  | none => .bad
theorem Reps.isEmpty {K : PySem.W.Frag} {C : Hp} {vs : List V} {ds : List D} (h : Reps K C vs ds) : (!vs.isEmpty) = !ds.isEmpty := by
  cases h <;> rfl
theorem truth_ok {K : PySem.W.Frag} {H : Hp} {v : V} {d : D} {b : Bool} (h : Rep K H v d) (e : truth d = some b) : TruV K v H b := by
  cases h with
  | non => exact (Option.some.inj e).symm
  | bl _ => exact (Option.some.inj e).symm
  | int _ => exact (Option.some.inj e).symm
  | str x =>
    have e2 : (if x.length ≤ sizeLine then some ((x.length : Int) != 0) else none) = some b := e
    by_cases h : x.length ≤ sizeLine
    · rw [if_pos h] at e2
      exact ⟨h, (Option.some.inj e2).symm⟩
    · rw [if_neg h] at e2
      cases e2
  | lst h r => exact .inl ⟨_, .inl (.inl h), by rw [r.isEmpty]; exact (Option.some.inj e).symm⟩
  | scr h r => cases e
  | ptr a => cases e
  | tup h r => exact .inr (.inl ⟨_, h, by rw [r.isEmpty]; exact (Option.some.inj e).symm⟩)
  | dct h k r =>
    rename_i a kvs es
    refine .inr (.inr ⟨_, h, ?_⟩)
    cases kvs with
    | nil =>
      cases es with
      | nil => exact (Option.some.inj e).symm
      | cons x xs => simp at k
    | cons y ys =>
      cases es with
      | nil => simp at k
      | cons x xs =>
        obtain ⟨k1, k2⟩ := x
        simp only [List.map_cons, List.cons.injEq] at k
        obtain ⟨k0, _⟩ := k
        obtain ⟨y1, y2⟩ := y
        subst k0
        cases y1 with
        | inl i => exact (Option.some.inj e).symm
        | inr x => exact (Option.some.inj e).symm
  | obj h c k r => cases e
theorem s_tru (ha : PE X a (tP X.K E p)) (he : ∀ whole, isTrue a X.env whole = (do let v ← whole; standAt a.pos; holding [v] (truthy v)) := by exact fun _ => rfl) : PT X a (tT X.K E (tTru p)) := by
  refine (pt_truth ha he).imp fun σ H Q h => ?_
  obtain ⟨Z, O, ρ, F, r, h⟩ := h
  refine ⟨Z, O, ρ, F, r, ?_⟩
  unfold tTru at h
  cases e : p ρ with
  | bad => rw [e] at h; exact h.elim
  | exc c fs => rw [e] at h; exact h
  | ok a =>
    rw [e] at h
    intro v H' Z' O' G x g q nd f
    have h2 : (match (match truth a.d with | some b => (Res.ok b : Res Bool) | none => .bad) with
      | .bad => False
      | .ok b => ∀ H' Z' O', Ext [] Z O H Z' O' H' → Good Z' O' H' → Q b H'
      | .exc c fs => ExcK X.K E Z O H c fs) := h
    cases z : truth a.d with
    | none => rw [z] at h2; exact h2.elim
    | some b =>
      rw [z] at h2
      exact ⟨b, truth_ok (q.look g) z, h2 H' Z' O' x g⟩
end
end Oz

namespace Oz
open PySem PySem.Spec L2
open PyProof.Rows hiding St
variable [WD]

/-! ### operations whose result is a plain value -/
def at2 (f : D → D → Option D) (a b : R) : Res R := match f a.d b.d with
  | some d => .ok ⟨.imm, d⟩
  | none => .bad
section
variable {K : PySem.W.Frag} {E : XK} {Z O H : Hp} {Q : VK} {W : List Addr}
theorem OkK.imm {d : D} (g : Good Z O H) (h : OkK K W Z O H ⟨.imm, d⟩ Q) {v : V} (r : Rep K Z v d) : Q v H := h v H Z O [] (Ext.refl _ _ _ _) g ⟨r, rfl⟩ List.nodup_nil fun a ha => by cases ha
theorem op2_at {T : R2} {f : D → D → Option D} (h : ∀ (H : Hp) (x y : V) (a b d : D) (Q : VK), Rep K H x a → Rep K H y b → f a b = some d → (∀ v, (∀ C, Rep K C v d) → Q v H) → T x y H Q) : Op2 K T (at2 f) := by
  intro E Z O H x y a b F G Q g ra rb nd fo q
  unfold at2 at q
  cases e : f a.d b.d with
  | none => rw [e] at q; exact q.elim
  | some d =>
    rw [e] at q
    exact h H x y a.d b.d d Q (ra.look g) (rb.look g) e fun v r => OkK.imm g q (r Z)
end
def i2 (f : Int → Int → Option D) : D → D → Option D := fun a b => match a, b with
  | .int i, .int j => f i j
  | _, _ => none
theorem i2_some {f : Int → Int → Option D} {a b d : D} (h : i2 f a b = some d) : ∃ i j, a = .int i ∧ b = .int j ∧ f i j = some d := by
  cases a with
  | int i => cases b with
    | int j => exact ⟨i, j, rfl, rfl, h⟩
    | _ => cases h
  | _ => cases h
abbrev fSub := i2 fun i j => some (.int (i - j))
noncomputable abbrev fMul := i2 fun i j => if gd (decide ((-(2 ^ 64) < i ∧ i < 2 ^ 64) ∨ (-(2 ^ 64) < j ∧ j < 2 ^ 64))) = true then some (.int (i * j)) else none
noncomputable abbrev fMod := i2 fun i j => if gd (decide (0 < j)) = true then some (.int (i % j)) else none
abbrev fLt := i2 fun i j => some (.bool (decide (i < j)))
abbrev fLe := i2 fun i j => some (.bool (decide (i ≤ j)))
abbrev fGe := i2 fun i j => some (.bool (decide (j ≤ i)))
section
variable {K : PySem.W.Frag}
theorem op2_i {C : Int → Int → Prop} {g : Int → Int → V} {f : Int → Int → Option D} (h : ∀ i j d, f i j = some d → C i j ∧ ∀ X, Rep K X (g i j) d) : Op2 K (rI C g) (at2 (i2 f)) :=
  op2_at fun H x y a b d Q ra rb e q => by
    obtain ⟨i, j, rfl, rfl, e2⟩ := i2_some e
    cases ra
    cases rb
    obtain ⟨h1, h2⟩ := h i j d e2
    exact ⟨i, j, rfl, rfl, h1, q _ h2⟩
theorem op2_i0 {g : Int → Int → V} {f : Int → Int → Option D} (h : ∀ i j d, f i j = some d → ∀ X, Rep K X (g i j) d) : Op2 K (rI0 g) (at2 (i2 f)) :=
  op2_at fun H x y a b d Q ra rb e q => by
    obtain ⟨i, j, rfl, rfl, e2⟩ := i2_some e
    cases ra
    cases rb
    exact ⟨i, j, rfl, rfl, q _ (h i j d e2)⟩
theorem ite_some {c : Prop} [Decidable c] {x y : D} (h : (if c then some x else none) = some y) : c ∧ x = y := by
  by_cases e : c
  · rw [if_pos e] at h; exact ⟨e, Option.some.inj h⟩
  · rw [if_neg e] at h; cases h
theorem o_sub : Op2 K (rI0 fun i j => .int (i - j)) (at2 fSub) := op2_i0 fun i j d e X => Option.some.inj e ▸ .int _
theorem o_mul : Op2 K (rI CMul fun i j => .int (i * j)) (at2 fMul) := op2_i fun i j d e => ⟨by have h := gd_el (ite_some e).1; simpa [CMul, CDiv, CPow] using h, fun X => (ite_some e).2 ▸ .int _⟩
theorem o_mod : Op2 K (rI (fun _ j => 0 < j) fun i j => .int (i % j)) (at2 fMod) := op2_i fun i j d e => ⟨by have h := gd_el (ite_some e).1; simpa [CMul, CDiv, CPow] using h, fun X => (ite_some e).2 ▸ .int _⟩
theorem o_lt : Op2 K (rI0 fun i j => .bl (decide (i < j))) (at2 fLt) := op2_i0 fun i j d e X => Option.some.inj e ▸ .bl _
theorem o_le : Op2 K (rI0 fun i j => .bl (decide (i ≤ j))) (at2 fLe) := op2_i0 fun i j d e X => Option.some.inj e ▸ .bl _
theorem o_ge : Op2 K (rI0 fun i j => .bl (decide (j ≤ i))) (at2 fGe) := op2_i0 fun i j d e X => Option.some.inj e ▸ .bl _
end

/-! ### new things -/
section
variable {K : PySem.W.Frag} {E : XK} {Z O H : Hp} {Q : VK} {W : List Addr}
/-- a new tuple of lasting things -/
theorem OkK.tup {ds : List D} {vs : List V} (g : Good Z O H) (h : OkK K W Z O H ⟨.imm, .tuple ds⟩ Q) (r : Reps K Z vs ds) {p : Addr} (np : H p = none) : Q (.ref p) (upd H p (.tup vs)) := by
  obtain ⟨e, g'⟩ := ext_frz (o := .tup vs) g np
  exact h _ _ _ _ [] (e.mono fun _ z => by cases z) g' ⟨.tup (.inl (.inl upd_same)) (r.mono e.z), rfl⟩ List.nodup_nil fun a ha => by cases ha
/-- a new list of lasting things, that lasts -/
theorem OkK.lstF {ds : List D} {vs : List V} (g : Good Z O H) (h : OkK K W Z O H ⟨.imm, .list ds⟩ Q) (r : Reps K Z vs ds) {p : Addr} (np : H p = none) : Q (.ref p) (upd H p (.lst vs)) := by
  obtain ⟨e, g'⟩ := ext_frz (o := .lst vs) g np
  exact h _ _ _ _ [] (e.mono fun _ z => by cases z) g' ⟨.lst upd_same (r.mono e.z), rfl⟩ List.nodup_nil fun a ha => by cases ha
/-- a new list of one's own, its items' cells at G -/
theorem OkK.lstO {ds : List D} {vs : List V} {G : List Addr} (g : Good Z O H) (h : OkK K W Z O H ⟨.own, .list ds⟩ Q) (r : Owns K Z H vs ds G) (nd : G.Nodup) (gw : ∀ a ∈ G, (H a = none ∨ a ∈ W) ∧ O a = none) {p : Addr} (np : H p = none) : Q (.ref p) (upd H p (.lst vs)) := by
  obtain ⟨e, g'⟩ := ext_new (o := .lst vs) g np rfl
  have pG : p ∉ G := fun z => by
    obtain ⟨o, q, _⟩ := r.live p z
    rw [np] at q
    cases q
  refine h _ _ _ _ (p :: G) (e.mono fun _ z => by cases z) g' (.lst upd_same (Owns.mono (Same.refl _) (fun a _ o q n => e.h.s a o q n) r)) (List.nodup_cons.mpr ⟨pG, nd⟩) fun a ha => ?_
  rcases List.mem_cons.mp ha with z | z
  · rw [z]; exact ⟨.inl np, none_of g.oh np⟩
  · exact gw a z
/-- all lists are one's own or lasting -/
def dnew (s : Sx) (ds : List D) : Res R := if lfs ds = true then .ok ⟨.own, .list ds⟩ else if s = .imm then .ok ⟨.imm, .list ds⟩ else .bad
theorem lfs_val : ∀ {ds : List D}, lfs ds = true → ds.all isVal = true
  | [], _ => rfl
  | x :: xs, h => by
    have q : (_ && _) = true := h
    obtain ⟨q1, q2⟩ := Bool.and_eq_true_iff.mp q
    rw [List.all_cons, lf_val q1, lfs_val q2]
    rfl
theorem lfs_append : ∀ (xs ys : List D), lfs (xs ++ ys) = (lfs xs && lfs ys)
  | [], ys => by simp [lfs]
  | x :: xs, ys => by simp only [List.cons_append, lfs, lfs_append xs ys, Bool.and_assoc]
theorem Reps.upD {vs : List V} {ds : List D} (g : Good Z O H) (r : Reps K H vs ds) (l : lfs ds = true) : Reps K Z vs ds := r.up g.tz l
theorem dnew_ok {s : Sx} {ds : List D} {vs : List V} (g : Good Z O H) (q : ResK K E W Z O H (dnew s ds) Q) (r : Reps K H vs ds) (rz : s = .imm → Reps K Z vs ds) {p : Addr} (np : H p = none) : Q (.ref p) (upd H p (.lst vs)) := by
  unfold dnew at q
  by_cases l : lfs ds = true
  · rw [if_pos l] at q
    exact OkK.lstO g q (.of_reps (r.upD g l) (lfs_val l)) List.nodup_nil (fun a ha => by cases ha) np
  · rw [if_neg l] at q
    by_cases e : s = .imm
    · rw [if_pos e] at q
      exact OkK.lstF g q (rz e) np
    · rw [if_neg e] at q
      exact q.elim
def tnew (s : Sx) (ds : List D) : Res R := if lfs ds = true ∨ s = .imm then .ok ⟨.imm, .tuple ds⟩ else .bad
theorem tnew_z {s : Sx} {ds : List D} {vs : List V} (g : Good Z O H) (q : ResK K E W Z O H (tnew s ds) Q) (r : Reps K H vs ds) (rz : s = .imm → Reps K Z vs ds) : Reps K Z vs ds ∧ OkK K W Z O H ⟨.imm, .tuple ds⟩ Q := by
  unfold tnew at q
  by_cases l : lfs ds = true ∨ s = .imm
  · rw [if_pos l] at q
    exact ⟨l.elim (fun l => r.upD g l) rz, q⟩
  · rw [if_neg l] at q
    exact q.elim
theorem tnew_ok {s : Sx} {ds : List D} {vs : List V} (g : Good Z O H) (q : ResK K E W Z O H (tnew s ds) Q) (r : Reps K H vs ds) (rz : s = .imm → Reps K Z vs ds) {p : Addr} (np : H p = none) : Q (.ref p) (upd H p (.tup vs)) := by
  obtain ⟨h1, h2⟩ := tnew_z g q r rz
  exact OkK.tup g h2 h1 np
/-- the place of two -/
def both (s t : Sx) : Sx := if s = .imm ∧ t = .imm then .imm else .view
theorem both_imm {s t : Sx} (h : both s t = .imm) : s = .imm ∧ t = .imm := by
  unfold both at h
  by_cases e : s = .imm ∧ t = .imm
  · exact e
  · rw [if_neg e] at h; cases h
end

/-! ### + -/
def addR (a b : R) : Res R := match a.d, b.d with
  | .int i, .int j => .ok ⟨.imm, .int (i + j)⟩
  | .str x, .str y => if x.length + y.length ≤ sizeLine then .ok ⟨.imm, .str (x ++ y)⟩ else .bad
  | .list xs, .list ys => if xs.length + ys.length ≤ sizeLine then dnew (both a.s b.s) (xs ++ ys) else .bad
  | .tuple xs, .tuple ys => if xs.length + ys.length ≤ sizeLine then tnew (both a.s b.s) (xs ++ ys) else .bad
  | _, _ => .bad
def rAdd4 (K : PySem.W.Frag) : R2 := fun x y H Q => rI0 (fun i j => .int (i + j)) x y H Q ∨ (∃ i j, x = .str i ∧ y = .str j ∧ i.length + j.length ≤ sizeLine ∧ Q (.str (i ++ j)) H) ∨ rCat x y H Q ∨ rCatA K x y H Q
theorem op_add4 {X : Cx} : OpR X (binaryOp .Add) (rAdd4 X.K) := OpR.or op_add (OpR.or op_add_str (OpR.or op_cat op_catA))
section
variable {K : PySem.W.Frag} {Z O H : Hp}
theorem RepR.zlist {v : V} {s : Sx} {ds : List D} {F : List Addr} (h : RepR K Z O H v ⟨s, .list ds⟩ F) (e : s = .imm) : ∃ p vs, v = .ref p ∧ Z p = some (.lst vs) ∧ Reps K Z vs ds := by
  subst e
  obtain ⟨h, _⟩ := h
  have h1 : Rep K Z v (.list ds) := h
  cases h1 with
  | lst hz r => exact ⟨_, _, rfl, hz, r⟩
theorem RepR.ztup {v : V} {s : Sx} {ds : List D} {F : List Addr} (h : RepR K Z O H v ⟨s, .tuple ds⟩ F) (e : s = .imm) : ∃ p vs, v = .ref p ∧ SqT K Z p vs ∧ Reps K Z vs ds := by
  subst e
  obtain ⟨h, _⟩ := h
  have h1 : Rep K Z v (.tuple ds) := h
  cases h1 with
  | tup hz r => exact ⟨_, _, rfl, hz, r⟩
end
theorem o_add {K : PySem.W.Frag} : Op2 K (rAdd4 K) addR := by
  intro E Z O H x y a b F G Q g ra rb nd fo q
  obtain ⟨s, a⟩ := a
  obtain ⟨t, b⟩ := b
  have la := ra.look g
  have lb := rb.look g
  cases a with
  | int i => cases b with
    | int j =>
      cases la
      cases lb
      exact .inl ⟨i, j, rfl, rfl, OkK.imm g q (.int _)⟩
    | _ => exact q.elim
  | str i => cases b with
    | str j =>
      cases la
      cases lb
      have q2 : ResK K E (F ++ G) Z O H (if i.length + j.length ≤ sizeLine then .ok ⟨.imm, .str (i ++ j)⟩ else .bad) Q := q
      by_cases h : i.length + j.length ≤ sizeLine
      · rw [if_pos h] at q2
        exact .inr (.inl ⟨i, j, rfl, rfl, h, OkK.imm g q2 (.str _)⟩)
      · rw [if_neg h] at q2
        exact q2.elim
    | _ => exact q.elim
  | list xs => cases b with
    | list ys =>
      have q2 : ResK K E (F ++ G) Z O H (if xs.length + ys.length ≤ sizeLine then dnew (both s t) (xs ++ ys) else .bad) Q := q
      by_cases h : xs.length + ys.length ≤ sizeLine
      · rw [if_pos h] at q2
        cases la with
        | lst ha r1 => cases lb with
          | lst hb r2 =>
            refine .inr (.inr (.inl ⟨_, _, _, _, rfl, rfl, ha, hb, by rw [r1.length, r2.length]; exact h, fun p np => dnew_ok g q2 (r1.append r2) (fun e => ?_) np⟩))
            obtain ⟨e1, e2⟩ := both_imm e
            obtain ⟨p1, v1, z1, z2, z3⟩ := ra.zlist e1
            obtain ⟨p2, v2, w1, w2, w3⟩ := rb.zlist e2
            cases z1
            cases w1
            have u1 := g.zh _ _ z2
            have u2 := g.zh _ _ w2
            rw [ha] at u1
            rw [hb] at u2
            cases u1
            cases u2
            exact z3.append w3
      · rw [if_neg h] at q2
        exact q2.elim
    | _ => exact q.elim
  | tuple xs => cases b with
    | tuple ys =>
      have q2 : ResK K E (F ++ G) Z O H (if xs.length + ys.length ≤ sizeLine then tnew (both s t) (xs ++ ys) else .bad) Q := q
      by_cases h : xs.length + ys.length ≤ sizeLine
      · rw [if_pos h] at q2
        -- the two as lasting ones
        have key : ∃ p1 p2 v1 v2, x = .ref p1 ∧ y = .ref p2 ∧ SqT K Z p1 v1 ∧ SqT K Z p2 v2 ∧ Reps K Z v1 xs ∧ Reps K Z v2 ys ∧ OkK K (F ++ G) Z O H ⟨.imm, .tuple (xs ++ ys)⟩ Q := by
          unfold tnew at q2
          by_cases l : lfs (xs ++ ys) = true ∨ both s t = .imm
          · rw [if_pos l] at q2
            rcases l with l | l
            · rw [lfs_append] at l
              obtain ⟨l1, l2⟩ := Bool.and_eq_true_iff.mp l
              cases la with
              | tup ha r1 => cases lb with
                | tup hb r2 => exact ⟨_, _, _, _, rfl, rfl, tup_in g.tz ha, tup_in g.tz hb, r1.upD g l1, r2.upD g l2, q2⟩
            · obtain ⟨e1, e2⟩ := both_imm l
              obtain ⟨p1, v1, z1, z2, z3⟩ := ra.ztup e1
              obtain ⟨p2, v2, w1, w2, w3⟩ := rb.ztup e2
              exact ⟨_, _, _, _, z1, w1, z2, w2, z3, w3, q2⟩
          · rw [if_neg l] at q2
            exact q2.elim
        obtain ⟨p1, p2, v1, v2, rfl, rfl, h1, h2, r1, r2, q3⟩ := key
        refine .inr (.inr (.inr ⟨p1, p2, v1, v2, rfl, rfl, Same.seqT g.zh h1, Same.seqT g.zh h2, by rw [r1.length, r2.length]; exact h, fun e => ?_, fun _ e => ?_, fun _ _ p np => OkK.tup g q3 (r1.append r2) np⟩))
        · subst e
          cases r1
          exact OkK.imm g q3 (.tup h2 r2)
        · subst e
          cases r2
          rw [List.append_nil] at q3
          exact OkK.imm g q3 (.tup h1 r1)
      · rw [if_neg h] at q2
        exact q2.elim
    | _ => exact q.elim
  | _ => exact q.elim

/-! ### items -/
def sub (s : Sx) (d : D) : R := if lf d = true then ⟨.imm, d⟩ else match s with
  | .own => ⟨.view, d⟩
  | .brw => ⟨.view, d⟩
  | .tab => ⟨.view, d⟩
  | s => ⟨s, d⟩
def ixR (a b : R) : Res R := match b.d with
  | .int i => (match a.d with
    | .list ds => (match atI ds i with
      | some d => .ok (sub a.s d)
      | none => .bad)
    | .tuple ds => (match atI ds i with
      | some d => .ok (sub a.s d)
      | none => .bad)
    | .dict [(.none, .list ds)] => (match atI ds i with
      | some d => .ok (sub .view d)
      | none => .bad)
    | _ => .bad)
  | _ => .bad
section
variable {K : PySem.W.Frag} {E : XK} {Z O H : Hp} {Q : VK} {W : List Addr}
theorem Reps.at {C : Hp} {vs : List V} {ds : List D} {i : Int} {d : D} (h : Reps K C vs ds) (e : atI ds i = some d) : ∃ v, atI vs i = some v ∧ Rep K C v d := by
  unfold atI at e ⊢
  rw [h.length]
  cases q : ixN ds.length i with
  | none => rw [q] at e; cases e
  | some j =>
    rw [q] at e
    exact h.get e
theorem OkK.sub {s : Sx} {d : D} {v : V} (g : Good Z O H) (h : OkK K W Z O H (Oz.sub s d) Q) (rv : Rep K H v d) (ri : s = .imm → Rep K Z v d) (ro : s = .out → Rep K O v d) : Q v H := by
  unfold Oz.sub at h
  by_cases l : lf d = true
  · rw [if_pos l] at h
    exact OkK.imm g h (rv.up g.tz l)
  · rw [if_neg l] at h
    cases s with
    | imm => exact OkK.imm g h (ri rfl)
    | out => exact h v H Z O [] (Ext.refl _ _ _ _) g ⟨ro rfl, rfl⟩ List.nodup_nil fun a ha => by cases ha
    | view => exact h v H Z O [] (Ext.refl _ _ _ _) g ⟨rv, rfl⟩ List.nodup_nil fun a ha => by cases ha
    | own => exact h v H Z O [] (Ext.refl _ _ _ _) g ⟨rv, rfl⟩ List.nodup_nil fun a ha => by cases ha
    | brw => exact h v H Z O [] (Ext.refl _ _ _ _) g ⟨rv, rfl⟩ List.nodup_nil fun a ha => by cases ha
    | tab => exact h v H Z O [] (Ext.refl _ _ _ _) g ⟨rv, rfl⟩ List.nodup_nil fun a ha => by cases ha
theorem o_ix : Op2 K (rIx K) ixR := by
  intro E Z O H x y a b F G Q g ra rb nd fo q
  obtain ⟨s, a⟩ := a
  obtain ⟨t, b⟩ := b
  have la := ra.look g
  have lb := rb.look g
  cases b with
  | int i =>
    cases lb
    cases la with
    | lst h r =>
      rename_i p xs ds
      have q2 : ResK K E (F ++ G) Z O H (match atI ds i with | some d => .ok (sub s d) | none => .bad) Q := q
      cases e : atI ds i with
      | none => rw [e] at q2; exact q2.elim
      | some d =>
        rw [e] at q2
        obtain ⟨v, hv, rv⟩ := r.at e
        refine .inl ⟨_, xs, i, v, rfl, rfl, .inl (.inl h), hv, OkK.sub g q2 rv (fun es => ?_) fun es => ?_⟩
        · obtain ⟨p1, v1, z1, z2, z3⟩ := ra.zlist es
          cases z1
          have u := g.zh _ _ z2
          rw [h] at u
          cases u
          obtain ⟨v', hv', rv'⟩ := z3.at e
          rw [hv] at hv'
          cases hv'
          exact rv'
        · subst es
          obtain ⟨h1, _⟩ := ra
          have h2 : Rep K O (.ref p) (.list ds) := h1
          cases h2 with
          | lst ho ro =>
            have u := g.oh _ _ ho
            rw [h] at u
            cases u
            obtain ⟨v', hv', rv'⟩ := ro.at e
            rw [hv] at hv'
            cases hv'
            exact rv'
    | scr h r =>
      rename_i p xs ds
      have q2 : ResK K E (F ++ G) Z O H (match atI ds i with | some d => .ok (sub .view d) | none => .bad) Q := q
      cases e : atI ds i with
      | none => rw [e] at q2; exact q2.elim
      | some d =>
        rw [e] at q2
        obtain ⟨v, hv, rv⟩ := r.at e
        exact .inl ⟨_, xs, i, v, rfl, rfl, h.sqL, hv, OkK.sub g q2 rv (fun es => by cases es) fun es => by cases es⟩
    | tup h r =>
      rename_i p xs ds
      have q2 : ResK K E (F ++ G) Z O H (match atI ds i with | some d => .ok (sub s d) | none => .bad) Q := q
      cases e : atI ds i with
      | none => rw [e] at q2; exact q2.elim
      | some d =>
        rw [e] at q2
        -- by the kind of place
        have key : ∃ xs' v, SqT K H p xs' ∧ atI xs' i = some v ∧ Rep K H v d ∧ (s = .imm → Rep K Z v d) ∧ (s = .out → Rep K O v d) := by
          by_cases es : s = .imm
          · obtain ⟨p1, v1, z1, z2, z3⟩ := ra.ztup es
            cases z1
            obtain ⟨v', hv', rv'⟩ := z3.at e
            exact ⟨v1, v', Same.seqT g.zh z2, hv', rv'.mono g.zh, fun _ => rv', fun e2 => by rw [es] at e2; cases e2⟩
          · by_cases eo : s = .out
            · subst eo
              obtain ⟨h1, _⟩ := ra
              have h2 : Rep K O (.ref p) (.tuple ds) := h1
              cases h2 with
              | tup ho ro =>
                obtain ⟨v', hv', rv'⟩ := ro.at e
                exact ⟨_, v', Same.seqT g.oh ho, hv', rv'.mono g.oh, (fun e2 => by cases e2), fun _ => rv'⟩
            · obtain ⟨v, hv, rv⟩ := r.at e
              exact ⟨xs, v, h, hv, rv, fun e2 => absurd e2 es, fun e2 => absurd e2 eo⟩
        obtain ⟨xs', v, h1, h2, h3, h4, h5⟩ := key
        exact .inr (.inl ⟨_, xs', i, v, rfl, rfl, h1, h2, OkK.sub g q2 h3 h4 h5⟩)
    | non => exact q.elim
    | bl _ => exact q.elim
    | int _ => exact q.elim
    | str _ => exact q.elim
    | dct h k r =>
      rename_i p kvs es
      cases es with
      | nil => exact q.elim
      | cons e0 es =>
        obtain ⟨k1, v1⟩ := e0
        cases kvs with
        | nil => simp at k
        | cons y ys =>
          simp only [List.map_cons, List.cons.injEq] at k
          obtain ⟨k0, _⟩ := k
          obtain ⟨y1, y2⟩ := y
          subst k0
          cases y1 with
          | inl i => exact q.elim
          | inr z => exact q.elim
    | ptr a => exact q.elim
    | obj h c k r => exact q.elim
  | _ => exact q.elim
end
end Oz

namespace Oz
open PySem PySem.Spec L2
open PyProof.Rows hiding St
variable [WD]

/-! ### == and in -/
def atomD : D → Bool
  | .none => true
  | .bool _ => true
  | .int _ => true
  | .str _ => true
  | _ => false
mutual
theorem canLay_pl : ∀ {d : D}, d.canLay0 = true → pl d = true
  | .none, _ => rfl
  | .bool _, _ => rfl
  | .int _, _ => rfl
  | .str _, _ => rfl
  | .list xs, h => by
    simp only [PyData.canLay0] at h
    simp only [pl]
    exact canLay_pls h
  | .tuple xs, h => by
    simp only [PyData.canLay0] at h
    simp only [pl]
    exact canLay_pls h
  | .dict _, h => by simp [PyData.canLay0] at h
theorem canLay_pls : ∀ {ds : List D}, PyData.canLayAll0 ds = true → pls ds = true
  | [], _ => rfl
  | x :: xs, h => by
    simp only [PyData.canLayAll0, Bool.and_eq_true] at h
    simp only [pls, Bool.and_eq_true]
    exact ⟨canLay_pl h.1, canLay_pls h.2⟩
end
def fEq (a b : D) : Option Bool := match a, b with
  | .int i, .int j => some (i == j)
  | .str x, .str y => some (x == y)
  | .str _, .none => some false
  | .none, .str _ => some false
  | .int _, .none => some false
  | .none, .int _ => some false
  | .int _, .str _ => some false
  | .str _, .int _ => some false
  | a, b => if SeqAt.shaped a = true ∧ SeqAt.shaped b = true then some (PyData.eqv a b) else none
def dBool (o : Option Bool) : Option D := o.map .bool
def dNot (o : Option Bool) : Option D := o.map fun b => .bool (!b)
abbrev eqF : D → D → Option D := fun a b => dBool (fEq a b)
abbrev neF : D → D → Option D := fun a b => dNot (fEq a b)
def rEq2 (K : PySem.W.Frag) : R2 := fun x y H Q => rEq x y H Q ∨ rEqD K x y H Q
def rNe2 (K : PySem.W.Frag) : R2 := fun x y H Q => rNe x y H Q ∨ rNeD K x y H Q
theorem op_eq2 {X : Cx} (hu : X.A.units + 64 < cLine) : OpR X (compareOp .Eq) (rEq2 X.K) := OpR.or op_eq (op_eqD hu)
theorem op_ne2 {X : Cx} (hu : X.A.units + 64 < cLine) : OpR X (compareOp .NotEq) (rNe2 X.K) := OpR.or op_ne (op_neD hu)
theorem shaped_pl {d : D} (h : SeqAt.shaped d = true) : pl d = true := canLay_pl (SeqAt.canLay_of_shaped h)
/-- what == answers: of flat values, or of data -/
theorem fEq_ok {K : PySem.W.Frag} {H : Hp} {x y : V} {a b : D} {k : Bool} (ra : Rep K H x a) (rb : Rep K H y b) (e : fEq a b = some k) :
    (scal x y = true ∧ decide (x = y) = k) ∨ (Dp K H x a ∧ Dp K H y b ∧ SeqAt.shaped a = true ∧ SeqAt.shaped b = true ∧ PyData.eqv a b = k) := by
  have deep : (if SeqAt.shaped a = true ∧ SeqAt.shaped b = true then some (PyData.eqv a b) else none) = some k → (Dp K H x a ∧ Dp K H y b ∧ SeqAt.shaped a = true ∧ SeqAt.shaped b = true ∧ PyData.eqv a b = k) := fun e => by
    by_cases h : SeqAt.shaped a = true ∧ SeqAt.shaped b = true
    · rw [if_pos h] at e
      exact ⟨ra.dp (shaped_pl h.1), rb.dp (shaped_pl h.2), h.1, h.2, Option.some.inj e⟩
    · rw [if_neg h] at e
      cases e
  cases ra with
  | int i => cases rb with
    | int j => exact .inl ⟨rfl, by rw [dec_int]; exact Option.some.inj e⟩
    | str j => exact .inl ⟨rfl, by rw [decide_eq_false (by intro h; cases h)]; exact Option.some.inj e⟩
    | non => exact .inl ⟨rfl, by rw [decide_eq_false (by intro h; cases h)]; exact Option.some.inj e⟩
    | _ => exact .inr (deep e)
  | str i => cases rb with
    | str j => exact .inl ⟨rfl, by rw [dec_str]; exact Option.some.inj e⟩
    | int j => exact .inl ⟨rfl, by rw [decide_eq_false (by intro h; cases h)]; exact Option.some.inj e⟩
    | non => exact .inl ⟨rfl, by rw [decide_eq_false (by intro h; cases h)]; exact Option.some.inj e⟩
    | _ => exact .inr (deep e)
  | non => cases rb with
    | int j => exact .inl ⟨rfl, by rw [decide_eq_false (by intro h; cases h)]; exact Option.some.inj e⟩
    | str j => exact .inl ⟨rfl, by rw [decide_eq_false (by intro h; cases h)]; exact Option.some.inj e⟩
    | _ => exact .inr (deep e)
  | _ => exact .inr (deep (by cases rb <;> exact e))
section
variable {K : PySem.W.Frag}
theorem o_eq : Op2 K (rEq2 K) (at2 eqF) := op2_at fun H x y a b d Q ra rb e q => by
  cases h : fEq a b with
  | none => simp [eqF, dBool, h] at e
  | some k =>
    have e2 : PyData.bool k = d := by simpa [eqF, dBool, h] using e
    subst e2
    rcases fEq_ok ra rb h with ⟨h1, h2⟩ | ⟨h1, h2, h3, h4, h5⟩
    · exact .inl ⟨h1, by rw [h2]; exact q _ fun _ => .bl _⟩
    · exact .inr ⟨a, b, h1, h2, h3, h4, by rw [h5]; exact q _ fun _ => .bl _⟩
theorem o_ne : Op2 K (rNe2 K) (at2 neF) := op2_at fun H x y a b d Q ra rb e q => by
  cases h : fEq a b with
  | none => simp [neF, dNot, h] at e
  | some k =>
    have e2 : PyData.bool (!k) = d := by simpa [neF, dNot, h] using e
    subst e2
    rcases fEq_ok ra rb h with ⟨h1, h2⟩ | ⟨h1, h2, h3, h4, h5⟩
    · exact .inl ⟨h1, by rw [h2]; exact q _ fun _ => .bl _⟩
    · exact .inr ⟨a, b, h1, h2, h3, h4, by rw [h5]; exact q _ fun _ => .bl _⟩
end
/-- items of a row -/
def itemsD : D → Option (List D)
  | .list ds => some ds
  | .tuple ds => some ds
  | _ => none
def fIn (a b : D) : Option Bool := match itemsD b with
  | some ds => if atomD a = true ∧ ds.all atomD = true then some (ds.any fun z => PyData.eqv z a) else if SeqAt.shaped a = true ∧ SeqAt.shaped b = true then some (ds.any fun z => PyData.eqv z a) else none
  | none => none
abbrev inF : D → D → Option D := fun a b => dBool (fIn a b)
abbrev ninF : D → D → Option D := fun a b => dNot (fIn a b)
def rInT (K : PySem.W.Frag) (neg : Bool) : R2 := fun x y H Q => ∃ d ds, Dp K H x d ∧ Dp K H y (.tuple ds) ∧ SeqAt.shaped d = true ∧ SeqAt.shaped (.tuple ds) = true ∧ Q (.bl (if neg then !(ds.any fun z => PyData.eqv z d) else ds.any fun z => PyData.eqv z d)) H
section
variable {X : Cx}
theorem op_notInT (hu : X.A.units + 65 < cLine) : OpR X (compareOp .NotIn) (rInT X.K true) := by
  intro pins s σ H x y v u Q I rx ry h
  obtain ⟨d, ds, hd, he, sd, se, q⟩ := h
  obtain ⟨as, r1⟩ := Dp.reads I d x v hd rx
  obtain ⟨bs, r2⟩ := Dp.reads I (.tuple ds) y u he ry
  exact SeqAt.notIn_tuple_reads r2 r1 (SeqAt.canLay_of_shaped se) (SeqAt.canLay_of_shaped sd) (room_in_shaped (xs := ds) sd hu) ⟨.bl _, H, I, rfl, q⟩
end
def rNin3 (K : PySem.W.Frag) : R2 := fun x y H Q => rIn K true x y H Q ∨ rNotInD K x y H Q ∨ rInT K true x y H Q
theorem op_nin3 {X : Cx} (hu : X.A.units + 65 < cLine) : OpR X (compareOp .NotIn) (rNin3 X.K) := OpR.or op_notIn_seq (OpR.or (op_notInD hu) (op_notInT hu))
section
variable {K : PySem.W.Frag} {H : Hp}
theorem atom_flat {v : V} {d : D} (r : Rep K H v d) (h : atomD d = true) : flatV v = true := by
  cases r <;> first | rfl | cases h
theorem atom_eqv {v w : V} {d e : D} (r : Rep K H v d) (r2 : Rep K H w e) (h : atomD d = true) (h2 : atomD e = true) : eqV v w = PyData.eqv d e := by
  cases r <;> first | (cases h; done) | (cases r2 <;> first | (cases h2; done) | simp [eqV, PyData.eqv])
theorem atoms_in {x : V} {a : D} (rx : Rep K H x a) (hx : atomD a = true) : ∀ {vs : List V} {ds : List D}, Reps K H vs ds → ds.all atomD = true → vs.all flatV = true ∧ inV x vs = ds.any fun z => PyData.eqv z a
  | _, _, .nil, _ => ⟨rfl, rfl⟩
  | _, _, .cons r s, h => by
    rw [List.all_cons] at h
    obtain ⟨h1, h2⟩ := Bool.and_eq_true_iff.mp h
    obtain ⟨i1, i2⟩ := atoms_in rx hx s h2
    refine ⟨by rw [List.all_cons, atom_flat r h1, i1]; rfl, ?_⟩
    unfold inV at i2 ⊢
    rw [List.any_cons, List.any_cons, i2, atom_eqv r rx h1 hx]
theorem items_ok {y : V} {b : D} {ds : List D} (r : Rep K H y b) (e : itemsD b = some ds) : ∃ p vs, y = .ref p ∧ (SqL K H p vs ∨ SqT K H p vs) ∧ Reps K H vs ds := by
  cases r with
  | lst h r => cases e; exact ⟨_, _, rfl, .inl (.inl (.inl h)), r⟩
  | tup h r => cases e; exact ⟨_, _, rfl, .inr h, r⟩
  | _ => cases e
theorem items_kind {b : D} {ds : List D} (e : itemsD b = some ds) : b = .list ds ∨ b = .tuple ds := by
  cases b with
  | list xs => cases e; exact .inl rfl
  | tuple xs => cases e; exact .inr rfl
  | _ => cases e
theorem fIn_ok {x y : V} {a b : D} {k : Bool} (ra : Rep K H x a) (rb : Rep K H y b) (e : fIn a b = some k) :
    (∃ p xs, y = .ref p ∧ (SqL K H p xs ∨ SqT K H p xs) ∧ flatV x = true ∧ xs.all flatV = true ∧ inV x xs = k) ∨
      (∃ ds, Dp K H x a ∧ Dp K H y b ∧ (b = .list ds ∨ b = .tuple ds) ∧ SeqAt.shaped a = true ∧ SeqAt.shaped b = true ∧ (ds.any fun z => PyData.eqv z a) = k) := by
  unfold fIn at e
  cases h : itemsD b with
  | none => rw [h] at e; cases e
  | some ds =>
    rw [h] at e
    have e2 : (if atomD a = true ∧ ds.all atomD = true then some (ds.any fun z => PyData.eqv z a) else if SeqAt.shaped a = true ∧ SeqAt.shaped b = true then some (ds.any fun z => PyData.eqv z a) else none) = some k := e
    by_cases h1 : atomD a = true ∧ ds.all atomD = true
    · rw [if_pos h1] at e2
      obtain ⟨p, vs, h3, h4, h5⟩ := items_ok rb h
      obtain ⟨i1, i2⟩ := atoms_in ra h1.1 h5 h1.2
      exact .inl ⟨p, vs, h3, h4, atom_flat ra h1.1, i1, i2.trans (Option.some.inj e2)⟩
    · rw [if_neg h1] at e2
      by_cases h2 : SeqAt.shaped a = true ∧ SeqAt.shaped b = true
      · rw [if_pos h2] at e2
        exact .inr ⟨ds, ra.dp (shaped_pl h2.1), rb.dp (shaped_pl h2.2), items_kind h, h2.1, h2.2, Option.some.inj e2⟩
      · rw [if_neg h2] at e2
        cases e2
theorem o_nin : Op2 K (rNin3 K) (at2 ninF) := op2_at fun H x y a b d Q ra rb e q => by
  cases h : fIn a b with
  | none => simp [ninF, dNot, h] at e
  | some k =>
    have e2 : PyData.bool (!k) = d := by simpa [ninF, dNot, h] using e
    subst e2
    rcases fIn_ok ra rb h with ⟨p, xs, h1, h2, h3, h4, h5⟩ | ⟨ds, h1, h2, h3, h4, h5, h6⟩
    · exact .inl ⟨p, xs, h1, h2, h3, h4, by rw [if_pos rfl, h5]; exact q _ fun _ => .bl _⟩
    · rcases h3 with rfl | rfl
      · exact .inr (.inl ⟨a, ds, h1, h2, h4, h5, by rw [h6]; exact q _ fun _ => .bl _⟩)
      · exact .inr (.inr ⟨a, ds, h1, h2, h4, h5, by rw [if_pos rfl, h6]; exact q _ fun _ => .bl _⟩)
end
/-- is None -/
def isNon : D → Bool
  | .none => true
  | _ => false
def isF (a b : D) : Option D := match b with
  | .none => some (.bool (isNon a))
  | _ => none
def isnF (a b : D) : Option D := match b with
  | .none => some (.bool (!isNon a))
  | _ => none
theorem isNon_ok {K : PySem.W.Frag} {H : Hp} {x : V} {a : D} (r : Rep K H x a) : decide (x = .non) = isNon a := by
  cases r <;> first | rfl | exact decide_eq_false (by intro h; cases h)
/-! ### and, or, not, if -/
def pAnd (p q : Px) : Px := fun ρ => (p ρ).bind fun r => match truth r.d with
  | some true => q ρ
  | some false => .ok r
  | none => .bad
def pOr (p q : Px) : Px := fun ρ => (p ρ).bind fun r => match truth r.d with
  | some true => .ok r
  | some false => q ρ
  | none => .bad
def pNot (p : Px) : Px := fun ρ => (p ρ).bind fun r => match truth r.d with
  | some b => .ok ⟨.imm, .bool (!b)⟩
  | none => .bad
def pIf (t : Tx) (p q : Px) : Px := fun ρ => (t ρ).bind fun b => if b = true then p ρ else q ρ
def tAndD (t u : Tx) : Tx := fun ρ => (t ρ).bind fun b => if b = true then u ρ else .ok false
def tOrD (t u : Tx) : Tx := fun ρ => (t ρ).bind fun b => if b = true then .ok true else u ρ
def tNotD (t : Tx) : Tx := fun ρ => (t ρ).bind fun b => .ok (!b)
section
variable {K : PySem.W.Frag} {E : XK} {Z O H Z1 O1 H1 : Hp} {σ : St} {ρ : Ev} {F : List Addr} {Q : VK}
/-- go on in the state behind -/
theorem tP_go {p : Px} (r : Rel K Z O H σ ρ F) (e : Ext [] Z O H Z1 O1 H1) (r1 : Rel K Z1 O1 H1 σ ρ F) (q : ResK K E [] Z O H (p ρ) Q) : tP K E p σ H1 Q :=
  ⟨Z1, O1, ρ, F, r1, q.ext e fun a ha => by cases ha⟩
theorem pAnd_ok {p q : Px} (h : tP K E (pAnd p q) σ H Q) : tAndT K (tP K E p) (tP K E q) σ H Q := by
  refine tP_bind (k := fun r ρ => match truth r.d with | some true => q ρ | some false => .ok r | none => .bad) h fun Z O H1 Z1 O1 ρ F G v a r x1 r1 q1 nd fr h2 => ?_
  cases e : truth a.d with
  | none => rw [e] at h2; exact h2.elim
  | some b =>
    refine ⟨b, truth_ok (q1.look r1.g) e, ?_⟩
    rw [e] at h2
    cases b with
    | true => exact tP_go r x1 r1 h2
    | false => exact h2 v H1 Z1 O1 G x1 r1.g q1 nd fun c hc => ⟨.inl (fr c hc).1, (fr c hc).2⟩
theorem pNot_ok {p : Px} (h : tP K E (pNot p) σ H Q) : tNotT K (tP K E p) σ H Q := by
  refine tP_bind (k := fun r ρ => match truth r.d with | some b => .ok ⟨.imm, .bool (!b)⟩ | none => .bad) h fun Z O H1 Z1 O1 ρ F G v a r x1 r1 q1 nd fr h2 => ?_
  cases e : truth a.d with
  | none => rw [e] at h2; exact h2.elim
  | some b =>
    refine ⟨b, truth_ok (q1.look r1.g) e, ?_⟩
    rw [e] at h2
    exact h2 _ H1 Z1 O1 [] x1 r1.g ⟨.bl _, rfl⟩ List.nodup_nil fun c hc => by cases hc
theorem pIf_ok {t : Tx} {p q : Px} (h : tP K E (pIf t p q) σ H Q) : tIf (tT K E t) (tP K E p) (tP K E q) σ H Q := by
  obtain ⟨Z, O, ρ, F, r, h⟩ := h
  refine ⟨Z, O, ρ, F, r, ?_⟩
  unfold pIf at h
  cases e : t ρ with
  | bad => rw [e] at h; exact h.elim
  | exc c fs => rw [e] at h; exact h
  | ok b =>
    rw [e] at h
    intro H1 Z1 O1 x1 g1
    cases b with
    | true =>
      have h2 : ResK K E [] Z O H (p ρ) Q := h
      exact tP_go r x1 (r.ext x1 g1) h2
    | false =>
      have h2 : ResK K E [] Z O H (q ρ) Q := h
      exact tP_go r x1 (r.ext x1 g1) h2
theorem tT_go {t : Tx} {Q : Bool → Hp → Prop} (e : Ext [] Z O H Z1 O1 H1) (r1 : Rel K Z1 O1 H1 σ ρ F) (q : match t ρ with
      | .bad => False
      | .ok b => ∀ H' Z' O', Ext [] Z O H Z' O' H' → Good Z' O' H' → Q b H'
      | .exc c fs => ExcK K E Z O H c fs) : tT K E t σ H1 Q := by
  refine ⟨Z1, O1, ρ, F, r1, ?_⟩
  cases z : t ρ with
  | bad => rw [z] at q; exact q.elim
  | exc c fs => rw [z] at q; exact ExcK.ext q e
  | ok b => rw [z] at q; exact fun H' Z' O' x g => q H' Z' O' (e.trans0 x) g
theorem tAnd_ok {t u : Tx} {Q : Bool → Hp → Prop} (h : tT K E (tAndD t u) σ H Q) : tAnd (tT K E t) (tT K E u) σ H Q := by
  obtain ⟨Z, O, ρ, F, r, h⟩ := h
  refine ⟨Z, O, ρ, F, r, ?_⟩
  unfold tAndD at h
  cases e : t ρ with
  | bad => rw [e] at h; exact h.elim
  | exc c fs => rw [e] at h; exact h
  | ok b =>
    rw [e] at h
    intro H1 Z1 O1 x1 g1
    cases b with
    | true => exact tT_go x1 (r.ext x1 g1) h
    | false => exact h H1 Z1 O1 x1 g1
theorem tOr_ok {t u : Tx} {Q : Bool → Hp → Prop} (h : tT K E (tOrD t u) σ H Q) : tOr (tT K E t) (tT K E u) σ H Q := by
  obtain ⟨Z, O, ρ, F, r, h⟩ := h
  refine ⟨Z, O, ρ, F, r, ?_⟩
  unfold tOrD at h
  cases e : t ρ with
  | bad => rw [e] at h; exact h.elim
  | exc c fs => rw [e] at h; exact h
  | ok b =>
    rw [e] at h
    intro H1 Z1 O1 x1 g1
    cases b with
    | false => exact tT_go x1 (r.ext x1 g1) h
    | true => exact h H1 Z1 O1 x1 g1
theorem tNot_ok {t : Tx} {Q : Bool → Hp → Prop} (h : tT K E (tNotD t) σ H Q) : tNot (tT K E t) σ H Q := by
  obtain ⟨Z, O, ρ, F, r, h⟩ := h
  refine ⟨Z, O, ρ, F, r, ?_⟩
  unfold tNotD at h
  cases e : t ρ with
  | bad => rw [e] at h; exact h.elim
  | exc c fs => rw [e] at h; exact h
  | ok b =>
    rw [e] at h
    exact fun H1 Z1 O1 x1 g1 => h H1 Z1 O1 x1 g1
end
section
variable {X : Cx} {E : XK} {a b c : Expr} {rest : List Expr} {p q : Px} {t u : Tx} {pos : Pos}
theorem s_one {op} (h : PE X a (tP X.K E p)) : PE X (.BoolOp op [a] pos) (tP X.K E p) := pe_one h
theorem s_and (ha : PE X a (tP X.K E p)) (hb : PE X (.BoolOp .And (b :: rest) pos) (tP X.K E q)) : PE X (.BoolOp .And (a :: b :: rest) pos) (tP X.K E (pAnd p q)) := (pe_andT ha hb).imp fun _ _ _ h => pAnd_ok h
theorem s_not (ha : PE X a (tP X.K E p)) : PE X (.UnaryOp .Not a pos) (tP X.K E (pNot p)) := (pe_notT ha).imp fun _ _ _ h => pNot_ok h
theorem s_if (hc : PT X c (tT X.K E t)) (ha : PE X a (tP X.K E p)) (hb : PE X b (tP X.K E q)) : PE X (.IfExp c a b pos) (tP X.K E (pIf t p q)) := (pe_ifExp hc ha hb).imp fun _ _ _ h => pIf_ok h
theorem s_tand1 (ha : PT X a (tT X.K E t)) : PW X (.BoolOp .And [a] pos) (tT X.K E t) := pw_and1 ha
theorem s_tor1 (ha : PT X a (tT X.K E t)) : PW X (.BoolOp .Or [a] pos) (tT X.K E t) := pw_or1 ha
theorem s_tand (ha : PT X a (tT X.K E t)) (hb : PW X (.BoolOp .And (b :: rest) pos) (tT X.K E u)) : PW X (.BoolOp .And (a :: b :: rest) pos) (tT X.K E (tAndD t u)) := (pw_and ha hb).imp fun _ _ _ h => tAnd_ok h
theorem s_tor (ha : PT X a (tT X.K E t)) (hb : PW X (.BoolOp .Or (b :: rest) pos) (tT X.K E u)) : PW X (.BoolOp .Or (a :: b :: rest) pos) (tT X.K E (tOrD t u)) := (pw_or ha hb).imp fun _ _ _ h => tOr_ok h
theorem s_tnot (ha : PT X a (tT X.K E t)) : PT X (.UnaryOp .Not a pos) (tT X.K E (tNotD t)) := (pt_not ha).imp fun _ _ _ h => tNot_ok h
end

/-! ### arguments, displays -/
section
variable {X : Cx} {E : XK} {e : Expr} {es : List Expr} {p : Px} {ps : List Px} {pos : Pos}
theorem s_anil : PA X [] (tA X.K E []) := by
  refine pa_nil.imp fun σ H Q h => ?_
  obtain ⟨Z, O, ρ, F, r, h⟩ := h
  have h2 : OksK X.K Z O H [] Q := h
  exact h2 [] H Z O [] (Ext.refl _ _ _ _) r.g .nil List.nodup_nil fun a ha => by cases ha
theorem s_acons (ha : PE X e (tP X.K E p)) (hr : PA X es (tA X.K E ps)) (hs : starEach (e :: es) X.env = (false, eval e X.env) :: starEach es X.env := by rfl) : PA X (e :: es) (tA X.K E (p :: ps)) := by
  refine (pa_cons ha hr hs).imp fun σ H Q h => ?_
  obtain ⟨Z, O, ρ, F, r, h⟩ := h
  refine ⟨Z, O, ρ, F, r, ?_⟩
  have h1 : match ((p ρ).bind fun r => (evs ps ρ).bind fun rs => (Res.ok (r :: rs) : Res (List R))) with
    | .bad => False
    | .ok rs => OksK X.K Z O H rs Q
    | .exc c fs => ExcK X.K E Z O H c fs := h
  cases z : p ρ with
  | bad => rw [z] at h1; exact h1.elim
  | exc c fs => rw [z] at h1; exact h1
  | ok a =>
    rw [z] at h1
    intro v H1 Z1 O1 G x1 g1 q1 nd fr
    refine ⟨Z1, O1, ρ, F, r.ext x1 g1, ?_⟩
    cases y : evs ps ρ with
    | bad => rw [y] at h1; exact h1.elim
    | exc c fs => rw [y] at h1; exact ExcK.ext h1 x1
    | ok rs =>
      rw [y] at h1
      intro vs H2 Z2 O2 G2 x2 g2 q2 nd2 fr2
      have h2 : OksK X.K Z O H (a :: rs) Q := h1
      refine h2 (v :: vs) H2 Z2 O2 (G ++ G2) (x1.trans0 x2) g2 (.cons (q1.ext x2) q2) (nodup_fresh nd nd2 (fun c hc => let ⟨o, z, _⟩ := q1.live c hc; ⟨o, z⟩) fun c hc => (fr2 c hc).1) fun c hc => ?_
      rcases List.mem_append.mp hc with hc | hc
      · refine ⟨(fr c hc).1.elim id (fun z => by cases z), ?_⟩
        cases z : O2 c with
        | none => rfl
        | some o =>
          obtain ⟨o1, w1, _⟩ := q1.live c hc
          rcases x2.on c (by rw [z]; simp) with y | y | y
          · exact absurd (fr c hc).2 y
          · rw [w1] at y; cases y
          · cases y
      · exact ⟨x1.h.free (fr2 c hc).1, (fr2 c hc).2⟩
end
/-- the items of a tuple's display: lasting; of one's own, they last from now on -/
def frzR (r : R) : Option D := match r.s with
  | .imm => some r.d
  | _ => if lf r.d = true then some r.d else none
def frzs : List R → Option (List D)
  | [] => some []
  | r :: rs => match frzR r, frzs rs with
    | some d, some ds => some (d :: ds)
    | _, _ => none
section
variable {K : PySem.W.Frag} {Z O H : Hp}
theorem frzR_ok {v : V} {r : R} {G : List Addr} {d : D} (g : Good Z O H) (q : RepR K Z O H v r G) (e : frzR r = some d) : Rep K Z v d := by
  obtain ⟨s, x⟩ := r
  have lk := q.look g
  cases s with
  | imm => cases e; exact q.1
  | out => obtain ⟨l, rfl⟩ := ite_some (c := lf x = true) e; exact lk.up g.tz l
  | view => obtain ⟨l, rfl⟩ := ite_some (c := lf x = true) e; exact lk.up g.tz l
  | own => obtain ⟨l, rfl⟩ := ite_some (c := lf x = true) e; exact lk.up g.tz l
  | brw => obtain ⟨l, rfl⟩ := ite_some (c := lf x = true) e; exact lk.up g.tz l
  | tab => exact (show False from q).elim
theorem frzs_ok (g : Good Z O H) : ∀ {vs : List V} {rs : List R} {G : List Addr} {ds : List D}, RepRs K Z O H vs rs G → frzs rs = some ds → Reps K Z vs ds
  | _, _, _, _, .nil, e => by cases e; exact .nil
  | _, _, _, ds, .cons (r := r) (rs := rs) q s, e => by
    unfold frzs at e
    cases h1 : frzR r with
    | none => rw [h1] at e; cases e
    | some d =>
      rw [h1] at e
      cases h2 : frzs rs with
      | none => rw [h2] at e; cases e
      | some ds' =>
        rw [h2] at e
        cases e
        exact .cons (frzR_ok g q h1) (frzs_ok g s h2)
/-- the items of a list of one's own -/
def ownR (r : R) : Option D := match r.s with
  | .own => some r.d
  | _ => if lf r.d = true then some r.d else if r.s = .imm ∧ isVal r.d = true then some r.d else none
def owns : List R → Option (List D)
  | [] => some []
  | r :: rs => match ownR r, owns rs with
    | some d, some ds => some (d :: ds)
    | _, _ => none
theorem ownR_ok {v : V} {r : R} {G : List Addr} {d : D} (g : Good Z O H) (q : RepR K Z O H v r G) (e : ownR r = some d) : ∃ G', Own K Z H v d G' ∧ (G' = G ∨ G' = []) := by
  obtain ⟨s, x⟩ := r
  have lk := q.look g
  have easy : ∀ {y : Option D}, (if lf x = true then some x else if s = .imm ∧ isVal x = true then some x else none) = some d → ∃ G', Own K Z H v d G' ∧ (G' = G ∨ G' = []) := fun h => by
    by_cases l : lf x = true
    · rw [if_pos l] at h
      cases h
      exact ⟨[], .imm (lk.up g.tz l) (lf_val l), .inr rfl⟩
    · rw [if_neg l] at h
      by_cases l2 : s = .imm ∧ isVal x = true
      · rw [if_pos l2] at h
        cases h
        obtain ⟨e1, e2⟩ := l2
        subst e1
        exact ⟨[], .imm q.1 e2, .inr rfl⟩
      · rw [if_neg l2] at h
        cases h
  cases s with
  | own => cases e; exact ⟨G, q, .inl rfl⟩
  | imm => exact easy (y := none) e
  | out => exact easy (y := none) e
  | view => exact easy (y := none) e
  | brw => exact easy (y := none) e
  | tab => exact easy (y := none) e
theorem owns_ok (g : Good Z O H) : ∀ {vs : List V} {rs : List R} {G : List Addr} {ds : List D}, RepRs K Z O H vs rs G → owns rs = some ds → G.Nodup → ∃ G', Owns K Z H vs ds G' ∧ G'.Nodup ∧ ∀ a ∈ G', a ∈ G
  | _, _, _, _, .nil, e, _ => by cases e; exact ⟨[], .nil, List.nodup_nil, fun _ h => h⟩
  | _, _, _, ds, .cons (r := r) (rs := rs) (F := F) (G := G) q s, e, nd => by
    unfold owns at e
    cases h1 : ownR r with
    | none => rw [h1] at e; cases e
    | some d =>
      rw [h1] at e
      cases h2 : owns rs with
      | none => rw [h2] at e; cases e
      | some ds' =>
        rw [h2] at e
        cases e
        obtain ⟨n1, n2, n3⟩ := List.nodup_append.mp nd
        obtain ⟨F', o1, c1⟩ := ownR_ok g q h1
        obtain ⟨G', o2, m2, s2⟩ := owns_ok g s h2 n2
        have sF : ∀ a ∈ F', a ∈ F := fun a ha => by
          rcases c1 with e | e
          · rw [e] at ha; exact ha
          · rw [e] at ha; cases ha
        refine ⟨F' ++ G', .cons o1 o2, ?_, fun a ha => ?_⟩
        · refine List.nodup_append.mpr ⟨?_, m2, fun a ha b hb => n3 a (sF a ha) b (s2 b hb)⟩
          rcases c1 with e | e
          · rw [e]; exact n1
          · rw [e]; exact List.nodup_nil
        · rcases List.mem_append.mp ha with ha | ha
          · exact List.mem_append_left _ (sF a ha)
          · exact List.mem_append_right _ (s2 a ha)
end
def pTup (ps : List Px) : Px := fun ρ => (evs ps ρ).bind fun rs => match frzs rs with
  | some ds => if ds.length ≤ sizeLine then .ok ⟨.imm, .tuple ds⟩ else .bad
  | none => .bad
def pLst (ps : List Px) : Px := fun ρ => (evs ps ρ).bind fun rs => match owns rs with
  | some ds => if ds.length ≤ sizeLine then .ok ⟨.own, .list ds⟩ else .bad
  | none => .bad
section
variable {X : Cx} {E : XK} {es : List Expr} {ps : List Px} {pos : Pos}
theorem tA_bind {K : PySem.W.Frag} {E : XK} {ps : List Px} {k : List R → Res R} {σ : St} {H : Hp} {Q : VK} {T : List V → Hp → Prop} (h : tP K E (fun ρ => (evs ps ρ).bind k) σ H Q)
    (next : ∀ (Z O H1 : Hp) (G : List Addr) (vs : List V) (rs : List R), Good Z O H1 → RepRs K Z O H1 vs rs G → G.Nodup → (∀ c ∈ G, O c = none) → ResK K E G Z O H1 (k rs) Q → Tabs K H1 → T vs H1) : tA K E ps σ H T := by
  obtain ⟨Z, O, ρ, F, r, h⟩ := h
  refine ⟨Z, O, ρ, F, r, ?_⟩
  have h1 : ResK K E [] Z O H ((evs ps ρ).bind k) Q := h
  cases e : evs ps ρ with
  | bad => rw [e] at h1; exact h1.elim
  | exc c fs => rw [e] at h1; exact h1
  | ok rs =>
    rw [e] at h1
    intro vs H1 Z1 O1 G x1 g1 q1 nd fr
    exact next Z1 O1 H1 G vs rs g1 q1 nd (fun c hc => (fr c hc).2) (ResK.ext h1 x1 fun c hc => (fr c hc).1) (r.tb.ext x1.h)
theorem s_tup {x1} (h : PA X es (tA X.K E ps)) : PE X (.Tuple es x1 pos) (tP X.K E (pTup ps)) := by
  refine (pe_tup h).imp fun σ H Q h => ?_
  refine tA_bind h fun Z O H1 G vs rs g q nd fo h2 tb => ?_
  cases e : frzs rs with
  | none => rw [e] at h2; exact h2.elim
  | some ds =>
    rw [e] at h2
    have h3 : ResK X.K E G Z O H1 (if ds.length ≤ sizeLine then .ok ⟨.imm, .tuple ds⟩ else .bad) Q := h2
    have rz := frzs_ok g q e
    by_cases l : ds.length ≤ sizeLine
    · rw [if_pos l] at h3
      exact ⟨by rw [rz.length]; exact l, fun p np => OkK.tup g h3 rz np⟩
    · rw [if_neg l] at h3
      exact h3.elim
theorem s_lst (h : PA X es (tA X.K E ps)) : PE X (.List es pos) (tP X.K E (pLst ps)) := by
  refine (pe_lst h).imp fun σ H Q h => ?_
  refine tA_bind h fun Z O H1 G vs rs g q nd fo h2 tb => ?_
  cases e : owns rs with
  | none => rw [e] at h2; exact h2.elim
  | some ds =>
    rw [e] at h2
    have h3 : ResK X.K E G Z O H1 (if ds.length ≤ sizeLine then .ok ⟨.own, .list ds⟩ else .bad) Q := h2
    obtain ⟨G', ro, n', s'⟩ := owns_ok g q e nd
    by_cases l : ds.length ≤ sizeLine
    · rw [if_pos l] at h3
      exact ⟨by rw [ro.length]; exact l, fun p np => OkK.lstO g h3 ro n' (fun a ha => ⟨.inr (s' a ha), fo a (s' a ha)⟩) np⟩
    · rw [if_neg l] at h3
      exact h3.elim
end
end Oz

namespace Oz
open PySem PySem.Spec L2
open PyProof.Rows hiding St
variable [WD]

/-! ### what a def promises -/
inductive Md where
  | i | v | m
  deriving DecidableEq
inductive FR where
  | bad
  | ok (r : R) (ms : List D)
  | exc (c : Str) (fs : List (Str × D)) (ms : List D)
abbrev Fn := List D → FR
def noTb : Option HO → Option HO
  | some (.tbl _) => none
  | o => o
theorem noTb_some {x : Option HO} {o : HO} (h : noTb x = some o) : x = some o ∧ ∀ ps, o ≠ .tbl ps := by
  cases x with
  | none => cases h
  | some y => cases y <;> first | (cases h; done) | (cases h; exact ⟨rfl, nofun⟩)
theorem noTb_of {o : HO} (h : ∀ ps, o ≠ .tbl ps) : noTb (some o) = some o := by
  cases o <;> first | rfl | exact absurd rfl (h _)
def without (H : Hp) (F : List Addr) : Hp := fun a => if a ∈ F then none else noTb (H a)
theorem without_some {H : Hp} {F : List Addr} {a : Addr} {o : HO} (h : without H F a = some o) : H a = some o ∧ a ∉ F := by
  unfold without at h
  by_cases e : a ∈ F
  · rw [if_pos e] at h; cases h
  · rw [if_neg e] at h; exact ⟨(noTb_some h).1, e⟩
theorem without_noT (H : Hp) (F : List Addr) : NoT (without H F) := fun a ps h => by
  unfold without at h
  by_cases e : a ∈ F
  · rw [if_pos e] at h; cases h
  · rw [if_neg e] at h; exact (noTb_some h).2 ps rfl
theorem without_sameN (H : Hp) : SameN H (without H []) := fun b o h n => by
  unfold without
  rw [if_neg (by simp), h]
  exact noTb_of n
inductive Args (K : PySem.W.Frag) (Z Hv H : Hp) : List Md → List V → List D → List Addr → Prop
  | nil : Args K Z Hv H [] [] [] []
  | i {md : List Md} {v : V} {vs : List V} {d : D} {ds : List D} {F : List Addr} : Rep K Z v d → Args K Z Hv H md vs ds F → Args K Z Hv H (.i :: md) (v :: vs) (d :: ds) F
  | v {md : List Md} {v : V} {vs : List V} {d : D} {ds : List D} {F : List Addr} : Rep K Hv v d → Args K Z Hv H md vs ds F → Args K Z Hv H (.v :: md) (v :: vs) (d :: ds) F
  | m {md : List Md} {v : V} {vs : List V} {d : D} {ds : List D} {F G : List Addr} : Own K Z H v d F → Args K Z Hv H md vs ds G → Args K Z Hv H (.m :: md) (v :: vs) (d :: ds) (F ++ G)
theorem Args.monoV {K : PySem.W.Frag} {Z Hv Hv' H : Hp} (e : SameN Hv Hv') : ∀ {md : List Md} {vs : List V} {ds : List D} {F : List Addr}, Args K Z Hv H md vs ds F → Args K Z Hv' H md vs ds F
  | _, _, _, _, .nil => .nil
  | _, _, _, _, .i r s => .i r (Args.monoV e s)
  | _, _, _, _, .v r s => .v (r.monoN e) (Args.monoV e s)
  | _, _, _, _, .m q s => .m q (Args.monoV e s)
inductive Outs (K : PySem.W.Frag) (Z H : Hp) : List Md → List V → List D → List Addr → Prop
  | nil : Outs K Z H [] [] [] []
  | i {md : List Md} {v : V} {vs : List V} {ds : List D} {F : List Addr} : Outs K Z H md vs ds F → Outs K Z H (.i :: md) (v :: vs) ds F
  | v {md : List Md} {v : V} {vs : List V} {ds : List D} {F : List Addr} : Outs K Z H md vs ds F → Outs K Z H (.v :: md) (v :: vs) ds F
  | m {md : List Md} {v : V} {vs : List V} {d : D} {ds : List D} {F G : List Addr} : Own K Z H v d F → Outs K Z H md vs ds G → Outs K Z H (.m :: md) (v :: vs) (d :: ds) (F ++ G)
/-- from one state to another: what does not belong to F stays, F' belongs to F or is new -/
structure Tr (Z H : Hp) (F : List Addr) (Z' H' : Hp) (F' : List Addr) : Prop where
  z : Same Z Z'
  keep : ∀ a o, H a = some o → a ∉ F → (∀ ps, o ≠ .tbl ps) → H' a = some o
  zn : ∀ a, Z' a ≠ none → Z a ≠ none ∨ a ∈ F ∨ H a = none
  fn : ∀ a ∈ F', a ∈ F ∨ H a = none
  fr : ∀ a, H' a = none → a ∈ F ∨ H a = none
  tab : ∀ {n : Bool} a, a ∉ F → TabQ n H a → TabQ n H' a
theorem Tr.refl (Z H : Hp) (F : List Addr) : Tr Z H F Z H F := ⟨Same.refl _, fun _ _ h _ _ => h, fun _ h => .inl h, fun _ h => .inl h, fun _ h => .inr h, fun _ _ h => h⟩
theorem Tr.free {Z H : Hp} {F : List Addr} {Z' H' : Hp} {F' : List Addr} (a : Tr Z H F Z' H' F') {c : Addr} (h : H' c = none) : c ∈ F ∨ H c = none := a.fr c h
theorem tabG_ne {n : Bool} {H : Hp} {a : Addr} (h : TabQ n H a) : H a ≠ none := fun z => by
  obtain ⟨⟨ps, q, _⟩, _⟩ := h
  rw [q] at z
  cases z
theorem Tr.trans {Z H Z1 H1 Z2 H2 : Hp} {F F1 F2 : List Addr} (a : Tr Z H F Z1 H1 F1) (b : Tr Z1 H1 F1 Z2 H2 F2) : Tr Z H F Z2 H2 F2 where
  z := a.z.trans b.z
  keep := fun c o h n t => b.keep c o (a.keep c o h n t) (fun q => (a.fn c q).elim n fun z => by rw [h] at z; cases z) t
  fr := fun c h => (b.fr c h).elim (a.fn c) fun q => a.fr c q
  tab := fun c n h => b.tab c (fun q => (a.fn c q).elim n fun z => tabG_ne h z) (a.tab c n h)
  zn := fun c h => (b.zn c h).elim (a.zn c) fun q => q.elim (fun q => .inr (a.fn c q)) fun q => .inr (a.free q)
  fn := fun c h => (b.fn c h).elim (a.fn c) fun q => a.free q
theorem Ext.tr {Z O H Z' O' H' : Hp} {F G : List Addr} (e : Ext [] Z O H Z' O' H') (n : ∀ a ∈ G, H a = none) : Tr Z H F Z' H' (F ++ G) :=
  ⟨e.z, fun a o h _ n => e.h.s a o h n, (fun a h => (e.zn a h).imp id fun q => q.elim (fun q => .inr q) (fun q => by cases q)), fun a h => (List.mem_append.mp h).imp id (n a), fun a h => .inr (e.h.fr a h), fun a _ h => e.h.tab a h⟩
/-- behind a call -/
structure After (K : PySem.W.Frag) (md : List Md) (vs : List V) (Z H : Hp) (Fm : List Addr) (ms : List D) (Z' H' : Hp) (Fm' G : List Addr) : Prop where
  tr : Tr Z H Fm Z' H' (Fm' ++ G)
  zh : Same Z' H'
  tz : ∀ a o, H' a = some o → fzn o = true → Z' a = some o
  nd : (Fm' ++ G).Nodup
  zf : ∀ a ∈ Fm' ++ G, Z' a = none
  nt : NoT Z'
  tb : Tabs K H'
  outs : Outs K Z' H' md vs ms Fm'
def RetR (r : R) : Prop := r.s = .imm ∨ r.s = .own
def PostF (K : PySem.W.Frag) (md : List Md) (vs : List V) (Z H : Hp) (Fm : List Addr) (Q : VK) (E : XK) : FR → Prop
  | .bad => False
  | .ok r ms => ∀ v H' Z' Fm' G, After K md vs Z H Fm ms Z' H' Fm' G → RetR r → RepR K Z' Z' H' v r G → Q v H'
  | .exc c fs ms => ∀ H' Z' Fm' d xs, After K md vs Z H Fm ms Z' H' Fm' [] → H' d = some (.xd xs) → xs.map (·.1) = fs.map (·.1) → Reps K Z' (xs.map (·.2)) (fs.map (·.2)) → E (.ref (He.ga K c)) (some d) H'
def spF (K : PySem.W.Frag) (md : List Md) (f : Fn) : Sp := fun vs H Q E => vs.length = md.length ∧ ∃ Z ds Fm, Same Z H ∧ NoT Z ∧ Tabs K H ∧ (∀ a o, H a = some o → fzn o = true → Z a = some o) ∧ Args K Z (without H Fm) H md vs ds Fm ∧ Fm.Nodup ∧ (∀ a ∈ Fm, Z a = none) ∧
  PostF K md vs Z H Fm Q E (f ds)

/-! ### a call that changes nothing -/
def pargs : List Md → List R → Option (List D)
  | [], [] => some []
  | .i :: md, r :: rs => match frzR r, pargs md rs with
    | some d, some ds => some (d :: ds)
    | _, _ => none
  | .v :: md, r :: rs => match pargs md rs with
    | some ds => some (r.d :: ds)
    | none => none
  | _, _ => none
def pCall (f : Fn) (md : List Md) (ps : List Px) : Px := fun ρ => (evs ps ρ).bind fun rs => match pargs md rs with
  | some ds => (match f ds with
    | .ok r [] => .ok r
    | .exc c fs [] => .exc c fs
    | _ => .bad)
  | none => .bad
section
variable {K : PySem.W.Frag} {E : XK} {Z O H : Hp} {Q : VK} {W : List Addr}
theorem pargs_ok (g : Good Z O H) : ∀ {md : List Md} {rs : List R} {vs : List V} {G : List Addr} {ds : List D}, RepRs K Z O H vs rs G → pargs md rs = some ds → Args K Z H H md vs ds [] ∧ vs.length = md.length ∧ (∀ Z' H' ms F, Outs K Z' H' md vs ms F → F = [] ∧ ms = []) ∧ (∀ Z' H', Outs K Z' H' md vs [] [])
  | [], [], _, _, _, .nil, e => by
    cases e
    refine ⟨.nil, rfl, fun _ _ _ _ h => ?_, fun _ _ => .nil⟩
    cases h
    exact ⟨rfl, rfl⟩
  | .i :: md, r :: rs, _, _, ds, .cons q s, e => by
    unfold pargs at e
    cases h1 : frzR r with
    | none => rw [h1] at e; cases e
    | some d =>
      rw [h1] at e
      cases h2 : pargs md rs with
      | none => rw [h2] at e; cases e
      | some ds' =>
        rw [h2] at e
        cases e
        obtain ⟨i1, i2, i3, i4⟩ := pargs_ok g s h2
        refine ⟨.i (frzR_ok g q h1) i1, congrArg (· + 1) i2, fun _ _ _ _ h => ?_, fun _ _ => .i (i4 _ _)⟩
        cases h with
        | i h => exact i3 _ _ _ _ h
  | .v :: md, r :: rs, _, _, ds, .cons q s, e => by
    unfold pargs at e
    cases h2 : pargs md rs with
    | none => rw [h2] at e; cases e
    | some ds' =>
      rw [h2] at e
      cases e
      obtain ⟨i1, i2, i3, i4⟩ := pargs_ok g s h2
      refine ⟨.v (q.look g) i1, congrArg (· + 1) i2, fun _ _ _ _ h => ?_, fun _ _ => .v (i4 _ _)⟩
      cases h with
      | v h => exact i3 _ _ _ _ h
  | [], _ :: _, _, _, _, _, e => by cases e
  | .m :: _, _, _, _, _, _, e => by cases e
  | .i :: _, [], _, _, _, _, e => by cases e
  | .v :: _, [], _, _, _, _, e => by cases e
/-- the outer heap behind -/
def oNew (O Z' : Hp) : Hp := fun a => match O a with
  | some o => some o
  | none => Z' a
theorem oNew_some {O Z' : Hp} {a : Addr} {o : HO} (h : O a = some o) : oNew O Z' a = some o := by unfold oNew; rw [h]
theorem oNew_none {O Z' : Hp} {a : Addr} (h : O a = none) : oNew O Z' a = Z' a := by unfold oNew; rw [h]
theorem oNew_good {O Z' H' : Hp} (oh : Same O H') (zh : Same Z' H') (tz : ∀ a o, H' a = some o → fzn o = true → Z' a = some o) (no : NoT O) (nz : NoT Z') : Good Z' (oNew O Z') H' := by
  refine ⟨fun a o h => ?_, fun a o h => ?_, tz, fun a ps h => ?_⟩
  rotate_right
  · cases e : O a with
    | none => rw [oNew_none e] at h; exact nz a ps h
    | some x => rw [oNew_some e] at h; exact no a ps (e.trans h)
  · cases e : O a with
    | none => rw [oNew_none e]; exact h
    | some x =>
      rw [oNew_some e]
      have := oh a x e
      rw [zh a o h] at this
      exact this.symm
  · cases e : O a with
    | none => rw [oNew_none e] at h; exact zh a o h
    | some x => rw [oNew_some e] at h; exact oh a o (e.trans h)
theorem oNew_same {O Z' : Hp} : Same O (oNew O Z') := fun a o h => oNew_some h
theorem RetR.move {K : PySem.W.Frag} {v : V} {r : R} {G : List Addr} {Z O O' H : Hp} (h : RepR K Z O H v r G) (t : RetR r) : RepR K Z O' H v r G := by
  obtain ⟨s, d⟩ := r
  rcases t with t | t
  · cases t; exact h
  · cases t; exact h
theorem call_ok {md : List Md} {f : Fn} {rs : List R} {vs : List V} {G : List Addr} (g : Good Z O H) (tb : Tabs K H) (q : RepRs K Z O H vs rs G)
    (h : ResK K E W Z O H (match pargs md rs with
      | some ds => (match f ds with
        | .ok r [] => .ok r
        | .exc c fs [] => .exc c fs
        | _ => .bad)
      | none => .bad) Q) : spF K md f vs H Q E := by
  cases e : pargs md rs with
  | none => rw [e] at h; exact h.elim
  | some ds =>
    rw [e] at h
    obtain ⟨i1, i2, i3, i4⟩ := pargs_ok g q e
    refine ⟨i2, Z, ds, [], g.zh, g.ntz, tb, g.tz, i1.monoV (without_sameN H), List.nodup_nil, (fun a ha => by cases ha), ?_⟩
    have h2 : ResK K E W Z O H (match f ds with
        | .ok r [] => .ok r
        | .exc c fs [] => .exc c fs
        | _ => .bad) Q := h
    cases e2 : f ds with
    | bad => rw [e2] at h2; exact h2.elim
    | ok r ms =>
      rw [e2] at h2
      cases ms with
      | cons _ _ => exact h2.elim
      | nil =>
        intro v H' Z' Fm' G' A t r1
        obtain ⟨rfl, _⟩ := i3 _ _ _ _ A.outs
        have sh : SameT H H' := ⟨fun a o q n => A.tr.keep a o q (by simp) n, fun a q => (A.tr.fr a q).elim (fun z => by cases z) id, fun a q => A.tr.tab a (by simp) q⟩
        refine h2 v H' Z' (oNew O Z') G' ⟨sh, A.tr.z, oNew_same, (fun a q => (A.tr.zn a q).imp id fun q => q.elim (fun q => by cases q) .inl), fun a q => ?_⟩ (oNew_good (g.ohT sh) A.zh A.tz g.nt A.nt) (RetR.move r1 t) A.nd fun a ha => ?_
        · cases w : O a with
          | some x => exact .inl (by simp)
          | none =>
            rw [oNew_none w] at q
            rcases A.tr.zn a q with q | q | q
            · exact absurd (g.zo.free w) q
            · cases q
            · exact .inr (.inl q)
        · have hn : H a = none := (A.tr.fn a ha).elim (fun q => by cases q) id
          exact ⟨.inl hn, by rw [oNew_none (none_of g.oh hn)]; exact A.zf a ha⟩
    | exc c fs ms =>
      rw [e2] at h2
      cases ms with
      | cons _ _ => exact h2.elim
      | nil =>
        intro H' Z' Fm' d xs A hd ek rk
        obtain ⟨rfl, _⟩ := i3 _ _ _ _ A.outs
        have sh : SameT H H' := ⟨fun a o q n => A.tr.keep a o q (by simp) n, fun a q => (A.tr.fr a q).elim (fun z => by cases z) id, fun a q => A.tr.tab a (by simp) q⟩
        refine h2 H' Z' (oNew O Z') d xs ⟨sh, A.tr.z, oNew_same, (fun a q => (A.tr.zn a q).imp id fun q => q.elim (fun q => by cases q) .inl), fun a q => ?_⟩ (oNew_good (g.ohT sh) A.zh A.tz g.nt A.nt) hd ek rk
        cases w : O a with
        | some x => exact .inl (by simp)
        | none =>
          rw [oNew_none w] at q
          rcases A.tr.zn a q with q | q | q
          · exact absurd (g.zo.free w) q
          · cases q
          · exact .inr (.inl q)
end
section
variable {X : Cx} {E : XK} {CX : CXT} {k : Nat} {f : Addr} {fd : FuncData} {ps : List Str} {md : List Md} {fn : Fn} {x : Str} {p pos : Pos} {e : Expr} {es : List Expr} {qs : List Px}
theorem tP_call {K : PySem.W.Frag} {σ : St} {H : Hp} {Q : VK} (h : tP K E (pCall fn md qs) σ H Q) : tCall (spF K md fn) [] E (tA K E qs) σ H Q := by
  refine tA_bind h fun Z O H1 G vs rs g q nd fo h2 tb => ?_
  rw [List.append_nil]
  exact call_ok g tb q h2
theorem s_call (F : FnOk X.prog X.w X.K X.mg X.base CX k f fd ps (spF X.K md fn)) (hr : Room k X.A) (hg : Gl X x) (hm : X.mg x = some (.ref f)) (hk : PySem.W.keepIn X.K (.ref f) = true) (hb : Binds X.K fd ps []) (hx : Passes CX X E)
    (ha : PA X (e :: es) (tA X.K E qs)) (hdb : (x == ("__debug__" : Str)) = false := by decide) (he : starEach (e :: es) X.env = (false, eval e X.env) :: starEach es X.env := by rfl) (hpl : (backTo pos (starEach es X.env)).any (·.1) = false := by rfl) :
    PE X (.Call (.Name x p) (e :: es) [] pos) (tP X.K E (pCall fn md qs)) :=
  (pe_call F hr hg hm hk hb .nil hx ha hdb he hpl).imp fun _ _ _ h => tP_call h
end

/-! ### statements -/
inductive SR where
  | bad
  | next (ρ : Ev)
  | ret (r : R) (ρ : Ev)
  | exc (c : Str) (fs : List (Str × D)) (ρ : Ev)
abbrev Stx := Ev → SR
/-- from a state to another, the frame too -/
structure TrS (Z O H : Hp) (σ : St) (ρ : Ev) (F : List Addr) (Z' O' H' : Hp) (σ' : St) (ρ' : Ev) (F' : List Addr) : Prop where
  tr : Tr Z H F Z' H' F'
  o : Same O O'
  len : σ'.length = σ.length
  brw : ∀ (j : Nat) (d : D), ρ[j]? = some (some (R.mk .brw d)) → σ'[j]? = σ[j]? ∧ ∃ d', ρ'[j]? = some (some (R.mk .brw d'))
  on : ∀ a, O' a ≠ none → O a ≠ none ∨ a ∈ F ∨ H a = none
theorem TrS.refl (Z O H : Hp) (σ : St) (ρ : Ev) (F : List Addr) : TrS Z O H σ ρ F Z O H σ ρ F := ⟨Tr.refl _ _ _, Same.refl _, rfl, fun _ d h => ⟨rfl, d, h⟩, fun _ h => .inl h⟩
theorem TrS.trans {Z O H Z1 O1 H1 Z2 O2 H2 : Hp} {σ σ1 σ2 : St} {ρ ρ1 ρ2 : Ev} {F F1 F2 : List Addr} (a : TrS Z O H σ ρ F Z1 O1 H1 σ1 ρ1 F1) (b : TrS Z1 O1 H1 σ1 ρ1 F1 Z2 O2 H2 σ2 ρ2 F2) : TrS Z O H σ ρ F Z2 O2 H2 σ2 ρ2 F2 :=
  ⟨a.tr.trans b.tr, a.o.trans b.o, b.len.trans a.len, fun j d h => by
    obtain ⟨e1, d1, h1⟩ := a.brw j d h
    obtain ⟨e2, d2, h2⟩ := b.brw j d1 h1
    exact ⟨e2.trans e1, d2, h2⟩, fun c h => (b.on c h).elim (a.on c) fun q => q.elim (fun q => .inr (a.tr.fn c q)) fun q => .inr (a.tr.free q)⟩
def SRK (K : PySem.W.Frag) (E : XK) (Z O H : Hp) (σ : St) (ρ : Ev) (F : List Addr) (nx : St → Hp → Prop) (rt : VK) : SR → Prop
  | .bad => False
  | .next ρ' => ∀ σ' H' Z' O' F', Rel K Z' O' H' σ' ρ' F' → nov ρ' = true → TrS Z O H σ ρ F Z' O' H' σ' ρ' F' → nx σ' H'
  | .ret r ρ' => ∀ v σ' H' Z' O' F' G, Rel K Z' O' H' σ' ρ' F' → RepR K Z' O' H' v r G → (F' ++ G).Nodup → (∀ a ∈ G, O' a = none) → Tr Z H F Z' H' (F' ++ G) → TrS Z O H σ ρ F Z' O' H' σ' ρ' F' → rt v H'
  | .exc c fs ρ' => ∀ σ' H' Z' O' F' d xs, Rel K Z' O' H' σ' ρ' F' → TrS Z O H σ ρ F Z' O' H' σ' ρ' F' → H' d = some (.xd xs) → xs.map (·.1) = fs.map (·.1) → Reps K Z' (xs.map (·.2)) (fs.map (·.2)) → E (.ref (He.ga K c)) (some d) H'
def tS (K : PySem.W.Frag) (E : XK) (s : Stx) : TS := fun D σ H => ∃ Z O ρ F, Rel K Z O H σ ρ F ∧ nov ρ = true ∧ SRK K E Z O H σ ρ F D.nx D.rt (s ρ)
section
variable {K : PySem.W.Frag} {E : XK} {Z O H Z1 O1 H1 : Hp} {σ σ1 : St} {ρ ρ1 : Ev} {F F1 : List Addr} {nx : St → Hp → Prop} {rt : VK}
theorem SRK.from {r : SR} (h : SRK K E Z O H σ ρ F nx rt r) (t : TrS Z O H σ ρ F Z1 O1 H1 σ1 ρ1 F1) : SRK K E Z1 O1 H1 σ1 ρ1 F1 nx rt r := by
  cases r with
  | bad => exact h
  | next ρ' => exact fun σ' H' Z' O' F' q n u => h σ' H' Z' O' F' q n (t.trans u)
  | ret r ρ' => exact fun v σ' H' Z' O' F' G q w nd fo u u2 => h v σ' H' Z' O' F' G q w nd fo (t.tr.trans u) (t.trans u2)
  | exc c fs ρ' => exact fun σ' H' Z' O' F' d xs q u hd e1 e2 => h σ' H' Z' O' F' d xs q (t.trans u) hd e1 e2
end
end Oz

namespace Oz
open PySem PySem.Spec L2
open PyProof.Rows hiding St
variable [WD]

/-! ### storing -/
def storable (r : R) : Bool := match r.s with
  | .imm => true
  | .out => true
  | .own => true
  | _ => false
def setS (i : Nat) (r : R) (ρ : Ev) : Option Ev := match ρ[i]? with
  | none => none
  | some (some ⟨.brw, _⟩) => none
  | some _ => if storable r = true then some (ρ.set i (some r)) else none
section
variable {K : PySem.W.Frag} {E : XK} {Z O H Z1 O1 H1 : Hp} {σ : St} {ρ ρ' : Ev} {F G : List Addr} {v : V} {r : R} {i : Nat}
theorem setS_some (h : setS i r ρ = some ρ') : i < ρ.length ∧ (∀ d, ρ[i]? ≠ some (some ⟨.brw, d⟩)) ∧ storable r = true ∧ ρ' = ρ.set i (some r) := by
  unfold setS at h
  cases e : ρ[i]? with
  | none => rw [e] at h; cases h
  | some y =>
    obtain ⟨hl, _⟩ := List.getElem?_eq_some_iff.mp e
    rw [e] at h
    have fin : (if storable r = true then some (ρ.set i (some r)) else none) = some ρ' → storable r = true ∧ ρ' = ρ.set i (some r) := fun h => by
      by_cases c : storable r = true
      · rw [if_pos c] at h; exact ⟨c, (Option.some.inj h).symm⟩
      · rw [if_neg c] at h; cases h
    cases y with
    | none =>
      obtain ⟨h1, h2⟩ := fin h
      exact ⟨hl, (fun d q => by cases q), h1, h2⟩
    | some q =>
      obtain ⟨s, d⟩ := q
      cases s with
      | brw => cases h
      | imm => obtain ⟨h1, h2⟩ := fin h; exact ⟨hl, (fun d q => by cases q), h1, h2⟩
      | out => obtain ⟨h1, h2⟩ := fin h; exact ⟨hl, (fun d q => by cases q), h1, h2⟩
      | view => obtain ⟨h1, h2⟩ := fin h; exact ⟨hl, (fun d q => by cases q), h1, h2⟩
      | own => obtain ⟨h1, h2⟩ := fin h; exact ⟨hl, (fun d q => by cases q), h1, h2⟩
      | tab => obtain ⟨h1, h2⟩ := fin h; exact ⟨hl, (fun d q => by cases q), h1, h2⟩
theorem nov_set {i : Nat} {y : Option R} (n : nov ρ = true) (hy : ∀ d, y ≠ some ⟨.view, d⟩) : nov (ρ.set i y) = true := by
  unfold nov at n ⊢
  rw [List.all_eq_true] at n ⊢
  intro x hx
  rcases List.mem_or_eq_of_mem_set hx with h | h
  · exact n x h
  · subst h
    cases x with
    | none => rfl
    | some r =>
      obtain ⟨s, d⟩ := r
      cases s with
      | view => exact absurd rfl (hy d)
      | _ => rfl
/-- the frame with a new thing at i -/
theorem Rel.set (rl : Rel K Z O H σ ρ F) (n : nov ρ = true) (q : RepR K Z O H v r G) (nd : G.Nodup) (dj : ∀ a ∈ G, a ∉ F) (fo : ∀ a ∈ G, O a = none) (h : setS i r ρ = some ρ') :
    ∃ F', Rel K Z O H (σ.set i (some v)) ρ' F' ∧ nov ρ' = true ∧ (∀ a ∈ F', a ∈ F ∨ a ∈ G) ∧ (σ.set i (some v)).length = σ.length ∧
      ∀ (j : Nat) (d : D), ρ[j]? = some (some (R.mk .brw d)) → (σ.set i (some v))[j]? = σ[j]? ∧ ∃ d', ρ'[j]? = some (some (R.mk .brw d')) := by
  obtain ⟨hl, nb, st, rfl⟩ := setS_some h
  obtain ⟨x, y, F1, G0, F2, h1, h2, h3, h4, h5⟩ := rl.sl.focus hl
  subst h3
  have sl := h5 (some v) (some r) G Z O H (Same.refl _) (Same.refl _) (.inl fun _ _ q _ => q) (fun a _ o q _ => q) (.inl q)
  refine ⟨_, ⟨rl.g, ?_, fun a ha => ?_, sl, rl.tb⟩, nov_set n (fun d e => ?_), fun a ha => ?_, by simp, fun j d hj => ?_⟩
  · have nF := rl.nd
    rw [List.nodup_append] at nF
    obtain ⟨n1, n2, n3⟩ := nF
    rw [List.nodup_append] at n2
    obtain ⟨n4, n5, n6⟩ := n2
    rw [List.nodup_append]
    refine ⟨n1, ?_, fun a ha b hb => ?_⟩
    · rw [List.nodup_append]
      exact ⟨nd, n5, fun a ha b hb e => dj a ha (by rw [e]; simp [hb])⟩
    · rcases List.mem_append.mp hb with hb | hb
      · exact fun e => dj b hb (by rw [← e]; simp [ha])
      · exact n3 a ha b (List.mem_append_right _ hb)
  · rcases List.mem_append.mp ha with ha | ha
    · exact rl.fo a (by simp [ha])
    · rcases List.mem_append.mp ha with ha | ha
      · exact fo a ha
      · exact rl.fo a (by simp [ha])
  · cases e
    cases st
  · rcases List.mem_append.mp ha with ha | ha
    · exact .inl (by simp [ha])
    · rcases List.mem_append.mp ha with ha | ha
      · exact .inr ha
      · exact .inl (by simp [ha])
  · have ne : i ≠ j := fun e => nb d (by rw [e]; exact hj)
    exact ⟨List.getElem?_set_ne ne, d, by rw [List.getElem?_set_ne ne]; exact hj⟩
end

/-! ### the statements that do not nest -/
def sAsg (i : Nat) (p : Px) : Stx := fun ρ => match p ρ with
  | .bad => .bad
  | .exc c fs => .exc c fs ρ
  | .ok r => (match setS i r ρ with
    | some ρ' => .next ρ'
    | none => .bad)
def sRet (p : Px) : Stx := fun ρ => match p ρ with
  | .bad => .bad
  | .exc c fs => .exc c fs ρ
  | .ok r => if storable r = true then .ret r ρ else .bad
/-- return of a name: what is one's own is handed on -/
def sRetV (i : Nat) : Stx := fun ρ => match ρ[i]? with
  | some (some ⟨.own, d⟩) => .ret ⟨.own, d⟩ (ρ.set i none)
  | _ => sRet (pVar i) ρ
def sDrop (p : Px) : Stx := fun ρ => match p ρ with
  | .bad => .bad
  | .exc c fs => .exc c fs ρ
  | .ok _ => .next ρ
def sNext : Stx := fun ρ => .next ρ
def sSeq (s t : Stx) : Stx := fun ρ => match s ρ with
  | .next ρ' => t ρ'
  | r => r
def sIf (c : Tx) (s t : Stx) : Stx := fun ρ => match c ρ with
  | .bad => .bad
  | .exc x fs => .exc x fs ρ
  | .ok b => if b = true then s ρ else t ρ
section
variable {K : PySem.W.Frag} {E : XK} {Z O H Z1 O1 H1 : Hp} {σ : St} {ρ ρ' : Ev} {F G : List Addr} {nx : St → Hp → Prop} {rt : VK}
theorem TrS.ext (e : Ext [] Z O H Z1 O1 H1) : TrS Z O H σ ρ F Z1 O1 H1 σ ρ F := ⟨by have := e.tr (F := F) (G := []) (fun a h => by cases h); rwa [List.append_nil] at this, e.o, rfl, fun _ d h => ⟨rfl, d, h⟩, fun c h => (e.on c h).imp id fun q => q.elim .inr fun q => by cases q⟩
theorem SRK.exc {c : Str} {fs : List (Str × D)} (rl : Rel K Z O H σ ρ F) (h : SRK K E Z O H σ ρ F nx rt (.exc c fs ρ)) : ExcK K E Z O H c fs := fun H' Z' O' d xs e g q a b =>
  h σ H' Z' O' F d xs (rl.ext e g) (TrS.ext e) q a b
/-- an expression ahead -/
theorem tS_expr {p : Px} {s : R → Ev → SR} {D : Ends} (h : tS K E (fun ρ => match p ρ with
      | .bad => .bad
      | .exc c fs => .exc c fs ρ
      | .ok r => s r ρ) D σ H) {T : V → Hp → Prop}
    (next : ∀ (Z0 O0 Z O H1 : Hp) (ρ : Ev) (F G : List Addr) (v : V) (r : R), Rel K Z O H1 σ ρ F → nov ρ = true → RepR K Z O H1 v r G → G.Nodup → (∀ a ∈ G, a ∉ F) → (∀ a ∈ G, O a = none) → (∀ a ∈ G, H a = none) → TrS Z0 O0 H σ ρ F Z O H1 σ ρ F → SRK K E Z0 O0 H σ ρ F D.nx D.rt (s r ρ) → T v H1) : tP K E p σ H T := by
  obtain ⟨Z, O, ρ, F, rl, n, h⟩ := h
  refine ⟨Z, O, ρ, F, rl, ?_⟩
  have h1 : SRK K E Z O H σ ρ F D.nx D.rt (match p ρ with
      | .bad => .bad
      | .exc c fs => .exc c fs ρ
      | .ok r => s r ρ) := h
  cases e : p ρ with
  | bad => rw [e] at h1; exact h1.elim
  | exc c fs => rw [e] at h1; exact SRK.exc rl h1
  | ok r =>
    rw [e] at h1
    intro v H1 Z1 O1 G x1 g1 q nd fr
    have hn : ∀ a ∈ G, H a = none := fun a ha => (fr a ha).1.elim id fun z => by cases z
    refine next Z O Z1 O1 H1 ρ F G v r (rl.ext x1 g1) n q nd (fun a ha z => ?_) (fun a ha => (fr a ha).2) hn (TrS.ext x1) h1
    obtain ⟨o, w, _⟩ := rl.sl.live a z
    rw [hn a ha] at w
    cases w
end
section
variable {X : Cx} {E : XK} {e c : Expr} {p : Px} {t : Tx} {a b : List Stmt} {st : Stmt} {rest : List Stmt} {s u : Stx} {pos pos' : Pos} {x : Str}
theorem s_asg (i : Nat) (hN : X.N.Nodup) (he : PE X e (tP X.K E p)) (hi : X.N[i]? = some x := by rfl) (hx : Loc X.env.scope x := by first | exact Or.inl rfl | exact Or.inr rfl) (hs : swapsWith e (some (.Name x pos')) pos.line X.env = pure false := by rfl)
    (hf : X.fn x = true ∨ X.env.scope.names.lookup x = some .local := by first | exact .inl rfl | exact .inr rfl | assumption) : PS X (.Assign [.Name x pos'] e pos) (tS X.K E (sAsg i p)) := by
  refine (ps_set hN hi hx he hs hf).imp fun D σ H h => ?_
  refine tS_expr (s := fun r ρ => match setS i r ρ with | some ρ' => .next ρ' | none => .bad) h fun Z0 O0 Z O H1 ρ F G v r rl n q nd dj fo fh tr h2 => ?_
  cases z : setS i r ρ with
  | none => rw [z] at h2; exact h2.elim
  | some ρ' =>
    rw [z] at h2
    obtain ⟨F', rl', n', sub, ln, bw⟩ := rl.set n q nd dj fo z
    refine h2 _ H1 Z O F' rl' n' ⟨⟨tr.tr.z, tr.tr.keep, tr.tr.zn, fun a ha => ?_, tr.tr.fr, tr.tr.tab⟩, tr.o, ln, bw, tr.on⟩
    exact (sub a ha).imp id (fh a)
theorem s_ret (he : PE X e (tP X.K E p)) : PS X (.Return (some e) pos) (tS X.K E (sRet p)) := by
  refine (ps_ret he).imp fun D σ H h => ?_
  refine tS_expr (s := fun r ρ => if storable r = true then .ret r ρ else .bad) h fun Z0 O0 Z O H1 ρ F G v r rl n q nd dj fo fh tr h2 => ?_
  by_cases c : storable r = true
  · rw [if_pos c] at h2
    refine h2 v σ H1 Z O F G rl q ?_ fo ⟨tr.tr.z, tr.tr.keep, tr.tr.zn, fun a ha => ?_, tr.tr.fr, tr.tr.tab⟩ tr
    · rw [List.nodup_append]
      exact ⟨rl.nd, nd, fun a ha b hb e => dj b hb (e ▸ ha)⟩
    · rcases List.mem_append.mp ha with ha | ha
      · exact tr.tr.fn a ha
      · exact .inr (fh a ha)
  · rw [if_neg c] at h2
    exact h2.elim
theorem s_nil : PSs X [] (tS X.K E sNext) := pss_nil.imp fun D σ H h => by
  obtain ⟨Z, O, ρ, F, rl, n, h⟩ := h
  exact h σ H Z O F rl n (TrS.refl _ _ _ _ _ _)
theorem s_last (h : PS X st (tS X.K E s)) : PSs X [st] (tS X.K E s) := pss_one h
theorem s_cons (h1 : PS X st (tS X.K E s)) (h2 : PSs X rest (tS X.K E u)) : PSs X (st :: rest) (tS X.K E (sSeq s u)) := by
  refine (pss_cons h1 h2).imp fun D σ H h => ?_
  obtain ⟨Z, O, ρ, F, rl, n, h⟩ := h
  refine ⟨Z, O, ρ, F, rl, n, ?_⟩
  unfold sSeq at h
  cases e : s ρ with
  | bad => rw [e] at h; exact h
  | ret r ρ' => rw [e] at h; exact h
  | exc c fs ρ' => rw [e] at h; exact h
  | next ρ' =>
    rw [e] at h
    have h2 : SRK X.K E Z O H σ ρ F D.nx D.rt (u ρ') := h
    exact fun σ' H' Z' O' F' rl' n' tr => ⟨Z', O', ρ', F', rl', n', SRK.from h2 tr⟩
theorem s_ifS (hc : PT X c (tT X.K E t)) (ha : PSs X a (tS X.K E s)) (hb : PSs X b (tS X.K E u)) : PS X (.If c a b pos) (tS X.K E (sIf t s u)) := by
  refine (ps_if hc ha hb).imp fun D σ H h => ?_
  obtain ⟨Z, O, ρ, F, rl, n, h⟩ := h
  refine ⟨Z, O, ρ, F, rl, ?_⟩
  unfold sIf at h
  cases e : t ρ with
  | bad => rw [e] at h; exact h.elim
  | exc c fs => rw [e] at h; exact SRK.exc rl h
  | ok k =>
    rw [e] at h
    intro H1 Z1 O1 x1 g1
    have h2 : SRK X.K E Z O H σ ρ F D.nx D.rt (if k = true then s ρ else u ρ) := h
    cases k with
    | true => exact ⟨Z1, O1, ρ, F, rl.ext x1 g1, n, SRK.from h2 (TrS.ext x1)⟩
    | false => exact ⟨Z1, O1, ρ, F, rl.ext x1 g1, n, SRK.from h2 (TrS.ext x1)⟩
end

/-! ### a def by its body -/
def entR : Md → D → R
  | .i, d => ⟨.imm, d⟩
  | .v, d => if lf d = true then ⟨.imm, d⟩ else ⟨.out, d⟩
  | .m, d => ⟨.brw, d⟩
theorem entR_t {d : D} (l : lf d = true) : entR .v d = ⟨.imm, d⟩ := if_pos l
theorem entR_f {d : D} (l : ¬ lf d = true) : entR .v d = ⟨.out, d⟩ := if_neg l
def entE : List Md → List D → Nat → Ev
  | m :: md, d :: ds, n => some (entR m d) :: entE md ds (n - 1)
  | _, _, n => List.replicate n none
def outsE : List Md → Ev → Option (List D)
  | [], _ => some []
  | .m :: md, some ⟨.brw, d⟩ :: ρ => (match outsE md ρ with
    | some ds => some (d :: ds)
    | none => none)
  | .m :: _, _ => none
  | .i :: md, _ :: ρ => outsE md ρ
  | .v :: md, _ :: ρ => outsE md ρ
  | _ :: _, [] => none
def exitE (md : List Md) (r : R) (ρ : Ev) : FR := if r.s = .imm ∨ r.s = .own then (match outsE md ρ with
  | some ms => .ok r ms
  | none => .bad) else .bad
def fnD (n : Nat) (md : List Md) (b : Stx) : Fn := fun ds => match b (entE md ds n) with
  | .bad => .bad
  | .next ρ => exitE md ⟨.imm, .none⟩ ρ
  | .ret r ρ => exitE md r ρ
  | .exc c fs ρ => (match outsE md ρ with
    | some ms => .exc c fs ms
    | none => .bad)
section
variable {K : PySem.W.Frag} {Z H : Hp}
theorem slots_none : ∀ n : Nat, Slots K Z O H (List.replicate n none) (List.replicate n none) []
  | 0 => .nil
  | n + 1 => by rw [List.replicate_succ, List.replicate_succ]; exact .non (slots_none n)
theorem ent_slots {Fm : List Addr} (tz : ∀ a o, H a = some o → fzn o = true → Z a = some o) : ∀ {md : List Md} {vs : List V} {ds : List D} {F : List Addr} (n : Nat), Args K Z (without H Fm) H md vs ds F → vs.length ≤ n → Slots K Z (without H Fm) H (vs.map some ++ List.replicate (n - vs.length) none) (entE md ds n) F
  | [], [], [], _, n, .nil, _ => by
    show Slots K Z (without H Fm) H ([] ++ List.replicate (n - 0) none) (List.replicate n none) []
    rw [List.nil_append, Nat.sub_zero]
    exact slots_none n
  | .i :: md, v :: vs, d :: ds, F, n + 1, .i r a, h => by
    have ih := ent_slots tz n a (by simpa using h)
    have e : n + 1 - (v :: vs).length = n - vs.length := by simp
    rw [e]
    exact .val (F := []) (.inl ⟨r, rfl⟩) ih
  | .v :: md, v :: vs, d :: ds, F, n + 1, .v r a, h => by
    have ih := ent_slots tz n a (by simpa using h)
    have e : n + 1 - (v :: vs).length = n - vs.length := by simp
    rw [e]
    refine .val (F := []) (r := entR .v d) ?_ ih
    by_cases l : lf d = true
    · rw [entR_t l]
      exact .inl ⟨(r.mono (fun a o q => (without_some q).1)).up tz l, rfl⟩
    · rw [entR_f l]
      exact .inl ⟨r, rfl⟩
  | .m :: md, v :: vs, d :: ds, _, n + 1, .m r a, h => by
    have ih := ent_slots tz n a (by simpa using h)
    have e : n + 1 - (v :: vs).length = n - vs.length := by simp
    rw [e]
    exact .val (r := entR .m d) (.inl r) ih
  | .i :: _, _ :: _, _ :: _, _, 0, .i _ _, h => by simp at h
  | .v :: _, _ :: _, _ :: _, _, 0, .v _ _, h => by simp at h
  | .m :: _, _ :: _, _ :: _, _, 0, .m _ _, h => by simp at h
theorem ent_nov : ∀ (md : List Md) (ds : List D) (n : Nat), nov (entE md ds n) = true
  | m :: md, d :: ds, n => by
    show (_ && nov (entE md ds (n - 1))) = true
    rw [ent_nov md ds (n - 1), Bool.and_true]
    cases m with
    | i => rfl
    | m => rfl
    | v =>
      by_cases l : lf d = true
      · rw [entR_t l]
      · rw [entR_f l]
  | [], _, n => by
    unfold entE nov
    rw [List.all_replicate]
    by_cases h : n = 0
    · simp [h]
    · simp [h]
  | _ :: _, [], n => by
    unfold entE nov
    rw [List.all_replicate]
    by_cases h : n = 0
    · simp [h]
    · simp [h]
theorem ent_brw : ∀ {md : List Md} {ds : List D} {n : Nat} {j : Nat}, md[j]? = some .m → j < ds.length → ∃ d, (entE md ds n)[j]? = some (some (R.mk .brw d))
  | m :: md, d :: ds, n, 0, h, _ => by
    simp at h
    subst h
    exact ⟨d, rfl⟩
  | m :: md, d :: ds, n, j + 1, h, hl => by
    obtain ⟨d', h'⟩ := ent_brw (md := md) (ds := ds) (n := n - 1) (j := j) (by simpa using h) (by simpa using hl)
    exact ⟨d', by simpa [entE] using h'⟩
  | [], _, _, _, h, _ => by simp at h
  | _ :: _, [], _, _, _, hl => by simp at hl
theorem Args.lens : ∀ {Hv : Hp} {md : List Md} {vs : List V} {ds : List D} {F : List Addr}, Args K Z Hv H md vs ds F → ds.length = md.length ∧ vs.length = md.length
  | _, _, _, _, _, .nil => ⟨rfl, rfl⟩
  | _, _, _, _, _, .i _ a => ⟨congrArg (· + 1) a.lens.1, congrArg (· + 1) a.lens.2⟩
  | _, _, _, _, _, .v _ a => ⟨congrArg (· + 1) a.lens.1, congrArg (· + 1) a.lens.2⟩
  | _, _, _, _, _, .m _ a => ⟨congrArg (· + 1) a.lens.1, congrArg (· + 1) a.lens.2⟩
theorem outs_of {O : Hp} : ∀ {md : List Md} {vs : List V} {σ : List (Option V)} {ρ : Ev} {F : List Addr} {ms : List D}, Slots K Z O H σ ρ F → vs.length = md.length → (∀ (j : Nat) (v : V), md[j]? = some Md.m → vs[j]? = some v → σ[j]? = some (some v)) → outsE md ρ = some ms →
    ∃ Fm, Outs K Z H md vs ms Fm ∧ Fm.Sublist F
  | [], [], σ, ρ, F, ms, _, _, _, e => by
    cases e
    exact ⟨[], .nil, List.nil_sublist _⟩
  | .i :: md, v :: vs, _, _, F, ms, .non s, hl, h, e => by
    obtain ⟨Fm, o, sb⟩ := outs_of (md := md) (vs := vs) s (by simpa using hl) (fun j w h1 h2 => by simpa using h (j + 1) w (by simpa using h1) (by simpa using h2)) e
    exact ⟨Fm, .i o, sb⟩
  | .i :: md, v :: vs, _, _, _, ms, .val r s, hl, h, e => by
    obtain ⟨Fm, o, sb⟩ := outs_of (md := md) (vs := vs) s (by simpa using hl) (fun j w h1 h2 => by simpa using h (j + 1) w (by simpa using h1) (by simpa using h2)) e
    exact ⟨Fm, .i o, sb.trans (List.sublist_append_right _ _)⟩
  | .v :: md, v :: vs, _, _, F, ms, .non s, hl, h, e => by
    obtain ⟨Fm, o, sb⟩ := outs_of (md := md) (vs := vs) s (by simpa using hl) (fun j w h1 h2 => by simpa using h (j + 1) w (by simpa using h1) (by simpa using h2)) e
    exact ⟨Fm, .v o, sb⟩
  | .v :: md, v :: vs, _, _, _, ms, .val r s, hl, h, e => by
    obtain ⟨Fm, o, sb⟩ := outs_of (md := md) (vs := vs) s (by simpa using hl) (fun j w h1 h2 => by simpa using h (j + 1) w (by simpa using h1) (by simpa using h2)) e
    exact ⟨Fm, .v o, sb.trans (List.sublist_append_right _ _)⟩
  | .m :: md, v :: vs, _, _, F, ms, .non s, hl, h, e => by cases e
  | .m :: md, v :: vs, some x :: σ, some ⟨sx, d⟩ :: ρ, _, ms, .val r s, hl, h, e => by
    cases sx with
    | brw =>
      unfold outsE at e
      cases e2 : outsE md ρ with
      | none => rw [e2] at e; cases e
      | some ds =>
        rw [e2] at e
        cases e
        obtain ⟨Fm, o, sb⟩ := outs_of (md := md) (vs := vs) s (by simpa using hl) (fun j w h1 h2 => by simpa using h (j + 1) w (by simpa using h1) (by simpa using h2)) e2
        have hx : x = v := by
          have := h 0 v rfl rfl
          simpa using this
        subst hx
        exact ⟨_, .m (RepS.rep r nofun) o, List.Sublist.append (List.Sublist.refl _) sb⟩
    | _ => cases e
  | .i :: _, _ :: _, [], [], _, _, .nil, _, _, e => by cases e
  | .v :: _, _ :: _, [], [], _, _, .nil, _, _, e => by cases e
  | .m :: _, _ :: _, [], [], _, _, .nil, _, _, e => by cases e
  | [], _ :: _, _, _, _, _, _, hl, _, _ => by simp at hl
  | _ :: _, [], _, _, _, _, _, hl, _, _ => by simp at hl
end
section
variable {P : Program} {w : World} {K : PySem.W.Frag} {mg : Str → Option Value} {base : Heap} {x qual : Str} {params : Arguments} {body : List Stmt} {scope : Scope} {f : Addr} {fd : FuncData}
theorem fnd_okC {CX : CXT} {N ps : List Str} {k : Nat} {sp : Sp} (F : FunD K x qual params body scope [] [] f fd) (S : FnScope N ps scope) (len : ∀ vs H Q E, sp vs H Q E → vs.length = ps.length)
    (hbody : ∀ (A : Around) (outer : List Env) (s : Shared) (H : Hp) (vs : List V) (Q : VK) (E : XK), Room k (A.deeper (envOfC qual scope s.heap.objs.size f fd.code)) → sp vs H Q E →
      ∃ t, PSs (cxOf CX P w K mg base N qual scope f fd.code A outer s H E) body t ∧ t { nx := fun _ H' => Q .non H', rt := Q } (start N vs) H) : FnOk P w K mg base CX (k + 1) f fd ps sp := by
  obtain ⟨oc, od, dV, kV, doc, pm, an, cdv, ct, osl, rfl, lk, hcd, _, _⟩ := F.ex
  exact fn_of lk hcd S len fun A outer s H vs Q E hr hsp => hbody A outer s H vs Q E hr hsp
/-- what a def's body is to meet -/
theorem body_t {N : List Str} {md : List Md} {b : Stx} {vs : List V} {H : Hp} {Q : VK} {E : XK} (hN : md.length ≤ N.length) (h : spF K md (fnD N.length md b) vs H Q E) : tS K E b { nx := fun _ H' => Q .non H', rt := Q } (start N vs) H := by
  obtain ⟨lv, Z, ds, Fm, zh, ntz, tb, tz, ar, nd, zf, post⟩ := h
  have rl : Rel K Z (without H Fm) H (start N vs) (entE md ds N.length) Fm := by
    refine ⟨⟨fun a o h => ?_, fun a o h => (without_some h).1, tz, without_noT H Fm⟩, nd, fun a ha => ?_, ent_slots tz N.length ar (by rw [lv]; exact hN), tb⟩
    · unfold without
      rw [if_neg (fun q => by rw [zf a q] at h; cases h), zh a o h]
      exact noTb_of fun ps e => ntz a ps (by rw [h, e])
    · unfold without
      rw [if_pos ha]
  refine ⟨Z, without H Fm, _, Fm, rl, ent_nov _ _ _, ?_⟩
  have post2 : PostF K md vs Z H Fm Q E (match b (entE md ds N.length) with
    | .bad => .bad
    | .next ρ => exitE md ⟨.imm, .none⟩ ρ
    | .ret r ρ => exitE md r ρ
    | .exc c fs ρ => (match outsE md ρ with
      | some ms => .exc c fs ms
      | none => .bad)) := post
  -- the borrowed ones, behind
  have outs : ∀ {σ' : St} {ρ' : Ev} {H' Z' O' : Hp} {F' : List Addr} {ms : List D}, Rel K Z' O' H' σ' ρ' F' → TrS Z (without H Fm) H (start N vs) (entE md ds N.length) Fm Z' O' H' σ' ρ' F' → outsE md ρ' = some ms → ∃ F2, Outs K Z' H' md vs ms F2 ∧ F2.Sublist F' := fun {σ' ρ' H' Z' O' F' ms} rl' tr e => by
    refine outs_of rl'.sl lv (fun j v h1 h2 => ?_) e
    obtain ⟨hj, _⟩ := List.getElem?_eq_some_iff.mp h1
    obtain ⟨d, h3⟩ := ent_brw (ds := ds) (n := N.length) h1 (by rw [ar.lens.1]; exact hj)
    rw [(tr.brw j d h3).1]
    unfold L2.start
    rw [List.getElem?_append_left (by rw [List.length_map]; exact (List.getElem?_eq_some_iff.mp h2).1), List.getElem?_map, h2]
    rfl
  have exit : ∀ {r : R} {ρ' : Ev} {v : V} {σ' : St} {H' Z' O' : Hp} {F' G : List Addr}, PostF K md vs Z H Fm Q E (exitE md r ρ') → Rel K Z' O' H' σ' ρ' F' → RepR K Z' O' H' v r G → (F' ++ G).Nodup → (∀ a ∈ G, O' a = none) → Tr Z H Fm Z' H' (F' ++ G) →
      TrS Z (without H Fm) H (start N vs) (entE md ds N.length) Fm Z' O' H' σ' ρ' F' → Q v H' := fun {r ρ' v σ' H' Z' O' F' G} p rl' q nd' fo t tr => by
    unfold exitE at p
    by_cases c : r.s = .imm ∨ r.s = .own
    · rw [if_pos c] at p
      cases e : outsE md ρ' with
      | none => rw [e] at p; exact p.elim
      | some ms =>
        rw [e] at p
        obtain ⟨F2, o, sb⟩ := outs rl' tr e
        have sb2 : (F2 ++ G).Sublist (F' ++ G) := List.Sublist.append sb (List.Sublist.refl _)
        refine p v H' Z' F2 G ⟨⟨t.z, t.keep, t.zn, fun a ha => t.fn a (sb2.subset ha), t.fr, t.tab⟩, rl'.g.zh, rl'.g.tz, nd'.sublist sb2, fun a ha => ?_, rl'.g.ntz, rl'.tb, o⟩ c (RetR.move q c)
        rcases List.mem_append.mp ha with ha | ha
        · exact rl'.g.zo.free (rl'.fo a (sb.subset ha))
        · exact rl'.g.zo.free (fo a ha)
    · rw [if_neg c] at p
      exact p.elim
  cases e : b (entE md ds N.length) with
  | bad => rw [e] at post2; exact post2.elim
  | next ρ' =>
    rw [e] at post2
    intro σ' H' Z' O' F' rl' n' tr
    refine exit post2 rl' (G := []) ⟨.non, rfl⟩ (by rw [List.append_nil]; exact rl'.nd) (fun a ha => by cases ha) ?_ tr
    rw [List.append_nil]
    exact tr.tr
  | ret r ρ' =>
    rw [e] at post2
    intro v σ' H' Z' O' F' G rl' q nd' fo t tr
    exact exit post2 rl' q nd' fo t tr
  | exc c fs ρ' =>
    rw [e] at post2
    intro σ' H' Z' O' F' d xs rl' tr hd e1 e2
    have p2 : PostF K md vs Z H Fm Q E (match outsE md ρ' with
      | some ms => .exc c fs ms
      | none => .bad) := post2
    cases eo : outsE md ρ' with
    | none => rw [eo] at p2; exact p2.elim
    | some ms =>
      rw [eo] at p2
      obtain ⟨F2, o, sb⟩ := outs rl' tr eo
      refine p2 H' Z' F2 d xs ⟨⟨tr.tr.z, tr.tr.keep, tr.tr.zn, fun a ha => ?_, tr.tr.fr, tr.tr.tab⟩, rl'.g.zh, rl'.g.tz, ?_, fun a ha => ?_, rl'.g.ntz, rl'.tb, o⟩ hd e1 e2
      · rw [List.append_nil] at ha
        exact tr.tr.fn a (sb.subset ha)
      · rw [List.append_nil]
        exact rl'.nd.sublist sb
      · rw [List.append_nil] at ha
        exact rl'.g.zo.free (rl'.fo a (sb.subset ha))
theorem fn_bodyC {CX : CXT} {N ps : List Str} {k : Nat} {md : List Md} {b : Stx} (F : FunD K x qual params body scope [] [] f fd) (S : FnScope N ps scope) (hl : md.length = ps.length) (hN : md.length ≤ N.length)
    (B : ∀ (A : Around) (outer : List Env) (s : Shared) (H : Hp) (E : XK), Room k (A.deeper (envOfC qual scope s.heap.objs.size f fd.code)) → PSs (cxOf CX P w K mg base N qual scope f fd.code A outer s H E) body (tS K E b)) :
    FnOk P w K mg base CX (k + 1) f fd ps (spF K md (fnD N.length md b)) := by
  exact fnd_okC F S (fun vs H Q E h => h.1.trans hl) fun A outer s H vs Q E hr h => ⟨_, B A outer s H E hr, body_t hN h⟩
theorem fn_body {CX : CXT} {N ps : List Str} {k : Nat} {md : List Md} {b : Stx} (F : FunD K x qual params body scope [] [] f fd) (S : FnScope N ps scope) (hl : md.length = ps.length) (hN : md.length ≤ N.length)
    (B : ∀ (cdv : Value) (A : Around) (outer : List Env) (s : Shared) (H : Hp) (E : XK), Room k (A.deeper (envOfC qual scope s.heap.objs.size f cdv)) → PSs (cxOf CX P w K mg base N qual scope f cdv A outer s H E) body (tS K E b)) :
    FnOk P w K mg base CX (k + 1) f fd ps (spF K md (fnD N.length md b)) := fn_bodyC F S hl hN fun A outer s H E hr => B fd.code A outer s H E hr

end
end Oz

namespace Oz
open PySem PySem.Spec L2
open PyProof.Rows hiding St
variable [WD]

/-! ### what is walked -/
/-- J walks the results rs from this state on, whatever happens to F0 -/
def Wlk (K : PySem.W.Frag) (J : It) (rs : List R) (Z0 O0 H0 : Hp) (F0 : List Addr) : Prop := ∀ Z O H, Good Z O H → Same Z0 Z → Same O0 O → (∀ a o, H0 a = some o → a ∉ F0 → (∀ ps, o ≠ .tbl ps) → H a = some o) → ∀ i, i ≤ rs.length →
  (i = rs.length → J.stop i H) ∧ ∀ r, rs[i]? = some r → J.go i H ∧ ∀ x H', J.yld i H x H' → ∃ Z' O', Ext [] Z O H Z' O' H' ∧ Good Z' O' H' ∧ RepR K Z' O' H' x r []
abbrev Src := Ev → Res (List R)
/-- sg: a source whose items are to outlast what the body does -/
def IOk (K : PySem.W.Frag) (E : XK) (w : TI) (src : Src) : Prop := ∀ (σ : St) (H : Hp) (R : It → Hp → Prop), (∃ Z O ρ F, Rel K Z O H σ ρ F ∧ match src ρ with
  | .bad => False
  | .exc c fs => ExcK K E Z O H c fs
  | .ok rs => ∀ J H' Z' O', Ext [] Z O H Z' O' H' → Good Z' O' H' → Wlk K J rs Z' O' H' F → R J H') → w σ H R
/-- for a comprehension: nothing changes meanwhile -/
def IOc (K : PySem.W.Frag) (E : XK) (w : TI) (src : Src) : Prop := ∀ (σ : St) (H : Hp) (R : It → Hp → Prop), (∃ Z O ρ F, Rel K Z O H σ ρ F ∧ match src ρ with
  | .bad => False
  | .exc c fs => ExcK K E Z O H c fs
  | .ok rs => ∀ J H' Z' O', Ext [] Z O H Z' O' H' → Good Z' O' H' → Wlk K J rs Z' O' H' [] → R J H') → w σ H R
theorem Wlk.less {K : PySem.W.Frag} {J : It} {rs : List R} {Z O H : Hp} {F : List Addr} (h : Wlk K J rs Z O H F) : Wlk K J rs Z O H [] := fun Z1 O1 H1 g ez eo k i hi => h Z1 O1 H1 g ez eo (fun a o q _ => k a o q (by simp)) i hi
theorem IOk.c {K : PySem.W.Frag} {E : XK} {w : TI} {src : Src} (h : IOk K E w src) : IOc K E w src := fun σ H R q => by
  obtain ⟨Z, O, ρ, F, rl, q⟩ := q
  refine h σ H R ⟨Z, O, ρ, F, rl, ?_⟩
  cases e : src ρ with
  | bad => rw [e] at q; exact q
  | exc c fs => rw [e] at q; exact q
  | ok rs => rw [e] at q; exact fun J H' Z' O' x g w => q J H' Z' O' x g w.less

/-! ### lists and tuples -/
def iSeq (K : PySem.W.Frag) (tl : TE) : TI := fun σ H R => tl σ H fun x H1 => ∃ a, x = .ref a ∧ (((∃ xs, SqL K H1 a xs) ∧ R (Itl K a) H1) ∨ ((∃ xs, SqT K H1 a xs) ∧ R (Itt K a) H1))
theorem pi_seq {X : Cx} {tg l : Expr} {tl : TE} (hl : PE X l tl) : PI X tg l (iSeq X.K tl) := by
  refine ⟨fun pins s σ H R I h => ?_⟩
  refine thn (hl.run pins s σ H _ I h) fun v s1 ⟨x, H1, I1, r1, q1⟩ => ?_
  obtain ⟨a, e, q1⟩ := q1
  subst e
  cases r1
  rcases q1 with ⟨⟨xs, hq⟩, q⟩ | ⟨⟨xs, hq⟩, q⟩
  · obtain ⟨its, rv, p, hz⟩ := I1.list hq
    refine wpAny_pyIter_list p.isList ?_
    refine ⟨s1.heap.objs.size, [s1.heap.objs.size], _, _, H1, rfl, I1.kept (t' := s1.toks) fun b o e => Heap.get?_push_of_some _ e, turn_list a _, ⟨_, Heap.get?_push_size _ rfl, rfl, rfl⟩, fun b hb => ?_, q⟩
    have e : b = s1.heap.objs.size := by simpa using hb
    subst e
    exact I1.fpOk (Nat.le_refl _) (I1.hok.fresh (Nat.le_refl _))
  · obtain ⟨its, rv, p, hz⟩ := I1.tuple hq
    refine wpAny_pyIter_tuple (show s1.heap.IsTuple a its.toArray from p) ?_
    refine ⟨s1.heap.objs.size, [s1.heap.objs.size], _, _, H1, rfl, I1.kept (t' := s1.toks) fun b o e => Heap.get?_push_of_some _ e, turn_tuple a _, ⟨_, Heap.get?_push_size _ rfl, rfl, rfl⟩, fun b hb => ?_, q⟩
    have e : b = s1.heap.objs.size := by simpa using hb
    subst e
    exact I1.fpOk (Nat.le_refl _) (I1.hok.fresh (Nat.le_refl _))
def srcR (r : R) : Res (List R) := match itemsD r.d with
  | some ds => .ok (ds.map (sub r.s))
  | none => .bad
/-- for a for: what one looks at only may change -/
def srcS (p : Px) : Src := fun ρ => (p ρ).bind fun r => if r.s = .view then .bad else srcR r
def srcC (p : Px) : Src := fun ρ => (p ρ).bind srcR
section
variable {K : PySem.W.Frag} {E : XK} {Z O H Z' O' H' : Hp} {F G : List Addr}
/-- a result stands while others change -/
theorem RepR.stay {v : V} {r : R} (h : RepR K Z O H v r G) (ez : Same Z Z') (eo : Same O O') (k : ∀ a o, H a = some o → a ∉ F → (∀ ps, o ≠ .tbl ps) → H' a = some o) (dj : ∀ a ∈ G, a ∉ F) (nv : r.s = .view → F = []) : RepR K Z' O' H' v r G := by
  by_cases e : r.s = .view
  · have ef := nv e
    subst ef
    exact h.sameM ez eo fun a o q n => k a o q (by simp) n
  · exact h.keep e ez eo fun a ha o q n => k a o q (dj a ha) n
theorem sub_rep {s : Sx} {d : D} {v : V} (g : Good Z O H) (rv : Rep K H v d) (ri : s = .imm → Rep K Z v d) (ro : s = .out → Rep K O v d) : RepR K Z O H v (Oz.sub s d) [] := by
  unfold Oz.sub
  by_cases l : lf d = true
  · rw [if_pos l]
    exact ⟨rv.up g.tz l, rfl⟩
  · rw [if_neg l]
    cases s with
    | imm => exact ⟨ri rfl, rfl⟩
    | out => exact ⟨ro rfl, rfl⟩
    | view => exact ⟨rv, rfl⟩
    | own => exact ⟨rv, rfl⟩
    | brw => exact ⟨rv, rfl⟩
    | tab => exact ⟨rv, rfl⟩
/-- the items of a row -/
theorem RepR.items {v : V} {r : R} {ds : List D} (g : Good Z O H) (h : RepR K Z O H v r G) (e : itemsD r.d = some ds) :
    ∃ a xs, v = .ref a ∧ ((r.d = .list ds ∧ H a = some (.lst xs)) ∨ (r.d = .tuple ds ∧ SqT K H a xs)) ∧ xs.length = ds.length ∧
      ∀ (i : Nat) (d : D), ds[i]? = some d → ∃ x, xs[i]? = some x ∧ RepR K Z O H x (Oz.sub r.s d) [] := by
  obtain ⟨s, d⟩ := r
  have lk := h.look g
  rcases items_kind e with e1 | e1
  · have e2 : d = .list ds := e1
    subst e2
    cases lk with
    | lst hh rr =>
      refine ⟨_, _, rfl, .inl ⟨rfl, hh⟩, rr.length, fun i d hd => ?_⟩
      obtain ⟨x, hx, rx⟩ := rr.get hd
      refine ⟨x, hx, sub_rep g rx (fun es => ?_) fun es => ?_⟩
      · obtain ⟨p1, v1, z1, z2, z3⟩ := h.zlist es
        cases z1
        have u := g.zh _ _ z2
        rw [hh] at u
        cases u
        obtain ⟨x', hx', rx'⟩ := z3.get hd
        rw [hx] at hx'
        cases hx'
        exact rx'
      · subst es
        obtain ⟨h1, _⟩ := h
        have h2 : Rep K O _ (.list ds) := h1
        cases h2 with
        | lst ho ro =>
          have u := g.oh _ _ ho
          rw [hh] at u
          cases u
          obtain ⟨x', hx', rx'⟩ := ro.get hd
          rw [hx] at hx'
          cases hx'
          exact rx'
  · have e2 : d = .tuple ds := e1
    subst e2
    by_cases es : s = .imm
    · obtain ⟨p1, v1, z1, z2, z3⟩ := h.ztup es
      refine ⟨p1, v1, z1, .inr ⟨rfl, Same.seqT g.zh z2⟩, z3.length, fun i d hd => ?_⟩
      obtain ⟨x, hx, rx⟩ := z3.get hd
      exact ⟨x, hx, sub_rep g (rx.mono g.zh) (fun _ => rx) fun e2 => by rw [es] at e2; cases e2⟩
    · by_cases eo : s = .out
      · subst eo
        obtain ⟨h1, _⟩ := h
        have h2 : Rep K O v (.tuple ds) := h1
        cases h2 with
        | tup ho ro =>
          refine ⟨_, _, rfl, .inr ⟨rfl, Same.seqT g.oh ho⟩, ro.length, fun i d hd => ?_⟩
          obtain ⟨x, hx, rx⟩ := ro.get hd
          exact ⟨x, hx, sub_rep g (rx.mono g.oh) (fun e2 => by cases e2) fun _ => rx⟩
      · cases lk with
        | tup hh rr =>
          refine ⟨_, _, rfl, .inr ⟨rfl, hh⟩, rr.length, fun i d hd => ?_⟩
          obtain ⟨x, hx, rx⟩ := rr.get hd
          exact ⟨x, hx, sub_rep g rx (fun e2 => absurd e2 es) fun e2 => absurd e2 eo⟩
theorem wlk_list {a : Addr} {r : R} {ds : List D} (h : RepR K Z O H (.ref a) r G) (e : r.d = .list ds) (dj : ∀ c ∈ G, c ∉ F) (nv : r.s = .view → F = []) : Wlk K (Itl K a) (ds.map (Oz.sub r.s)) Z O H F := by
  intro Z1 O1 H1 g ez eo k i hi
  have h1 := h.stay ez eo k dj nv
  obtain ⟨b, xs, eb, hk, hl, it⟩ := h1.items g (show itemsD r.d = some ds by rw [e]; rfl)
  cases eb
  rcases hk with ⟨_, hx⟩ | ⟨z, _⟩
  · refine ⟨fun ei => ⟨xs, .inl (.inl hx), by rw [hl, ei, List.length_map]; exact Nat.le_refl _⟩, fun rr hr => ?_⟩
    rw [List.getElem?_map] at hr
    cases hd : ds[i]? with
    | none => rw [hd] at hr; cases hr
    | some d =>
      rw [hd] at hr
      cases hr
      obtain ⟨x, h2, h3⟩ := it i d hd
      refine ⟨⟨xs, x, .inl (.inl hx), h2⟩, fun y H' hy => ?_⟩
      obtain ⟨rfl, hy⟩ := hy
      have := hy xs (.inl (.inl hx))
      rw [h2] at this
      cases this
      exact ⟨Z1, O1, Ext.refl _ _ _ _, g, h3⟩
  · rw [e] at z; cases z
theorem wlk_tup {a : Addr} {r : R} {ds : List D} (h : RepR K Z O H (.ref a) r G) (e : r.d = .tuple ds) (dj : ∀ c ∈ G, c ∉ F) (nv : r.s = .view → F = []) : Wlk K (Itt K a) (ds.map (Oz.sub r.s)) Z O H F := by
  intro Z1 O1 H1 g ez eo k i hi
  have h1 := h.stay ez eo k dj nv
  obtain ⟨b, xs, eb, hk, hl, it⟩ := h1.items g (show itemsD r.d = some ds by rw [e]; rfl)
  cases eb
  rcases hk with ⟨z, _⟩ | ⟨_, hx⟩
  · rw [e] at z; cases z
  · refine ⟨fun ei => ⟨xs, hx, by rw [hl, ei, List.length_map]; exact Nat.le_refl _⟩, fun rr hr => ?_⟩
    rw [List.getElem?_map] at hr
    cases hd : ds[i]? with
    | none => rw [hd] at hr; cases hr
    | some d =>
      rw [hd] at hr
      cases hr
      obtain ⟨x, h2, h3⟩ := it i d hd
      refine ⟨⟨xs, x, hx, h2⟩, fun y H' hy => ?_⟩
      obtain ⟨rfl, hy⟩ := hy
      have := hy xs hx
      rw [h2] at this
      cases this
      exact ⟨Z1, O1, Ext.refl _ _ _ _, g, h3⟩
/-- the walk of a row, from where it stands -/
theorem seq_walk {v : V} {r : R} {ds : List D} (g : Good Z O H) (h : RepR K Z O H v r G) (e : itemsD r.d = some ds) (dj : ∀ c ∈ G, c ∉ F) (nv : r.s = .view → F = []) {R : It → Hp → Prop} (q : ∀ J, Wlk K J (ds.map (Oz.sub r.s)) Z O H F → R J H) :
    ∃ a, v = .ref a ∧ (((∃ xs, SqL K H a xs) ∧ R (Itl K a) H) ∨ ((∃ xs, SqT K H a xs) ∧ R (Itt K a) H)) := by
  obtain ⟨a, xs, ea, hk, hl, it⟩ := h.items g e
  subst ea
  rcases hk with ⟨e1, hx⟩ | ⟨e1, hx⟩
  · exact ⟨a, rfl, .inl ⟨⟨xs, .inl (.inl hx)⟩, q _ (wlk_list h e1 dj nv)⟩⟩
  · exact ⟨a, rfl, .inr ⟨⟨xs, hx⟩, q _ (wlk_tup h e1 dj nv)⟩⟩
end
theorem srcR_some {r : R} {rs : List R} (h : srcR r = .ok rs) : ∃ ds, itemsD r.d = some ds ∧ rs = ds.map (sub r.s) := by
  unfold srcR at h
  cases e : itemsD r.d with
  | none => rw [e] at h; cases h
  | some ds => rw [e] at h; cases h; exact ⟨ds, rfl, rfl⟩
section
variable {K : PySem.W.Frag} {E : XK}
theorem srcC_ok {p : Px} : IOc K E (iSeq K (tP K E p)) (srcC p) := fun σ H R q => by
  obtain ⟨Z, O, ρ, F, rl, q⟩ := q
  refine ⟨Z, O, ρ, F, rl, ?_⟩
  unfold srcC at q
  cases e : p ρ with
  | bad => rw [e] at q; exact q.elim
  | exc c fs => rw [e] at q; exact q
  | ok r =>
    rw [e] at q
    have q2 : match srcR r with
      | .bad => False
      | .exc c fs => ExcK K E Z O H c fs
      | .ok rs => ∀ J H' Z' O', Ext [] Z O H Z' O' H' → Good Z' O' H' → Wlk K J rs Z' O' H' [] → R J H' := q
    intro v H1 Z1 O1 G x g w nd fr
    cases e2 : srcR r with
    | bad => rw [e2] at q2; exact q2.elim
    | exc c fs => unfold srcR at e2; cases e3 : itemsD r.d <;> rw [e3] at e2 <;> cases e2
    | ok rs =>
      rw [e2] at q2
      obtain ⟨ds, e3, rfl⟩ := srcR_some e2
      exact seq_walk (F := []) g w e3 (fun a ha z => by cases z) (fun z => rfl) fun J wl => q2 J H1 Z1 O1 x g wl

/-! ### ranges -/
def irng (lo : Int) (n : Nat) : List R := (List.range n).map fun (k : Nat) => ⟨.imm, .int (lo + (k : Int))⟩
theorem wlk_range {Z O H : Hp} {F : List Addr} {lo : Int} {n : Nat} : Wlk K (Itr lo n) (irng lo n) Z O H F := by
  intro Z1 O1 H1 g ez eo k i hi
  have hl : (irng lo n).length = n := by unfold irng; simp
  refine ⟨fun ei => by show n ≤ i; omega, fun r hr => ?_⟩
  obtain ⟨hi2, er⟩ := List.getElem?_eq_some_iff.mp hr
  refine ⟨by show i < n; omega, fun x H' hy => ?_⟩
  obtain ⟨rfl, rfl⟩ := hy
  refine ⟨Z1, O1, Ext.refl _ _ _ _, g, ?_⟩
  have e : r = ⟨.imm, .int (lo + (i : Int))⟩ := by
    unfold irng at hr
    rw [List.getElem?_map, List.getElem?_range (by omega)] at hr
    exact (Option.some.inj hr).symm
  rw [e]
  exact ⟨.int _, rfl⟩
noncomputable def inR (i : Int) : Bool := gd (decide (-(2 ^ 62) ≤ i) && decide (i < 2 ^ 62))
theorem inR_eq {i : Int} : inR i = (decide (-(2 ^ 62) ≤ i) && decide (i < 2 ^ 62)) := gd_eq _
noncomputable def srcR1 (p : Px) : Src := fun ρ => (p ρ).bind fun r => match r.d with
  | .int j => if inR j = true then .ok (irng 0 j.toNat) else .bad
  | _ => .bad
noncomputable def srcR2 (p q : Px) : Src := fun ρ => (p ρ).bind fun a => (q ρ).bind fun b => match a.d, b.d with
  | .int i, .int j => if inR i = true ∧ inR j = true then .ok (irng i (j - i).toNat) else .bad
  | _, _ => .bad
theorem inR_ok {i : Int} (h : inR i = true) : -(2 ^ 62) ≤ i ∧ i < 2 ^ 62 := by
  rw [inR_eq] at h
  obtain ⟨h1, h2⟩ := Bool.and_eq_true_iff.mp h
  exact ⟨of_decide_eq_true h1, of_decide_eq_true h2⟩
theorem srcR1_ok {p : Px} : IOk K E (iRng1 (tA K E [p])) (srcR1 p) := fun σ H R q => by
  obtain ⟨Z, O, ρ, F, rl, q⟩ := q
  refine ⟨Z, O, ρ, F, rl, ?_⟩
  unfold srcR1 at q
  have ev : evs [p] ρ = (p ρ).bind fun r => .ok [r] := rfl
  rw [ev]
  cases e : p ρ with
  | bad => rw [e] at q; exact q.elim
  | exc c fs => rw [e] at q; exact q
  | ok r =>
    rw [e] at q
    obtain ⟨s, d⟩ := r
    cases d with
    | int j =>
      have q2 : match (if inR j = true then (.ok (irng 0 j.toNat) : Res (List Oz.R)) else .bad) with
        | .bad => False
        | .exc c fs => ExcK K E Z O H c fs
        | .ok rs => ∀ J H' Z' O', Ext [] Z O H Z' O' H' → Good Z' O' H' → Wlk K J rs Z' O' H' F → R J H' := q
      by_cases c : inR j = true
      · rw [if_pos c] at q2
        intro vs H1 Z1 O1 G x g w nd fr
        cases w with
        | cons w1 w2 =>
          cases w2
          have lk := w1.look g
          cases lk
          obtain ⟨h1, h2⟩ := inR_ok c
          exact ⟨j, rfl, h1, h2, q2 _ H1 Z1 O1 x g wlk_range⟩
      · rw [if_neg c] at q2; exact q2.elim
    | _ => exact q.elim
end
end Oz

namespace Oz
open PySem PySem.Spec L2
open PyProof.Rows hiding St
variable [WD]

/-! ### targets -/
abbrev Tgx := R → Ev → Option Ev
abbrev Tgxs := List R → Ev → Option Ev
/-- the frame behind a store -/
structure Stored (K : PySem.W.Frag) (Z O H : Hp) (σ : St) (ρ : Ev) (F G : List Addr) (σ' : St) (ρ' : Ev) (F' : List Addr) : Prop where
  rl : Rel K Z O H σ' ρ' F'
  nv : nov ρ' = true
  sub : ∀ a ∈ F', a ∈ F ∨ a ∈ G
  len : σ'.length = σ.length
  brw : ∀ (j : Nat) (d : D), ρ[j]? = some (some (R.mk .brw d)) → σ'[j]? = σ[j]? ∧ ∃ d', ρ'[j]? = some (some (R.mk .brw d'))
inductive Its0 (K : PySem.W.Frag) (Z O H : Hp) : List V → List R → Prop
  | nil : Its0 K Z O H [] []
  | cons {v : V} {vs : List V} {r : R} {rs : List R} : RepR K Z O H v r [] → Its0 K Z O H vs rs → Its0 K Z O H (v :: vs) (r :: rs)
def GOk (K : PySem.W.Frag) (t : TG) (tg : Tgx) : Prop := ∀ Z O H σ ρ F v r G ρ', Rel K Z O H σ ρ F → nov ρ = true → RepR K Z O H v r G → G.Nodup → (∀ a ∈ G, a ∉ F) → (∀ a ∈ G, O a = none) → tg r ρ = some ρ' →
  ∀ Q : St → Hp → Prop, (∀ σ' F', Stored K Z O H σ ρ F G σ' ρ' F' → Q σ' H) → t v σ H Q
def GsOk (K : PySem.W.Frag) (t : TGs) (tg : Tgxs) : Prop := ∀ Z O H σ ρ F vs rs ρ', Rel K Z O H σ ρ F → nov ρ = true → Its0 K Z O H vs rs → tg rs ρ = some ρ' →
  ∀ Q : St → Hp → Prop, (∀ σ' F', Stored K Z O H σ ρ F [] σ' ρ' F' → Q σ' H) → t vs σ H Q
def gN (i : Nat) : Tgx := fun r ρ => setS i r ρ
def gsN : Tgxs := fun rs ρ => match rs with
  | [] => some ρ
  | _ => none
def gsC (t : Tgx) (u : Tgxs) : Tgxs := fun rs ρ => match rs with
  | [] => none
  | r :: rs => (match t r ρ with
    | some ρ' => u rs ρ'
    | none => none)
def gT (n : Nat) (t : Tgxs) : Tgx := fun r ρ => match r.d with
  | .tuple ds => if ds.length = n then t (ds.map (sub r.s)) ρ else none
  | _ => none
section
variable {K : PySem.W.Frag}
theorem g_name {i : Nat} : GOk K (gName i) (gN i) := fun Z O H σ ρ F v r G ρ' rl n q nd dj fo e Q k => by
  obtain ⟨F', rl', n', sub, ln, bw⟩ := rl.set n q nd dj fo e
  exact k _ F' ⟨rl', n', sub, ln, bw⟩
theorem gs_nil : GsOk K gNil gsN := fun Z O H σ ρ F vs rs ρ' rl n q e Q k => by
  cases q with
  | nil => cases e; exact ⟨rfl, k σ F ⟨rl, n, fun a h => .inl h, rfl, fun j d h => ⟨rfl, d, h⟩⟩⟩
  | cons _ _ => cases e
theorem Stored.trans {Z O H : Hp} {σ σ1 σ2 : St} {ρ ρ1 ρ2 : Ev} {F F1 F2 : List Addr} (a : Stored K Z O H σ ρ F [] σ1 ρ1 F1) (b : Stored K Z O H σ1 ρ1 F1 [] σ2 ρ2 F2) : Stored K Z O H σ ρ F [] σ2 ρ2 F2 :=
  ⟨b.rl, b.nv, fun c h => (b.sub c h).elim (a.sub c) .inr, b.len.trans a.len, fun j d h => by
    obtain ⟨e1, d1, h1⟩ := a.brw j d h
    obtain ⟨e2, d2, h2⟩ := b.brw j d1 h1
    exact ⟨e2.trans e1, d2, h2⟩⟩
theorem gs_cons {t : TG} {u : TGs} {tg : Tgx} {ug : Tgxs} (h1 : GOk K t tg) (h2 : GsOk K u ug) : GsOk K (gCons t u) (gsC tg ug) := fun Z O H σ ρ F vs rs ρ' rl n q e Q k => by
  cases q with
  | nil => cases e
  | cons q1 q2 =>
    rename_i v vs r rs
    unfold gsC at e
    cases z : tg r ρ with
    | none => simp only [z] at e; cases e
    | some ρ1 =>
      simp only [z] at e
      exact ⟨v, vs, rfl, h1 Z O H σ ρ F v r [] ρ1 rl n q1 List.nodup_nil (fun a h => by cases h) (fun a h => by cases h) z _ fun σ1 F1 s1 =>
        h2 Z O H σ1 ρ1 F1 vs rs ρ' s1.rl s1.nv q2 e _ fun σ2 F2 s2 => k σ2 F2 (s1.trans s2)⟩
theorem RepR.unpack {Z O H : Hp} {v : V} {r : R} {G : List Addr} {ds : List D} (g : Good Z O H) (h : RepR K Z O H v r G) (e : r.d = .tuple ds) : ∃ a xs, v = .ref a ∧ SqT K H a xs ∧ xs.length = ds.length ∧ Its0 K Z O H xs (ds.map (Oz.sub r.s)) := by
  obtain ⟨a, xs, ea, hk, hl, it⟩ := h.items g (show itemsD r.d = some ds by rw [e]; rfl)
  rcases hk with ⟨z, _⟩ | ⟨-, hx⟩
  · rw [e] at z; cases z
  · refine ⟨a, xs, ea, hx, hl, ?_⟩
    clear hx e
    induction ds generalizing xs with
    | nil =>
      cases xs with
      | nil => exact .nil
      | cons _ _ => simp at hl
    | cons d ds ih =>
      cases xs with
      | nil => simp at hl
      | cons x xs =>
        obtain ⟨y, hy, ry⟩ := it 0 d rfl
        have ex : x = y := by simpa using hy
        subst ex
        exact .cons ry (ih xs (by simpa using hl) fun i d' h => by simpa using it (i + 1) d' (by simpa using h))
theorem g_tup {n : Nat} {t : TGs} {tg : Tgxs} (h : GsOk K t tg) : GOk K (gTup K n t) (gT n tg) := fun Z O H σ ρ F v r G ρ' rl nv q nd dj fo e Q k => by
  unfold gT at e
  obtain ⟨s, d⟩ := r
  cases d with
  | tuple ds =>
    have e2 : (if ds.length = n then tg (ds.map (Oz.sub s)) ρ else none) = some ρ' := e
    by_cases c : ds.length = n
    · rw [if_pos c] at e2
      obtain ⟨a, xs, ea, hx, hl, it⟩ := q.unpack rl.g rfl
      exact ⟨a, xs, ea, hx, hl.trans c, h Z O H σ ρ F xs _ ρ' rl nv it e2 Q fun σ' F' s' => k σ' F' ⟨s'.rl, s'.nv, (fun a ha => (s'.sub a ha).imp id fun z => by cases z), s'.len, s'.brw⟩⟩
    · rw [if_neg c] at e2; cases e2
  | _ => cases e
end
/-- a, b = e -/
def sAsgT (g : Tgx) (p : Px) : Stx := fun ρ => match p ρ with
  | .bad => .bad
  | .exc c fs => .exc c fs ρ
  | .ok r => (match g r ρ with
    | some ρ' => .next ρ'
    | none => .bad)
theorem s_asgT {X : Cx} {E : XK} {tg e : Expr} {p : Px} {t : TG} {g : Tgx} {pos : Pos} (he : PE X e (tP X.K E p)) (hg : PG X tg t) (gk : GOk X.K t g) (hs : swapsWithSole [tg] e pos.line X.env = pure false := by rfl) (hw : swappedStores [tg] e X.env = pure none := by rfl)
    (h1 : (assignEach [tg] X.env).map (·.2) = [assign tg X.env] := by rfl) : PS X (.Assign [tg] e pos) (tS X.K E (sAsgT g p)) := by
  refine (ps_asg he hg hs hw h1).imp fun D σ H h => ?_
  refine tS_expr (s := fun r ρ => match g r ρ with | some ρ' => .next ρ' | none => .bad) h fun Z0 O0 Z O H1 ρ F G v r rl n q nd dj fo fh tr h2 => ?_
  cases z : g r ρ with
  | none => rw [z] at h2; exact h2.elim
  | some ρ' =>
    rw [z] at h2
    refine gk Z O H1 σ ρ F v r G ρ' rl n q nd dj fo z _ fun σ' F' st => ?_
    exact h2 _ H1 Z O F' st.rl st.nv ⟨⟨tr.tr.z, tr.tr.keep, tr.tr.zn, fun a ha => (st.sub a ha).imp id (fh a), tr.tr.fr, tr.tr.tab⟩, tr.o, st.len, st.brw, tr.on⟩

/-! ### for -/
def loopS (g : Tgx) (b : Stx) : List R → Ev → SR
  | [], ρ => .next ρ
  | r :: rs, ρ => (match g r ρ with
    | none => .bad
    | some ρ1 => (match b ρ1 with
      | .next ρ2 => loopS g b rs ρ2
      | x => x))
def sFor (src : Src) (g : Tgx) (b : Stx) : Stx := fun ρ => match src ρ with
  | .bad => .bad
  | .exc c fs => .exc c fs ρ
  | .ok rs => loopS g b rs ρ
theorem s_for {X : Cx} {E : XK} {tg iter : Expr} {body : List Stmt} {w : TI} {src : Src} {t : TG} {g : Tgx} {b : Stx} {pos : Pos} (hp : PassesOwn (model X.prog X.w) X.A X.env X.xe) (hc : X.calm = true) (hi : PI X tg iter w) (ik : IOk X.K E w src) (hg : PG X tg t) (gk : GOk X.K t g)
    (hb : PSs X body (tS X.K E b)) (hs : ∀ x, foldedSetIterable iter X.env x = pure x := by exact fun _ => rfl) : PS X (.For tg iter body [] pos) (tS X.K E (sFor src g b)) := by
  refine (ps_for hp hc hi hg hb hs).imp fun D σ H h => ?_
  obtain ⟨Z, O, ρ, F, rl, n, h⟩ := h
  refine ik σ H _ ⟨Z, O, ρ, F, rl, ?_⟩
  unfold sFor at h
  cases e : src ρ with
  | bad => rw [e] at h; exact h.elim
  | exc c fs => rw [e] at h; exact SRK.exc rl h
  | ok rs =>
    rw [e] at h
    have h1 : SRK X.K E Z O H σ ρ F D.nx D.rt (loopS g b rs ρ) := h
    intro J H1 Z1 O1 x1 g1 wl
    -- what holds ahead of each turn
    refine ⟨fun i m σ' H' => m = rs.length - i ∧ i ≤ rs.length ∧ ∃ Z' O' ρ' F', Rel X.K Z' O' H' σ' ρ' F' ∧ nov ρ' = true ∧ TrS Z1 O1 H1 σ ρ F Z' O' H' σ' ρ' F' ∧ SRK X.K E Z' O' H' σ' ρ' F' D.nx D.rt (loopS g b (rs.drop i) ρ'),
      ⟨rs.length, by simp, Nat.zero_le _, Z1, O1, ρ, F, rl.ext x1 g1, n, TrS.refl _ _ _ _ _ _, SRK.from h1 (TrS.ext x1)⟩, ?_⟩
    rintro i m σ' H' ⟨em, hi', Z', O', ρ', F', rl', n', tr, sk⟩
    obtain ⟨w1, w2⟩ := wl Z' O' H' rl'.g tr.tr.z tr.o tr.tr.keep i hi'
    by_cases hlt : i < rs.length
    · obtain ⟨go, yl⟩ := w2 rs[i] (List.getElem?_eq_getElem hlt)
      have ed : rs.drop i = rs[i] :: rs.drop (i + 1) := List.drop_eq_getElem_cons hlt
      rw [ed] at sk
      refine .inr ⟨go, fun σ2 H2 => ∃ Z2 O2 ρ2 F2, Rel X.K Z2 O2 H2 σ2 ρ2 F2 ∧ nov ρ2 = true ∧ TrS Z1 O1 H1 σ ρ F Z2 O2 H2 σ2 ρ2 F2 ∧ SRK X.K E Z2 O2 H2 σ2 ρ2 F2 D.nx D.rt (loopS g b (rs.drop (i + 1)) ρ2),
        fun σ2 H2 ⟨Z2, O2, ρ2, F2, q1, q2, q3, q4⟩ => ⟨rs.length - (i + 1), by omega, rfl, hlt, Z2, O2, ρ2, F2, q1, q2, q3, q4⟩, fun x H2 hy => ?_⟩
      obtain ⟨Z2, O2, x2, g2, r2⟩ := yl x H2 hy
      have rl2 := rl'.ext x2 g2
      have tr2 := tr.trans (TrS.ext (σ := σ') (ρ := ρ') (F := F') x2)
      have sk2 := SRK.from sk (TrS.ext (σ := σ') (ρ := ρ') (F := F') x2)
      unfold loopS at sk2
      cases z : g rs[i] ρ' with
      | none => simp only [z] at sk2; exact sk2.elim
      | some ρ3 =>
        simp only [z] at sk2
        refine gk Z2 O2 H2 σ' ρ' F' x rs[i] [] ρ3 rl2 n' r2 List.nodup_nil (fun a h => by cases h) (fun a h => by cases h) z _ fun σ3 F3 st => ?_
        have ts : TrS Z2 O2 H2 σ' ρ' F' Z2 O2 H2 σ3 ρ3 F3 := ⟨⟨Same.refl _, fun a o q _ _ => q, fun a q => .inl q, fun a ha => (st.sub a ha).imp id fun z => (by cases z), fun a h => .inr h, fun a _ h => h⟩, Same.refl _, st.len, st.brw, fun a q => .inl q⟩
        refine ⟨Z2, O2, ρ3, F3, st.rl, st.nv, ?_⟩
        have sk3 := SRK.from sk2 ts
        have tr3 := tr2.trans ts
        cases y : b ρ3 with
        | bad => simp only [y] at sk3; exact sk3.elim
        | ret r ρ4 => simp only [y] at sk3; exact sk3
        | exc c fs ρ4 => simp only [y] at sk3; exact sk3
        | next ρ4 =>
          simp only [y] at sk3
          exact fun σ4 H4 Z4 O4 F4 rl4 n4 tr4 => ⟨Z4, O4, ρ4, F4, rl4, n4, tr3.trans tr4, SRK.from sk3 tr4⟩
    · have ei : i = rs.length := by omega
      refine .inl ⟨w1 ei, ?_⟩
      have ed : rs.drop i = [] := List.drop_eq_nil_of_le (by omega)
      rw [ed] at sk
      exact sk σ' H' Z' O' F' rl' n' (TrS.refl _ _ _ _ _ _)
end Oz

namespace Oz
open PySem PySem.Spec L2
open PyProof.Rows hiding St
variable [WD]

/-! ### the comprehension's own names -/
def wipeE (ρ : Ev) : List Nat → Ev
  | [] => ρ
  | v :: vs => (wipeE ρ vs).set v none
theorem wipe_in {σ : St} {i : Nat} : ∀ {vs : List Nat}, i ∈ vs → i < σ.length → (wipe σ vs)[i]? = some none
  | [], h, _ => by cases h
  | v :: vs, h, hl => by
    unfold wipe
    by_cases e : v = i
    · subst e
      rw [List.getElem?_set_self (by rw [wipe_length]; exact hl)]
    · rw [List.getElem?_set_ne e]
      rcases List.mem_cons.mp h with z | z
      · exact absurd z.symm e
      · exact wipe_in z hl
theorem wipe_set {σ : St} {i : Nat} {x : Option V} {vs : List Nat} (h : i ∈ vs) : wipe (σ.set i x) vs = wipe σ vs := by
  apply List.ext_getElem?
  intro j
  by_cases hj : j ∈ vs
  · by_cases hl : j < σ.length
    · rw [wipe_in hj hl, wipe_in hj (by rw [List.length_set]; exact hl)]
    · rw [List.getElem?_eq_none (by rw [wipe_length, List.length_set]; omega), List.getElem?_eq_none (by rw [wipe_length]; omega)]
  · rw [wipe_out hj, wipe_out hj, List.getElem?_set_ne (fun (e : i = j) => hj (e ▸ h))]
section
variable {K : PySem.W.Frag} {Z O H : Hp} {σ : St} {ρ : Ev} {F : List Addr}
theorem Rel.drop (rl : Rel K Z O H σ ρ F) (v : Nat) : ∃ F', Rel K Z O H (σ.set v none) (ρ.set v none) F' ∧ F'.Sublist F := by
  by_cases hl : v < ρ.length
  · obtain ⟨x, y, F1, G, F2, h1, h2, h3, h4, h5⟩ := rl.sl.focus hl
    have sl := h5 none none [] Z O H (Same.refl _) (Same.refl _) (.inl fun _ _ q _ => q) (fun a _ o q _ => q) rfl
    have sb : (F1 ++ ([] ++ F2)).Sublist F := by
      rw [h3, List.nil_append]
      exact List.Sublist.append (List.Sublist.refl _) (List.sublist_append_right _ _)
    exact ⟨_, ⟨rl.g, rl.nd.sublist sb, fun a ha => rl.fo a (sb.subset ha), sl, rl.tb⟩, sb⟩
  · have e1 : ρ.set v none = ρ := List.set_eq_of_length_le (by omega)
    have e2 : σ.set v none = σ := List.set_eq_of_length_le (by rw [rl.sl.length]; omega)
    rw [e1, e2]
    exact ⟨F, rl, List.Sublist.refl _⟩
theorem Rel.wipe (rl : Rel K Z O H σ ρ F) : ∀ vs : List Nat, ∃ F', Rel K Z O H (L2.wipe σ vs) (wipeE ρ vs) F' ∧ F'.Sublist F
  | [] => ⟨F, rl, List.Sublist.refl _⟩
  | v :: vs => by
    obtain ⟨F1, r1, s1⟩ := rl.wipe vs
    obtain ⟨F2, r2, s2⟩ := r1.drop v
    exact ⟨F2, r2, s2.trans s1⟩
end
theorem nov_wipe {ρ : Ev} (n : nov ρ = true) : ∀ vs : List Nat, nov (wipeE ρ vs) = true
  | [] => n
  | v :: vs => nov_set (nov_wipe n vs) fun d h => by cases h

/-! ### its targets -/
def setC (i : Nat) (r : R) (ρ : Ev) : Option Ev := match ρ[i]? with
  | none => none
  | some (some ⟨.brw, _⟩) => none
  | some _ => if r.s = .own ∨ r.s = .brw then none else some (ρ.set i (some r))
def GOc (K : PySem.W.Frag) (is : List Nat) (t : TG) (tg : Tgx) : Prop := ∀ Z O H σ ρ F v r ρ', Rel K Z O H σ ρ F → RepR K Z O H v r [] → tg r ρ = some ρ' →
  ∀ Q : St → Hp → Prop, (∀ σ' F', Rel K Z O H σ' ρ' F' → F'.Sublist F → (∀ vs, (∀ i ∈ is, i ∈ vs) → wipe σ' vs = wipe σ vs) → Q σ' H) → t v σ H Q
def GsOc (K : PySem.W.Frag) (is : List Nat) (t : TGs) (tg : Tgxs) : Prop := ∀ Z O H σ ρ F vs rs ρ', Rel K Z O H σ ρ F → Its0 K Z O H vs rs → tg rs ρ = some ρ' →
  ∀ Q : St → Hp → Prop, (∀ σ' F', Rel K Z O H σ' ρ' F' → F'.Sublist F → (∀ vs, (∀ i ∈ is, i ∈ vs) → wipe σ' vs = wipe σ vs) → Q σ' H) → t vs σ H Q
def cN (i : Nat) : Tgx := fun r ρ => setC i r ρ
section
variable {K : PySem.W.Frag}
theorem c_name {i : Nat} : GOc K [i] (gName i) (cN i) := fun Z O H σ ρ F v r ρ' rl q e Q k => by
  unfold cN setC at e
  cases z : ρ[i]? with
  | none => rw [z] at e; cases e
  | some y =>
    rw [z] at e
    have fin : (if r.s = .own ∨ r.s = .brw then none else some (ρ.set i (some r))) = some ρ' → ρ' = ρ.set i (some r) := fun h => by
      by_cases c : r.s = .own ∨ r.s = .brw
      · rw [if_pos c] at h; cases h
      · rw [if_neg c] at h; exact (Option.some.inj h).symm
    have e2 : ρ' = ρ.set i (some r) := by
      cases y with
      | none => exact fin e
      | some q =>
        obtain ⟨s, d⟩ := q
        cases s with
        | brw => cases e
        | _ => exact fin e
    subst e2
    obtain ⟨hl, _⟩ := List.getElem?_eq_some_iff.mp z
    obtain ⟨x, y', F1, G, F2, h1, h2, h3, h4, h5⟩ := rl.sl.focus hl
    have sl := h5 (some v) (some r) [] Z O H (Same.refl _) (Same.refl _) (.inl fun _ _ q _ => q) (fun a _ o q _ => q) (.inl q)
    have sb : (F1 ++ ([] ++ F2)).Sublist F := by
      rw [h3, List.nil_append]
      exact List.Sublist.append (List.Sublist.refl _) (List.sublist_append_right _ _)
    exact k _ _ ⟨rl.g, rl.nd.sublist sb, fun a ha => rl.fo a (sb.subset ha), sl, rl.tb⟩ sb fun vs h => wipe_set (h i (by simp))
theorem cs_nil : GsOc K [] gNil gsN := fun Z O H σ ρ F vs rs ρ' rl q e Q k => by
  cases q with
  | nil => cases e; exact ⟨rfl, k σ F rl (List.Sublist.refl _) fun _ _ => rfl⟩
  | cons _ _ => cases e
theorem cs_cons {is js : List Nat} {t : TG} {u : TGs} {tg : Tgx} {ug : Tgxs} (h1 : GOc K is t tg) (h2 : GsOc K js u ug) : GsOc K (is ++ js) (gCons t u) (gsC tg ug) := fun Z O H σ ρ F vs rs ρ' rl q e Q k => by
  cases q with
  | nil => cases e
  | cons q1 q2 =>
    rename_i v vs r rs
    unfold gsC at e
    cases z : tg r ρ with
    | none => simp only [z] at e; cases e
    | some ρ1 =>
      simp only [z] at e
      exact ⟨v, vs, rfl, h1 Z O H σ ρ F v r ρ1 rl q1 z _ fun σ1 F1 r1 s1 w1 =>
        h2 Z O H σ1 ρ1 F1 vs rs ρ' r1 q2 e _ fun σ2 F2 r2 s2 w2 => k σ2 F2 r2 (s2.trans s1) fun vs h => (w2 vs fun i hi => h i (List.mem_append_right _ hi)).trans (w1 vs fun i hi => h i (List.mem_append_left _ hi))⟩
theorem c_tup {is : List Nat} {n : Nat} {t : TGs} {tg : Tgxs} (h : GsOc K is t tg) : GOc K is (gTup K n t) (gT n tg) := fun Z O H σ ρ F v r ρ' rl q e Q k => by
  unfold gT at e
  obtain ⟨s, d⟩ := r
  cases d with
  | tuple ds =>
    have e2 : (if ds.length = n then tg (ds.map (Oz.sub s)) ρ else none) = some ρ' := e
    by_cases c : ds.length = n
    · rw [if_pos c] at e2
      obtain ⟨a, xs, ea, hx, hl, it⟩ := q.unpack rl.g rfl
      exact ⟨a, xs, ea, hx, hl.trans c, h Z O H σ ρ F xs _ ρ' rl it e2 Q k⟩
    · rw [if_neg c] at e2; cases e2
  | _ => cases e
end

/-! ### [e for x in xs if t] -/
def compE (g : Tgx) (t : Tx) (p : Px) (ρ0 : Ev) : List R → Option (List R)
  | [] => some []
  | r :: rs => (match g r ρ0 with
    | none => none
    | some ρ1 => (match t ρ1 with
      | .ok b => if b = true then (match p ρ1 with
        | .ok y => (match compE g t p ρ0 rs with
          | some ys => some (y :: ys)
          | none => none)
        | _ => none) else compE g t p ρ0 rs
      | _ => none))
def compR (rs : List R) : Res R := if rs.length ≤ sizeLine then (match owns rs with
  | some ds => .ok ⟨.own, .list ds⟩
  | none => (match frzs rs with
    | some ds => .ok ⟨.imm, .list ds⟩
    | none => .bad)) else .bad
def pComp (vs : List Nat) (src : Src) (g : Tgx) (t : Tx) (p : Px) : Px := fun ρ => if nov ρ = true then (src ρ).bind fun rs => match compE g t p (wipeE ρ vs) rs with
  | some ys => compR ys
  | none => .bad else .bad
def tYesD : Tx := fun _ => .ok true
theorem s_ifs0 {X : Cx} {E : XK} : PTs X [] (tT X.K E tYesD) := ⟨fun pins s σ H Q I h => by
  obtain ⟨Z, O, ρ, F, rl, h⟩ := h
  exact pts_nil.run pins s σ H Q I (h H Z O (Ext.refl _ _ _ _) rl.g)⟩
theorem owns_append : ∀ {xs ys : List R} {ds : List D}, owns (xs ++ ys) = some ds → ∃ d1 d2, owns xs = some d1 ∧ owns ys = some d2 ∧ ds = d1 ++ d2
  | [], ys, ds, h => ⟨[], ds, rfl, h, rfl⟩
  | x :: xs, ys, ds, h => by
    rw [List.cons_append] at h
    unfold owns at h
    cases h1 : ownR x with
    | none => simp only [h1] at h; cases h
    | some d =>
      cases h2 : owns (xs ++ ys) with
      | none => simp only [h1, h2] at h; cases h
      | some ds' =>
        simp only [h1, h2] at h
        cases h
        obtain ⟨d1, d2, e1, e2, e3⟩ := owns_append h2
        exact ⟨d :: d1, d2, by unfold owns; simp only [h1, e1], e2, by rw [e3]; rfl⟩
theorem frzs_append : ∀ {xs ys : List R} {ds : List D}, frzs (xs ++ ys) = some ds → ∃ d1 d2, frzs xs = some d1 ∧ frzs ys = some d2 ∧ ds = d1 ++ d2
  | [], ys, ds, h => ⟨[], ds, rfl, h, rfl⟩
  | x :: xs, ys, ds, h => by
    rw [List.cons_append] at h
    unfold frzs at h
    cases h1 : frzR x with
    | none => simp only [h1] at h; cases h
    | some d =>
      cases h2 : frzs (xs ++ ys) with
      | none => simp only [h1, h2] at h; cases h
      | some ds' =>
        simp only [h1, h2] at h
        cases h
        obtain ⟨d1, d2, e1, e2, e3⟩ := frzs_append h2
        exact ⟨d :: d1, d2, by unfold frzs; simp only [h1, e1], e2, by rw [e3]; rfl⟩
/-- the list so far -/
structure Acc (K : PySem.W.Frag) (Hs Z O H : Hp) (L : Addr) (own : Bool) (acc : List V) (ds : List D) (G : List Addr) : Prop where
  at_ : H L = some (.lst acc)
  zl : Z L = none
  ol : O L = none
  it : if own = true then Owns K Z H acc ds G else Reps K Z acc ds ∧ G = []
  nd : G.Nodup
  ng : L ∉ G
  fr : ∀ a ∈ G, Hs a = none ∧ O a = none
section
variable {K : PySem.W.Frag} {E : XK} {Hs Z O H Z' O' H' : Hp} {L : Addr} {own : Bool} {acc : List V} {ds : List D} {G : List Addr}
theorem Acc.ext (a : Acc K Hs Z O H L own acc ds G) (e : Ext [] Z O H Z' O' H') : Acc K Hs Z' O' H' L own acc ds G := by
  have nn : ∀ {C C' : Hp}, (∀ c, C' c ≠ none → C c ≠ none ∨ H c = none ∨ c ∈ ([] : List Addr)) → ∀ {c : Addr}, C c = none → (∃ o, H c = some o) → C' c = none := fun {C C'} h {c} h1 h2 => by
    cases w : C' c with
    | none => rfl
    | some x =>
      obtain ⟨o, h3⟩ := h2
      rcases h c (by rw [w]; simp) with z | z | z
      · exact absurd h1 z
      · rw [h3] at z; cases z
      · cases z
  refine ⟨e.h.l a.at_, nn e.zn a.zl ⟨_, a.at_⟩, nn e.on a.ol ⟨_, a.at_⟩, ?_, a.nd, a.ng, fun c hc => ⟨(a.fr c hc).1, ?_⟩⟩
  · have := a.it
    cases own with
    | true => exact Owns.mono e.z (fun c _ o q n => e.h.s c o q n) this
    | false => exact ⟨Reps.mono e.z this.1, this.2⟩
  · cases own with
    | true =>
      have it : Owns K Z H acc ds G := a.it
      obtain ⟨o, h1, _⟩ := it.live c hc
      exact nn e.on (a.fr c hc).2 ⟨o, h1⟩
    | false =>
      obtain ⟨_, h⟩ : Reps K Z acc ds ∧ G = [] := a.it
      subst h
      cases hc
/-- one more -/
theorem Acc.push {v : V} {r : R} {G' : List Addr} {d : D} (g : Good Z O H) (a : Acc K Hs Z O H L own acc ds G) (q : RepR K Z O H v r G') (nd : G'.Nodup) (fr : ∀ c ∈ G', Hs c = none ∧ O c = none) (dj : ∀ c ∈ G', c ∉ G ∧ c ≠ L)
    (e : (if own = true then ownR r else frzR r) = some d) (hsL : Hs L = none) :
    Good Z O (upd H L (.lst (acc ++ [v]))) ∧ ∃ G2, Acc K Hs Z O (upd H L (.lst (acc ++ [v]))) L own (acc ++ [v]) (ds ++ [d]) G2 := by
  have gd : Good Z O (upd H L (.lst (acc ++ [v]))) := by
    refine ⟨g.zo, fun c o h => ?_, fun c o h f => ?_, g.nt⟩
    · have ne : c ≠ L := fun z => by rw [z, a.ol] at h; cases h
      rw [upd_ne ne]
      exact g.oh c o h
    · by_cases z : c = L
      · rw [z, upd_same] at h; cases h; cases f
      · rw [upd_ne z] at h; exact g.tz c o h f
  refine ⟨gd, ?_⟩
  cases own with
  | true =>
    have it : Owns K Z H acc ds G := a.it
    obtain ⟨G1, o1, c1⟩ := ownR_ok g q e
    have s1 : ∀ c ∈ G1, c ∈ G' := fun c hc => by
      rcases c1 with z | z
      · rw [z] at hc; exact hc
      · rw [z] at hc; cases hc
    have n1 : G1.Nodup := by
      rcases c1 with z | z
      · rw [z]; exact nd
      · rw [z]; exact List.nodup_nil
    have keep : ∀ {F : List Addr}, L ∉ F → ∀ c ∈ F, ∀ o, H c = some o → (∀ ps, o ≠ .tbl ps) → upd H L (.lst (acc ++ [v])) c = some o := fun {F} n c hc o h _ => by
      rw [upd_ne (fun (z : c = L) => n (z ▸ hc))]; exact h
    refine ⟨G ++ G1, upd_same, a.zl, a.ol, ?_, ?_, fun z => ?_, fun c hc => ?_⟩
    · show Owns K Z _ (acc ++ [v]) (ds ++ [d]) (G ++ G1)
      exact (Owns.mono (Same.refl _) (keep a.ng) it).append (Owns.one (Own.mono (Same.refl _) (keep fun z => (dj L (s1 L z)).2 rfl) o1))
    · rw [List.nodup_append]
      exact ⟨a.nd, n1, fun x hx y hy z => (dj y (s1 y hy)).1 (z ▸ hx)⟩
    · rcases List.mem_append.mp z with z | z
      · exact a.ng z
      · exact (dj L (s1 L z)).2 rfl
    · rcases List.mem_append.mp hc with hc | hc
      · exact a.fr c hc
      · exact fr c (s1 c hc)
  | false =>
    obtain ⟨it, eg⟩ : Reps K Z acc ds ∧ G = [] := a.it
    subst eg
    exact ⟨[], upd_same, a.zl, a.ol, ⟨it.append (.cons (frzR_ok g q e) .nil), rfl⟩, List.nodup_nil, (fun z => by cases z), fun c hc => by cases hc⟩
end
section
variable {K : PySem.W.Frag} {E : XK}
theorem comp_ok {vs : List Nat} {is : List Nat} {w : TI} {src : Src} {t : TG} {g : Tgx} {tt : Tx} {p : Px} {σ : St} {H : Hp} {Q : VK} (ik : IOc K E w src) (gk : GOc K is t g) (hv : ∀ i ∈ is, i ∈ vs) (h : tP K E (pComp vs src g tt p) σ H Q) :
    tLc w t (tT K E tt) (tP K E p) vs σ H Q := by
  obtain ⟨Z, O, ρ, F, rl, h⟩ := h
  refine ik σ H _ ⟨Z, O, ρ, F, rl, ?_⟩
  unfold pComp at h
  by_cases nv : nov ρ = true
  · rw [if_pos nv] at h
    cases e : src ρ with
    | bad => rw [e] at h; exact h.elim
    | exc c fs => rw [e] at h; exact h
    | ok rs =>
      rw [e] at h
      have h1 : ResK K E [] Z O H (match compE g tt p (wipeE ρ vs) rs with
        | some ys => compR ys
        | none => .bad) Q := h
      intro J H1 Z1 O1 x1 g1 wl L nL
      -- how the whole ends
      have zL : Z1 L = none := none_of g1.zh nL
      have oL : O1 L = none := none_of g1.oh nL
      have end_ : ∀ {own : Bool} {acc : List V} {ds : List D} {G : List Addr} {Z2 O2 H2 : Hp} {r : R}, Good Z2 O2 H2 → Ext [] Z1 O1 H1 Z2 O2 H2 → Acc K H1 Z2 O2 H2 L own acc ds G → r = (if own = true then ⟨.own, .list ds⟩ else ⟨.imm, .list ds⟩) → OkK K [] Z O H r Q → Q (.ref L) H2 := fun {own acc ds G Z2 O2 H2 r} g2 x2 a er q => by
        cases own with
        | true =>
          subst er
          have it : Owns K Z2 H2 acc ds G := a.it
          refine q _ H2 Z2 O2 (L :: G) (x1.trans0 x2) g2 (.lst a.at_ it) (List.nodup_cons.mpr ⟨a.ng, a.nd⟩) fun c hc => ?_
          rcases List.mem_cons.mp hc with z | z
          · rw [z]; exact ⟨.inl (x1.h.free nL), a.ol⟩
          · exact ⟨.inl (x1.h.free (a.fr c z).1), (a.fr c z).2⟩
        | false =>
          subst er
          obtain ⟨it, eg⟩ : Reps K Z2 acc ds ∧ G = [] := a.it
          have sz : Same Z2 (upd Z2 L (.lst acc)) := same_new a.zl
          have so : Same O2 (upd O2 L (.lst acc)) := same_new a.ol
          have g3 : Good (upd Z2 L (.lst acc)) (upd O2 L (.lst acc)) H2 := by
            refine ⟨fun c o h => ?_, fun c o h => ?_, fun c o h f => ?_, noT_upd g2.nt nofun⟩
            · by_cases z : c = L
              · subst z; rw [upd_same] at h ⊢; exact h
              · rw [upd_ne z] at h ⊢; exact g2.zo _ _ h
            · by_cases z : c = L
              · subst z; rw [upd_same] at h; rw [← h]; exact a.at_
              · rw [upd_ne z] at h; exact g2.oh _ _ h
            · by_cases z : c = L
              · subst z; rw [a.at_] at h; cases h; cases f
              · rw [upd_ne z]; exact g2.tz _ _ h f
          refine q _ H2 _ _ [] ⟨x1.h.trans x2.h, (x1.z.trans x2.z).trans sz, (x1.o.trans x2.o).trans so, fun c h => ?_, fun c h => ?_⟩ g3 ⟨.lst upd_same (it.mono sz), rfl⟩ List.nodup_nil fun c hc => by cases hc
          · rcases upd_some h with z | z
            · exact (x1.trans0 x2).zn c z
            · rw [z]; exact .inr (.inl (x1.h.free nL))
          · rcases upd_some h with z | z
            · exact (x1.trans0 x2).on c z
            · rw [z]; exact .inr (.inl (x1.h.free nL))
      -- what holds ahead of each turn
      have rl1 := rl.ext x1 g1
      obtain ⟨Fw, rlw, sbw⟩ := rl1.wipe vs
      have nw := nov_wipe nv vs
      -- the rest of the walk, with what is made so far
      let After := fun (i : Nat) (Z2 O2 H2 : Hp) => ∃ (own : Bool) (acc : List V) (ds : List D) (G : List Addr) (ys : List Oz.R) (ds2 : List D), Acc K H1 Z2 O2 H2 L own acc ds G ∧ compE g tt p (wipeE ρ vs) (rs.drop i) = some ys ∧ acc.length + ys.length ≤ sizeLine ∧
        (if own = true then owns ys else frzs ys) = some ds2 ∧ OkK K [] Z O H (if own = true then ⟨.own, .list (ds ++ ds2)⟩ else ⟨.imm, .list (ds ++ ds2)⟩) Q
      refine ⟨fun i m H' => m = rs.length - i ∧ i ≤ rs.length ∧ ∃ Z2 O2 F2, Good Z2 O2 H' ∧ Ext [] Z1 O1 H1 Z2 O2 H' ∧ Rel K Z2 O2 H' (L2.wipe σ vs) (wipeE ρ vs) F2 ∧ L ∉ F2 ∧ (∀ c ∈ F2, ∃ o, H1 c = some o) ∧ After i Z2 O2 H', ⟨rs.length, by simp, Nat.zero_le _, ?_⟩, ?_⟩
      · obtain ⟨x2, g2⟩ := ext_new (o := .lst []) g1 nL rfl
        have lv : ∀ c ∈ Fw, ∃ o, H1 c = some o := fun c hc => let ⟨o, h, _⟩ := rlw.sl.live c hc; ⟨o, h⟩
        have nF : L ∉ Fw := fun z => by
          obtain ⟨o, h⟩ := lv L z
          rw [nL] at h
          cases h
        refine ⟨Z1, O1, Fw, g2, x2, rlw.ext x2 g2, nF, lv, ?_⟩
        show ∃ (own : Bool) (acc : List V) (ds : List D) (G : List Addr) (ys : List Oz.R) (ds2 : List D), _
        cases e2 : compE g tt p (wipeE ρ vs) rs with
        | none => rw [e2] at h1; exact h1.elim
        | some ys =>
          rw [e2] at h1
          have h2 : ResK K E [] Z O H (if ys.length ≤ sizeLine then (match owns ys with
            | some ds => .ok ⟨.own, .list ds⟩
            | none => (match frzs ys with
              | some ds => .ok ⟨.imm, .list ds⟩
              | none => .bad)) else .bad) Q := h1
          by_cases ll : ys.length ≤ sizeLine
          · rw [if_pos ll] at h2
            cases e3 : owns ys with
            | some ds =>
              rw [e3] at h2
              exact ⟨true, [], [], [], ys, ds, ⟨upd_same, zL, oL, .nil, List.nodup_nil, (fun z => by cases z), fun c hc => by cases hc⟩, by rw [List.drop_zero, e2], by simpa using ll, e3, h2⟩
            | none =>
              rw [e3] at h2
              have h3 : ResK K E [] Z O H (match frzs ys with
                | some ds => .ok ⟨.imm, .list ds⟩
                | none => .bad) Q := h2
              cases e4 : frzs ys with
              | none => rw [e4] at h3; exact h3.elim
              | some ds =>
                rw [e4] at h3
                exact ⟨false, [], [], [], ys, ds, ⟨upd_same, zL, oL, ⟨.nil, rfl⟩, List.nodup_nil, (fun z => by cases z), fun c hc => by cases hc⟩, by rw [List.drop_zero, e2], by simpa using ll, e4, h3⟩
          · rw [if_neg ll] at h2
            exact h2.elim
      · rintro i m H' ⟨em, hi, Z2, O2, F2, g2, x2, rl2, nF2, lv2, own, acc, ds, G, ys, ds2, ac, hm, la, ho, hq⟩
        obtain ⟨w1, w2⟩ := wl Z2 O2 H' g2 x2.z x2.o (fun a o q _ n => x2.h.s a o q n) i hi
        by_cases hlt : i < rs.length
        · obtain ⟨go, yl⟩ := w2 rs[i] (List.getElem?_eq_getElem hlt)
          have ed : rs.drop i = rs[i] :: rs.drop (i + 1) := List.drop_eq_getElem_cons hlt
          rw [ed] at hm
          refine .inr ⟨go, fun H4 => ∃ Z4 O4 F4, Good Z4 O4 H4 ∧ Ext [] Z1 O1 H1 Z4 O4 H4 ∧ Rel K Z4 O4 H4 (L2.wipe σ vs) (wipeE ρ vs) F4 ∧ L ∉ F4 ∧ (∀ c ∈ F4, ∃ o, H1 c = some o) ∧ After (i + 1) Z4 O4 H4,
            fun H4 ⟨Z4, O4, F4, q1, q2, q3, q4, q5, q6⟩ => ⟨rs.length - (i + 1), by omega, rfl, hlt, Z4, O4, F4, q1, q2, q3, q4, q5, q6⟩, fun x H3 hy => ?_⟩
          obtain ⟨Z3, O3, x3, g3, r3⟩ := yl x H3 hy
          have rl3 := rl2.ext x3 g3
          have ac3 := ac.ext x3
          unfold compE at hm
          cases z : g rs[i] (wipeE ρ vs) with
          | none => simp only [z] at hm; cases hm
          | some ρ1 =>
            simp only [z] at hm
            refine gk Z3 O3 H3 (L2.wipe σ vs) (wipeE ρ vs) F2 x rs[i] ρ1 rl3 r3 z _ fun σ1 F5 rl5 sb5 wp5 => ?_
            have ww : L2.wipe (L2.wipe σ vs) vs = L2.wipe σ vs := by
              apply List.ext_getElem?
              intro j
              by_cases hj : j ∈ vs
              · by_cases hl : j < σ.length
                · rw [wipe_in hj hl, wipe_in hj (by rw [wipe_length]; exact hl)]
                · rw [List.getElem?_eq_none (by rw [wipe_length, wipe_length]; omega), List.getElem?_eq_none (by rw [wipe_length]; omega)]
              · rw [wipe_out hj]
            refine ⟨(wp5 vs hv).trans ww, Z3, O3, ρ1, F5, rl5, ?_⟩
            cases et : tt ρ1 with
            | bad => simp only [et] at hm; cases hm
            | exc c fs => simp only [et] at hm; cases hm
            | ok b =>
              simp only [et] at hm
              intro H6 Z6 O6 x6 g6
              have rlw6 := (rl3.ext x6 g6)
              have ac6 := ac3.ext x6
              have x16 := (x2.trans0 x3).trans0 x6
              cases b with
              | false =>
                simp only [Bool.false_eq_true, if_false] at hm
                rw [if_neg Bool.false_ne_true]
                exact ⟨Z6, O6, F2, g6, x16, rlw6, nF2, lv2, own, acc, ds, G, ys, ds2, ac6, hm, la, ho, hq⟩
              | true =>
                simp only [if_true] at hm
                rw [if_pos rfl]
                refine ⟨Z6, O6, ρ1, F5, rl5.ext x6 g6, ?_⟩
                cases ep : p ρ1 with
                | bad => simp only [ep] at hm; cases hm
                | exc c fs => simp only [ep] at hm; cases hm
                | ok y =>
                  simp only [ep] at hm
                  cases er : compE g tt p (wipeE ρ vs) (rs.drop (i + 1)) with
                  | none => simp only [er] at hm; cases hm
                  | some ys' =>
                    simp only [er] at hm
                    have ey : y :: ys' = ys := Option.some.inj hm
                    subst ey
                    intro v H7 Z7 O7 G7 x7 g7 q7 n7 f7
                    have ac7 := ac6.ext x7
                    rw [List.length_cons] at la
                    refine ⟨acc, ac7.at_, by omega, ?_⟩
                    -- the new item
                    have hd : ∃ d ds3, (if own = true then ownR y else frzR y) = some d ∧ (if own = true then owns ys' else frzs ys') = some ds3 ∧ ds2 = d :: ds3 := by
                      cases own with
                      | true =>
                        obtain ⟨d1, d2, e1, e2, e3⟩ := owns_append (xs := [y]) (ys := ys') ho
                        unfold owns at e1
                        cases eo : ownR y with
                        | none => simp only [eo] at e1; cases e1
                        | some d =>
                          simp only [eo, owns] at e1
                          cases e1
                          exact ⟨d, d2, rfl, e2, e3⟩
                      | false =>
                        obtain ⟨d1, d2, e1, e2, e3⟩ := frzs_append (xs := [y]) (ys := ys') ho
                        unfold frzs at e1
                        cases eo : frzR y with
                        | none => simp only [eo] at e1; cases e1
                        | some d =>
                          simp only [eo, frzs] at e1
                          cases e1
                          exact ⟨d, d2, rfl, e2, e3⟩
                    obtain ⟨d, ds3, hd1, hd2, hd3⟩ := hd
                    have f7' : ∀ c ∈ G7, H6 c = none := fun c hc => (f7 c hc).1.elim id fun z => by cases z
                    have dj7 : ∀ c ∈ G7, c ∉ G ∧ c ≠ L := fun c hc => by
                      refine ⟨fun z => ?_, fun z => ?_⟩
                      · cases own with
                        | true =>
                          have it : Owns K Z6 H6 acc ds G := ac6.it
                          obtain ⟨o, h, _⟩ := it.live c z
                          rw [f7' c hc] at h
                          cases h
                        | false =>
                          obtain ⟨_, eg⟩ : Reps K Z6 acc ds ∧ G = [] := ac6.it
                          subst eg
                          cases z
                      · have := f7' c hc
                        rw [z, ac6.at_] at this
                        cases this
                    obtain ⟨g8, G8, ac8⟩ := ac7.push g7 q7 n7 (fun c hc => ⟨x16.h.free (f7' c hc), (f7 c hc).2⟩) dj7 hd1 nL
                    refine ⟨Z7, O7, F2, g8, ?_, ?_, nF2, lv2, own, _, _, G8, ys', ds3, ac8, er, by rw [List.length_append, List.length_singleton]; omega, hd2, ?_⟩
                    · have x17 := x16.trans0 x7
                      exact ⟨x17.h.updN nL ⟨fun ps z => (by rw [ac7.at_] at z; cases z), fun _ _ z => (by rw [ac7.at_] at z; cases z)⟩, x17.z, x17.o, x17.zn, x17.on⟩
                    · have rl7 := rlw6.ext x7 g7
                      exact ⟨g8, rl7.nd, rl7.fo, rl7.sl.keep (Same.refl _) (Same.refl _) nw (fun a ha o h _ => by rw [upd_ne (fun (z : a = L) => nF2 (z ▸ ha))]; exact h), fun P hP => upd_tab ⟨fun ps z => (by rw [ac7.at_] at z; cases z), fun _ _ z => (by rw [ac7.at_] at z; cases z)⟩ (rl7.tb P hP)⟩
                    · have e9 : (ds ++ [d]) ++ ds3 = ds ++ ds2 := by rw [hd3, List.append_assoc]; rfl
                      rw [e9]
                      exact hq
        · have ei : i = rs.length := by omega
          refine .inl ⟨w1 ei, ?_⟩
          have ed : rs.drop i = [] := List.drop_eq_nil_of_le (by omega)
          rw [ed] at hm
          have ey : ys = [] := by
            unfold compE at hm
            exact (Option.some.inj hm).symm
          subst ey
          have e3 : ds2 = [] := by
            cases own with
            | true => exact (Option.some.inj ho).symm
            | false => exact (Option.some.inj ho).symm
          subst e3
          rw [List.append_nil] at hq
          exact end_ g2 x2 ac rfl hq
  · rw [if_neg nv] at h
    exact h.elim
end
end Oz

namespace Oz
open PySem PySem.Spec L2
open PyProof.Rows hiding St
variable [WD]

/-! ### comprehensions as rules -/
section
variable {X : Cx} {E : XK} {elt tg iter : Expr} {ifs : List Expr} {scope : Scope} {own : List (Str × Nat)} {pos : Pos} {is : List Nat} {w : TI} {src : Src} {t : TG} {g : Tgx} {tt : Tx} {p : Px}
theorem s_comp (hc : X.calm = true) (hN : X.N.Nodup) (hi : PI X tg iter w) (ik : IOc X.K E w src) (ok : BlkOk X.N X.env.scope scope own) (gk : GOc X.K is t g) (hv : ∀ i ∈ is, i ∈ own.map (·.2))
    (hg : ∀ (s : Shared) (H : Hp) (C : Addr) (cl : List (Str × Addr)) (fp : List Addr), PG (X.blk s H scope (compEnvC scope cl C X.env) fp) tg t)
    (ht : ∀ (s : Shared) (H : Hp) (C : Addr) (cl : List (Str × Addr)) (fp : List Addr), PTs (X.blk s H scope (compEnvC scope cl C X.env) fp) ifs (tT X.K E tt))
    (he : ∀ (s : Shared) (H : Hp) (C : Addr) (cl : List (Str × Addr)) (fp : List Addr), PE (X.blk s H scope (compEnvC scope cl C X.env) fp) elt (tP X.K E p)) (hs : ∀ x, foldedSetIterable iter X.env x = pure x := by exact fun _ => rfl) :
    PE X (.ListComp elt [⟨tg, iter, ifs, 0⟩] scope pos) (tP X.K E (pComp (own.map (·.2)) src g tt p)) := (pe_lc hc hN hi ok hg ht he hs).imp fun σ H Q h => comp_ok ik gk hv h
end

/-! ### built-ins -/
def BOk (K : PySem.W.Frag) (T : List V → Hp → VK → Prop) (f : List R → Res R) : Prop := ∀ (E : XK) (Z O H : Hp) (vs : List V) (rs : List R) (G : List Addr) (Q : VK), Good Z O H → RepRs K Z O H vs rs G → G.Nodup → (∀ c ∈ G, O c = none) →
  ResK K E G Z O H (f rs) Q → T vs H Q
def pB (f : List R → Res R) (ps : List Px) : Px := fun ρ => (evs ps ρ).bind f
section
variable {X : Cx} {E : XK} {x T : Str} {p pos : Pos} {e : Expr} {es : List Expr} {qs : List Px} {f : List R → Res R} {r : List V → Hp → VK → Prop}
theorem s_callB {id : String} (bk : BOk X.K r f) (hc : CallR X (.builtin id) r) (hg : Gl X x) (hm : X.mg x = none) (hv : bootBuiltins x = some (.builtin id)) (ha : PA X (e :: es) (tA X.K E qs)) (hn : x ≠ "__name__" := by decide) (hdb : (x == ("__debug__" : Str)) = false := by decide)
    (he : starEach (e :: es) X.env = (false, eval e X.env) :: starEach es X.env := by rfl) (hpl : (backTo pos (starEach es X.env)).any (·.1) = false := by rfl) : PE X (.Call (.Name x p) (e :: es) [] pos) (tP X.K E (pB f qs)) :=
  (pe_callB hc hg hm hv ha hn hdb he hpl).imp fun σ H Q h => tA_bind h fun Z O H1 G vs rs g q nd fo h2 _ => bk E Z O H1 vs rs G Q g q nd fo h2
theorem s_callTy {id : String} (bk : BOk X.K r f) (hc : CallR X (.type id) r) (hg : Gl X x) (hm : X.mg x = none) (hv : bootBuiltins x = some (.type id)) (ha : PA X (e :: es) (tA X.K E qs)) (hn : x ≠ "__name__" := by decide) (hdb : (x == ("__debug__" : Str)) = false := by decide)
    (he : starEach (e :: es) X.env = (false, eval e X.env) :: starEach es X.env := by rfl) (hpl : (backTo pos (starEach es X.env)).any (·.1) = false := by rfl) : PE X (.Call (.Name x p) (e :: es) [] pos) (tP X.K E (pB f qs)) :=
  (pe_callTy hc hg hm hv ha hn hdb he hpl).imp fun σ H Q h => tA_bind h fun Z O H1 G vs rs g q nd fo h2 _ => bk E Z O H1 vs rs G Q g q nd fo h2
end
section
variable {K : PySem.W.Frag}
theorem RepRs.one {Z O H : Hp} {vs : List V} {r : R} {G : List Addr} (h : RepRs K Z O H vs [r] G) : ∃ v, vs = [v] ∧ RepR K Z O H v r G := by
  cases h with
  | cons q s => cases s; rw [List.append_nil]; exact ⟨_, rfl, q⟩
theorem RepRs.two {Z O H : Hp} {vs : List V} {r r' : R} {G : List Addr} (h : RepRs K Z O H vs [r, r'] G) : ∃ v v' G1 G2, vs = [v, v'] ∧ RepR K Z O H v r G1 ∧ RepR K Z O H v' r' G2 ∧ G = G1 ++ G2 := by
  cases h with
  | cons q s =>
    obtain ⟨v', e, q2⟩ := s.one
    subst e
    exact ⟨_, v', _, _, rfl, q, q2, rfl⟩
/-- one argument, an answer of its own -/
def b1 (f : D → Option D) : List R → Res R := fun rs => match rs with
  | [r] => (match f r.d with
    | some d => .ok ⟨.imm, d⟩
    | none => .bad)
  | _ => .bad
theorem bok1 {T : List V → Hp → VK → Prop} {f : D → Option D} (h : ∀ (H : Hp) (x : V) (a d : D) (Q : VK), Rep K H x a → f a = some d → (∀ v, (∀ C, Rep K C v d) → Q v H) → T [x] H Q) : BOk K T (b1 f) := fun E Z O H vs rs G Q g q nd fo k => by
  cases rs with
  | nil => exact k.elim
  | cons r rs => cases rs with
    | cons _ _ => exact k.elim
    | nil =>
      obtain ⟨v, rfl, qr⟩ := q.one
      have k2 : ResK K E G Z O H (match f r.d with | some d => .ok ⟨.imm, d⟩ | none => .bad) Q := k
      cases e : f r.d with
      | none => rw [e] at k2; exact k2.elim
      | some d =>
        rw [e] at k2
        exact h H v r.d d Q (qr.look g) e fun v' r' => OkK.imm g k2 (r' Z)
/-- len -/
def fLen : D → Option D
  | .list ds => some (.int (ds.length : Int))
  | .tuple ds => some (.int (ds.length : Int))
  | .str x => if x.length ≤ sizeLine then some (.int (x.length : Int)) else none
  | .dict [(.none, .list ds)] => some (.int (ds.length : Int))
  | .dict ((.none, _) :: _) => none
  | .dict ((.bool _, _) :: _) => none
  | .dict es => some (.int (es.length : Int))
  | _ => none
def rLenA (K : PySem.W.Frag) : List V → Hp → VK → Prop := fun xs H Q => (∃ p ys, xs = [.ref p] ∧ (SqL K H p ys ∨ SqT K H p ys) ∧ Q (.int ys.length) H) ∨ (∃ a kvs, xs = [V.ref a] ∧ H a = some (.dK kvs) ∧ Q (.int kvs.length) H) ∨ (∃ z, xs = [.str z] ∧ z.length ≤ sizeLine ∧ Q (.int z.length) H)
theorem call_lenA {X : Cx} : CallR X (.builtin "len") (rLenA X.K) := CallR.or call_len_seq (CallR.or call_lenD call_len_str)
theorem b_len : BOk K (rLenA K) (b1 fLen) := bok1 fun H x a d Q r e q => by
  cases r with
  | lst h r => cases e; exact .inl ⟨_, _, rfl, .inl (.inl (.inl h)), by rw [r.length]; exact q _ fun _ => .int _⟩
  | scr h r => cases e; exact .inl ⟨_, _, rfl, .inl h.sqL, by rw [r.length]; exact q _ fun _ => .int _⟩
  | tup h r => cases e; exact .inl ⟨_, _, rfl, .inr h, by rw [r.length]; exact q _ fun _ => .int _⟩
  | str x =>
    obtain ⟨h, rfl⟩ := ite_some (c := x.length ≤ sizeLine) e
    exact .inr (.inr ⟨x, rfl, h, q _ fun _ => .int _⟩)
  | dct h k r =>
    rename_i p kvs es
    have hl : kvs.length = es.length := by
      have := congrArg List.length k
      simpa using this.symm
    cases es with
    | nil => cases e; exact .inr (.inl ⟨_, _, rfl, h, by rw [hl]; exact q _ fun _ => .int _⟩)
    | cons e0 es =>
      obtain ⟨k1, v1⟩ := e0
      cases kvs with
      | nil => simp at k
      | cons y ys =>
        simp only [List.map_cons, List.cons.injEq] at k
        obtain ⟨k0, _⟩ := k
        obtain ⟨y1, y2⟩ := y
        subst k0
        cases y1 with
        | inl i => cases e; exact .inr (.inl ⟨_, _, rfl, h, by rw [hl]; exact q _ fun _ => .int _⟩)
        | inr z => cases e; exact .inr (.inl ⟨_, _, rfl, h, by rw [hl]; exact q _ fun _ => .int _⟩)
  | obj h c k r =>
    rename_i es
    cases e2 : es with
    | nil => subst e2; cases e
    | cons _ _ => subst e2; cases e
  | _ => cases e
/-- ints of a row -/
def intsD : List D → Option (List Int)
  | [] => some []
  | .int i :: ds => (match intsD ds with
    | some is => some (i :: is)
    | none => none)
  | _ :: _ => none
def fInt : D → Option D
  | .int i => some (.int i)
  | .bool b => some (.int (if b then 1 else 0))
  | _ => none
theorem b_int : BOk K (fun xs H Q => (∃ i, xs = [.int i] ∧ Q (.int i) H) ∨ ∃ k, xs = [.bl k] ∧ Q (.int (if k then 1 else 0)) H) (b1 fInt) := bok1 fun H x a d Q r e q => by
  cases r with
  | int i => cases e; exact .inl ⟨i, rfl, q _ fun _ => .int _⟩
  | bl b => cases e; exact .inr ⟨b, rfl, q _ fun _ => .int _⟩
  | _ => cases e
/-- max, min of two -/
def b2i (f : Int → Int → Int) : List R → Res R := fun rs => match rs with
  | [a, b] => (match a.d, b.d with
    | .int i, .int j => .ok ⟨.imm, .int (f i j)⟩
    | _, _ => .bad)
  | _ => .bad
theorem bok2i {f : Int → Int → Int} : BOk K (fun xs H Q => ∃ i j, xs = [.int i, .int j] ∧ Q (.int (f i j)) H) (b2i f) := fun E Z O H vs rs G Q g q nd fo k => by
  match rs, q, k with
  | [], _, k => exact k.elim
  | [_], _, k => exact k.elim
  | a :: b :: _ :: _, _, k => exact k.elim
  | [a, b], q, k =>
    obtain ⟨v, v', G1, G2, rfl, q1, q2, _⟩ := q.two
    obtain ⟨s, a⟩ := a
    obtain ⟨t, b⟩ := b
    have l1 := q1.look g
    have l2 := q2.look g
    cases a with
    | int i => cases b with
      | int j =>
        cases l1
        cases l2
        exact ⟨i, j, rfl, OkK.imm g k (.int _)⟩
      | _ => exact k.elim
    | _ => cases b <;> exact k.elim
abbrev fMin2 : Int → Int → Int := fun i j => if j < i then j else i
/-- tuple(x), list(x) -/
def bTuple : List R → Res R := fun rs => match rs with
  | [r] => (match r.d with
    | .list ds => tnew r.s ds
    | .tuple _ => if r.s = .imm then .ok r else .bad
    | _ => .bad)
  | _ => .bad
theorem b_tuple : BOk K (fun xs H Q => ∃ p ys, xs = [.ref p] ∧ ((SqL K H p ys ∧ ∀ l, H l = none → Q (.ref l) (upd H l (.tup ys))) ∨ (SqT K H p ys ∧ Q (.ref p) H))) bTuple := fun E Z O H vs rs G Q g q nd fo k => by
  match rs, q, k with
  | [], _, k => exact k.elim
  | _ :: _ :: _, _, k => exact k.elim
  | [r], q, k =>
    obtain ⟨v, rfl, q1⟩ := q.one
    obtain ⟨s, d⟩ := r
    cases d with
    | list ds =>
      have l1 := q1.look g
      cases l1 with
      | lst h r =>
        refine ⟨_, _, rfl, .inl ⟨.inl (.inl h), fun l nl => tnew_ok (s := s) g k r (fun es => ?_) nl⟩⟩
        obtain ⟨p1, v1, z1, z2, z3⟩ := q1.zlist es
        cases z1
        have u := g.zh _ _ z2
        rw [h] at u
        cases u
        exact z3
    | tuple ds =>
      have k2 : ResK K E G Z O H (if s = .imm then .ok ⟨s, .tuple ds⟩ else .bad) Q := k
      by_cases es : s = .imm
      · rw [if_pos es] at k2
        subst es
        obtain ⟨p1, v1, z1, z2, z3⟩ := q1.ztup rfl
        subst z1
        exact ⟨p1, v1, rfl, .inr ⟨Same.seqT g.zh z2, OkK.imm g k2 (.tup z2 z3)⟩⟩
      · rw [if_neg es] at k2; exact k2.elim
    | _ => exact k.elim
def bList : List R → Res R := fun rs => match rs with
  | [r] => (match itemsD r.d with
    | some ds => dnew r.s ds
    | none => .bad)
  | _ => .bad
/-- - x -/
def pNeg (p : Px) : Px := fun ρ => (p ρ).bind fun r => match r.d with
  | .int i => .ok ⟨.imm, .int (-i)⟩
  | _ => .bad
theorem s_neg {X : Cx} {E : XK} {a : Expr} {p : Px} {pos : Pos} (ha : PE X a (tP X.K E p)) : PE X (.UnaryOp .USub a pos) (tP X.K E (pNeg p)) := by
  refine (pe_un un_neg ha).imp fun σ H Q h => ?_
  refine tP_bind (k := fun r _ => match r.d with | .int i => .ok ⟨.imm, .int (-i)⟩ | _ => .bad) h fun Z O H1 Z1 O1 ρ F G v r rl x1 r1 q1 nd fr h2 => ?_
  obtain ⟨s, d⟩ := r
  cases d with
  | int i =>
    have lk := q1.look r1.g
    cases lk
    exact ⟨i, rfl, h2 _ H1 Z1 O1 [] x1 r1.g ⟨.int _, rfl⟩ List.nodup_nil fun c hc => by cases hc⟩
  | _ => exact h2.elim
end
end Oz

namespace Oz
open PySem PySem.Spec L2
open PyProof.Rows hiding St
variable [WD]

/-! ### places within what one owns -/
/-- a place: the slot, what stands there, the whole with another thing there -/
structure Pl where
  i : Nat
  d : D
  put : D → D
abbrev Plx := Ev → Res Pl
structure PlAt (K : PySem.W.Frag) (Z O H : Hp) (σ : St) (ρ : Ev) (F : List Addr) (l : Pl) (v : V) (s : Sx) (F1 G F2 : List Addr) : Prop where
  slot : ∃ d, ρ[l.i]? = some (some ⟨s, d⟩)
  st : s = .own ∨ s = .brw
  eq : F = F1 ++ (G ++ F2)
  own : Own K Z H v l.d G
  back : ∀ (Z' O' H' : Hp) (d : D) (G' : List Addr), Same Z Z' → Same O O' → nov ρ = true → (∀ a ∈ F1 ++ F2, ∀ o, H a = some o → (∀ ps, o ≠ .tbl ps) → H' a = some o) → Own K Z' H' v d G' → Slots K Z' O' H' σ (ρ.set l.i (some ⟨s, l.put d⟩)) (F1 ++ (G' ++ F2))
def tPl (K : PySem.W.Frag) (E : XK) (l : Plx) : TE := fun σ H Q => ∃ Z O ρ F, Rel K Z O H σ ρ F ∧ match l ρ with
  | .bad => False
  | .exc c fs => ExcK K E Z O H c fs
  | .ok l => ∀ v H' Z' O' s F1 G F2, Ext [] Z O H Z' O' H' → Good Z' O' H' → PlAt K Z' O' H' σ ρ F l v s F1 G F2 → Q v H'
section
variable {K : PySem.W.Frag} {E : XK} {Z O H Z' O' H' : Hp} {σ : St} {ρ : Ev} {F F1 G F2 : List Addr} {l : Pl} {v : V} {s : Sx}
theorem PlAt.ext (p : PlAt K Z O H σ ρ F l v s F1 G F2) (e : Ext [] Z O H Z' O' H') : PlAt K Z' O' H' σ ρ F l v s F1 G F2 where
  slot := p.slot
  st := p.st
  eq := p.eq
  own := Own.mono e.z (fun a _ o q n => e.h.s a o q n) p.own
  back := fun Z2 O2 H2 d G' ez eo n k q => by
    refine p.back Z2 O2 H2 d G' (e.z.trans ez) (e.o.trans eo) n (fun a ha o h n => k a ha o (e.h.s a o h n) n) q
/-- a name -/
def plN (i : Nat) : Plx := fun ρ => match ρ[i]? with
  | some (some ⟨.own, d⟩) => .ok ⟨i, d, id⟩
  | some (some ⟨.brw, d⟩) => .ok ⟨i, d, id⟩
  | _ => .bad
theorem plN_ok (rl : Rel K Z O H σ ρ F) {i : Nat} (h : plN i ρ = .ok l) : ∃ v s F1 G F2, σ[i]? = some (some v) ∧ PlAt K Z O H σ ρ F l v s F1 G F2 := by
  unfold plN at h
  cases e : ρ[i]? with
  | none => rw [e] at h; cases h
  | some y =>
    cases y with
    | none => rw [e] at h; cases h
    | some r =>
      obtain ⟨s, d⟩ := r
      obtain ⟨hl, _⟩ := List.getElem?_eq_some_iff.mp e
      obtain ⟨x, y, F1, G, F2, h1, h2, h3, h4, h5⟩ := rl.sl.focus hl
      rw [e] at h2
      cases h2
      cases x with
      | none => exact h4.elim
      | some v =>
        have key : (s = .own ∨ s = .brw) → l = ⟨i, d, id⟩ → ∃ v s F1 G F2, σ[i]? = some (some v) ∧ PlAt K Z O H σ ρ F l v s F1 G F2 := fun hs hl => by
          subst hl
          have q : Own K Z H v d G := by rcases hs with rfl | rfl <;> exact RepS.rep h4 nofun
          refine ⟨v, s, F1, G, F2, h1, ⟨⟨d, e⟩, hs, h3, q, fun Z' O' H' d' G' ez eo n k q' => ?_⟩⟩
          have sl := h5 (some v) (some ⟨s, d'⟩) G' Z' O' H' ez eo (.inr n) k (by rcases hs with rfl | rfl <;> exact .inl q')
          have es : σ.set i (some v) = σ := by
            apply List.ext_getElem?
            intro j
            by_cases ij : i = j
            · subst ij
              obtain ⟨hl2, _⟩ := List.getElem?_eq_some_iff.mp h1
              rw [List.getElem?_set_self hl2, h1]
            · rw [List.getElem?_set_ne ij]
          rw [es] at sl
          exact sl
        cases s with
        | own => rw [e] at h; exact key (.inl rfl) (Res.ok.inj h).symm
        | brw => rw [e] at h; exact key (.inr rfl) (Res.ok.inj h).symm
        | _ => rw [e] at h; cases h
/-- the cells of items -/
theorem Owns.at : ∀ {xs : List V} {ds : List D} {F : List Addr} {i : Nat} {d : D}, Owns K Z H xs ds F → ds[i]? = some d → ∃ x A G B, xs[i]? = some x ∧ F = A ++ (G ++ B) ∧ Own K Z H x d G ∧
    ∀ (Z' H' : Hp) (x' : V) (d' : D) (G' : List Addr), Same Z Z' → (∀ a ∈ A ++ B, ∀ o, H a = some o → (∀ ps, o ≠ .tbl ps) → H' a = some o) → Own K Z' H' x' d' G' → Owns K Z' H' (xs.set i x') (ds.set i d') (A ++ (G' ++ B))
  | _, _, _, _, _, .nil, h => by simp at h
  | _, _, _, 0, d, .cons (F := F) (G := G) q s, h => by
    simp at h
    subst h
    refine ⟨_, [], F, G, rfl, rfl, q, fun Z' H' x' d' G' ez k q' => ?_⟩
    have z := Owns.cons q' (Owns.mono ez (fun a ha => k a (by simpa using ha)) s)
    exact z
  | _, _, _, i + 1, d, .cons (F := F) (G := G) q s, h => by
    obtain ⟨x, A, G0, B, h1, h2, h3, h4⟩ := Owns.at (i := i) s (by simpa using h)
    refine ⟨x, F ++ A, G0, B, by simpa using h1, by rw [h2, List.append_assoc], h3, fun Z' H' x' d' G' ez k q' => ?_⟩
    rw [List.append_assoc]
    refine .cons (Own.mono ez (fun a ha => k a (by simp [ha])) q) (h4 Z' H' x' d' G' ez (fun a ha => k a ?_) q')
    rcases List.mem_append.mp ha with ha | ha
    · simp [ha]
    · simp [ha]
theorem Own.lst_inv {ds : List D} (q : Own K Z H v (.list ds) G) : ∃ a xs G0, v = .ref a ∧ H a = some (.lst xs) ∧ Owns K Z H xs ds G0 ∧ G = a :: G0 := by
  cases q with
  | imm r p => cases p
  | lst h r => exact ⟨_, _, _, rfl, h, r, rfl⟩
theorem set_same {α : Type} {xs : List α} {i : Nat} {x : α} (h : xs[i]? = some x) : xs.set i x = xs := by
  apply List.ext_getElem?
  intro j
  by_cases ij : i = j
  · subst ij
    obtain ⟨hl, _⟩ := List.getElem?_eq_some_iff.mp h
    rw [List.getElem?_set_self hl, h]
  · rw [List.getElem?_set_ne ij]
/-- an item's place -/
theorem PlAt.item {ds : List D} {j : Nat} {d : D} (p : PlAt K Z O H σ ρ F l v s F1 G F2) (nd : F.Nodup) (e : l.d = .list ds) (hj : ds[j]? = some d) :
    ∃ a xs x F1' G' F2', v = .ref a ∧ H a = some (.lst xs) ∧ xs.length = ds.length ∧ xs[j]? = some x ∧ PlAt K Z O H σ ρ F ⟨l.i, d, fun y => l.put (.list (ds.set j y))⟩ x s F1' G' F2' := by
  have q := p.own
  rw [e] at q
  obtain ⟨a, xs, G0, rfl, ha, qs, eg⟩ := q.lst_inv
  obtain ⟨x, A, Gi, B, h1, h2, h3, h4⟩ := qs.at hj
  refine ⟨a, xs, x, F1 ++ (a :: A), Gi, B ++ F2, rfl, ha, qs.length, h1, ⟨p.slot, p.st, ?_, h3, fun Z' O' H' d' G' ez eo n k q' => ?_⟩⟩
  · rw [p.eq, eg, h2]
    simp
  · have ka : H' a = some (.lst xs) := k a (by simp) _ ha nofun
    have qn : Own K Z' H' (.ref a) (.list (ds.set j d')) (a :: (A ++ (G' ++ B))) := by
      refine .lst (xs := xs) ka ?_
      have q5 := h4 Z' H' x d' G' ez (fun c hc o h => k c (by
        rcases List.mem_append.mp hc with hc | hc
        · simp [hc]
        · simp [hc]) o h) q'
      rw [set_same h1] at q5
      exact q5
    have sl := p.back Z' O' H' (.list (ds.set j d')) _ ez eo n (fun c hc o h => k c (by
        rcases List.mem_append.mp hc with hc | hc
        · simp [hc]
        · simp [hc]) o h) qn
    have ee : F1 ++ (a :: A) ++ (G' ++ (B ++ F2)) = F1 ++ ((a :: (A ++ (G' ++ B))) ++ F2) := by simp
    rw [ee]
    exact sl
/-- a place written: its own cell alone has changed -/
theorem PlAt.wrote {d : D} {G' : List Addr} (p : PlAt K Z O H σ ρ F l v s F1 G F2) (rl : Rel K Z O H σ ρ F) (n : nov ρ = true) {a : Addr} (ha : a ∈ G) {o : HO} (fo : fzn o = false) (q : Own K Z (upd H a o) v d G') (nd : G'.Nodup) (fr : ∀ c ∈ G', c ∈ G ∨ (c ∉ F ∧ O c = none)) :
    Rel K Z O (upd H a o) σ (ρ.set l.i (some ⟨s, l.put d⟩)) (F1 ++ (G' ++ F2)) ∧ nov (ρ.set l.i (some ⟨s, l.put d⟩)) = true ∧ TrS Z O H σ ρ F Z O (upd H a o) σ (ρ.set l.i (some ⟨s, l.put d⟩)) (F1 ++ G ++ F2) := by
  have nF := rl.nd
  rw [p.eq] at nF
  obtain ⟨n1, n2, n3⟩ := List.nodup_append.mp nF
  obtain ⟨n4, n5, n6⟩ := List.nodup_append.mp n2
  have aF : a ∈ F := by rw [p.eq]; simp [ha]
  have a1 : ∀ c ∈ F1 ++ F2, c ≠ a := fun c hc e => by
    rcases List.mem_append.mp hc with hc | hc
    · exact n3 c hc a (List.mem_append_left _ ha) e
    · exact n6 a ha c hc e.symm
  have sl := p.back Z O (upd H a o) d G' (Same.refl _) (Same.refl _) n (fun c hc x h _ => by rw [upd_ne (a1 c hc)]; exact h) q
  have gd : Good Z O (upd H a o) := by
    refine ⟨rl.g.zo, fun c x h => ?_, fun c x h f => ?_, rl.g.nt⟩
    · have ne : c ≠ a := fun z => by rw [z, rl.fo a aF] at h; cases h
      rw [upd_ne ne]
      exact rl.g.oh c x h
    · by_cases z : c = a
      · rw [z, upd_same] at h; cases h; rw [fo] at f; cases f
      · rw [upd_ne z] at h; exact rl.g.tz c x h f
  have inF : ∀ c, c ∈ F1 ∨ c ∈ F2 → c ∈ F := fun c hc => by
    rw [p.eq]
    rcases hc with hc | hc
    · simp [hc]
    · simp [hc]
  have gF : ∀ c ∈ G, c ∈ F := fun c hc => by rw [p.eq]; simp [hc]
  refine ⟨⟨gd, ?_, fun c hc => ?_, sl, rl.updT aF o⟩, nov_set n (fun d' e => ?_), ⟨Same.refl _, fun c x h hn _ => ?_, fun c h => .inl h, fun c hc => .inl ?_, fun c h => .inr (upd_fr h), fun c hn h => upd_tab (rl.sl.nsy a aF) h⟩, Same.refl _, rfl, fun j d' hj => ?_, fun a q => .inl q⟩
  · rw [List.nodup_append]
    refine ⟨n1, ?_, fun x hx y hy e => ?_⟩
    · rw [List.nodup_append]
      refine ⟨nd, n5, fun x hx y hy e => ?_⟩
      rcases fr x hx with z | z
      · exact n6 x z y hy e
      · exact z.1 (inF x (.inr (e ▸ hy)))
    · rcases List.mem_append.mp hy with hy | hy
      · rcases fr y hy with z | z
        · exact n3 x hx y (List.mem_append_left _ z) e
        · exact z.1 (inF y (.inl (e ▸ hx)))
      · exact n3 x hx y (List.mem_append_right _ hy) e
  · rcases List.mem_append.mp hc with hc | hc
    · exact rl.fo c (inF c (.inl hc))
    · rcases List.mem_append.mp hc with hc | hc
      · rcases fr c hc with z | z
        · exact rl.fo c (gF c z)
        · exact z.2
      · exact rl.fo c (inF c (.inr hc))
  · cases e
    rcases p.st with z | z <;> cases z
  · rw [upd_ne (fun (z : c = a) => hn (z ▸ aF))]; exact h
  · rcases List.mem_append.mp hc with hc | hc
    · rcases List.mem_append.mp hc with hc | hc
      · exact inF c (.inl hc)
      · exact gF c hc
    · exact inF c (.inr hc)
  · by_cases ij : l.i = j
    · subst ij
      obtain ⟨d0, h0⟩ := p.slot
      rw [hj] at h0
      cases h0
      obtain ⟨hl, _⟩ := List.getElem?_eq_some_iff.mp hj
      exact ⟨rfl, l.put d, List.getElem?_set_self hl⟩
    · exact ⟨rfl, d', by rw [List.getElem?_set_ne ij]; exact hj⟩
end
/-- a place's item -/
def plI (l : Plx) (p : Px) : Plx := fun ρ => (l ρ).bind fun l => (p ρ).bind fun r => match l.d, r.d with
  | .list ds, .int i => (match ixN ds.length i with
    | some j => (match ds[j]? with
      | some d => .ok ⟨l.i, d, fun y => l.put (.list (ds.set j y))⟩
      | none => .bad)
    | none => .bad)
  | _, _ => .bad
section
variable {X : Cx} {E : XK} {a b : Expr} {l : Plx} {p : Px} {pos : Pos} {x : Str}
theorem s_plN (i : Nat) (hN : X.N[i]? = some x := by rfl) (hv : Vis X.env.scope x := by first | exact Or.inl rfl | exact Or.inr (Or.inl rfl) | exact Or.inr (Or.inr rfl)) (hd : (x == ("__debug__" : Str)) = false := by decide)
    (hcd : (x == ("__classdict__" : Str)) = false := by decide) : PE X (.Name x pos) (tPl X.K E (plN i)) := by
  refine (pe_var hN hv hd hcd).imp fun σ H Q h => ?_
  obtain ⟨Z, O, ρ, F, rl, h⟩ := h
  cases e : plN i ρ with
  | bad => rw [e] at h; exact h.elim
  | exc c fs =>
    unfold plN at e
    split at e <;> cases e
  | ok l =>
    rw [e] at h
    obtain ⟨v, s, F1, G, F2, h1, pa⟩ := plN_ok rl e
    exact ⟨v, h1, h v H Z O s F1 G F2 (Ext.refl _ _ _ _) rl.g pa⟩
end
/-- the frame behind a change -/
def putE (l : Pl) (d : D) (ρ : Ev) : SR := match ρ[l.i]? with
  | some (some ⟨s, _⟩) => .next (ρ.set l.i (some ⟨s, l.put d⟩))
  | _ => .bad
/-- l.append(p) -/
def sApp (l : Plx) (p : Px) : Stx := fun ρ => match l ρ with
  | .bad => .bad
  | .exc c fs => .exc c fs ρ
  | .ok l => (match l.d with
    | .list ds => (match p ρ with
      | .bad => .bad
      | .exc c fs => .exc c fs ρ
      | .ok r => (match ownR r with
        | some d => if ds.length < sizeLine then putE l (.list (ds ++ [d])) ρ else .bad
        | none => .bad))
    | _ => .bad)
section
variable {X : Cx} {E : XK} {a b : Expr} {l : Plx} {p : Px} {pos apos cpos : Pos}
theorem s_app (hl : PE X a (tPl X.K E l)) (hp : PE X b (tP X.K E p)) (hst : starEach [b] X.env = (false, eval b X.env) :: starEach [] X.env := by rfl)
    (h : ∀ {to : TE} {t : TA}, PE X a to → PA X [b] t → PS X (.Expr (.Call (.Attribute a "append" apos) [b] [] cpos) pos) (tDrop (tBM X.K "list" rAppend to t))) : PS X (.Expr (.Call (.Attribute a "append" apos) [b] [] cpos) pos) (tS X.K E (sApp l p)) := by
  refine (h hl (pa_cons hp pa_nil hst)).imp fun D σ H h => ?_
  obtain ⟨Z, O, ρ, F, rl, n, h⟩ := h
  refine ⟨Z, O, ρ, F, rl, ?_⟩
  unfold sApp at h
  cases e : l ρ with
  | bad => rw [e] at h; exact h.elim
  | exc c fs => rw [e] at h; exact SRK.exc rl h
  | ok l0 =>
    rw [e] at h
    simp only at h
    intro v H1 Z1 O1 s F1 G F2 x1 g1 pa
    have rl1 := rl.ext x1 g1
    cases el : l0.d with
    | list ds =>
      rw [el] at h
      simp only at h
      have q := pa.own
      rw [el] at q
      obtain ⟨a0, xs, G0, rfl, ha0, qs, eg⟩ := q.lst_inv
      refine ⟨.inl ⟨rfl, _, .inl (.inl ha0)⟩, Z1, O1, ρ, F, rl1, ?_⟩
      cases e2 : p ρ with
      | bad => rw [e2] at h; exact h.elim
      | exc c fs => rw [e2] at h; exact ExcK.ext (SRK.exc rl h) x1
      | ok r =>
        rw [e2] at h
        simp only at h
        cases er : ownR r with
        | none => rw [er] at h; exact h.elim
        | some d =>
          rw [er] at h
          simp only at h
          by_cases c : ds.length < sizeLine
          · rw [if_pos c] at h
            intro y H2 Z2 O2 G2 x2 g2 q2 nd2 fr2
            have pa2 := pa.ext x2
            have rl2 := rl1.ext x2 g2
            have ha2 := x2.h.l ha0
            have qs2 : Owns X.K Z2 H2 xs ds G0 := Owns.mono x2.z (fun a _ o q n => x2.h.s a o q n) qs
            obtain ⟨G', qo, cG⟩ := ownR_ok g2 q2 er
            have sG : ∀ c ∈ G', c ∈ G2 := fun c hc => by
              rcases cG with z | z
              · rw [z] at hc; exact hc
              · rw [z] at hc; cases hc
            have nG : G'.Nodup := by
              rcases cG with z | z
              · rw [z]; exact nd2
              · rw [z]; exact List.nodup_nil
            have fG : ∀ c ∈ G', H1 c = none := fun c hc => (fr2 c (sG c hc)).1.elim id fun z => by cases z
            have aG : a0 ∉ G0 := by
              have nF := rl.nd
              rw [pa.eq, eg] at nF
              have := (List.nodup_append.mp (List.nodup_append.mp nF).2.1).1
              exact (List.nodup_cons.mp this).1
            have aG' : a0 ∉ G' := fun z => by rw [fG a0 z] at ha0; cases ha0
            have keep : ∀ {Fs : List Addr}, a0 ∉ Fs → ∀ c ∈ Fs, ∀ o, H2 c = some o → (∀ ps, o ≠ .tbl ps) → upd H2 a0 (.lst (xs ++ [y])) c = some o := fun {Fs} nn c hc o h _ => by
              rw [upd_ne (fun (z : c = a0) => nn (z ▸ hc))]; exact h
            have qn : Own X.K Z2 (upd H2 a0 (.lst (xs ++ [y]))) (.ref a0) (.list (ds ++ [d])) (a0 :: (G0 ++ G')) :=
              .lst upd_same ((Owns.mono (Same.refl _) (keep aG) qs2).append (Owns.one (Own.mono (Same.refl _) (keep aG') qo)))
            have ndn : (a0 :: (G0 ++ G')).Nodup := by
              refine List.nodup_cons.mpr ⟨fun z => (List.mem_append.mp z).elim aG aG', List.nodup_append.mpr ⟨?_, nG, fun u hu w hw e => ?_⟩⟩
              · have nF := rl.nd
                rw [pa.eq, eg] at nF
                exact (List.nodup_cons.mp (List.nodup_append.mp (List.nodup_append.mp nF).2.1).1).2
              · obtain ⟨o, h, _⟩ := qs.live u hu
                rw [e, fG w hw] at h
                cases h
            obtain ⟨d0, hs0⟩ := pa.slot
            obtain ⟨rl3, n3, tr3⟩ := pa2.wrote rl2 n (a := a0) (by rw [eg]; simp) (o := .lst (xs ++ [y])) rfl (d := .list (ds ++ [d])) qn ndn fun c hc => by
              rcases List.mem_cons.mp hc with z | z
              · left; rw [eg, z]; simp
              · rcases List.mem_append.mp z with z | z
                · left; rw [eg]; simp [z]
                · right
                  refine ⟨fun w => ?_, (fr2 c (sG c z)).2⟩
                  obtain ⟨o, h, _⟩ := rl1.sl.live c w
                  rw [fG c z] at h
                  cases h
            refine ⟨a0, xs, y, rfl, rfl, ha2, by rw [qs.length]; exact c, ?_⟩
            unfold putE at h
            rw [hs0] at h
            have tr12 : TrS Z O H σ ρ F Z2 O2 H2 σ ρ F := TrS.ext (x1.trans0 x2)
            refine h σ _ Z2 O2 _ rl3 n3 ⟨⟨tr12.tr.z, fun c o hc hn nn => ?_, tr12.tr.zn, fun c hc => ?_, fun c h => (tr3.tr.fr c h).elim .inl (tr12.tr.fr c), fun c hn h => tr3.tr.tab c hn (tr12.tr.tab c hn h)⟩, tr12.o, rfl, fun j d' hj => tr3.brw j d' hj, tr12.on⟩
            · exact tr3.tr.keep c o (tr12.tr.keep c o hc hn nn) hn nn
            · rcases List.mem_append.mp hc with hc | hc
              · left; rw [pa.eq]; simp [hc]
              · rcases List.mem_append.mp hc with hc | hc
                · rcases List.mem_cons.mp hc with z | z
                  · left; rw [pa.eq, eg, z]; simp
                  · rcases List.mem_append.mp z with z | z
                    · left; rw [pa.eq, eg]; simp [z]
                    · right; exact x1.h.free (fG c z)
                · left; rw [pa.eq]; simp [hc]
          · rw [if_neg c] at h; exact h.elim
    | _ => rw [el] at h; exact h.elim
end
end Oz

namespace Oz
open PySem PySem.Spec L2
open PyProof.Rows hiding St
variable [WD]

/-! ### a def one may call -/
structure Cal (CX : CXT) (P : Program) (w : World) (K : PySem.W.Frag) (mg : Str → Option Value) (base : Heap) (k : Nat) (x : Str) (ps : List Str) (md : List Md) (m : Fn) : Prop where
  ex : ∃ f fd, FnOk P w K mg base CX k f fd ps (spF K md m) ∧ Binds K fd ps [] ∧ PySem.W.keepIn K (.ref f) = true ∧ mg x = some (.ref f)
section
variable {X : Cx} {E : XK} {CX : CXT} {k k' : Nat} {ps : List Str} {md : List Md} {m : Fn} {x : Str} {p pos : Pos} {e : Expr} {es : List Expr} {qs : List Px}
theorem s_callC (c : Cal CX X.prog X.w X.K X.mg X.base k x ps md m) (hr : Room k' X.A) (hx : Passes CX X E) (ha : PA X (e :: es) (tA X.K E qs)) (hg : Gl X x := by rfl) (hk : k ≤ k' := by decide)
    (hdb : (x == ("__debug__" : Str)) = false := by decide) (he : starEach (e :: es) X.env = (false, eval e X.env) :: starEach es X.env := by rfl) (hpl : (backTo pos (starEach es X.env)).any (·.1) = false := by rfl) :
    PE X (.Call (.Name x p) (e :: es) [] pos) (tP X.K E (pCall m md qs)) := by
  obtain ⟨f, fd, F, b, kp, hm⟩ := c.ex
  exact s_call F (hr.mono hk) hg hm kp b hx ha hdb he hpl
end
theorem cal_of {CX : CXT} {P : Program} {w : World} {K : PySem.W.Frag} {mg : Str → Option Value} {base : Heap} {x qual : Str} {params : Arguments} {body : List Stmt} {scope : Scope} {ps : List Str} {k : Nat} {md : List Md} {m : Fn}
    (T : ∃ f fd, FunD K x qual params body scope [] [] f fd ∧ mg x = some (.ref f))
    (hb : ∀ (kV doc pm : Value) (an : Option Addr) (cdv ct : Value) (us : List Value), us.length = ps.length → bindArgs (PySem.W.fnOf x qual params body scope .none kV doc pm an cdv ct) ⟨us, []⟩ = pure (ps.zip us))
    (B : ∀ f fd, FunD K x qual params body scope [] [] f fd → FnOk P w K mg base CX k f fd ps (spF K md m)) :
    Cal CX P w K mg base k x ps md m := by
  obtain ⟨f, fd, F, hm⟩ := T
  exact ⟨f, fd, B f fd F, F.bindsN hb, F.kp, hm⟩
theorem passE {X : Cx} {E : XK} : Passes CX0 X E := fun _ _ _ _ _ _ _ h => h.elim
theorem hu64 {A : Around} {k : Nat} (hr : Room k A) : A.units + 64 < cLine := by have := hr.un; omega
theorem hu65 {A : Around} {k : Nat} (hr : Room k A) : A.units + 65 < cLine := by have := hr.un; omega
/-! ### the block of a comprehension -/
def blkB (N : List Str) (sc scope : Scope) (own : List (Str × Nat)) : Bool :=
  decide (scope.kind = .function) && (scope.names.all fun y => decide (scope.names.lookup y.1 = some y.2)) && (own.all fun p => decide (N[p.2]? = some p.1)) &&
  (scope.names.all fun y => !decide (y.2 = .free) || (decide (sc.names.lookup y.1 = some .cell) || decide (sc.names.lookup y.1 = some .free))) &&
  (scope.names.all fun y => !(decide (y.2 = .local) || decide (y.2 = .cell)) || (decide (y.1 ∈ own.map (·.1)) || !decide (y.1 ∈ N)))
theorem blkB_ok {N : List Str} {sc scope : Scope} {own : List (Str × Nat)} (h : blkB N sc scope own = true) : BlkOk N sc scope own := by
  unfold blkB at h
  simp only [Bool.and_eq_true, decide_eq_true_eq, List.all_eq_true, Bool.or_eq_true, Bool.not_eq_true', decide_eq_false_iff_not] at h
  obtain ⟨⟨⟨⟨h1, h2⟩, h3⟩, h4⟩, h5⟩ := h
  refine ⟨h1, h2, h3, fun y hy e => ?_, fun y hy e => ?_⟩
  · rcases h4 y hy with z | z
    · exact absurd e z
    · exact z
  · rcases h5 y hy with z | z
    · rw [Bool.or_eq_false_iff, decide_eq_false_iff_not, decide_eq_false_iff_not] at z
      exact e.elim (fun e => absurd e z.1) fun e => absurd e z.2
    · exact z
/-! ### the law's end -/
theorem law_spT {K : PySem.W.Frag} {m : Fn} {n : Nat} (h : ∀ ns : List Int, ns.length ≤ n → m [scrD (ns.map .int)] = .ok ⟨.imm, .bool true⟩ []) (H : Hp) (a : Addr) (ns : List Int) (hl : ns.length ≤ n) (tb : Tabs K H) (hS : SqL K H a (ns.map V.int)) :
    spF K [.v] m [.ref a] H (fun v _ => v = .bl true) fun _ _ _ => False := by
  have hF : SqF K H a (ns.map V.int) := hS
  have hi : ∀ (C : Hp) (ns : List Int), Reps K C (ns.map V.int) (ns.map PyData.int) := fun C ns => by
    induction ns with
    | nil => exact .nil
    | cons x xs ih => exact .cons (.int x) ih
  refine ⟨rfl, without H [], [scrD (ns.map .int)], [], fun _ _ h => (without_some h).1, without_noT H [], tb, fun a o h f => without_sameN H a o h (fun ps e => by rw [e] at f; cases f), .v (.scr (hF.monoN (without_sameN H)) (hi _ _)) .nil, List.nodup_nil, (fun a ha => by cases ha), ?_⟩
  rw [h ns hl]
  intro v H' Z' Fm' G A t r
  obtain ⟨r, _⟩ := r
  cases r
  rfl
end Oz

namespace Oz
open PySem PySem.Spec L2
open PyProof.Rows hiding St
variable [WD]

/-! ### reckoning with what a def does -/
theorem str_inj {a b : String} : (Str.ofString a = Str.ofString b) ↔ a = b := by
  constructor
  · intro h
    rw [Str.ofString_eq_toList, Str.ofString_eq_toList] at h
    have h2 : a.toList.map Char.toNat = b.toList.map Char.toNat := by
      have := congrArg (fun s : Str => s.cps.toList) h
      simpa using this
    have h3 : a.toList = b.toList := by
      refine List.map_inj_right (f := Char.toNat) (fun x y e => ?_) |>.mp h2
      have e2 : x.val.toNat = y.val.toNat := e
      exact Char.ext (UInt32.toNat_inj.mp e2)
    exact String.toList_inj.mp h3
  · intro h
    rw [h]
@[simp] theorem str_eq {a b : String} : (Str.ofString a = Str.ofString b) = (a = b) := propext str_inj
@[simp] theorem str_beq {a b : String} : (Str.ofString a == Str.ofString b) = (a == b) := by
  rw [Bool.eq_iff_iff]
  simp
section
variable {ρ : Ev}
@[simp] theorem x_seq {s t : Stx} : sSeq s t ρ = (match s ρ with | .next ρ' => t ρ' | r => r) := id rfl
@[simp] theorem x_if {c : Tx} {s t : Stx} : sIf c s t ρ = (match c ρ with | .bad => .bad | .exc x fs => .exc x fs ρ | .ok b => if b = true then s ρ else t ρ) := id rfl
@[simp] theorem x_asg {i : Nat} {p : Px} : sAsg i p ρ = (match p ρ with | .bad => .bad | .exc c fs => .exc c fs ρ | .ok r => (match setS i r ρ with | some ρ' => .next ρ' | none => .bad)) := id rfl
@[simp] theorem x_asgT {g : Tgx} {p : Px} : sAsgT g p ρ = (match p ρ with | .bad => .bad | .exc c fs => .exc c fs ρ | .ok r => (match g r ρ with | some ρ' => .next ρ' | none => .bad)) := id rfl
@[simp] theorem x_ret {p : Px} : sRet p ρ = (match p ρ with | .bad => .bad | .exc c fs => .exc c fs ρ | .ok r => if storable r = true then .ret r ρ else .bad) := id rfl
@[simp] theorem x_drop {p : Px} : sDrop p ρ = (match p ρ with | .bad => .bad | .exc c fs => .exc c fs ρ | .ok _ => .next ρ) := id rfl
@[simp] theorem x_next : sNext ρ = .next ρ := id rfl
@[simp] theorem x_for {src : Src} {g : Tgx} {b : Stx} : sFor src g b ρ = (match src ρ with | .bad => .bad | .exc c fs => .exc c fs ρ | .ok rs => loopS g b rs ρ) := id rfl
@[simp] theorem x_C {d : D} : pC d ρ = .ok ⟨.imm, d⟩ := id rfl
@[simp] theorem x_var {i : Nat} : pVar i ρ = (match ρ[i]? with | some (some ⟨.tab, _⟩) => .bad | some (some r) => .ok (vw r) | _ => .bad) := id rfl
@[simp] theorem x_p2 {f : R → R → Res R} {p q : Px} : p2 f p q ρ = ((p ρ).bind fun a => (q ρ).bind fun b => f a b) := id rfl
@[simp] theorem x_at2 {f : D → D → Option D} {a b : R} : at2 f a b = (match f a.d b.d with | some d => .ok ⟨.imm, d⟩ | none => .bad) := id rfl
@[simp] theorem x_i2 {f : Int → Int → Option D} {i j : Int} : i2 f (.int i) (.int j) = f i j := id rfl
@[simp] theorem x_and {p q : Px} : pAnd p q ρ = ((p ρ).bind fun r => match truth r.d with | some true => q ρ | some false => .ok r | none => .bad) := id rfl
@[simp] theorem x_or {p q : Px} : pOr p q ρ = ((p ρ).bind fun r => match truth r.d with | some true => .ok r | some false => q ρ | none => .bad) := id rfl
@[simp] theorem x_not {p : Px} : pNot p ρ = ((p ρ).bind fun r => match truth r.d with | some b => .ok ⟨.imm, .bool (!b)⟩ | none => .bad) := id rfl
@[simp] theorem x_pif {t : Tx} {p q : Px} : pIf t p q ρ = ((t ρ).bind fun b => if b = true then p ρ else q ρ) := id rfl
@[simp] theorem x_tand {t u : Tx} : tAndD t u ρ = ((t ρ).bind fun b => if b = true then u ρ else .ok false) := id rfl
@[simp] theorem x_tor {t u : Tx} : tOrD t u ρ = ((t ρ).bind fun b => if b = true then .ok true else u ρ) := id rfl
@[simp] theorem x_tnot {t : Tx} : tNotD t ρ = ((t ρ).bind fun b => .ok (!b)) := id rfl
@[simp] theorem x_val {p : Px} : tVal p ρ = ((p ρ).bind fun r => match r.d with | .bool b => .ok b | _ => .bad) := id rfl
@[simp] theorem x_tru {p : Px} : tTru p ρ = ((p ρ).bind fun r => match truth r.d with | some b => .ok b | none => .bad) := id rfl
@[simp] theorem x_yes : tYesD ρ = .ok true := id rfl
@[simp] theorem x_tup {ps : List Px} : pTup ps ρ = ((evs ps ρ).bind fun rs => match frzs rs with | some ds => if ds.length ≤ sizeLine then .ok ⟨.imm, .tuple ds⟩ else .bad | none => .bad) := id rfl
@[simp] theorem x_lst {ps : List Px} : pLst ps ρ = ((evs ps ρ).bind fun rs => match owns rs with | some ds => if ds.length ≤ sizeLine then .ok ⟨.own, .list ds⟩ else .bad | none => .bad) := id rfl
@[simp] theorem x_pB {f : List R → Res R} {ps : List Px} : pB f ps ρ = (evs ps ρ).bind f := id rfl
@[simp] theorem x_call {f : Fn} {md : List Md} {ps : List Px} : pCall f md ps ρ = ((evs ps ρ).bind fun rs => match pargs md rs with | some ds => (match f ds with | .ok r [] => .ok r | .exc c fs [] => .exc c fs | _ => .bad) | none => .bad) := id rfl
@[simp] theorem x_evs0 : evs [] ρ = .ok [] := id rfl
@[simp] theorem x_evs1 {p : Px} {ps : List Px} : evs (p :: ps) ρ = ((p ρ).bind fun r => (evs ps ρ).bind fun rs => .ok (r :: rs)) := id rfl
@[simp] theorem x_comp {vs : List Nat} {src : Src} {g : Tgx} {t : Tx} {p : Px} : pComp vs src g t p ρ = (if nov ρ = true then (src ρ).bind fun rs => match compE g t p (wipeE ρ vs) rs with | some ys => compR ys | none => .bad else .bad) := id rfl
@[simp] theorem x_srcS {p : Px} : srcS p ρ = ((p ρ).bind fun r => if r.s = .view then .bad else srcR r) := id rfl
@[simp] theorem x_srcC {p : Px} : srcC p ρ = (p ρ).bind srcR := id rfl
@[simp] theorem x_srcR1 {p : Px} : srcR1 p ρ = ((p ρ).bind fun r => match r.d with | .int j => if inR j = true then .ok (irng 0 j.toNat) else .bad | _ => .bad) := id rfl
@[simp] theorem x_srcR2 {p q : Px} : srcR2 p q ρ = ((p ρ).bind fun a => (q ρ).bind fun b => match a.d, b.d with | .int i, .int j => if inR i = true ∧ inR j = true then .ok (irng i (j - i).toNat) else .bad | _, _ => .bad) := id rfl
@[simp] theorem x_srcRl {s : Sx} {ds : List D} : srcR ⟨s, .list ds⟩ = .ok (ds.map (sub s)) := id rfl
@[simp] theorem x_srcRt {s : Sx} {ds : List D} : srcR ⟨s, .tuple ds⟩ = .ok (ds.map (sub s)) := id rfl
@[simp] theorem x_app {l : Plx} {p : Px} : sApp l p ρ = (match l ρ with | .bad => .bad | .exc c fs => .exc c fs ρ | .ok l => (match l.d with
    | .list ds => (match p ρ with | .bad => .bad | .exc c fs => .exc c fs ρ | .ok r => (match ownR r with | some d => if ds.length < sizeLine then putE l (.list (ds ++ [d])) ρ else .bad | none => .bad))
    | _ => .bad)) := id rfl
@[simp] theorem x_plN {i : Nat} : plN i ρ = (match ρ[i]? with | some (some ⟨.own, d⟩) => .ok ⟨i, d, id⟩ | some (some ⟨.brw, d⟩) => .ok ⟨i, d, id⟩ | _ => .bad) := id rfl
@[simp] theorem x_plI {l : Plx} {p : Px} : plI l p ρ = ((l ρ).bind fun l => (p ρ).bind fun r => match l.d, r.d with
  | .list ds, .int i => (match ixN ds.length i with
    | some j => (match ds[j]? with
      | some d => .ok ⟨l.i, d, fun y => l.put (.list (ds.set j y))⟩
      | none => .bad)
    | none => .bad)
  | _, _ => .bad) := id rfl
@[simp] theorem x_putE {l : Pl} {d : D} : putE l d ρ = (match ρ[l.i]? with | some (some ⟨s, _⟩) => .next (ρ.set l.i (some ⟨s, l.put d⟩)) | _ => .bad) := id rfl
@[simp] theorem x_retV {i : Nat} : sRetV i ρ = (match ρ[i]? with | some (some ⟨.own, d⟩) => .ret ⟨.own, d⟩ (ρ.set i none) | _ => sRet (pVar i) ρ) := id rfl
@[simp] theorem x_gN {i : Nat} {r : R} : gN i r ρ = setS i r ρ := id rfl
@[simp] theorem x_gsN0 : gsN [] ρ = some ρ := id rfl
@[simp] theorem x_gsC {t : Tgx} {u : Tgxs} {r : R} {rs : List R} : gsC t u (r :: rs) ρ = (match t r ρ with | some ρ' => u rs ρ' | none => none) := id rfl
@[simp] theorem x_gT {n : Nat} {t : Tgxs} {s : Sx} {ds : List D} : gT n t ⟨s, .tuple ds⟩ ρ = if ds.length = n then t (ds.map (sub s)) ρ else none := id rfl
@[simp] theorem x_cN {i : Nat} {r : R} : cN i r ρ = setC i r ρ := id rfl
@[simp] theorem x_fnD {n : Nat} {md : List Md} {b : Stx} {ds : List D} : fnD n md b ds = (match b (entE md ds n) with
  | .bad => .bad
  | .next ρ => exitE md ⟨.imm, .none⟩ ρ
  | .ret r ρ => exitE md r ρ
  | .exc c fs ρ => (match outsE md ρ with
    | some ms => .exc c fs ms
    | none => .bad)) := id rfl
end
@[simp] theorem gd_s {b : Bool} : gd b = b := gd_eq b
@[simp] theorem bind_ok' {α β : Type} (a : α) (f : α → Res β) : (Res.ok a).bind f = f a := id rfl
/-! statuses -/
@[simp] theorem lf_int {i : Int} : lf (.int i) = true := id rfl
@[simp] theorem lf_bool {b : Bool} : lf (.bool b) = true := id rfl
@[simp] theorem lf_str {x : Str} : lf (.str x) = true := id rfl
@[simp] theorem lf_none : lf .none = true := id rfl
@[simp] theorem lf_list {ds : List D} : lf (.list ds) = false := id rfl
@[simp] theorem lf_dict {es : List (D × D)} : lf (.dict es) = false := id rfl
@[simp] theorem lf_scr {ds : List D} : lf (scrD ds) = false := id rfl
@[simp] theorem lf_tup {ds : List D} : lf (.tuple ds) = lfs ds := id rfl
@[simp] theorem lfs_nil : lfs [] = true := id rfl
@[simp] theorem lfs_cons {d : D} {ds : List D} : lfs (d :: ds) = (lf d && lfs ds) := id rfl
theorem lfs_all {ds : List D} : lfs ds = ds.all lf := by
  induction ds with
  | nil => rfl
  | cons x xs ih => simp [ih]
@[simp] theorem lfs_map_int {ns : List Int} : lfs (ns.map .int) = true := by rw [lfs_all]; simp
@[simp] theorem vw_imm {d : D} : vw ⟨.imm, d⟩ = ⟨.imm, d⟩ := by unfold vw; split <;> rfl
@[simp] theorem vw_lf {s : Sx} {d : D} (h : lf d = true) : vw ⟨s, d⟩ = ⟨.imm, d⟩ := if_pos h
theorem vw_nlf {s : Sx} {d : D} (h : lf d = false) : vw ⟨s, d⟩ = (match s with | .own => ⟨.view, d⟩ | .brw => ⟨.view, d⟩ | s => ⟨s, d⟩) := by unfold vw; cases s <;> exact if_neg (by simp [h])
@[simp] theorem vw_own {d : D} (h : lf d = false) : vw ⟨.own, d⟩ = ⟨.view, d⟩ := vw_nlf h
@[simp] theorem vw_brw {d : D} (h : lf d = false) : vw ⟨.brw, d⟩ = ⟨.view, d⟩ := vw_nlf h
@[simp] theorem vw_out {d : D} (h : lf d = false) : vw ⟨.out, d⟩ = ⟨.out, d⟩ := vw_nlf h
@[simp] theorem vw_view {d : D} (h : lf d = false) : vw ⟨.view, d⟩ = ⟨.view, d⟩ := vw_nlf h
@[simp] theorem sub_imm {d : D} : sub .imm d = ⟨.imm, d⟩ := by unfold sub; split <;> rfl
@[simp] theorem sub_lf {s : Sx} {d : D} (h : lf d = true) : sub s d = ⟨.imm, d⟩ := if_pos h
theorem sub_nlf {s : Sx} {d : D} (h : lf d = false) : sub s d = (match s with | .imm => ⟨.imm, d⟩ | .out => ⟨.out, d⟩ | _ => ⟨.view, d⟩) := by unfold sub; cases s <;> exact if_neg (by simp [h])
@[simp] theorem sub_out {d : D} (h : lf d = false) : sub .out d = ⟨.out, d⟩ := sub_nlf h
@[simp] theorem sub_view {d : D} (h : lf d = false) : sub .view d = ⟨.view, d⟩ := sub_nlf h
@[simp] theorem sub_own {d : D} (h : lf d = false) : sub .own d = ⟨.view, d⟩ := sub_nlf h
@[simp] theorem frzR_imm {d : D} : frzR ⟨.imm, d⟩ = some d := id rfl
@[simp] theorem frzR_lf {s : Sx} {d : D} (h : lf d = true) : frzR ⟨s, d⟩ = some d := by unfold frzR; cases s <;> first | rfl | exact if_pos h
@[simp] theorem frzs_nil : frzs [] = some [] := id rfl
@[simp] theorem frzs_cons {r : R} {rs : List R} : frzs (r :: rs) = (match frzR r, frzs rs with | some d, some ds => some (d :: ds) | _, _ => none) := id rfl
@[simp] theorem ownR_own {d : D} : ownR ⟨.own, d⟩ = some d := id rfl
@[simp] theorem ownR_lf {s : Sx} {d : D} (h : lf d = true) : ownR ⟨s, d⟩ = some d := by unfold ownR; cases s <;> first | rfl | exact if_pos h
@[simp] theorem ownR_val {d : D} (h : isVal d = true) : ownR ⟨.imm, d⟩ = some d := by
  unfold ownR
  show (if lf d = true then some d else if Sx.imm = .imm ∧ isVal d = true then some d else none) = some d
  by_cases l : lf d = true
  · rw [if_pos l]
  · rw [if_neg l, if_pos ⟨rfl, h⟩]
@[simp] theorem isVal_tup {ds : List D} : isVal (.tuple ds) = true := id rfl
@[simp] theorem owns_nil : owns [] = some [] := id rfl
@[simp] theorem owns_cons {r : R} {rs : List R} : owns (r :: rs) = (match ownR r, owns rs with | some d, some ds => some (d :: ds) | _, _ => none) := id rfl
@[simp] theorem pargs_nil : pargs [] [] = some [] := id rfl
@[simp] theorem pargs_i {md : List Md} {r : R} {rs : List R} : pargs (.i :: md) (r :: rs) = (match frzR r, pargs md rs with | some d, some ds => some (d :: ds) | _, _ => none) := id rfl
@[simp] theorem pargs_v {md : List Md} {r : R} {rs : List R} : pargs (.v :: md) (r :: rs) = (match pargs md rs with | some ds => some (r.d :: ds) | none => none) := id rfl
@[simp] theorem entE_cons {m : Md} {md : List Md} {d : D} {ds : List D} {n : Nat} : entE (m :: md) (d :: ds) n = some (entR m d) :: entE md ds (n - 1) := id rfl
@[simp] theorem entE_nil {ds : List D} {n : Nat} : entE [] ds n = List.replicate n none := by cases ds <;> rfl
@[simp] theorem entR_i {d : D} : entR .i d = ⟨.imm, d⟩ := id rfl
@[simp] theorem entR_m {d : D} : entR .m d = ⟨.brw, d⟩ := id rfl
@[simp] theorem entR_v1 {d : D} (h : lf d = true) : entR .v d = ⟨.imm, d⟩ := if_pos h
@[simp] theorem entR_v0 {d : D} (h : lf d = false) : entR .v d = ⟨.out, d⟩ := if_neg (by simp [h])
@[simp] theorem outsE_nil {ρ : Ev} : outsE [] ρ = some [] := id rfl
@[simp] theorem outsE_i {md : List Md} {x : Option R} {ρ : Ev} : outsE (.i :: md) (x :: ρ) = outsE md ρ := id rfl
@[simp] theorem outsE_v {md : List Md} {x : Option R} {ρ : Ev} : outsE (.v :: md) (x :: ρ) = outsE md ρ := id rfl
@[simp] theorem outsE_m {md : List Md} {d : D} {ρ : Ev} : outsE (.m :: md) (some ⟨.brw, d⟩ :: ρ) = (match outsE md ρ with | some ds => some (d :: ds) | none => none) := id rfl
@[simp] theorem exitE_imm {md : List Md} {d : D} {ρ : Ev} : exitE md ⟨.imm, d⟩ ρ = (match outsE md ρ with | some ms => .ok ⟨.imm, d⟩ ms | none => .bad) := id rfl
@[simp] theorem exitE_own {md : List Md} {d : D} {ρ : Ev} : exitE md ⟨.own, d⟩ ρ = (match outsE md ρ with | some ms => .ok ⟨.own, d⟩ ms | none => .bad) := id rfl
@[simp] theorem sto_imm {d : D} : storable ⟨.imm, d⟩ = true := id rfl
@[simp] theorem sto_own {d : D} : storable ⟨.own, d⟩ = true := id rfl
@[simp] theorem sto_out {d : D} : storable ⟨.out, d⟩ = true := id rfl
@[simp] theorem x_setS {i : Nat} {r : R} {ρ : Ev} : setS i r ρ = (match ρ[i]? with | none => none | some (some ⟨.brw, _⟩) => none | some _ => if storable r = true then some (ρ.set i (some r)) else none) := id rfl
@[simp] theorem x_setC {i : Nat} {r : R} {ρ : Ev} : setC i r ρ = (match ρ[i]? with | none => none | some (some ⟨.brw, _⟩) => none | some _ => if r.s = .own ∨ r.s = .brw then none else some (ρ.set i (some r))) := id rfl
@[simp] theorem wipe0 {ρ : Ev} : wipeE ρ [] = ρ := id rfl
@[simp] theorem wipe1 {ρ : Ev} {v : Nat} {vs : List Nat} : wipeE ρ (v :: vs) = (wipeE ρ vs).set v none := id rfl
@[simp] theorem nov_nil : nov [] = true := id rfl
@[simp] theorem nov_none {ρ : Ev} : nov (none :: ρ) = nov ρ := id rfl
@[simp] theorem nov_imm {d : D} {ρ : Ev} : nov (some ⟨.imm, d⟩ :: ρ) = nov ρ := id rfl
@[simp] theorem nov_out {d : D} {ρ : Ev} : nov (some ⟨.out, d⟩ :: ρ) = nov ρ := id rfl
@[simp] theorem nov_own {d : D} {ρ : Ev} : nov (some ⟨.own, d⟩ :: ρ) = nov ρ := id rfl
@[simp] theorem nov_brw {d : D} {ρ : Ev} : nov (some ⟨.brw, d⟩ :: ρ) = nov ρ := id rfl
/-! indices -/
theorem ixN_nat {n k : Nat} (h : k < n) : ixN n (k : Int) = some k := by
  unfold ixN
  rw [if_pos (by omega), if_pos (by omega)]
  simp
@[simp] theorem ixN_lit {n k : Nat} : ixN n (no_index (@OfNat.ofNat Int k instOfNat)) = if k < n then some k else none := by
  by_cases h : k < n
  · rw [if_pos h]
    exact ixN_nat h
  · rw [if_neg h]
    unfold ixN
    have e : (@OfNat.ofNat Int k instOfNat) = (k : Int) := id rfl
    rw [e, if_pos (by omega), if_neg (by omega)]
theorem atI_ofNat {α : Type} {xs : List α} {k : Nat} : atI xs (k : Int) = xs[k]? := by
  unfold atI
  by_cases h : k < xs.length
  · rw [ixN_nat h]; rfl
  · have : ixN xs.length (k : Int) = none := by
      unfold ixN
      rw [if_pos (by omega), if_neg (by omega)]
    rw [this]
    exact (List.getElem?_eq_none (by omega)).symm
@[simp] theorem atI_lit {α : Type} {xs : List α} {k : Nat} : atI xs (no_index (@OfNat.ofNat Int k instOfNat)) = xs[k]? := atI_ofNat
@[simp] theorem atI_map {α β : Type} {f : α → β} {xs : List α} {i : Int} : atI (xs.map f) i = (atI xs i).map f := by
  unfold atI
  rw [List.length_map]
  cases ixN xs.length i with
  | none => rfl
  | some j => simp
@[simp] theorem x_ixR_l {s : Sx} {ds : List D} {i : Int} {t : Sx} : ixR ⟨s, .list ds⟩ ⟨t, .int i⟩ = (match atI ds i with | some d => .ok (sub s d) | none => .bad) := id rfl
@[simp] theorem x_ixR_t {s : Sx} {ds : List D} {i : Int} {t : Sx} : ixR ⟨s, .tuple ds⟩ ⟨t, .int i⟩ = (match atI ds i with | some d => .ok (sub s d) | none => .bad) := id rfl
@[simp] theorem x_ixR_s {s : Sx} {ds : List D} {i : Int} {t : Sx} : ixR ⟨s, scrD ds⟩ ⟨t, .int i⟩ = (match atI ds i with | some d => .ok (sub .view d) | none => .bad) := id rfl
@[simp] theorem x_addI {s t : Sx} {i j : Int} : addR ⟨s, .int i⟩ ⟨t, .int j⟩ = .ok ⟨.imm, .int (i + j)⟩ := id rfl
@[simp] theorem x_addL {s t : Sx} {xs ys : List D} : addR ⟨s, .list xs⟩ ⟨t, .list ys⟩ = if xs.length + ys.length ≤ sizeLine then dnew (both s t) (xs ++ ys) else .bad := id rfl
@[simp] theorem x_addT {s t : Sx} {xs ys : List D} : addR ⟨s, .tuple xs⟩ ⟨t, .tuple ys⟩ = if xs.length + ys.length ≤ sizeLine then tnew (both s t) (xs ++ ys) else .bad := id rfl
@[simp] theorem fEq_ii {i j : Int} : fEq (.int i) (.int j) = some (i == j) := id rfl
@[simp] theorem fEq_ss {x y : Str} : fEq (.str x) (.str y) = some (x == y) := id rfl
@[simp] theorem fEq_sn {x : Str} : fEq (.str x) .none = some false := id rfl
@[simp] theorem fEq_ns {x : Str} : fEq .none (.str x) = some false := id rfl
@[simp] theorem fEq_in {i : Int} : fEq (.int i) .none = some false := id rfl
@[simp] theorem fEq_ni {i : Int} : fEq .none (.int i) = some false := id rfl
@[simp] theorem fEq_is {i : Int} {x : Str} : fEq (.int i) (.str x) = some false := id rfl
@[simp] theorem fEq_si {i : Int} {x : Str} : fEq (.str x) (.int i) = some false := id rfl
@[simp] theorem dBool_some {b : Bool} : dBool (some b) = some (.bool b) := id rfl
@[simp] theorem dNot_some {b : Bool} : dNot (some b) = some (.bool (!b)) := id rfl
@[simp] theorem x_b1 {f : D → Option D} {r : R} : b1 f [r] = (match f r.d with | some d => .ok ⟨.imm, d⟩ | none => .bad) := id rfl
@[simp] theorem x_len_l {ds : List D} : fLen (.list ds) = some (.int (ds.length : Int)) := id rfl
@[simp] theorem x_len_t {ds : List D} : fLen (.tuple ds) = some (.int (ds.length : Int)) := id rfl
@[simp] theorem x_len_s {ds : List D} : fLen (scrD ds) = some (.int (ds.length : Int)) := id rfl
@[simp] theorem x_b2i {f : Int → Int → Int} {s t : Sx} {i j : Int} : b2i f [⟨s, .int i⟩, ⟨t, .int j⟩] = .ok ⟨.imm, .int (f i j)⟩ := id rfl
@[simp] theorem x_tup_l {s : Sx} {ds : List D} : bTuple [⟨s, .list ds⟩] = tnew s ds := id rfl
@[simp] theorem x_tup_t {ds : List D} : bTuple [⟨.imm, .tuple ds⟩] = .ok ⟨.imm, .tuple ds⟩ := id rfl
@[simp] theorem x_list_l {s : Sx} {ds : List D} : bList [⟨s, .list ds⟩] = dnew s ds := id rfl
@[simp] theorem x_list_t {s : Sx} {ds : List D} : bList [⟨s, .tuple ds⟩] = dnew s ds := id rfl
@[simp] theorem tnew_imm {ds : List D} : tnew .imm ds = .ok ⟨.imm, .tuple ds⟩ := if_pos (.inr rfl)
@[simp] theorem tnew_lf {s : Sx} {ds : List D} (h : lfs ds = true) : tnew s ds = .ok ⟨.imm, .tuple ds⟩ := if_pos (.inl h)
@[simp] theorem dnew_lf {s : Sx} {ds : List D} (h : lfs ds = true) : dnew s ds = .ok ⟨.own, .list ds⟩ := if_pos h
@[simp] theorem items_l {ds : List D} : itemsD (.list ds) = some ds := id rfl
@[simp] theorem items_t {ds : List D} : itemsD (.tuple ds) = some ds := id rfl
@[simp] theorem truth_b {b : Bool} : truth (.bool b) = some b := id rfl
@[simp] theorem truth_i {i : Int} : truth (.int i) = some (i != 0) := id rfl
@[simp] theorem truth_n : truth .none = some false := id rfl
@[simp] theorem truth_l {ds : List D} : truth (.list ds) = some (!ds.isEmpty) := id rfl
@[simp] theorem truth_t {ds : List D} : truth (.tuple ds) = some (!ds.isEmpty) := id rfl
@[simp] theorem eqv_ss {x y : Str} : PyData.eqv (.str x) (.str y) = (x == y) := by simp [PyData.eqv]
@[simp] theorem eqv_ii {x y : Int} : PyData.eqv (.int x) (.int y) = (x == y) := by simp [PyData.eqv]
@[simp] theorem eqv_sn {x : Str} : PyData.eqv (.str x) .none = false := by simp [PyData.eqv]
@[simp] theorem eqv_ns {x : Str} : PyData.eqv .none (.str x) = false := by simp [PyData.eqv]
/-- an atom in a tuple of atoms -/
@[simp] theorem fIn_t {a : D} {ds : List D} (h1 : atomD a = true) (h2 : ds.all atomD = true) : fIn a (.tuple ds) = some (ds.any fun z => PyData.eqv z a) := by
  unfold fIn
  simp [h1, h2]
@[simp] theorem atom_i {i : Int} : atomD (.int i) = true := id rfl
@[simp] theorem atom_s {x : Str} : atomD (.str x) = true := id rfl
@[simp] theorem atom_n : atomD .none = true := id rfl
@[simp] theorem atom_b {b : Bool} : atomD (.bool b) = true := id rfl
@[simp] theorem x_eqF {a b : D} : eqF a b = dBool (fEq a b) := id rfl
@[simp] theorem x_neF {a b : D} : neF a b = dNot (fEq a b) := id rfl
@[simp] theorem x_inF {a b : D} : inF a b = dBool (fIn a b) := id rfl
@[simp] theorem x_ninF {a b : D} : ninF a b = dNot (fIn a b) := id rfl
/-! loops -/
@[simp] theorem loop_nil {g : Tgx} {b : Stx} {ρ : Ev} : loopS g b [] ρ = .next ρ := id rfl
theorem loop_cons {g : Tgx} {b : Stx} {ρ : Ev} {r : R} {rs : List R} : loopS g b (r :: rs) ρ = (match g r ρ with
    | none => .bad
    | some ρ1 => (match b ρ1 with
      | .next ρ2 => loopS g b rs ρ2
      | x => x)) := rfl
/-- to the end, by an invariant of what was taken and the frame -/
theorem loop_inv {α : Type} (I : List α → Ev → Prop) {g : Tgx} {b : Stx} {item : α → R} {xs : List α} {ρ : Ev} (h0 : I [] ρ)
    (hs : ∀ pre x post ρ, xs = pre ++ x :: post → I pre ρ → ∃ ρ1 ρ2, g (item x) ρ = some ρ1 ∧ b ρ1 = .next ρ2 ∧ I (pre ++ [x]) ρ2) :
    ∃ ρ', loopS g b (xs.map item) ρ = .next ρ' ∧ I xs ρ' := by
  have go : ∀ post pre ρ, xs = pre ++ post → I pre ρ → ∃ ρ', loopS g b (post.map item) ρ = .next ρ' ∧ I xs ρ' := by
    intro post
    induction post with
    | nil => intro pre ρ e h; rw [List.append_nil] at e; exact ⟨ρ, rfl, e ▸ h⟩
    | cons x post ih =>
      intro pre ρ e h
      obtain ⟨ρ1, ρ2, e1, e2, h2⟩ := hs pre x post ρ e h
      obtain ⟨ρ', e3, h3⟩ := ih (pre ++ [x]) ρ2 (by rw [e]; simp) h2
      refine ⟨ρ', ?_, h3⟩
      rw [List.map_cons, loop_cons, e1]
      simp only [e2]
      exact e3
  exact go xs [] ρ rfl h0
theorem owns_map {α : Type} {f : α → R} {e : α → D} {xs : List α} (h : ∀ x ∈ xs, ownR (f x) = some (e x)) : owns (xs.map f) = some (xs.map e) := by
  induction xs with
  | nil => rfl
  | cons x xs ih => simp [h x (by simp), ih fun y hy => h y (by simp [hy])]
theorem compR_own {α : Type} {f : α → R} {e : α → D} {xs : List α} (hl : xs.length ≤ sizeLine) (h : ∀ x ∈ xs, ownR (f x) = some (e x)) : compR (xs.map f) = .ok ⟨.own, .list (xs.map e)⟩ := by
  unfold compR
  rw [List.length_map, if_pos hl, owns_map h]
theorem irng_map {lo : Int} {n : Nat} : irng lo n = (List.range n).map fun (k : Nat) => (⟨.imm, .int (lo + (k : Int))⟩ : R) := rfl
end Oz

namespace Oz
open PySem PySem.Spec L2
open PyProof.Rows hiding St
variable [WD]

/-! ### data that == compares -/
structure Sh (n : Nat) (d : D) : Prop where
  c : d.canLay0 = true
  d : d.depth ≤ n
theorem canLayAll0_of {ds : List D} (h : ∀ d ∈ ds, d.canLay0 = true) : PyData.canLayAll0 ds = true := by
  induction ds with
  | nil => simp [PyData.canLayAll0]
  | cons x xs ih => simp [PyData.canLayAll0, h x (by simp), ih fun d hd => h d (by simp [hd])]
theorem depthAll_of {ds : List D} {n : Nat} (h : ∀ d ∈ ds, d.depth ≤ n) : PyData.depthAll ds ≤ n := by
  induction ds with
  | nil => simp [PyData.depthAll]
  | cons x xs ih => simp only [PyData.depthAll]; exact Nat.max_le.mpr ⟨h x (by simp), ih fun d hd => h d (by simp [hd])⟩
theorem Sh.int {n : Nat} {i : Int} : Sh n (.int i) := ⟨by simp [PyData.canLay0], by simp [PyData.depth]⟩
theorem Sh.bool {n : Nat} {b : Bool} : Sh n (.bool b) := ⟨by simp [PyData.canLay0], by simp [PyData.depth]⟩
theorem Sh.none {n : Nat} : Sh n .none := ⟨by simp [PyData.canLay0], by simp [PyData.depth]⟩
theorem Sh.str {n : Nat} {x : Str} (h : PyData.strOk x = true) : Sh n (.str x) := ⟨by simp [PyData.canLay0, h], by simp [PyData.depth]⟩
theorem strOk_of (s : String) : PyData.strOk (Str.ofString s) = true := by
  rw [Str.ofString_eq_toList]
  unfold PyData.strOk
  rw [Array.all_eq_true]
  intro i hi
  have : (s.toList.map Char.toNat)[i]'(by simpa using hi) < 0x110000 := by
    rw [List.getElem_map]
    have h := (s.toList[i]'(by simpa using hi)).valid
    have h2 : ∀ n : Nat, n.isValidChar → n < 0x110000 := fun n h => h.elim (fun h => by omega) fun h => h.2
    exact h2 _ h
  simpa using this
theorem Sh.lit {n : Nat} {w : String} : Sh n (.str (Str.ofString w)) := .str (strOk_of w)
theorem Sh.tup {n : Nat} {ds : List D} (h : ∀ d ∈ ds, Sh n d) : Sh (n + 1) (.tuple ds) := ⟨by simp only [PyData.canLay0]; exact canLayAll0_of fun d hd => (h d hd).c, by simp only [PyData.depth]; exact Nat.succ_le_succ (depthAll_of fun d hd => (h d hd).d)⟩
theorem Sh.list {n : Nat} {ds : List D} (h : ∀ d ∈ ds, Sh n d) : Sh (n + 1) (.list ds) := ⟨by simp only [PyData.canLay0]; exact canLayAll0_of fun d hd => (h d hd).c, by simp only [PyData.depth]; exact Nat.succ_le_succ (depthAll_of fun d hd => (h d hd).d)⟩
theorem Sh.le {n m : Nat} {d : D} (h : Sh n d) (l : n ≤ m) : Sh m d := ⟨h.c, Nat.le_trans h.d l⟩
theorem Sh.shaped {n : Nat} {d : D} (h : Sh n d) (l : n ≤ 64 := by decide) : SeqAt.shaped d = true := by
  unfold SeqAt.shaped
  rw [h.c, Bool.true_and]
  exact decide_eq_true (Nat.le_trans h.d l)
theorem fEq_shaped {a b : D} (ha : SeqAt.shaped a = true) (hb : SeqAt.shaped b = true) : fEq a b = some (PyData.eqv a b) := by
  have hc : (SeqAt.shaped a = true ∧ SeqAt.shaped b = true) := ⟨ha, hb⟩
  unfold fEq
  split <;> first | rfl | (simp [PyData.eqv]; done) | exact if_pos hc
theorem fEq_refl {a : D} (ha : SeqAt.shaped a = true) : fEq a a = some true := by
  rw [fEq_shaped ha ha, PySem.SeqAt.eqv_refl a (SeqAt.canLay_of_shaped ha)]
/-! ### appending at a place -/
end Oz

namespace Oz
open PySem PySem.Spec L2
open PyProof.Rows hiding St
variable [WD]

section
variable {K : PySem.W.Frag} {E : XK} {Z O H Z' O' H' : Hp} {σ : St} {ρ : Ev} {F F1 G F2 : List Addr} {l : Pl} {v : V} {s : Sx} {nx : St → Hp → Prop} {rt : VK}
/-- a place within a place -/
theorem PlAt.child {hd G0 : List Addr} {xs : List V} {ds : List D} {mk : List D → D} {j : Nat} {d : D} (p : PlAt K Z O H σ ρ F l v s F1 G F2) (eg : G = hd ++ G0) (qs : Owns K Z H xs ds G0) (hj : ds[j]? = some d)
    (reb : ∀ Z' H' ds' F', Same Z Z' → (∀ a ∈ hd, ∀ o, H a = some o → (∀ ps, o ≠ .tbl ps) → H' a = some o) → ds'.length = ds.length → Owns K Z' H' xs ds' F' → Own K Z' H' v (mk ds') (hd ++ F')) :
    ∃ x F1' G' F2', xs[j]? = some x ∧ PlAt K Z O H σ ρ F ⟨l.i, d, fun y => l.put (mk (ds.set j y))⟩ x s F1' G' F2' := by
  obtain ⟨x, A, Gi, B, h1, h2, h3, h4⟩ := qs.at hj
  refine ⟨x, F1 ++ (hd ++ A), Gi, B ++ F2, h1, ⟨p.slot, p.st, ?_, h3, fun Z' O' H' d' G' ez eo n k q' => ?_⟩⟩
  · rw [p.eq, eg, h2]
    simp
  · have q5 := h4 Z' H' x d' G' ez (fun c hc o h => k c (by
        rcases List.mem_append.mp hc with hc | hc
        · simp [hc]
        · simp [hc]) o h) q'
    rw [set_same h1] at q5
    have qn := reb Z' H' (ds.set j d') _ ez (fun a ha o h => k a (by simp [ha]) o h) (by simp) q5
    have sl := p.back Z' O' H' (mk (ds.set j d')) _ ez eo n (fun c hc o h => k c (by
        rcases List.mem_append.mp hc with hc | hc
        · simp [hc]
        · simp [hc]) o h) qn
    have ee : F1 ++ (hd ++ A) ++ (G' ++ (B ++ F2)) = F1 ++ ((hd ++ (A ++ (G' ++ B))) ++ F2) := by simp
    rw [ee]
    exact sl
/-- the root cell of a place is written: the frame behind -/
theorem PlAt.store {Z2 O2 H2 : Hp} {a0 : Addr} {o : HO} {dn : D} {Gn : List Addr} (pa : PlAt K Z2 O2 H2 σ ρ F l v s F1 G F2) (rl : Rel K Z O H σ ρ F) (n : nov ρ = true) (x : Ext [] Z O H Z2 O2 H2) (g2 : Good Z2 O2 H2) (ha : a0 ∈ G) (fo : fzn o = false)
    (qn : Own K Z2 (upd H2 a0 o) v dn Gn) (ndn : Gn.Nodup) (hn : ∀ c ∈ Gn, c ∈ G ∨ (H c = none ∧ O2 c = none)) (h : SRK K E Z O H σ ρ F nx rt (putE l dn ρ)) : nx σ (upd H2 a0 o) := by
  have rl2 := rl.ext x g2
  obtain ⟨rl3, n3, tr3⟩ := pa.wrote rl2 n ha fo qn ndn fun c hc => (hn c hc).imp id fun z => ⟨(fun w => by
    obtain ⟨o, h, _⟩ := rl.sl.live c w
    rw [z.1] at h
    cases h), z.2⟩
  obtain ⟨d0, hs0⟩ := pa.slot
  unfold putE at h
  rw [hs0] at h
  have tr12 : TrS Z O H σ ρ F Z2 O2 H2 σ ρ F := TrS.ext x
  refine h σ _ Z2 O2 _ rl3 n3 ⟨⟨tr12.tr.z, fun c o hc hn nn => ?_, tr12.tr.zn, fun c hc => ?_, fun c h => (tr3.tr.fr c h).elim .inl (tr12.tr.fr c), fun c hn h => tr3.tr.tab c hn (tr12.tr.tab c hn h)⟩, tr12.o, rfl, fun j d' hj => tr3.brw j d' hj, tr12.on⟩
  · exact tr3.tr.keep c o (tr12.tr.keep c o hc hn nn) hn nn
  · rcases List.mem_append.mp hc with hc | hc
    · left; rw [pa.eq]; simp [hc]
    · rcases List.mem_append.mp hc with hc | hc
      · rcases hn c hc with z | z
        · left; rw [pa.eq]; simp [z]
        · right; exact z.1
      · left; rw [pa.eq]; simp [hc]
theorem nodup_mid {A G B G' : List Addr} (h : (A ++ (G ++ B)).Nodup) (n : G'.Nodup) (d : ∀ c ∈ G', c ∉ A ++ (G ++ B)) : (A ++ (G' ++ B)).Nodup := by
  obtain ⟨n1, n2, n3⟩ := List.nodup_append.mp h
  obtain ⟨n4, n5, n6⟩ := List.nodup_append.mp n2
  refine List.nodup_append.mpr ⟨n1, List.nodup_append.mpr ⟨n, n5, fun a ha b hb e => d a ha (by rw [e]; simp [hb])⟩, fun a ha b hb e => ?_⟩
  rcases List.mem_append.mp hb with hb | hb
  · exact d b hb (by rw [← e]; simp [ha])
  · exact n3 a ha b (by simp [hb]) e
end

/-! ### l[p] = e, in a list -/
def sSetI (l : Plx) (p q : Px) : Stx := fun ρ => match q ρ with
  | .bad => .bad
  | .exc c fs => .exc c fs ρ
  | .ok r => (match ownR r with
    | none => .bad
    | some d => (match l ρ with
      | .bad => .bad
      | .exc c fs => .exc c fs ρ
      | .ok l => (match p ρ with
        | .bad => .bad
        | .exc c fs => .exc c fs ρ
        | .ok i => (match l.d, i.d with
          | .list ds, .int k => (match ixN ds.length k with
            | some j => putE l (.list (ds.set j d)) ρ
            | none => .bad)
          | _, _ => .bad))))
section
variable {X : Cx} {E : XK} {a b e : Expr} {l : Plx} {p q : Px} {pos apos cpos : Pos}
end
end Oz

namespace Oz
open PySem PySem.Spec L2
open PyProof.Rows hiding St
variable [WD]

/-! ### dicts -/
def keyOf : D → Option Key
  | .int i => some (.inl i)
  | .str x => some (.inr x)
  | _ => none
theorem keyOf_kd (k : Key) : keyOf (kd k) = some k := by cases k <;> rfl
def isDct (es : List (D × D)) : Bool := es.all fun e => (keyOf e.1).isSome
def lkD (k : Key) : List (D × D) → Option D
  | [] => none
  | (a, d) :: r => if keyOf a = some k then some d else lkD k r
def noD (k : Key) (es : List (D × D)) : Bool := es.all fun e => decide (¬ keyOf e.1 = some k)
def ukD (k : Key) : List (D × D) → Bool
  | [] => true
  | (a, _) :: r => if keyOf a = some k then noD k r else ukD k r
def ptD (k : Key) (d : D) : List (D × D) → List (D × D)
  | [] => [(kd k, d)]
  | (a, x) :: r => if keyOf a = some k then (a, d) :: r else (a, x) :: ptD k d r
theorem noD_val {k : Key} : ∀ {kvs : List (Key × V)} {es : List (D × D)}, es.map (·.1) = kvs.map (fun p => kd p.1) → noD k es = true → ∀ p ∈ kvs, ¬ p.1 = k
  | [], [], _, _ => fun p hp => by cases hp
  | (k1, v) :: kvs, (a, d) :: es, h, n => by
    simp only [List.map_cons, List.cons.injEq] at h
    obtain ⟨h1, h2⟩ := h
    unfold noD at n
    rw [List.all_cons] at n
    obtain ⟨n1, n2⟩ := Bool.and_eq_true_iff.mp n
    intro p hp
    rcases List.mem_cons.mp hp with z | z
    · rw [z]
      have := of_decide_eq_true n1
      rw [h1, keyOf_kd] at this
      exact fun e => this (by rw [show k1 = k from e])
    · exact noD_val h2 n2 p z
  | [], _ :: _, h, _ => by simp at h
  | _ :: _, [], h, _ => by simp at h
theorem map_id_of {k : Key} {y : V} : ∀ {kvs : List (Key × V)}, (∀ p ∈ kvs, ¬ p.1 = k) → kvs.map (fun kv => if kv.1 = k then (kv.1, y) else kv) = kvs
  | [], _ => rfl
  | p :: kvs, h => by
    rw [List.map_cons, if_neg (h p (by simp)), map_id_of fun q hq => h q (by simp [hq])]
theorem lk_some {k : Key} : ∀ {kvs : List (Key × V)} {es : List (D × D)} {d : D}, es.map (·.1) = kvs.map (fun p => kd p.1) → lkD k es = some d →
    ∃ j x, valV kvs k = some x ∧ (kvs.map (·.2))[j]? = some x ∧ (es.map (·.2))[j]? = some d ∧
      (ukD k es = true → ∀ (y : V) (d' : D), (kvs.map (fun kv => if kv.1 = k then (kv.1, y) else kv)).map (·.2) = (kvs.map (·.2)).set j y ∧ (ptD k d' es).map (·.2) = (es.map (·.2)).set j d' ∧ (ptD k d' es).map (·.1) = (kvs.map (fun kv => if kv.1 = k then (kv.1, y) else kv)).map (fun p => kd p.1))
  | [], [], _, _, h => by simp [lkD] at h
  | (k1, v) :: kvs, (a, d0) :: es, d, h, n => by
    simp only [List.map_cons, List.cons.injEq] at h
    obtain ⟨h1, h2⟩ := h
    unfold lkD at n
    by_cases c : keyOf a = some k
    · rw [if_pos c] at n
      cases n
      have hk : k1 = k := by
        have := c
        rw [h1, keyOf_kd] at this
        exact Option.some.inj this
      refine ⟨0, v, valV_pos (p := (k1, v)) hk, rfl, rfl, fun u y d' => ?_⟩
      unfold ukD at u
      rw [if_pos c] at u
      unfold ptD
      rw [if_pos c]
      rw [List.map_cons, if_pos hk, map_id_of (noD_val h2 u)]
      refine ⟨rfl, rfl, ?_⟩
      rw [List.map_cons, List.map_cons, h1, h2]
    · rw [if_neg c] at n
      have hk : ¬ k1 = k := fun e => c (by rw [h1, keyOf_kd]; exact congrArg some e)
      obtain ⟨j, x, e1, e2, e3, e4⟩ := lk_some h2 n
      refine ⟨j + 1, x, by rw [valV_neg (p := (k1, v)) hk]; exact e1, by simpa using e2, by simpa using e3, fun u y d' => ?_⟩
      unfold ukD at u
      rw [if_neg c] at u
      obtain ⟨f1, f2, f3⟩ := e4 u y d'
      unfold ptD
      rw [if_neg c, List.map_cons, if_neg hk]
      refine ⟨?_, ?_, ?_⟩
      · rw [List.map_cons, f1, List.map_cons, List.set_cons_succ]
      · rw [List.map_cons, f2, List.map_cons, List.set_cons_succ]
      · rw [List.map_cons, f3, List.map_cons, h1]
  | [], _ :: _, _, h, _ => by simp at h
  | _ :: _, [], _, h, _ => by simp at h
theorem pt_new {k : Key} {d : D} : ∀ {es : List (D × D)}, lkD k es = none → ptD k d es = es ++ [(kd k, d)]
  | [], _ => rfl
  | (a, x) :: es, h => by
    unfold lkD at h
    unfold ptD
    by_cases c : keyOf a = some k
    · rw [if_pos c] at h; cases h
    · rw [if_neg c] at h
      rw [if_neg c, pt_new h]
      rfl
section
variable {K : PySem.W.Frag} {Z O H : Hp} {v : V}
theorem Own.dct_inv {es : List (D × D)} {G : List Addr} (q : Own K Z H v (.dict es) G) (hd : isDct es = true) : ∃ a kvs G0, v = .ref a ∧ H a = some (.dK kvs) ∧ es.map (·.1) = kvs.map (fun p => kd p.1) ∧ Owns K Z H (kvs.map (·.2)) (es.map (·.2)) G0 ∧ G = a :: G0 := by
  have nv : isVal (.dict es) = false := by
    unfold isVal
    split
    · rename_i e; cases e
    · rename_i e; cases e; simp [isDct, keyOf] at hd
    · rfl
    · rename_i h1 h2 h3; exact absurd rfl (h3 es)
  cases q with
  | imm r p => rw [nv] at p; cases p
  | dct h e r => exact ⟨_, _, _, rfl, h, e, r, rfl⟩
  | obj h h2 c e r => simp [isDct, keyOf] at hd
theorem Rep.dct_inv {C : Hp} {es : List (D × D)} (q : Rep K C v (.dict es)) (hd : isDct es = true) : ∃ a kvs, v = .ref a ∧ C a = some (.dK kvs) ∧ es.map (·.1) = kvs.map (fun p => kd p.1) ∧ Reps K C (kvs.map (·.2)) (es.map (·.2)) := by
  cases q with
  | scr h r => simp [isDct, keyOf] at hd
  | ptr a => simp [isDct, keyOf] at hd
  | dct h e r => exact ⟨_, _, rfl, h, e, r⟩
  | obj h c e r => simp [isDct, keyOf] at hd
end
/-- d[k], looked at -/
def keyR (a b : R) : Res R := match a.d, keyOf b.d with
  | .dict es, some k => if isDct es = true then (match lkD k es with
    | some d => .ok (sub a.s d)
    | none => .bad) else .bad
  | _, _ => .bad
section
variable {X : Cx} {E : XK} {a b e : Expr} {l : Plx} {p q : Px} {pos apos : Pos}
/-- the place of a key -/
def plK (l : Plx) (p : Px) : Plx := fun ρ => (l ρ).bind fun l => (p ρ).bind fun r => match l.d, keyOf r.d with
  | .dict es, some k => if isDct es = true ∧ ukD k es = true then (match lkD k es with
    | some d => .ok ⟨l.i, d, fun y => l.put (.dict (ptD k y es))⟩
    | none => .bad) else .bad
  | _, _ => .bad
theorem zip_mk : ∀ es : List (D × D), (es.map (·.1)).zip (es.map (·.2)) = es
  | [] => rfl
  | (a, b) :: es => by rw [List.map_cons, List.map_cons, List.zip_cons_cons, zip_mk es]
theorem ptD_zip {k : Key} {es : List (D × D)} {j : Nat} {d : D} {kvs : List (Key × V)} (hk : es.map (·.1) = kvs.map (fun p => kd p.1)) (h : ∀ (y : V) (d' : D), (kvs.map (fun kv => if kv.1 = k then (kv.1, y) else kv)).map (·.2) = (kvs.map (·.2)).set j y ∧ (ptD k d' es).map (·.2) = (es.map (·.2)).set j d' ∧ (ptD k d' es).map (·.1) = (kvs.map (fun kv => if kv.1 = k then (kv.1, y) else kv)).map (fun p => kd p.1)) (d' : D) :
    ptD k d' es = ((es.map (·.1)).zip ((es.map (·.2)).set j d')) := by
  obtain ⟨_, h2, h3⟩ := h .non d'
  have e1 : (kvs.map (fun kv => if kv.1 = k then (kv.1, V.non) else kv)).map (fun p => kd p.1) = kvs.map (fun p => kd p.1) := by
    rw [List.map_map]
    refine List.map_congr_left fun p _ => ?_
    show kd (if p.1 = k then (p.1, V.non) else p).1 = kd p.1
    by_cases c : p.1 = k
    · rw [if_pos c]
    · rw [if_neg c]
  rw [e1, ← hk] at h3
  rw [← h2, ← h3, zip_mk]
theorem zip_fst : ∀ {as bs : List D}, as.length = bs.length → (as.zip bs).map (·.1) = as ∧ (as.zip bs).map (·.2) = bs
  | [], [], _ => ⟨rfl, rfl⟩
  | a :: as, b :: bs, h => by
    obtain ⟨h1, h2⟩ := zip_fst (as := as) (bs := bs) (by simpa using h)
    exact ⟨by rw [List.zip_cons_cons, List.map_cons, h1], by rw [List.zip_cons_cons, List.map_cons, h2]⟩
  | [], _ :: _, h => by simp at h
  | _ :: _, [], h => by simp at h
theorem PlAt.key {K : PySem.W.Frag} {Z O H : Hp} {σ : St} {ρ : Ev} {F F1 G F2 : List Addr} {l : Pl} {v : V} {s : Sx} {es : List (D × D)} {k : Key} {d : D} (pa : PlAt K Z O H σ ρ F l v s F1 G F2) (e : l.d = .dict es) (hd : isDct es = true) (hu : ukD k es = true) (h : lkD k es = some d) :
    ∃ a kvs x F1' G' F2', v = .ref a ∧ H a = some (.dK kvs) ∧ valV kvs k = some x ∧ PlAt K Z O H σ ρ F ⟨l.i, d, fun y => l.put (.dict (ptD k y es))⟩ x s F1' G' F2' := by
  have q := pa.own
  rw [e] at q
  obtain ⟨a, kvs, G0, rfl, ha, hk, qs, eg⟩ := q.dct_inv hd
  obtain ⟨j, x, e1, e2, e3, e4⟩ := lk_some hk h
  obtain ⟨x', F1', G', F2', e5, pb⟩ := pa.child (hd := [a]) (mk := fun ds => .dict ((es.map (·.1)).zip ds)) eg qs e3 fun Z' H' ds' F' ez kp hl q' => by
    obtain ⟨z1, z2⟩ := zip_fst (as := es.map (·.1)) (bs := ds') (by rw [hl, List.length_map, List.length_map])
    exact .dct (kp a (by simp) _ ha nofun) (by rw [z1]; exact hk) (by rw [z2]; exact q')
  rw [e2] at e5
  cases e5
  refine ⟨a, kvs, x, F1', G', F2', rfl, ha, e1, ?_⟩
  have ee : (fun y => l.put (.dict (ptD k y es))) = fun y => l.put (.dict ((es.map (·.1)).zip ((es.map (·.2)).set j y))) := by
    funext y
    rw [ptD_zip (d := d) hk (e4 hu) y]
  rw [ee]
  exact pb
/-- l[k] = e, in a dict -/
def sPut (l : Plx) (p q : Px) : Stx := fun ρ => match q ρ with
  | .bad => .bad
  | .exc c fs => .exc c fs ρ
  | .ok r => (match ownR r with
    | none => .bad
    | some d => (match l ρ with
      | .bad => .bad
      | .exc c fs => .exc c fs ρ
      | .ok l => (match p ρ with
        | .bad => .bad
        | .exc c fs => .exc c fs ρ
        | .ok i => (match l.d, keyOf i.d with
          | .dict es, some k => if isDct es = true ∧ ukD k es = true ∧ es.length < sizeLine then putE l (.dict (ptD k d es)) ρ else .bad
          | _, _ => .bad))))
end
end Oz

namespace Oz
open PySem PySem.Spec L2
open PyProof.Rows hiding St
variable [WD]

/-! ### expressions that change the frame: a statement's mirror that returns -/
def MRK (K : PySem.W.Frag) (E : XK) (Z O H : Hp) (σ : St) (ρ : Ev) (F : List Addr) (Q : VK) : SR → Prop
  | .bad => False
  | .next _ => False
  | .ret r ρ' => ∀ v H' Z' O' F' G, Rel K Z' O' H' σ ρ' F' → nov ρ' = true → RepR K Z' O' H' v r G → (F' ++ G).Nodup → (∀ a ∈ G, O' a = none) → Tr Z H F Z' H' (F' ++ G) → TrS Z O H σ ρ F Z' O' H' σ ρ' F' → Q v H'
  | .exc c fs ρ' => ∀ H' Z' O' F' d xs, Rel K Z' O' H' σ ρ' F' → TrS Z O H σ ρ F Z' O' H' σ ρ' F' → H' d = some (.xd xs) → xs.map (·.1) = fs.map (·.1) → Reps K Z' (xs.map (·.2)) (fs.map (·.2)) → E (.ref (He.ga K c)) (some d) H'
def tM (K : PySem.W.Frag) (E : XK) (s : Stx) : TE := fun σ H Q => ∃ Z O ρ F, Rel K Z O H σ ρ F ∧ nov ρ = true ∧ MRK K E Z O H σ ρ F Q (s ρ)
def tMT (K : PySem.W.Frag) (E : XK) (s : Stx) : TT := fun σ H Q => ∃ Z O ρ F, Rel K Z O H σ ρ F ∧ nov ρ = true ∧ match s ρ with
  | .ret ⟨_, .bool b⟩ ρ' => ∀ H' Z' O' F', Rel K Z' O' H' σ ρ' F' → nov ρ' = true → TrS Z O H σ ρ F Z' O' H' σ ρ' F' → Q b H'
  | .exc c fs ρ' => MRK K E Z O H σ ρ F (fun _ _ => True) (.exc c fs ρ')
  | _ => False
section
variable {K : PySem.W.Frag} {E : XK} {Z O H Z1 O1 H1 : Hp} {σ : St} {ρ ρ1 : Ev} {F F1 : List Addr} {Q Q' : VK}
theorem MRK.from {r : SR} (h : MRK K E Z O H σ ρ F Q r) (t : TrS Z O H σ ρ F Z1 O1 H1 σ ρ1 F1) : MRK K E Z1 O1 H1 σ ρ1 F1 Q r := by
  cases r with
  | bad => exact h
  | next ρ' => exact h
  | ret r ρ' => exact fun v H' Z' O' F' G q n w nd fo u u2 => h v H' Z' O' F' G q n w nd fo (t.tr.trans u) (t.trans u2)
  | exc c fs ρ' => exact fun H' Z' O' F' d xs q u hd e1 e2 => h H' Z' O' F' d xs q (t.trans u) hd e1 e2
/-- temporary things are left where they are -/
theorem Tr.sub {Z H Z' H' : Hp} {F F' G : List Addr} (t : Tr Z H F Z' H' (F' ++ G)) : Tr Z H F Z' H' F' := ⟨t.z, t.keep, t.zn, fun a ha => t.fn a (List.mem_append_left _ ha), t.fr, t.tab⟩
def mP (p : Px) : Stx := fun ρ => match p ρ with
  | .bad => .bad
  | .exc c fs => .exc c fs ρ
  | .ok r => .ret r ρ
/-- then the rest -/
def mBind (s : Stx) (k : R → Stx) : Stx := fun ρ => match s ρ with
  | .ret r ρ' => k r ρ'
  | .exc c fs ρ' => .exc c fs ρ'
  | _ => .bad
theorem mBind_ok {s : Stx} {k : R → Stx} (h : tM K E (mBind s k) σ H Q) {T : V → Hp → Prop}
    (next : ∀ (Z O H1 : Hp) (ρ : Ev) (F G : List Addr) (v : V) (r : R), Rel K Z O H1 σ ρ F → nov ρ = true → RepR K Z O H1 v r G → (F ++ G).Nodup → (∀ a ∈ G, O a = none) → (∀ r', MRK K E Z O H1 σ ρ F Q r' → MRK K E Z O H1 σ ρ F Q r') →
      (∃ Z0 O0 ρ0 F0, MRK K E Z0 O0 H σ ρ0 F0 Q (k r ρ) ∧ Tr Z0 H F0 Z H1 (F ++ G) ∧ TrS Z0 O0 H σ ρ0 F0 Z O H1 σ ρ F) → T v H1) : tM K E s σ H T := by
  obtain ⟨Z, O, ρ, F, rl, n, h⟩ := h
  refine ⟨Z, O, ρ, F, rl, n, ?_⟩
  unfold mBind at h
  cases e : s ρ with
  | bad => rw [e] at h; exact h.elim
  | next ρ' => rw [e] at h; exact h.elim
  | exc c fs ρ' => rw [e] at h; exact h
  | ret r ρ' =>
    rw [e] at h
    intro v H' Z' O' F' G rl' n' q nd fo t ts
    exact next Z' O' H' ρ' F' G v r rl' n' q nd fo (fun _ h => h) ⟨Z, O, ρ, F, h, t, ts⟩
def mAnd (s t : Stx) : Stx := mBind s fun r ρ => match truth r.d with
  | some true => t ρ
  | some false => .ret r ρ
  | none => .bad
def mOr (s t : Stx) : Stx := mBind s fun r ρ => match truth r.d with
  | some true => .ret r ρ
  | some false => t ρ
  | none => .bad
def mNot (s : Stx) : Stx := mBind s fun r ρ => match truth r.d with
  | some b => .ret ⟨.imm, .bool (!b)⟩ ρ
  | none => .bad
/-- a test -/
def mTru (s : Stx) : Stx := mBind s fun r ρ => match truth r.d with
  | some b => .ret ⟨.imm, .bool b⟩ ρ
  | none => .bad
def mTnot (s : Stx) : Stx := fun ρ => match s ρ with
  | .ret ⟨_, .bool b⟩ ρ' => .ret ⟨.imm, .bool (!b)⟩ ρ'
  | .exc c fs ρ' => .exc c fs ρ'
  | _ => .bad
def mT (t : Tx) : Stx := fun ρ => match t ρ with
  | .bad => .bad
  | .exc c fs => .exc c fs ρ
  | .ok b => .ret ⟨.imm, .bool b⟩ ρ
def mIfE (c s t : Stx) : Stx := fun ρ => match c ρ with
  | .ret ⟨_, .bool b⟩ ρ' => if b = true then s ρ' else t ρ'
  | .exc c fs ρ' => .exc c fs ρ'
  | _ => .bad
end
section
variable {X : Cx} {E : XK} {a b c e : Expr} {p : Px} {t : Tx} {s u w : Stx} {pos : Pos} {rest : List Expr}
end
end Oz

namespace Oz
open PySem PySem.Spec L2
open PyProof.Rows hiding St
variable [WD]

/-! ### statements over such expressions -/
def mRet (s : Stx) : Stx := fun ρ => match s ρ with
  | .ret r ρ' => if storable r = true then .ret r ρ' else .bad
  | .exc c fs ρ' => .exc c fs ρ'
  | _ => .bad
def mAsg (i : Nat) (s : Stx) : Stx := fun ρ => match s ρ with
  | .ret r ρ' => (match setS i r ρ' with
    | some ρ2 => .next ρ2
    | none => .bad)
  | .exc c fs ρ' => .exc c fs ρ'
  | _ => .bad
def mDrop (s : Stx) : Stx := fun ρ => match s ρ with
  | .ret _ ρ' => .next ρ'
  | .exc c fs ρ' => .exc c fs ρ'
  | _ => .bad
def mIf (c s t : Stx) : Stx := fun ρ => match c ρ with
  | .ret ⟨_, .bool b⟩ ρ' => if b = true then s ρ' else t ρ'
  | .exc c fs ρ' => .exc c fs ρ'
  | _ => .bad
section
variable {X : Cx} {E : XK} {e c : Expr} {s t w : Stx} {a b : List Stmt} {pos pos' : Pos} {x : Str}
theorem s_mdrop (he : PE X e (tM X.K E s)) (hs : swapsWith e none pos.line X.env = pure false := by rfl) : PS X (.Expr e pos) (tS X.K E (mDrop s)) := by
  refine (ps_expr he hs).imp fun D σ H h => ?_
  obtain ⟨Z, O, ρ, F, rl, n, h⟩ := h
  refine ⟨Z, O, ρ, F, rl, n, ?_⟩
  unfold mDrop at h
  cases e : s ρ with
  | bad => rw [e] at h; exact h.elim
  | next ρ' => rw [e] at h; exact h.elim
  | exc c fs ρ' => rw [e] at h; exact fun H' Z' O' F' d xs q u hd e1 e2 => h σ H' Z' O' F' d xs q u hd e1 e2
  | ret r ρ' =>
    rw [e] at h
    exact fun v H' Z' O' F' G rl' n' q nd fo t ts => h σ H' Z' O' F' rl' n' ts
theorem s_masg (i : Nat) (hN : X.N.Nodup) (he : PE X e (tM X.K E s)) (hi : X.N[i]? = some x := by rfl) (hx : Loc X.env.scope x := by first | exact Or.inl rfl | exact Or.inr rfl) (hs : swapsWith e (some (.Name x pos')) pos.line X.env = pure false := by rfl)
    (hf : X.fn x = true ∨ X.env.scope.names.lookup x = some .local := by first | exact .inl rfl | exact .inr rfl | assumption) : PS X (.Assign [.Name x pos'] e pos) (tS X.K E (mAsg i s)) := by
  refine (ps_set hN hi hx he hs hf).imp fun D σ H h => ?_
  obtain ⟨Z, O, ρ, F, rl, n, h⟩ := h
  refine ⟨Z, O, ρ, F, rl, n, ?_⟩
  unfold mAsg at h
  cases e : s ρ with
  | bad => rw [e] at h; exact h.elim
  | next ρ' => rw [e] at h; exact h.elim
  | exc c fs ρ' => rw [e] at h; exact fun H' Z' O' F' d xs q u hd e1 e2 => h σ H' Z' O' F' d xs q u hd e1 e2
  | ret r ρ' =>
    rw [e] at h
    simp only at h
    intro v H' Z' O' F' G rl' n' q nd fo t ts
    cases z : setS i r ρ' with
    | none => rw [z] at h; exact h.elim
    | some ρ2 =>
      rw [z] at h
      obtain ⟨n1, n2, n3⟩ := List.nodup_append.mp nd
      obtain ⟨F2, rl2, nv2, sub, ln, bw⟩ := rl'.set n' q n2 (fun a ha hf => n3 a hf a ha rfl) fo z
      refine h _ H' Z' O' F2 rl2 nv2 ⟨⟨t.z, t.keep, t.zn, fun a ha => ?_, t.fr, t.tab⟩, ts.o, ln, fun j d hj => ?_, ts.on⟩
      · rcases sub a ha with y | y
        · exact t.fn a (List.mem_append_left _ y)
        · exact t.fn a (List.mem_append_right _ y)
      · obtain ⟨e1, d1, h1⟩ := ts.brw j d hj
        obtain ⟨e2, d2, h2⟩ := bw j d1 h1
        exact ⟨e2.trans e1, d2, h2⟩
theorem s_mif (hc : PT X c (tMT X.K E w)) (ha : PSs X a (tS X.K E s)) (hb : PSs X b (tS X.K E t)) : PS X (.If c a b pos) (tS X.K E (mIf w s t)) := by
  refine (ps_if hc ha hb).imp fun D σ H h => ?_
  obtain ⟨Z, O, ρ, F, rl, n, h⟩ := h
  refine ⟨Z, O, ρ, F, rl, n, ?_⟩
  unfold mIf at h
  cases e : w ρ with
  | bad => rw [e] at h; exact h.elim
  | next ρ' => rw [e] at h; exact h.elim
  | exc c fs ρ' => rw [e] at h; exact fun H' Z' O' F' d xs q u hd e1 e2 => h σ H' Z' O' F' d xs q u hd e1 e2
  | ret r ρ' =>
    rw [e] at h
    obtain ⟨sx, d⟩ := r
    cases d with
    | bool k =>
      intro H' Z' O' F' rl' n' ts
      cases k with
      | true => exact ⟨Z', O', ρ', F', rl', n', SRK.from h ts⟩
      | false => exact ⟨Z', O', ρ', F', rl', n', SRK.from h ts⟩
    | _ => exact h.elim
end

/-! ### arguments of which one is a name's own thing -/
inductive Ax where
  | p (e : Px)
  | n (j : Nat)
inductive AR where
  | p (r : R)
  | n (j : Nat) (r : R)
def evx : List Ax → Ev → Res (List AR)
  | [], _ => .ok []
  | .p e :: ks, ρ => (e ρ).bind fun r => if r.s = .view then .bad else (evx ks ρ).bind fun rs => .ok (.p r :: rs)
  | .n j :: ks, ρ => (match ρ[j]? with
    | some (some r) => (evx ks ρ).bind fun rs => .ok (.n j r :: rs)
    | _ => .bad)
inductive RepXs (K : PySem.W.Frag) (Z O H : Hp) (σ : St) : List V → List AR → List Addr → Prop
  | nil : RepXs K Z O H σ [] [] []
  | p {v : V} {vs : List V} {r : R} {rs : List AR} {F G : List Addr} : RepR K Z O H v r F → r.s ≠ .view → RepXs K Z O H σ vs rs G → RepXs K Z O H σ (v :: vs) (.p r :: rs) (F ++ G)
  | n {v : V} {vs : List V} {j : Nat} {r : R} {rs : List AR} {G : List Addr} : σ[j]? = some (some v) → RepXs K Z O H σ vs rs G → RepXs K Z O H σ (v :: vs) (.n j r :: rs) G
def tAX (K : PySem.W.Frag) (E : XK) (ks : List Ax) : TA := fun σ H Q => ∃ Z O ρ F, Rel K Z O H σ ρ F ∧ match evx ks ρ with
  | .bad => False
  | .exc c fs => ExcK K E Z O H c fs
  | .ok rs => ∀ vs H' Z' O' G, Ext [] Z O H Z' O' H' → Good Z' O' H' → RepXs K Z' O' H' σ vs rs G → G.Nodup → (∀ a ∈ G, H a = none ∧ O' a = none) → Q vs H'
section
variable {K : PySem.W.Frag} {Z O H Z' O' H' : Hp} {σ : St}
theorem RepXs.ext {W : List Addr} (e : Ext W Z O H Z' O' H') : ∀ {vs : List V} {rs : List AR} {F : List Addr}, RepXs K Z O H σ vs rs F → RepXs K Z' O' H' σ vs rs F
  | _, _, _, .nil => .nil
  | _, _, _, .p r h s => .p (r.ext e) h (RepXs.ext e s)
  | _, _, _, .n h s => .n h (RepXs.ext e s)
theorem RepXs.live : ∀ {vs : List V} {rs : List AR} {F : List Addr}, RepXs K Z O H σ vs rs F → ∀ a ∈ F, ∃ o, H a = some o ∧ fzn o = false
  | _, _, _, .nil, _, h => by cases h
  | _, _, _, .p r _ s, a, h => (List.mem_append.mp h).elim (r.live a) (s.live a)
  | _, _, _, .n _ s, a, h => s.live a h
end
section
variable {X : Cx} {E : XK} {e : Expr} {es : List Expr} {p : Px} {ks : List Ax} {x : Str} {pos : Pos}
theorem x_nil : PA X [] (tAX X.K E []) := by
  refine pa_nil.imp fun σ H Q h => ?_
  obtain ⟨Z, O, ρ, F, r, h⟩ := h
  exact h [] H Z O [] (Ext.refl _ _ _ _) r.g .nil List.nodup_nil fun a ha => by cases ha
theorem x_p (ha : PE X e (tP X.K E p)) (hr : PA X es (tAX X.K E ks)) (hs : starEach (e :: es) X.env = (false, eval e X.env) :: starEach es X.env := by rfl) : PA X (e :: es) (tAX X.K E (.p p :: ks)) := by
  refine (pa_cons ha hr hs).imp fun σ H Q h => ?_
  obtain ⟨Z, O, ρ, F, r, h⟩ := h
  refine ⟨Z, O, ρ, F, r, ?_⟩
  unfold evx at h
  cases z : p ρ with
  | bad => rw [z] at h; exact h.elim
  | exc c fs => rw [z] at h; exact h
  | ok a =>
    rw [z] at h
    simp only [Res.bind_ok] at h
    by_cases hv : a.s = .view
    · rw [if_pos hv] at h; exact h.elim
    · rw [if_neg hv] at h
      intro v H1 Z1 O1 G x1 g1 q1 nd fr
      refine ⟨Z1, O1, ρ, F, r.ext x1 g1, ?_⟩
      cases y : evx ks ρ with
      | bad => rw [y] at h; exact h.elim
      | exc c fs => rw [y] at h; exact ExcK.ext h x1
      | ok rs =>
        rw [y] at h
        simp only [Res.bind_ok] at h
        intro vs H2 Z2 O2 G2 x2 g2 q2 nd2 fr2
        refine h (v :: vs) H2 Z2 O2 (G ++ G2) (x1.trans0 x2) g2 (.p (q1.ext x2) hv q2) (nodup_fresh nd nd2 (fun c hc => let ⟨o, z, _⟩ := q1.live c hc; ⟨o, z⟩) fun c hc => (fr2 c hc).1) fun c hc => ?_
        rcases List.mem_append.mp hc with hc | hc
        · refine ⟨(fr c hc).1.elim id (fun z => by cases z), ?_⟩
          cases z : O2 c with
          | none => rfl
          | some o =>
            obtain ⟨o1, w1, _⟩ := q1.live c hc
            rcases x2.on c (by rw [z]; simp) with y | y | y
            · exact absurd (fr c hc).2 y
            · rw [w1] at y; cases y
            · cases y
        · exact ⟨x1.h.free (fr2 c hc).1, (fr2 c hc).2⟩
theorem x_n (j : Nat) (hr : PA X es (tAX X.K E ks)) (hN : X.N[j]? = some x := by rfl) (hv : Vis X.env.scope x := by first | exact Or.inl rfl | exact Or.inr (Or.inl rfl) | exact Or.inr (Or.inr rfl)) (hd : (x == ("__debug__" : Str)) = false := by decide)
    (hcd : (x == ("__classdict__" : Str)) = false := by decide) (hs : starEach (.Name x pos :: es) X.env = (false, eval (.Name x pos) X.env) :: starEach es X.env := by rfl) : PA X (.Name x pos :: es) (tAX X.K E (.n j :: ks)) := by
  refine (pa_cons (pe_var hN hv hd hcd) hr hs).imp fun σ H Q h => ?_
  obtain ⟨Z, O, ρ, F, r, h⟩ := h
  unfold evx at h
  cases z : ρ[j]? with
  | none => rw [z] at h; exact h.elim
  | some y =>
    cases y with
    | none => rw [z] at h; exact h.elim
    | some a =>
      rw [z] at h
      simp only at h
      obtain ⟨v, h1, G, h2⟩ := r.sl.get z
      refine ⟨v, h1, Z, O, ρ, F, r, ?_⟩
      cases y : evx ks ρ with
      | bad => rw [y] at h; exact h.elim
      | exc c fs => rw [y] at h; exact h
      | ok rs =>
        rw [y] at h
        simp only [Res.bind_ok] at h
        exact fun vs H2 Z2 O2 G2 x2 g2 q2 nd2 fr2 => h (v :: vs) H2 Z2 O2 G2 x2 g2 (.n h1 q2) nd2 fr2
end
/-- the names among them are those of the frame -/
theorem evx_names : ∀ {ks : List Ax} {ρ : Ev} {rs : List AR}, evx ks ρ = .ok rs → ∀ j r, AR.n j r ∈ rs → ρ[j]? = some (some r)
  | [], ρ, rs, h, j, r, m => by cases h; cases m
  | .p e :: ks, ρ, rs, h, j, r, m => by
    unfold evx at h
    cases z : e ρ with
    | bad => rw [z] at h; cases h
    | exc c fs => rw [z] at h; cases h
    | ok a =>
      rw [z] at h
      simp only [Res.bind_ok] at h
      by_cases hv : a.s = .view
      · rw [if_pos hv] at h; cases h
      · rw [if_neg hv] at h
        cases y : evx ks ρ with
        | bad => rw [y] at h; cases h
        | exc c fs => rw [y] at h; cases h
        | ok rs' =>
          rw [y] at h
          cases h
          rcases List.mem_cons.mp m with m | m
          · cases m
          · exact evx_names y j r m
  | .n i :: ks, ρ, rs, h, j, r, m => by
    unfold evx at h
    cases z : ρ[i]? with
    | none => rw [z] at h; cases h
    | some y =>
      cases y with
      | none => rw [z] at h; cases h
      | some a =>
        rw [z] at h
        simp only at h
        cases y : evx ks ρ with
        | bad => rw [y] at h; cases h
        | exc c fs => rw [y] at h; cases h
        | ok rs' =>
          rw [y] at h
          cases h
          rcases List.mem_cons.mp m with m | m
          · cases m; exact z
          · exact evx_names y j r m
end Oz

namespace Oz
open PySem PySem.Spec L2
open PyProof.Rows hiding St
variable [WD]

/-! ### a call that changes one thing -/
def xargs (i : Nat) : List Md → List AR → Option (List D)
  | [], [] => some []
  | .m :: md, .n j r :: rs => if j = i then (xargs i md rs).map (r.d :: ·) else none
  | .v :: md, .p r :: rs => (xargs i md rs).map (r.d :: ·)
  | .v :: md, .n j r :: rs => if j = i then none else if r.s = .tab then none else (xargs i md rs).map (r.d :: ·)
  | .i :: md, .p r :: rs => (match frzR r with
    | some d => (xargs i md rs).map (d :: ·)
    | none => none)
  | .i :: md, .n j r :: rs => if j = i then none else (match frzR r with
    | some d => (xargs i md rs).map (d :: ·)
    | none => none)
  | _, _ => none
def nm : List Md → Nat
  | [] => 0
  | .m :: md => nm md + 1
  | .i :: md => nm md
  | .v :: md => nm md
def isOB (s : Sx) : Bool := match s with
  | .own => true
  | .brw => true
  | _ => false
/-- the frame behind, with what came out -/
def mOut (i : Nat) (s : Sx) (fr : FR) (ρ : Ev) : SR := match fr with
  | .ok r [d'] => .ret r (ρ.set i (some ⟨s, d'⟩))
  | .exc c fs [d'] => .exc c fs (ρ.set i (some ⟨s, d'⟩))
  | _ => .bad
def mCall (f : Fn) (md : List Md) (i : Nat) (ks : List Ax) : Stx := fun ρ => match evx ks ρ with
  | .bad => .bad
  | .exc c fs => .exc c fs ρ
  | .ok rs => (match xargs i md rs with
    | none => .bad
    | some ds => (match ρ[i]? with
      | some (some ⟨s, _⟩) => if isOB s = true ∧ nm md = 1 then mOut i s (f ds) ρ else .bad
      | _ => .bad))
section
variable {K : PySem.W.Frag} {E : XK} {Z O H : Hp} {σ : St} {ρ : Ev} {F : List Addr} {i : Nat} {vi : V} {Gi : List Addr} {d0 : D}
theorem map_some {α β : Type} {f : α → β} {o : Option α} {y : β} (h : o.map f = some y) : ∃ x, o = some x ∧ y = f x := by
  cases o with
  | none => cases h
  | some x => cases h; exact ⟨x, rfl, rfl⟩
/-- everything at the heap without what is changed -/
theorem xargs_ok {W : Hp} (zo : Same Z O) (zw : Same Z W) (ow : Same O W) (tz : ∀ a o, W a = some o → fzn o = true → Z a = some o) (no : NoT O) (own : Own K Z H vi d0 Gi) (hsi : σ[i]? = some (some vi))
    (hn : ∀ j r, j ≠ i → ρ[j]? = some (some r) → ∃ v Fj, σ[j]? = some (some v) ∧ RepS K Z O W v r Fj) (hi : ∀ r, ρ[i]? = some (some r) → r.d = d0) :
    ∀ {md : List Md} {rs : List AR} {vs : List V} {G : List Addr} {ds : List D}, (∀ a ∈ G, ∀ o, H a = some o → (∀ ps, o ≠ .tbl ps) → W a = some o) → (∀ j r, AR.n j r ∈ rs → ρ[j]? = some (some r)) → RepXs K Z O H σ vs rs G → xargs i md rs = some ds → nm md ≤ 1 →
      Args K Z W H md vs ds (if nm md = 1 then Gi else []) ∧ vs.length = md.length ∧
      (∀ Z' H' ms Fm, Outs K Z' H' md vs ms Fm → if nm md = 1 then ∃ d', ms = [d'] ∧ Own K Z' H' vi d' Fm else ms = [] ∧ Fm = [])
  | [], [], _, _, _, _, _, .nil, e, _ => by
    cases e
    refine ⟨.nil, rfl, fun _ _ _ _ h => ?_⟩
    cases h
    exact ⟨rfl, rfl⟩
  | .m :: md, .n j r :: rs, _, _, _, kp, nb, .n (v := v) hv q, e, l => by
    unfold xargs at e
    by_cases c : j = i
    · rw [if_pos c] at e
      have c2 := c.symm
      subst c2
      obtain ⟨ds', e1, rfl⟩ := map_some e
      have l0 : nm md = 0 := by unfold nm at l; omega
      obtain ⟨i1, i2, i3⟩ := xargs_ok zo zw ow tz no own hsi hn hi kp (fun j r m => nb j r (List.mem_cons_of_mem _ m)) q e1 (by omega)
      rw [if_neg (by omega)] at i1
      have ev : v = vi := by
        rw [hsi] at hv
        exact (Option.some.inj (Option.some.inj hv)).symm
      subst ev
      have ed : r.d = d0 := hi r (nb _ _ (List.mem_cons_self ..))
      have n1 : nm (.m :: md) = 1 := by unfold nm; omega
      rw [n1]
      refine ⟨?_, congrArg (· + 1) i2, fun Z' H' ms Fm h => ?_⟩
      · have := Args.m (ds := ds') own i1
        rw [List.append_nil] at this
        rw [if_pos rfl, ed]
        exact this
      · rw [if_pos rfl]
        cases h with
        | m h1 h2 =>
          have := i3 _ _ _ _ h2
          rw [if_neg (by omega)] at this
          obtain ⟨rfl, rfl⟩ := this
          exact ⟨_, rfl, by rw [List.append_nil]; exact h1⟩
    · rw [if_neg c] at e; cases e
  | .v :: md, .p r :: rs, _, _, _, kp, nb, .p q nv s, e, l => by
    unfold xargs at e
    obtain ⟨ds', e1, rfl⟩ := map_some e
    have n1 : nm (.v :: md) = nm md := rfl
    obtain ⟨i1, i2, i3⟩ := xargs_ok zo zw ow tz no own hsi hn hi (fun a ha => kp a (List.mem_append_right _ ha)) (fun j r m => nb j r (List.mem_cons_of_mem _ m)) s e1 l
    rw [n1]
    refine ⟨.v (RepR.look ⟨zo, ow, tz, no⟩ (q.keep nv (Same.refl _) (Same.refl _) fun a ha => kp a (List.mem_append_left _ ha))) i1, congrArg (· + 1) i2, fun Z' H' ms Fm h => ?_⟩
    cases h with
    | v h => exact i3 _ _ _ _ h
  | .v :: md, .n j r :: rs, _, _, _, kp, nb, .n (v := v) hv s, e, l => by
    unfold xargs at e
    by_cases c : j = i
    · rw [if_pos c] at e; cases e
    · rw [if_neg c] at e
      by_cases ct : r.s = .tab
      · rw [if_pos ct] at e; cases e
      rw [if_neg ct] at e
      obtain ⟨ds', e1, rfl⟩ := map_some e
      have n1 : nm (.v :: md) = nm md := rfl
      obtain ⟨i1, i2, i3⟩ := xargs_ok zo zw ow tz no own hsi hn hi kp (fun j r m => nb j r (List.mem_cons_of_mem _ m)) s e1 l
      obtain ⟨v', Fj, h1, h2⟩ := hn j r c (nb _ _ (List.mem_cons_self ..))
      replace h2 := h2.rep ct
      rw [hv] at h1
      cases h1
      rw [n1]
      refine ⟨.v (RepR.look ⟨zo, ow, tz, no⟩ h2) i1, congrArg (· + 1) i2, fun Z' H' ms Fm h => ?_⟩
      cases h with
      | v h => exact i3 _ _ _ _ h
  | .i :: md, .p r :: rs, _, _, _, kp, nb, .p q nv s, e, l => by
    unfold xargs at e
    cases ef : frzR r with
    | none => rw [ef] at e; cases e
    | some d =>
      rw [ef] at e
      obtain ⟨ds', e1, rfl⟩ := map_some e
      have n1 : nm (.i :: md) = nm md := rfl
      obtain ⟨i1, i2, i3⟩ := xargs_ok zo zw ow tz no own hsi hn hi (fun a ha => kp a (List.mem_append_right _ ha)) (fun j r m => nb j r (List.mem_cons_of_mem _ m)) s e1 l
      rw [n1]
      refine ⟨.i (frzR_ok ⟨zo, ow, tz, no⟩ (q.keep nv (Same.refl _) (Same.refl _) fun a ha => kp a (List.mem_append_left _ ha)) ef) i1, congrArg (· + 1) i2, fun Z' H' ms Fm h => ?_⟩
      cases h with
      | i h => exact i3 _ _ _ _ h
  | .i :: md, .n j r :: rs, _, _, _, kp, nb, .n (v := v) hv s, e, l => by
    unfold xargs at e
    by_cases c : j = i
    · rw [if_pos c] at e; cases e
    · rw [if_neg c] at e
      cases ef : frzR r with
      | none => rw [ef] at e; cases e
      | some d =>
        rw [ef] at e
        obtain ⟨ds', e1, rfl⟩ := map_some e
        have n1 : nm (.i :: md) = nm md := rfl
        obtain ⟨i1, i2, i3⟩ := xargs_ok zo zw ow tz no own hsi hn hi kp (fun j r m => nb j r (List.mem_cons_of_mem _ m)) s e1 l
        obtain ⟨v', Fj, h1, h2⟩ := hn j r c (nb _ _ (List.mem_cons_self ..))
        replace h2 : RepR K Z O W v' r Fj := by
          rcases h2 with h2 | ⟨ct, a, xs, es, _, e2, _⟩
          · exact h2
          · obtain ⟨s, d⟩ := r
            cases ct
            cases e2
            cases ef
        rw [hv] at h1
        cases h1
        rw [n1]
        refine ⟨.i (frzR_ok ⟨zo, ow, tz, no⟩ h2 ef) i1, congrArg (· + 1) i2, fun Z' H' ms Fm h => ?_⟩
        cases h with
        | i h => exact i3 _ _ _ _ h
  | .m :: _, .p _ :: _, _, _, _, _, _, _, e, _ => by cases e
  | [], _ :: _, _, _, _, _, _, _, e, _ => by cases e
  | .m :: _, [], _, _, _, _, _, _, e, _ => by cases e
  | .i :: _, [], _, _, _, _, _, _, e, _ => by cases e
  | .v :: _, [], _, _, _, _, _, _, e, _ => by cases e
end
section
variable {K : PySem.W.Frag} {E : XK}
theorem outer_none {O Z' : Hp} {a : Addr} (h1 : O a = none) (h2 : Z' a = none) : oNew O Z' a = none := by rw [oNew_none h1]; exact h2
/-- behind a call that changed the thing in slot i -/
theorem after_call {Z O H Z' H' : Hp} {σ : St} {ρ : Ev} {F F1 Gi F2 Fm G : List Addr} {i : Nat} {vi : V} {s : Sx} {d d' : D} {md : List Md} {vs : List V} {ms : List D} (rl : Rel K Z O H σ ρ F) (n : nov ρ = true) (ef : F = F1 ++ (Gi ++ F2)) (hsi : σ[i]? = some (some vi)) (hi : ρ[i]? = some (some ⟨s, d⟩)) (hs : isOB s = true)
    (h5 : ∀ (x' : Option V) (y' : Option R) (G' : List Addr) (Z' O' H' : Hp), Same Z Z' → Same O O' → (SameN H H' ∨ nov ρ = true) → (∀ a ∈ F1 ++ F2, ∀ o, H a = some o → (∀ ps, o ≠ .tbl ps) → H' a = some o) → SlotR K Z' O' H' x' y' G' → Slots K Z' O' H' (σ.set i x') (ρ.set i y') (F1 ++ (G' ++ F2)))
    (A : After K md vs Z H Gi ms Z' H' Fm G) (ow : Own K Z' H' vi d' Fm) :
    Rel K Z' (oNew O Z') H' σ (ρ.set i (some ⟨s, d'⟩)) (F1 ++ (Fm ++ F2)) ∧ nov (ρ.set i (some ⟨s, d'⟩)) = true ∧ ((F1 ++ (Fm ++ F2)) ++ G).Nodup ∧ (∀ a ∈ G, oNew O Z' a = none) ∧ Tr Z H F Z' H' ((F1 ++ (Fm ++ F2)) ++ G) ∧ TrS Z O H σ ρ F Z' (oNew O Z') H' σ (ρ.set i (some ⟨s, d'⟩)) (F1 ++ (Fm ++ F2)) := by
  have nF := rl.nd
  rw [ef] at nF
  obtain ⟨n1, n2, n3⟩ := List.nodup_append.mp nF
  obtain ⟨n4, n5, n6⟩ := List.nodup_append.mp n2
  have inG : ∀ a ∈ Gi, a ∈ F := fun a ha => by rw [ef]; simp [ha]
  have in1 : ∀ a ∈ F1, a ∈ F := fun a ha => by rw [ef]; simp [ha]
  have in2 : ∀ a ∈ F2, a ∈ F := fun a ha => by rw [ef]; simp [ha]
  have g1 : ∀ a ∈ F1, a ∉ Gi := fun a ha z => n3 a ha a (List.mem_append_left _ z) rfl
  have g2 : ∀ a ∈ F2, a ∉ Gi := fun a ha z => n6 a z a ha rfl
  have live : ∀ a ∈ F, H a ≠ none := fun a ha z => by
    obtain ⟨o, h, _⟩ := rl.sl.live a ha
    rw [z] at h; cases h
  have zF : ∀ a ∈ F, Z a = none := fun a ha => rl.g.zo.free (rl.fo a ha)
  have hO : Same O H' := fun a o h => by
    refine A.tr.keep a o (rl.g.oh _ _ h) (fun z => ?_) fun ps e => rl.g.nt a ps (by rw [h, e])
    rw [rl.fo a (inG a z)] at h
    cases h
  have zz : ∀ a, a ∈ F → a ∉ Gi → Z' a = none := fun a ha hg => by
    cases w : Z' a with
    | none => rfl
    | some o =>
      rcases A.tr.zn a (by rw [w]; simp) with z | z | z
      · exact absurd (zF a ha) z
      · exact absurd z hg
      · exact absurd z (live a ha)
  have fn1 : ∀ a ∈ Fm ++ G, a ∉ F1 ∧ a ∉ F2 := fun a ha => by
    rcases A.tr.fn a ha with z | z
    · exact ⟨fun y => g1 a y z, fun y => g2 a y z⟩
    · exact ⟨fun y => live a (in1 a y) z, fun y => live a (in2 a y) z⟩
  have oN : ∀ a ∈ Fm ++ G, oNew O Z' a = none := fun a ha => outer_none (by
    rcases A.tr.fn a ha with z | z
    · exact rl.fo a (inG a z)
    · exact none_of rl.g.oh z) (A.zf a ha)
  have sl := h5 (some vi) (some ⟨s, d'⟩) Fm Z' (oNew O Z') H' A.tr.z oNew_same (.inr n) (fun a ha o h nn => A.tr.keep a o h (by
    rcases List.mem_append.mp ha with ha | ha
    · exact g1 a ha
    · exact g2 a ha) nn) (by
      cases s with
      | own => exact .inl ow
      | brw => exact .inl ow
      | _ => cases hs)
  rw [set_same hsi] at sl
  obtain ⟨m1, m2, m3⟩ := List.nodup_append.mp A.nd
  have nd2 : ((F1 ++ (Fm ++ F2)) ++ G).Nodup := by
    refine List.nodup_append.mpr ⟨List.nodup_append.mpr ⟨n1, List.nodup_append.mpr ⟨m1, n5, fun a ha b hb e => (fn1 a (List.mem_append_left _ ha)).2 (e ▸ hb)⟩, fun a ha b hb e => ?_⟩, m2, fun a ha b hb e => ?_⟩
    · rcases List.mem_append.mp hb with hb | hb
      · exact (fn1 b (List.mem_append_left _ hb)).1 (e ▸ ha)
      · exact n3 a ha b (List.mem_append_right _ hb) e
    · rcases List.mem_append.mp ha with ha | ha
      · exact (fn1 b (List.mem_append_right _ hb)).1 (e ▸ ha)
      · rcases List.mem_append.mp ha with ha | ha
        · exact m3 a ha b hb e
        · exact (fn1 b (List.mem_append_right _ hb)).2 (e ▸ ha)
  have tr : Tr Z H F Z' H' ((F1 ++ (Fm ++ F2)) ++ G) := by
    refine ⟨A.tr.z, fun a o h hn nn => A.tr.keep a o h (fun z => hn (inG a z)) nn, fun a h => (A.tr.zn a h).imp id fun z => z.imp (inG a) id, fun a ha => ?_, fun a h => (A.tr.fr a h).imp (inG a) id, fun a hn h => A.tr.tab a (fun z => hn (inG a z)) h⟩
    have key : ∀ a ∈ Fm ++ G, a ∈ F ∨ H a = none := fun a ha => (A.tr.fn a ha).imp (inG a) id
    rcases List.mem_append.mp ha with ha | ha
    · rcases List.mem_append.mp ha with ha | ha
      · exact .inl (in1 a ha)
      · rcases List.mem_append.mp ha with ha | ha
        · exact key a (List.mem_append_left _ ha)
        · exact .inl (in2 a ha)
    · exact key a (List.mem_append_right _ ha)
  have nv : nov (ρ.set i (some ⟨s, d'⟩)) = true := nov_set n fun d e => by
    cases e
    cases hs
  refine ⟨⟨oNew_good hO A.zh A.tz rl.g.nt A.nt, (List.nodup_append.mp nd2).1, fun a ha => ?_, sl, A.tb⟩, nv, nd2, fun a ha => oN a (List.mem_append_right _ ha), tr, tr.sub, oNew_same, rfl, fun j dj hj => ⟨rfl, ?_⟩, fun a h => ?_⟩
  · rcases List.mem_append.mp ha with ha | ha
    · exact outer_none (rl.fo a (in1 a ha)) (zz a (in1 a ha) (g1 a ha))
    · rcases List.mem_append.mp ha with ha | ha
      · exact oN a (List.mem_append_left _ ha)
      · exact outer_none (rl.fo a (in2 a ha)) (zz a (in2 a ha) (g2 a ha))
  · by_cases ij : i = j
    · subst ij
      rw [hj] at hi
      cases hi
      obtain ⟨hl, _⟩ := List.getElem?_eq_some_iff.mp hj
      exact ⟨d', List.getElem?_set_self hl⟩
    · exact ⟨dj, by rw [List.getElem?_set_ne ij]; exact hj⟩
  · cases w : O a with
    | some x => exact .inl (by simp)
    | none =>
      rw [oNew_none w] at h
      rcases A.tr.zn a h with z | z | z
      · exact absurd (rl.g.zo.free w) z
      · exact .inr (.inl (inG a z))
      · exact .inr (.inr z)
/-- the promise of a def that changes one thing, at the state behind its arguments -/
theorem spF_call {Z O H : Hp} {σ : St} {ρ : Ev} {F : List Addr} {Q : VK} {f : Fn} {md : List Md} {i : Nat} {rs : List AR} {ds : List D} {vs : List V} {Gt : List Addr} {s : Sx} {d : D} (rl : Rel K Z O H σ ρ F) (n : nov ρ = true) (hnb : ∀ j r, AR.n j r ∈ rs → ρ[j]? = some (some r))
    (q : RepXs K Z O H σ vs rs Gt) (dj : ∀ a ∈ Gt, a ∉ F) (ea : xargs i md rs = some ds) (hi : ρ[i]? = some (some ⟨s, d⟩)) (hs : isOB s = true) (h1 : nm md = 1) (h : MRK K E Z O H σ ρ F Q (mOut i s (f ds) ρ)) : spF K md f vs H Q E := by
  obtain ⟨hl, _⟩ := List.getElem?_eq_some_iff.mp hi
  obtain ⟨x, y, F1, Gi, F2, e1, e2, e3, e4, h5⟩ := rl.sl.focus hl
  rw [hi] at e2
  cases e2
  cases x with
  | none => exact e4.elim
  | some vi =>
    have ow : Own K Z H vi d Gi := by
      cases s with
      | own => exact RepS.rep e4 nofun
      | brw => exact RepS.rep e4 nofun
      | _ => cases hs
    have inG : ∀ a ∈ Gi, a ∈ F := fun a ha => by rw [e3]; simp [ha]
    have nF := rl.nd
    rw [e3] at nF
    obtain ⟨n1, n2, n3⟩ := List.nodup_append.mp nF
    obtain ⟨n4, n5, n6⟩ := List.nodup_append.mp n2
    have ww : ∀ a o, H a = some o → a ∉ Gi → (∀ ps, o ≠ .tbl ps) → without H Gi a = some o := fun a o h hn nn => by unfold without; rw [if_neg hn, h]; exact noTb_of nn
    have ow' : Same O (without H Gi) := fun a o h => ww a o (rl.g.oh _ _ h) (fun z => by rw [rl.fo a (inG a z)] at h; cases h) fun ps e => rl.g.nt a ps (by rw [h, e])
    have zw' : Same Z (without H Gi) := rl.g.zo.trans ow'
    have tz' : ∀ a o, without H Gi a = some o → fzn o = true → Z a = some o := fun a o h f => rl.g.tz a o (without_some h).1 f
    have sw := h5 none none [] Z O (without H Gi) (Same.refl _) (Same.refl _) (.inr n) (fun a ha o h nn => ww a o h (by
      rcases List.mem_append.mp ha with ha | ha
      · exact fun z => n3 a ha a (List.mem_append_left _ z) rfl
      · exact fun z => n6 a z a ha rfl) nn) rfl
    obtain ⟨i1, i2, i3⟩ := xargs_ok (K := K) rl.g.zo zw' ow' tz' rl.g.nt ow e1 (fun j r hj hr => by
      obtain ⟨v, hv, Fj, q⟩ := sw.get (i := j) (r := r) (by rw [List.getElem?_set_ne (fun z => hj z.symm)]; exact hr)
      rw [List.getElem?_set_ne (fun z => hj z.symm)] at hv
      exact ⟨v, Fj, hv, q⟩) (fun r hr => by rw [hi] at hr; cases hr; rfl) (md := md) (rs := rs) (vs := vs) (fun a ha o h nn => ww a o h (fun z => dj a ha (inG a z)) nn) hnb q ea (by omega)
    rw [if_pos h1] at i1
    refine ⟨i2, Z, ds, Gi, rl.g.zh, rl.g.ntz, rl.tb, rl.g.tz, i1, n4, fun a ha => rl.g.zo.free (rl.fo a (inG a ha)), ?_⟩
    unfold mOut at h
    cases ef : f ds with
    | bad => rw [ef] at h; exact h.elim
    | ok r ms =>
      rw [ef] at h
      match ms, h with
      | [], h => exact h.elim
      | _ :: _ :: _, h => exact h.elim
      | [d'], h =>
        intro v H' Z' Fm G A t rr
        have o1 := i3 _ _ _ _ A.outs
        rw [if_pos h1] at o1
        obtain ⟨d2, ed, ow2⟩ := o1
        cases ed
        obtain ⟨rl', nv', nd', fo', tr', ts'⟩ := after_call rl n e3 e1 hi hs h5 A ow2
        exact h v H' Z' (oNew O Z') _ G rl' nv' (RetR.move rr t) nd' fo' tr' ts'
    | exc c fs ms =>
      rw [ef] at h
      match ms, h with
      | [], h => exact h.elim
      | _ :: _ :: _, h => exact h.elim
      | [d'], h =>
        intro H' Z' Fm d0 xs A hd ek rk
        have o1 := i3 _ _ _ _ A.outs
        rw [if_pos h1] at o1
        obtain ⟨d2, ed, ow2⟩ := o1
        cases ed
        obtain ⟨rl', nv', nd', fo', tr', ts'⟩ := after_call rl n e3 e1 hi hs h5 A ow2
        exact h H' Z' (oNew O Z') _ d0 xs rl' ts' hd ek rk
theorem mCall_ok {σ : St} {H : Hp} {Q : VK} {f : Fn} {md : List Md} {i : Nat} {ks : List Ax} (h : tM K E (mCall f md i ks) σ H Q) : tAX K E ks σ H fun vs H1 => spF K md f vs H1 Q E := by
  obtain ⟨Z, O, ρ, F, rl, n, h⟩ := h
  refine ⟨Z, O, ρ, F, rl, ?_⟩
  unfold mCall at h
  cases e : evx ks ρ with
  | bad => rw [e] at h; exact h.elim
  | exc c fs =>
    rw [e] at h
    exact fun H' Z' O' d xs x g q a b => h H' Z' O' F d xs (rl.ext x g) (TrS.ext x) q a b
  | ok rs =>
    rw [e] at h
    simp only at h
    intro vs H1 Z1 O1 Gt x1 g1 q nd fr
    cases ea : xargs i md rs with
    | none => rw [ea] at h; exact h.elim
    | some ds =>
      rw [ea] at h
      simp only at h
      cases hi : ρ[i]? with
      | none => rw [hi] at h; exact h.elim
      | some y =>
        cases y with
        | none => rw [hi] at h; exact h.elim
        | some r =>
          obtain ⟨s, d⟩ := r
          rw [hi] at h
          simp only at h
          by_cases c : isOB s = true ∧ nm md = 1
          · rw [if_pos c] at h
            exact spF_call (rl.ext x1 g1) n (evx_names e) q (fun a ha z => by
              obtain ⟨o, w, _⟩ := rl.sl.live a z
              rw [(fr a ha).1] at w
              cases w) ea hi c.1 c.2 (MRK.from h (TrS.ext x1))
          · rw [if_neg c] at h; exact h.elim
end
section
variable {X : Cx} {E : XK} {CX : CXT} {k k' : Nat} {ps : List Str} {md : List Md} {m : Fn} {x : Str} {p pos : Pos} {e : Expr} {es : List Expr} {ks : List Ax} {i : Nat}
theorem s_mcall (i : Nat) (c : Cal CX X.prog X.w X.K X.mg X.base k x ps md m) (hr : Room k' X.A) (hx : Passes CX X E) (ha : PA X (e :: es) (tAX X.K E ks)) (hg : Gl X x := by rfl) (hk : k ≤ k' := by decide)
    (hdb : (x == ("__debug__" : Str)) = false := by decide) (he : starEach (e :: es) X.env = (false, eval e X.env) :: starEach es X.env := by rfl) (hpl : (backTo pos (starEach es X.env)).any (·.1) = false := by rfl) :
    PE X (.Call (.Name x p) (e :: es) [] pos) (tM X.K E (mCall m md i ks)) := by
  obtain ⟨f, fd, F, b, kp, hm⟩ := c.ex
  refine (pe_call F (hr.mono hk) hg hm kp b .nil hx ha hdb he hpl).imp fun σ H Q h => ?_
  obtain ⟨Z, O, ρ, F, rl, q⟩ := mCall_ok h
  refine ⟨Z, O, ρ, F, rl, ?_⟩
  cases e : evx ks ρ with
  | bad => rw [e] at q; exact q
  | exc c fs => rw [e] at q; exact q
  | ok rs =>
    rw [e] at q
    intro vs H' Z' O' G a1 a2 a3 a4 a5
    show spF X.K md m (vs ++ []) H' Q E
    rw [List.append_nil]
    exact q vs H' Z' O' G a1 a2 a3 a4 a5
end
end Oz

namespace Oz
open PySem PySem.Spec L2
open PyProof.Rows hiding St
variable [WD]

/-! ### objects -/
theorem lkF_none {f : Str} : ∀ {fs : List (Str × V)} {es : List (D × D)}, es.map (·.1) = fs.map (fun p => PyData.str p.1) → lkD (.inr f) es = none → fs.lookup f = none
  | [], [], _, _ => rfl
  | (g, v) :: fs, (a, d) :: es, h, n => by
    simp only [List.map_cons, List.cons.injEq] at h
    obtain ⟨h1, h2⟩ := h
    unfold lkD at n
    by_cases c : keyOf a = some (.inr f)
    · rw [if_pos c] at n; cases n
    · rw [if_neg c] at n
      have hg : ¬ f = g := fun e => c (by rw [h1, e]; rfl)
      have hb : (f == g) = false := beq_eq_false_iff_ne.mpr hg
      simp only [List.lookup, hb]
      exact lkF_none h2 n
  | [], _ :: _, h, _ => by simp at h
  | _ :: _, [], h, _ => by simp at h
theorem lkF_some {f : Str} : ∀ {fs : List (Str × V)} {es : List (D × D)} {d : D}, es.map (·.1) = fs.map (fun p => PyData.str p.1) → lkD (.inr f) es = some d →
    ∃ j x, fs.lookup f = some x ∧ (fs.map (·.2))[j]? = some x ∧ (es.map (·.2))[j]? = some d ∧
      ∀ (y : V) (d' : D), (putF f y fs).map (·.2) = (fs.map (·.2)).set j y ∧ (ptD (.inr f) d' es).map (·.2) = (es.map (·.2)).set j d' ∧ (ptD (.inr f) d' es).map (·.1) = es.map (·.1) ∧ (putF f y fs).map (·.1) = fs.map (·.1)
  | [], [], _, _, h => by simp [lkD] at h
  | (g, v) :: fs, (a, d0) :: es, d, h, n => by
    simp only [List.map_cons, List.cons.injEq] at h
    obtain ⟨h1, h2⟩ := h
    unfold lkD at n
    by_cases c : keyOf a = some (.inr f)
    · rw [if_pos c] at n
      cases n
      have hg : g = f := by
        rw [h1] at c
        have : (Sum.inr g : Key) = .inr f := Option.some.inj c
        cases this
        rfl
      have hb : (f == g) = true := beq_iff_eq.mpr hg.symm
      refine ⟨0, v, by simp only [List.lookup, hb], rfl, rfl, fun y d' => ?_⟩
      unfold ptD putF
      rw [if_pos c, if_pos hg]
      exact ⟨rfl, rfl, rfl, rfl⟩
    · rw [if_neg c] at n
      have hg : ¬ f = g := fun e => c (by rw [h1, e]; rfl)
      have hb : (f == g) = false := beq_eq_false_iff_ne.mpr hg
      obtain ⟨j, x, e1, e2, e3, e4⟩ := lkF_some h2 n
      refine ⟨j + 1, x, by simp only [List.lookup, hb]; exact e1, by simpa using e2, by simpa using e3, fun y d' => ?_⟩
      obtain ⟨f1, f2, f3, f4⟩ := e4 y d'
      unfold ptD putF
      rw [if_neg c, if_neg fun e => hg e.symm]
      refine ⟨?_, ?_, ?_, ?_⟩
      · rw [List.map_cons, f1, List.map_cons, List.set_cons_succ]
      · rw [List.map_cons, f2, List.map_cons, List.set_cons_succ]
      · rw [List.map_cons, f3, List.map_cons]
      · rw [List.map_cons, f4, List.map_cons]
  | [], _ :: _, _, h, _ => by simp at h
  | _ :: _, [], _, h, _ => by simp at h
theorem putF_new {f : Str} {y : V} : ∀ {fs : List (Str × V)}, fs.lookup f = none → putF f y fs = fs ++ [(f, y)]
  | [], _ => rfl
  | (g, v) :: fs, h => by
    by_cases e : f = g
    · have hb : (f == g) = true := beq_iff_eq.mpr e
      simp only [List.lookup, hb] at h
      cases h
    · have hb : (f == g) = false := beq_eq_false_iff_ne.mpr e
      simp only [List.lookup, hb] at h
      unfold putF
      rw [if_neg fun z => e z.symm, putF_new h]
      rfl
/-- what an object of the class c has -/
def unO (c : Str) (d : D) : Option (List (D × D)) := match d with
  | .dict ((.none, .str c') :: es) => if c' = c then some es else none
  | _ => none
theorem unO_some {c : Str} {d : D} {es : List (D × D)} (h : unO c d = some es) : d = objD c es := by
  unfold unO at h
  split at h
  · rename_i c' es'
    by_cases e : c' = c
    · rw [if_pos e] at h; cases h; rw [e]; rfl
    · rw [if_neg e] at h; cases h
  · cases h
section
variable {K : PySem.W.Frag} {Z O H C : Hp} {v : V}
theorem Own.obj_inv {c : Str} {es : List (D × D)} {G : List Addr} (q : Own K Z H v (objD c es) G) : ∃ a dx fs G0, v = .ref a ∧ H a = some (.ins (He.ga K c) dx fs) ∧ H dx = some (.own a) ∧ es.map (·.1) = fs.map (fun p => PyData.str p.1) ∧ Owns K Z H (fs.map (·.2)) (es.map (·.2)) G0 ∧ G = a :: dx :: G0 := by
  unfold objD at q
  generalize hd : PyData.dict ((PyData.none, PyData.str c) :: es) = d at q
  cases q with
  | imm r p => subst hd; cases p
  | lst h r => cases hd
  | dct h e r =>
    cases hd
    have m : PyData.none ∈ _ := e ▸ (List.mem_map.mpr ⟨_, List.mem_cons_self, rfl⟩)
    obtain ⟨p, _, hp⟩ := List.mem_map.mp m
    cases hk : p.1 <;> rw [hk] at hp <;> cases hp
  | obj h h2 ec e r =>
    cases hd
    subst ec
    exact ⟨_, _, _, _, rfl, h, h2, e, r, rfl⟩
theorem Rep.obj_inv {c : Str} {es : List (D × D)} (q : Rep K C v (objD c es)) : ∃ a dx fs, v = .ref a ∧ C a = some (.ins (He.ga K c) dx fs) ∧ es.map (·.1) = fs.map (fun p => PyData.str p.1) ∧ Reps K C (fs.map (·.2)) (es.map (·.2)) := by
  unfold objD at q
  generalize hd : PyData.dict ((PyData.none, PyData.str c) :: es) = d at q
  cases q with
  | scr h r => cases hd
  | dct h e r =>
    cases hd
    have m : PyData.none ∈ _ := e ▸ (List.mem_map.mpr ⟨_, List.mem_cons_self, rfl⟩)
    obtain ⟨p, _, hp⟩ := List.mem_map.mp m
    cases hk : p.1 <;> rw [hk] at hp <;> cases hp
  | obj h ec e r =>
    cases hd
    subst ec
    exact ⟨_, _, _, rfl, h, e, r⟩
  | _ => cases hd
end
def fldR (c f : Str) (r : R) : Res R := match unO c r.d with
  | some es => (match lkD (.inr f) es with
    | some d => .ok (sub r.s d)
    | none => .bad)
  | none => .bad
def pFld (c f : Str) (p : Px) : Px := fun ρ => (p ρ).bind fun r => fldR c f r
def plF (c f : Str) (l : Plx) : Plx := fun ρ => (l ρ).bind fun l => match unO c l.d with
  | some es => (match lkD (.inr f) es with
    | some d => .ok ⟨l.i, d, fun y => l.put (objD c (ptD (.inr f) y es))⟩
    | none => .bad)
  | none => .bad
def sFldS (c f : Str) (l : Plx) (q : Px) : Stx := fun ρ => match q ρ with
  | .bad => .bad
  | .exc c fs => .exc c fs ρ
  | .ok r => (match ownR r with
    | none => .bad
    | some d => (match l ρ with
      | .bad => .bad
      | .exc c fs => .exc c fs ρ
      | .ok l => (match unO c l.d with
        | some es => if es.length < 1000 then putE l (objD c (ptD (.inr f) d es)) ρ else .bad
        | none => .bad)))
section
variable {X : Cx} {E : XK} {o e : Expr} {l : Plx} {p q : Px} {pos pos' apos : Pos} {c f : Str}
theorem s_fld (cl : Cls X.K (He.ga X.K c)) (na : NoAttr X.K (He.ga X.K c) f) (ha : PE X o (tP X.K E p)) (hb : attributeBase o f X.env (eval o X.env) = eval o X.env := by rfl) : PE X (.Attribute o f pos) (tP X.K E (pFld c f p)) := by
  refine (pe_fld ha hb).imp fun σ H Q h => ?_
  refine tP_bind (k := fun r _ => fldR c f r) h fun Z O H1 Z1 O1 ρ F G v r rl x1 r1 q1 nd fr h2 => ?_
  obtain ⟨s, d⟩ := r
  have h3 : ResK X.K E [] Z1 O1 H1 (fldR c f ⟨s, d⟩) Q := ResK.ext h2 x1 fun a ha => by cases ha
  unfold fldR at h3
  simp only at h3
  cases eo : unO c d with
  | none => rw [eo] at h3; exact h3.elim
  | some es =>
    rw [eo] at h3
    simp only at h3
    have ed := unO_some eo
    subst ed
    cases e2 : lkD (.inr f) es with
    | none => rw [e2] at h3; exact h3.elim
    | some d =>
      rw [e2] at h3
      have la := q1.look r1.g
      obtain ⟨a, dx, fs, ev, ha, hk, hr⟩ := la.obj_inv
      obtain ⟨j, x, e3, e4, e5, _⟩ := lkF_some hk e2
      obtain ⟨x', e6, rx⟩ := hr.get e5
      rw [e4] at e6
      cases e6
      refine ⟨a, _, dx, fs, x, ev, ha, cl, na, e3, OkK.sub r1.g h3 rx (fun es1 => ?_) fun es1 => ?_⟩
      · subst es1
        have r0 : Rep X.K Z1 _ (objD c es) := q1.1
        obtain ⟨a', dx', fs', ev', ha', hk', hr'⟩ := r0.obj_inv
        rw [ev] at ev'
        cases ev'
        have := r1.g.zh _ _ ha'
        rw [ha] at this
        cases this
        obtain ⟨x', e7, rx'⟩ := hr'.get e5
        rw [e4] at e7
        cases e7
        exact rx'
      · subst es1
        have r0 : Rep X.K O1 _ (objD c es) := q1.1
        obtain ⟨a', dx', fs', ev', ha', hk', hr'⟩ := r0.obj_inv
        rw [ev] at ev'
        cases ev'
        have := r1.g.oh _ _ ha'
        rw [ha] at this
        cases this
        obtain ⟨x', e7, rx'⟩ := hr'.get e5
        rw [e4] at e7
        cases e7
        exact rx'
theorem PlAt.fld {K : PySem.W.Frag} {Z O H : Hp} {σ : St} {ρ : Ev} {F F1 G F2 : List Addr} {l : Pl} {v : V} {s : Sx} {es : List (D × D)} {d : D} (pa : PlAt K Z O H σ ρ F l v s F1 G F2) (e : l.d = objD c es) (h : lkD (.inr f) es = some d) :
    ∃ a dx fs x F1' G' F2', v = .ref a ∧ H a = some (.ins (He.ga K c) dx fs) ∧ fs.lookup f = some x ∧ PlAt K Z O H σ ρ F ⟨l.i, d, fun y => l.put (objD c (ptD (.inr f) y es))⟩ x s F1' G' F2' := by
  have q := pa.own
  rw [e] at q
  obtain ⟨a, dx, fs, G0, rfl, ha, hdx, hk, qs, eg⟩ := q.obj_inv
  obtain ⟨j, x, e1, e2, e3, e4⟩ := lkF_some hk h
  obtain ⟨x', F1', G', F2', e5, pb⟩ := pa.child (hd := [a, dx]) (mk := fun ds => objD c ((es.map (·.1)).zip ds)) eg qs e3 fun Z' H' ds' F' ez kp hl q' => by
    obtain ⟨z1, z2⟩ := zip_fst (as := es.map (·.1)) (bs := ds') (by rw [hl, List.length_map, List.length_map])
    exact .obj (kp a (by simp) _ ha nofun) (kp dx (by simp) _ hdx nofun) rfl (by rw [z1]; exact hk) (by rw [z2]; exact q')
  rw [e2] at e5
  cases e5
  refine ⟨a, dx, fs, x, F1', G', F2', rfl, ha, e1, ?_⟩
  have ee : (fun y => l.put (objD c (ptD (.inr f) y es))) = fun y => l.put (objD c ((es.map (·.1)).zip ((es.map (·.2)).set j y))) := by
    funext y
    obtain ⟨_, f2, f3, _⟩ := e4 .non y
    rw [← f2, ← f3, zip_mk]
  rw [ee]
  exact pb
theorem s_plF (cl : Cls X.K (He.ga X.K c)) (na : NoAttr X.K (He.ga X.K c) f) (ha : PE X o (tPl X.K E l)) (hb : attributeBase o f X.env (eval o X.env) = eval o X.env := by rfl) : PE X (.Attribute o f pos) (tPl X.K E (plF c f l)) := by
  refine (pe_fld ha hb).imp fun σ H Q h => ?_
  obtain ⟨Z, O, ρ, F, rl, h⟩ := h
  refine ⟨Z, O, ρ, F, rl, ?_⟩
  unfold plF at h
  cases e : l ρ with
  | bad => rw [e] at h; exact h.elim
  | exc c fs => rw [e] at h; exact h
  | ok l0 =>
    rw [e] at h
    simp only [Res.bind_ok] at h
    intro v H1 Z1 O1 s F1 G F2 x1 g1 pa
    cases eo : unO c l0.d with
    | none => rw [eo] at h; exact h.elim
    | some es =>
      rw [eo] at h
      simp only at h
      cases e2 : lkD (.inr f) es with
      | none => rw [e2] at h; exact h.elim
      | some d =>
        rw [e2] at h
        obtain ⟨a, dx, fs, x, F1', G', F2', ev, ha, hx, pb⟩ := pa.fld (unO_some eo) e2
        exact ⟨a, _, dx, fs, x, ev, ha, cl, na, hx, h x H1 Z1 O1 s F1' G' F2' x1 g1 pb⟩
theorem s_fldS (cl : Cls X.K (He.ga X.K c)) (na : NoAttr X.K (He.ga X.K c) f) (hl : PE X o (tPl X.K E l)) (he : PE X e (tP X.K E q)) (hs : swapsWith e (some (.Attribute o f pos')) pos.line X.env = pure false := by rfl) : PS X (.Assign [.Attribute o f pos'] e pos) (tS X.K E (sFldS c f l q)) := by
  refine (ps_fld hl he hs).imp fun D σ H h => ?_
  obtain ⟨Z, O, ρ, F, rl, n, h⟩ := h
  refine ⟨Z, O, ρ, F, rl, ?_⟩
  unfold sFldS at h
  cases e1 : q ρ with
  | bad => rw [e1] at h; exact h.elim
  | exc c fs => rw [e1] at h; exact SRK.exc rl h
  | ok r =>
    rw [e1] at h
    simp only at h
    cases er : ownR r with
    | none => rw [er] at h; exact h.elim
    | some d =>
      rw [er] at h
      simp only at h
      intro y H1 Z1 O1 Gy x1 g1 q1 nd1 fr1
      have rl1 := rl.ext x1 g1
      refine ⟨Z1, O1, ρ, F, rl1, ?_⟩
      cases e2 : l ρ with
      | bad => rw [e2] at h; exact h.elim
      | exc c fs => rw [e2] at h; exact ExcK.ext (SRK.exc rl h) x1
      | ok l0 =>
        rw [e2] at h
        simp only at h
        intro v H3 Z3 O3 s F1 G F2 x2 g3 pa3
        cases eo : unO c l0.d with
        | none => rw [eo] at h; exact h.elim
        | some es =>
          rw [eo] at h
          simp only at h
          by_cases cc : es.length < 1000
          · rw [if_pos cc] at h
            have qo := pa3.own
            rw [unO_some eo] at qo
            obtain ⟨a0, dx, fs, G0, rfl, ha0, hdx, hk, qs, eg⟩ := qo.obj_inv
            have x123 := x1.trans0 x2
            obtain ⟨G', qy, cG⟩ := ownR_ok g1 q1 er
            have sG : ∀ c ∈ G', c ∈ Gy := fun c hc => by
              rcases cG with z | z
              · rw [z] at hc; exact hc
              · rw [z] at hc; cases hc
            have nG : G'.Nodup := by
              rcases cG with z | z
              · rw [z]; exact nd1
              · rw [z]; exact List.nodup_nil
            have fG : ∀ c ∈ G', H c = none := fun c hc => (fr1 c (sG c hc)).1.elim id fun z => by cases z
            have oG : ∀ c ∈ G', O3 c = none := fun c hc => by
              obtain ⟨o, hy, _⟩ := qy.live c hc
              cases w : O3 c with
              | none => rfl
              | some o' =>
                rcases x2.on c (by rw [w]; simp) with z | z | z
                · exact absurd (fr1 c (sG c hc)).2 z
                · rw [hy] at z; cases z
                · cases z
            have nF := rl.nd
            rw [pa3.eq, eg] at nF
            have nGG : (a0 :: dx :: G0).Nodup := (List.nodup_append.mp (List.nodup_append.mp nF).2.1).1
            have aG1 : a0 ∉ dx :: G0 := (List.nodup_cons.mp nGG).1
            have aG0 : a0 ∉ G0 := fun z => aG1 (List.mem_cons_of_mem _ z)
            have axd : a0 ≠ dx := fun z => aG1 (by rw [z]; simp)
            have nG1 := (List.nodup_cons.mp nGG).2
            have dG0 : dx ∉ G0 := (List.nodup_cons.mp nG1).1
            have inF : ∀ c ∈ a0 :: dx :: G0, c ∈ F := fun c hc => by rw [pa3.eq, eg]; simp only [List.mem_append]; exact .inr (.inl hc)
            have dF : ∀ c ∈ G', c ∉ F := fun c hc z => by
              obtain ⟨o, hy, _⟩ := rl.sl.live c z
              rw [fG c hc] at hy
              cases hy
            have hlen : fs.length = es.length := by
              have := congrArg List.length hk
              simpa using this.symm
            refine ⟨a0, _, dx, fs, rfl, ha0, cl, na, by rw [hlen]; exact cc, ?_⟩
            have kp : ∀ o', ∀ c, c ≠ a0 → ∀ o, H3 c = some o → upd H3 a0 o' c = some o := fun o' c hc o h => by rw [upd_ne hc]; exact h
            have qy3 : ∀ o', Own X.K Z3 (upd H3 a0 o') y d G' := fun o' => Own.mono x2.z (fun c hc o h n => kp o' c (fun z => dF c hc (inF c (by rw [z]; simp))) o (x2.h.s _ _ h n)) qy
            cases ed : lkD (.inr f) es with
            | some d0 =>
              obtain ⟨j, x, e4, e5, e6, e7⟩ := lkF_some hk ed
              obtain ⟨f1, f2, f3, f4⟩ := e7 y d
              obtain ⟨x', A, Gj, B, h1, h2, h3, h4⟩ := qs.at e6
              have hkeys : (ptD (.inr f) d es).map (·.1) = (putF f y fs).map (fun p => PyData.str p.1) := by
                rw [f3, hk]
                have := congrArg (List.map PyData.str) f4
                rw [List.map_map, List.map_map] at this
                exact this.symm
              have qn : Own X.K Z3 (upd H3 a0 (.ins (He.ga X.K c) dx (putF f y fs))) (.ref a0) (objD c (ptD (.inr f) d es)) (a0 :: dx :: (A ++ (G' ++ B))) := by
                refine .obj upd_same (kp _ dx axd.symm _ hdx) rfl hkeys ?_
                rw [f1, f2]
                exact h4 Z3 _ y d G' (Same.refl _) (fun c hc o h _ => kp _ c (fun z => aG0 (by rw [h2, ← z]; rcases List.mem_append.mp hc with hc | hc <;> simp [hc])) o h) (qy3 _)
              refine pa3.store rl n x123 g3 (a0 := a0) (by rw [eg]; simp) rfl qn ?_ (fun c hc => ?_) h
              · have nn : (A ++ (G' ++ B)).Nodup := nodup_mid (G := Gj) (by rw [← h2]; exact (List.nodup_cons.mp nG1).2) nG fun c hc z => dF c hc (inF c (by rw [h2]; exact List.mem_cons_of_mem _ (List.mem_cons_of_mem _ z)))
                have nin : ∀ c, c ∈ a0 :: dx :: G0 → c ∉ G0 → c ∉ A ++ (G' ++ B) := fun c hc hn z => by
                  rcases List.mem_append.mp z with z | z
                  · exact hn (by rw [h2]; simp [z])
                  · rcases List.mem_append.mp z with z | z
                    · exact dF c z (inF c hc)
                    · exact hn (by rw [h2]; simp [z])
                refine List.nodup_cons.mpr ⟨fun z => ?_, List.nodup_cons.mpr ⟨nin dx (by simp) dG0, nn⟩⟩
                rcases List.mem_cons.mp z with z | z
                · exact axd z
                · exact nin a0 (by simp) aG0 z
              · rcases List.mem_cons.mp hc with z | z
                · left; rw [eg, z]; simp
                · rcases List.mem_cons.mp z with z | z
                  · left; rw [eg, z]; simp
                  · rcases List.mem_append.mp z with z | z
                    · left; rw [eg, h2]; simp [z]
                    · rcases List.mem_append.mp z with z | z
                      · right; exact ⟨fG c z, oG c z⟩
                      · left; rw [eg, h2]; simp [z]
            | none =>
              have hput : putF f y fs = fs ++ [(f, y)] := putF_new (lkF_none hk ed)
              have hpt : ptD (.inr f) d es = es ++ [(.str f, d)] := pt_new ed
              have qn : Own X.K Z3 (upd H3 a0 (.ins (He.ga X.K c) dx (putF f y fs))) (.ref a0) (objD c (ptD (.inr f) d es)) (a0 :: dx :: (G0 ++ G')) := by
                refine .obj upd_same (kp _ dx axd.symm _ hdx) rfl (by rw [hpt, hput, List.map_append, List.map_append, hk]; rfl) ?_
                rw [hpt, List.map_append, hput, List.map_append]
                refine Owns.append (Owns.mono (Same.refl _) (fun c hc o h _ => kp _ c (fun z => aG0 (z ▸ hc)) o h) qs) (Owns.one ?_)
                exact qy3 _
              refine pa3.store rl n x123 g3 (a0 := a0) (by rw [eg]; simp) rfl qn ?_ (fun c hc => ?_) h
              · have nn : (G0 ++ G').Nodup := List.nodup_append.mpr ⟨(List.nodup_cons.mp nG1).2, nG, fun u hu w hw e => dF w hw (inF w (by rw [← e]; exact List.mem_cons_of_mem _ (List.mem_cons_of_mem _ hu)))⟩
                have nin : ∀ c, c ∈ a0 :: dx :: G0 → c ∉ G0 → c ∉ G0 ++ G' := fun c hc hn z => by
                  rcases List.mem_append.mp z with z | z
                  · exact hn z
                  · exact dF c z (inF c hc)
                refine List.nodup_cons.mpr ⟨fun z => ?_, List.nodup_cons.mpr ⟨nin dx (by simp) dG0, nn⟩⟩
                rcases List.mem_cons.mp z with z | z
                · exact axd z
                · exact nin a0 (by simp) aG0 z
              · rcases List.mem_cons.mp hc with z | z
                · left; rw [eg, z]; simp
                · rcases List.mem_cons.mp z with z | z
                  · left; rw [eg, z]; simp
                  · rcases List.mem_append.mp z with z | z
                    · left; rw [eg]; simp [z]
                    · right; exact ⟨fG c z, oG c z⟩
          · rw [if_neg cc] at h; exact h.elim
end
end Oz

namespace Oz
open PySem PySem.Spec L2
open PyProof.Rows hiding St
variable [WD]

/-! ### methods -/
structure CalM (CX : CXT) (P : Program) (w : World) (K : PySem.W.Frag) (mg : Str → Option Value) (base : Heap) (k : Nat) (c m : Str) (ps : List Str) (md : List Md) (g : Fn) : Prop where
  cl : Cls K (He.ga K c)
  ex : ∃ f fd, FnOk P w K mg base CX k f fd ps (spF K md g) ∧ Binds K fd ps [] ∧ Meth K (He.ga K c) m f
theorem calM_of {CX : CXT} {P : Program} {w : World} {K : PySem.W.Frag} {mg : Str → Option Value} {base : Heap} {c x qual : Str} {params : Arguments} {body : List Stmt} {scope : Scope} {ps : List Str} {k : Nat} {md : List Md} {m : Fn}
    (cl : Cls K (He.ga K c)) (T : ∃ f fd, FunD K x qual params body scope [] [] f fd ∧ Meth K (He.ga K c) x f)
    (hb : ∀ (kV doc pm : Value) (an : Option Addr) (cdv ct : Value) (us : List Value), us.length = ps.length → bindArgs (PySem.W.fnOf x qual params body scope .none kV doc pm an cdv ct) ⟨us, []⟩ = pure (ps.zip us))
    (B : ∀ f fd, FunD K x qual params body scope [] [] f fd → FnOk P w K mg base CX k f fd ps (spF K md m)) :
    CalM CX P w K mg base k c x ps md m := by
  obtain ⟨f, fd, F, hm⟩ := T
  exact ⟨cl, f, fd, B f fd F, F.bindsN hb, hm⟩
/-- x.m(..), x an object that the call changes -/
def mMeth (c mn : Str) (f : Fn) (md : List Md) (i : Nat) (ks : List Ax) : Stx := fun ρ => match ρ[i]? with
  | some (some ⟨_, d⟩) => (match unO c d with
    | some es => if lkD (.inr mn) es = none then mCall f md i (.n i :: ks) ρ else .bad
    | none => .bad)
  | _ => .bad
/-- o.m(..), o looked at -/
def pMeth (c mn : Str) (f : Fn) (md : List Md) (p : Px) (ps : List Px) : Px := fun ρ => (p ρ).bind fun r => match unO c r.d with
  | some es => if lkD (.inr mn) es = none then ((evs ps ρ).bind fun rs => match pargs md (r :: rs) with
    | some ds => (match f ds with
      | .ok r [] => .ok r
      | .exc c fs [] => .exc c fs
      | _ => .bad)
    | none => .bad) else .bad
  | none => .bad
section
variable {K : PySem.W.Frag} {E : XK} {Z O H : Hp} {σ : St} {ρ : Ev} {F : List Addr} {Q : VK}
theorem mMeth_ok {c mn : Str} {f : Fn} {md : List Md} {i : Nat} {ks : List Ax} (h : tM K E (mMeth c mn f md i ks) σ H Q) : tVar i σ H fun x H1 => ∃ a dx fs, x = .ref a ∧ H1 a = some (.ins (He.ga K c) dx fs) ∧ fs.lookup mn = none ∧
    tAX K E ks σ H1 fun vs H2 => spF K md f (x :: vs) H2 Q E := by
  obtain ⟨Z, O, ρ, F, rl, n, h⟩ := h
  unfold mMeth at h
  cases hi : ρ[i]? with
  | none => rw [hi] at h; exact h.elim
  | some y =>
    cases y with
    | none => rw [hi] at h; exact h.elim
    | some r =>
      obtain ⟨s, d⟩ := r
      rw [hi] at h
      simp only at h
      cases eo : unO c d with
      | none => rw [eo] at h; exact h.elim
      | some es =>
        rw [eo] at h
        simp only at h
        by_cases cc : lkD (.inr mn) es = none
        · rw [if_pos cc] at h
          have ed := unO_some eo
          subst ed
          obtain ⟨v, hv, G, q⟩ := rl.sl.get hi
          replace q : RepR K Z O H v ⟨s, objD c es⟩ G := by
            rcases q with q | ⟨_, _, _, _, _, e2, _⟩
            · exact q
            · cases e2
          have lk := q.look rl.g
          obtain ⟨a, dx, fs, ev, ha, hk, hr⟩ := lk.obj_inv
          refine ⟨v, hv, a, dx, fs, ev, ha, lkF_none hk cc, Z, O, ρ, F, rl, ?_⟩
          unfold mCall evx at h
          rw [hi] at h
          simp only at h
          cases e : evx ks ρ with
          | bad => rw [e] at h; exact h.elim
          | exc c fs =>
            rw [e] at h
            exact fun H' Z' O' d xs x g q a b => h H' Z' O' F d xs (rl.ext x g) (TrS.ext x) q a b
          | ok rs =>
            rw [e] at h
            simp only [Res.bind_ok] at h
            intro vs H1 Z1 O1 Gt x1 g1 q nd fr
            cases ea : xargs i md (.n i ⟨s, objD c es⟩ :: rs) with
            | none => rw [ea] at h; exact h.elim
            | some ds =>
              rw [ea] at h
              simp only at h
              by_cases c2 : isOB s = true ∧ Oz.nm md = 1
              · rw [if_pos c2] at h
                refine spF_call (rs := .n i ⟨s, objD c es⟩ :: rs) (rl.ext x1 g1) n (fun j r m => ?_) (.n hv q) (fun a ha z => by
                  obtain ⟨o, w, _⟩ := rl.sl.live a z
                  rw [(fr a ha).1] at w
                  cases w) ea hi c2.1 c2.2 (MRK.from h (TrS.ext x1))
                rcases List.mem_cons.mp m with m | m
                · cases m; exact hi
                · exact evx_names e j r m
              · rw [if_neg c2] at h; exact h.elim
        · rw [if_neg cc] at h; exact h.elim
theorem pMeth_ok {c mn : Str} {f : Fn} {md : List Md} {p : Px} {ps : List Px} (h : tP K E (pMeth c mn f md p ps) σ H Q) : tP K E p σ H fun x H1 => ∃ a dx fs, x = .ref a ∧ H1 a = some (.ins (He.ga K c) dx fs) ∧ fs.lookup mn = none ∧
    tA K E ps σ H1 fun vs H2 => spF K md f (x :: vs) H2 Q E := by
  refine tP_bind (k := fun r ρ => match unO c r.d with
    | some es => if lkD (.inr mn) es = none then ((evs ps ρ).bind fun rs => match pargs md (r :: rs) with
      | some ds => (match f ds with
        | .ok r [] => .ok r
        | .exc c fs [] => .exc c fs
        | _ => .bad)
      | none => .bad) else .bad
    | none => .bad) h fun Z O H1 Z1 O1 ρ F G v r rl x1 r1 q1 nd fr h2 => ?_
  cases eo : unO c r.d with
  | none => simp only [eo] at h2; exact h2.elim
  | some es =>
    simp only [eo] at h2
    by_cases cc : lkD (.inr mn) es = none
    · rw [if_pos cc] at h2
      have lk := q1.look r1.g
      rw [unO_some eo] at lk
      obtain ⟨a, dx, fs, ev, ha, hk, hr⟩ := lk.obj_inv
      refine ⟨a, dx, fs, ev, ha, lkF_none hk cc, Z1, O1, ρ, F, r1, ?_⟩
      cases e : evs ps ρ with
      | bad => rw [e] at h2; exact h2.elim
      | exc c fs => rw [e] at h2; exact ExcK.ext h2 x1
      | ok rs =>
        rw [e] at h2
        simp only [Res.bind_ok] at h2
        intro vs H2 Z2 O2 G2 x2 g2 q2 nd2 fr2
        refine call_ok (W := G ++ G2) g2 (r1.tb.ext x2.h) (.cons (q1.ext x2) q2) (ResK.ext h2 (x1.trans0 x2) fun a ha => ?_)
        rcases List.mem_append.mp ha with ha | ha
        · exact (fr a ha).1
        · exact x1.h.free (fr2 a ha).1
    · rw [if_neg cc] at h2; exact h2.elim
end
section
variable {X : Cx} {E : XK} {CX : CXT} {k k' : Nat} {ps : List Str} {md : List Md} {g : Fn} {c m x : Str} {p pos apos : Pos} {e o : Expr} {es : List Expr} {ks : List Ax} {qs : List Px} {q : Px} {i : Nat}
theorem s_mmeth {pl : Sem Bool} (i : Nat) (cal : CalM CX X.prog X.w X.K X.mg X.base k c m ps md g) (hr : Room k' X.A) (hx : Passes CX X E) (ha : PA X (e :: es) (tAX X.K E ks)) (hN : X.N[i]? = some x := by rfl) (hk : k ≤ k' := by decide) (hv : Vis X.env.scope x := by first | exact Or.inl rfl | exact Or.inr (Or.inl rfl) | exact Or.inr (Or.inr rfl)) (hd : (x == ("__debug__" : Str)) = false := by decide)
    (hcd : (x == ("__classdict__" : Str)) = false := by decide)
    (hst : starEach (e :: es) X.env = (false, eval e X.env) :: starEach es X.env := by rfl) (hpl : (backTo pos (starEach es X.env)).any (·.1) = false := by rfl)
    (ht : eval (.Call (.Attribute (.Name x p) m apos) (e :: es) [] pos) X.env = (do
      let ov ← eval (.Name x p) X.env
      standAt apos.atName
      let (f, first) ← holding [ov] (getMethod ov m pl)
      callWith pos f first (backTo pos (starEach (e :: es) X.env)) (backToKw pos (keywordEach [] X.env))) := by rfl) :
    PE X (.Call (.Attribute (.Name x p) m apos) (e :: es) [] pos) (tM X.K E (mMeth c m g md i ks)) := by
  obtain ⟨f, fd, F, b, hm⟩ := cal.ex
  refine (pe_meth (pe_var hN hv hd hcd) cal.cl hm F (hr.mono hk) b .nil hx ha hst hpl ht).imp fun σ H Q h => ?_
  obtain ⟨v, hv, a, dx, fs, ev, ha, hl, h2⟩ := mMeth_ok h
  refine ⟨v, hv, a, dx, fs, ev, ha, hl, ?_⟩
  have e2 : (fun (vs : List V) (H2 : Hp) => spF X.K md g (v :: (vs ++ [])) H2 Q E) = fun vs H2 => spF X.K md g (v :: vs) H2 Q E := by
    funext vs H2
    rw [List.append_nil]
  rw [e2]
  exact h2
theorem s_meth {pl : Sem Bool} (cal : CalM CX X.prog X.w X.K X.mg X.base k c m ps md g) (hr : Room k' X.A) (hx : Passes CX X E) (ho : PE X o (tP X.K E q)) (ha : PA X (e :: es) (tA X.K E qs)) (hk : k ≤ k' := by decide)
    (hst : starEach (e :: es) X.env = (false, eval e X.env) :: starEach es X.env := by rfl) (hpl : (backTo pos (starEach es X.env)).any (·.1) = false := by rfl)
    (ht : eval (.Call (.Attribute o m apos) (e :: es) [] pos) X.env = (do
      let ov ← eval o X.env
      standAt apos.atName
      let (f, first) ← holding [ov] (getMethod ov m pl)
      callWith pos f first (backTo pos (starEach (e :: es) X.env)) (backToKw pos (keywordEach [] X.env))) := by rfl) :
    PE X (.Call (.Attribute o m apos) (e :: es) [] pos) (tP X.K E (pMeth c m g md q qs)) := by
  obtain ⟨f, fd, F, b, hm⟩ := cal.ex
  refine (pe_meth ho cal.cl hm F (hr.mono hk) b .nil hx ha hst hpl ht).imp fun σ H Q h => ?_
  have h2 := pMeth_ok h
  obtain ⟨Z, O, ρ, F, rl, h2⟩ := h2
  refine ⟨Z, O, ρ, F, rl, ?_⟩
  cases e : q ρ with
  | bad => rw [e] at h2; exact h2
  | exc c fs => rw [e] at h2; exact h2
  | ok r =>
    rw [e] at h2
    intro v H' Z' O' G a1 a2 a3 a4 a5
    obtain ⟨a, dx, fs, ev, ha, hl, h3⟩ := h2 v H' Z' O' G a1 a2 a3 a4 a5
    refine ⟨a, dx, fs, ev, ha, hl, ?_⟩
    have e2 : (fun (vs : List V) (H2 : Hp) => spF X.K md g (v :: (vs ++ [])) H2 Q E) = fun vs H2 => spF X.K md g (v :: vs) H2 Q E := by
      funext vs H2
      rw [List.append_nil]
    rw [e2]
    exact h3
end
/-! ### a new object -/
structure CalI (CX : CXT) (P : Program) (w : World) (K : PySem.W.Frag) (mg : Str → Option Value) (base : Heap) (k : Nat) (c : Str) (ps : List Str) (md : List Md) (g : Fn) : Prop where
  hm : mg c = some (.ref (He.ga K c))
  ex : ∃ f fd, FnOk P w K mg base CX k f fd ps (spF K (.m :: md) g) ∧ Binds K fd ps [] ∧ Mk K (He.ga K c) f
theorem calI_of {CX : CXT} {P : Program} {w : World} {K : PySem.W.Frag} {mg : Str → Option Value} {base : Heap} {c x qual : Str} {params : Arguments} {body : List Stmt} {scope : Scope} {ps : List Str} {k : Nat} {md : List Md} {m : Fn}
    (hm : mg c = some (.ref (He.ga K c))) (T : ∃ f fd, FunD K x qual params body scope [] [] f fd ∧ Mk K (He.ga K c) f)
    (hb : ∀ (kV doc pm : Value) (an : Option Addr) (cdv ct : Value) (us : List Value), us.length = ps.length → bindArgs (PySem.W.fnOf x qual params body scope .none kV doc pm an cdv ct) ⟨us, []⟩ = pure (ps.zip us))
    (B : ∀ f fd, FunD K x qual params body scope [] [] f fd → FnOk P w K mg base CX k f fd ps (spF K (.m :: md) m)) :
    CalI CX P w K mg base k c ps md m := by
  obtain ⟨f, fd, F, hm2⟩ := T
  exact ⟨hm, f, fd, B f fd F, F.bindsN hb, hm2⟩
def mkR (c : Str) (g : Fn) (md : List Md) (rs : List R) : Res R := match pargs md rs with
  | some ds => (match g (objD c [] :: ds) with
    | .ok ⟨.imm, .none⟩ [d'] => .ok ⟨.own, d'⟩
    | .exc c fs [_] => .exc c fs
    | _ => .bad)
  | none => .bad
def pMake (c : Str) (g : Fn) (md : List Md) (ps : List Px) : Px := fun ρ => (evs ps ρ).bind fun rs => mkR c g md rs
section
variable {K : PySem.W.Frag} {E : XK} {Z O H : Hp} {Q : VK} {W : List Addr}
theorem args_own {H0 H H' : Hp} : ∀ {md : List Md} {vs : List V} {ds : List D}, Args K Z H0 H md vs ds [] → nm md = 0 → Args K Z H0 H' md vs ds []
  | [], _, _, .nil, _ => .nil
  | .i :: md, _, _, .i r s, n => .i r (args_own s n)
  | .v :: md, _, _, .v r s, n => .v r (args_own s n)
  | .m :: md, _, _, a, n => by simp [Oz.nm] at n
theorem pargs_nm : ∀ {md : List Md} {rs : List R} {ds : List D}, pargs md rs = some ds → nm md = 0
  | [], [], _, _ => rfl
  | .i :: md, r :: rs, ds, e => by
    unfold pargs at e
    cases h1 : frzR r with
    | none => rw [h1] at e; cases e
    | some d =>
      rw [h1] at e
      cases h2 : pargs md rs with
      | none => rw [h2] at e; cases e
      | some ds' => exact pargs_nm (md := md) h2
  | .v :: md, r :: rs, ds, e => by
    unfold pargs at e
    cases h2 : pargs md rs with
    | none => rw [h2] at e; cases e
    | some ds' => exact pargs_nm (md := md) h2
  | [], _ :: _, _, e => by cases e
  | .m :: _, _, _, e => by cases e
  | .i :: _, [], _, e => by cases e
  | .v :: _, [], _, e => by cases e
theorem make_ok {c : Str} {md : List Md} {g : Fn} {rs : List R} {vs : List V} {G : List Addr} (gd : Good Z O H) (tb : Tabs K H) (q : RepRs K Z O H vs rs G) (h : ResK K E W Z O H (mkR c g md rs) Q) (x dx : Addr) (hx : H x = none) (hdx : H dx = none) (ne : dx ≠ x) :
    spF K (.m :: md) g (.ref x :: vs) (upd (upd H dx (.own x)) x (.ins (He.ga K c) dx [])) (fun v H2 => v = .non ∧ Q (.ref x) H2) E := by
  generalize hH2 : upd (upd H dx (.own x)) x (.ins (He.ga K c) dx []) = H2
  have e1 : H2 x = some (.ins (He.ga K c) dx []) := by rw [← hH2]; exact upd_same
  have e2 : H2 dx = some (.own x) := by rw [← hH2, upd_ne ne]; exact upd_same
  have sm : Same H H2 := fun a o z => by
    rw [← hH2, upd_ne (fun w => by rw [w, hx] at z; cases z), upd_ne (fun w => by rw [w, hdx] at z; cases z)]
    exact z
  have back : ∀ a o, H2 a = some o → a ≠ x → a ≠ dx → H a = some o := fun a o z n1 n2 => by rw [← hH2, upd_ne n1, upd_ne n2] at z; exact z
  have sw : SameN H (without H2 [x, dx]) := fun a o z nn => by
    unfold without
    rw [if_neg (fun m => by
      rcases List.mem_cons.mp m with m | m
      · rw [m, hx] at z; cases z
      · simp at m; rw [m, hdx] at z; cases z), sm a o z]
    exact noTb_of nn
  unfold mkR at h
  cases ea : pargs md rs with
  | none => rw [ea] at h; exact h.elim
  | some ds =>
    rw [ea] at h
    simp only at h
    obtain ⟨i1, i2, i3, i4⟩ := pargs_ok gd q ea
    have n0 := pargs_nm ea
    have ar : Args K Z (without H2 [x, dx]) H2 (.m :: md) (.ref x :: vs) (objD c [] :: ds) ([x, dx] ++ []) := .m (.obj e1 e2 rfl rfl .nil) (args_own (Args.monoV sw i1) n0)
    rw [List.append_nil] at ar
    refine ⟨congrArg (· + 1) i2, Z, objD c [] :: ds, [x, dx], gd.zh.trans sm, gd.ntz, tb.ext (toT sm), fun a o z f => ?_, ar, by simp [ne.symm], fun a ha => ?_, ?_⟩
    · by_cases n1 : a = x
      · rw [n1, e1] at z; cases z; cases f
      · by_cases n2 : a = dx
        · rw [n2, e2] at z; cases z; cases f
        · exact gd.tz a o (back a o z n1 n2) f
    · rcases List.mem_cons.mp ha with m | m
      · rw [m]; exact none_of gd.zh hx
      · simp at m; rw [m]; exact none_of gd.zh hdx
    · have newF : ∀ {Z' H' : Hp} {Fm G' : List Addr} {ms : List D}, After K (.m :: md) (.ref x :: vs) Z H2 [x, dx] ms Z' H' Fm G' → Ext [] Z O H Z' (oNew O Z') H' ∧ Good Z' (oNew O Z') H' ∧ (∀ a ∈ Fm ++ G', H a = none ∧ oNew O Z' a = none) := fun {Z' H' Fm G' ms} A => by
        have fx : ∀ a, H2 a = none → H a = none := fun a z => sm.free z
        have inn : ∀ a ∈ [x, dx], H a = none := fun a ha => by
          rcases List.mem_cons.mp ha with m | m
          · rw [m]; exact hx
          · simp at m; rw [m]; exact hdx
        have sH : SameT H H' := ⟨fun a o z n => A.tr.keep a o (sm a o z) (fun m => by rw [inn a m] at z; cases z) n, fun a z => (A.tr.fr a z).elim (inn a) (fx a), fun a z => A.tr.tab a (fun m => tabG_ne z (inn a m)) ((toT sm).tab a z)⟩
        have zn : ∀ a, Z' a ≠ none → Z a ≠ none ∨ H a = none := fun a z => (A.tr.zn a z).imp id fun y => y.elim (inn a) (fx a)
        have fn : ∀ a ∈ Fm ++ G', H a = none := fun a ha => (A.tr.fn a ha).elim (inn a) (fx a)
        refine ⟨⟨sH, A.tr.z, oNew_same, fun a z => (zn a z).imp id .inl, fun a z => ?_⟩, oNew_good (gd.ohT sH) A.zh A.tz gd.nt A.nt, fun a ha => ⟨fn a ha, outer_none (none_of gd.oh (fn a ha)) (A.zf a ha)⟩⟩
        cases w : O a with
        | some o => exact .inl (by simp)
        | none =>
          rw [oNew_none w] at z
          rcases zn a z with y | y
          · exact absurd (gd.zo.free w) y
          · exact .inr (.inl y)
      cases ef : g (objD c [] :: ds) with
      | bad => rw [ef] at h; exact h.elim
      | ok r ms =>
        rw [ef] at h
        obtain ⟨s, d⟩ := r
        have h3 : s = .imm ∧ d = .none ∧ ∃ d', ms = [d'] ∧ OkK K W Z O H ⟨.own, d'⟩ Q := by
          cases s with
          | imm =>
            cases d with
            | none =>
              match ms, h with
              | [], h => exact h.elim
              | _ :: _ :: _, h => exact h.elim
              | [d'], h => exact ⟨rfl, rfl, d', rfl, h⟩
            | _ => exact h.elim
          | _ => exact h.elim
        obtain ⟨rfl, rfl, d', rfl, h4⟩ := h3
        intro v H' Z' Fm G' A t rr
        obtain ⟨x1, g1, f1⟩ := newF A
        obtain ⟨rr, _⟩ := rr
        cases rr
        refine ⟨rfl, ?_⟩
        cases A with
        | mk tr zh tz nd zf nt tb outs =>
          cases outs with
          | m o1 o2 =>
            have o3 := i3 _ _ _ _ o2
            obtain ⟨rfl, _⟩ := o3
            rw [List.append_nil] at nd f1
            exact h4 (.ref x) H' Z' (oNew O Z') _ (x1.mono fun a ha => by cases ha) g1 o1 (List.nodup_append.mp nd).1 fun a ha => ⟨.inl (f1 a (List.mem_append_left _ ha)).1, (f1 a (List.mem_append_left _ ha)).2⟩
      | exc c2 fs ms =>
        rw [ef] at h
        match ms, h with
        | [], h => exact h.elim
        | _ :: _ :: _, h => exact h.elim
        | [d'], h =>
          intro H' Z' Fm d0 xs A hd ek rk
          obtain ⟨x1, g1, f1⟩ := newF A
          exact h H' Z' (oNew O Z') d0 xs x1 g1 hd ek rk
end
section
variable {X : Cx} {E : XK} {CX : CXT} {k k' : Nat} {ps : List Str} {md : List Md} {g : Fn} {c : Str} {p pos : Pos} {e : Expr} {es : List Expr} {qs : List Px}
theorem s_make (cal : CalI CX X.prog X.w X.K X.mg X.base k c ps md g) (hr : Room k' X.A) (hx : Passes CX X E) (ha : PA X (e :: es) (tA X.K E qs)) (hg : Gl X c := by rfl) (hk : k + 1 ≤ k' := by decide)
    (hdb : (c == ("__debug__" : Str)) = false := by decide) (he : starEach (e :: es) X.env = (false, eval e X.env) :: starEach es X.env := by rfl) (hpl : (backTo pos (starEach es X.env)).any (·.1) = false := by rfl) :
    PE X (.Call (.Name c p) (e :: es) [] pos) (tP X.K E (pMake c g md qs)) := by
  obtain ⟨f, fd, F, b, M⟩ := cal.ex
  refine (pe_make M F (hr.mono hk) hg cal.hm b .nil hx ha hdb he hpl).imp fun σ H Q h => ?_
  refine tA_bind h fun Z O H1 G vs rs gd q nd fo h2 tb => ?_
  intro x dx h3 h4 ne
  rw [List.append_nil]
  exact make_ok gd tb q h2 x dx h3 h4 ne
end
end Oz

namespace Oz
open PySem PySem.Spec L2
open PyProof.Rows hiding St
variable [WD]

/-! ### constants of the module -/
section
variable {X : Cx} {E : XK} {x : Str} {pos : Pos}
theorem s_globT {a : Addr} {d : D} (t : ∀ C, Rep X.K C (.ref a) d) (hm : X.mg x = some (.ref a)) (hg : Gl X x := by rfl) (hd : (x == ("__debug__" : Str)) = false := by decide) : PE X (.Name x pos) (tP X.K E (pC d)) := s_glob (v := .ref a) hg hm (show RelV (.ref a) (.ref a) from rfl) t hd
theorem s_globI {i : Int} (hm : ∃ t, X.mg x = some (.int i t)) (hg : Gl X x := by rfl) (hd : (x == ("__debug__" : Str)) = false := by decide) : PE X (.Name x pos) (tP X.K E (pC (.int i))) := by
  obtain ⟨t, hm⟩ := hm
  exact s_glob (v := .int i) hg hm ⟨t, rfl⟩ (fun C => .int i) hd
end
def dvD : He.Dv → Option D
  | .int i => some (.int i)
  | .str x => some (.str x)
  | .bl b => some (.bool b)
  | .non => some .none
  | _ => none
theorem dvs_rep {K : PySem.W.Frag} {C : Hp} : ∀ {vs : List He.Dv} {ds : List D}, vs.map dvD = ds.map some → Reps K C (vs.map (He.Dv.v K)) ds
  | [], [], _ => .nil
  | v :: vs, d :: ds, h => by
    simp only [List.map_cons, List.cons.injEq] at h
    refine .cons ?_ (dvs_rep h.2)
    have h1 := h.1
    cases v with
    | int i => cases h1; exact .int i
    | str x => cases h1; exact .str x
    | bl b => cases h1; exact .bl b
    | non => cases h1; exact .non
    | _ => cases h1
  | [], _ :: _, h => by simp at h
  | _ :: _, [], h => by simp at h
theorem tup_glob {K : PySem.W.Frag} {x : Str} {vs : List He.Dv} {ds : List D} (h : He.tupB K x vs = true) (e : vs.map dvD = ds.map some := by rfl) (C : Hp) : Rep K C (.ref (He.ga K x)) (.tuple ds) := .tup (He.tupB_ok h C) (dvs_rep e)

/-! ### slices -/
def cutD (ds : List D) (lo hi : Option Int) : List D := (ds.drop (HT.sIx ds.length 0 lo)).take (HT.sIx ds.length ds.length hi - HT.sIx ds.length 0 lo)
def evO : Option Px → Ev → Res (Option Int)
  | none, _ => .ok none
  | some p, ρ => (p ρ).bind fun r => match r.d with
    | .int i => .ok (some i)
    | _ => .bad
def cutR (r : R) (lo hi : Option Int) : Res R := match r.d with
  | .list ds => dnew r.s (cutD ds lo hi)
  | .tuple ds => tnew r.s (cutD ds lo hi)
  | _ => .bad
def pSl (p : Px) (lo hi : Option Px) : Px := fun ρ => (p ρ).bind fun r => (evO lo ρ).bind fun l => (evO hi ρ).bind fun u => cutR r l u
section
variable {K : PySem.W.Frag} {E : XK} {Z O H Z1 O1 H1 : Hp} {σ : St} {ρ : Ev} {F : List Addr} {Q : VK}
end
section
variable {X : Cx} {E : XK} {e a b : Expr} {p q r : Px} {pos p2 : Pos}
end
/-! ### a list repeated -/
noncomputable def mulR (a b : R) : Res R := match a.d, b.d with
  | .int i, .int j => at2 fMul ⟨.imm, .int i⟩ ⟨.imm, .int j⟩
  | .list ds, .int k => if gd (decide (-(2 ^ 63) ≤ k ∧ k < 2 ^ 63)) = true ∧ ds.length * k.toNat ≤ sizeLine ∧ isOB a.s = true then dnew .view (List.replicate k.toNat ds).flatten else .bad
  | _, _ => .bad
theorem Reps.rep {K : PySem.W.Frag} {C : Hp} {vs : List V} {ds : List D} (h : Reps K C vs ds) : ∀ n : Nat, Reps K C (List.replicate n vs).flatten (List.replicate n ds).flatten
  | 0 => .nil
  | n + 1 => by
    rw [List.replicate_succ, List.replicate_succ, List.flatten_cons, List.flatten_cons]
    exact h.append (h.rep n)
theorem o_mul2 {K : PySem.W.Frag} : Op2 K (fun x y H Q => rI CMul (fun i j => .int (i * j)) x y H Q ∨ rRep x y H Q) mulR := by
  intro E Z O H x y a b F G Q g ra rb nd fo q
  obtain ⟨s, da⟩ := a
  obtain ⟨t, db⟩ := b
  have la := ra.look g
  have lb := rb.look g
  cases da with
  | int i => cases db with
    | int j =>
      cases la
      cases lb
      exact .inl (o_mul E Z O H _ _ ⟨.imm, .int i⟩ ⟨.imm, .int j⟩ [] [] Q g ⟨.int i, rfl⟩ ⟨.int j, rfl⟩ List.nodup_nil (fun c hc => by cases hc) (by
        have q2 : ResK K E (F ++ G) Z O H (at2 fMul ⟨.imm, .int i⟩ ⟨.imm, .int j⟩) Q := q
        unfold at2 at q2 ⊢
        cases e : fMul (PyData.int i) (PyData.int j) with
        | none => simp only [e] at q2; exact q2.elim
        | some d =>
          simp only [e] at q2 ⊢
          exact fun v H' Z' O' G' x g' r n f => q2 v H' Z' O' G' (x.mono fun c hc => by cases hc) g' r n fun c hc => ⟨.inl ((f c hc).1.elim id fun z => by cases z), (f c hc).2⟩))
    | _ => exact q.elim
  | list ds => cases db with
    | int k =>
      have q2 : ResK K E (F ++ G) Z O H (if gd (decide (-(2 ^ 63) ≤ k ∧ k < 2 ^ 63)) = true ∧ ds.length * k.toNat ≤ sizeLine ∧ isOB s = true then dnew .view (List.replicate k.toNat ds).flatten else .bad) Q := q
      by_cases c : gd (decide (-(2 ^ 63) ≤ k ∧ k < 2 ^ 63)) = true ∧ ds.length * k.toNat ≤ sizeLine ∧ isOB s = true
      · rw [if_pos c] at q2
        obtain ⟨c1, c2, c3⟩ := c
        have c4 := of_decide_eq_true (gd_el c1)
        cases lb
        cases la with
        | lst ha rv =>
          exact .inr ⟨_, k, _, rfl, rfl, ha, c4.1, c4.2, by rw [rv.length]; exact c2, fun p np => dnew_ok (s := .view) g q2 (rv.rep _) (fun es => by cases es) np⟩
      · rw [if_neg c] at q2; exact q2.elim
    | _ => exact q.elim
  | _ => cases db <;> exact q.elim
theorem op_mul2 {X : Cx} : OpR X (binaryOp .Mult) (fun x y H Q => rI CMul (fun i j => .int (i * j)) x y H Q ∨ rRep x y H Q) := OpR.or op_mul op_rep
/-! ### the head's Hook, with a check of one's own -/
noncomputable section
end
end Oz

namespace Oz
open PySem PySem.Spec L2
open PyProof.Rows hiding St
variable [WD]

/-! ### what one owns lasts from now on -/
def frzE (i : Nat) (ρ : Ev) : Ev := match ρ[i]? with
  | some (some ⟨.own, d⟩) => ρ.set i (some ⟨.imm, d⟩)
  | _ => ρ
def sFrz (i : Nat) (s : Stx) : Stx := fun ρ => s (frzE i ρ)
section
variable {K : PySem.W.Frag} {Z O H : Hp} {σ : St} {ρ : Ev} {F : List Addr}
theorem frz_ok (rl : Rel K Z O H σ ρ F) (n : nov ρ = true) (i : Nat) : ∃ Z' O' F', Rel K Z' O' H σ (frzE i ρ) F' ∧ nov (frzE i ρ) = true ∧ TrS Z O H σ ρ F Z' O' H σ (frzE i ρ) F' := by
  have same : ∃ Z' O' F', Rel K Z' O' H σ ρ F' ∧ nov ρ = true ∧ TrS Z O H σ ρ F Z' O' H σ ρ F' := ⟨Z, O, F, rl, n, TrS.refl _ _ _ _ _ _⟩
  unfold frzE
  cases e : ρ[i]? with
  | none => exact same
  | some y =>
    cases y with
    | none => exact same
    | some r =>
      obtain ⟨s, d⟩ := r
      cases s with
      | own =>
        obtain ⟨hl, _⟩ := List.getElem?_eq_some_iff.mp e
        obtain ⟨x, y, F1, G, F2, h1, h2, h3, h4, h5⟩ := rl.sl.focus hl
        rw [e] at h2
        cases h2
        cases x with
        | none => exact h4.elim
        | some v =>
          have ow : Own K Z H v d G := RepS.rep h4 nofun
          have nF := rl.nd
          rw [h3] at nF
          obtain ⟨n1, n2, n3⟩ := List.nodup_append.mp nF
          obtain ⟨n4, n5, n6⟩ := List.nodup_append.mp n2
          have inF : ∀ a ∈ G, a ∈ F := fun a ha => by rw [h3]; simp [ha]
          have oG : ∀ a ∈ G, O a = none := fun a ha => rl.fo a (inF a ha)
          have zG : ∀ a ∈ G, Z a = none := fun a ha => rl.g.zo.free (oG a ha)
          let Z' : Hp := fun a => if a ∈ G then H a else Z a
          let O' : Hp := fun a => if a ∈ G then H a else O a
          have z1 : ∀ a, a ∈ G → Z' a = H a := fun a ha => if_pos ha
          have z0 : ∀ a, a ∉ G → Z' a = Z a := fun a ha => if_neg ha
          have o1 : ∀ a, a ∈ G → O' a = H a := fun a ha => if_pos ha
          have o0 : ∀ a, a ∉ G → O' a = O a := fun a ha => if_neg ha
          have zz : Same Z Z' := fun a o h => by
            rw [z0 a fun ha => by rw [zG a ha] at h; cases h]; exact h
          have oo : Same O O' := fun a o h => by
            rw [o0 a fun ha => by rw [oG a ha] at h; cases h]; exact h
          have gd : Good Z' O' H := by
            refine ⟨fun a o h => ?_, fun a o h => ?_, fun a o h f => zz a o (rl.g.tz a o h f), fun a ps h => ?_⟩
            rotate_right
            · by_cases ha : a ∈ G
              · rw [o1 a ha] at h; exact ow.ntb a ha ps h
              · rw [o0 a ha] at h; exact rl.g.nt a ps h
            · by_cases ha : a ∈ G
              · rw [z1 a ha] at h; rw [o1 a ha]; exact h
              · rw [z0 a ha] at h; rw [o0 a ha]; exact rl.g.zo a o h
            · by_cases ha : a ∈ G
              · rw [o1 a ha] at h; exact h
              · rw [o0 a ha] at h; exact rl.g.oh a o h
          have rp : Rep K Z' v d := Own.rep (Same.refl Z') (Own.mono zz (fun a ha o h _ => by rw [z1 a ha]; exact h) ow)
          have sl := h5 (some v) (some ⟨.imm, d⟩) [] Z' O' H zz oo (.inl fun _ _ q _ => q) (fun a _ o h _ => h) (.inl ⟨rp, rfl⟩)
          rw [set_same h1] at sl
          have sb : (F1 ++ ([] ++ F2)).Sublist F := by
            rw [h3, List.nil_append]
            exact List.Sublist.append (List.Sublist.refl _) (List.sublist_append_right _ _)
          have nG : ∀ a ∈ F1 ++ ([] ++ F2), a ∉ G := fun a ha z => by
            rcases List.mem_append.mp ha with ha | ha
            · exact n3 a ha a (List.mem_append_left _ z) rfl
            · exact n6 a z a (by simpa using ha) rfl
          refine ⟨Z', O', _, ⟨gd, rl.nd.sublist sb, fun a ha => by rw [o0 a (nG a ha)]; exact rl.fo a (sb.subset ha), sl, rl.tb⟩, nov_set n (fun d' e' => by cases e'), ⟨⟨zz, fun a o h _ _ => h, fun a h => ?_, fun a ha => .inl (sb.subset ha), fun a h => .inr h, fun a _ h => h⟩, oo, rfl, fun j dj hj => ⟨rfl, dj, ?_⟩, fun a h => ?_⟩⟩
          · by_cases ha : a ∈ G
            · exact .inr (.inl (inF a ha))
            · rw [z0 a ha] at h; exact .inl h
          · have ne : i ≠ j := fun z => by rw [z] at e; rw [e] at hj; cases hj
            rw [List.getElem?_set_ne ne]
            exact hj
          · by_cases ha : a ∈ G
            · exact .inr (.inl (inF a ha))
            · rw [o0 a ha] at h; exact .inl h
      | _ => exact same
end
theorem s_frz {X : Cx} {E : XK} {st : Stmt} {s : Stx} (i : Nat) (h : PS X st (tS X.K E s)) : PS X st (tS X.K E (sFrz i s)) := h.imp fun D σ H q => by
  obtain ⟨Z, O, ρ, F, rl, n, q⟩ := q
  obtain ⟨Z', O', F', rl', n', tr⟩ := frz_ok rl n i
  exact ⟨Z', O', _, F', rl', n', SRK.from q tr⟩

/-! ### reckoning, continued -/
section
variable {ρ : Ev}
@[simp] theorem x_frz {i : Nat} {s : Stx} : sFrz i s ρ = s (frzE i ρ) := id rfl
@[simp] theorem x_frzE {i : Nat} : frzE i ρ = (match ρ[i]? with | some (some ⟨.own, d⟩) => ρ.set i (some ⟨.imm, d⟩) | _ => ρ) := id rfl
@[simp] theorem x_setI {l : Plx} {p q : Px} : sSetI l p q ρ = (match q ρ with
  | .bad => .bad
  | .exc c fs => .exc c fs ρ
  | .ok r => (match ownR r with
    | none => .bad
    | some d => (match l ρ with
      | .bad => .bad
      | .exc c fs => .exc c fs ρ
      | .ok l => (match p ρ with
        | .bad => .bad
        | .exc c fs => .exc c fs ρ
        | .ok i => (match l.d, i.d with
          | .list ds, .int k => (match ixN ds.length k with
            | some j => putE l (.list (ds.set j d)) ρ
            | none => .bad)
          | _, _ => .bad))))) := id rfl
@[simp] theorem x_put {l : Plx} {p q : Px} : sPut l p q ρ = (match q ρ with
  | .bad => .bad
  | .exc c fs => .exc c fs ρ
  | .ok r => (match ownR r with
    | none => .bad
    | some d => (match l ρ with
      | .bad => .bad
      | .exc c fs => .exc c fs ρ
      | .ok l => (match p ρ with
        | .bad => .bad
        | .exc c fs => .exc c fs ρ
        | .ok i => (match l.d, keyOf i.d with
          | .dict es, some k => if isDct es = true ∧ ukD k es = true ∧ es.length < sizeLine then putE l (.dict (ptD k d es)) ρ else .bad
          | _, _ => .bad))))) := id rfl
@[simp] theorem x_fldS {c f : Str} {l : Plx} {q : Px} : sFldS c f l q ρ = (match q ρ with
  | .bad => .bad
  | .exc c fs => .exc c fs ρ
  | .ok r => (match ownR r with
    | none => .bad
    | some d => (match l ρ with
      | .bad => .bad
      | .exc c fs => .exc c fs ρ
      | .ok l => (match unO c l.d with
        | some es => if es.length < 1000 then putE l (objD c (ptD (.inr f) d es)) ρ else .bad
        | none => .bad)))) := id rfl
@[simp] theorem x_plK {l : Plx} {p : Px} : plK l p ρ = ((l ρ).bind fun l => (p ρ).bind fun r => match l.d, keyOf r.d with
  | .dict es, some k => if isDct es = true ∧ ukD k es = true then (match lkD k es with
    | some d => .ok ⟨l.i, d, fun y => l.put (.dict (ptD k y es))⟩
    | none => .bad) else .bad
  | _, _ => .bad) := id rfl
@[simp] theorem x_plF {c f : Str} {l : Plx} : plF c f l ρ = ((l ρ).bind fun l => match unO c l.d with
  | some es => (match lkD (.inr f) es with
    | some d => .ok ⟨l.i, d, fun y => l.put (objD c (ptD (.inr f) y es))⟩
    | none => .bad)
  | none => .bad) := id rfl
@[simp] theorem x_fld {c f : Str} {p : Px} : pFld c f p ρ = ((p ρ).bind fun r => match unO c r.d with
  | some es => (match lkD (.inr f) es with
    | some d => .ok (sub r.s d)
    | none => .bad)
  | none => .bad) := id rfl
@[simp] theorem x_keyR {a b : R} : keyR a b = (match a.d, keyOf b.d with
  | .dict es, some k => if isDct es = true then (match lkD k es with
    | some d => .ok (sub a.s d)
    | none => .bad) else .bad
  | _, _ => .bad) := id rfl
@[simp] theorem x_unO {c : Str} {es : List (D × D)} : unO c (objD c es) = some es := by unfold unO objD; simp
@[simp] theorem lf_obj {c : Str} {es : List (D × D)} : lf (objD c es) = false := id rfl
@[simp] theorem x_mP {p : Px} : mP p ρ = (match p ρ with | .bad => .bad | .exc c fs => .exc c fs ρ | .ok r => .ret r ρ) := id rfl
@[simp] theorem x_mBind {s : Stx} {k : R → Stx} : mBind s k ρ = (match s ρ with | .ret r ρ' => k r ρ' | .exc c fs ρ' => .exc c fs ρ' | _ => .bad) := id rfl
@[simp] theorem x_mAnd {s t : Stx} : mAnd s t ρ = (match s ρ with | .ret r ρ' => (match truth r.d with | some true => t ρ' | some false => .ret r ρ' | none => .bad) | .exc c fs ρ' => .exc c fs ρ' | _ => .bad) := id rfl
@[simp] theorem x_mOr {s t : Stx} : mOr s t ρ = (match s ρ with | .ret r ρ' => (match truth r.d with | some true => .ret r ρ' | some false => t ρ' | none => .bad) | .exc c fs ρ' => .exc c fs ρ' | _ => .bad) := id rfl
@[simp] theorem x_mNot {s : Stx} : mNot s ρ = (match s ρ with | .ret r ρ' => (match truth r.d with | some b => .ret ⟨.imm, .bool (!b)⟩ ρ' | none => .bad) | .exc c fs ρ' => .exc c fs ρ' | _ => .bad) := id rfl
@[simp] theorem x_mTru {s : Stx} : mTru s ρ = (match s ρ with | .ret r ρ' => (match truth r.d with | some b => .ret ⟨.imm, .bool b⟩ ρ' | none => .bad) | .exc c fs ρ' => .exc c fs ρ' | _ => .bad) := id rfl
@[simp] theorem x_mTnot {s : Stx} : mTnot s ρ = (match s ρ with | .ret ⟨_, .bool b⟩ ρ' => .ret ⟨.imm, .bool (!b)⟩ ρ' | .exc c fs ρ' => .exc c fs ρ' | _ => .bad) := id rfl
@[simp] theorem x_mT {t : Tx} : mT t ρ = (match t ρ with | .bad => .bad | .exc c fs => .exc c fs ρ | .ok b => .ret ⟨.imm, .bool b⟩ ρ) := id rfl
@[simp] theorem x_mIfE {c s t : Stx} : mIfE c s t ρ = (match c ρ with | .ret ⟨_, .bool b⟩ ρ' => if b = true then s ρ' else t ρ' | .exc c fs ρ' => .exc c fs ρ' | _ => .bad) := id rfl
@[simp] theorem x_mIf {c s t : Stx} : mIf c s t ρ = (match c ρ with | .ret ⟨_, .bool b⟩ ρ' => if b = true then s ρ' else t ρ' | .exc c fs ρ' => .exc c fs ρ' | _ => .bad) := id rfl
@[simp] theorem x_mRet {s : Stx} : mRet s ρ = (match s ρ with | .ret r ρ' => if storable r = true then .ret r ρ' else .bad | .exc c fs ρ' => .exc c fs ρ' | _ => .bad) := id rfl
@[simp] theorem x_mAsg {i : Nat} {s : Stx} : mAsg i s ρ = (match s ρ with | .ret r ρ' => (match setS i r ρ' with | some ρ2 => .next ρ2 | none => .bad) | .exc c fs ρ' => .exc c fs ρ' | _ => .bad) := id rfl
@[simp] theorem x_mDrop {s : Stx} : mDrop s ρ = (match s ρ with | .ret _ ρ' => .next ρ' | .exc c fs ρ' => .exc c fs ρ' | _ => .bad) := id rfl
@[simp] theorem x_evx0 : evx [] ρ = .ok [] := id rfl
@[simp] theorem x_evxp {e : Px} {ks : List Ax} : evx (.p e :: ks) ρ = ((e ρ).bind fun r => if r.s = .view then .bad else (evx ks ρ).bind fun rs => .ok (.p r :: rs)) := id rfl
@[simp] theorem x_evxn {j : Nat} {ks : List Ax} : evx (.n j :: ks) ρ = (match ρ[j]? with | some (some r) => (evx ks ρ).bind fun rs => .ok (.n j r :: rs) | _ => .bad) := id rfl
@[simp] theorem x_mCall {f : Fn} {md : List Md} {i : Nat} {ks : List Ax} : mCall f md i ks ρ = (match evx ks ρ with
  | .bad => .bad
  | .exc c fs => .exc c fs ρ
  | .ok rs => (match xargs i md rs with
    | none => .bad
    | some ds => (match ρ[i]? with
      | some (some ⟨s, _⟩) => if isOB s = true ∧ nm md = 1 then mOut i s (f ds) ρ else .bad
      | _ => .bad))) := id rfl
@[simp] theorem x_mMeth {c mn : Str} {f : Fn} {md : List Md} {i : Nat} {ks : List Ax} : mMeth c mn f md i ks ρ = (match ρ[i]? with
  | some (some ⟨_, d⟩) => (match unO c d with
    | some es => if lkD (.inr mn) es = none then mCall f md i (.n i :: ks) ρ else .bad
    | none => .bad)
  | _ => .bad) := id rfl
@[simp] theorem x_mOut {i : Nat} {s : Sx} {r : R} {d' : D} : mOut i s (.ok r [d']) ρ = .ret r (ρ.set i (some ⟨s, d'⟩)) := id rfl
@[simp] theorem x_mOutX {i : Nat} {s : Sx} {c : Str} {fs : List (Str × D)} {d' : D} : mOut i s (.exc c fs [d']) ρ = .exc c fs (ρ.set i (some ⟨s, d'⟩)) := id rfl
@[simp] theorem xa_nil {i : Nat} : xargs i [] [] = some [] := id rfl
@[simp] theorem xa_m {i j : Nat} {md : List Md} {r : R} {rs : List AR} : xargs i (.m :: md) (.n j r :: rs) = if j = i then (xargs i md rs).map (r.d :: ·) else none := id rfl
@[simp] theorem xa_vp {i : Nat} {md : List Md} {r : R} {rs : List AR} : xargs i (.v :: md) (.p r :: rs) = (xargs i md rs).map (r.d :: ·) := id rfl
@[simp] theorem xa_vn {i j : Nat} {md : List Md} {r : R} {rs : List AR} : xargs i (.v :: md) (.n j r :: rs) = if j = i then none else if r.s = .tab then none else (xargs i md rs).map (r.d :: ·) := id rfl
@[simp] theorem nm0 : nm [] = 0 := id rfl
@[simp] theorem nmm {md : List Md} : nm (.m :: md) = nm md + 1 := id rfl
@[simp] theorem nmv {md : List Md} : nm (.v :: md) = nm md := id rfl
@[simp] theorem nmi {md : List Md} : nm (.i :: md) = nm md := id rfl
@[simp] theorem ob_own : isOB .own = true := id rfl
@[simp] theorem ob_brw : isOB .brw = true := id rfl
@[simp] theorem x_make {c : Str} {g : Fn} {md : List Md} {ps : List Px} : pMake c g md ps ρ = ((evs ps ρ).bind fun rs => match pargs md rs with
  | some ds => (match g (objD c [] :: ds) with
    | .ok ⟨.imm, .none⟩ [d'] => .ok ⟨.own, d'⟩
    | .exc c fs [_] => .exc c fs
    | _ => .bad)
  | none => .bad) := id rfl
@[simp] theorem x_neg {p : Px} : pNeg p ρ = ((p ρ).bind fun r => match r.d with | .int i => .ok ⟨.imm, .int (-i)⟩ | _ => .bad) := id rfl
@[simp] theorem x_sl {p : Px} {lo hi : Option Px} : pSl p lo hi ρ = ((p ρ).bind fun r => (evO lo ρ).bind fun l => (evO hi ρ).bind fun u => cutR r l u) := id rfl
@[simp] theorem x_evO0 : evO none ρ = .ok none := id rfl
@[simp] theorem x_evO1 {p : Px} : evO (some p) ρ = ((p ρ).bind fun r => match r.d with | .int i => .ok (some i) | _ => .bad) := id rfl
end
@[simp] theorem x_cutT {s : Sx} {ds : List D} {l u : Option Int} : cutR ⟨s, .tuple ds⟩ l u = tnew s (cutD ds l u) := id rfl
@[simp] theorem x_cutL {s : Sx} {ds : List D} {l u : Option Int} : cutR ⟨s, .list ds⟩ l u = dnew s (cutD ds l u) := id rfl
@[simp] theorem x_isN {b : D} : isF b .none = some (.bool (match b with | .none => true | _ => false)) := by cases b <;> rfl
@[simp] theorem x_isnN {b : D} : isnF b .none = some (.bool (match b with | .none => false | _ => true)) := by cases b <;> rfl
@[simp] theorem x_mul_ii {s t : Sx} {i j : Int} : mulR ⟨s, .int i⟩ ⟨t, .int j⟩ = (match fMul (.int i) (.int j) with | some d => .ok ⟨.imm, d⟩ | none => .bad) := id rfl
@[simp] theorem keyOf_i {i : Int} : keyOf (.int i) = some (.inl i) := id rfl
@[simp] theorem keyOf_s {x : Str} : keyOf (.str x) = some (.inr x) := id rfl
@[simp] theorem lkD_nil {k : Key} : lkD k [] = none := id rfl
@[simp] theorem lkD_cons {k : Key} {a d : D} {r : List (D × D)} : lkD k ((a, d) :: r) = if keyOf a = some k then some d else lkD k r := id rfl
@[simp] theorem ptD_nil {k : Key} {d : D} : ptD k d [] = [(kd k, d)] := id rfl
@[simp] theorem ptD_cons {k : Key} {a x d : D} {r : List (D × D)} : ptD k d ((a, x) :: r) = if keyOf a = some k then (a, d) :: r else (a, x) :: ptD k d r := id rfl
@[simp] theorem kd_s {x : Str} : kd (.inr x) = .str x := id rfl
@[simp] theorem kd_i {x : Int} : kd (.inl x) = .int x := id rfl
end Oz

namespace Oz
open PySem PySem.Spec L2
open PyProof.Rows hiding St
variable [WD]

/-! ### slots that nobody reads any more -/
def mskE : List Bool → Ev → Ev
  | [], ρ => ρ
  | _ :: _, [] => []
  | true :: bs, x :: ρ => x :: mskE bs ρ
  | false :: bs, x :: ρ => (match x with
    | some ⟨.brw, d⟩ => some ⟨.brw, d⟩
    | _ => none) :: mskE bs ρ
section
variable {K : PySem.W.Frag} {E : XK} {Z O H Z1 O1 H1 : Hp} {σ σ1 : St} {ρ ρ1 : Ev} {F F1 : List Addr} {nx : St → Hp → Prop} {rt : VK}
theorem Slots.msk : ∀ (bs : List Bool) {σ : List (Option V)} {ρ : Ev} {F : List Addr}, Slots K Z O H σ ρ F → ∃ F', Slots K Z O H σ (mskE bs ρ) F' ∧ F'.Sublist F
  | [], _, _, F, s => ⟨F, s, List.Sublist.refl _⟩
  | _ :: _, _, _, _, .nil => ⟨[], .nil, List.Sublist.refl _⟩
  | true :: bs, _, _, F, .non s => by
    obtain ⟨F', h1, h2⟩ := Slots.msk bs s
    exact ⟨F', .non h1, h2⟩
  | true :: bs, _, _, _, .val r s => by
    obtain ⟨F', h1, h2⟩ := Slots.msk bs s
    exact ⟨_, .val r h1, List.Sublist.append (List.Sublist.refl _) h2⟩
  | false :: bs, _, _, F, .non s => by
    obtain ⟨F', h1, h2⟩ := Slots.msk bs s
    exact ⟨F', .non h1, h2⟩
  | false :: bs, _, _, _, .val (r := r) q s => by
    obtain ⟨F', h1, h2⟩ := Slots.msk bs s
    obtain ⟨s, d⟩ := r
    cases s with
    | brw => exact ⟨_, .val q h1, List.Sublist.append (List.Sublist.refl _) h2⟩
    | _ => exact ⟨F', .non h1, h2.trans (List.sublist_append_right _ _)⟩
theorem nov_msk : ∀ (bs : List Bool) {ρ : Ev}, nov ρ = true → nov (mskE bs ρ) = true
  | [], _, n => n
  | _ :: _, [], n => n
  | true :: bs, x :: ρ, n => by
    have n1 : (_ && nov ρ) = true := n
    obtain ⟨n2, n3⟩ := Bool.and_eq_true_iff.mp n1
    show (_ && nov (mskE bs ρ)) = true
    rw [nov_msk bs n3, Bool.and_true]
    exact n2
  | false :: bs, x :: ρ, n => by
    have n1 : (_ && nov ρ) = true := n
    obtain ⟨n2, n3⟩ := Bool.and_eq_true_iff.mp n1
    show (_ && nov (mskE bs ρ)) = true
    rw [nov_msk bs n3, Bool.and_true]
    cases x with
    | none => rfl
    | some r =>
      obtain ⟨s, d⟩ := r
      cases s <;> rfl
theorem msk_brw : ∀ (bs : List Bool) {ρ : Ev} {j : Nat} {d : D}, ρ[j]? = some (some (R.mk .brw d)) → (mskE bs ρ)[j]? = some (some (R.mk .brw d))
  | [], _, _, _, h => h
  | _ :: _, [], _, _, h => h
  | true :: bs, x :: ρ, 0, _, h => h
  | true :: bs, x :: ρ, j + 1, _, h => by
    have := msk_brw bs (ρ := ρ) (j := j) (by simpa using h)
    simpa [mskE] using this
  | false :: bs, x :: ρ, 0, _, h => by
    simp at h
    subst h
    rfl
  | false :: bs, x :: ρ, j + 1, _, h => by
    have := msk_brw bs (ρ := ρ) (j := j) (by simpa using h)
    simpa [mskE] using this
theorem Rel.msk (rl : Rel K Z O H σ ρ F) (bs : List Bool) : ∃ F', Rel K Z O H σ (mskE bs ρ) F' ∧ F'.Sublist F := by
  obtain ⟨F', h1, h2⟩ := rl.sl.msk bs
  exact ⟨F', ⟨rl.g, rl.nd.sublist h2, fun a ha => rl.fo a (h2.subset ha), h1, rl.tb⟩, h2⟩
theorem TrS.msk (t : TrS Z O H σ ρ F Z1 O1 H1 σ1 ρ1 F1) (bs : List Bool) {F' : List Addr} (h : F'.Sublist F1) : TrS Z O H σ ρ F Z1 O1 H1 σ1 (mskE bs ρ1) F' :=
  ⟨⟨t.tr.z, t.tr.keep, t.tr.zn, fun a ha => t.tr.fn a (h.subset ha), t.tr.fr, t.tr.tab⟩, t.o, t.len, fun j d hj => by
    obtain ⟨e, d', h'⟩ := t.brw j d hj
    exact ⟨e, d', msk_brw bs h'⟩, t.on⟩
def sEnd (ks rs : List Bool) (s : Stx) : Stx := fun ρ => match s ρ with
  | .bad => .bad
  | .next ρ' => .next (mskE ks ρ')
  | .ret r ρ' => .ret r (mskE rs ρ')
  | .exc c fs ρ' => .exc c fs (mskE rs ρ')
def sPre (ks : List Bool) (s : Stx) : Stx := fun ρ => s (mskE ks ρ)
theorem SRK.fin {r : SR} {ks rs : List Bool} (h : SRK K E Z O H σ ρ F nx rt (match r with
    | .bad => .bad
    | .next ρ' => .next (mskE ks ρ')
    | .ret r ρ' => .ret r (mskE rs ρ')
    | .exc c fs ρ' => .exc c fs (mskE rs ρ'))) : SRK K E Z O H σ ρ F nx rt r := by
  cases r with
  | bad => exact h
  | next ρ' =>
    intro σ' H' Z' O' F' q n u
    obtain ⟨F2, rl, sb⟩ := q.msk ks
    exact h σ' H' Z' O' F2 rl (nov_msk ks n) (u.msk ks sb)
  | ret r ρ' =>
    intro v σ' H' Z' O' F' G q w nd fo u u2
    obtain ⟨F2, rl, sb⟩ := q.msk rs
    have sb2 : (F2 ++ G).Sublist (F' ++ G) := List.Sublist.append sb (List.Sublist.refl _)
    exact h v σ' H' Z' O' F2 G rl w (nd.sublist sb2) fo ⟨u.z, u.keep, u.zn, fun a ha => u.fn a (sb2.subset ha), u.fr, u.tab⟩ (u2.msk rs sb)
  | exc c fs ρ' =>
    intro σ' H' Z' O' F' d xs q u hd e1 e2
    obtain ⟨F2, rl, sb⟩ := q.msk rs
    exact h σ' H' Z' O' F2 d xs rl (u.msk rs sb) hd e1 e2
theorem tS_end {s : Stx} {ks rs : List Bool} {D : Ends} (h : tS K E (sEnd ks rs s) D σ H) : tS K E s D σ H := by
  obtain ⟨Z, O, ρ, F, rl, n, h⟩ := h
  exact ⟨Z, O, ρ, F, rl, n, SRK.fin h⟩
theorem tS_pre {s : Stx} {ks : List Bool} {D : Ends} (h : tS K E (sPre ks s) D σ H) : tS K E s D σ H := by
  obtain ⟨Z, O, ρ, F, rl, n, h⟩ := h
  obtain ⟨F2, rl2, sb⟩ := rl.msk ks
  exact ⟨Z, O, _, F2, rl2, nov_msk ks n, SRK.from h ((TrS.refl Z O H σ ρ F).msk ks sb)⟩
end
section
variable {X : Cx} {E : XK} {st : Stmt} {ss : List Stmt} {s : Stx}
theorem s_end (ks rs : List Bool) (h : PS X st (tS X.K E s)) : PS X st (tS X.K E (sEnd ks rs s)) := h.imp fun _ _ _ q => tS_end q
theorem s_ends (ks rs : List Bool) (h : PSs X ss (tS X.K E s)) : PSs X ss (tS X.K E (sEnd ks rs s)) := h.imp fun _ _ _ q => tS_end q
theorem s_pre (ks : List Bool) (h : PS X st (tS X.K E s)) : PS X st (tS X.K E (sPre ks s)) := h.imp fun _ _ _ q => tS_pre q
end
@[simp] theorem mskE_nil {ρ : Ev} : mskE [] ρ = ρ := by cases ρ <;> rfl
@[simp] theorem mskE_nil2 {bs : List Bool} : mskE bs [] = [] := by cases bs <;> rfl
@[simp] theorem mskE_t {bs : List Bool} {x : Option R} {ρ : Ev} : mskE (true :: bs) (x :: ρ) = x :: mskE bs ρ := rfl
@[simp] theorem mskE_f0 {bs : List Bool} {ρ : Ev} : mskE (false :: bs) (none :: ρ) = none :: mskE bs ρ := rfl
@[simp] theorem mskE_fi {bs : List Bool} {d : D} {ρ : Ev} : mskE (false :: bs) (some ⟨.imm, d⟩ :: ρ) = none :: mskE bs ρ := rfl
@[simp] theorem mskE_fo {bs : List Bool} {d : D} {ρ : Ev} : mskE (false :: bs) (some ⟨.out, d⟩ :: ρ) = none :: mskE bs ρ := rfl
@[simp] theorem mskE_fw {bs : List Bool} {d : D} {ρ : Ev} : mskE (false :: bs) (some ⟨.own, d⟩ :: ρ) = none :: mskE bs ρ := rfl
@[simp] theorem mskE_fv {bs : List Bool} {d : D} {ρ : Ev} : mskE (false :: bs) (some ⟨.view, d⟩ :: ρ) = none :: mskE bs ρ := rfl
@[simp] theorem mskE_fb {bs : List Bool} {d : D} {ρ : Ev} : mskE (false :: bs) (some ⟨.brw, d⟩ :: ρ) = some ⟨.brw, d⟩ :: mskE bs ρ := rfl
section
variable {ρ : Ev}
@[simp] theorem x_end {ks rs : List Bool} {s : Stx} : sEnd ks rs s ρ = (match s ρ with
  | .bad => .bad
  | .next ρ' => .next (mskE ks ρ')
  | .ret r ρ' => .ret r (mskE rs ρ')
  | .exc c fs ρ' => .exc c fs (mskE rs ρ')) := id rfl
@[simp] theorem x_pre {ks : List Bool} {s : Stx} : sPre ks s ρ = s (mskE ks ρ) := id rfl
end
end Oz

namespace Oz
open PySem PySem.Spec L2
open PyProof.Rows hiding St
variable [WD]

/-! ### loops over frames of one shape -/
/-- one turn -/
def stp (g : Tgx) (b : Stx) (r : R) (ρ : Ev) : SR := match g r ρ with
  | none => .bad
  | some ρ1 => b ρ1
theorem x_stp {g : Tgx} {b : Stx} {r : R} {ρ : Ev} : stp g b r ρ = (match g r ρ with
  | none => .bad
  | some ρ1 => b ρ1) := rfl
/-- to the end: the frame is env of a state, the state keeps I of what was taken -/
theorem loop_st {α σ : Type} (env : σ → Ev) (I : List α → σ → Prop) {g : Tgx} {b : Stx} {item : α → R} (xs : List α) (s0 : σ) (h0 : I [] s0)
    (hs : ∀ pre x post s, xs = pre ++ x :: post → I pre s → ∃ s', stp g b (item x) (env s) = .next (env s') ∧ I (pre ++ [x]) s') :
    ∃ s', loopS g b (xs.map item) (env s0) = .next (env s') ∧ I xs s' := by
  obtain ⟨ρ', e, s', rfl, h⟩ := loop_inv (g := g) (b := b) (item := item) (xs := xs) (ρ := env s0) (fun pre ρ => ∃ s, ρ = env s ∧ I pre s) ⟨s0, rfl, h0⟩ (by
    rintro pre x post ρ hx ⟨s, rfl, hI⟩
    obtain ⟨s', e, h⟩ := hs pre x post s hx hI
    unfold stp at e
    cases q : g (item x) (env s) with
    | none => rw [q] at e; cases e
    | some ρ1 => rw [q] at e; exact ⟨ρ1, env s', rfl, e, s', rfl, h⟩)
  exact ⟨s', e, h⟩
/-- the place in a range -/
theorem pre_rng {n : Nat} {pre post : List Nat} {x : Nat} (h : List.range n = pre ++ x :: post) : x = pre.length ∧ pre.length < n := by
  have h1 := congrArg List.length h
  simp at h1
  have h2 := congrArg (fun l => l[pre.length]?) h
  simp at h2
  rw [List.getElem?_range (by omega)] at h2
  simp at h2
  exact ⟨h2.symm, by omega⟩
theorem inR_of {i : Int} (h0 : 0 ≤ i) (h : i < 1000000) : inR i = true := by
  have h1 : (-4611686018427387904 : Int) ≤ i := by omega
  have h2 : i < 4611686018427387904 := by omega
  rw [inR_eq]; simp [h1, h2]
@[simp] theorem both_ii : both .imm .imm = .imm := rfl
@[simp] theorem lfs_app {xs ys : List D} : lfs (xs ++ ys) = (lfs xs && lfs ys) := lfs_append xs ys
end Oz

namespace Oz
open PySem PySem.Spec L2
open PyProof.Rows hiding St
variable [WD]

/-! ### a second name for what stands at a key -/
open Classical in
noncomputable def ali (f : Nat → SR) : SR := if h : ∃ r, ∀ a, f a = r then Classical.choose h else .bad
theorem ali_eq {f : Nat → SR} {r : SR} (h : ∀ a, f a = r) : ali f = r := by
  have hx : ∃ r, ∀ a, f a = r := ⟨r, h⟩
  unfold ali
  rw [dif_pos hx]
  have := Classical.choose_spec hx 0
  rw [← this, h 0]
def isPtr (a : Nat) (o : Option D) : Bool := match o with
  | some (.dict [(.bool false, .int i)]) => decide (i = (a : Int))
  | _ => false
theorem isPtr_ok {a : Nat} {o : Option D} (h : isPtr a o = true) : o = some (ptrD a) := by
  unfold isPtr at h
  split at h
  · rw [of_decide_eq_true h]; rfl
  · cases h
@[simp] theorem isPtr_self {a : Nat} : isPtr a (some (ptrD a)) = true := by simp [isPtr, ptrD]
def backE (i j : Nat) (k : Str) (a : Nat) (ρ : Ev) : Option Ev := match ρ[i]?, ρ[j]? with
  | some (some ⟨s, .dict es⟩), some (some ⟨.brw, d⟩) => if (i ≠ j ∧ isOB s = true) ∧ isDct es = true ∧ ukD (.inr k) es = true ∧ isPtr a (lkD (.inr k) es) = true ∧ nov ρ = true then some ((ρ.set j none).set i (some ⟨s, .dict (ptD (.inr k) d es)⟩)) else none
  | _, _ => none
def backS (i j : Nat) (k : Str) (a : Nat) : SR → SR
  | .bad => .bad
  | .next ρ => (match backE i j k a ρ with
    | some ρ' => .next ρ'
    | none => .bad)
  | .ret r ρ => (match backE i j k a ρ with
    | some ρ' => .ret r ρ'
    | none => .bad)
  | .exc c fs ρ => (match backE i j k a ρ with
    | some ρ' => .exc c fs ρ'
    | none => .bad)
section
variable {K : PySem.W.Frag} {E : XK} {Z O H : Hp} {σ : St} {ρ ρ' : Ev} {F : List Addr} {i j : Nat} {k : Str} {a : Addr}
theorem Own.ptr_inv {v : V} {G : List Addr} (q : Own K Z H v (ptrD a) G) : v = .ref a ∧ G = [] := by
  unfold ptrD at q
  generalize hd : PyData.dict [(PyData.bool false, PyData.int (a : Nat))] = d at q
  cases q with
  | imm r p =>
    subst hd
    generalize hd2 : PyData.dict [(PyData.bool false, PyData.int (a : Nat))] = d2 at r
    cases r with
    | ptr b =>
      unfold ptrD at hd2
      simp only [PyData.dict.injEq, List.cons.injEq, Prod.mk.injEq, PyData.int.injEq, true_and, and_true] at hd2
      have : (a : Nat) = b := Int.ofNat_inj.mp hd2
      exact ⟨by rw [this], rfl⟩
    | scr h r => cases hd2
    | dct h e r =>
      cases hd2
      have m : PyData.bool false ∈ _ := e ▸ (List.mem_map.mpr ⟨_, List.mem_cons_self, rfl⟩)
      obtain ⟨p, _, hp⟩ := List.mem_map.mp m
      cases hk : p.1 <;> rw [hk] at hp <;> cases hp
    | obj h c e r => cases hd2
    | _ => cases hd2
  | lst h r => cases hd
  | dct h e r =>
    cases hd
    have m : PyData.bool false ∈ _ := e ▸ (List.mem_map.mpr ⟨_, List.mem_cons_self, rfl⟩)
    obtain ⟨p, _, hp⟩ := List.mem_map.mp m
    cases hk : p.1 <;> rw [hk] at hp <;> cases hp
  | obj h h2 ec e r => cases hd
theorem backE_some (h : backE i j k a ρ = some ρ') : ∃ s es d, ρ[i]? = some (some ⟨s, .dict es⟩) ∧ ρ[j]? = some (some ⟨.brw, d⟩) ∧ (i ≠ j ∧ isOB s = true) ∧ isDct es = true ∧ ukD (.inr k) es = true ∧ lkD (.inr k) es = some (ptrD a) ∧ nov ρ = true ∧ ρ' = (ρ.set j none).set i (some ⟨s, .dict (ptD (.inr k) d es)⟩) := by
  unfold backE at h
  split at h
  · rename_i s es d e1 e2
    by_cases c : (i ≠ j ∧ isOB s = true) ∧ isDct es = true ∧ ukD (.inr k) es = true ∧ isPtr a (lkD (.inr k) es) = true ∧ nov ρ = true
    · rw [if_pos c] at h
      obtain ⟨c1, c2, c3, c4, c5⟩ := c
      exact ⟨s, es, d, e1, e2, c1, c2, c3, isPtr_ok c4, c5, (Option.some.inj h).symm⟩
    · rw [if_neg c] at h; cases h
  · cases h
theorem back_brw (h : backE i j k a ρ = some ρ') {n : Nat} {d : D} (hn : n ≠ j) (e : ρ[n]? = some (some (R.mk .brw d))) : ∃ d', ρ'[n]? = some (some (R.mk .brw d')) := by
  obtain ⟨s, es, d0, e1, e2, ⟨c0, _⟩, _, _, _, _, rfl⟩ := backE_some h
  by_cases ni : i = n
  · subst ni
    rw [e] at e1
    cases e1
    obtain ⟨hl, _⟩ := List.getElem?_eq_some_iff.mp e
    exact ⟨_, List.getElem?_set_self (by simpa using hl)⟩
  · exact ⟨d, by rw [List.getElem?_set_ne ni, List.getElem?_set_ne (Ne.symm hn)]; exact e⟩
theorem back_ok (rl : Rel K Z O H σ ρ F) (hj : σ[j]? = some (some (.ref a))) (h : backE i j k a ρ = some ρ') : ∃ F', Rel K Z O H σ ρ' F' ∧ nov ρ' = true ∧ ∀ c ∈ F', c ∈ F := by
  obtain ⟨s, es, d, e1, e2, ⟨c0, c1⟩, c2, c3, c4, n, rfl⟩ := backE_some h
  obtain ⟨hl, _⟩ := List.getElem?_eq_some_iff.mp e2
  obtain ⟨x, y, F1, G, F2, h1, h2, h3, h4, h5⟩ := rl.sl.focus hl
  rw [e2] at h2
  cases h2
  rw [hj] at h1
  cases h1
  have ow : Own K Z H (.ref a) d G := RepS.rep h4 nofun
  have sl := h5 (some (.ref a)) none [] Z O H (Same.refl _) (Same.refl _) (.inl fun _ _ q _ => q) (fun a _ o q _ => q) rfl
  rw [set_same hj] at sl
  have nF := rl.nd
  rw [h3] at nF
  have p0 : (F1 ++ (G ++ F2)).Perm (G ++ (F1 ++ F2)) := by
    rw [← List.append_assoc, ← List.append_assoc]
    exact List.Perm.append_right F2 List.perm_append_comm
  have nG := p0.nodup_iff.mp nF
  have n1 : nov (ρ.set j none) = true := nov_set n fun d e => by cases e
  have rl1 : Rel K Z O H σ (ρ.set j none) (F1 ++ ([] ++ F2)) := ⟨rl.g, by rw [List.nil_append]; exact (List.nodup_append.mp nG).2.1, fun c hc => rl.fo c (by
    rw [h3]
    rcases List.mem_append.mp hc with hc | hc
    · simp [hc]
    · simp at hc; simp [hc]), sl, rl.tb⟩
  have ei : (ρ.set j none)[i]? = some (some ⟨s, .dict es⟩) := by rw [List.getElem?_set_ne (Ne.symm c0)]; exact e1
  have pn : plN i (ρ.set j none) = .ok ⟨i, .dict es, id⟩ := by
    unfold plN
    rw [ei]
    cases s with
    | own => rfl
    | brw => rfl
    | _ => cases c1
  obtain ⟨v, s', A1, A2, A3, g1, pa⟩ := plN_ok rl1 pn
  obtain ⟨b, kvs, x, B1, B2, B3, g2, g3, g4, pb⟩ := pa.key rfl c2 c3 c4
  have hs : s' = s := by
    obtain ⟨d0, hd0⟩ := pa.slot
    have hd1 : (ρ.set j none)[i]? = some (some ⟨s', d0⟩) := hd0
    rw [ei] at hd1
    cases hd1
    rfl
  subst hs
  have ob : Own K Z H x (ptrD a) B2 := pb.own
  obtain ⟨rfl, rfl⟩ := ob.ptr_inv
  have sl2 := pb.back Z O H d G (Same.refl _) (Same.refl _) n1 (fun c _ o q _ => q) ow
  have eF : F1 ++ ([] ++ F2) = B1 ++ ([] ++ B3) := pb.eq
  rw [List.nil_append, List.nil_append] at eF
  have p1 : (B1 ++ (G ++ B3)).Perm (G ++ (F1 ++ F2)) := by
    rw [eF, ← List.append_assoc, ← List.append_assoc]
    exact List.Perm.append_right B3 List.perm_append_comm
  have sub : ∀ c ∈ B1 ++ (G ++ B3), c ∈ F := fun c hc => by
    have := p0.mem_iff.mpr (p1.mem_iff.mp hc)
    rw [h3]
    exact this
  refine ⟨_, ⟨rl.g, p1.nodup_iff.mpr nG, fun c hc => rl.fo c (sub c hc), sl2, rl.tb⟩, nov_set n1 fun d' e => ?_, sub⟩
  cases e
  cases c1
theorem SRK.back {Z1 O1 H1 : Hp} {σ1 : St} {ρ1 : Ev} {F1 : List Addr} {nx : St → Hp → Prop} {rt : VK} {r : SR} (t : TrS Z O H σ ρ F Z1 O1 H1 σ1 ρ1 F1) (hj : σ1[j]? = some (some (.ref a))) (hb : ∃ d, ρ1[j]? = some (some (R.mk .brw d)))
    (nj : ∀ d, ρ[j]? ≠ some (some (R.mk .brw d))) (h : SRK K E Z O H σ ρ F nx rt (backS i j k a r)) : SRK K E Z1 O1 H1 σ1 ρ1 F1 nx rt r := by
  obtain ⟨db, hb⟩ := hb
  have fin : ∀ {σ' : St} {H' Z' O' : Hp} {F' F'' : List Addr} {ρ' ρ'' : Ev}, backE i j k a ρ' = some ρ'' → (∀ c ∈ F'', c ∈ F') → TrS Z1 O1 H1 σ1 ρ1 F1 Z' O' H' σ' ρ' F' → TrS Z O H σ ρ F Z' O' H' σ' ρ'' F'' := fun {σ' H' Z' O' F' F'' ρ' ρ''} e sb u => by
    have w := t.trans u
    refine ⟨⟨w.tr.z, w.tr.keep, w.tr.zn, fun c hc => w.tr.fn c (sb c hc), w.tr.fr, w.tr.tab⟩, w.o, w.len, fun m d hm => ?_, w.on⟩
    obtain ⟨q1, d1, q2⟩ := w.brw m d hm
    exact ⟨q1, back_brw e (fun z => nj d (z ▸ hm)) q2⟩
  have at_ : ∀ {σ' : St} {H' Z' O' : Hp} {F' : List Addr} {ρ' : Ev}, TrS Z1 O1 H1 σ1 ρ1 F1 Z' O' H' σ' ρ' F' → σ'[j]? = some (some (.ref a)) := fun u => by rw [(u.brw j db hb).1]; exact hj
  cases r with
  | bad => exact h
  | next ρ' =>
    intro σ' H' Z' O' F' rl n u
    have h2 : SRK K E Z O H σ ρ F nx rt (match backE i j k a ρ' with | some ρ' => .next ρ' | none => .bad) := h
    cases e : backE i j k a ρ' with
    | none => rw [e] at h2; exact h2.elim
    | some ρ'' =>
      rw [e] at h2
      obtain ⟨F'', rl2, n2, sb⟩ := back_ok rl (at_ u) e
      exact h2 σ' H' Z' O' F'' rl2 n2 (fin e sb u)
  | ret r ρ' =>
    intro v σ' H' Z' O' F' G rl w nd fo u u2
    have h2 : SRK K E Z O H σ ρ F nx rt (match backE i j k a ρ' with | some ρ' => .ret r ρ' | none => .bad) := h
    cases e : backE i j k a ρ' with
    | none => rw [e] at h2; exact h2.elim
    | some ρ'' =>
      rw [e] at h2
      obtain ⟨F'', rl2, n2, sb⟩ := back_ok rl (at_ u2) e
      have w2 := fin e sb u2
      obtain ⟨d1, d2, d3⟩ := List.nodup_append.mp nd
      have u' := t.tr.trans u
      refine h2 v σ' H' Z' O' F'' G rl2 w ?_ fo ⟨u'.z, u'.keep, u'.zn, fun c hc => ?_, u'.fr, u'.tab⟩ w2
      · rw [List.nodup_append]
        exact ⟨rl2.nd, d2, fun x hx y hy => d3 x (sb x hx) y hy⟩
      · rcases List.mem_append.mp hc with hc | hc
        · exact u'.fn c (List.mem_append_left _ (sb c hc))
        · exact u'.fn c (List.mem_append_right _ hc)
  | exc c fs ρ' =>
    intro σ' H' Z' O' F' d xs rl u hd e1 e2
    have h2 : SRK K E Z O H σ ρ F nx rt (match backE i j k a ρ' with | some ρ' => .exc c fs ρ' | none => .bad) := h
    cases e : backE i j k a ρ' with
    | none => rw [e] at h2; exact h2.elim
    | some ρ'' =>
      rw [e] at h2
      obtain ⟨F'', rl2, n2, sb⟩ := back_ok rl (at_ u) e
      exact h2 σ' H' Z' O' F'' d xs rl2 (fin e sb u) hd e1 e2
end
end Oz

namespace PySem
open Sem (wp)
open AutoSeq1 (wpAny_loadPart')
theorem ozMeets_enumT {v : Value} {o : Obj} {H : Heap → Prop} (B : Begins v o H) :
    Meets (Builtin.«enumerate.__new__» ⟨[.type "enumerate", v], []⟩) (fun _ R s => H s.heap ∧
      R (.ok (.ret (.ref (s.heap.push o).objs.size))) { s with heap := (s.heap.push o).push { cls := .type "enumerate", data := .fields #[.none, .bool false, .ref s.heap.objs.size, rawInt 0, .none, .none] } }) :=
  .of_wp fun prog w A R s h => by
    obtain ⟨hp, g, d, tk, os⟩ := s; obtain ⟨h1, h⟩ := h
    have hsub := sub_enumerate
    have q1 : ∀ {A' : Around} {E : Value → Shared → Prop} {Q : Value → Shared → Prop}, Q (.ref hp.objs.size) ⟨hp.push o, g, d, tk, os⟩ → wpAny (model prog w) A' (pyIter v) Q E ⟨hp, g, d, tk, os⟩ :=
      fun q => B.iter prog w _ _ ⟨hp, g, d, tk, os⟩ _ h1 q
    wp_walk using q1
    refine wpAny_stack_any fun st => wpAny_pure ?_
    split
    · rename_i c _ _ _ _ _
      cases (c == Value.type "enumerate")
      · wp_walk using q1
        exact ⟨_, rfl, h⟩
      · wp_walk using q1
        exact ⟨_, rfl, h⟩
    · wp_walk using q1
      exact ⟨_, rfl, h⟩
theorem ozEnum_begins {prog : Program} {w : World} {A : Around} {E : Value → Shared → Prop} {s : Shared} {v : Value} {o : Obj} {H : Heap → Prop} {Q : Value → Shared → Prop} (B : Begins v o H) (h1 : H s.heap)
    (h : ∀ h', IsEnum h' (s.heap.objs.size + 1) s.heap.objs.size 0 .none → h'.get? s.heap.objs.size = some o → h'.objs.size = s.heap.objs.size + 2 →
      (∀ b o, s.heap.get? b = some o → h'.get? b = some o) → Q (.ref (s.heap.objs.size + 1)) { s with heap := h' }) :
    wpAny (model prog w) A (call (.type "enumerate") [v]) Q E s := by
  refine callType_new F.called_enumerate (by decide) (F.typeCall_enumerate_1 _) (F.newCall_enumerate_1 _) (fun obj => F.args_object_init_2 obj _) F.entry_enumerate_new
    (ozMeets_enumT B) ⟨h1, ?_⟩
  have hz : (s.heap.push o).objs.size = s.heap.objs.size + 1 := Heap.size_push ..
  show _ ∧ _
  rw [hz]
  have he : IsEnum ((s.heap.push o).push { cls := .type "enumerate", data := .fields #[.none, .bool false, .ref s.heap.objs.size, rawInt 0, .none, .none] }) (s.heap.objs.size + 1) s.heap.objs.size 0 .none := by
    have := Heap.get?_push_size (s.heap.push o) (o := { cls := .type "enumerate", data := .fields #[.none, .bool false, .ref s.heap.objs.size, rawInt 0, .none, .none] }) rfl
    rw [hz] at this; exact this
  refine ⟨⟨_, he, rfl⟩, h _ he (Heap.get?_push_of_some _ (Heap.get?_push_size _ B.free)) (by rw [Heap.size_push, hz]) fun b o x => Heap.get?_push_of_some _ (Heap.get?_push_of_some _ x)⟩
end PySem
namespace Oz
open PySem PySem.Spec L2
open PyProof.Rows hiding St
variable [WD]

/-! ### enumerate -/
/-- the tuple at a, each item in a new pair -/
def IteT (K : PySem.W.Frag) (a : Addr) : It :=
  ⟨fun i H => ∃ (xs : List V) (x : V), SqT K H a xs ∧ xs[i]? = some x, fun i H v H' => ∃ T x, v = .ref T ∧ H T = none ∧ H' = upd H T (.tup [.int (i : Nat), x]) ∧ ∀ xs, SqT K H a xs → xs[i]? = some x, fun i H => ∃ xs : List V, SqT K H a xs ∧ xs.length ≤ i⟩
theorem turn_enumT {P : Program} {w : World} {K : PySem.W.Frag} {elts : List Expr} {kk : Nat} {tpos : Pos} (a e it : Addr) :
    Turn P w K (.Tuple elts kk tpos) (IteT K a) [e, it] e (fun i h => (∃ old, IsEnum h e it ((i : Nat) : Int) old) ∧ h.IsTupleIter it a i ∧ e ≠ it) where
  mem := by simp
  obj := fun i h st b hb => by
    obtain ⟨⟨old, he⟩, ⟨o, ho, hc, hd⟩, _⟩ := st
    have e' : b = e ∨ b = it := by simpa using hb
    rcases e' with z | z
    · rw [z]; exact ⟨_, he, fun v q => nomatch q⟩
    · rw [z]; exact ⟨o, ho, fun v q => by rw [hd] at q; cases q⟩
  keep := fun i h h' st k => by
    obtain ⟨⟨old, he⟩, hi, hne⟩ := st
    exact ⟨⟨old, k e (by simp) _ he⟩, hi.at fun o e => k it (by simp) o e, hne⟩
  item := by
    intro X hP hw hK hc i pins s σ H E I hf st hg
    subst hP hw hK
    obtain ⟨⟨old, he⟩, hit, hne⟩ := st
    obtain ⟨xs, x, hq, hx⟩ := hg
    obtain ⟨its, rv, p, hz⟩ := I.tuple hq
    have pt : s.heap.IsTuple a its.toArray := p
    obtain ⟨u, hu, ru⟩ := rv.get hx
    have hel : e < s.heap.objs.size := Heap.lt_size he
    have hil : it < s.heap.objs.size := by obtain ⟨_, q, _⟩ := hit; exact Heap.lt_size q
    have nai : a ≠ it := fun z => by
      obtain ⟨o1, h1, h2, _⟩ := pt
      obtain ⟨o2, h3, h4, _⟩ := hit
      rw [z, h3] at h1
      cases h1
      rw [h4] at h2
      injection h2 with q
      exact absurd q (by decide)
    have nae : e ≠ a := fun z => by
      obtain ⟨o1, h1, h2, _⟩ := pt
      rw [← z, he] at h1
      cases h1
      injection h2 with q
      exact absurd q (by decide)
    have hi : i < its.toArray.size := by
      obtain ⟨hl, _⟩ := List.getElem?_eq_some_iff.mp hu
      simpa using hl
    refine wpAny_pyNext_enum_itemD (Draws.tuple (show X.A.in1.handled = none from I.ok.hd hc) it a nai its.toArray) he ⟨hit, pt⟩ hi hne (by simp; exact ⟨hne, nae⟩) fun y h' tk hy ho st' hT hsz hk => ?_
    have yu : y = u := by
      have e1 : its.toArray[i]? = some u := by simpa using hu
      rw [e1] at hy
      exact (Option.some.inj hy).symm
    subst yu
    refine ⟨_, rfl, wpAny_letOwnedTupleGo_enum (s := { s with heap := h', toks := tk + 1 }) ho fun h'' he' sb => ?_⟩
    have hT2 : h''.get? s.heap.objs.size = some { cls := .type "tuple", data := .seq #[.int i tk, y] } := (sb.2 _ (Nat.ne_of_gt hel)).trans hT
    have new : ObjOk X.prog X.w (upd H s.heap.objs.size (.tup [.int (i : Nat), x])) h'' s.heap.objs.size (.tup [.int (i : Nat), x]) :=
      ⟨by show 2 ≤ sizeLine; decide, [.int i tk, y], .cons ⟨_, rfl⟩ (.cons ru .nil), ⟨_, hT2, rfl, _, rfl⟩⟩
    have I1 : Inv X pins σ (upd H s.heap.objs.size (.tup [.int (i : Nat), x])) { s with heap := h'', toks := tk + 1 } :=
      I.turnedNew (ch := [e, it]) (fun b ob hb q => (sb.2 b (fun z => hb (by simp [z]))).trans (hk b ob (fun z => hb (by simp [z])) (fun z => hb (by simp [z])) q)) hf (Nat.le_refl _) new
    refine ⟨.ref s.heap.objs.size, _, I1, rfl, ⟨_, x, rfl, I.hok.fresh (Nat.le_refl _), rfl, fun ys hy => by rw [I.tuple_inj hy hq]; exact hx⟩, ⟨⟨y, ?_⟩, st'.1.at fun o q => (sb.2 it (Ne.symm hne)).trans q, hne⟩, fun b hb => ?_⟩
    · have e1 : ((i + 1 : Nat) : Int) = (i : Int) + 1 := by omega
      rw [e1]; exact he'
    · have hb' : b < s.heap.objs.size := by
        have e' : b = e ∨ b = it := by simpa using hb
        rcases e' with z | z
        · rw [z]; exact hel
        · rw [z]; exact hil
      rw [upd_ne (Nat.ne_of_lt hb')]
      exact (hf b hb).1
  done := by
    intro X hP hw hK hc i pins s σ H E I hf st hg
    subst hP hw hK
    obtain ⟨⟨old, he⟩, hit, hne⟩ := st
    obtain ⟨xs, hq, hx⟩ := hg
    obtain ⟨its, rv, p, hz⟩ := I.tuple hq
    have pt : s.heap.IsTuple a its.toArray := p
    obtain ⟨f0, f1, f2, f3, f4, f5⟩ := hf it (by simp)
    have hl := rv.length
    have nai : a ≠ it := fun z => by
      obtain ⟨o1, h1, h2, _⟩ := pt
      obtain ⟨o2, h3, h4, _⟩ := hit
      rw [z, h3] at h1
      cases h1
      rw [h4] at h2
      injection h2 with q
      exact absurd q (by decide)
    have hT : s.TypeIs (.ref e) "enumerate" := ⟨_, he, rfl⟩
    unfold pyNext
    refine wpAny_bind (wpAny_attempt (wpAny_callSpecial?_slot (name := Str.ofString "__next__") hT F.slot_enumerate_next
      (wpAny_call_entry F.slot_enumerate_next hT F.entry_enumerate_next ?_ (F.args_enumerate_next_1 _))))
    show wpAny _ _ (field (.ref e) 2 >>= _) _ _ _
    refine wpAny_bind (wpAny_field he rfl (x := .ref it) rfl ?_)
    refine wpAny_bind (wpAny_nextOf_tuple_end (show X.A.in1.handled = none from I.ok.hd hc) hit pt (by simp; omega) fun h' x eb hx' => ?_)
    obtain ⟨o, ho, hcl⟩ := hx'
    refine wpAny_bind (wpAny_isInstance (T := "StopIteration") (b := true) ⟨o, ho, hcl⟩ isSubtype_stop ?_)
    exact wpAny_pure ⟨rfl, I.turned (t' := s.toks) (fun b o hb q => eb b o hb q) f0 f1 f3 f4 f5⟩
  self := fun A i s Q E st h => by
    obtain ⟨⟨_, he⟩, _⟩ := st
    exact wpAny_pyIter_enum he h
def iEnumA (K : PySem.W.Frag) (ta : TA) : TI := fun σ H R => ta σ H fun vs H1 => ∃ a, vs = [.ref a] ∧ (((∃ xs, SqL K H1 a xs) ∧ R (Ite K a) H1) ∨ ((∃ xs, SqT K H1 a xs) ∧ R (IteT K a) H1))
theorem pi_enumA {X : Cx} {e : Expr} {ta : TA} {p pos tpos : Pos} {elts : List Expr} {kk : Nat} (hg : Gl X "enumerate") (hm : X.mg "enumerate" = none) (ha : PA X [e] ta) (hs : starEach [e] X.env = [(false, eval e X.env)] := by rfl) :
    PI X (.Tuple elts kk tpos) (.Call (.Name "enumerate" p) [e] [] pos) (iEnumA X.K ta) := by
  refine ⟨fun pins s σ H R I h => ?_⟩
  refine Call_ (ld_blt I hg hm boot_enumerate (PyProof.Rows.callWith_type1 (thn (ha.run pos pins s σ H _ I h) fun us s1 ⟨vs, H1, I1, r1, q1⟩ => ?_) hs rfl))
  obtain ⟨a, ex, q⟩ := q1
  subst ex
  cases r1 with
  | cons r rr =>
    cases rr
    cases r
    have fin : ∀ (h' : Heap) (J : It) (tn : Nat → Heap → Prop), (∀ b o, s1.heap.get? b = some o → h'.get? b = some o) → Turn X.prog X.w X.K (.Tuple elts kk tpos) J [s1.heap.objs.size + 1, s1.heap.objs.size] (s1.heap.objs.size + 1) tn → tn 0 h' → R J H1 →
        PIE X pins σ (.Tuple elts kk tpos) R (.ref (s1.heap.objs.size + 1)) { s1 with heap := h' } := fun h' J tn hk tu t0 q => by
      have I2 : Inv X pins σ H1 { s1 with heap := h' } := I1.kept (t' := s1.toks) hk
      refine ⟨s1.heap.objs.size + 1, [s1.heap.objs.size + 1, s1.heap.objs.size], _, _, H1, rfl, I2, tu, t0, fun b hb => ?_, q⟩
      have e' : b = s1.heap.objs.size + 1 ∨ b = s1.heap.objs.size := by simpa using hb
      have hle : s1.heap.objs.size ≤ b := by
        rcases e' with z | z
        · rw [z]; exact Nat.le_add_right _ _
        · rw [z]; exact Nat.le_refl _
      exact I1.fpOk hle (I1.hok.fresh hle)
    rcases q with ⟨⟨xs, hq⟩, q⟩ | ⟨⟨xs, hq⟩, q⟩
    · obtain ⟨its, rv, p', hz⟩ := I1.list hq
      exact call_enumerate_list p'.isList fun h' he hit hsz hk => wpAny_pyIter_enum he (fin h' _ _ hk (turn_enum a _ _) ⟨⟨.none, he⟩, hit, Nat.succ_ne_self _⟩ q)
    · obtain ⟨its, rv, p', hz⟩ := I1.tuple hq
      exact ozEnum_begins (begins_tuple a its.toArray) p' fun h' he hit hsz hk => wpAny_pyIter_enum he (fin h' _ _ hk (turn_enumT a _ _) ⟨⟨.none, he⟩, ⟨_, hit, rfl, rfl⟩, Nat.succ_ne_self _⟩ q)
def enR (i : Nat) (r : R) : R := ⟨r.s, .tuple [.int (i : Nat), r.d]⟩
def enumR (rs : List R) : List R := rs.mapIdx enR
def shr (r : R) : Bool := match r.s with
  | .imm => true
  | .out => true
  | .view => true
  | _ => false
section
variable {K : PySem.W.Frag} {E : XK} {Z O H Z' O' H' : Hp} {F G : List Addr}
theorem pair_rep (g : Good Z O H) {T : Addr} (nT : H T = none) {i : Nat} {x : V} {r : R} (hs : shr r = true) (h : RepR K Z O H x r []) :
    ∃ Z' O', Ext [] Z O H Z' O' (upd H T (.tup [.int (i : Nat), x])) ∧ Good Z' O' (upd H T (.tup [.int (i : Nat), x])) ∧ RepR K Z' O' (upd H T (.tup [.int (i : Nat), x])) (.ref T) (enR i r) [] := by
  obtain ⟨x1, g1⟩ := ext_frz g (o := .tup [.int (i : Nat), x]) nT
  refine ⟨_, _, x1, g1, ?_⟩
  have h1 := h.ext x1
  obtain ⟨s, d⟩ := r
  cases s with
  | imm => exact ⟨.tup (.inl (.inl upd_same)) (.cons (.int _) (.cons h1.1 .nil)), rfl⟩
  | out => exact ⟨.tup (.inl (.inl upd_same)) (.cons (.int _) (.cons h1.1 .nil)), rfl⟩
  | view => exact ⟨.tup (.inl (.inl upd_same)) (.cons (.int _) (.cons h1.1 .nil)), rfl⟩
  | own => cases hs
  | brw => cases hs
  | tab => exact (show False from h1).elim
theorem shr_sub {s : Sx} {d : D} : shr (Oz.sub s d) = true := by
  unfold Oz.sub
  split
  · rfl
  · cases s <;> rfl
theorem wlk_enum {a : Addr} {rs : List R} (hs : ∀ r ∈ rs, shr r = true) (h : Wlk K (Itl K a) rs Z O H F) : Wlk K (Ite K a) (enumR rs) Z O H F := by
  intro Z1 O1 H1 g ez eo k i hi
  have hi' : i ≤ rs.length := by simpa [enumR] using hi
  obtain ⟨h1, h2⟩ := h Z1 O1 H1 g ez eo k i hi'
  refine ⟨fun e => h1 (by simpa [enumR] using e), fun r hr => ?_⟩
  unfold enumR at hr
  rw [List.getElem?_mapIdx] at hr
  cases e : rs[i]? with
  | none => rw [e] at hr; cases hr
  | some r0 =>
    rw [e] at hr
    cases hr
    obtain ⟨q1, q2⟩ := h2 r0 e
    refine ⟨q1, fun y H' hy => ?_⟩
    obtain ⟨T, x, rfl, nT, rfl, hx⟩ := hy
    obtain ⟨Z2, O2, x2, g2, r2⟩ := q2 x H1 ⟨rfl, hx⟩
    obtain ⟨Z3, O3, x3, g3, r3⟩ := pair_rep (i := i) g2 nT (hs r0 (List.mem_of_getElem? e)) r2
    exact ⟨Z3, O3, x2.trans0 x3, g3, r3⟩
theorem wlk_enumT {a : Addr} {rs : List R} (hs : ∀ r ∈ rs, shr r = true) (h : Wlk K (Itt K a) rs Z O H F) : Wlk K (IteT K a) (enumR rs) Z O H F := by
  intro Z1 O1 H1 g ez eo k i hi
  have hi' : i ≤ rs.length := by simpa [enumR] using hi
  obtain ⟨h1, h2⟩ := h Z1 O1 H1 g ez eo k i hi'
  refine ⟨fun e => h1 (by simpa [enumR] using e), fun r hr => ?_⟩
  unfold enumR at hr
  rw [List.getElem?_mapIdx] at hr
  cases e : rs[i]? with
  | none => rw [e] at hr; cases hr
  | some r0 =>
    rw [e] at hr
    cases hr
    obtain ⟨q1, q2⟩ := h2 r0 e
    refine ⟨q1, fun y H' hy => ?_⟩
    obtain ⟨T, x, rfl, nT, rfl, hx⟩ := hy
    obtain ⟨Z2, O2, x2, g2, r2⟩ := q2 x H1 ⟨rfl, hx⟩
    obtain ⟨Z3, O3, x3, g3, r3⟩ := pair_rep (i := i) g2 nT (hs r0 (List.mem_of_getElem? e)) r2
    exact ⟨Z3, O3, x2.trans0 x3, g3, r3⟩
theorem enum_walk {v : V} {r : R} {ds : List D} (g : Good Z O H) (h : RepR K Z O H v r G) (e : itemsD r.d = some ds) (dj : ∀ c ∈ G, c ∉ F) (nv : r.s = .view → F = []) {R : It → Hp → Prop} (q : ∀ J, Wlk K J (enumR (ds.map (Oz.sub r.s))) Z O H F → R J H) :
    ∃ a, v = .ref a ∧ (((∃ xs, SqL K H a xs) ∧ R (Ite K a) H) ∨ ((∃ xs, SqT K H a xs) ∧ R (IteT K a) H)) := by
  have hs : ∀ x ∈ ds.map (Oz.sub r.s), shr x = true := fun x hx => by
    obtain ⟨d, _, rfl⟩ := List.mem_map.mp hx
    exact shr_sub
  obtain ⟨a, xs, ea, hk, hl, it⟩ := h.items g e
  subst ea
  rcases hk with ⟨e1, hx⟩ | ⟨e1, hx⟩
  · exact ⟨a, rfl, .inl ⟨⟨xs, .inl (.inl hx)⟩, q _ (wlk_enum hs (wlk_list h e1 dj nv))⟩⟩
  · exact ⟨a, rfl, .inr ⟨⟨xs, hx⟩, q _ (wlk_enumT hs (wlk_tup h e1 dj nv))⟩⟩
end
def srcE (p : Px) : Src := fun ρ => (p ρ).bind fun r => if r.s = .view then .bad else (srcR r).bind fun rs => .ok (enumR rs)
def srcEc (p : Px) : Src := fun ρ => (p ρ).bind fun r => (srcR r).bind fun rs => .ok (enumR rs)
section
variable {K : PySem.W.Frag} {E : XK}
theorem srcEc_ok {p : Px} : IOc K E (iEnumA K (tA K E [p])) (srcEc p) := fun σ H R q => by
  obtain ⟨Z, O, ρ, F, rl, q⟩ := q
  refine ⟨Z, O, ρ, F, rl, ?_⟩
  unfold srcEc at q
  cases e : p ρ with
  | bad => rw [e] at q; exact q.elim
  | exc c fs =>
    rw [e] at q
    have e2 : evs [p] ρ = .exc c fs := by unfold evs; rw [e]; rfl
    rw [e2]
    exact q
  | ok r =>
    rw [e] at q
    have e0 : evs [p] ρ = .ok [r] := by unfold evs; rw [e]; rfl
    rw [e0]
    have q2 : match ((srcR r).bind fun rs => (.ok (enumR rs) : Res (List Oz.R))) with
      | .bad => False
      | .exc c fs => ExcK K E Z O H c fs
      | .ok rs => ∀ J H' Z' O', Ext [] Z O H Z' O' H' → Good Z' O' H' → Wlk K J rs Z' O' H' [] → R J H' := q
    intro vs H1 Z1 O1 G x g w nd fr
    obtain ⟨v, rfl, w1⟩ := w.one
    cases e2 : srcR r with
    | bad => rw [e2] at q2; exact q2.elim
    | exc c fs => unfold srcR at e2; cases e3 : itemsD r.d <;> rw [e3] at e2 <;> cases e2
    | ok rs =>
      rw [e2] at q2
      obtain ⟨ds, e3, rfl⟩ := srcR_some e2
      obtain ⟨a, rfl, z⟩ := enum_walk (F := []) g w1 e3 (fun a ha z => by cases z) (fun z => rfl) fun J wl => q2 J H1 Z1 O1 x g wl
      exact ⟨a, rfl, z⟩
end
@[simp] theorem x_srcE {p : Px} {ρ : Ev} : srcE p ρ = ((p ρ).bind fun r => if r.s = .view then .bad else (srcR r).bind fun rs => .ok (enumR rs)) := id rfl
@[simp] theorem x_srcEc {p : Px} {ρ : Ev} : srcEc p ρ = ((p ρ).bind fun r => (srcR r).bind fun rs => .ok (enumR rs)) := id rfl
end Oz

namespace Oz
open PySem PySem.Spec L2
open PyProof.Rows hiding St
variable [WD]

/-! ### a displayed dict -/
def flatP : List (Px × Px) → List Px
  | [] => []
  | (k, v) :: r => k :: v :: flatP r
def flatV : List (V × V) → List V
  | [] => []
  | (k, v) :: r => k :: v :: flatV r
def pairsR : List R → Option (List (Key × D))
  | k :: v :: rs => (match keyOf k.d, ownR v, pairsR rs with
    | some k, some d, some r => some ((k, d) :: r)
    | _, _, _ => none)
  | [] => some []
  | _ => none
def pDct (ps : List Px) : Px := fun ρ => (evs ps ρ).bind fun rs => match pairsR rs with
  | some kds => if (kds.map (·.1)).Nodup ∧ kds.length ≤ 15 then .ok ⟨.own, .dict (kds.map fun p => (kd p.1, p.2))⟩ else .bad
  | none => .bad
section
variable {K : PySem.W.Frag} {Z O H : Hp}
end
/-! ### l.pop(i), its answer dropped -/
def sPop (l : Plx) (p : Px) : Stx := fun ρ => match l ρ with
  | .bad => .bad
  | .exc c fs => .exc c fs ρ
  | .ok l => (match l.d with
    | .list ds => (match p ρ with
      | .bad => .bad
      | .exc c fs => .exc c fs ρ
      | .ok r => (match r.d with
        | .int i => (match ixN ds.length i with
          | some k => if ds.length ≤ sizeLine then putE l (.list (ds.eraseIdx k)) ρ else .bad
          | none => .bad)
        | _ => .bad))
    | _ => .bad)
section
variable {X : Cx} {E : XK} {a b : Expr} {l : Plx} {p : Px} {pos apos cpos : Pos}
end
/-! ### a dict of the module -/
def pGet (kds : List (Str × D)) (p : Px) : Px := fun ρ => (p ρ).bind fun r => match r.d with
  | .str z => (match kds.lookup z with
    | some d => .ok ⟨.imm, d⟩
    | none => .bad)
  | _ => .bad
/-! ### is, is not: None or bools -/
def isF2 (a b : D) : Option D := match a, b with
  | _, .none => some (.bool (isNon a))
  | .bool x, .bool y => some (.bool (decide (x = y)))
  | _, _ => none
def isnF2 (a b : D) : Option D := match a, b with
  | _, .none => some (.bool (!isNon a))
  | .bool x, .bool y => some (.bool (!decide (x = y)))
  | _, _ => none
theorem op_isn2 {X : Cx} : OpR X (compareOp .IsNot) (fun x y H Q => (y = .non ∧ Q (.bl (!decide (x = .non))) H) ∨ ∃ a b, x = .bl a ∧ y = .bl b ∧ Q (.bl (!decide (a = b))) H) := OpR.or op_notN op_isnot_bl
theorem o_isn2 {K : PySem.W.Frag} : Op2 K (fun x y H Q => (y = .non ∧ Q (.bl (!decide (x = .non))) H) ∨ ∃ a b, x = .bl a ∧ y = .bl b ∧ Q (.bl (!decide (a = b))) H) (at2 isnF2) := op2_at fun H x y a b d Q ra rb e q => by
  unfold isnF2 at e
  split at e
  · cases rb
    cases e
    exact .inl ⟨rfl, q _ fun C => by rw [isNon_ok ra]; exact .bl _⟩
  · cases ra
    cases rb
    cases e
    exact .inr ⟨_, _, rfl, rfl, q _ fun C => .bl _⟩
  · cases e
/-! ### isinstance -/
def tyD : D → Option String
  | .none => some "NoneType"
  | .bool _ => some "bool"
  | .int _ => some "int"
  | .str _ => some "str"
  | .list _ => some "list"
  | .tuple _ => some "tuple"
  | .dict es => if isDct es = true then some "dict" else none
theorem tyD_ok {K : PySem.W.Frag} {H : Hp} {v : V} {d : D} {T : String} (r : Rep K H v d) (e : tyD d = some T) : TyX K H v (.type T) := by
  cases r with
  | non => cases e; exact .base .non
  | bl b => cases e; exact .base (.bl b)
  | int i => cases e; exact .base (.int i)
  | str x => cases e; exact .base (.str x)
  | lst h _ => cases e; exact .base (.lst h)
  | scr _ _ => simp [tyD, scrD, isDct, keyOf] at e
  | tup h _ =>
    cases e
    rcases h with (h | ⟨o, h⟩) | ⟨o, its, n, h1, h2, _⟩
    · exact .base (.tup h)
    · exact .fTuple h
    · exact .kTuple h1 h2
  | dct h k r =>
    have e2 : (if isDct _ = true then some "dict" else none) = some T := e
    split at e2
    · cases e2; exact .base (.dK h)
    · cases e2
  | ptr a => simp [tyD, ptrD, isDct, keyOf] at e
  | obj _ _ _ _ => simp [tyD, objD, isDct, keyOf] at e
/-- an instance of T? -/
def isiD (T : String) (d : D) : Option Bool := (tyD d).map fun t => t == T || (t == "bool" && T == "int")
def tyOk (T : String) : Bool := ["NoneType", "bool", "int", "str", "list", "tuple", "dict"].all fun t => decide (kitB t T = some (t == T || (t == "bool" && T == "int")))
theorem tyOk_int : tyOk "int" = true := by decide +kernel
theorem tyOk_bool : tyOk "bool" = true := by decide +kernel
theorem tyOk_str : tyOk "str" = true := by decide +kernel
theorem tyOk_tuple : tyOk "tuple" = true := by decide +kernel
theorem tyD_in {d : D} {T : String} (e : tyD d = some T) : T ∈ ["NoneType", "bool", "int", "str", "list", "tuple", "dict"] := by
  cases d with
  | dict es =>
    have e2 : (if isDct es = true then some "dict" else none) = some T := e
    split at e2
    · cases e2; simp
    · cases e2
  | _ => cases e; simp
def pIsi (T : String) (p : Px) : Px := fun ρ => (p ρ).bind fun r => match isiD T r.d with
  | some b => .ok ⟨.imm, .bool b⟩
  | none => .bad
theorem s_isi {X : Cx} {E : XK} {e : Expr} {p : Px} {T : String} {x : Str} {pos q1 q2 : Pos} (hT : tyOk T = true) (hv : bootBuiltins x = some (.type T)) (hg : Gl X "isinstance") (hm : X.mg "isinstance" = none) (hg2 : Gl X x) (hm2 : X.mg x = none) (he : PE X e (tP X.K E p)) (hn : x ≠ "__name__" := by decide) (hd : (x == ("__debug__" : Str)) = false := by decide)
    (h1 : starEach [e, .Name x q2] X.env = (false, eval e X.env) :: starEach [.Name x q2] X.env := by rfl) (h2 : starEach [.Name x q2] X.env = (false, eval (.Name x q2) X.env) :: starEach [] X.env := by rfl) (hpl : (backTo pos (starEach [.Name x q2] X.env)).any (·.1) = false := by rfl) :
    PE X (.Call (.Name "isinstance" q1) [e, .Name x q2] [] pos) (tP X.K E (pIsi T p)) := by
  refine (pe_callB call_isi hg hm PyProof.Rows.boot_isinstance (pa_cons he (pa_cons (pe_bltn (v := .ty T) hg2 hm2 hv (show RelV (.ty T) (.type T) from rfl) hn hd) pa_nil h2) h1) (by decide) (by decide) h1 hpl).imp fun σ H Q h => ?_
  obtain ⟨Z, O, ρ, F, rl, h⟩ := h
  refine ⟨Z, O, ρ, F, rl, ?_⟩
  unfold pIsi at h
  cases e1 : p ρ with
  | bad => rw [e1] at h; exact h.elim
  | exc c fs => rw [e1] at h; exact h
  | ok r =>
    rw [e1] at h
    simp only [Res.bind_ok] at h
    intro v H1 Z1 O1 G x1 g1 q1 nd fr
    cases e2 : isiD T r.d with
    | none => rw [e2] at h; exact h.elim
    | some b =>
      rw [e2] at h
      unfold isiD at e2
      cases e3 : tyD r.d with
      | none => rw [e3] at e2; cases e2
      | some t =>
        rw [e3] at e2
        cases e2
        have hk := of_decide_eq_true (List.all_eq_true.mp hT t (tyD_in e3))
        exact ⟨v, .ty T, .type t, .type T, _, rfl, .ty T, tyD_ok (q1.look g1) e3, kit_ty hk, h _ H1 Z1 O1 [] x1 g1 ⟨.bl _, rfl⟩ List.nodup_nil fun a ha => by cases ha⟩
/-! ### reckoning -/
section
variable {ρ : Ev}
@[simp] theorem x_dct {ps : List Px} : pDct ps ρ = ((evs ps ρ).bind fun rs => match pairsR rs with
  | some kds => if (kds.map (·.1)).Nodup ∧ kds.length ≤ 15 then .ok ⟨.own, .dict (kds.map fun p => (kd p.1, p.2))⟩ else .bad
  | none => .bad) := id rfl
@[simp] theorem x_pop {l : Plx} {p : Px} : sPop l p ρ = (match l ρ with
  | .bad => .bad
  | .exc c fs => .exc c fs ρ
  | .ok l => (match l.d with
    | .list ds => (match p ρ with
      | .bad => .bad
      | .exc c fs => .exc c fs ρ
      | .ok r => (match r.d with
        | .int i => (match ixN ds.length i with
          | some k => if ds.length ≤ sizeLine then putE l (.list (ds.eraseIdx k)) ρ else .bad
          | none => .bad)
        | _ => .bad))
    | _ => .bad)) := id rfl
@[simp] theorem x_get {kds : List (Str × D)} {p : Px} : pGet kds p ρ = ((p ρ).bind fun r => match r.d with
  | .str z => (match kds.lookup z with
    | some d => .ok ⟨.imm, d⟩
    | none => .bad)
  | _ => .bad) := id rfl
@[simp] theorem x_isi {T : String} {p : Px} : pIsi T p ρ = ((p ρ).bind fun r => match isiD T r.d with
  | some b => .ok ⟨.imm, .bool b⟩
  | none => .bad) := id rfl
end
@[simp] theorem flatP_nil : flatP [] = [] := rfl
@[simp] theorem flatP_cons {k v : Px} {r : List (Px × Px)} : flatP ((k, v) :: r) = k :: v :: flatP r := rfl
@[simp] theorem pairsR_nil : pairsR [] = some [] := rfl
@[simp] theorem pairsR_cons {k v : R} {rs : List R} : pairsR (k :: v :: rs) = (match keyOf k.d, ownR v, pairsR rs with
    | some k, some d, some r => some ((k, d) :: r)
    | _, _, _ => none) := rfl
@[simp] theorem x_is2N {b : D} : isF2 b .none = some (.bool (match b with | .none => true | _ => false)) := by cases b <;> rfl
@[simp] theorem x_isn2N {b : D} : isnF2 b .none = some (.bool (match b with | .none => false | _ => true)) := by cases b <;> rfl
@[simp] theorem x_is2B {a b : Bool} : isF2 (.bool a) (.bool b) = some (.bool (decide (a = b))) := rfl
@[simp] theorem x_isn2B {a b : Bool} : isnF2 (.bool a) (.bool b) = some (.bool (!decide (a = b))) := rfl
@[simp] theorem isi_none {T : String} : isiD T .none = some ("NoneType" == T || ("NoneType" == "bool" && T == "int")) := rfl
@[simp] theorem isi_bool {T : String} {b : Bool} : isiD T (.bool b) = some ("bool" == T || ("bool" == "bool" && T == "int")) := rfl
@[simp] theorem isi_int {T : String} {b : Int} : isiD T (.int b) = some ("int" == T || ("int" == "bool" && T == "int")) := rfl
@[simp] theorem isi_str {T : String} {b : Str} : isiD T (.str b) = some ("str" == T || ("str" == "bool" && T == "int")) := rfl
@[simp] theorem isi_list {T : String} {b : List D} : isiD T (.list b) = some ("list" == T || ("list" == "bool" && T == "int")) := rfl
@[simp] theorem isi_tuple {T : String} {b : List D} : isiD T (.tuple b) = some ("tuple" == T || ("tuple" == "bool" && T == "int")) := rfl
/-! ### the head's Hook: tables with text keys, and a check -/
noncomputable section
end
end Oz

namespace Oz
open PySem PySem.Spec L2
open PyProof.Rows hiding St
variable [WD]
/-! ### reckoning with dicts -/
@[simp] theorem isDct_nil : isDct [] = true := rfl
@[simp] theorem isDct_cons {a d : D} {es : List (D × D)} : isDct ((a, d) :: es) = ((keyOf a).isSome && isDct es) := rfl
@[simp] theorem ukD_nil {k : Key} : ukD k [] = true := rfl
@[simp] theorem ukD_cons {k : Key} {a d : D} {es : List (D × D)} : ukD k ((a, d) :: es) = if keyOf a = some k then noD k es else ukD k es := rfl
@[simp] theorem noD_nil {k : Key} : noD k [] = true := rfl
@[simp] theorem noD_cons {k : Key} {a d : D} {es : List (D × D)} : noD k ((a, d) :: es) = (!decide (keyOf a = some k) && noD k es) := by
  simp [noD]
@[simp] theorem lf_ptr {a : Nat} : lf (ptrD a) = false := rfl
section
variable {ρ : Ev}
@[simp] theorem back_bad {i j a : Nat} {k : Str} : backS i j k a .bad = .bad := rfl
@[simp] theorem back_next {i j a : Nat} {k : Str} {ρ : Ev} : backS i j k a (.next ρ) = (match backE i j k a ρ with
    | some ρ' => .next ρ'
    | none => .bad) := rfl
@[simp] theorem back_ret {i j a : Nat} {k : Str} {r : R} {ρ : Ev} : backS i j k a (.ret r ρ) = (match backE i j k a ρ with
    | some ρ' => .ret r ρ'
    | none => .bad) := rfl
@[simp] theorem x_backE {i j : Nat} {k : Str} {a : Nat} : backE i j k a ρ = (match ρ[i]?, ρ[j]? with
  | some (some ⟨s, .dict es⟩), some (some ⟨.brw, d⟩) => if (i ≠ j ∧ isOB s = true) ∧ isDct es = true ∧ ukD (.inr k) es = true ∧ isPtr a (lkD (.inr k) es) = true ∧ nov ρ = true then some ((ρ.set j none).set i (some ⟨s, .dict (ptD (.inr k) d es)⟩)) else none
  | _, _ => none) := id rfl
end
@[simp] theorem ali_const {r : SR} : ali (fun _ => r) = r := ali_eq fun _ => rfl
@[simp] theorem x_int_i {i : Int} : fInt (.int i) = some (.int i) := rfl
@[simp] theorem x_int_b {b : Bool} : fInt (.bool b) = some (.int (if b then 1 else 0)) := rfl
end Oz

namespace Oz
open PySem PySem.Spec L2
open PyProof.Rows hiding St
variable [WD]

/-! ### a list of one's own, given to another slot -/
def plugs (a : Nat) (d : D) : List D → Option (List D)
  | [] => none
  | x :: xs => if isPtr a (some x) = true then some (d :: xs) else (plugs a d xs).map (x :: ·)
def plugE (a : Nat) (d : D) : List (D × D) → Option (List (D × D))
  | [] => none
  | (k, x) :: xs => if isPtr a (some x) = true then some ((k, d) :: xs) else (plugE a d xs).map ((k, x) :: ·)
def plug (a : Nat) (d : D) (t : D) : Option D := match t with
  | .list xs => (plugs a d xs).map .list
  | .dict es => (plugE a d es).map .dict
  | _ => none
def gvE (j x a : Nat) (d : D) (ρ : Ev) : Option Ev := match ρ[x]? with
  | some (some ⟨.imm, t⟩) => if isPtr a (some t) = true ∧ nov ρ = true then some ((ρ.set j none).set x (some ⟨.own, d⟩)) else none
  | some (some ⟨.own, t⟩) => (match plug a d t with
    | some t' => if nov ρ = true then some ((ρ.set j none).set x (some ⟨.own, t'⟩)) else none
    | none => none)
  | some (some ⟨.brw, t⟩) => (match plug a d t with
    | some t' => if nov ρ = true then some ((ρ.set j none).set x (some ⟨.brw, t'⟩)) else none
    | none => none)
  | _ => none
def gvS (j x a : Nat) (d : D) : SR → SR
  | .next ρ => (match gvE j x a d ρ with
    | some ρ' => .next ρ'
    | none => .bad)
  | _ => .bad
noncomputable def sGive (j x : Nat) (s : Stx) : Stx := fun ρ => match ρ[j]? with
  | some (some ⟨.own, .list ds⟩) => if j ≠ x then ali fun a => gvS j x a (.list ds) (s (ρ.set j (some ⟨.imm, ptrD a⟩))) else .bad
  | _ => .bad
theorem plugs_at {a : Nat} {d : D} : ∀ {ds ds' : List D}, plugs a d ds = some ds' → ∃ i, ds[i]? = some (ptrD a) ∧ ds' = ds.set i d
  | [], _, h => by cases h
  | x :: xs, ds', h => by
    unfold plugs at h
    by_cases c : isPtr a (some x) = true
    · rw [if_pos c] at h
      cases h
      have e := Option.some.inj (isPtr_ok c)
      exact ⟨0, by rw [e]; rfl, rfl⟩
    · rw [if_neg c] at h
      cases e : plugs a d xs with
      | none => rw [e] at h; cases h
      | some ys =>
        rw [e] at h
        cases h
        obtain ⟨i, h1, h2⟩ := plugs_at e
        exact ⟨i + 1, by simpa using h1, by rw [h2]; rfl⟩
theorem plugE_at {a : Nat} {d : D} : ∀ {es es' : List (D × D)}, plugE a d es = some es' → es'.map (·.1) = es.map (·.1) ∧ ∃ i, (es.map (·.2))[i]? = some (ptrD a) ∧ es'.map (·.2) = (es.map (·.2)).set i d
  | [], _, h => by cases h
  | (k, x) :: xs, es', h => by
    unfold plugE at h
    by_cases c : isPtr a (some x) = true
    · rw [if_pos c] at h
      cases h
      have e := Option.some.inj (isPtr_ok c)
      exact ⟨rfl, 0, by rw [e]; rfl, rfl⟩
    · rw [if_neg c] at h
      cases e : plugE a d xs with
      | none => rw [e] at h; cases h
      | some ys =>
        rw [e] at h
        cases h
        obtain ⟨h0, i, h1, h2⟩ := plugE_at e
        refine ⟨by simp [h0], i + 1, by simpa using h1, ?_⟩
        show x :: ys.map (·.2) = x :: ((xs.map (·.2)).set i d)
        rw [h2]
section
variable {K : PySem.W.Frag} {E : XK} {Z O H : Hp} {σ : St} {ρ ρ' : Ev} {F : List Addr} {j x : Nat} {a : Addr} {d : D}
theorem plugs_ok {xs : List V} {ds ds' : List D} {G Gd : List Addr} (q : Owns K Z H xs ds G) (w : Own K Z H (.ref a) d Gd) (h : plugs a d ds = some ds') : ∃ G', Owns K Z H xs ds' G' ∧ G'.Perm (G ++ Gd) := by
  obtain ⟨i, h1, rfl⟩ := plugs_at h
  obtain ⟨y, A, G0, B, e1, e2, e3, e4⟩ := q.at h1
  obtain ⟨rfl, rfl⟩ := e3.ptr_inv
  have z := e4 Z H (.ref a) d Gd (Same.refl _) (fun a _ o h _ => h) w
  rw [set_same e1] at z
  refine ⟨_, z, ?_⟩
  rw [e2, List.nil_append, List.append_assoc]
  exact List.Perm.append_left A List.perm_append_comm
theorem plug_ok {v : V} {t t' : D} {G Gd : List Addr} (q : Own K Z H v t G) (w : Own K Z H (.ref a) d Gd) (h : plug a d t = some t') : ∃ G', Own K Z H v t' G' ∧ G'.Perm (G ++ Gd) := by
  unfold plug at h
  cases t with
  | list xs =>
    simp only at h
    cases e : plugs a d xs with
    | none => rw [e] at h; cases h
    | some ys =>
      rw [e] at h
      cases h
      obtain ⟨b, vs, G0, rfl, hb, qs, rfl⟩ := q.lst_inv
      obtain ⟨G', q', pm⟩ := plugs_ok qs w e
      exact ⟨b :: G', .lst hb q', List.Perm.cons b pm⟩
  | dict es =>
    simp only at h
    cases e : plugE a d es with
    | none => rw [e] at h; cases h
    | some es' =>
      rw [e] at h
      cases h
      obtain ⟨k1, i, h1, h2⟩ := plugE_at e
      have core : ∀ {vs : List V} {G0 : List Addr}, Owns K Z H vs (es.map (·.2)) G0 → ∃ G', Owns K Z H vs (es'.map (·.2)) G' ∧ G'.Perm (G0 ++ Gd) := fun {vs G0} qs => by
        obtain ⟨y, A, G1, B, e1, e2, e3, e4⟩ := qs.at h1
        obtain ⟨rfl, rfl⟩ := e3.ptr_inv
        have z := e4 Z H (.ref a) d Gd (Same.refl _) (fun a _ o h _ => h) w
        rw [set_same e1] at z
        rw [h2]
        refine ⟨_, z, ?_⟩
        rw [e2, List.nil_append, List.append_assoc]
        exact List.Perm.append_left A List.perm_append_comm
      generalize hd : PyData.dict es = t at q
      cases q with
      | imm r p =>
        subst hd
        generalize hd2 : PyData.dict es = t2 at r
        cases r with
        | ptr b =>
          unfold ptrD at hd2
          cases hd2
          simp [plugE, isPtr] at e
        | scr _ _ => cases hd2; cases p
        | dct hh k r =>
          cases hd2
          rename_i bb kvs
          cases hkv : kvs with
          | nil => subst hkv; simp at k; subst k; cases p
          | cons y ys =>
            subst hkv
            cases es with
            | nil => simp at k
            | cons e0 es =>
              obtain ⟨k1, v1⟩ := e0
              simp only [List.map_cons, List.cons.injEq] at k
              obtain ⟨k0, _⟩ := k
              obtain ⟨y1, y2⟩ := y
              subst k0
              cases y1 <;> cases p
        | obj _ _ _ _ => cases hd2; cases p
        | _ => cases hd2
      | lst _ _ => cases hd
      | dct hh k r =>
        cases hd
        obtain ⟨G', q', pm⟩ := core r
        exact ⟨_ :: G', .dct hh (by rw [k1]; exact k) q', List.Perm.cons _ pm⟩
      | obj hh hh2 c k r =>
        cases hd
        rename_i es0 _
        cases es' with
        | nil => simp at k1
        | cons e0 es'' =>
          obtain ⟨ka, va⟩ := e0
          simp only [List.map_cons, List.cons.injEq] at k1
          obtain ⟨k1, k2⟩ := k1
          cases i with
          | zero => simp [ptrD] at h1
          | succ i =>
            simp only [List.map_cons, List.set_cons_succ, List.cons.injEq] at h2
            obtain ⟨h2, h3⟩ := h2
            have h1' : (es0.map (·.2))[i]? = some (ptrD a) := by simpa using h1
            obtain ⟨y, A, G1, B, e1, e2, e3, e4⟩ := r.at h1'
            obtain ⟨rfl, rfl⟩ := e3.ptr_inv
            have z := e4 Z H (.ref a) d Gd (Same.refl _) (fun a _ o h _ => h) w
            rw [set_same e1, ← h3] at z
            subst k1 h2
            refine ⟨_, .obj hh hh2 c (by rw [k2]; exact k) z, ?_⟩
            rw [e2, List.nil_append]
            refine List.Perm.cons _ (List.Perm.cons _ ?_)
            show (A ++ (Gd ++ B)).Perm ((A ++ B) ++ Gd)
            rw [List.append_assoc]
            exact List.Perm.append_left A List.perm_append_comm
  | _ => cases h
theorem gvE_some (h : gvE j x a d ρ = some ρ') : nov ρ = true ∧ ∃ s t s' t', ρ[x]? = some (some ⟨s, t⟩) ∧ ρ' = (ρ.set j none).set x (some ⟨s', t'⟩) ∧ ((s = .imm ∧ t = ptrD a ∧ s' = .own ∧ t' = d) ∨ ((s = .own ∨ s = .brw) ∧ s' = s ∧ plug a d t = some t')) := by
  unfold gvE at h
  split at h
  · rename_i t e
    by_cases c : isPtr a (some t) = true ∧ nov ρ = true
    · rw [if_pos c] at h
      cases h
      exact ⟨c.2, _, _, _, _, e, rfl, .inl ⟨rfl, Option.some.inj (isPtr_ok c.1), rfl, rfl⟩⟩
    · rw [if_neg c] at h; cases h
  · rename_i t e
    cases p : plug a d t with
    | none => rw [p] at h; cases h
    | some t' =>
      rw [p] at h
      simp only at h
      by_cases c : nov ρ = true
      · rw [if_pos c] at h
        cases h
        exact ⟨c, _, _, _, _, e, rfl, .inr ⟨.inl rfl, rfl, p⟩⟩
      · rw [if_neg c] at h; cases h
  · rename_i t e
    cases p : plug a d t with
    | none => rw [p] at h; cases h
    | some t' =>
      rw [p] at h
      simp only at h
      by_cases c : nov ρ = true
      · rw [if_pos c] at h
        cases h
        exact ⟨c, _, _, _, _, e, rfl, .inr ⟨.inr rfl, rfl, p⟩⟩
      · rw [if_neg c] at h; cases h
  · cases h
theorem gv_ok {G : List Addr} (rl : Rel K Z O H σ ρ F) (jx : j ≠ x) (w : Own K Z H (.ref a) d G) (nG : G.Nodup) (dj : ∀ c ∈ G, c ∉ F) (oG : ∀ c ∈ G, O c = none) (h : gvE j x a d ρ = some ρ') :
    ∃ F', Rel K Z O H σ ρ' F' ∧ nov ρ' = true ∧ (∀ c ∈ F', c ∈ F ∨ c ∈ G) ∧ ∀ (m : Nat) (dm : D), m ≠ j → ρ[m]? = some (some (R.mk .brw dm)) → ∃ d', ρ'[m]? = some (some (R.mk .brw d')) := by
  obtain ⟨n, s, t, s', t', e1, rfl, cs⟩ := gvE_some h
  obtain ⟨hlx, _⟩ := List.getElem?_eq_some_iff.mp e1
  -- slot j emptied
  have sj : ∃ F0, Rel K Z O H σ (ρ.set j none) F0 ∧ ∀ c ∈ F0, c ∈ F := by
    by_cases hl : j < ρ.length
    · obtain ⟨y, y', F1, G1, F2, h1, h2, h3, h4, h5⟩ := rl.sl.focus hl
      have sl := h5 y none [] Z O H (Same.refl _) (Same.refl _) (.inl fun _ _ q _ => q) (fun a _ o q _ => q) (by cases y <;> rfl)
      rw [set_same h1] at sl
      have sb : (F1 ++ ([] ++ F2)).Sublist F := by
        rw [h3, List.nil_append]
        exact List.Sublist.append (List.Sublist.refl _) (List.sublist_append_right _ _)
      exact ⟨_, ⟨rl.g, rl.nd.sublist sb, fun c hc => rl.fo c (sb.subset hc), sl, rl.tb⟩, fun c hc => sb.subset hc⟩
    · have : ρ.set j none = ρ := List.set_eq_of_length_le (by omega)
      rw [this]
      exact ⟨F, rl, fun c hc => hc⟩
  obtain ⟨F0, rl0, sb0⟩ := sj
  have n0 : nov (ρ.set j none) = true := nov_set n fun d e => by cases e
  have ex : (ρ.set j none)[x]? = some (some ⟨s, t⟩) := by rw [List.getElem?_set_ne jx]; exact e1
  obtain ⟨hl0, _⟩ := List.getElem?_eq_some_iff.mp ex
  obtain ⟨y, y', F1, G1, F2, h1, h2, h3, h4, h5⟩ := rl0.sl.focus hl0
  rw [ex] at h2
  cases h2
  have brw : ∀ (m : Nat) (dm : D), m ≠ j → ρ[m]? = some (some (R.mk .brw dm)) → (s' = s ∨ s ≠ .brw) → ∃ d', ((ρ.set j none).set x (some ⟨s', t'⟩))[m]? = some (some (R.mk .brw d')) := fun m dm hm hb hs => by
    by_cases mx : x = m
    · subst mx
      rw [e1] at hb
      cases hb
      rcases hs with rfl | hs
      · exact ⟨t', List.getElem?_set_self (by simpa using hlx)⟩
      · exact absurd rfl hs
    · exact ⟨dm, by rw [List.getElem?_set_ne mx, List.getElem?_set_ne (Ne.symm hm)]; exact hb⟩
  have dj0 : ∀ c ∈ G, c ∉ F0 := fun c hc z => dj c hc (sb0 c z)
  have nd0 := rl0.nd
  rw [h3] at nd0
  obtain ⟨m1, m2, m3⟩ := List.nodup_append.mp nd0
  obtain ⟨m4, m5, m6⟩ := List.nodup_append.mp m2
  have fin : ∀ {Gn : List Addr}, (∃ v, y = some v ∧ Own K Z H v t' Gn) → (s' = .own ∨ s' = .brw) → Gn.Nodup → (∀ c ∈ Gn, c ∈ G1 ∨ c ∈ G) →
      ∃ F', Rel K Z O H σ ((ρ.set j none).set x (some ⟨s', t'⟩)) F' ∧ nov ((ρ.set j none).set x (some ⟨s', t'⟩)) = true ∧ ∀ c ∈ F', c ∈ F ∨ c ∈ G := fun {Gn} hv hs nn sub => by
    obtain ⟨v, rfl, ov⟩ := hv
    have sl := h5 (some v) (some ⟨s', t'⟩) Gn Z O H (Same.refl _) (Same.refl _) (.inl fun _ _ q _ => q) (fun a _ o q _ => q) (by rcases hs with rfl | rfl <;> exact .inl ov)
    rw [set_same h1] at sl
    have inF : ∀ c ∈ F1 ++ (Gn ++ F2), c ∈ F ∨ c ∈ G := fun c hc => by
      rcases List.mem_append.mp hc with hc | hc
      · exact .inl (sb0 c (by rw [h3]; simp [hc]))
      · rcases List.mem_append.mp hc with hc | hc
        · exact (sub c hc).imp (fun z => sb0 c (by rw [h3]; simp [z])) id
        · exact .inl (sb0 c (by rw [h3]; simp [hc]))
    refine ⟨_, ⟨rl.g, ?_, fun c hc => (inF c hc).elim (rl.fo c) (oG c), sl, rl.tb⟩, nov_set n0 fun d' e => ?_, inF⟩
    · rw [List.nodup_append]
      refine ⟨m1, ?_, fun c hc b hb e => ?_⟩
      · rw [List.nodup_append]
        refine ⟨nn, m5, fun c hc b hb e => ?_⟩
        subst e
        rcases sub c hc with z | z
        · exact m6 c z c hb rfl
        · exact dj0 c z (by rw [h3]; simp [hb])
      · subst e
        rcases List.mem_append.mp hb with hb | hb
        · rcases sub c hb with z | z
          · exact m3 c hc c (List.mem_append_left _ z) rfl
          · exact dj0 c z (by rw [h3]; simp [hc])
        · exact m3 c hc c (List.mem_append_right _ hb) rfl
    · cases e
      rcases hs with z | z <;> cases z
  rcases cs with ⟨rfl, rfl, rfl, rfl⟩ | ⟨hs, rfl, hp⟩
  · cases y with
    | none => exact h4.elim
    | some v =>
      have h6 : Rep K Z v (ptrD a) ∧ G1 = [] := RepS.rep h4 nofun
      have e6 : v = .ref a := (Own.ptr_inv (H := H) (.imm h6.1 rfl)).1
      subst e6
      obtain ⟨F', r1, r2, r3⟩ := fin ⟨_, rfl, w⟩ (.inl rfl) nG fun c hc => .inr hc
      exact ⟨F', r1, r2, r3, fun m dm hm hb => brw m dm hm hb (.inr fun z => by cases z)⟩
  · cases y with
    | none => exact h4.elim
    | some v =>
      have ov : Own K Z H v t G1 := by rcases hs with rfl | rfl <;> exact RepS.rep h4 nofun
      obtain ⟨Gn, on', pm⟩ := plug_ok ov w hp
      have nn : (G1 ++ G).Nodup := by
        rw [List.nodup_append]
        exact ⟨m4, nG, fun c hc b hb e => by subst e; exact dj0 c hb (by rw [h3]; simp [hc])⟩
      obtain ⟨F', r1, r2, r3⟩ := fin ⟨v, rfl, on'⟩ hs (pm.nodup_iff.mpr nn) fun c hc => List.mem_append.mp (pm.mem_iff.mp hc)
      exact ⟨F', r1, r2, r3, fun m dm hm hb => brw m dm hm hb (.inl rfl)⟩
end
/-! ### reckoning -/
@[simp] theorem isPtr_none {a : Nat} : isPtr a none = false := rfl
@[simp] theorem isPtr_list {a : Nat} {ds : List D} : isPtr a (some (.list ds)) = false := rfl
@[simp] theorem isPtr_lf {a : Nat} {d : D} (h : lf d = true) : isPtr a (some d) = false := by
  cases e : isPtr a (some d) with
  | false => rfl
  | true =>
    have := Option.some.inj (isPtr_ok e)
    subst this
    cases h
@[simp] theorem plugs_nil {a : Nat} {d : D} : plugs a d [] = none := rfl
@[simp] theorem plugs_cons {a : Nat} {d x : D} {xs : List D} : plugs a d (x :: xs) = if isPtr a (some x) = true then some (d :: xs) else (plugs a d xs).map (x :: ·) := rfl
@[simp] theorem plugE_nil {a : Nat} {d : D} : plugE a d [] = none := rfl
@[simp] theorem plugE_cons {a : Nat} {d k x : D} {xs : List (D × D)} : plugE a d ((k, x) :: xs) = if isPtr a (some x) = true then some ((k, d) :: xs) else (plugE a d xs).map ((k, x) :: ·) := rfl
@[simp] theorem plug_l {a : Nat} {d : D} {xs : List D} : plug a d (.list xs) = (plugs a d xs).map .list := rfl
@[simp] theorem plug_d {a : Nat} {d : D} {es : List (D × D)} : plug a d (.dict es) = (plugE a d es).map .dict := rfl
section
variable {ρ : Ev}
@[simp] theorem x_give {j x : Nat} {s : Stx} : sGive j x s ρ = (match ρ[j]? with
  | some (some ⟨.own, .list ds⟩) => if j ≠ x then ali fun a => gvS j x a (.list ds) (s (ρ.set j (some ⟨.imm, ptrD a⟩))) else .bad
  | _ => .bad) := id rfl
@[simp] theorem x_gvS {j x a : Nat} {d : D} : gvS j x a d (.next ρ) = (match gvE j x a d ρ with
    | some ρ' => .next ρ'
    | none => .bad) := id rfl
@[simp] theorem x_gvE {j x a : Nat} {d : D} : gvE j x a d ρ = (match ρ[x]? with
  | some (some ⟨.imm, t⟩) => if isPtr a (some t) = true ∧ nov ρ = true then some ((ρ.set j none).set x (some ⟨.own, d⟩)) else none
  | some (some ⟨.own, t⟩) => (match plug a d t with
    | some t' => if nov ρ = true then some ((ρ.set j none).set x (some ⟨.own, t'⟩)) else none
    | none => none)
  | some (some ⟨.brw, t⟩) => (match plug a d t with
    | some t' => if nov ρ = true then some ((ρ.set j none).set x (some ⟨.brw, t'⟩)) else none
    | none => none)
  | _ => none) := id rfl
end
@[simp] theorem isVal_ptr {a : Nat} : isVal (ptrD a) = true := rfl
@[simp] theorem ownR_ptr {a : Nat} : ownR ⟨.imm, ptrD a⟩ = some (ptrD a) := ownR_val rfl
/-! ### equality of data, reckoned -/
@[simp] theorem eqv_bb {x y : Bool} : PyData.eqv (.bool x) (.bool y) = (x == y) := by simp [PyData.eqv]
@[simp] theorem eqv_tt {xs ys : List D} : PyData.eqv (.tuple xs) (.tuple ys) = PyData.eqvAll xs ys := by simp [PyData.eqv]
@[simp] theorem eqv_ll {xs ys : List D} : PyData.eqv (.list xs) (.list ys) = PyData.eqvAll xs ys := by simp [PyData.eqv]
@[simp] theorem eqvAll_nn : PyData.eqvAll [] [] = true := by simp [PyData.eqvAll]
@[simp] theorem eqvAll_cn {x : D} {xs : List D} : PyData.eqvAll (x :: xs) [] = false := by simp [PyData.eqvAll]
@[simp] theorem eqvAll_nc {x : D} {xs : List D} : PyData.eqvAll [] (x :: xs) = false := by simp [PyData.eqvAll]
@[simp] theorem eqvAll_cc {x y : D} {xs ys : List D} : PyData.eqvAll (x :: xs) (y :: ys) = (PyData.eqv x y && PyData.eqvAll xs ys) := by simp [PyData.eqvAll]
end Oz

/-! Oz32: l.count("text"), l a list of texts. -/
namespace Oz
open PySem PySem.Spec PyProof.Rows L2
variable [WD]
/-- texts alone -/
def isSt : D → Bool
  | .str _ => true
  | _ => false
def pCnt (p : Px) (k : Str) : Px := fun ρ => (p ρ).bind fun r => match r.d with
  | .list ds => if ds.all isSt = true then .ok ⟨.imm, .int (countIn (.str k) ds)⟩ else .bad
  | _ => .bad
@[simp] theorem pCnt_eq {p : Px} {k : Str} {ρ : Ev} : pCnt p k ρ = (p ρ).bind fun r => match r.d with
  | .list ds => if ds.all isSt = true then .ok ⟨.imm, .int (countIn (.str k) ds)⟩ else .bad
  | _ => .bad := rfl
@[simp] theorem isSt_str {x : Str} : isSt (.str x) = true := rfl
end Oz

/-! Oz33: sorted(xs), xs a list of data without lists and dicts. -/
namespace Oz
open PySem PySem.Spec PyProof.Rows L2
variable [WD]
mutual
theorem lf_pl : ∀ {d : D}, lf d = true → pl d = true
  | .none, _ => rfl
  | .bool _, _ => rfl
  | .int _, _ => rfl
  | .str _, _ => rfl
  | .tuple xs, h => by
    have q : lfs xs = true := by simpa [lf] using h
    have := lfs_pls q
    simpa [pl] using this
  | .list _, h => by simp [lf] at h
  | .dict _, h => by simp [lf] at h
theorem lfs_pls : ∀ {ds : List D}, lfs ds = true → pls ds = true
  | [], _ => rfl
  | d :: ds, h => by
    have q : (_ && _) = true := h
    obtain ⟨q1, q2⟩ := Bool.and_eq_true_iff.mp q
    show (_ && _) = true
    rw [lf_pl q1, lfs_pls q2]
    rfl
end
def tupC : D → Bool
  | .tuple (_ :: _) => true
  | _ => false
def noTup : D → Bool
  | .none => false
  | .tuple _ => false
  | _ => true
def okSort (ds : List D) : Bool := lfs ds && (ds.all (fun d => ds.all fun e => PySem.W.alike d e) && ((ds.all tupC || ds.all noTup) && (ds.all (fun d => decide (d.depth ≤ 60)) && decide (ds.length ≤ sizeLine))))
def sortD (ds : List D) : List D := ds.mergeSort (PySem.W.dataLe false fun d => d)
structure OkSort (ds : List D) : Prop where
  lf : lfs ds = true
  al : PySem.W.AllAlike ds
  so : PySem.W.Sortable ds
  dp : ∀ d ∈ ds, d.depth ≤ 60
  le : ds.length ≤ sizeLine
section
open PySem.W
end
def bSorted : List R → Res R
  | [r] => (match r.d with
    | .list ds => if okSort ds = true then .ok ⟨.own, .list (sortD ds)⟩ else .bad
    | _ => .bad)
  | _ => .bad
@[simp] theorem x_sorted {s : Sx} {ds : List D} : bSorted [⟨s, .list ds⟩] = if okSort ds = true then .ok ⟨.own, .list (sortD ds)⟩ else .bad := id rfl
end Oz

/-! Oz34: a generator expression over a tuple; any and all of it (turned from the library's rules over texts). -/
namespace Oz
open PySem PySem.Spec PyProof.Rows L2
variable [WD]
/-! ### tables that grow -/
theorem codeAmong_ne {pos : Pos} {a b : Nat} {c : Value} (l : List Value) (h : TriplesOk l) (n : ¬ (a = pos.line ∧ b = pos.col)) : codeAmong pos (l ++ [rawInt a, rawInt b, c]) = codeAmong pos l := by
  fun_induction TriplesOk l with
  | case1 =>
    simp only [List.nil_append, rawInt, codeAmong]
    rw [if_neg]
    intro e
    simp only [Bool.and_eq_true, beq_iff_eq] at e
    exact n ⟨by have := e.1; omega, by have := e.2; omega⟩
  | case2 a t b u x rest ih =>
    simp only [List.cons_append, codeAmong]
    rw [ih h]
  | case3 l h1 h2 => exact h.elim
/-- the table has grown by code objects that hold none -/
def GrownF (ps ps' : Array Value) : Prop := (∃ more, ps' = ps ++ more) ∧ TriplesOk ps'.toList ∧ ∀ pos, nestP pos = true → codeAmong pos ps'.toList = codeAmong pos ps.toList
theorem GrownF.refl {ps : Array Value} (t : TriplesOk ps.toList) : GrownF ps ps := ⟨⟨#[], by simp⟩, t, fun _ _ => rfl⟩
theorem GrownF.trans {a b c : Array Value} (x : GrownF a b) (y : GrownF b c) : GrownF a c := by
  obtain ⟨⟨m, rfl⟩, _, x3⟩ := x
  obtain ⟨⟨n, rfl⟩, y2, y3⟩ := y
  exact ⟨⟨m ++ n, by rw [Array.append_assoc]⟩, y2, fun pos h => (y3 pos h).trans (x3 pos h)⟩
theorem GrownF.snoc {ps : Array Value} {gpos : Pos} {c : Value} (t : TriplesOk ps.toList) (n : nestP gpos = false) : GrownF ps (ps ++ #[rawInt gpos.line, rawInt gpos.col, c]) := by
  refine ⟨⟨_, rfl⟩, ?_, fun pos h => ?_⟩
  · rw [Array.toList_append]
    exact TriplesOk_snoc _ _ _ _ t
  · rw [Array.toList_append]
    refine codeAmong_ne _ t fun e => ?_
    have : nestP gpos = nestP pos := by unfold nestP; rw [e.1, e.2]
    rw [this, h] at n
    cases n
/-- H' is H, but that the table at P may have grown -/
structure TabbedQ (P : Addr) (H H' : Hp) : Prop where
  keep : ∀ b o, b ≠ P → H b = some o → H' b = some o
  tb : ∀ {n : Bool}, TabQ n H P → TabQ n H' P
  new : ∀ b o, H b = none → H' b = some o → fzn o = false
  g : GxR.TabG H' P
theorem TabbedQ.tab {P : Addr} {H H' : Hp} (t : TabbedQ P H H') (hP : GxR.TabG H P) {n : Bool} (b : Addr) (h : TabQ n H b) : TabQ n H' b := by
  by_cases e : b = P
  · subst e; exact t.tb h
  · obtain ⟨⟨ps, h1, h2⟩, h3⟩ := h
    obtain ⟨qs, q1, q2⟩ := hP
    refine ⟨⟨ps, t.keep b _ e h1, h2⟩, fun en ps' h4 pos cv hn h5 => ?_⟩
    rw [t.keep b _ e h1] at h4
    cases h4
    obtain ⟨c, P2, z1, z0, z2, z3⟩ := h3 en ps h1 pos cv hn h5
    refine ⟨c, P2, z1, z0, t.keep c _ (fun y => by rw [y, q1] at z2; cases z2) z2, ?_⟩
    by_cases y : P2 = P
    · rw [y]; exact t.g
    · obtain ⟨p3, w1, w2⟩ := z3
      exact ⟨p3, t.keep P2 _ y w1, w2⟩
theorem tabbed_upd {H : Hp} {P : Addr} {ps ps' : Array Value} (hP : H P = some (.tbl ps)) (gr : GrownF ps ps') : TabbedQ P H (upd H P (.tbl ps')) := by
  have tg : GxR.TabG (upd H P (.tbl ps')) P := ⟨ps', upd_same, gr.2.1⟩
  have at_ : ∀ x o, x ≠ P → H x = some o → upd H P (.tbl ps') x = some o := fun x o n h => by rw [upd_ne n]; exact h
  refine ⟨at_, fun {n} h => ⟨tg, fun en qs e pos cv hn q => ?_⟩, fun x o n h => ?_, tg⟩
  · rw [upd_same] at e
    cases e
    rw [gr.2.2 pos hn] at q
    obtain ⟨c2, P2, z1, z0, z2, z3⟩ := h.2 en ps hP pos cv hn q
    refine ⟨c2, P2, z1, z0, at_ c2 _ (fun y => by rw [y, hP] at z2; cases z2) z2, ?_⟩
    by_cases y : P2 = P
    · rw [y]; exact tg
    · obtain ⟨p3, w1, w2⟩ := z3
      exact ⟨p3, at_ P2 _ y w1, w2⟩
  · by_cases x3 : x = P
    · rw [x3, hP] at n; cases n
    · rw [upd_ne x3, n] at h; cases h
section
variable {X : Cx} {pins : List (Addr × Obj)} {σ : L2.St} {H : Hp} {s : Shared}
/-- the element at the i-th item, in the generator's own frame: a truth value, and nothing changes -/
def EltB (X : Cx) (scope : Scope) (x : Str) (elt : Expr) (P : Addr) (σ : L2.St) (H1 : Hp) (xs : List V) (pb : Nat → Bool) : Prop :=
  ∀ (pins : List (Addr × Obj)) (s1 : Shared), Inv X pins σ H1 s1 → ∀ (cenv : Env) (A' : Around) (E' : Value → Shared → Prop) (i : Nat) (y : V) (v : Value) (s₂ : Shared) (m₂ : Str → Option Value), cenv.scope = scope → cenv.cells = cloFrom X.env.cells scope.names [] →
    xs[i]? = some y → RelV y v → s₂.heap.Ns cenv.locals m₂ → m₂ x = some v → (∀ b o, b ≠ P → s1.heap.get? b = some o → s₂.heap.get? b = some o) →
    wpAny (model X.prog X.w) A' (eval elt cenv) (fun r s₃ => r = .bool (pb i) ∧ Keeps s₂ s₃) E' s₂
/-- the generator g over n items, ready to be walked, in the state s5; H1: what was held before -/
def ReadyB (X : Cx) (pins : List (Addr × Obj)) (σ : L2.St) (H1 : Hp) (P : Addr) (n : Nat) (pb : Nat → Bool) (g : Addr) (s5 : Shared) : Prop :=
  ∃ (fp wr : List Addr) (G : Array GenState → Array GenState → Prop) (F : Nat → Value → Prop) (St : Nat → Shared → Prop),
    WalksS X.prog X.w X.A.in1 g fp wr G n F St ∧ St 0 s5 ∧
    TruthOf X.prog X.w X.A.in1 F pb ∧
    ∀ s', Moved wr G s5 s' → ∃ H2, TabbedQ P H1 H2 ∧ Inv X pins σ H2 s'
theorem gen_tup {c P : Addr} {elt iter : Expr} {x : Str} {px gpos : Pos} {scope : Scope} {te : TE} {k : Nat} {Q' : Value → Shared → Prop} {R : List V → (Nat → Bool) → Hp → Prop}
    (hr : Room k X.A) (TB : GxR.TabB X.base X.mg c P) (hcode : X.env.code = .ref c) (S : GxR.GenS X.env scope x) (hi : PE X iter te)
    (hnp : nestP gpos = false) (hs : ∀ v, genFold iter X.env v = pure v) (I : Inv X pins σ H s) (h : te σ H fun v H1 => ∃ (yl : Addr) (xs : List V) (pb : Nat → Bool), v = .ref yl ∧ SqT X.K H1 yl xs ∧ GxR.TabG H1 P ∧ EltB X scope x elt P σ H1 xs pb ∧ R xs pb H1)
    (hQ : ∀ xs pb H1 g s5, R xs pb H1 → ReadyB X pins σ H1 P xs.length pb g s5 → Q' (.ref g) s5) :
    wpAny (model X.prog X.w) X.A (eval (.GeneratorExp elt [⟨.Name x px, iter, [], 0⟩] scope gpos) X.env) Q' X.xe s := by
  refine wpAny_GeneratorExp_walksQ hr.hd S.co (closure_ok S.free) S.cell S.dot S.loc S.kind (by have := hr.dp; omega) ?_ hs
  refine thn (hi.run pins s σ H _ I h) fun xv s1 ⟨v, H1, I1, r1, q1⟩ => ?_
  obtain ⟨yl, xs, pb, rfl, hyl, ⟨ps, hP, ht⟩, hel, q1⟩ := q1
  obtain rfl : xv = Value.ref yl := r1
  obtain ⟨its, rv, hl, hz⟩ := I1.tuple hyl
  have hIL : s1.heap.IsTuple yl its.toArray := hl
  have hlen : its.length = xs.length := by rw [← rv.length]
  have hat : ∀ (i : Nat) (v : Value), its.toArray[i]? = some v → ∃ y, xs[i]? = some y ∧ RelV y v := fun i v hv => by
    have hv2 : its[i]? = some v := by simpa using hv
    have hi2 : i < its.length := (List.getElem?_eq_some_iff.mp hv2).1
    obtain ⟨y, hy⟩ : ∃ y, xs[i]? = some y := ⟨xs[i]'(by omega), List.getElem?_eq_getElem _⟩
    obtain ⟨u, hu, ru⟩ := rv.get hy
    rw [hv2] at hu
    cases hu
    exact ⟨y, hy, ru⟩
  refine wpAny_pyIter_tuple hIL ?_
  generalize ho : ({ cls := .type "tuple_iterator", data := .fields #[.ref yl, .int 0 0] } : Obj) = o
  have hitr : (s1.heap.push o).IsTupleIter s1.heap.objs.size yl 0 := by
    subst ho
    exact ⟨_, Heap.get?_push_size _ rfl, rfl, rfl⟩
  have hylt : yl < s1.heap.objs.size := by
    obtain ⟨_, e, _⟩ := _root_.id hIL
    exact Heap.lt_size e
  have hPs : s1.heap.get? P = some { cls := .none, data := .fields ps } := I1.hok P _ hP
  have hPlt : P < s1.heap.objs.size := Heap.lt_size hPs
  have hP2 : (s1.heap.push o).get? P = some { cls := .none, data := .fields ps } := Heap.get?_push_of_some _ hPs
  have cd : PySem.W.CodeHd (s1.heap.push o) c P := TB.code.keeps fun b u e => Heap.get?_push_of_some _ (I1.bk b u e)
  have lim2 : (s1.heap.push o).NoLimit := I1.nolimit.push o
  have cont : ∀ (code : Value) (h3 : Heap) (tk : Nat) (ps' : Array Value), Heap.ExtBut P (s1.heap.push o) h3 → (s1.heap.push o).objs.size ≤ h3.objs.size → h3.get? P = some { cls := .none, data := .fields ps' } → GrownF ps ps' →
      wpAny (model X.prog X.w) X.A (builtinsFor X.env.globals X.env.builtins) (fun bi s₄ =>
        ∃ Ia fp wr n₀ Pf St₀ pz F, Value.ref s1.heap.objs.size = .ref Ia ∧ (∀ A' : Around, A'.handled = none → Walks X.prog X.w A' Ia fp wr n₀ Pf St₀) ∧ St₀ 0 s₄.heap ∧ (∀ b ∈ fp, b < s₄.heap.objs.size) ∧ s₄.heap.NoLimit ∧ cStatics ∉ wr ∧
          (∀ href : Heap, (∀ b o, s₄.heap.get? b = some o → href.get? b = some o) →
            QuietGen X.prog X.w (genEnv scope (cloFrom X.env.cells scope.names []) s₄.heap.objs.size code bi X.env) x [] elt (List.range s₄.heap.objs.size) wr Pf pz F href) ∧
          (∀ a h₅ tk gs, gs.bare = true → s₄.heap.objs.size < a → h₅.objs.size = a + 1 → (∀ b o, s₄.heap.get? b = some o → h₅.get? b = some o) →
            WalksS X.prog X.w X.A.in4 a (a :: s₄.heap.objs.size :: List.range s₄.heap.objs.size) (s₄.heap.objs.size :: wr) (GenOnlyQ s₄.gens.size) (passing pz n₀ 0).length
              (fun j y => ∃ i, (passing pz n₀ 0)[j]? = some i ∧ F i y) (GenAt X.prog X.w X.A.in4 a s₄.gens.size s₄.heap.objs.size (List.range s₄.heap.objs.size) wr pz n₀ F) →
            GenAt X.prog X.w X.A.in4 a s₄.gens.size s₄.heap.objs.size (List.range s₄.heap.objs.size) wr pz n₀ F 0 { s₄ with gens := s₄.gens.push gs, toks := tk, heap := h₅ } →
            Q' (.ref a) { s₄ with gens := s₄.gens.push gs, toks := tk, heap := h₅ })) X.xe { s1 with heap := h3, toks := tk } := by
    intro code h3 tk ps' hx hsz hP3 hgr
    obtain ⟨bm, ob, e1, e2, e3, e4, e5, e6, e7, e8⟩ := TB.bm
    have hcP : cStatics ≠ P := fun e => by
      obtain ⟨_, hns, _⟩ := I1.nolimit
      obtain ⟨o', es, ep, ho, hd, _⟩ := hns
      rw [e, hPs] at ho
      cases ho
      cases hd
    have hcl : cStatics < s1.heap.objs.size := let ⟨_, hns, _⟩ := I1.nolimit; hns.lt
    have sz2 : (s1.heap.push o).objs.size = s1.heap.objs.size + 1 := Heap.size_push ..
    have keep3 : ∀ b u, b ≠ P → s1.heap.get? b = some u → h3.get? b = some u := fun b u hb e => hx b u hb (Heap.get?_push_of_some _ e)
    refine wpAny_builtinsFor (m := X.mg) (by rw [I1.ok.glob]; exact ((I1.mod.glob.keeps I1.bk).push o).extBut hx TB.gP) e1 e2 (keep3 _ _ e4 (I1.bk _ _ e5)) e6 e7 e8 ?_
    have hylP : yl ≠ P := fun z => by
      obtain ⟨_, e, hc1, _, hd1⟩ := _root_.id hIL
      rw [z, hPs] at e
      cases e
      cases hd1
    have hIL3 : h3.IsTuple yl its.toArray := by
      obtain ⟨ob, e, r⟩ := _root_.id hIL
      exact ⟨ob, keep3 _ _ hylP e, r⟩
    have hItr3 : h3.IsTupleIter s1.heap.objs.size yl 0 := hitr.at fun u e => hx _ u (Nat.ne_of_gt hPlt) e
    refine ⟨s1.heap.objs.size, [s1.heap.objs.size, yl], [s1.heap.objs.size], its.toArray.size, (fun i v => its.toArray[i]? = some v), (fun i h => h.IsTupleIter s1.heap.objs.size yl i ∧ h.IsTuple yl its.toArray), (fun _ => true),
      (fun i y => i < xs.length ∧ y = .bool (pb i)), rfl, (fun A' hA => Walks.tuple hA _ _ (Nat.ne_of_lt hylt) _), ⟨hItr3, hIL3⟩, ?_, lim2.extBut hx hcP, ?_, ?_, ?_⟩
    · intro b hb
      rcases List.mem_cons.mp hb with z | z
      · rw [z]
        show s1.heap.objs.size < h3.objs.size
        omega
      · rcases List.mem_cons.mp z with z | z
        · rw [z]
          have e9 : s1.heap.objs.size ≤ h3.objs.size := by omega
          exact Nat.lt_of_lt_of_le hylt e9
        · cases z
    · intro z
      rcases List.mem_cons.mp z with z | z
      · exact Nat.ne_of_lt hcl z
      · cases z
    · intro href hhref
      refine ⟨fun A' E' i v s₂ m₂ hA hPv hn hm hk => ?_, fun A' E' i v s₂ m₂ hA hPv hp hn hm hk => ?_⟩
      · simp only [List.forIn_nil]
        exact wpAny_pure ⟨rfl, GxR.keeps_refl _⟩
      · obtain ⟨y, hy, ry⟩ := hat i v hPv
        refine wpAny_mono (hel pins s1 I1 _ A' E' i y v s₂ m₂ rfl rfl hy ry hn hm fun b o hb e => ?_) (fun r s3 q => ⟨⟨(List.getElem?_eq_some_iff.mp hy).1, q.1⟩, q.2⟩) fun _ _ e => e
        have hb3 := keep3 b o hb e
        have hlt := Heap.lt_size e
        refine hk b (List.mem_range.mpr (Heap.lt_size hb3)) (fun z => ?_) o (hhref b o hb3)
        rcases List.mem_cons.mp z with z | z
        · rw [z] at hlt
          exact Nat.lt_irrefl _ hlt
        · cases z
    · intro g h5 tk5 gs hgb hag hsz5 hk5 W5 hgat
      simp only [GxR.passing_true, List.length_range] at W5
      have hn5 : its.toArray.size = xs.length := by rw [List.size_toArray, hlen]
      rw [hn5] at W5 hgat
      refine hQ xs pb H1 g _ q1 ⟨_, _, _, _, _, W5.in4_1, hgat, ?_, fun s' hm => ?_⟩
      · intro j y sj Qj Ej hy hQj
        obtain ⟨i, hij, hlt, rfl⟩ := hy
        obtain ⟨hj, ej⟩ := List.getElem?_eq_some_iff.mp hij
        rw [List.getElem_range] at ej
        subst ej
        exact wpAny_truthy_bool hQj
      · obtain ⟨more, em⟩ := hgr.1
        have nwr : ∀ b u, s1.heap.get? b = some u → b ∉ h3.objs.size :: [s1.heap.objs.size] := fun b u e hb => by
          have hl := Heap.lt_size e
          rcases List.mem_cons.mp hb with z | z
          · rw [z] at hl
            have h9 : (h3.objs.size : Nat) < s1.heap.objs.size := hl
            omega
          · rcases List.mem_cons.mp z with z | z
            · rw [z] at hl
              exact Nat.lt_irrefl _ hl
            · cases z
        have J := GxR.inv_tab (more := more) (h' := s'.heap) (g' := s'.gens) (d' := s'.drawn) (t' := s'.toks) I1 hP (fun b u hb e => hm.heap b u (nwr b u e) (hk5 b u (keep3 b u hb e)))
          (by rw [← em]; exact hm.heap P _ (nwr P _ hPs) (hk5 P _ hP3)) (AllBare.movedS (I1.bare.push hgb) hm)
        rw [GxR.sh_eta s1 s' hm.os] at J
        rw [← em] at J
        exact ⟨upd H1 P (.tbl ps'), tabbed_upd hP hgr, J⟩
  refine ⟨lim2, ?_⟩
  cases hf : codeAmong gpos ps.toList with
  | none =>
    refine wpAny_genexprCodeX hcode (cd.code hP2 ht) (cd.tab hP2) hf fun c' h' tk hx hge hlt hco' _ htab' _ => ?_
    obtain ⟨o1, vs, f1, tf, fl, tg, inF, tx, tt, op, _, _, _, _, _, _, _, _, _, htr, _⟩ := hco'
    exact cont _ h' tk _ hx (Nat.le_trans hge (Nat.le_of_lt hlt)) htab'.2 (GrownF.snoc ht hnp)
  | some cv =>
    refine wpAny_genexprCode_hit hcode (cd.code hP2 ht) hf ?_
    exact cont cv (s1.heap.push o) s1.toks ps (Heap.ExtBut.refl _ _) (Nat.le_refl _) hP2 (GrownF.refl ht)
/-- any(elt for x in e), all(elt for x in e), e a tuple; behind it the def's table may have grown -/
def tAnyT (X : Cx) (scope : Scope) (x : Str) (elt : Expr) (P : Addr) (all : Bool) (te : TE) : TE := fun σ H Q => te σ H fun v H1 => ∃ (yl : Addr) (xs : List V) (pb : Nat → Bool), v = .ref yl ∧ SqT X.K H1 yl xs ∧ GxR.TabG H1 P ∧ EltB X scope x elt P σ H1 xs pb ∧
  ∀ H2, TabbedQ P H1 H2 → Q (.bl (if all = true then (List.range xs.length).all pb else (List.range xs.length).any pb)) H2
theorem pe_anyT {c P : Addr} {elt iter : Expr} {x : Str} {px p pos gpos : Pos} {scope : Scope} {te : TE} {k : Nat}
    (hr : Room k X.A) (hg : Gl X "any") (hm : X.mg "any" = none) (TB : GxR.TabB X.base X.mg c P) (hcode : X.env.code = .ref c) (S : GxR.GenS X.env scope x) (hi : PE X iter te)
    (hnp : nestP gpos = false) (hs : ∀ v, genFold iter X.env v = pure v)
    (he : starEach [.GeneratorExp elt [⟨.Name x px, iter, [], 0⟩] scope gpos] X.env = (false, eval (.GeneratorExp elt [⟨.Name x px, iter, [], 0⟩] scope gpos) X.env) :: starEach [] X.env := by rfl) :
    PE X (.Call (.Name "any" p) [.GeneratorExp elt [⟨.Name x px, iter, [], 0⟩] scope gpos] [] pos) (tAnyT X scope x elt P false te) := by
  refine ⟨fun pins s σ H Q I h => ?_⟩
  refine wpAny_Call_Name_kw (ld_blt I hg hm boot_any ?_)
  refine PyProof.Rows.callWith_builtin1 ?_ he (by rfl)
  rw [he]
  show wpAny _ _ (spliced ((false, eval (.GeneratorExp elt [⟨.Name x px, iter, [], 0⟩] scope gpos) X.env) :: backTo pos (starEach [] X.env))) _ _ s
  refine Calls.spliced_cons (gen_tup (R := fun xs pb H1 => ∀ H2, TabbedQ P H1 H2 → Q (.bl ((List.range xs.length).any pb)) H2) hr TB hcode S hi hnp hs I h fun xs pb H1 g s5 hR hG => ?_)
  obtain ⟨fp, wr, G, F, St, W, hst, htr, hI⟩ := hG
  refine Calls.spliced_nil ?_
  refine call_any_walkS (W.self 0 _ _ _ hst ⟨g, fp, wr, G, _, F, St, _, rfl, W, hst, htr, fun s' hmv => ?_⟩)
  obtain ⟨H2, hT, J⟩ := hI s' hmv
  exact ⟨.bl _, H2, J, rfl, hR H2 hT⟩
/-- the layer's frame behind a grown table -/
theorem Rel.tabbed {Z O H1 H2 : Hp} {ρ : Ev} {F : List Addr} {P : Addr} (r : Rel X.K Z O H1 σ ρ F) (hP : GxR.TabG H1 P) (t : TabbedQ P H1 H2) : Ext [] Z O H1 Z O H2 ∧ Good Z O H2 := by
  obtain ⟨ps, hp, hq⟩ := _root_.id hP
  have same : ∀ b o, H1 b = some o → (∀ ps, o ≠ .tbl ps) → H2 b = some o := fun b o h n => t.keep b o (fun e => by
    rw [e, hp] at h
    cases h
    exact absurd rfl (n _)) h
  refine ⟨⟨⟨same, fun b h => ?_, t.tab hP⟩, Same.refl _, Same.refl _, fun _ h => .inl h, fun _ h => .inl h⟩, ⟨r.g.zo, fun b o h => same b o (r.g.oh b o h) fun ps e => r.g.nt b ps (by rw [h, e]), fun b o h f => ?_, r.g.nt⟩⟩
  · by_cases e : b = P
    · obtain ⟨ps2, h2, _⟩ := t.g
      rw [e, h2] at h
      cases h
    · cases q : H1 b with
      | none => rfl
      | some o => rw [t.keep b o e q] at h; cases h
  · by_cases e : b = P
    · obtain ⟨ps2, h2, _⟩ := t.g
      rw [e, h2] at h
      cases h
      cases f
    · cases q : H1 b with
      | none => rw [t.new b o q h] at f; cases f
      | some u =>
        rw [t.keep b u e q] at h
        obtain rfl := Option.some.inj h
        exact r.g.tz b _ q f
end
end Oz

/-! Oz35: elements of a generator expression, by values: its own name, captured names, t[i], ==. -/
namespace Oz
open PySem PySem.Spec PyProof.Rows L2
variable [WD]
/-- the generator's own frame: x stands for v, which reads as d; captured names read as cap tells -/
structure GF (cenv : Env) (x : Str) (s : Shared) (v : Value) (d : D) (cap : List (Str × D)) : Prop where
  kd : cenv.scope.kind = .function
  xl : cenv.kindOf x = some .local
  ns : ∃ m, s.heap.Ns cenv.locals m ∧ m x = some v
  it : ∃ as, Reads s.heap v d as
  cp : ∀ y dy, cap.lookup y = some dy → cenv.kindOf y = some .free ∧ ∃ c u as, cenv.cells.lookup y = some c ∧ s.heap.IsCell c (some u) ∧ Reads s.heap u dy as
theorem GF.keeps {cenv : Env} {x : Str} {s s' : Shared} {v : Value} {d : D} {cap : List (Str × D)} (g : GF cenv x s v d cap) (k : Keeps s s') : GF cenv x s' v d cap := by
  obtain ⟨h', tk, rfl, k⟩ := k
  obtain ⟨m, hn, hm⟩ := g.ns
  obtain ⟨as, ra⟩ := g.it
  refine ⟨g.kd, g.xl, ⟨m, hn.keeps k, hm⟩, ⟨as, PyProof.Rows.Reads.keeps k ra⟩, fun y dy e => ?_⟩
  obtain ⟨h1, c, u, bs, h2, h3, h4⟩ := g.cp y dy e
  refine ⟨h1, c, u, bs, h2, ?_, PyProof.Rows.Reads.keeps k h4⟩
  obtain ⟨o, e1, e2⟩ := h3
  exact ⟨o, k _ _ e1, e2⟩
abbrev ElF := D → List (Str × D) → Option D
def ElV (prog : Program) (w : World) (x : Str) (e : Expr) (f : ElF) : Prop := ∀ (cenv : Env) (A' : Around) (E' : Value → Shared → Prop) (s : Shared) (v : Value) (d : D) (cap : List (Str × D)) (d' : D), GF cenv x s v d cap → f d cap = some d' →
  wpAny (model prog w) A' (eval e cenv) (fun r s' => (∃ as, Reads s'.heap r d' as) ∧ Keeps s s') E' s
theorem keeps_trans {a b c : Shared} (h : Keeps a b) (k : Keeps b c) : Keeps a c := by
  obtain ⟨h1, t1, rfl, k1⟩ := h
  obtain ⟨h2, t2, rfl, k2⟩ := k
  exact ⟨h2, t2, rfl, fun b o e => k2 b o (k1 b o e)⟩
section
variable {prog : Program} {w : World} {x : Str} {pos : Pos}
def eX : ElF := fun d _ => some d
def eCap (y : Str) : ElF := fun _ c => c.lookup y
def eInt (i : Int) : ElF := fun _ _ => some (.int i)
def eIx (f g : ElF) : ElF := fun d c => match f d c, g d c with
  | some (.tuple ds), some (.int i) => if ds.length ≤ sizeLine then atI ds i else none
  | _, _ => none
def eEq (f g : ElF) : ElF := fun d c => match f d c, g d c with
  | some (.int i), some (.int j) => some (.bool (i == j))
  | _, _ => none
theorem el_x (hd : (x == ("__debug__" : Str)) = false := by decide) : ElV prog w x (.Name x pos) eX := by
  intro cenv A' E' s v d cap d' g e
  cases e
  obtain ⟨m, hn, hm⟩ := g.ns
  exact wpAny_Name (wpAny_loadName_local g.kd g.xl hn hm ⟨g.it, GxR.keeps_refl _⟩) hd
theorem el_cap {y : Str} (hd : (y == ("__debug__" : Str)) = false := by decide) (hcd : (y == ("__classdict__" : Str)) = false := by decide) : ElV prog w x (.Name y pos) (eCap y) := by
  intro cenv A' E' s v d cap d' g e
  obtain ⟨h1, c, u, as, h2, h3, h4⟩ := g.cp y d' e
  exact wpAny_Name (wpAny_loadName_free g.kd h1 h2 h3 ⟨⟨as, h4⟩, GxR.keeps_refl _⟩ hcd) hd
theorem el_int {i : Int} {j} : ElV prog w x (.Constant (.int i) j pos) (eInt i) := by
  intro cenv A' E' s v d cap d' g e
  cases e
  exact wpAny_Constant_int ⟨⟨[], .int _ _⟩, GxR.keeps_tok _ _⟩
theorem readsAll_get {h : Heap} : ∀ {vs : List Value} {ds : List D} {as : List Addr} {j : Nat} {d : D}, ReadsAll h vs ds as → ds[j]? = some d → ∃ v bs, vs[j]? = some v ∧ Reads h v d bs
  | _, _, _, _, _, .nil, e => by simp at e
  | _, _, _, 0, _, .cons r _, e => by
    simp at e
    subst e
    exact ⟨_, _, rfl, r⟩
  | _, _, _, j + 1, _, .cons _ t, e => by
    obtain ⟨v, bs, h1, h2⟩ := readsAll_get (j := j) t (by simpa using e)
    exact ⟨v, bs, by simpa using h1, h2⟩
theorem readsAll_len {h : Heap} : ∀ {vs : List Value} {ds : List D} {as : List Addr}, ReadsAll h vs ds as → vs.length = ds.length
  | _, _, _, .nil => rfl
  | _, _, _, .cons _ t => congrArg (· + 1) (readsAll_len t)
theorem el_bin {a b : Expr} {f g : ElF} (ha : ElV prog w x a f) (hb : ElV prog w x b g) {cenv : Env} {A' : Around} {E' : Value → Shared → Prop} {s : Shared} {v : Value} {d : D} {cap : List (Str × D)} {da db : D} {Q : Value → Shared → Prop} {op : Value → Value → Sem Value} (gf : GF cenv x s v d cap) (e1 : f d cap = some da) (e2 : g d cap = some db)
    (h : ∀ u t s2 as bs, Reads s2.heap u da as → Reads s2.heap t db bs → Keeps s s2 → wpAny (model prog w) A' (op u t) Q E' s2) :
    wpAny (model prog w) A' (eval a cenv) (fun u s1 => wpAny (model prog w) A' (eval b cenv) (fun t s2 => wpAny (model prog w) A' (op u t) Q E' s2) E' s1) E' s := by
  refine wpAny_mono (ha cenv A' E' s v d cap da gf e1) (fun u s1 q => ?_) fun _ _ e => e
  obtain ⟨⟨as, r1⟩, k1⟩ := q
  refine wpAny_mono (hb cenv A' E' s1 v d cap db (gf.keeps k1) e2) (fun t s2 q => ?_) fun _ _ e => e
  obtain ⟨⟨bs, r2⟩, k2⟩ := q
  obtain ⟨h2, tk, rfl, kk⟩ := _root_.id k2
  exact h u t _ as bs (PyProof.Rows.Reads.keeps kk r1) r2 (keeps_trans k1 k2)
theorem el_ix {a b : Expr} {f g : ElF} (ha : ElV prog w x a f) (hb : ElV prog w x b g) (hs : PlainIx b := by exact fun _ _ => rfl) : ElV prog w x (.Subscript a b pos) (eIx f g) := by
  intro cenv A' E' s v d cap d' gf e
  unfold eIx at e
  split at e
  · rename_i ds i e1 e2
    refine Subscript_ (el_bin ha hb gf e1 e2 fun u t s2 as bs r1 r2 k => ?_)
    cases r1 with
    | @tuple p o vs n _ _ h1 h2 h3 h4 =>
      cases r2
      have hsl : sizeLine = 16777216 := rfl
      have sz : ds.length ≤ sizeLine := by
        by_cases sz : ds.length ≤ sizeLine
        · exact sz
        · rw [if_neg sz] at e; cases e
      rw [if_pos sz] at e
      unfold atI at e
      cases q : ixN ds.length i with
      | none => rw [q] at e; cases e
      | some j =>
        rw [q] at e
        obtain ⟨k1, k2, k3, k4⟩ := ixN_seq q
        obtain ⟨y, cs, hy, ry⟩ := readsAll_get h4 e
        have hl := readsAll_len h4
        have hl2 : vs.toList.length ≤ 16777216 := by rw [hl]; omega
        have tup : s2.heap.IsTuple p vs := ⟨o, h1, h2, n, h3⟩
        exact subscriptTail_builtinR (x := y) tup.typeIs slot_tuple_getitem.lookup
          (getItem_tuple (j := j) (Q := fun r s' => r = y ∧ ((∃ as, Reads s'.heap r d' as) ∧ Keeps s s')) tup (by omega) (by omega) (by rw [← Array.length_toList, hl]; exact k1) (by rw [← Array.getElem?_toList]; exact hy) ⟨rfl, ⟨cs, ry⟩, k⟩) (hs _ _)
  · cases e
theorem el_eq {a b : Expr} {f g : ElF} (ha : ElV prog w x a f) (hb : ElV prog w x b g) (hm : behindInMarks .Eq b = false := by rfl) : ElV prog w x (.Compare a [.Eq] [b] pos) (eEq f g) := by
  intro cenv A' E' s v d cap d' gf e
  unfold eEq at e
  split at e
  · rename_i i j e1 e2
    cases e
    refine wpAny_Compare1 (hm := hm) (el_bin (op := compareOp .Eq) ha hb gf e1 e2 fun u t s2 as bs r1 r2 k => ?_)
    cases r1
    cases r2
    exact eq_int ⟨⟨[], .bool _⟩, k⟩
  · cases e
end
/-! ### from the def's frame to the generator's -/
section
variable {h h' : Heap} {P : Addr}
mutual
/-- no row reads off a table of code objects -/
theorem reads_but (hP : ∃ ps, h.get? P = some { cls := .none, data := .fields ps }) (k : ∀ b o, b ≠ P → h.get? b = some o → h'.get? b = some o) : ∀ {v : Value} {d : D} {as : List Addr}, Reads h v d as → pl d = true → Reads h' v d as
  | _, _, _, .none, _ => .none
  | _, _, _, .bool b, _ => .bool b
  | _, _, _, .int i t, _ => .int i t
  | _, _, _, .str x t, _ => .str x t
  | _, _, _, .list (a := a) h1 h2 h3 h4, p => by
    have ne : a ≠ P := fun z => by
      obtain ⟨ps, hp⟩ := hP
      rw [z, hp] at h1
      cases h1
      cases h2
    exact .list (k _ _ ne h1) h2 h3 (readsAll_but hP k h4 (by simpa [pl] using p))
  | _, _, _, .tuple (a := a) h1 h2 h3 h4, p => by
    have ne : a ≠ P := fun z => by
      obtain ⟨ps, hp⟩ := hP
      rw [z, hp] at h1
      cases h1
      cases h2
    exact .tuple (k _ _ ne h1) h2 h3 (readsAll_but hP k h4 (by simpa [pl] using p))
  | _, _, _, .dict _ _ _ _ _, p => by simp [pl] at p
theorem readsAll_but (hP : ∃ ps, h.get? P = some { cls := .none, data := .fields ps }) (k : ∀ b o, b ≠ P → h.get? b = some o → h'.get? b = some o) : ∀ {vs : List Value} {ds : List D} {as : List Addr}, ReadsAll h vs ds as → pls ds = true → ReadsAll h' vs ds as
  | _, _, _, .nil, _ => .nil
  | _, _, _, .cons r t, p => by
    have q : (_ && _) = true := p
    obtain ⟨q1, q2⟩ := Bool.and_eq_true_iff.mp q
    exact .cons (reads_but hP k r q1) (readsAll_but hP k t q2)
end
end
theorem clo_lookup {cells : List (Str × Addr)} {names : List (Str × NameKind)} {y : Str} {c : Addr} (hm : (y, NameKind.free) ∈ names) (hc : cells.lookup y = some c) : (cloFrom cells names []).lookup y = some c := by
  have h1 := cloFrom_has (cells := cells) (acc := []) hm
  rw [hc] at h1
  have uni : ∀ c', (y, c') ∈ cloFrom cells names [] → c' = c := fun c' h => by
    rcases cloFrom_mem h with z | ⟨_, z⟩
    · cases z
    · rw [z, hc]; rfl
  generalize cloFrom cells names [] = l at h1 uni
  induction l with
  | nil => cases h1
  | cons p l ih =>
    obtain ⟨a, b⟩ := p
    rw [List.lookup_cons]
    by_cases e : (y == a) = true
    · have : y = a := by simpa using e
      subst this
      rw [e]
      rw [uni b List.mem_cons_self]
    · have e' : (y == a) = false := Bool.eq_false_iff.mpr e
      rw [e']
      have ne : y ≠ a := by simpa using e'
      exact ih (by
        rcases List.mem_cons.mp h1 with z | z
        · cases z; exact absurd rfl ne
        · exact z) fun c' h => uni c' (List.mem_cons_of_mem _ h)
/-- the captured names: each with its slot -/
def capE (cs : List (Str × Nat)) (ρ : Ev) : List (Str × D) := cs.filterMap fun q => match ρ[q.2]? with
  | some (some r) => if r.s = .tab then none else some (q.1, r.d)
  | _ => none
structure CapOk (X : Cx) (scope : Scope) (cs : List (Str × Nat)) : Prop where
  ok : ∀ q ∈ cs, X.N[q.2]? = some q.1 ∧ X.env.scope.names.lookup q.1 = some .cell ∧ scope.names.lookup q.1 = some .free ∧ (q.1, NameKind.free) ∈ scope.names
theorem capE_mem {cs : List (Str × Nat)} {ρ : Ev} {y : Str} {dy : D} (h : (capE cs ρ).lookup y = some dy) : ∃ j r, (y, j) ∈ cs ∧ ρ[j]? = some (some r) ∧ r.d = dy ∧ r.s ≠ .tab := by
  induction cs with
  | nil => simp [capE] at h
  | cons p cs ih =>
    obtain ⟨a, j⟩ := p
    unfold capE at h
    rw [List.filterMap_cons] at h
    have tail : (capE cs ρ).lookup y = some dy → ∃ j r, (y, j) ∈ (a, j) :: cs ∧ ρ[j]? = some (some r) ∧ r.d = dy ∧ r.s ≠ .tab := fun h => by
      obtain ⟨j', r, h1, h2, h3⟩ := ih h
      exact ⟨j', r, List.mem_cons_of_mem _ h1, h2, h3⟩
    cases e : ρ[j]? with
    | none =>
      simp only [e] at h
      obtain ⟨j', r, h1, h2, h3⟩ := ih h
      exact ⟨j', r, List.mem_cons_of_mem _ h1, h2, h3⟩
    | some z =>
      cases z with
      | none =>
        simp only [e] at h
        obtain ⟨j', r, h1, h2, h3⟩ := ih h
        exact ⟨j', r, List.mem_cons_of_mem _ h1, h2, h3⟩
      | some r =>
        simp only [e] at h
        by_cases ct : r.s = .tab
        · rw [if_pos ct] at h
          obtain ⟨j', r, h1, h2, h3⟩ := ih h
          exact ⟨j', r, List.mem_cons_of_mem _ h1, h2, h3⟩
        simp only [if_neg ct] at h
        rw [List.lookup_cons] at h
        by_cases q : (y == a) = true
        · have : y = a := by simpa using q
          subst this
          rw [q] at h
          cases h
          exact ⟨j, r, List.mem_cons_self, e, rfl, ct⟩
        · have q' : (y == a) = false := Bool.eq_false_iff.mpr q
          rw [q'] at h
          obtain ⟨j', r, h1, h2, h3⟩ := ih h
          exact ⟨j', r, List.mem_cons_of_mem _ h1, h2, h3⟩
theorem eltB_of {X : Cx} {scope : Scope} {x : Str} {elt : Expr} {P : Addr} {σ : L2.St} {Z O H1 : Hp} {ρ : Ev} {F : List Addr} {xs : List V} {ds : List D} {f : ElF} {cs : List (Str × Nat)} {pb : Nat → Bool} (S : GxR.GenS X.env scope x) (C : CapOk X scope cs) (hf : ElV X.prog X.w x elt f)
    (rl : Rel X.K Z O H1 σ ρ F) (hP : GxR.TabG H1 P) (rs : Reps X.K H1 xs ds) (hp : pls ds = true) (hpc : ∀ y dy, (capE cs ρ).lookup y = some dy → pl dy = true) (hb : ∀ i d, ds[i]? = some d → f d (capE cs ρ) = some (.bool (pb i))) : EltB X scope x elt P σ H1 xs pb := by
  intro pins s1 I cenv A' E' i y v s₂ m₂ hs hcl hy ry hn hm kp
  obtain ⟨d, hd, rd⟩ := rs.getV hy
  have pd : pl d = true := by
    have key : ∀ {ds : List D} {i : Nat} {d : D}, pls ds = true → ds[i]? = some d → pl d = true := fun {ds} => by
      induction ds with
      | nil => intro i d _ h; simp at h
      | cons z zs ih =>
        intro i d hp h
        have q : (_ && _) = true := hp
        obtain ⟨q1, q2⟩ := Bool.and_eq_true_iff.mp q
        cases i with
        | zero => simp at h; rw [← h]; exact q1
        | succ i => exact ih q2 (by simpa using h)
    exact key hp hd
  have hPs : ∃ ps, s1.heap.get? P = some { cls := .none, data := .fields ps } := by
    obtain ⟨ps, h1, _⟩ := hP
    exact ⟨ps, I.hok P _ h1⟩
  have tr : ∀ {v : V} {u : Value} {d : D}, Rep X.K H1 v d → pl d = true → RelV v u → ∃ as, Reads s₂.heap u d as := fun {v u d} r p ru => by
    obtain ⟨as, ra⟩ := Dp.reads I d v u (r.dp p) ru
    exact ⟨as, reads_but hPs kp ra p⟩
  have gf : GF cenv x s₂ v d (capE cs ρ) := by
    refine ⟨by rw [hs]; exact S.kind, show cenv.scope.names.lookup x = some .local by rw [hs]; exact S.loc, ⟨m₂, hn, hm⟩, tr rd pd ry, fun z dz hz => ?_⟩
    obtain ⟨j, r, h1, h2, h3, ct⟩ := capE_mem hz
    obtain ⟨c1, c2, c3, c4⟩ := C.ok _ h1
    obtain ⟨w, hw, G, rw'⟩ := rl.sl.get h2
    obtain ⟨m, hns, hl⟩ := I.loc
    obtain ⟨u, ru, lk⟩ := hl j z w c1 hw (.inr (.inl c2))
    have lk2 : ∃ c, X.env.cells.lookup z = some c ∧ s1.heap.IsCell c (some u) := by
      rcases lk with ⟨k1, _⟩ | ⟨_, k2⟩
      · have k2 : X.env.scope.names.lookup z = some .local := k1
        rw [c2] at k2
        cases k2
      · exact k2
    obtain ⟨c, k1, k2⟩ := lk2
    obtain ⟨as, ra⟩ := tr ((rw'.rep ct).look rl.g) (by rw [h3]; exact hpc z dz hz) ru
    refine ⟨show cenv.scope.names.lookup z = some .free by rw [hs]; exact c3, c, u, as, by rw [hcl]; exact clo_lookup c4 k1, ?_, by rw [← h3]; exact ra⟩
    obtain ⟨o, e1, e2⟩ := k2
    refine ⟨o, kp c o (fun z => ?_) e1, e2⟩
    obtain ⟨ps, hp⟩ := hPs
    rw [z, hp] at e1
    cases e1
    cases e2
  refine wpAny_mono (hf cenv A' E' s₂ v d (capE cs ρ) _ gf (hb i d hd)) (fun r s₃ q => ?_) fun _ _ e => e
  obtain ⟨⟨as, ra⟩, k⟩ := q
  cases ra
  exact ⟨rfl, k⟩
end Oz

/-! Oz36: any/all of a generator expression over a tuple as an expression of the layer. -/
namespace Oz
open PySem PySem.Spec PyProof.Rows L2
variable [WD]
def boolsE (f : ElF) (c : List (Str × D)) : List D → Option (List Bool)
  | [] => some []
  | d :: ds => match f d c, boolsE f c ds with
    | some (.bool b), some bs => some (b :: bs)
    | _, _ => none
theorem boolsE_ok {f : ElF} {c : List (Str × D)} : ∀ {ds : List D} {bs : List Bool}, boolsE f c ds = some bs → bs.length = ds.length ∧ ∀ i d, ds[i]? = some d → f d c = some (.bool (bs.getD i false))
  | [], bs, h => by cases h; exact ⟨rfl, fun i d e => by simp at e⟩
  | d :: ds, bs, h => by
    unfold boolsE at h
    split at h
    · rename_i b bs' e1 e2
      cases h
      obtain ⟨h1, h2⟩ := boolsE_ok e2
      refine ⟨by simp [h1], fun i x e => ?_⟩
      cases i with
      | zero => simp at e; subst e; simpa using e1
      | succ i => simpa using h2 i x (by simpa using e)
    · cases h
theorem range_any (bs : List Bool) : (List.range bs.length).any (fun i => bs.getD i false) = bs.any id := by
  rw [Bool.eq_iff_iff, List.any_eq_true, List.any_eq_true]
  constructor
  · intro ⟨j, hj, h⟩
    have hj' := List.mem_range.mp hj
    refine ⟨bs[j], List.getElem_mem hj', ?_⟩
    simpa [hj'] using h
  · intro ⟨b, hb, h⟩
    obtain ⟨j, hj, e⟩ := List.getElem_of_mem hb
    refine ⟨j, List.mem_range.mpr hj, ?_⟩
    simpa [hj, e] using h
theorem range_all (bs : List Bool) : (List.range bs.length).all (fun i => bs.getD i false) = bs.all id := by
  rw [Bool.eq_iff_iff, List.all_eq_true, List.all_eq_true]
  constructor
  · intro h b hb
    obtain ⟨j, hj, e⟩ := List.getElem_of_mem hb
    have := h j (List.mem_range.mpr hj)
    simpa [hj, e] using this
  · intro h j hj
    have hj' := List.mem_range.mp hj
    simpa [hj'] using h bs[j] (List.getElem_mem hj')
def anyB (all : Bool) (bs : List Bool) : Bool := if all = true then bs.all id else bs.any id
def genK (all : Bool) (f : ElF) (cs : List (Str × Nat)) (r : R) (ρ : Ev) : Res R := match r.d with
  | .tuple ds => (match boolsE f (capE cs ρ) ds with
    | some bs => if pls ds = true ∧ (capE cs ρ).all (fun q => pl q.2) = true then .ok ⟨.imm, .bool (anyB all bs)⟩ else .bad
    | none => .bad)
  | _ => .bad
/-- any(..) or all(..) for x in p -/
def pGen (all : Bool) (p : Px) (f : ElF) (cs : List (Str × Nat)) : Px := fun ρ => (p ρ).bind fun r => genK all f cs r ρ
theorem lookup_memP {α : Type} {y : Str} {d : α} : ∀ {l : List (Str × α)}, l.lookup y = some d → (y, d) ∈ l
  | [], h => by cases h
  | (a, b) :: l, h => by
    rw [List.lookup_cons] at h
    by_cases e : (y == a) = true
    · have : y = a := by simpa using e
      subst this
      rw [e] at h
      cases h
      exact List.mem_cons_self
    · have e' : (y == a) = false := Bool.eq_false_iff.mpr e
      rw [e'] at h
      exact List.mem_cons_of_mem _ (lookup_memP h)
section
variable {X : Cx} {E : XK} {c P : Addr} {elt iter : Expr} {x : Str} {px pf pos gpos : Pos} {scope : Scope} {p : Px} {f : ElF} {cs : List (Str × Nat)} {k : Nat}
theorem gen_ok {all : Bool} {σ : L2.St} {H : Hp} {Q : VK} (hP : P ∈ tabsK X.K) (S : GxR.GenS X.env scope x) (C : CapOk X scope cs) (hf : ElV X.prog X.w x elt f) (h : tP X.K E (pGen all p f cs) σ H Q) :
    tAnyT X scope x elt P all (tP X.K E p) σ H Q := by
  refine tP_bind (k := genK all f cs) h fun Z O H1 Z1 O1 ρ F G v a r x1 r1 q1 nd fr h2 => ?_
  unfold genK at h2
  cases e : a.d with
  | tuple ds =>
    rw [e] at h2
    simp only at h2
    cases eb : boolsE f (capE cs ρ) ds with
    | none => rw [eb] at h2; exact h2.elim
    | some bs =>
      rw [eb] at h2
      simp only at h2
      by_cases c1 : pls ds = true ∧ (capE cs ρ).all (fun q => pl q.2) = true
      · rw [if_pos c1] at h2
        obtain ⟨b1, b2⟩ := boolsE_ok eb
        have lk := q1.look r1.g
        rw [e] at lk
        cases lk with
        | tup hs rs =>
          rename_i yl xs
          have tg := (r1.tb P hP).1
          refine ⟨yl, xs, fun i => bs.getD i false, rfl, hs, tg, eltB_of S C hf r1 tg rs c1.1 (fun y dy hy => (List.all_eq_true.mp c1.2) _ (lookup_memP hy)) b2, fun H2 t => ?_⟩
          obtain ⟨x2, g2⟩ := r1.tabbed tg t
          have hl : xs.length = bs.length := by rw [b1, rs.length]
          have eq : (if all = true then (List.range xs.length).all (fun i => bs.getD i false) else (List.range xs.length).any (fun i => bs.getD i false)) = anyB all bs := by
            rw [hl, range_all, range_any]
            rfl
          rw [eq]
          exact h2 _ H2 Z1 O1 [] (x1.trans0 x2) g2 ⟨.bl _, rfl⟩ List.nodup_nil fun a ha => by cases ha
      · rw [if_neg c1] at h2; exact h2.elim
  | _ => rw [e] at h2; exact h2.elim
theorem s_any (hP : P ∈ tabsK X.K) (hr : Room k X.A) (hg : Gl X "any") (hm : X.mg "any" = none) (TB : GxR.TabB X.base X.mg c P) (hcode : X.env.code = .ref c) (S : GxR.GenS X.env scope x) (C : CapOk X scope cs) (hi : PE X iter (tP X.K E p)) (hf : ElV X.prog X.w x elt f)
    (hs : ∀ v, genFold iter X.env v = pure v := by exact fun _ => rfl) (hnp : nestP gpos = false := by decide)
    (he : starEach [.GeneratorExp elt [⟨.Name x px, iter, [], 0⟩] scope gpos] X.env = (false, eval (.GeneratorExp elt [⟨.Name x px, iter, [], 0⟩] scope gpos) X.env) :: starEach [] X.env := by rfl) :
    PE X (.Call (.Name "any" pf) [.GeneratorExp elt [⟨.Name x px, iter, [], 0⟩] scope gpos] [] pos) (tP X.K E (pGen false p f cs)) :=
  (pe_anyT hr hg hm TB hcode S hi hnp hs he).imp fun _ _ _ h => gen_ok hP S C hf h
end
def freeOk (names : List (Str × NameKind)) (cells : List (Str × Addr)) : Bool := names.all fun y => (match y.2 with | .free => false | _ => true) || (cells.lookup y.1).isSome
theorem freeOk_el {names : List (Str × NameKind)} {cells : List (Str × Addr)} (h : freeOk names cells = true) : ∀ y ∈ names, y.2 = .free → ∃ c, cells.lookup y.1 = some c := fun y hy e => by
  have := List.all_eq_true.mp h y hy
  rw [e] at this
  exact Option.isSome_iff_exists.mp (by simpa using this)
def capB (N : List Str) (sc scope : Scope) (cs : List (Str × Nat)) : Bool := cs.all fun q => decide (N[q.2]? = some q.1) && (decide (sc.names.lookup q.1 = some .cell) && (decide (scope.names.lookup q.1 = some .free) && decide ((q.1, NameKind.free) ∈ scope.names)))
theorem capOk_el {X : Cx} {scope : Scope} {cs : List (Str × Nat)} (h : capB X.N X.env.scope scope cs = true) : CapOk X scope cs := ⟨fun q hq => by
  have := List.all_eq_true.mp h q hq
  simp only [Bool.and_eq_true, decide_eq_true_eq] at this
  exact ⟨this.1, this.2.1, this.2.2.1, this.2.2.2⟩⟩
end Oz

/-! Oz37: the head's Hook with tables of code objects: markers at K's end name them. -/
namespace Oz
open PySem PySem.Spec L2
open PyProof.Rows hiding St
variable [WD]
/-- the law's end with tables -/
theorem lawAt {l : PySem.W.OpenLaw} {w : World} {K : PySem.W.Frag} {k n : Nat} {x : Str} {mg : Str → Option Value} {fa : Addr} {h : Heap} {fi : List He.Fa} {fn : List He.DefD} {ck : PySem.W.Frag → Bool} {dn : List (Str × List Str)} {tf : List He.Defn} (KX : K.In h) (c : SaysZ fi fn ck dn tf w h K) {fd : FuncData} {m : Fn}
    (hb : ∀ (s : Shared) (u : Value), BindsTo s fd ⟨[u], []⟩ [(x, u)]) (ht : ∀ ns : List Int, ns.length ≤ n → m [scrD (ns.map .int)] = .ok ⟨.imm, .bool true⟩ [])
    (F : ∀ base : Heap, K.In base → base.Ns mainGlobals mg → (∀ p ∈ tf, GxR.TabB base mg (He.cT K p).1 (He.cT K p).2) → FnOk l.prog w K mg base CX0 k fa fd [x] (spF K [.v] m)) : LamX.LawAtS l w K CX0 k n x mg fa h := by
  refine ⟨fd, tf.map (He.cT K), spF K [.v] m, fun p hp => ?_, fun p hp => ?_, fun p hp => ?_, hb, fun H a ns hl _ hH hS => ?_, fun base b1 b2 b3 => F base b1 b2 fun p hp => by
    have t := b3 _ (List.mem_map.mpr ⟨p, hp, rfl⟩)
    exact ⟨t.code, t.bm, t.gP⟩⟩
  · obtain ⟨q, hq, rfl⟩ := List.mem_map.mp hp
    exact c.empty q hq
  · obtain ⟨q, hq, rfl⟩ := List.mem_map.mp hp
    exact c.out q hq
  · obtain ⟨q, hq, rfl⟩ := List.mem_map.mp hp
    exact PySem.W.codeHd_of_K KX (c.hd q hq)
  · refine law_spT ht H a ns hl (fun P hP => ?_) hS
    rw [c.tk] at hP
    obtain ⟨q, hq, rfl⟩ := List.mem_map.mp hP
    have e0 := hH _ (List.mem_map.mpr ⟨q, hq, rfl⟩)
    exact ⟨⟨#[], e0, trivial⟩, fun _ ps e pos cv _ z => by
      rw [e0] at e
      cases e
      simp [codeAmong] at z⟩
end Oz

/-! Oz38: x in t within an element of a generator expression, t a tuple of ints. -/
namespace Oz
open PySem PySem.Spec PyProof.Rows L2
variable [WD]
end Oz

/-! Oz39: a def's code object by its name; the law's end with tables, K told by the Hook. -/
namespace Oz
open PySem PySem.Spec L2
open PyProof.Rows hiding St
theorem code_of {K : PySem.W.Frag} {x qual : Str} {params : Arguments} {body : List Stmt} {scope : Scope} {p : He.Defn} {fd : FuncData} (F : FunD K x qual params body scope [] [] (He.fAd K p) fd) : fd.code = .ref (He.cT K p).1 := by
  obtain ⟨oc, od, dV, kV, doc, pm, an, cdv, ct, osl, rfl, lk, hcd, _, _⟩ := F.ex
  obtain ⟨c, e⟩ := He.codeIn_ref hcd
  have e2 := He.codeOf_eq lk e
  show cdv = .ref (He.codeOf K p)
  rw [e2]
  exact e
theorem walk_ofTsE {l : PySem.W.OpenLaw} {n k : Nat} {q : Program} {loose : List Str} {XP : (Str → Option Value) → Heap → Prop} {YP : World → Heap → Prop} {d : DefRec} {x : Str}
    (hn : l.most = some n) (hn2 : n ≤ sizeLine) (hdf : d.params.defaults = []) (hr : Room k callerA)
    (F : ∀ (w : World) (mg : Str → Option Value) (fa : Addr) (h : Heap), YP w h → h.Ns mainGlobals mg → mg d.name = some (.ref fa) → ∃ K : PySem.W.Frag, K.In h ∧ LamX.LawAtS l w K CX0 k n x mg fa h) :
    PySem.W.WalkO q loose XP YP l.row.toRowW d [] (fun f vs => PySem.call f vs) := by
  refine Att.attach_callB hn hdf fun w s₀ s₁ mg mb fa o pm cd doc a vs ns G Y ho hd hcd hmg hobj hints hlen hbits hg => ?_
  obtain ⟨K, KX, fd, cs, sp, hT, nT, C, hb, hsp, hF⟩ := F w mg fa _ Y G.T.g hmg
  exact LamX.law_callTs KX G.T.g G.T.b G.T.builtins G.T.nolimit hg hT nT C G.T.bmain hobj hints (Nat.le_trans hlen hn2) hr hF hb (fun H hH hS => hsp H a ns hlen hbits hH hS) fun H e s' z => z
end Oz

/-! Oz40: Oz34 over a list. -/
namespace Oz
open PySem PySem.Spec PyProof.Rows L2
variable [WD]
section
variable {X : Cx} {pins : List (Addr × Obj)} {σ : L2.St} {H : Hp} {s : Shared}
end
/-! ### as expressions of the layer -/
section
variable {X : Cx} {E : XK} {c P : Addr} {elt iter : Expr} {x : Str} {px pf pos gpos : Pos} {scope : Scope} {p : Px} {f : ElF} {cs : List (Str × Nat)} {k : Nat}
end
end Oz

/-! Oz41: generator expressions whose element walks a generator expression of its own (turned from the library's rules for quiet elements). -/
namespace Oz
open PySem PySem.Spec PyProof.Rows L2
variable [WD]
/-- what an element may do to the generators -/
def GenStep (a b : Array GenState) : Prop := a.size ≤ b.size ∧ (AllBare a → AllBare b)
theorem GenStep.refl (a : Array GenState) : GenStep a a := ⟨Nat.le_refl _, id⟩
theorem GenStep.trans {a b c : Array GenState} (x : GenStep a b) (y : GenStep b c) : GenStep a c := ⟨Nat.le_trans x.1 y.1, fun h => y.2 (x.2 h)⟩
/-- the table at T is in order, and has grown by flat code objects -/
def TGrow (T : Addr) (h h' : Heap) : Prop := ∀ ps : Array Value, h.get? T = some (PySem.W.tabObj ps) → TriplesOk ps.toList → ∃ ps' : Array Value, h'.get? T = some (PySem.W.tabObj ps') ∧ GrownF ps ps'
theorem TGrow.refl (T : Addr) (h : Heap) : TGrow T h h := fun ps e t => ⟨ps, e, GrownF.refl t⟩
theorem TGrow.trans {T : Addr} {h h1 h2 : Heap} (a : TGrow T h h1) (b : TGrow T h1 h2) : TGrow T h h2 := fun ps e t => by
  obtain ⟨ps1, e1, g1⟩ := a ps e t
  obtain ⟨ps2, e2, g2⟩ := b ps1 e1 g1.2.1
  exact ⟨ps2, e2, g1.trans g2⟩
theorem TGrow.kept {T : Addr} {h h' : Heap} (k : ∀ o, h.get? T = some o → h'.get? T = some o) : TGrow T h h' := fun ps e t => ⟨ps, k _ e, GrownF.refl t⟩
def TOk (T : Addr) (h : Heap) : Prop := ∃ ps : Array Value, h.get? T = some (PySem.W.tabObj ps) ∧ TriplesOk ps.toList
theorem TOk.grow {T : Addr} {h h' : Heap} (x : TOk T h) (g : TGrow T h h') : TOk T h' := by
  obtain ⟨ps, e, t⟩ := x
  obtain ⟨ps', e', g'⟩ := g ps e t
  exact ⟨ps', e', g'.2.1⟩
theorem TOk.kept {T : Addr} {h h' : Heap} (x : TOk T h) (k : ∀ o, h.get? T = some o → h'.get? T = some o) : TOk T h' := x.grow (TGrow.kept k)
def SinceN (C : Addr) (wr : List Addr) (T : Addr) (s₀ s : Shared) : Prop :=
  ∃ h' tk gs, s = { s₀ with heap := h', toks := tk, gens := gs } ∧ (∀ b o, b ≠ C → b ∉ wr → s₀.heap.get? b = some o → h'.get? b = some o) ∧ TGrow T s₀.heap h' ∧ GenStep s₀.gens gs
theorem SinceN.refl (C : Addr) (wr : List Addr) (T : Addr) (s : Shared) : SinceN C wr T s s := ⟨s.heap, s.toks, s.gens, rfl, fun _ _ _ _ e => e, TGrow.refl _ _, GenStep.refl _⟩
theorem SinceN.step {C : Addr} {wr : List Addr} {T : Addr} {s₀ s : Shared} (x : SinceN C wr T s₀ s) {h' : Heap} {tk : Nat} {gs : Array GenState} (hk : ∀ b o, b ≠ C → b ∉ wr → s.heap.get? b = some o → h'.get? b = some o) (hT : TGrow T s.heap h') (hg : GenStep s.gens gs) :
    SinceN C wr T s₀ { s with heap := h', toks := tk, gens := gs } := by
  obtain ⟨h₁, tk₁, gs₁, rfl, hk₁, hT₁, hg₁⟩ := x
  exact ⟨h', tk, gs, rfl, fun b o hC hw e => hk b o hC hw (hk₁ b o hC hw e), hT₁.trans hT, hg₁.trans hg⟩
def ElStep (T : Addr) (s s' : Shared) : Prop := ∃ h' tk gs, s' = { s with heap := h', toks := tk, gens := gs } ∧ (∀ b o, b ≠ T → s.heap.get? b = some o → h'.get? b = some o) ∧ TGrow T s.heap h' ∧ GenStep s.gens gs
def tt : Nat → Bool := fun _ => true
section
variable {prog : Program} {w : World} {A : Around}
structure QuietN (prog : Program) (w : World) (cenv : Env) (x : Str) (elt : Expr) (fp wr : List Addr) (T : Addr) (P : Nat → Value → Prop) (F : Nat → Value → Prop) (href : Heap) (D : Nat) : Prop where
  elt : ∀ (A' : Around) E' i v (s₂ : Shared) m₂, A'.handled = none → A'.depth ≤ D → P i v → s₂.heap.Ns cenv.locals m₂ → m₂ x = some v → (∀ b ∈ fp, b ∉ wr → ∀ o, href.get? b = some o → s₂.heap.get? b = some o) → TOk T s₂.heap →
    wpAny (model prog w) A' (eval elt cenv) (fun y s₃ => F i y ∧ ElStep T s₂ s₃) E' s₂

structure MovN (wr : List Addr) (T : Addr) (s s' : Shared) : Prop where
  heap : ∀ b o, b ∉ wr → s.heap.get? b = some o → s'.heap.get? b = some o
  tab : TGrow T s.heap s'.heap
  gens : AllBare s.gens → AllBare s'.gens
  drawn : s'.drawn = s.drawn
  os : s'.os = s.os
theorem MovN.trans {wr : List Addr} {T : Addr} {s s' s'' : Shared} (x : MovN wr T s s') (y : MovN wr T s' s'') : MovN wr T s s'' :=
  ⟨fun b o hb e => y.heap b o hb (x.heap b o hb e), x.tab.trans y.tab, fun h => y.gens (x.gens h), y.drawn.trans x.drawn, y.os.trans x.os⟩
structure WalksN (prog : Program) (w : World) (A : Around) (I : Addr) (wr : List Addr) (T : Addr) (n : Nat) (P : Nat → Value → Prop) (St : Nat → Shared → Prop) : Prop where
  item : ∀ i (s : Shared) (Q : Option Value → Shared → Prop) (E : Value → Shared → Prop), i < n → St i s →
    (∀ v s', P i v → St (i + 1) s' → MovN wr T s s' → Q (some v) s') → wpAny (model prog w) A (pyNext (.ref I)) Q E s
  done : ∀ (s : Shared) (Q : Option Value → Shared → Prop) (E : Value → Shared → Prop), St n s → (∀ s', MovN wr T s s' → Q none s') → wpAny (model prog w) A (pyNext (.ref I)) Q E s
  self : ∀ i (s : Shared) (Q : Value → Shared → Prop) (E : Value → Shared → Prop), St i s → Q (.ref I) s → wpAny (model prog w) A (pyIter (.ref I)) Q E s
theorem WalksN.of_in1 {I T : Addr} {wr : List Addr} {n : Nat} {P : Nat → Value → Prop} {St : Nat → Shared → Prop} (W : WalksN prog w A.in1 I wr T n P St) : WalksN prog w A I wr T n P St where
  item := fun i s Q E hi st hQ => wpAny_of_in1 (W.item i s Q E hi st hQ)
  done := fun s Q E st hQ => wpAny_of_in1 (W.done s Q E st hQ)
  self := fun i s Q E st hQ => wpAny_of_in1 (W.self i s Q E st hQ)
end
end Oz

/-! Oz42: any/all over Oz41's generators; a generator expression within the frame of another. -/
namespace Oz
open PySem PySem.Spec PyProof.Rows L2
variable [WD]
section
variable {prog : Program} {w : World} {A : Around} {E : Value → Shared → Prop} {s : Shared}
theorem WalksN.in4_1 {I T : Addr} {wr : List Addr} {n : Nat} {P : Nat → Value → Prop} {St : Nat → Shared → Prop} (W : WalksN prog w A.in4 I wr T n P St) : WalksN prog w A.in1 I wr T n P St :=
  WalksN.of_in1 (A := A.in1) (WalksN.of_in1 (A := A.in1.in1) (WalksN.of_in1 (A := A.in1.in1.in1) W))
end
section
variable {prog : Program} {w : World} {A : Around} {R : Result → Shared → Prop} {I T : Addr} {wr : List Addr} {n : Nat} {P : Nat → Value → Prop} {St : Nat → Shared → Prop}
end
section
variable {prog : Program} {w : World} {A : Around} {E : Value → Shared → Prop} {s : Shared}
end
/-! ### the module, seen from a generator's frame -/
structure GMod (mg : Str → Option Value) (h : Heap) : Prop where
  glob : h.Ns mainGlobals mg
  bm : ∃ bm ob, mg "__builtins__" = some (.ref bm) ∧ bm ≠ builtinsNs ∧ h.get? bm = some ob ∧ ob.cls = .type "module" ∧ ob.dict = some builtinsNs ∧ ob.data = .plain
  blt : ∃ mb, h.Ns builtinsNs mb ∧ ∀ x : Str, x ≠ "__name__" → mb x = bootBuiltins x
theorem ns_ne_tab {h : Heap} {a T : Addr} {m : Str → Option Value} {ps : Array Value} (n : h.Ns a m) (e : h.get? T = some (PySem.W.tabObj ps)) : a ≠ T := fun z => by
  obtain ⟨o, es, ep, ho, hd, _⟩ := n
  rw [z, e] at ho
  cases ho
  cases hd
theorem GMod.but {mg : Str → Option Value} {h h' : Heap} {T : Addr} (M : GMod mg h) (hT : ∃ ps, h.get? T = some (PySem.W.tabObj ps)) (k : ∀ b o, b ≠ T → h.get? b = some o → h'.get? b = some o) : GMod mg h' := by
  obtain ⟨ps, hT⟩ := hT
  obtain ⟨bm, ob, e1, e2, e3, e4, e5, e6⟩ := M.bm
  obtain ⟨mb, f1, f2⟩ := M.blt
  refine ⟨M.glob.at' fun o e => k _ o (ns_ne_tab M.glob hT) e, ⟨bm, ob, e1, e2, k _ _ (fun z => ?_) e3, e4, e5, e6⟩, mb, f1.at' fun o e => k _ o (ns_ne_tab f1 hT) e, f2⟩
  rw [z, hT] at e3
  cases e3
  cases e4
/-! ### a generator expression over a tuple, in the frame of another one -/
section
variable {prog : Program} {w : World} {A : Around} {E : Value → Shared → Prop} {s : Shared} {mg : Str → Option Value}
end
end Oz

/-! Oz43: all(any(..) for x in l), any(all(..) for x in l) as expressions of the layer. -/
namespace Oz
open PySem PySem.Spec PyProof.Rows L2
variable [WD]
/-! ### rows read over a heap in which tables may have changed -/
section
variable {h h' : Heap}
mutual
theorem reads_nt (k : ∀ b o, o.cls ≠ .none → h.get? b = some o → h'.get? b = some o) : ∀ {v : Value} {d : D} {as : List Addr}, Reads h v d as → pl d = true → Reads h' v d as
  | _, _, _, .none, _ => .none
  | _, _, _, .bool b, _ => .bool b
  | _, _, _, .int i t, _ => .int i t
  | _, _, _, .str x t, _ => .str x t
  | _, _, _, .list (a := a) h1 h2 h3 h4, p => .list (k _ _ (by rw [h2]; nofun) h1) h2 h3 (readsAll_nt k h4 (by simpa [pl] using p))
  | _, _, _, .tuple (a := a) h1 h2 h3 h4, p => .tuple (k _ _ (by rw [h2]; nofun) h1) h2 h3 (readsAll_nt k h4 (by simpa [pl] using p))
  | _, _, _, .dict _ _ _ _ _, p => by simp [pl] at p
theorem readsAll_nt (k : ∀ b o, o.cls ≠ .none → h.get? b = some o → h'.get? b = some o) : ∀ {vs : List Value} {ds : List D} {as : List Addr}, ReadsAll h vs ds as → pls ds = true → ReadsAll h' vs ds as
  | _, _, _, .nil, _ => .nil
  | _, _, _, .cons r t, p => by
    have q : (_ && _) = true := p
    obtain ⟨q1, q2⟩ := Bool.and_eq_true_iff.mp q
    exact .cons (reads_nt k r q1) (readsAll_nt k t q2)
end
end
theorem GMod.nt {mg : Str → Option Value} {h h' : Heap} (M : GMod mg h) (k : ∀ b o, o.cls ≠ .none → h.get? b = some o → h'.get? b = some o) (kd : ∀ b o, (∃ es ep, o.data = .dict es ep) → h.get? b = some o → h'.get? b = some o) : GMod mg h' := by
  obtain ⟨bm, ob, e1, e2, e3, e4, e5, e6⟩ := M.bm
  obtain ⟨mb, f1, f2⟩ := M.blt
  have nk : ∀ {a : Addr} {m : Str → Option Value}, h.Ns a m → h'.Ns a m := fun {a m} n => by
    obtain ⟨o, es, ep, ho, hd, r⟩ := n
    exact ⟨o, es, ep, kd _ _ ⟨es, ep, hd⟩ ho, hd, r⟩
  exact ⟨nk M.glob, ⟨bm, ob, e1, e2, k _ _ (by rw [e4]; nofun) e3, e4, e5, e6⟩, mb, nk f1, f2⟩
/-! ### an element that is any or all of a generator expression over a tuple -/
structure GC (mg : Str → Option Value) (cenv : Env) (s : Shared) (c T : Addr) : Prop where
  code : cenv.code = .ref c
  glob : cenv.globals = mainGlobals
  blt : cenv.builtins = builtinsNs
  hd : PySem.W.CodeHd s.heap c T
  tok : TOk T s.heap
  mod : GMod mg s.heap
  lim : s.heap.NoLimit
section
variable {prog : Program} {w : World} {mg : Str → Option Value} {scope scope2 : Scope} {x y : Str} {fs : List Str} {elt2 iter2 : Expr} {py pf pos gpos : Pos} {g f2 : ElF}
end
end Oz

/-! Oz44: the outer generator expression over a list, its table of code objects tracked. -/
namespace Oz
open PySem PySem.Spec PyProof.Rows L2
variable [WD]
section
variable {X : Cx} {pins : List (Addr × Obj)} {σ : L2.St} {H : Hp} {s : Shared}
end
/-! ### as expressions of the layer -/
section
variable {X : Cx} {E : XK} {c P : Addr} {elt iter : Expr} {x : Str} {px pf pos gpos : Pos} {scope : Scope} {p : Px} {f : ElF} {cs : List (Str × Nat)} {k : Nat}
end
end Oz

/-! Oz45: repr of a tuple, where no repr is under way. -/
namespace Oz
open PySem PySem.Spec PyProof.Rows L2
variable [WD]
def okShow (d : D) : Bool := (match d with
  | .tuple _ => true
  | _ => false) && (pl d && (d.showable && (!d.hasDict && (decide (d.depth ≤ 60) && (d.leavesShort 13 && decide (d.bulk ≤ 1048576))))))
structure OkShow (d : D) : Prop where
  tu : ∃ ds, d = .tuple ds
  pl : pl d = true
  sh : d.showable = true
  nd : d.hasDict = false
  dp : d.depth ≤ 60
  sz : d.shown.length ≤ sizeLine
def bRepr : List R → Res R
  | [r] => if okShow r.d = true then .ok ⟨.imm, .str r.d.shown⟩ else .bad
  | _ => .bad
@[simp] theorem x_repr {r : R} : bRepr [r] = if okShow r.d = true then .ok ⟨.imm, .str r.d.shown⟩ else .bad := id rfl
end Oz

/-! Oz46: the law's end where the law's own body is to know that no repr is under way (turned from the library's end with tables). -/
namespace Oz
open PySem PySem.Spec PyProof.Rows L2
variable [WD]
/-- the promise of a def where no repr is under way -/
structure FnG (P : Program) (w : World) (K : PySem.W.Frag) (mg : Str → Option Value) (base : Heap) (CX : CXT) (k : Nat) (f : Addr) (fd : FuncData) (ps : List Str) (sp : Sp) : Prop where
  len : ∀ vs H Q E, sp vs H Q E → vs.length = ps.length
  run : ∀ (A : Around) (outer : List Env) (s : Shared) (H : Hp) (args : PySem.Args) (us : List Value) (vs : List V) (Q : VK) (E : XK), A.guards = some [] → Room k A → Env0 P w K mg base A outer s H → BindsTo s fd args (ps.zip us) → Vals vs us → sp vs H Q E →
    codeAny (model P w) A (.call (.ref f) args) (CR CX outer P w H s Q E) s
section
variable {P : Program} {w : World} {K : PySem.W.Frag} {mg : Str → Option Value} {base : Heap} {x qual : Str} {params : Arguments} {body : List Stmt} {scope : Scope} {f : Addr} {fd : FuncData}
end
end Oz

/-! Oz47: dicts with tuple keys: `found = {}`, `found[key] = True`. -/
namespace Oz
open PySem PySem.Spec L2
open PyProof.Rows hiding St
variable [WD]

/-! ### the frame with a table -/
section
variable {K : PySem.W.Frag} {E : XK} {Z O H Z1 O1 H1 : Hp} {σ : St} {ρ ρ' : Ev} {F G : List Addr} {v : V} {r : R} {i : Nat}
theorem TabR.cell {es : List D} {d : D} (h : RepS K Z O H v ⟨.tab, d⟩ G) (e : d = .list es) : ∃ a xs, v = .ref a ∧ H a = some (.ext (tdO a xs)) ∧ KeysAt K Z xs es ∧ G = [a] := by
  rcases h with h | ⟨_, a, xs, es', e1, e2, h, k, e3⟩
  · exact h.elim
  · have : es' = es := by
      have := e2.symm.trans e
      injection this
    subst this
    exact ⟨a, xs, e1, h, k, e3⟩
end

/-! ### found = {} -/
section
variable {X : Cx} {E : XK} {x : Str} {pos pos' p' : Pos}
end
end Oz

/-! Oz48: `found[key] = True`. -/
namespace Oz
open PySem PySem.Spec L2
open PyProof.Rows hiding St
variable [WD]
/-- how a table grows -/
def tput (xs : List (NestedKey × Addr)) (k : NestedKey) (b : Addr) : List (NestedKey × Addr) := if k ∈ xs.map (·.1) then xs else xs ++ [(k, b)]
section
variable {X : Cx} {E : XK} {o ix value : Expr} {pos pos' : Pos} {to ti : TE}
end
/-- the key at the data's side -/
def keyT : D → Option (List NestedKey)
  | .tuple ds => keysB ds
  | _ => none
def tabPut (d : D) (es : List D) : List D := if keyT d ∈ es.map keyT then es else es ++ [d]
theorem KeysAt.put {K : PySem.W.Frag} {Z : Hp} {b : Addr} {ds : List D} {ks : List NestedKey} (e : keysB ds = some ks) (r : Rep K Z (.ref b) (.tuple ds)) {xs : List (NestedKey × Addr)} {es : List D} (h : KeysAt K Z xs es) : KeysAt K Z (tput xs (.tup ks) b) (tabPut (.tuple ds) es) := by
  have key : ∀ {xs : List (NestedKey × Addr)} {es : List D}, KeysAt K Z xs es → (NestedKey.tup ks ∈ xs.map (·.1) ↔ keyT (.tuple ds) ∈ es.map keyT) := by
    intro xs es h
    induction h with
    | nil => simp
    | cons h1 _ _ ih =>
      simp only [List.map_cons, List.mem_cons, ih]
      show _ ∨ _ ↔ keysB ds = keysB _ ∨ _
      rw [e, h1]
      simp
  have app : ∀ {xs : List (NestedKey × Addr)} {es : List D}, KeysAt K Z xs es → KeysAt K Z (xs ++ [(.tup ks, b)]) (es ++ [.tuple ds]) := by
    intro xs es h
    induction h with
    | nil => exact .cons e r .nil
    | cons h1 h2 _ ih => exact .cons h1 h2 ih
  unfold tput tabPut
  by_cases c : NestedKey.tup ks ∈ xs.map (·.1)
  · rw [if_pos c, if_pos ((key h).mp c)]; exact h
  · rw [if_neg c, if_neg (fun z => c ((key h).mpr z))]; exact app h
theorem KeysAt.length {K : PySem.W.Frag} {Z : Hp} : ∀ {xs : List (NestedKey × Addr)} {es : List D}, KeysAt K Z xs es → xs.length = es.length
  | _, _, .nil => rfl
  | _, _, .cons _ _ t => congrArg (· + 1) t.length
section
variable {X : Cx} {E : XK} {x : Str} {pos pos' p' p0 : Pos} {ix : Expr} {p : Px} {j : Tok}
end
end Oz

/-! Oz49: sorted(found, key=f): the keys of a table, by what a def says of them. -/
namespace Oz
open PySem PySem.Spec L2 PySem.Calls PySem.W
open PyProof.Rows hiding St
variable [WD]
noncomputable section
def keyF (fn : Fn) (e : D) : D := match fn [e] with
  | .ok ⟨.imm, k⟩ [] => k
  | _ => .none
def keyOk (fn : Fn) (e : D) : Bool := match fn [e] with
  | .ok ⟨.imm, _⟩ [] => true
  | _ => false
def okSortK (fn : Fn) (es : List D) : Bool := es.all (keyOk fn) && (lfs es && okSort (es.map (keyF fn)))
def sortKD (fn : Fn) (es : List D) : List D := es.mergeSort (PySem.W.dataLe false (keyF fn))
section
variable {X : Cx} {pins : List (Addr × Obj)} {σ : St} {Z O H : Hp} {s : Shared} {k : Nat} {f B kS : Addr} {fd : FuncData} {ps : List Str} {fn : Fn}
end
/-- between two calls of the key -/
structure JK (X : Cx) (pins : List (Addr × Obj)) (σ : St) (Z O H : Hp) (B kS : Addr) (e1 : Nat) (ks : List D) (s' : Shared) (H' Z' O' : Hp) (kA : Array Value) (e : Nat) : Prop where
  I : Inv X pins σ H' s'
  ex : Ext [] Z O H Z' O' H'
  g : Good Z' O' H'
  tb : Tabs X.K H'
  nB : H' B = none
  nS : H' kS = none
  gS : s'.heap.get? kS = some (seqObj "list" kA e)
  gB : s'.heap.get? B = some (seqObj "list" #[] e1)
  ks : EachIs (fun u k => ∃ x, RelV x u ∧ Rep X.K Z' x k) kA.toList ks
section
variable {X : Cx} {pins : List (Addr × Obj)} {σ : St} {Z O H : Hp} {s : Shared} {k : Nat} {f B kS : Addr} {fd : FuncData} {ps : List Str} {fn : Fn} {e1 : Nat} {vs : List Value} {es : List D} {P : PySem.Fin → Shared → Prop} {E : Value → Shared → Prop}
end
end
end Oz

/-! Oz50: sorted(found, key=f), as an expression. -/
namespace Oz
open PySem PySem.Spec L2 PySem.Calls PySem.W
open PyProof.Rows hiding St
variable [WD]
noncomputable section
section
variable {X : Cx} {pins : List (Addr × Obj)} {σ : St} {Z O H : Hp} {s : Shared} {k : Nat} {f B : Addr} {fd : FuncData} {ps : List Str} {fn : Fn} {n : Nat} {vs : List Value} {es : List D} {P : PySem.Fin → Shared → Prop} {E : Value → Shared → Prop}
end
end
section
variable {X : Cx} {E : XK} {k k' : Nat} {fn : Fn} {ps : List Str} {x y : Str} {p pos p0 p1 p2 kpos : Pos}
end
end Oz

/-! Oz51: a method of a thing in a place (self.pool.put(x)) that the call changes. -/
namespace Oz
open PySem PySem.Spec L2
open PyProof.Rows hiding St
variable [WD]
def nvw (r : R) : Bool := match r.s with
  | .view => false
  | _ => true
def mOutP (l : Pl) (fr : FR) (ρ : Ev) : SR := match ρ[l.i]? with
  | some (some ⟨s, _⟩) => (match fr with
    | .ok r [d'] => .ret r (ρ.set l.i (some ⟨s, l.put d'⟩))
    | .exc c fs [d'] => .exc c fs (ρ.set l.i (some ⟨s, l.put d'⟩))
    | _ => .bad)
  | _ => .bad
def mMethP (c mn : Str) (f : Fn) (md : List Md) (l : Plx) (ps : List Px) : Stx := fun ρ => match l ρ with
  | .bad => .bad
  | .exc c fs => .exc c fs ρ
  | .ok l => (match unO c l.d with
    | none => .bad
    | some es => if lkD (.inr mn) es = none then (match evs ps ρ with
      | .bad => .bad
      | .exc c fs => .exc c fs ρ
      | .ok rs => if rs.all nvw = true then (match pargs md rs with
        | some ds => mOutP l (f (l.d :: ds)) ρ
        | none => .bad) else .bad) else .bad)
section
variable {K : PySem.W.Frag} {E : XK}
end
section
variable {X : Cx} {E : XK} {CX : CXT} {k k' : Nat} {ps : List Str} {md : List Md} {g : Fn} {c m x : Str} {p pos apos : Pos} {e o : Expr} {es : List Expr} {qs : List Px} {l : Plx}
end
/-! ### reckoning -/
section
variable {ρ : Ev}
@[simp] theorem x_nvw {s : Sx} {d : D} : nvw ⟨s, d⟩ = (match s with | .view => false | _ => true) := id rfl
@[simp] theorem x_mOutP {i : Nat} {d : D} {pt : D → D} {fr : FR} : mOutP ⟨i, d, pt⟩ fr ρ = (match ρ[i]? with
  | some (some ⟨s, _⟩) => (match fr with
    | .ok r [d'] => .ret r (ρ.set i (some ⟨s, pt d'⟩))
    | .exc c fs [d'] => .exc c fs (ρ.set i (some ⟨s, pt d'⟩))
    | _ => .bad)
  | _ => .bad) := id rfl
@[simp] theorem x_mMethP {c mn : Str} {f : Fn} {md : List Md} {l : Plx} {ps : List Px} : mMethP c mn f md l ps ρ = (match l ρ with
  | .bad => .bad
  | .exc c fs => .exc c fs ρ
  | .ok l => (match unO c l.d with
    | none => .bad
    | some es => if lkD (.inr mn) es = none then (match evs ps ρ with
      | .bad => .bad
      | .exc c fs => .exc c fs ρ
      | .ok rs => if rs.all nvw = true then (match pargs md rs with
        | some ds => mOutP l (f (l.d :: ds)) ρ
        | none => .bad) else .bad) else .bad)) := id rfl
end
end Oz

/-! Oz52: a, b = p, q with plain local names. -/
namespace Oz
open PySem PySem.Spec L2
open PyProof.Rows hiding St
variable [WD]
def sPar (i j : Nat) (p q : Px) : Stx := fun ρ => match evs [p, q] ρ with
  | .bad => .bad
  | .exc c fs => .exc c fs ρ
  | .ok [a, b] => (match setS i a ρ with
    | some ρ1 => (match setS j b ρ1 with
      | some ρ2 => .next ρ2
      | none => .bad)
    | none => .bad)
  | .ok _ => .bad
@[simp] theorem x_par {i j : Nat} {p q : Px} {ρ : Ev} : sPar i j p q ρ = (match evs [p, q] ρ with
  | .bad => .bad
  | .exc c fs => .exc c fs ρ
  | .ok [a, b] => (match setS i a ρ with
    | some ρ1 => (match setS j b ρ1 with
      | some ρ2 => .next ρ2
      | none => .bad)
    | none => .bad)
  | .ok _ => .bad) := id rfl
end Oz

/-! Oz53: [e for x in xs if t for y in ys if u]. -/
namespace Oz
open PySem PySem.Spec L2
open PyProof.Rows hiding St
variable [WD]
/-- a source that is walked while the list at L grows -/
def IOd (K : PySem.W.Frag) (E : XK) (w : TI) (src : Src) : Prop := ∀ (L : Addr) (σ : St) (H : Hp) (R : It → Hp → Prop), (∃ Z O ρ F, Rel K Z O H σ ρ F ∧ (∃ o, H L = some o) ∧ match src ρ with
  | .bad => False
  | .exc c fs => ExcK K E Z O H c fs
  | .ok rs => ∀ J H' Z' O', Ext [] Z O H Z' O' H' → Good Z' O' H' → Wlk K J rs Z' O' H' [L] → R J H') → w σ H R
section
variable {K : PySem.W.Frag} {E : XK}
theorem srcS_d {p : Px} : IOd K E (iSeq K (tP K E p)) (srcS p) := fun L σ H R q => by
  obtain ⟨Z, O, ρ, F, rl, ⟨oL, hL⟩, q⟩ := q
  refine ⟨Z, O, ρ, F, rl, ?_⟩
  unfold srcS at q
  cases e : p ρ with
  | bad => rw [e] at q; exact q.elim
  | exc c fs => rw [e] at q; exact q
  | ok r =>
    rw [e] at q
    have q2 : match (if r.s = .view then (.bad : Res (List Oz.R)) else srcR r) with
      | .bad => False
      | .exc c fs => ExcK K E Z O H c fs
      | .ok rs => ∀ J H' Z' O', Ext [] Z O H Z' O' H' → Good Z' O' H' → Wlk K J rs Z' O' H' [L] → R J H' := q
    by_cases c : r.s = .view
    · rw [if_pos c] at q2; exact q2.elim
    · rw [if_neg c] at q2
      intro v H1 Z1 O1 G x g w nd fr
      cases e2 : srcR r with
      | bad => rw [e2] at q2; exact q2.elim
      | exc c fs => unfold srcR at e2; cases e3 : itemsD r.d <;> rw [e3] at e2 <;> cases e2
      | ok rs =>
        rw [e2] at q2
        obtain ⟨ds, e3, rfl⟩ := srcR_some e2
        refine seq_walk (F := [L]) g w e3 (fun a ha z => ?_) (fun z => absurd z c) fun J wl => q2 J H1 Z1 O1 x g wl
        rw [List.mem_singleton.mp z] at ha
        rw [(fr L ha).1.elim id fun z => by cases z] at hL
        cases hL
end
def comp2E (vs1 : List Nat) (g : Tgx) (t : Tx) (src1 : Src) (g1 : Tgx) (t1 : Tx) (p : Px) (ρ0 : Ev) : List R → Option (List R)
  | [] => some []
  | r :: rs => (match g r ρ0 with
    | none => none
    | some ρ1 => if nov ρ1 = true then (match t ρ1 with
      | .ok b => if b = true then (match src1 ρ1 with
        | .ok rs1 => (match compE g1 t1 p (wipeE ρ1 vs1) rs1 with
          | some ys => (match comp2E vs1 g t src1 g1 t1 p ρ0 rs with
            | some zs => some (ys ++ zs)
            | none => none)
          | none => none)
        | _ => none) else comp2E vs1 g t src1 g1 t1 p ρ0 rs
      | _ => none) else none)
def pComp2 (vs : List Nat) (src : Src) (g : Tgx) (t : Tx) (vs1 : List Nat) (src1 : Src) (g1 : Tgx) (t1 : Tx) (p : Px) : Px := fun ρ => if nov ρ = true then (src ρ).bind fun rs => match comp2E vs1 g t src1 g1 t1 p (wipeE ρ vs) rs with
  | some ys => compR ys
  | none => .bad else .bad
theorem wipe_wipe {σ : St} {vs : List Nat} : L2.wipe (L2.wipe σ vs) vs = L2.wipe σ vs := by
  apply List.ext_getElem?
  intro j
  by_cases hj : j ∈ vs
  · by_cases hl : j < σ.length
    · rw [wipe_in hj hl, wipe_in hj (by rw [wipe_length]; exact hl)]
    · rw [List.getElem?_eq_none (by rw [wipe_length, wipe_length]; omega), List.getElem?_eq_none (by rw [wipe_length]; omega)]
  · rw [wipe_out hj]
section
variable {K : PySem.W.Frag} {E : XK}
end
end Oz

/-! Oz54: rules for two fors; l.extend(m); max, min of a list of ints; a < b < c of ints; what is never reached. -/
namespace Oz
open PySem PySem.Spec L2
open PyProof.Rows hiding St
variable [WD]
/-! ### two fors -/
section
variable {X : Cx} {E : XK} {elt tg iter tg1 iter1 : Expr} {ifs ifs1 : List Expr} {scope : Scope} {own : List (Str × Nat)} {vs1 : List Nat} {pos : Pos} {is is1 : List Nat} {w w1 : TI} {src src1 : Src} {t t1 : TG} {g g1 : Tgx} {tt tt1 : Tx} {p : Px}
end
@[simp] theorem x_comp2 {vs vs1 : List Nat} {src src1 : Src} {g g1 : Tgx} {t t1 : Tx} {p : Px} {ρ : Ev} : pComp2 vs src g t vs1 src1 g1 t1 p ρ = (if nov ρ = true then (src ρ).bind fun rs => match comp2E vs1 g t src1 g1 t1 p (wipeE ρ vs) rs with | some ys => compR ys | none => .bad else .bad) := id rfl
/-! ### l.extend(m) -/
def sExt (l : Plx) (p : Px) : Stx := fun ρ => match l ρ with
  | .bad => .bad
  | .exc c fs => .exc c fs ρ
  | .ok l => (match l.d with
    | .list ds => (match p ρ with
      | .bad => .bad
      | .exc c fs => .exc c fs ρ
      | .ok r => (match r.d with
        | .list es => if lfs es = true ∧ ds.length + es.length ≤ sizeLine then putE l (.list (ds ++ es)) ρ else .bad
        | _ => .bad))
    | _ => .bad)
section
variable {X : Cx} {E : XK} {a b : Expr} {l : Plx} {p : Px} {pos apos cpos : Pos}
end
@[simp] theorem x_ext {l : Plx} {p : Px} {ρ : Ev} : sExt l p ρ = (match l ρ with
  | .bad => .bad
  | .exc c fs => .exc c fs ρ
  | .ok l => (match l.d with
    | .list ds => (match p ρ with
      | .bad => .bad
      | .exc c fs => .exc c fs ρ
      | .ok r => (match r.d with
        | .list es => if lfs es = true ∧ ds.length + es.length ≤ sizeLine then putE l (.list (ds ++ es)) ρ else .bad
        | _ => .bad))
    | _ => .bad)) := id rfl
/-! ### max(l), min(l) -/
section
variable {K : PySem.W.Frag}
end
/-! ### p < q < c, of ints -/
def pChI (f f' : Int → Int → Bool) (p q c : Px) : Px := fun ρ => (p ρ).bind fun a => (q ρ).bind fun b => match a.d, b.d with
  | .int i, .int j => if f i j = true then (c ρ).bind fun e => (match e.d with
    | .int k => .ok ⟨.imm, .bool (f' j k)⟩
    | _ => .bad) else .ok ⟨.imm, .bool false⟩
  | _, _ => .bad
section
variable {X : Cx} {E : XK} {a b c : Expr} {p q r : Px} {pos : Pos} {op op' : CmpOp} {f f' : Int → Int → Bool}
theorem chI_ok {K : PySem.W.Frag} {σ : St} {H : Hp} {Q : VK} (h : tP K E (pChI f f' p q r) σ H Q) : tChain (rI0 fun i j => .bl (f i j)) (rI0 fun i j => .bl (f' i j)) (tP K E p) (tP K E q) (tP K E r) σ H Q := by
  refine tP_bind (k := fun a ρ => (q ρ).bind fun b => match a.d, b.d with
    | .int i, .int j => if f i j = true then (r ρ).bind fun e => (match e.d with
      | .int k => .ok ⟨.imm, .bool (f' j k)⟩
      | _ => .bad) else .ok ⟨.imm, .bool false⟩
    | _, _ => .bad) h fun Z O H1 Z1 O1 ρ F G v a rl x1 r1 q1 nd fr h2 => ?_
  refine ⟨Z1, O1, ρ, F, r1, ?_⟩
  have lk := q1.look r1.g
  cases e : q ρ with
  | bad => rw [e] at h2; exact h2.elim
  | exc c fs => rw [e] at h2; exact ExcK.ext h2 x1
  | ok b =>
    rw [e] at h2
    simp only [Res.bind_ok] at h2
    intro w H2 Z2 O2 G2 x2 g2 q2 nd2 fr2
    have lk2 := q2.look g2
    obtain ⟨s, d⟩ := a
    obtain ⟨s2, d2⟩ := b
    cases d with
    | int i => cases d2 with
      | int j =>
        cases lk
        cases lk2
        refine ⟨i, j, rfl, rfl, f i j, rfl, ?_⟩
        have h3 : ResK K E [] Z O H (if f i j = true then (r ρ).bind fun e => (match e.d with
            | .int k => .ok ⟨.imm, .bool (f' j k)⟩
            | _ => .bad) else .ok ⟨.imm, .bool false⟩) Q := h2
        cases cf : f i j with
        | true =>
          rw [cf] at h3
          rw [if_pos rfl] at h3 ⊢
          have r2 := r1.ext x2 g2
          refine ⟨Z2, O2, ρ, F, r2, ?_⟩
          cases e3 : r ρ with
          | bad => rw [e3] at h3; exact h3.elim
          | exc c fs => rw [e3] at h3; exact ExcK.ext h3 (x1.trans0 x2)
          | ok c =>
            rw [e3] at h3
            intro u H3 Z3 O3 G3 x3 g3 q3 nd3 fr3
            have lk3 := q3.look g3
            obtain ⟨s3, d3⟩ := c
            cases d3 with
            | int k =>
              cases lk3
              have h4 : OkK K [] Z O H ⟨.imm, .bool (f' j k)⟩ Q := h3
              exact ⟨j, k, rfl, rfl, OkK.imm g3 (OkK.ext h4 ((x1.trans0 x2).trans0 x3) (W := []) (fun a ha => by cases ha)) (.bl _)⟩
            | _ => exact h3.elim
        | false =>
          rw [cf] at h3
          rw [if_neg Bool.false_ne_true] at h3 ⊢
          have h4 : OkK K [] Z O H ⟨.imm, .bool false⟩ Q := h3
          exact OkK.imm g2 (OkK.ext h4 (x1.trans0 x2) (W := []) (fun a ha => by cases ha)) (.bl _)
      | _ => exact h2.elim
    | _ => exact h2.elim
theorem s_chI (ho : OpR X (compareOp op) (rI0 fun i j => .bl (f i j))) (ho' : OpR X (compareOp op') (rI0 fun i j => .bl (f' i j))) (ha : PE X a (tP X.K E p)) (hb : PE X b (tP X.K E q)) (hc : PE X c (tP X.K E r)) (hm : lastMarks [op, op'] [b, c] = false := by with_unfolding_all rfl) :
    PE X (.Compare a [op, op'] [b, c] pos) (tP X.K E (pChI f f' p q r)) := (pe_chain ho ho' ha hb hc hm).imp fun _ _ _ h => chI_ok h
end
@[simp] theorem x_chI {f f' : Int → Int → Bool} {p q c : Px} {ρ : Ev} : pChI f f' p q c ρ = ((p ρ).bind fun a => (q ρ).bind fun b => match a.d, b.d with
  | .int i, .int j => if f i j = true then (c ρ).bind fun e => (match e.d with
    | .int k => .ok ⟨.imm, .bool (f' j k)⟩
    | _ => .bad) else .ok ⟨.imm, .bool false⟩
  | _, _ => .bad) := id rfl
/-! ### what is never reached -/
def sBad : Stx := fun _ => .bad
@[simp] theorem x_sBad {ρ : Ev} : sBad ρ = .bad := id rfl
end Oz

/-! Oz55: sorted(l, key=f) of a list. -/
namespace Oz
open PySem PySem.Spec L2 PySem.Calls PySem.W
open PyProof.Rows hiding St
variable [WD]
noncomputable section
section
variable {X : Cx} {pins : List (Addr × Obj)} {σ : St} {Z O H : Hp} {s : Shared} {k : Nat} {f B : Addr} {fd : FuncData} {ps : List Str} {fn : Fn} {n : Nat} {vs : List Value} {es : List D}
end
end
noncomputable def pSortKL (p : Px) (fn : Fn) : Px := fun ρ => (p ρ).bind fun r => match r.d with
  | .list es => if okSortK fn es = true then .ok ⟨.own, .list (sortKD fn es)⟩ else .bad
  | _ => .bad
section
variable {X : Cx} {E : XK} {k k' : Nat} {fn : Fn} {ps : List Str} {y : Str} {p0 p2 pos kpos : Pos} {e : Expr} {p : Px}
end
@[simp] theorem x_sortKL {p : Px} {fn : Fn} {ρ : Ev} : pSortKL p fn ρ = ((p ρ).bind fun r => match r.d with
  | .list es => if okSortK fn es = true then .ok ⟨.own, .list (sortKD fn es)⟩ else .bad
  | _ => .bad) := id rfl
end Oz

/-! Oz56: min(l) of a list of alike frozen data. -/
namespace Oz
open PySem PySem.Spec L2 PySem.Calls PySem.W
open PyProof.Rows hiding St
variable [WD]
noncomputable section
section
variable {prog : Program} {w : World} {A : Around} {E : Value → Shared → Prop} {s : Shared}
end
def nonN : D → Bool
  | .none => false
  | _ => true
def okMin (ds : List D) : Bool := lfs ds && (ds.all (fun d => ds.all fun e => PySem.W.alike d e) && (ds.all nonN && ds.all (fun d => decide (d.depth ≤ 60))))
structure OkMin (ds : List D) : Prop where
  lf : lfs ds = true
  al : PySem.W.AlikeAll ds
  dp : PyData.depthAll ds ≤ 60
def bMin : List R → Res R
  | [r] => (match r.d with
    | .list (d :: ds) => if okMin (d :: ds) = true then .ok ⟨.imm, PySem.W.minD d ds⟩ else .bad
    | _ => .bad)
  | _ => .bad
@[simp] theorem x_minD {s : Sx} {d : D} {ds : List D} : bMin [⟨s, .list (d :: ds)⟩] = if okMin (d :: ds) = true then .ok ⟨.imm, PySem.W.minD d ds⟩ else .bad := id rfl
end
end Oz

/-! Oz57: dicts {int: True}: comprehensions with one for and with two, in, sorted. -/
namespace Oz
open PySem PySem.Spec L2 PySem.Calls PySem.W
open PyProof.Rows hiding St
variable [WD]
noncomputable section
/-! ### a dict of ints as data -/
def dI (ns : List Int) : D := .dict (ns.map fun n => (.int n, .bool true))
def addK (ns : List Int) (n : Int) : List Int := if n ∈ ns then ns else ns ++ [n]
def dKv (ns : List Int) : List (Key × V) := ns.map fun n => (.inl n, .bl true)
theorem dKv_put (ns : List Int) (n : Int) : putK (dKv ns) (.inl n) (.bl true) = dKv (addK ns n) := by
  have ha : ((dKv ns).any fun kv => decide (kv.1 = .inl n)) = decide (n ∈ ns) := by
    unfold dKv
    rw [List.any_map, Bool.eq_iff_iff]
    simp
  unfold putK
  rw [ha]
  by_cases c : n ∈ ns
  · rw [decide_eq_true c, if_pos rfl]
    unfold addK
    rw [if_pos c]
    unfold dKv
    rw [List.map_map]
    refine List.map_congr_left fun m _ => ?_
    by_cases e : m = n <;> simp [e]
  · rw [decide_eq_false c, if_neg Bool.false_ne_true]
    unfold addK
    rw [if_neg c]
    simp [dKv]
theorem addK_len {ns : List Int} {n : Int} : (addK ns n).length ≤ ns.length + 1 := by
  unfold addK
  split <;> simp
/-! ### two fors -/
section
variable {prog : Program} {w : World} {A : Around} {R : Result → Shared → Prop} {s : Shared} {kx vx t0 i0 t1 i1 : Expr} {ifs0 ifs1 : List Expr} {scope : Scope} {pos : Pos} {it : Value} {D : Addr} {env : Env}
theorem dturn_out : compTurn (.DictComp kx vx [⟨t0, i0, ifs0, 0⟩, ⟨t1, i1, ifs1, 0⟩] scope pos) 0 it (.ref D) env = (do
      standAt i0.pos
      match ← pyNext it with
      | none => pure (.done .next)
      | some v =>
        letOwnedTupleGo t0 it v
        assign t0 env v
        let mut ok := true
        for c in ifs0 do
          if ok then ok ← isTrue c env (eval c env)
        if ok then
          let x ← eval i1 env
          standAt i1.pos
          let x ← foldedSetIterable i1 env x
          let _ ← runOwn (.compStart (.DictComp kx vx [⟨t0, i0, ifs0, 0⟩, ⟨t1, i1, ifs1, 0⟩] scope pos) 1 (← holding [x] (pyIter x)) (.ref D) env) env
        again (.compLoop (.DictComp kx vx [⟨t0, i0, ifs0, 0⟩, ⟨t1, i1, ifs1, 0⟩] scope pos) 0 it (.ref D) env)) := by rfl
theorem dturn_in : compTurn (.DictComp kx vx [⟨t0, i0, ifs0, 0⟩, ⟨t1, i1, ifs1, 0⟩] scope pos) 1 it (.ref D) env = (do
      standAt i1.pos
      match ← pyNext it with
      | none => pure (.done .next)
      | some v =>
        letOwnedTupleGo t1 it v
        assign t1 env v
        let mut ok := true
        for c in ifs1 do
          if ok then ok ← isTrue c env (eval c env)
        if ok then
          (do
            let kv ← eval kx env
            let vv ← holding [kv] (eval vx env)
            standAt { kx.pos with endLine := vx.pos.endLine, endCol := vx.pos.endCol }
            holding [kv, vv] (dictSet D kv vv))
        again (.compLoop (.DictComp kx vx [⟨t0, i0, ifs0, 0⟩, ⟨t1, i1, ifs1, 0⟩] scope pos) 1 it (.ref D) env)) := by rfl
/-- the outer walk -/
theorem dloop_out (hs : ∀ x, foldedSetIterable i1 env x = pure x) (I : Nat → Shared → Prop)
    (turn : ∀ n s, I n s → wpAny (model prog w) A (pyNext it) (fun r s₁ => match r with
      | none => R (.ok .next) s₁
      | some v => wpAny (model prog w) A (letOwnedTupleGo t0 it v) (fun _ s₁' => wpAny (model prog w) A (assign t0 env v) (fun _ s₂ =>
          wpAny (model prog w) A (forIn ifs0 true fun c r => if r = true then do let ok ← isTrue c env (eval c env); pure (ForInStep.yield ok) else pure (ForInStep.yield r)) (fun ok s₃ =>
            if ok = true then wpAny (model prog w) A (eval i1 env) (fun x s₄ => wpAny (model prog w) A (pyIter x) (fun it1 s₅ =>
              codeAny (model prog w) A (.compStart (.DictComp kx vx [⟨t0, i0, ifs0, 0⟩, ⟨t1, i1, ifs1, 0⟩] scope pos) 1 it1 (.ref D) env) (fun r s' => match r with
                | .ok _ => ∃ m, m < n ∧ I m s'
                | .error _ => False) s₅) (notedBy (model prog w) A env fun e s' => R (.error e) s') s₄) (notedBy (model prog w) A env fun e s' => R (.error e) s') s₃
            else ∃ m, m < n ∧ I m s₃) (notedBy (model prog w) A env fun e s' => R (.error e) s') s₂) (notedBy (model prog w) A env fun e s' => R (.error e) s') s₁') (notedBy (model prog w) A env fun e s' => R (.error e) s') s₁) (notedBy (model prog w) A env fun e s' => R (.error e) s') s)
    (n : Nat) (h : I n s) :
    codeAny (model prog w) A (.compLoop (.DictComp kx vx [⟨t0, i0, ifs0, 0⟩, ⟨t1, i1, ifs1, 0⟩] scope pos) 0 it (.ref D) env) R s := by
  refine codeAny_loop rfl I (fun n s hI => ?_) n h
  show wpAny _ A ((compTurn (.DictComp kx vx [⟨t0, i0, ifs0, 0⟩, ⟨t1, i1, ifs1, 0⟩] scope pos) 0 it (.ref D) env).onRaise (fun x => do noteFrame x env; theTreesLotGoes x)) _ _ s
  refine wpAny_noted ?_
  rw [dturn_out]
  refine wpAny_bind (wpAny_standAt (wpAny_bind (wpAny_mono (turn n s hI) (fun r s₁ h₁ => ?_) fun _ _ h' => h')))
  cases r with
  | none => exact wpAny_pure h₁
  | some v =>
    refine wpAny_bind (wpAny_mono h₁ (fun _ s₁' h₁' => ?_) fun _ _ h' => h')
    refine wpAny_bind (wpAny_mono h₁' (fun _ s₂ h₂ => wpAny_bind (wpAny_mono h₂ (fun ok s₃ h₃ => ?_) fun _ _ h' => h')) fun _ _ h' => h')
    cases ok with
    | false => exact wpAny_pure ⟨rfl, h₃⟩
    | true =>
      refine wpAny_bind (wpAny_mono h₃ (fun x s₄ h₄ => ?_) fun _ _ h' => h')
      refine wpAny_bind (wpAny_standAt (wpAny_bind (wpAny_of_eq (hs x) (wpAny_bind (wpAny_holding (wpAny_mono h₄ (fun it1 s₅ h₅ => ?_) fun _ _ h' => h'))))))
      refine wpAny_bind (wpAny_runOwn ?_)
      rw [Around.mark_none]
      refine codeAny_mono h₅ fun r s' hr => ?_
      cases r with
      | ok f =>
        first
          | exact wpAny_pure ⟨rfl, hr⟩
          | exact wpAny_bind (wpAny_pure (wpAny_pure ⟨rfl, hr⟩))
      | error e => exact hr.elim
/-- the inner walk -/
theorem dloop_in (I : Nat → Shared → Prop)
    (turn : ∀ n s, I n s → wpAny (model prog w) A (pyNext it) (fun r s₁ => match r with
      | none => R (.ok .next) s₁
      | some v => wpAny (model prog w) A (letOwnedTupleGo t1 it v) (fun _ s₁' => wpAny (model prog w) A (assign t1 env v) (fun _ s₂ =>
          wpAny (model prog w) A (forIn ifs1 true fun c r => if r = true then do let ok ← isTrue c env (eval c env); pure (ForInStep.yield ok) else pure (ForInStep.yield r)) (fun ok s₃ =>
            if ok = true then wpAny (model prog w) A (eval kx env) (fun kv s₄ => wpAny (model prog w) A (eval vx env) (fun vv s₅ =>
              wpAny (model prog w) A (dictSet D kv vv) (fun _ s₆ => ∃ m, m < n ∧ I m s₆) (notedBy (model prog w) A env fun e s' => R (.error e) s') s₅) (notedBy (model prog w) A env fun e s' => R (.error e) s') s₄) (notedBy (model prog w) A env fun e s' => R (.error e) s') s₃
            else ∃ m, m < n ∧ I m s₃) (notedBy (model prog w) A env fun e s' => R (.error e) s') s₂) (notedBy (model prog w) A env fun e s' => R (.error e) s') s₁') (notedBy (model prog w) A env fun e s' => R (.error e) s') s₁) (notedBy (model prog w) A env fun e s' => R (.error e) s') s)
    (n : Nat) (h : I n s) :
    codeAny (model prog w) A (.compLoop (.DictComp kx vx [⟨t0, i0, ifs0, 0⟩, ⟨t1, i1, ifs1, 0⟩] scope pos) 1 it (.ref D) env) R s := by
  refine codeAny_loop rfl I (fun n s hI => ?_) n h
  show wpAny _ A ((compTurn (.DictComp kx vx [⟨t0, i0, ifs0, 0⟩, ⟨t1, i1, ifs1, 0⟩] scope pos) 1 it (.ref D) env).onRaise (fun x => do noteFrame x env; theTreesLotGoes x)) _ _ s
  refine wpAny_noted ?_
  rw [dturn_in]
  refine wpAny_bind (wpAny_standAt (wpAny_bind (wpAny_mono (turn n s hI) (fun r s₁ h₁ => ?_) fun _ _ h' => h')))
  cases r with
  | none => exact wpAny_pure h₁
  | some v =>
    refine wpAny_bind (wpAny_mono h₁ (fun _ s₁' h₁' => ?_) fun _ _ h' => h')
    refine wpAny_bind (wpAny_mono h₁' (fun _ s₂ h₂ => wpAny_bind (wpAny_mono h₂ (fun ok s₃ h₃ => ?_) fun _ _ h' => h')) fun _ _ h' => h')
    cases ok with
    | false => exact wpAny_pure ⟨rfl, h₃⟩
    | true =>
      exact wpAny_bind (wpAny_bind (wpAny_mono h₃ (fun kv s₄ h₄ => wpAny_bind (wpAny_holding (wpAny_mono h₄ (fun vv s₅ h₅ => wpAny_bind (wpAny_standAt (wpAny_holding (wpAny_mono h₅ (fun _ s₆ h₆ => wpAny_pure ⟨rfl, h₆⟩) fun _ _ h' => h')))) fun _ _ h' => h'))) fun _ _ h' => h'))
/-- the inner walk begins -/
theorem dstart1 (h0 : codeAny (model prog w) A (.compLoop (.DictComp kx vx [⟨t0, i0, ifs0, 0⟩, ⟨t1, i1, ifs1, 0⟩] scope pos) 1 it (.ref D) env) R s)
    (h : wpAny (model prog w) A (pyIter it) (fun it' s' => codeAny (model prog w) A (.compLoop (.DictComp kx vx [⟨t0, i0, ifs0, 0⟩, ⟨t1, i1, ifs1, 0⟩] scope pos) 1 it' (.ref D) env) R s')
      (notedBy (model prog w) A env fun x s' => R (.error x) s') s) :
    codeAny (model prog w) A (.compStart (.DictComp kx vx [⟨t0, i0, ifs0, 0⟩, ⟨t1, i1, ifs1, 0⟩] scope pos) 1 it (.ref D) env) R s := by
  refine codeAny_of_tree ?_
  show wpAny _ _ ((compStart (.DictComp kx vx [⟨t0, i0, ifs0, 0⟩, ⟨t1, i1, ifs1, 0⟩] scope pos) 1 it (.ref D) env).onRaise (fun x => do noteFrame x env; standAt theWindowsPlace)) _ _ s
  refine wpAny_notedAt ?_
  unfold compStart
  show wpAny _ _ (ask >>= _) _ _ s
  refine wpAny_bind (wpAny_askSetting (wpAny_ite ?_))
  split
  · first
      | exact wpAny_bind (wpAny_pure (wpAny_pure (And.intro rfl h0)))
      | exact wpAny_pure (And.intro rfl h0)
  · first
      | exact wpAny_bind (wpAny_rule (wpAny_bind (wpAny_standAt (wpAny_bind (wpAny_mono h (fun it' s' h' => wpAny_pure (And.intro rfl h')) fun _ _ x => x)))))
      | (refine wpAny_bind (wpAny_rule ?_); show wpAny _ _ (standAt i1.pos >>= _) _ _ s; exact wpAny_bind (wpAny_standAt (wpAny_bind (wpAny_mono h (fun it' s' h' => wpAny_pure (And.intro rfl h')) fun _ _ x => x))))
end
section
variable {X : Cx}
/-- {k: v for tg in iter if .. for tg1 in iter1 if ..} -/
def tDc2 (wi : TI) (g : TG) (tt : TT) (wi1 : TI) (g1 : TG) (tt1 : TT) (tk tv : TE) (vs vs1 : List Nat) : TE := fun σ H Q => wi σ H fun J H1 => ∀ D, H1 D = none → ∃ W : Nat → Nat → Hp → Prop, (∃ m, W 0 m (upd H1 D (.dK []))) ∧ ∀ i m H, W i m H →
  (J.stop i H ∧ Q (.ref D) H) ∨ (J.go i H ∧ ∃ Nx : Hp → Prop, (∀ H', Nx H' → ∃ m', m' < m ∧ W (i + 1) m' H') ∧ ∀ x H', J.yld i H x H' → g x (wipe σ vs) H' fun σ2 H2 => wipe σ2 vs = wipe σ vs ∧ tt σ2 H2 fun b H3 =>
    if b = true then wi1 σ2 H3 fun J1 H4 => ∃ W1 : Nat → Nat → Hp → Prop, (∃ m, W1 0 m H4) ∧ ∀ j k H, W1 j k H →
      (J1.stop j H ∧ Nx H) ∨ (J1.go j H ∧ ∃ Nx1 : Hp → Prop, (∀ H', Nx1 H' → ∃ k', k' < k ∧ W1 (j + 1) k' H') ∧ ∀ x H', J1.yld j H x H' → g1 x (wipe σ2 vs1) H' fun σ3 H5 => wipe σ3 vs1 = wipe σ2 vs1 ∧ tt1 σ3 H5 fun b H6 =>
        if b = true then tk σ3 H6 fun y H7 => tv σ3 H7 fun z H8 => ∃ kvs k, y = kV k ∧ H8 D = some (.dK kvs) ∧ kvs.length < sizeLine ∧ Nx1 (upd H8 D (.dK (putK kvs k z))) else Nx1 H6)
    else Nx H3)
theorem dc2_core {pins : List (Addr × Obj)} {s : Shared} {σ : St} {H : Hp} {Q : VK} {kx vx tg iter tg1 iter1 : Expr} {ifs ifs1 : List Expr} {scope : Scope} {own : List (Str × Nat)} {vs1 : List Nat} {pos pos' : Pos} {wi wi1 : TI} {g g1 : TG} {tt tt1 : TT} {tk tv : TE} {use : Option (Value → Sem Unit)} {Qf : Value → Shared → Prop}
    (hc : X.calm = true) (hN : X.N.Nodup) (I : Inv X pins σ H s) (hi : PI X tg iter wi) (ok : BlkOk X.N X.env.scope scope own) (hv : ∀ i ∈ vs1, i ∈ own.map (·.2))
    (hg : ∀ (s : Shared) (H : Hp) (C : Addr) (cl : List (Str × Addr)) (fp : List Addr), PG (X.blk s H scope (compEnvC scope cl C X.env) fp) tg g) (ht : ∀ (s : Shared) (H : Hp) (C : Addr) (cl : List (Str × Addr)) (fp : List Addr), PTs (X.blk s H scope (compEnvC scope cl C X.env) fp) ifs tt)
    (hk : ∀ (s : Shared) (H : Hp) (C : Addr) (cl : List (Str × Addr)) (fp : List Addr), PE (X.blk s H scope (compEnvC scope cl C X.env) fp) kx tk)
    (he : ∀ (s : Shared) (H : Hp) (C : Addr) (cl : List (Str × Addr)) (fp : List Addr), PE (X.blk s H scope (compEnvC scope cl C X.env) fp) vx tv) (hs : ∀ x, foldedSetIterable iter X.env x = pure x)
    (hi1 : ∀ (s : Shared) (H : Hp) (C : Addr) (cl : List (Str × Addr)) (fp : List Addr), PI (X.blk s H scope (compEnvC scope cl C X.env) fp) tg1 iter1 wi1)
    (hg1 : ∀ (s : Shared) (H : Hp) (C : Addr) (cl : List (Str × Addr)) (fp : List Addr), PG (X.blk s H scope (compEnvC scope cl C X.env) fp) tg1 g1)
    (ht1 : ∀ (s : Shared) (H : Hp) (C : Addr) (cl : List (Str × Addr)) (fp : List Addr), PTs (X.blk s H scope (compEnvC scope cl C X.env) fp) ifs1 tt1)
    (hs1 : ∀ env x, foldedSetIterable iter1 env x = pure x)
    (h : tDc2 wi g tt wi1 g1 tt1 tk tv (own.map (·.2)) vs1 σ H Q)
    (hRR : ∀ D C s' m H', Inv X pins σ H' s' → Q (.ref D) H' → s'.heap.Ns C m → FpOk X pins H' C → compPost (model X.prog X.w) X.A X.xe use Qf (.ref D) C (.ok .next) s') :
    wpAny (model X.prog X.w) X.A (comprehension (.DictComp kx vx [⟨tg, iter, ifs, 0⟩, ⟨tg1, iter1, ifs1, 0⟩] scope pos) scope X.env pos' newDict false (eval iter X.env) use) Qf X.xe s := by
  have hfree : ∀ y ∈ scope.names, y.2 = .free → ∃ c, X.env.cells.lookup y.1 = some c := fun y hy e => by
    rcases ok.free y hy e with k | k
    · exact I.ok.has _ (.inl k)
    · exact I.ok.has _ (.inr k)
  refine wpAny_comprehension_free (use := use) rfl hs (closure_ok hfree) ok.kind (fun y hy e => by rw [ok.uniq y hy, e])
    (thn (hi.run pins s σ H _ I h) fun xv s1 hx => thn hx fun itv s2 h2 => ?_)
  obtain ⟨it, fp, tn, J, H2, e, I2, T, st2, f2, q⟩ := h2
  subst e
  refine wpAny_newObj_type (newEnv_comp ?_)
  generalize hD : s2.heap.objs.size = D
  have hDn : H2 D = none := I2.hok.fresh (Nat.le_of_eq hD)
  obtain ⟨W, ⟨m0, w0⟩, turn⟩ := q D hDn
  -- the new list
  generalize hs3 : ({ s2 with heap := s2.heap.push { cls := .type "dict", data := .dict #[] } } : Shared) = s3
  have I3 : Inv X pins σ (upd H2 D (.dK [])) s3 := by
    rw [← hs3]
    refine I2.laid (t' := s2.toks) (fun b o e => Heap.get?_push_of_some _ e) (Nat.le_of_eq hD) ?_
    rw [← hD]
    exact dk_empty s2.heap I2.big
  have h3 : s3.heap = s2.heap.push { cls := .type "dict", data := .dict #[] } := by rw [← hs3]
  have sz : ∀ b ∈ fp, b < s2.heap.objs.size := fun b hb => by
    obtain ⟨o, e, _⟩ := T.obj _ _ st2 b hb
    exact Heap.lt_size e
  have f3 : ∀ b ∈ fp, FpOk X pins (upd H2 D (.dK [])) b ∧ b < s3.heap.objs.size := fun b hb => by
    have hlt := sz b hb
    refine ⟨⟨?_, (f2 b hb).2⟩, by rw [h3, Heap.size_push]; exact Nat.lt_succ_of_lt hlt⟩
    rw [upd_ne (by rw [← hD]; exact Nat.ne_of_lt hlt)]
    exact (f2 b hb).1
  have st3 : tn 0 s3.heap := T.keep _ _ _ st2 fun b _ o e => by rw [h3]; exact Heap.get?_push_of_some _ e
  have I4 := block_start I3 ok hN f3
  have pg := hg s3 (upd H2 D (.dK [])) s3.heap.objs.size (cellsFrom (s3.heap.objs.size + 1) scope.names (cloFrom X.env.cells scope.names [])) fp
  have pt := ht s3 (upd H2 D (.dK [])) s3.heap.objs.size (cellsFrom (s3.heap.objs.size + 1) scope.names (cloFrom X.env.cells scope.names [])) fp
  have pk := hk s3 (upd H2 D (.dK [])) s3.heap.objs.size (cellsFrom (s3.heap.objs.size + 1) scope.names (cloFrom X.env.cells scope.names [])) fp
  have pe := he s3 (upd H2 D (.dK [])) s3.heap.objs.size (cellsFrom (s3.heap.objs.size + 1) scope.names (cloFrom X.env.cells scope.names [])) fp
  have pi1 := hi1 s3 (upd H2 D (.dK [])) s3.heap.objs.size (cellsFrom (s3.heap.objs.size + 1) scope.names (cloFrom X.env.cells scope.names [])) fp
  have pg1 := hg1 s3 (upd H2 D (.dK [])) s3.heap.objs.size (cellsFrom (s3.heap.objs.size + 1) scope.names (cloFrom X.env.cells scope.names [])) fp
  have pt1 := ht1 s3 (upd H2 D (.dK [])) s3.heap.objs.size (cellsFrom (s3.heap.objs.size + 1) scope.names (cloFrom X.env.cells scope.names [])) fp
  show codeAny _ _ (.compStart (.DictComp kx vx [⟨tg, iter, ifs, 0⟩, ⟨tg1, iter1, ifs1, 0⟩] scope pos) 0 (.ref it) (.ref D) (compEnvC scope (cellsFrom (s3.heap.objs.size + 1) scope.names (cloFrom X.env.cells scope.names [])) s3.heap.objs.size X.env)) (compPost (model X.prog X.w) X.A X.xe use Qf (.ref D) s3.heap.objs.size) { s3 with heap := pushCells (s3.heap.push { cls := .type "dict", data := .dict #[] }) scope.names }
  have nfp : ∀ b ∈ fp, (upd H2 D (.dK [])) b = none := fun b hb => (f3 b hb).1.1
  generalize hce : compEnvC scope (cellsFrom (s3.heap.objs.size + 1) scope.names (cloFrom X.env.cells scope.names [])) s3.heap.objs.size X.env = ce at I4 pg pt pk pe pi1 pg1 pt1 ⊢
  have cL : ce.locals = s3.heap.objs.size := by subst hce; rfl
  generalize hH3 : upd H2 D (.dK []) = H3 at I3 I4 pg pt pk pe pi1 pg1 pt1 w0 nfp f3
  generalize hs4 : ({ s3 with heap := pushCells (s3.heap.push { cls := .type "dict", data := .dict #[] }) scope.names } : Shared) = s4 at I4 ⊢
  have st4 : tn 0 s4.heap := T.keep _ _ _ st3 fun b _ o e => by rw [← hs4]; exact pushCells_keeps _ _ _ _ (Heap.get?_push_of_some _ e)
  have stat : ∀ {σ' : St} {H' : Hp} {s' : Shared}, Inv (X.blk s3 H3 scope ce fp) [] σ' H' s' → (∀ b ∈ fp, H' b = none) → ∀ b ∈ fp, FpOk (X.blk s3 H3 scope ce fp) [] H' b := fun {σ' H' s'} I' hn b hb =>
    ⟨hn b hb, (I'.ok.exf b hb).1, I'.ok.exfs b hb, .inl hb, fun x c e => (I'.ok.exf b hb).2 x c e, fun p hp => absurd (show p ∈ ([] : List (Addr × Obj)) ++ [] from hp) (by simp)⟩
  have loop : codeAny (model X.prog X.w) X.A (.compLoop (.DictComp kx vx [⟨tg, iter, ifs, 0⟩, ⟨tg1, iter1, ifs1, 0⟩] scope pos) 0 (.ref it) (.ref D) ce) (compPost (model X.prog X.w) X.A X.xe use Qf (.ref D) s3.heap.objs.size) s4 := by
    refine dloop_out (hs1 ce) (fun n s' => ∃ i H', Inv (X.blk s3 H3 scope ce fp) [] (wipe σ (own.map (·.2))) H' s' ∧ tn i s'.heap ∧ (∀ b ∈ fp, H' b = none) ∧ W i n H') ?_ m0 ⟨0, H3, I4, st4, nfp, w0⟩
    rintro n s5 ⟨i, H5, I5, st5, n5, w5⟩
    rcases turn i n H5 w5 with ⟨stop, qq⟩ | ⟨go, Nx, hNx, step⟩
    · have td := T.done (X.blk s3 H3 scope ce fp) rfl rfl rfl hc i [] s5 _ H5 (fun _ _ => False) I5 (stat I5 n5) st5 stop
      refine thnF td fun r s6 ⟨hr, I6⟩ => ?_
      subst hr
      -- back in the def's context
      have I7 : Inv X pins σ H5 s6 := I3.call' (ch := fp) I6.os I6.base I6.hok I6.bare fun b hb => ⟨(f3 b hb).1.2.2.2.1, (f3 b hb).1.2.1, (f3 b hb).1.2.2.2.2.1, (f3 b hb).1.2.2.2.2.2⟩
      have nC : H5 s3.heap.objs.size = none := by
        have z : H5 ce.locals = none := I6.free
        rw [cL] at z
        exact z
      obtain ⟨m, hn, _⟩ := I6.loc
      have hn : s6.heap.Ns ce.locals m := hn
      rw [cL] at hn
      exact hRR D s3.heap.objs.size s6 m H5 I7 qq hn (I3.fpOk (Nat.le_refl _) nC)
    · have ti := T.item (X.blk s3 H3 scope ce fp) rfl rfl rfl hc i [] s5 _ H5 (fun _ _ => False) I5 (stat I5 n5) st5 go
      refine thnF ti fun r s6 ⟨u, hr, h6⟩ => ?_
      subst hr
      refine thnF h6 fun _ s7 ⟨x, H7, I7, r7, y7, st7, n7⟩ => ?_
      have I7' := I7.pinned (stat I7 n7) (T.obj _ _ st7)
      refine thnF (pg.run _ s7 _ H7 x u _ I7' r7 (step x H7 y7)) fun _ s8 ⟨σ8, H8, I8, hw8, q8⟩ => ?_
      refine thnF (pt.run _ s8 σ8 H8 _ I8 q8) fun b s9 ⟨H9, I9, q9⟩ => ?_
      -- the turn's end, from any slots that know what the block knew at its start
      have fin : ∀ {σ9 : St} {s' : Shared} {H' : Hp}, Inv (X.blk s3 H3 scope ce fp) ([] ++ pinsAt fp s7.heap) σ9 H' s' → (wipe σ (own.map (·.2))).length = σ9.length → (∀ (j : Nat) v, (wipe σ (own.map (·.2)))[j]? = some (some v) → σ9[j]? = some (some v)) → Nx H' →
          ∃ m, m < n ∧ ∃ i H', Inv (X.blk s3 H3 scope ce fp) [] (wipe σ (own.map (·.2))) H' s' ∧ tn i s'.heap ∧ (∀ b ∈ fp, H' b = none) ∧ W i m H' := fun {σ9 s' H'} I' hl hk nx => by
        obtain ⟨m', hm, w'⟩ := hNx H' nx
        have pin' : ∀ b ∈ fp, ∀ o, s7.heap.get? b = some o → s'.heap.get? b = some o ∧ H' b = none := fun b hb o e =>
          let z := I'.pin (b, o) (List.mem_append_right _ (List.mem_append_right _ (mem_pinsAt hb e)))
          ⟨z.1, z.2.1⟩
        refine ⟨m', hm, i + 1, H', (I'.unpinned (pins := [])).weak hl hk, T.keep _ _ _ st7 fun b hb o e => (pin' b hb o e).1, fun b hb => ?_, w'⟩
        obtain ⟨o, e, _⟩ := T.obj _ _ st7 b hb
        exact (pin' b hb o e).2
      have hl8 : (wipe σ (own.map (·.2))).length = σ8.length := by rw [← hw8, wipe_length]
      have hk8 : ∀ (j : Nat) v, (wipe σ (own.map (·.2)))[j]? = some (some v) → σ8[j]? = some (some v) := fun j v e => by
        rw [← hw8] at e
        exact (wipe_some e).1
      have hk9 : ∀ (j : Nat) v, (wipe σ (own.map (·.2)))[j]? = some (some v) → (wipe σ8 vs1)[j]? = some (some v) := fun j v e => by
        rw [← hw8] at e
        obtain ⟨e1, e2⟩ := wipe_some e
        rw [wipe_out fun z => e2 (hv j z)]
        exact e1
      cases b with
      | false =>
        simp only [Bool.false_eq_true, if_false] at q9 ⊢
        exact fin I9 hl8 hk8 q9
      | true =>
        simp only [if_true] at q9 ⊢
        refine thnF (pi1.run _ s9 σ8 H9 _ I9 q9) fun xv s10 hx => thnF hx fun itv s11 h11 => ?_
        obtain ⟨it1, fp1, tn1, J1, H11, e1, I11, T1, st11, f11, W1, ⟨m1, w1⟩, turn1⟩ := h11
        subst e1
        -- the inner loop
        have stat1 : ∀ {H' : Hp}, (∀ b ∈ fp1, H' b = none) → ∀ b ∈ fp1, FpOk (X.blk s3 H3 scope ce fp) ([] ++ pinsAt fp s7.heap) H' b := fun hn b hb => ⟨hn b hb, (f11 b hb).2⟩
        have loop1 : codeAny (model X.prog X.w) X.A (.compLoop (.DictComp kx vx [⟨tg, iter, ifs, 0⟩, ⟨tg1, iter1, ifs1, 0⟩] scope pos) 1 (.ref it1) (.ref D) ce)
            (fun r s' => match r with
              | .ok _ => ∃ m, m < n ∧ ∃ i H', Inv (X.blk s3 H3 scope ce fp) [] (wipe σ (own.map (·.2))) H' s' ∧ tn i s'.heap ∧ (∀ b ∈ fp, H' b = none) ∧ W i m H'
              | .error _ => False) s11 := by
          refine dloop_in (fun k s' => ∃ j H', Inv (X.blk s3 H3 scope ce fp) ([] ++ pinsAt fp s7.heap) (wipe σ8 vs1) H' s' ∧ tn1 j s'.heap ∧ (∀ b ∈ fp1, H' b = none) ∧ W1 j k H') ?_ m1 ⟨0, H11, I11.weak (wipe_length _ _) (fun j v e => (wipe_some e).1), st11, fun b hb => (f11 b hb).1, w1⟩
          rintro k s12 ⟨j, H12, I12, st12, n12, w12⟩
          rcases turn1 j k H12 w12 with ⟨stop1, nx1⟩ | ⟨go1, Nx1, hNx1, step1⟩
          · refine thnF (T1.done (X.blk s3 H3 scope ce fp) rfl rfl rfl hc j _ s12 (wipe σ8 vs1) H12 (fun _ _ => False) I12 (stat1 n12) st12 stop1) fun r s13 ⟨hr, I13⟩ => ?_
            subst hr
            exact fin I13 (hl8.trans (wipe_length σ8 vs1).symm) hk9 nx1
          · refine thnF (T1.item (X.blk s3 H3 scope ce fp) rfl rfl rfl hc j _ s12 (wipe σ8 vs1) H12 (fun _ _ => False) I12 (stat1 n12) st12 go1) fun r s13 ⟨u1, hr, h13⟩ => ?_
            subst hr
            refine thnF h13 fun _ s14 ⟨x1, H14, I14, r14, y14, st14, n14⟩ => ?_
            have I14' := I14.pinned (stat1 n14) (T1.obj _ _ st14)
            refine thnF (pg1.run _ s14 (wipe σ8 vs1) H14 x1 u1 _ I14' r14 (step1 x1 H14 y14)) fun _ s15 ⟨σ15, H15, I15, hw15, q15⟩ => ?_
            refine thnF (pt1.run _ s15 σ15 H15 _ I15 q15) fun b1 s16 ⟨H16, I16, q16⟩ => ?_
            have fin1 : ∀ {s' : Shared} {H' : Hp}, Inv (X.blk s3 H3 scope ce fp) (([] ++ pinsAt fp s7.heap) ++ pinsAt fp1 s14.heap) σ15 H' s' → Nx1 H' → ∃ m, m < k ∧ ∃ j H', Inv (X.blk s3 H3 scope ce fp) ([] ++ pinsAt fp s7.heap) (wipe σ8 vs1) H' s' ∧ tn1 j s'.heap ∧ (∀ b ∈ fp1, H' b = none) ∧ W1 j m H' := fun {s' H'} I' nx => by
              obtain ⟨m', hm, w'⟩ := hNx1 H' nx
              have pin' : ∀ b ∈ fp1, ∀ o, s14.heap.get? b = some o → s'.heap.get? b = some o ∧ H' b = none := fun b hb o e =>
                let z := I'.pin (b, o) (List.mem_append_right _ (List.mem_append_right _ (mem_pinsAt hb e)))
                ⟨z.1, z.2.1⟩
              refine ⟨m', hm, j + 1, H', I'.unpinned.weak (by rw [← hw15, wipe_length]) (fun j v e => by rw [← hw15] at e; exact (wipe_some e).1), T1.keep _ _ _ st14 fun b hb o e => (pin' b hb o e).1, fun b hb => ?_, w'⟩
              obtain ⟨o, e, _⟩ := T1.obj _ _ st14 b hb
              exact (pin' b hb o e).2
            cases b1 with
            | false =>
              simp only [Bool.false_eq_true, if_false] at q16 ⊢
              exact fin1 I16 q16
            | true =>
              simp only [if_true] at q16 ⊢
              refine thnF (pk.run _ s16 σ15 H16 _ I16 q16) fun z s17 ⟨yk, H17, I17, r17, q17⟩ => ?_
              refine thnF (pe.run _ s17 σ15 H17 _ I17 q17) fun z2 s18 ⟨yv, H18, I18, r18, kvs, k9, ek, hD18, hz18, nx⟩ => ?_
              subst ek
              exact d_dictSet (X := X.blk s3 H3 scope ce fp) I18 hD18 hz18 r17 r18 fun s19 I19 => fin1 I19 nx
        exact dstart1 loop1 (T1.self X.A 0 _ _ _ st11 loop1)
  exact codeAny_compStart_dict loop (T.self X.A 0 _ _ _ st4 loop)
theorem pe_dc2 {kx vx tg iter tg1 iter1 : Expr} {ifs ifs1 : List Expr} {scope : Scope} {own : List (Str × Nat)} {vs1 : List Nat} {pos : Pos} {wi wi1 : TI} {g g1 : TG} {tt tt1 : TT} {tk tv : TE} (hc : X.calm = true) (hN : X.N.Nodup) (hi : PI X tg iter wi) (ok : BlkOk X.N X.env.scope scope own) (hv : ∀ i ∈ vs1, i ∈ own.map (·.2))
    (hg : ∀ (s : Shared) (H : Hp) (C : Addr) (cl : List (Str × Addr)) (fp : List Addr), PG (X.blk s H scope (compEnvC scope cl C X.env) fp) tg g) (ht : ∀ (s : Shared) (H : Hp) (C : Addr) (cl : List (Str × Addr)) (fp : List Addr), PTs (X.blk s H scope (compEnvC scope cl C X.env) fp) ifs tt)
    (hi1 : ∀ (s : Shared) (H : Hp) (C : Addr) (cl : List (Str × Addr)) (fp : List Addr), PI (X.blk s H scope (compEnvC scope cl C X.env) fp) tg1 iter1 wi1)
    (hg1 : ∀ (s : Shared) (H : Hp) (C : Addr) (cl : List (Str × Addr)) (fp : List Addr), PG (X.blk s H scope (compEnvC scope cl C X.env) fp) tg1 g1) (ht1 : ∀ (s : Shared) (H : Hp) (C : Addr) (cl : List (Str × Addr)) (fp : List Addr), PTs (X.blk s H scope (compEnvC scope cl C X.env) fp) ifs1 tt1)
    (hk : ∀ (s : Shared) (H : Hp) (C : Addr) (cl : List (Str × Addr)) (fp : List Addr), PE (X.blk s H scope (compEnvC scope cl C X.env) fp) kx tk)
    (he : ∀ (s : Shared) (H : Hp) (C : Addr) (cl : List (Str × Addr)) (fp : List Addr), PE (X.blk s H scope (compEnvC scope cl C X.env) fp) vx tv) (hs : ∀ x, foldedSetIterable iter X.env x = pure x := by intro _; rfl) (hs1 : ∀ env x, foldedSetIterable iter1 env x = pure x := by intro _ _; rfl) :
    PE X (.DictComp kx vx [⟨tg, iter, ifs, 0⟩, ⟨tg1, iter1, ifs1, 0⟩] scope pos) (tDc2 wi g tt wi1 g1 tt1 tk tv (own.map (·.2)) vs1) := by
  refine ⟨fun pins s σ H Q I h => ?_⟩
  rw [arm_eval_DictComp]
  refine dc2_core hc hN I hi ok hv hg ht hk he hs hi1 hg1 ht1 hs1 h fun D C s' m H' I' q hn f => ⟨m, hn, fun h'' sb => ?_⟩
  obtain ⟨f0, f1, f2, f3, f4, f5⟩ := f
  exact ⟨.ref D, H', I'.turned (t' := s'.toks) (fun b o hb e => (sb.2 b hb).trans e) f0 f1 f3 f4 f5, rfl, q⟩
end
end
end Oz

/-! Oz58: {k: True for x in xs if t [for y in ys if u]} with int keys, as data. -/
namespace Oz
open PySem PySem.Spec L2 PySem.Calls PySem.W
open PyProof.Rows hiding St
variable [WD]
noncomputable section
def dcE (g : Tgx) (t : Tx) (p : Px) (ρ0 : Ev) : List R → List Int → Option (List Int)
  | [], ns => some ns
  | r :: rs, ns => (match g r ρ0 with
    | none => none
    | some ρ1 => (match t ρ1 with
      | .ok b => if b = true then (match p ρ1 with
        | .ok y => (match y.d with
          | .int n => if ns.length < sizeLine then dcE g t p ρ0 rs (addK ns n) else none
          | _ => none)
        | _ => none) else dcE g t p ρ0 rs ns
      | _ => none))
def pDc (vs : List Nat) (src : Src) (g : Tgx) (t : Tx) (p : Px) : Px := fun ρ => if nov ρ = true then (src ρ).bind fun rs => match dcE g t p (wipeE ρ vs) rs [] with
  | some ns => .ok ⟨.own, dI ns⟩
  | none => .bad else .bad
def dc2E (vs1 : List Nat) (g : Tgx) (t : Tx) (src1 : Src) (g1 : Tgx) (t1 : Tx) (p : Px) (ρ0 : Ev) : List R → List Int → Option (List Int)
  | [], ns => some ns
  | r :: rs, ns => (match g r ρ0 with
    | none => none
    | some ρ1 => if nov ρ1 = true then (match t ρ1 with
      | .ok b => if b = true then (match src1 ρ1 with
        | .ok rs1 => (match dcE g1 t1 p (wipeE ρ1 vs1) rs1 ns with
          | some ms => dc2E vs1 g t src1 g1 t1 p ρ0 rs ms
          | none => none)
        | _ => none) else dc2E vs1 g t src1 g1 t1 p ρ0 rs ns
      | _ => none) else none)
def pDc2 (vs : List Nat) (src : Src) (g : Tgx) (t : Tx) (vs1 : List Nat) (src1 : Src) (g1 : Tgx) (t1 : Tx) (p : Px) : Px := fun ρ => if nov ρ = true then (src ρ).bind fun rs => match dc2E vs1 g t src1 g1 t1 p (wipeE ρ vs) rs [] with
  | some ns => .ok ⟨.own, dI ns⟩
  | none => .bad else .bad
/-- the dict so far -/
structure AccD (Z O H : Hp) (L : Addr) (ns : List Int) : Prop where
  at_ : H L = some (.dK (dKv ns))
  zl : Z L = none
  ol : O L = none
section
variable {K : PySem.W.Frag} {E : XK} {Hs Z O H Z' O' H' : Hp} {L : Addr} {ns : List Int}
theorem AccD.ext (a : AccD Z O H L ns) (e : Ext [] Z O H Z' O' H') : AccD Z' O' H' L ns := by
  have nn : ∀ {C C' : Hp}, (∀ c, C' c ≠ none → C c ≠ none ∨ H c = none ∨ c ∈ ([] : List Addr)) → ∀ {c : Addr}, C c = none → (∃ o, H c = some o) → C' c = none := fun {C C'} h {c} h1 h2 => by
    cases w : C' c with
    | none => rfl
    | some x =>
      obtain ⟨o, h3⟩ := h2
      rcases h c (by rw [w]; simp) with z | z | z
      · exact absurd h1 z
      · rw [h3] at z; cases z
      · cases z
  exact ⟨e.h.s _ _ a.at_ nofun, nn e.zn a.zl ⟨_, a.at_⟩, nn e.on a.ol ⟨_, a.at_⟩⟩
theorem AccD.push (g : Good Z O H) (a : AccD Z O H L ns) {n : Int} : Good Z O (upd H L (.dK (dKv (addK ns n)))) ∧ AccD Z O (upd H L (.dK (dKv (addK ns n)))) L (addK ns n) := by
  refine ⟨⟨g.zo, fun c o h => ?_, fun c o h f => ?_, g.nt⟩, ⟨upd_same, a.zl, a.ol⟩⟩
  · have ne : c ≠ L := fun z => by rw [z, a.ol] at h; cases h
    rw [upd_ne ne]
    exact g.oh c o h
  · by_cases z : c = L
    · rw [z, upd_same] at h; cases h; cases f
    · rw [upd_ne z] at h; exact g.tz c o h f
theorem reps_bl : ∀ (ns : List Int), Reps K Z (ns.map fun _ => V.bl true) (ns.map fun _ => PyData.bool true)
  | [] => .nil
  | _ :: ns => .cons (.bl true) (reps_bl ns)
theorem own_dI (h : H L = some (.dK (dKv ns))) : Own K Z H (.ref L) (dI ns) [L] := by
  have hv : Owns K Z H (ns.map fun _ => V.bl true) (ns.map fun _ => PyData.bool true) [] := .of_reps (reps_bl ns) (by simp [isVal])
  unfold dI
  refine .dct h ?_ ?_
  · simp [dKv, kd, Function.comp_def]
  · have e1 : (dKv ns).map (·.2) = ns.map fun _ => V.bl true := by simp [dKv, Function.comp_def]
    have e2 : (ns.map fun n => (PyData.int n, PyData.bool true)).map (·.2) = ns.map fun _ => PyData.bool true := by simp [Function.comp_def]
    rw [e1, e2]
    exact hv
theorem dc2_ok {vs vs1 : List Nat} {is is1 : List Nat} {w w1 : TI} {src src1 : Src} {t t1 : TG} {g gi : Tgx} {tt tt1 : Tx} {p : Px} {σ : St} {H : Hp} {Q : VK} (ik : IOc K E w src) (gk : GOc K is t g) (hv : ∀ i ∈ is, i ∈ vs) (ik1 : IOd K E w1 src1) (gk1 : GOc K is1 t1 gi) (hv1 : ∀ i ∈ is1, i ∈ vs1)
    (h : tP K E (pDc2 vs src g tt vs1 src1 gi tt1 p) σ H Q) : tDc2 w t (tT K E tt) w1 t1 (tT K E tt1) (tP K E p) (fun _ H Q => Q (.bl true) H) vs vs1 σ H Q := by
  obtain ⟨Z, O, ρ, F, rl, h⟩ := h
  refine ik σ H _ ⟨Z, O, ρ, F, rl, ?_⟩
  unfold pDc2 at h
  by_cases nv : nov ρ = true
  · rw [if_pos nv] at h
    cases e : src ρ with
    | bad => rw [e] at h; exact h.elim
    | exc c fs => rw [e] at h; exact h
    | ok rs =>
      rw [e] at h
      have h1 : ResK K E [] Z O H (match dc2E vs1 g tt src1 gi tt1 p (wipeE ρ vs) rs [] with
        | some ns => .ok ⟨.own, dI ns⟩
        | none => .bad) Q := h
      intro J H1 Z1 O1 x1 g1 wl L nL
      have zL : Z1 L = none := none_of g1.zh nL
      have oL : O1 L = none := none_of g1.oh nL
      cases e2 : dc2E vs1 g tt src1 gi tt1 p (wipeE ρ vs) rs [] with
      | none => rw [e2] at h1; exact h1.elim
      | some fin =>
      rw [e2] at h1
      have h1 : OkK K [] Z O H ⟨.own, dI fin⟩ Q := h1
      have rl1 := rl.ext x1 g1
      obtain ⟨Fw, rlw, sbw⟩ := rl1.wipe vs
      have nw := nov_wipe nv vs
      refine ⟨fun i m H' => m = rs.length - i ∧ i ≤ rs.length ∧ ∃ Z2 O2 F2, Good Z2 O2 H' ∧ Ext [] Z1 O1 H1 Z2 O2 H' ∧ Rel K Z2 O2 H' (L2.wipe σ vs) (wipeE ρ vs) F2 ∧ L ∉ F2 ∧ (∀ c ∈ F2, ∃ o, H1 c = some o) ∧ ∃ ns, AccD Z2 O2 H' L ns ∧ dc2E vs1 g tt src1 gi tt1 p (wipeE ρ vs) (rs.drop i) ns = some fin, ⟨rs.length, by simp, Nat.zero_le _, ?_⟩, ?_⟩
      · obtain ⟨x2, g2⟩ := ext_new (o := .dK []) g1 nL rfl
        have lv : ∀ c ∈ Fw, ∃ o, H1 c = some o := fun c hc => let ⟨o, h, _⟩ := rlw.sl.live c hc; ⟨o, h⟩
        have nF : L ∉ Fw := fun z => by
          obtain ⟨o, h⟩ := lv L z
          rw [nL] at h
          cases h
        exact ⟨Z1, O1, Fw, g2, x2, rlw.ext x2 g2, nF, lv, [], ⟨upd_same, zL, oL⟩, by rw [List.drop_zero, e2]⟩
      · rintro i m H' ⟨em, hi, Z2, O2, F2, g2, x2, rl2, nF2, lv2, ns, ac, hm⟩
        obtain ⟨w1, w2⟩ := wl Z2 O2 H' g2 x2.z x2.o (fun a o q _ n => x2.h.s a o q n) i hi
        by_cases hlt : i < rs.length
        · obtain ⟨go, yl⟩ := w2 rs[i] (List.getElem?_eq_getElem hlt)
          have ed : rs.drop i = rs[i] :: rs.drop (i + 1) := List.drop_eq_getElem_cons hlt
          rw [ed] at hm
          refine .inr ⟨go, fun H4 => ∃ Z4 O4 F4, Good Z4 O4 H4 ∧ Ext [] Z1 O1 H1 Z4 O4 H4 ∧ Rel K Z4 O4 H4 (L2.wipe σ vs) (wipeE ρ vs) F4 ∧ L ∉ F4 ∧ (∀ c ∈ F4, ∃ o, H1 c = some o) ∧ ∃ ns, AccD Z4 O4 H4 L ns ∧ dc2E vs1 g tt src1 gi tt1 p (wipeE ρ vs) (rs.drop (i + 1)) ns = some fin,
            fun H4 ⟨Z4, O4, F4, q1, q2, q3, q4, q5, q6⟩ => ⟨rs.length - (i + 1), by omega, rfl, hlt, Z4, O4, F4, q1, q2, q3, q4, q5, q6⟩, fun x H3 hy => ?_⟩
          obtain ⟨Z3, O3, x3, g3, r3⟩ := yl x H3 hy
          have rl3 := rl2.ext x3 g3
          have ac3 := ac.ext x3
          unfold dc2E at hm
          cases z : g rs[i] (wipeE ρ vs) with
          | none => simp only [z] at hm; cases hm
          | some ρ1 =>
            simp only [z] at hm
            by_cases nv1 : nov ρ1 = true
            rotate_left
            · rw [if_neg nv1] at hm; cases hm
            rw [if_pos nv1] at hm
            refine gk Z3 O3 H3 (L2.wipe σ vs) (wipeE ρ vs) F2 x rs[i] ρ1 rl3 r3 z _ fun σ1 F5 rl5 sb5 wp5 => ?_
            refine ⟨(wp5 vs hv).trans wipe_wipe, Z3, O3, ρ1, F5, rl5, ?_⟩
            cases et : tt ρ1 with
            | bad => simp only [et] at hm; cases hm
            | exc c fs => simp only [et] at hm; cases hm
            | ok b =>
              simp only [et] at hm
              intro H6 Z6 O6 x6 g6
              have rlw6 := (rl3.ext x6 g6)
              have ac6 := ac3.ext x6
              have x16 := (x2.trans0 x3).trans0 x6
              cases b with
              | false =>
                simp only [Bool.false_eq_true, if_false] at hm
                rw [if_neg Bool.false_ne_true]
                exact ⟨Z6, O6, F2, g6, x16, rlw6, nF2, lv2, ns, ac6, hm⟩
              | true =>
                simp only [if_true] at hm
                rw [if_pos rfl]
                cases es : src1 ρ1 with
                | bad => simp only [es] at hm; cases hm
                | exc c fs => simp only [es] at hm; cases hm
                | ok rs1 =>
                simp only [es] at hm
                have hL6 : ∃ o, H6 L = some o := ⟨_, ac6.at_⟩
                have rl56 := rl5.ext x6 g6
                refine ik1 L σ1 H6 _ ⟨Z6, O6, ρ1, F5, rl56, hL6, ?_⟩
                rw [es]
                intro J1 H8 Z8 O8 x8 g8 wl1
                have x18 := x16.trans0 x8
                obtain ⟨Fv, rlv, sbv⟩ := (rl56.ext x8 g8).wipe vs1
                have lv5 : ∀ c ∈ Fv, ∃ o, H1 c = some o := fun c hc => lv2 c (sb5.subset (sbv.subset hc))
                have nF5 : L ∉ Fv := fun z => nF2 (sb5.subset (sbv.subset z))
                have nw5 : nov (wipeE ρ1 vs1) = true := nov_wipe nv1 vs1
                cases ec : dcE gi tt1 p (wipeE ρ1 vs1) rs1 ns with
                | none => simp only [ec] at hm; cases hm
                | some ms =>
                simp only [ec] at hm
                refine ⟨fun j m H' => m = rs1.length - j ∧ j ≤ rs1.length ∧ ∃ Z2 O2 F4 F3, Good Z2 O2 H' ∧ Ext [] Z1 O1 H1 Z2 O2 H' ∧ (Same Z8 Z2 ∧ Same O8 O2 ∧ ∀ a o, H8 a = some o → a ∉ [L] → (∀ ps, o ≠ .tbl ps) → H' a = some o) ∧ Rel K Z2 O2 H' (L2.wipe σ vs) (wipeE ρ vs) F4 ∧ L ∉ F4 ∧ (∀ c ∈ F4, ∃ o, H1 c = some o) ∧ Rel K Z2 O2 H' (L2.wipe σ1 vs1) (wipeE ρ1 vs1) F3 ∧ L ∉ F3 ∧ (∀ c ∈ F3, ∃ o, H1 c = some o) ∧ ∃ ns, AccD Z2 O2 H' L ns ∧ dcE gi tt1 p (wipeE ρ1 vs1) (rs1.drop j) ns = some ms,
                  ⟨rs1.length, by simp, Nat.zero_le _, Z8, O8, F2, Fv, g8, x18, ⟨Same.refl _, Same.refl _, fun a o q _ _ => q⟩, rlw6.ext x8 g8, nF2, lv2, rlv, nF5, lv5, ns, ac6.ext x8, by rw [List.drop_zero, ec]⟩, ?_⟩
                rintro j m2 H9 ⟨em2, hj, Z9, O9, F4, F3, g9, x9, ⟨sz9, so9, k9⟩, rlo, nFo, lvo, rli, nFi, lvi, ns9, ac9, hm9⟩
                obtain ⟨w1', w2'⟩ := wl1 Z9 O9 H9 g9 sz9 so9 k9 j hj
                by_cases hlt1 : j < rs1.length
                · obtain ⟨go1, yl1⟩ := w2' rs1[j] (List.getElem?_eq_getElem hlt1)
                  have ed1 : rs1.drop j = rs1[j] :: rs1.drop (j + 1) := List.drop_eq_getElem_cons hlt1
                  rw [ed1] at hm9
                  refine .inr ⟨go1, fun H4 => ∃ Z4 O4 F4 F3, Good Z4 O4 H4 ∧ Ext [] Z1 O1 H1 Z4 O4 H4 ∧ (Same Z8 Z4 ∧ Same O8 O4 ∧ ∀ a o, H8 a = some o → a ∉ [L] → (∀ ps, o ≠ .tbl ps) → H4 a = some o) ∧ Rel K Z4 O4 H4 (L2.wipe σ vs) (wipeE ρ vs) F4 ∧ L ∉ F4 ∧ (∀ c ∈ F4, ∃ o, H1 c = some o) ∧ Rel K Z4 O4 H4 (L2.wipe σ1 vs1) (wipeE ρ1 vs1) F3 ∧ L ∉ F3 ∧ (∀ c ∈ F3, ∃ o, H1 c = some o) ∧ ∃ ns, AccD Z4 O4 H4 L ns ∧ dcE gi tt1 p (wipeE ρ1 vs1) (rs1.drop (j + 1)) ns = some ms,
                    fun H4 ⟨Z4, O4, F4, F3, q1, q2, q3, q4, q5, q6, q7, q8, q9, q10⟩ => ⟨rs1.length - (j + 1), by omega, rfl, hlt1, Z4, O4, F4, F3, q1, q2, q3, q4, q5, q6, q7, q8, q9, q10⟩, fun xx H10 hy => ?_⟩
                  obtain ⟨Z10, O10, x10, g10, r10⟩ := yl1 xx H10 hy
                  have rli10 := rli.ext x10 g10
                  have rlo10 := rlo.ext x10 g10
                  have ac10 := ac9.ext x10
                  unfold dcE at hm9
                  cases z1 : gi rs1[j] (wipeE ρ1 vs1) with
                  | none => simp only [z1] at hm9; cases hm9
                  | some ρ3 =>
                    simp only [z1] at hm9
                    refine gk1 Z10 O10 H10 (L2.wipe σ1 vs1) (wipeE ρ1 vs1) F3 xx rs1[j] ρ3 rli10 r10 z1 _ fun σ3 F7 rl7 sb7 wp7 => ?_
                    refine ⟨(wp7 vs1 hv1).trans wipe_wipe, Z10, O10, ρ3, F7, rl7, ?_⟩
                    cases et1 : tt1 ρ3 with
                    | bad => simp only [et1] at hm9; cases hm9
                    | exc c fs => simp only [et1] at hm9; cases hm9
                    | ok b1 =>
                      simp only [et1] at hm9
                      intro H11 Z11 O11 x11 g11
                      have ac11 := ac10.ext x11
                      have rlo11 := rlo10.ext x11 g11
                      have rli11 := rli10.ext x11 g11
                      have x1_11 := (x9.trans0 x10).trans0 x11
                      have x9_11 := x10.trans0 x11
                      have k11 : Same Z8 Z11 ∧ Same O8 O11 ∧ ∀ a o, H8 a = some o → a ∉ [L] → (∀ ps, o ≠ .tbl ps) → H11 a = some o := ⟨sz9.trans x9_11.z, so9.trans x9_11.o, fun a o q n nn => x9_11.h.s a o (k9 a o q n nn) nn⟩
                      cases b1 with
                      | false =>
                        simp only [Bool.false_eq_true, if_false] at hm9
                        rw [if_neg Bool.false_ne_true]
                        exact ⟨Z11, O11, F4, F3, g11, x1_11, k11, rlo11, nFo, lvo, rli11, nFi, lvi, ns9, ac11, hm9⟩
                      | true =>
                        simp only [if_true] at hm9
                        rw [if_pos rfl]
                        refine ⟨Z11, O11, ρ3, F7, rl7.ext x11 g11, ?_⟩
                        cases ep : p ρ3 with
                        | bad => simp only [ep] at hm9; cases hm9
                        | exc c fs => simp only [ep] at hm9; cases hm9
                        | ok y =>
                          obtain ⟨sy, dy⟩ := y
                          cases dy with
                          | int n =>
                            simp only [ep] at hm9
                            by_cases ll : ns9.length < sizeLine
                            rotate_left
                            · rw [if_neg ll] at hm9; cases hm9
                            rw [if_pos ll] at hm9
                            intro v H7 Z7 O7 G7 x7 g7 q7 n7 f7
                            have lk := q7.look g7
                            cases lk
                            have ac7 := ac11.ext x7
                            refine ⟨dKv ns9, .inl n, rfl, ac7.at_, by unfold dKv; rw [List.length_map]; exact ll, ?_⟩
                            rw [dKv_put]
                            obtain ⟨g8', ac8⟩ := ac7.push g7 (n := n)
                            have nsys : NSys L (H7 L) := ⟨fun ps z => (by rw [ac7.at_] at z; cases z), fun _ _ z => (by rw [ac7.at_] at z; cases z)⟩
                            have x17 := x1_11.trans0 x7
                            have keepR : ∀ {σq : St} {ρq : Ev} {Fq : List Addr}, nov ρq = true → L ∉ Fq → Rel K Z11 O11 H11 σq ρq Fq → Rel K Z7 O7 (upd H7 L (.dK (dKv (addK ns9 n)))) σq ρq Fq := fun {σq ρq Fq} nq nFq rq => by
                              have rl7 := rq.ext x7 g7
                              exact ⟨g8', rl7.nd, rl7.fo, rl7.sl.keep (Same.refl _) (Same.refl _) nq (fun a ha o h _ => by rw [upd_ne (fun (z : a = L) => nFq (z ▸ ha))]; exact h), fun P hP => upd_tab nsys (rl7.tb P hP)⟩
                            refine ⟨Z7, O7, F4, F3, g8', ⟨x17.h.updN nL nsys, x17.z, x17.o, x17.zn, x17.on⟩, ⟨k11.1.trans x7.z, k11.2.1.trans x7.o, fun a o q n nn => ?_⟩, keepR nw nFo rlo11, nFo, lvo, keepR nw5 nFi rli11, nFi, lvi, _, ac8, hm9⟩
                            rw [upd_ne (fun (z : a = L) => n (by simp [z]))]
                            exact x7.h.s a o (k11.2.2 a o q n nn) nn
                          | _ => simp only [ep] at hm9; cases hm9
                · have ej : j = rs1.length := by omega
                  refine .inl ⟨w1' ej, ?_⟩
                  have ed1 : rs1.drop j = [] := List.drop_eq_nil_of_le (by omega)
                  rw [ed1] at hm9
                  have ey2 : ns9 = ms := by
                    unfold dcE at hm9
                    exact Option.some.inj hm9
                  subst ey2
                  exact ⟨Z9, O9, F4, g9, x9, rlo, nFo, lvo, ns9, ac9, hm⟩
        · have ei : i = rs.length := by omega
          refine .inl ⟨w1 ei, ?_⟩
          have ed : rs.drop i = [] := List.drop_eq_nil_of_le (by omega)
          rw [ed] at hm
          have ey : ns = fin := by
            unfold dc2E at hm
            exact Option.some.inj hm
          subst ey
          refine h1 _ H' Z2 O2 [L] (x1.trans0 x2) g2 (own_dI ac.at_) (by simp) fun c hc => ?_
          rw [List.mem_singleton.mp hc]
          exact ⟨.inl (x1.h.free nL), ac.ol⟩
  · rw [if_neg nv] at h
    exact h.elim
end
section
variable {X : Cx} {E : XK} {kx tg iter tg1 iter1 : Expr} {ifs ifs1 : List Expr} {scope : Scope} {own : List (Str × Nat)} {vs1 : List Nat} {pos : Pos} {is is1 : List Nat} {w w1 : TI} {src src1 : Src} {t t1 : TG} {g g1 : Tgx} {tt tt1 : Tx} {p : Px}
theorem s_dc2 (hc : X.calm = true) (hN : X.N.Nodup) (hi : PI X tg iter w) (ik : IOc X.K E w src) (ok : BlkOk X.N X.env.scope scope own) (gk : GOc X.K is t g) (hv : ∀ i ∈ is, i ∈ own.map (·.2)) (ik1 : IOd X.K E w1 src1) (gk1 : GOc X.K is1 t1 g1) (hv1 : ∀ i ∈ is1, i ∈ vs1) (hvo : ∀ i ∈ vs1, i ∈ own.map (·.2))
    (hg : ∀ (s : Shared) (H : Hp) (C : Addr) (cl : List (Str × Addr)) (fp : List Addr), PG (X.blk s H scope (compEnvC scope cl C X.env) fp) tg t)
    (ht : ∀ (s : Shared) (H : Hp) (C : Addr) (cl : List (Str × Addr)) (fp : List Addr), PTs (X.blk s H scope (compEnvC scope cl C X.env) fp) ifs (tT X.K E tt))
    (hi1 : ∀ (s : Shared) (H : Hp) (C : Addr) (cl : List (Str × Addr)) (fp : List Addr), PI (X.blk s H scope (compEnvC scope cl C X.env) fp) tg1 iter1 w1)
    (hg1 : ∀ (s : Shared) (H : Hp) (C : Addr) (cl : List (Str × Addr)) (fp : List Addr), PG (X.blk s H scope (compEnvC scope cl C X.env) fp) tg1 t1)
    (ht1 : ∀ (s : Shared) (H : Hp) (C : Addr) (cl : List (Str × Addr)) (fp : List Addr), PTs (X.blk s H scope (compEnvC scope cl C X.env) fp) ifs1 (tT X.K E tt1))
    (he : ∀ (s : Shared) (H : Hp) (C : Addr) (cl : List (Str × Addr)) (fp : List Addr), PE (X.blk s H scope (compEnvC scope cl C X.env) fp) kx (tP X.K E p)) {vj : Nat} {vp : Pos} (hs : ∀ x, foldedSetIterable iter X.env x = pure x := by exact fun _ => rfl) (hs1 : ∀ env x, foldedSetIterable iter1 env x = pure x := by exact fun _ _ => rfl) :
    PE X (.DictComp kx (.Constant (.bool true) vj vp) [⟨tg, iter, ifs, 0⟩, ⟨tg1, iter1, ifs1, 0⟩] scope pos) (tP X.K E (pDc2 (own.map (·.2)) src g tt vs1 src1 g1 tt1 p)) :=
  (pe_dc2 hc hN hi ok hvo hg ht hi1 hg1 ht1 he (fun _ _ _ _ _ => pe_bl) hs hs1).imp fun σ H Q h => dc2_ok ik gk hv ik1 gk1 hv1 h
end
end
@[simp] theorem x_dc [WD] {vs : List Nat} {src : Src} {g : Tgx} {t : Tx} {p : Px} {ρ : Ev} : pDc vs src g t p ρ = (if nov ρ = true then (src ρ).bind fun rs => match dcE g t p (wipeE ρ vs) rs [] with
  | some ns => .ok ⟨.own, dI ns⟩
  | none => .bad else .bad) := id rfl
@[simp] theorem x_dc2 [WD] {vs vs1 : List Nat} {src src1 : Src} {g g1 : Tgx} {t t1 : Tx} {p : Px} {ρ : Ev} : pDc2 vs src g t vs1 src1 g1 t1 p ρ = (if nov ρ = true then (src ρ).bind fun rs => match dc2E vs1 g t src1 g1 t1 p (wipeE ρ vs) rs [] with
  | some ns => .ok ⟨.own, dI ns⟩
  | none => .bad else .bad) := id rfl
end Oz

/-! Oz59: in and sorted of a dict {int: True}. -/
namespace Oz
open PySem PySem.Spec L2 PySem.Calls PySem.W
open PyProof.Rows hiding St
variable [WD]
noncomputable section
def kvI : List (D × D) → Option (List Int)
  | [] => some []
  | (.int n, .bool true) :: r => (kvI r).map (n :: ·)
  | _ => none
def dIof : D → Option (List Int)
  | .dict es => kvI es
  | _ => none
@[simp] theorem dIof_dI {ns : List Int} : dIof (dI ns) = some ns := by
  show kvI _ = _
  induction ns with
  | nil => rfl
  | cons n ns ih => simp [kvI, ih]
theorem kvI_eq : ∀ {es : List (D × D)} {ns : List Int}, kvI es = some ns → es = ns.map fun n => (.int n, .bool true)
  | [], ns, h => by cases h; rfl
  | (a, b) :: r, ns, h => by
    cases a with
    | int n => cases b with
      | bool c => cases c with
        | true =>
          have h2 : (kvI r).map (n :: ·) = some ns := h
          cases e : kvI r with
          | none => rw [e] at h2; cases h2
          | some ms =>
            rw [e] at h2
            cases h2
            rw [kvI_eq e]
            rfl
        | false => cases h
      | _ => cases h
    | _ => cases b <;> cases h
theorem dIof_eq {d : D} {ns : List Int} (h : dIof d = some ns) : d = dI ns := by
  cases d with
  | dict es => rw [show es = _ from kvI_eq h]; rfl
  | _ => cases h
theorem keys_int : ∀ {ns : List Int} {kvs : List (Key × V)}, ns.map PyData.int = kvs.map (fun p => kd p.1) → kvs.map (·.1) = ns.map Sum.inl
  | [], [], _ => rfl
  | [], _ :: _, h => by simp at h
  | _ :: _, [], h => by simp at h
  | n :: ns, (k, v) :: kvs, h => by
    rw [List.map_cons, List.map_cons] at h
    injection h with h1 h2
    have hk : k = .inl n := by
      cases k with
      | inl i => cases h1; rfl
      | inr x => cases h1
    rw [List.map_cons, List.map_cons, keys_int h2, hk]
theorem rep_dI {K : PySem.W.Frag} {C : Hp} {v : V} {ns : List Int} (r : Rep K C v (dI ns)) : ∃ a kvs, v = .ref a ∧ C a = some (.dK kvs) ∧ kvs.map (·.1) = ns.map Sum.inl := by
  have hd : isDct (ns.map fun n => ((PyData.int n : D), (PyData.bool true : D))) = true := by simp [isDct, keyOf]
  obtain ⟨a, kvs, e, h, hk, _⟩ := Rep.dct_inv r hd
  refine ⟨a, kvs, e, h, keys_int ?_⟩
  rw [← hk, List.map_map]
  rfl
theorem val_int {ns : List Int} {kvs : List (Key × V)} (h : kvs.map (·.1) = ns.map Sum.inl) (i : Int) : (valV kvs (.inl i)).isSome = decide (i ∈ ns) := by
  rw [← valV_any]
  have e : (kvs.any fun kv => decide (kv.1 = .inl i)) = ((kvs.map (·.1)).any fun k => decide (k = .inl i)) := by rw [List.any_map]; rfl
  rw [e, h, List.any_map, Bool.eq_iff_iff]
  simp
def inK (a b : D) : Option D := match a, dIof b with
  | .int i, some ns => some (.bool (decide (i ∈ ns)))
  | _, _ => none
def ninK (a b : D) : Option D := match a, dIof b with
  | .int i, some ns => some (.bool (!decide (i ∈ ns)))
  | _, _ => none
def rInDk (f : Bool → Bool) : R2 := fun x y H Q => ∃ (a : Addr) (kvs : List (Key × V)) (i : Int), x = .int i ∧ y = .ref a ∧ H a = some (.dK kvs) ∧ Q (.bl (f (valV kvs (.inl i)).isSome)) H
theorem op_inK {X : Cx} (hu : X.A.units + 65 < cLine) : OpR X (compareOp .In) (rInDk id) := by
  intro pins s σ H x y v u Q I rx ry h
  obtain ⟨a, kvs, i, rfl, rfl, ha, q⟩ := h
  cases ry
  exact d_in (by omega) I (DGet.k (k := .inl i) ha) rx fun s' I' => ⟨.bl _, H, I', rfl, q⟩
theorem o_inK {K : PySem.W.Frag} : Op2 K (rInDk id) (at2 inK) := op2_at fun H x y a b d Q ra rb e q => by
  unfold inK at e
  cases a with
  | int i =>
    cases eb : dIof b with
    | none => simp only [eb] at e; cases e
    | some ns =>
      simp only [eb] at e
      cases e
      have := dIof_eq eb
      subst this
      obtain ⟨p, kvs, rfl, hp, hk⟩ := rep_dI rb
      cases ra
      refine ⟨p, kvs, i, rfl, rfl, hp, ?_⟩
      rw [val_int hk]
      exact q _ fun _ => .bl _
  | _ => cases e
@[simp] theorem x_inK {i : Int} {ns : List Int} : inK (.int i) (dI ns) = some (.bool (decide (i ∈ ns))) := by simp [inK]
@[simp] theorem x_ninK {i : Int} {ns : List Int} : ninK (.int i) (dI ns) = some (.bool (!decide (i ∈ ns))) := by simp [ninK]
/-! ### sorted -/
def leI (a b : Int) : Bool := decide (a ≤ b)
def bSortDk : List R → Res R
  | [r] => (match dIof r.d with
    | some ns => .ok ⟨.own, .list ((ns.mergeSort leI).map .int)⟩
    | none => .bad)
  | _ => .bad
@[simp] theorem x_sortDk {s : Sx} {ns : List Int} : bSortDk [⟨s, dI ns⟩] = .ok ⟨.own, .list ((ns.mergeSort leI).map .int)⟩ := by
  show (match dIof (dI ns) with
    | some ns => (Res.ok ⟨.own, .list ((ns.mergeSort leI).map .int)⟩ : Res R)
    | none => .bad) = _
  rw [dIof_dI]
/-! ### d[n] = True -/
theorem addK_mem {ns : List Int} {n m : Int} : m ∈ addK ns n ↔ m ∈ ns ∨ m = n := by
  unfold addK
  split
  · rename_i c
    exact ⟨.inl, fun h => h.elim id fun z => z ▸ c⟩
  · simp
end
end Oz

/-! Oz60: what an expression makes anew lasts from then on (a list to be put into a tuple). -/
namespace Oz
open PySem PySem.Spec L2
open PyProof.Rows hiding St
variable [WD]
def fzR (r : R) : R := match r.s with
  | .own => ⟨.imm, r.d⟩
  | _ => r
def pFz (p : Px) : Px := fun ρ => (p ρ).bind fun r => .ok (fzR r)
section
variable {K : PySem.W.Frag} {E : XK} {Z O H : Hp} {Q : VK} {p : Px} {σ : L2.St}
end
@[simp] theorem x_fz {p : Px} {ρ : Ev} : pFz p ρ = (p ρ).bind fun r => .ok (fzR r) := id rfl
@[simp] theorem fzR_own {d : D} : fzR ⟨.own, d⟩ = ⟨.imm, d⟩ := id rfl
@[simp] theorem fzR_imm {d : D} : fzR ⟨.imm, d⟩ = ⟨.imm, d⟩ := id rfl
end Oz

/-! Oz61: l[p] += e of ints, in a list; {}. -/
namespace Oz
open PySem PySem.Spec L2
open PyProof.Rows hiding St
variable [WD]
def sAugI (l : Plx) (p q : Px) : Stx := fun ρ => match l ρ with
  | .bad => .bad
  | .exc c fs => .exc c fs ρ
  | .ok l => (match p ρ with
    | .bad => .bad
    | .exc c fs => .exc c fs ρ
    | .ok i => (match l.d, i.d with
      | .list ds, .int k => if 0 ≤ k then (match ds[k.toNat]? with
        | some (.int x) => (match q ρ with
          | .bad => .bad
          | .exc c fs => .exc c fs ρ
          | .ok r => (match r.d with
            | .int y => putE l (.list (ds.set k.toNat (.int (x + y)))) ρ
            | _ => .bad))
        | _ => .bad) else .bad
      | _, _ => .bad))
section
variable {X : Cx} {E : XK} {a b e : Expr} {l : Plx} {p q : Px} {pos apos : Pos}
end
@[simp] theorem x_augI {l : Plx} {p q : Px} {ρ : Ev} : sAugI l p q ρ = (match l ρ with
  | .bad => .bad
  | .exc c fs => .exc c fs ρ
  | .ok l => (match p ρ with
    | .bad => .bad
    | .exc c fs => .exc c fs ρ
    | .ok i => (match l.d, i.d with
      | .list ds, .int k => if 0 ≤ k then (match ds[k.toNat]? with
        | some (.int x) => (match q ρ with
          | .bad => .bad
          | .exc c fs => .exc c fs ρ
          | .ok r => (match r.d with
            | .int y => putE l (.list (ds.set k.toNat (.int (x + y)))) ρ
            | _ => .bad))
        | _ => .bad) else .bad
      | _, _ => .bad))) := id rfl
end Oz

/-! Oz62: __init__ of an own exception over ValueError: super().__init__(what); self.what = what -/
namespace Oz
open PySem PySem.Spec L2
open PyProof.Rows hiding St
def spXi (D : Addr) : Sp := fun vs H Q _ => ∃ (a : Addr) (y : V), vs = [.ref a, y] ∧ H a = some (exo a D none) ∧ ∀ dx, H dx = none → dx ≠ a → Q .non (upd (upd H dx (exd dx [("what", y)])) a (exo a D (some dx)))
/-- what the written part says of such a class -/
structure XiOk (P : Program) (K : PySem.W.Frag) (D f : Addr) (p : XiPos) (cc cda : Addr) (fd : FuncData) : Prop where
  T : OexC K D
  lk : ∃ (name qual : Str) (dV kV doc pm ct oc : Value) (an od : Option Addr) (osl : Array (Option Value)), fd = PySem.W.fnX name qual (ixPars p) (ixBody p) ixScope [("__class__", cc)] dV kV doc pm an (.ref cda) ct ∧ K.lookup f = some ⟨oc, od, .func fd, osl⟩ ∧ PySem.W.codeIn K (.ref cda) qual = true
  code : ∃ (ccl : Value) (cdd : Option Addr) (vs : Array Value) (ccs : Array (Option Value)) (file : Str) (tf : Tok), K.lookup cda = some ⟨ccl, cdd, .fields vs, ccs⟩ ∧ vs[2]? = some (.str file tf) ∧ ((P.main.file : Str) == file) = true
  cell : ∃ (cl : Value) (cld : Option Addr) (csl : Array (Option Value)), K.lookup cc = some ⟨cl, cld, .cell (some (.ref D)), csl⟩
  sub : PySem.W.mroIn K D (.ref D) = some true
  ot : PySem.W.nsIn K cStatics "thirdparty.any" = some none
  sup : PySem.W.ks_superIn K D D "__init__" = some (some (.builtin "ValueError.__init__"))
  ve : PySem.W.subIn K (.ref D) (.type "ValueError") = some true
  no : PySem.W.findIn K (.ref D) "what" = some none
  top : (P.main.scope.names.lookup ("super" : Str)).isSome = false
/-- the call's steps, at its places in the text -/
def XiCall (p : XiPos) : Prop := ∀ (qual : Str) (L f cc : Addr) (cd : Value), ∃ pl : Sem Bool, eval (.Call (.Attribute (.Call (.Name "super" p.p0) [] [] p.p1) "__init__" p.p2) [.Name "what" p.p3] [] p.p4) (PySem.W.envX qual ixScope L f cd [("__class__", cc)]) = (do
      let ov ← attributeBase (.Call (.Name "super" p.p0) [] [] p.p1) "__init__" (PySem.W.envX qual ixScope L f cd [("__class__", cc)]) (eval (.Call (.Name "super" p.p0) [] [] p.p1) (PySem.W.envX qual ixScope L f cd [("__class__", cc)]))
      standAt p.p2.atName
      let (g, first) ← holding [ov] (getMethod ov "__init__" pl)
      callWith p.p4 g first (backTo p.p4 (starEach [.Name "what" p.p3] (PySem.W.envX qual ixScope L f cd [("__class__", cc)]))) [])
theorem fn_xinit {CX : CXT} {P : Program} {w : World} {K : PySem.W.Frag} {mg : Str → Option Value} {base : Heap} {D f cc cda : Addr} {p : XiPos} {fd : FuncData} (O : XiOk P K D f p cc cda fd) (XC : XiCall p) (hsup : mg "super" = none) : FnOk P w K mg base CX 1 f fd ["self", "what"] (spXi D) := by
  obtain ⟨name, qual, dV, kV, doc, pm, ct, oc, an, od, osl, efd, lk, hcd⟩ := O.lk
  subst efd
  refine ⟨fun vs H Q E ⟨a, y, e, _⟩ => by rw [e]; rfl, fun A outer s H args us vs Q E hr e0 hb r ⟨a, y, ev, ea, hq⟩ => ?_⟩
  subst ev
  have KX : K.In s.heap := e0.mod.kin.keeps fun b o e => (e0.bs b o e).1
  have lim : s.heap.NoLimit := e0.mod.nolimit.keeps fun b o e => (e0.bs b o e).1
  cases r with
  | @cons _ u0 _ ur ra rw' =>
  obtain rfl : u0 = Value.ref a := ra
  cases rw' with
  | @cons _ u1 _ ur2 ry rn =>
  cases rn
  refine PySem.ks_codeAny_call_defAt (fd := PySem.W.fnX name qual (ixPars p) (ixBody p) ixScope [("__class__", cc)] dV kV doc pm an (.ref cda) ct) (body := ixBody p) (binds := (["self", "what"] : List Str).zip [Value.ref a, u1]) hr.depth (KX _ _ lk) rfl lim (PySem.W.codeRec_of KX hcd) rfl hb (show ∀ x ∈ ixScope.names, x.2 ≠ NameKind.cell by decide) (by
    intro x hx
    simp only [List.zip_cons_cons, List.zip_nil_left, List.mem_cons, List.not_mem_nil, or_false] at hx
    rcases hx with rfl | rfl <;> rfl) (fun h₁ hns kp => ?_)
  have S : NdefX.NScope ["self", "what", "__class__"] ["self", "what"] ["__class__"] ixScope := NdefX.nscope_by (by decide)
  obtain ⟨cl, cld, csl, hcell⟩ := O.cell
  have hcc : s.heap.get? cc = some ⟨cl, cld, .cell (some (.ref D)), csl⟩ := KX _ _ hcell
  have bcc : base.get? cc = some ⟨cl, cld, .cell (some (.ref D)), csl⟩ := e0.mod.kin _ _ hcell
  have C : NdefX.CellsAt [("__class__", cc)] ["__class__"] [none] s.heap H := by
    refine ⟨rfl, fun y c h => ?_, fun x y c h1 h2 => ?_, fun i y h => ?_⟩
    · have : (y, c) ∈ [(("__class__" : Str), cc)] := PySem.mem_of_lookup h
      simp at this
      obtain ⟨rfl, rfl⟩ := this
      exact ⟨(e0.bs _ _ bcc).2, _, ⟨_, hcc, rfl⟩⟩
    · have h1 : (x, c) ∈ [(("__class__" : Str), cc)] := PySem.mem_of_lookup h1
      have h2 : (y, c) ∈ [(("__class__" : Str), cc)] := PySem.mem_of_lookup h2
      simp at h1 h2
      rw [h1.1, h2.1]
    · cases i with
      | succ i => simp at h
      | zero =>
        simp at h
        subst h
        exact ⟨cc, rfl, fun v hv => by simp at hv⟩
  have I := NdefX.inv_startN (CX := CX) (E := E) (tk := s.toks + ((["self", "what"] : List Str).zip [Value.ref a, u1]).length) (F := ⟨name, qual, ixPars p, ixBody p, ixScope, [("__class__", cc)], cda⟩) (f := f) S hr.hd e0 (vs := [.ref a, y]) (us := [Value.ref a, u1]) rfl (.cons rfl (.cons ry .nil)) C hns kp
  obtain ⟨t1, ho⟩ := exo_at I.hok ea
  obtain ⟨ccl, cdd, cvs, ccs, file, tf, hcda, hvs, hfile⟩ := O.code
  have K1 : K.In h₁ := KX.keeps kp
  obtain ⟨oD, cdD, hD1, hD2, hcls⟩ : ∃ oD cdD, h₁.get? D = some oD ∧ oD.data = .cls cdD ∧ PySem.W.clsIn K D = some cdD := by
    obtain ⟨nm, q, N, bs, bm, sn, sub, ab, col, dd, k0, k1, k2, k3, k5, hC, hbm⟩ := O.T.cls
    exact ⟨_, _, K1 _ _ hC, rfl, by unfold PySem.W.clsIn; rw [hC] <;> rfl⟩
  have hlook : ∀ (x : Str) (u : Value), (x = "self" ∧ u = Value.ref a) ∨ (x = "what" ∧ u = u1) → (((["self", "what"] : List Str).zip [Value.ref a, u1]).reverse.lookup x) = some u := by
    rintro x u (⟨rfl, rfl⟩ | ⟨rfl, rfl⟩) <;> rfl
  have hII : PySem.W.InstAt h₁ a ({ cls := .ref D, dict := none, data := .fields #[.ref t1, .none, .none, .none, .bool false, .none] } : Obj) D none := ⟨ho, rfl, rfl, trivial⟩
  show _root_.PySem.wpAt (model P w) _ (.func (ixBody p) (PySem.W.envX qual ixScope s.heap.objs.size f (.ref cda) [("__class__", cc)])) (execs (ixBody p) (PySem.W.envX qual ixScope s.heap.objs.size f (.ref cda) [("__class__", cc)])) _ _ _
  unfold ixBody
  obtain ⟨pl, hpl⟩ := XC qual s.heap.objs.size f cc (.ref cda)
  refine PySem.ks_wpAt_execs_cons (PySem.ks_wpAt_Expr_any (PySem.ks_wpAt_MethodCall (pl := pl) ?_ hpl))
  · refine PySem.ks_wpAt_super_base (env := PySem.W.envX qual ixScope s.heap.objs.size f (.ref cda) [("__class__", cc)]) rfl rfl (by decide) rfl (K1 _ _ lk) rfl rfl rfl (K1 _ _ hcda) rfl hvs hfile O.top ?_
    obtain ⟨mb, b1, b2⟩ := e0.mod.blt
    have bk : ∀ b o, base.get? b = some o → h₁.get? b = some o := fun b o e => kp b o (e0.bs b o e).1
    refine PySem.W.ks_loadName_global (env := PySem.W.envX qual ixScope s.heap.objs.size f (.ref cda) [("__class__", cc)]) rfl rfl (Calls.loadGlobal_builtin (env := PySem.W.envX qual ixScope s.heap.objs.size f (.ref cda) [("__class__", cc)]) (e0.mod.glob.keeps bk) hsup (b1.keeps bk) ((b2 _ (by decide)).trans PyProof.Rows.Boot.«super») ⟨rfl, ?_⟩)
    refine wpAny_loadName_free (env := PySem.W.envX qual ixScope s.heap.objs.size f (.ref cda) [("__class__", cc)]) rfl rfl rfl ⟨_, K1 _ _ hcell, rfl⟩ ?_
    refine wpAny_loadName_local (env := PySem.W.envX qual ixScope s.heap.objs.size f (.ref cda) [("__class__", cc)]) rfl rfl hns (hlook "self" _ (.inl ⟨rfl, rfl⟩)) ?_
    refine PySem.ks_wpAny_isType_cls hD1 hD2 ⟨rfl, ?_⟩
    refine PySem.ks_wpAny_call_super hD1 hD2 ho rfl (fun c e => by cases e) (PySem.W.looks_mroIn K1 O.sub) (fun h2 eso k2 => ?_)
    have K2 : K.In h2 := K1.keeps k2
    have I2 : PySem.W.InstAt h2 a ({ cls := .ref D, dict := none, data := .fields #[.ref t1, .none, .none, .none, .bool false, .none] } : Obj) D none := ⟨k2 _ _ ho, rfl, rfl, trivial⟩
    have hal : PySem.W.alongIn K "__init__" ((cdD.mro.dropWhile (· != .ref D)).drop 1) = some (some (.builtin "ValueError.__init__")) := by
      have := O.sup
      unfold PySem.W.ks_superIn at this
      rw [hcls] at this
      exact this
    refine PySem.W.kxs_getMethod PySem.W.kxs_ValueError eso (PySem.W.looks_opaque K2 O.ot) (l₀ := cdD.mro) (fun A Q E s k q => wpAny_bind ((PySem.W.looks_clsIn K2 hcls) A _ E s k (wpAny_pure q))) rfl K2 hal (I2.type.andThen (PySem.W.looks_subIn K2 O.ve)) (PySem.W.ks_ne K2 I2 hcls) (by decide) ?_
    have hu : (h2.push (PySem.W.kxs_mw "ValueError.__init__" a)).get? h2.objs.size = some (PySem.W.kxs_mw "ValueError.__init__" a) := Heap.get?_push_at rfl rfl
    have kp3 : ∀ b o, h2.get? b = some o → (h2.push (PySem.W.kxs_mw "ValueError.__init__" a)).get? b = some o := fun b o e => Heap.get?_push_of_some _ e
    have hst : starEach [Expr.Name "what" p.p3] (PySem.W.envX qual ixScope s.heap.objs.size f (.ref cda) [("__class__", cc)]) = (false, eval (.Name "what" p.p3) (PySem.W.envX qual ixScope s.heap.objs.size f (.ref cda) [("__class__", cc)])) :: starEach [] (PySem.W.envX qual ixScope s.heap.objs.size f (.ref cda) [("__class__", cc)]) := rfl
    show wpAny _ _ (callWith p.p4 (.ref h2.objs.size) [] (backTo p.p4 (starEach [Expr.Name "what" p.p3] (PySem.W.envX qual ixScope s.heap.objs.size f (.ref cda) [("__class__", cc)]))) []) _ _ _
    rw [hst]
    refine PySem.W.kxs_callWith (i := "ValueError.__init__") (x := a) rfl ?_
    refine Calls.evalArgs_plain ?_
    refine PyProof.Rows.spliced_more (rest := []) ?_ hst
    have hns3 : (h2.push (PySem.W.kxs_mw "ValueError.__init__" a)).Ns s.heap.objs.size (fun x => (((["self", "what"] : List Str).zip [Value.ref a, u1]).reverse.lookup x)) := (hns.keeps k2).keeps kp3
    refine wpAny_Name (wpAny_loadName_local rfl rfl hns3 (hlook "what" u1 (.inr ⟨rfl, rfl⟩)) ?_) (by decide)
    refine PyProof.Rows.spliced_none ?_
    refine ⟨hu, ?_⟩
    obtain ⟨nm, q, N, bs, bm, sn, sub, ab, col, dd, k0, k1, k2', k3, k5, hC, hbm⟩ := O.T.cls
    have K3 : K.In (h2.push (PySem.W.kxs_mw "ValueError.__init__" a)) := K2.keeps kp3
    have ho3 := kp3 _ _ (k2 _ _ ho)
    have FB := PySem.F.excBase_ValueError
    show wpAny _ _ (call (.ref h2.objs.size) [u1]) _ _ _
    refine wpAny_call (codeAny_of_tree ?_)
    show wpAny _ _ (callAny (.ref h2.objs.size) ⟨[u1], []⟩) _ _ _
    simp only [callAny]
    refine wpAny_bind (wpAny_load hu ?_)
    simp only [PySem.W.kxs_mw, show (Value.type "method-wrapper" == Value.type "method" || Value.type "method-wrapper" == Value.type "builtin_function_or_method" || Value.type "method-wrapper" == Value.type "method-wrapper") = true by decide, if_true]
    refine PySem.W.KFB.if_so (by decide) ?_
    refine wpAny_bind (PySem.W.check_bound_init FB.toExcCallFacts (K3 _ _ hC) ho3 rfl ?_)
    refine wpAny_bind (wpAny_pure (wpAny_pure ?_))
    refine ⟨PySem.plainId_quiet FB.init.plain _, codeAny_builtin FB.initEntry ?_⟩
    refine PySem.W.exc_init_tree (cls := .ref D) (t0 := t1) (dv := none) (c2 := .none) (c3 := .none) (b4 := .bool false) ho3 (by rw [sizeLine_eq]; simp) fun h4 k4 ho4 _ => ?_
    have I4 := I.write (t' := s.toks + ((["self", "what"] : List Str).zip [Value.ref a, u1]).length + 1) (x := a) (e := a) (o := exo a D none) (by rw [ea]; exact True.intro) (.inl rfl) (fun b o hb e => k4 b o hb (kp3 b o (k2 b o e))) ⟨_, ho4⟩ (exo_ok ho4)
    have eu : upd H a (exo a D none) = H := by
      funext b
      by_cases hb : b = a
      · rw [hb, upd_same, ea]
      · rw [upd_ne hb]
    rw [eu] at I4
    refine wpAt_of_wpAny ?_
    have hq2 : tOst K "what" (tVar 0) (tVar 1) { nx := fun _ H' => Q .non H', rt := Q } (NdefX.startF ["self", "what", "__class__"] [.ref a, y] [none]) H := ⟨y, rfl, .ref a, rfl, a, D, rfl, O.T, O.no, .inl ⟨ea, hq⟩⟩
    have run : PSs (NdefX.ncx CX P w K mg base ["self", "what", "__class__"] ⟨name, qual, ixPars p, ixBody p, ixScope, [("__class__", cc)], cda⟩ f A outer s H E) [.Assign [.Attribute (.Name "self" p.p6) "what" p.p7] (.Name "what" p.p8) p.p9] (tOst K "what" (tVar 0) (tVar 1)) :=
      pss_one (ps_ost (pe_var (i := 0) (x := "self") rfl (.inl rfl) (by decide) (by decide)) (pe_var (i := 1) (x := "what") rfl (.inl rfl) (by decide) (by decide)) rfl)
    refine wpAny_mono (run.run [] _ _ H { nx := fun _ H' => Q .non H', rt := Q } I4 hq2) (fun fl s' hs => ?_) fun e s' hs => hs
    cases fl with
    | ret u =>
      obtain ⟨v, σ', H', J, rv, q⟩ := hs
      exact ⟨v, H', J.os, J.bare, J.base, J.hok, rv, q⟩
    | next =>
      obtain ⟨σ', H', J, q⟩ := hs
      exact ⟨.non, H', J.os, J.bare, J.base, J.hok, rfl, q⟩
    | brk =>
      obtain ⟨_, _, _, q⟩ := hs
      exact False.elim q
    | cont =>
      obtain ⟨_, _, _, q⟩ := hs
      exact False.elim q
end Oz

/-! Oz63: raise c("..") and try: return f(..) / except c as e: return e.what, c an own exception -/
namespace Oz
open PySem PySem.Spec L2
open PyProof.Rows hiding St
structure Rfs (P : Program) (K : PySem.W.Frag) (mg : Str → Option Value) (c : Str) : Prop where
  ex : ∃ (p : XiPos) (cc cda fI : Addr) (fd : FuncData), XiOk P K (He.ga K c) fI p cc cda fd ∧ XiCall p ∧ Binds K fd ["self", "what"] [] ∧ PySem.W.findIn K (.ref (He.ga K c)) "__init__" = some (some (.ref fI)) ∧ PySem.W.typeIn K (.ref fI) = some (.type "function")
  at_ : mg c = some (.ref (He.ga K c))
  xf : XfC K (He.ga K c)
  sup : mg "super" = none
  self : PySem.W.exmOne K (.ref (He.ga K c)) (.ref (He.ga K c)) = some true
variable [WD]
def sRse (c : Str) (d : D) : Stx := fun ρ => .exc c [("what", d)] ρ
theorem s_raise {X : Cx} {E : XK} {c t : Str} {j} {p q pos pos' : Pos} {k : Nat} (R : Rfs X.prog X.K X.mg c) (hr : Room k X.A) (tk : Takes X (fun cls d _ H => E cls d H)) (hk : 2 ≤ k := by decide) (hc : X.calm = true := by rfl) (hg : Gl X c := by rfl) (hdb : (c == ("__debug__" : Str)) = false := by decide) :
    PS X (.Raise (some (.Call (.Name c p) [.Constant (.str t) j q] [] pos)) none pos') (tS X.K E (sRse c (.str t))) := by
  obtain ⟨xp, cc, cda, fI, fd, O, XC, hb, iC, tI⟩ := R.ex
  refine (ps_raise hc tk (pmk_oex (CX := CX0) O.T iC tI (fn_xinit O XC R.sup) (hr.mono hk) hb .nil passE hg R.at_ (pa_cons pe_str pa_nil) hdb)).imp fun D σ H h => ?_
  obtain ⟨Z, O', ρ, F, rl, nv, h⟩ := h
  refine ⟨by simp, fun a na => ?_⟩
  refine ⟨a, .str t, rfl, upd_same, fun dx nd ne => ?_⟩
  have nd1 : H dx = none := by rw [upd_ne ne] at nd; exact nd
  refine ⟨rfl, dx, [("what", .str t)], upd_same, by rw [upd_ne ne]; exact upd_same, nd1, ?_⟩
  have eh : upd (del (upd (upd (upd H a (exo a (He.ga X.K c) none)) dx (exd dx [("what", V.str t)])) a (exo a (He.ga X.K c) (some dx))) a) dx (.xd [("what", V.str t)]) = upd H dx (.xd [("what", V.str t)]) := by
    funext b
    by_cases h1 : b = dx
    · rw [h1, upd_same, upd_same]
    · rw [upd_ne h1, upd_ne h1]
      by_cases h2 : b = a
      · rw [h2, del_same, na]
      · rw [del_ne h2, upd_ne h2, upd_ne h1, upd_ne h2]
  rw [eh]
  obtain ⟨ex, g⟩ := ext_new rl.g nd1 (o := .xd [("what", V.str t)]) rfl
  exact h σ _ Z O' F dx _ (rl.ext ex g) (TrS.ext ex) upd_same rfl (.cons (.str t) .nil)
def tryE (y : Option (Option R)) (fs : List (Str × D)) (ρ : Ev) : SR := match y, fs with
  | some none, [(f, d)] => if f = "what" then .ret ⟨.imm, d⟩ ρ else .bad
  | _, _ => .bad
/-- try: return f(..) / except c as n: return n.what -/
def sTry (i : Nat) (c : Str) (m : Fn) (md : List Md) (qs : List Px) : Stx := fun ρ => match pCall m md qs ρ with
  | .bad => .bad
  | .ok r => if storable r = true then .ret r ρ else .bad
  | .exc c' fs => if c' = c then tryE ρ[i]? fs ρ else .bad
section
variable {X : Cx} {E : XK} {c n x : Str} {i k k' : Nat} {md : List Md} {ps : List Str} {m : Fn} {p np p1 p2 p3 rp pos pos' pos'' : Pos} {e : Expr} {es : List Expr} {qs : List Px}
end
end Oz

/-! Oz64: the head's Hook with own exceptions -/
namespace Oz
open PySem PySem.Spec L2
open PyProof.Rows hiding St
theorem oexB_ok {K : PySem.W.Frag} {C : Addr} (h : oexB K C = true) : ∃ nm q N bs bm sn sub ab col dd k0 k1 k2 k3 k5, K.lookup C = some (excClassObj nm q C N bs bm true sn sub ab col dd k0 k1 k2 k3 k5 "ValueError.__new__") ∧ PySem.HandSPX.refsVE bm = true := by
  unfold oexB at h
  split at h
  · rename_i dd cd sl ho
    split at h
    · rename_i C' bm k0 k1 k2 k3 n k5 hm hs
      simp only [Bool.and_eq_true, beq_iff_eq, Bool.not_eq_true'] at h
      obtain ⟨rfl, rfl, hdel, hdict, ht⟩ := h
      obtain ⟨nm, bs, mro, ns, qn, hd, sn, sub, ab, col, del⟩ := cd
      dsimp only at hm hdel hdict
      subst hm hdel hdict
      refine ⟨nm, qn, ns, bs, bm, sn, sub, ab, col, dd, k0, k1, k2, k3, k5, ?_, ht⟩
      rw [ho]
      have : sl = #[k0, k1, k2, k3, some (.builtin "ValueError.__new__"), k5] := by
        rw [← Array.toList_inj]
        exact hs
      rw [this]
    · cases h
  · cases h
theorem rfs_of {P : Program} {K : PySem.W.Frag} {mg : Str → Option Value} {fl : Str} {r : RfD} (h1 : rfW K r.c = r.val) (h2 : rfB K fl r.c = true) (hfl : P.main.file = fl) (htop : (P.main.scope.names.lookup ("super" : Str)).isSome = false) (XC : XiCall r.p) (hat : mg r.c = some (.ref (He.ga K r.c))) (hsup : mg "super" = none) : Rfs P K mg r.c := by
  unfold rfB at h2
  simp only [Bool.and_eq_true, decide_eq_true_eq] at h2
  obtain ⟨a1, a2, a3, a4, a5, a6, a7, a8, a9, b1, b2, b3, b4, b5, b6⟩ := h2
  have key : ∃ (cc cda : Addr) (fd : FuncData), XiOk P K (He.ga K r.c) (He.ma K (He.ga K r.c) "__init__") r.p cc cda fd ∧ Binds K fd ["self", "what"] [] := by
    unfold rfW RfD.val at h1
    unfold initB at a2
    cases q : K.lookup (He.ma K (He.ga K r.c) "__init__") with
    | none => rw [q] at a2; cases a2
    | some o =>
      obtain ⟨oc, od, dt, osl⟩ := o
      rw [q] at a2 h1
      cases dt with
      | func fd =>
        obtain ⟨n1, n2, n3, n4, n5, n6, n7, n8, n9, n10, n11, n12, n13, n14, n15⟩ := fd
        have e2 : (some (n3, n4, n5, n6, n7.map (·.1), n15) : RfW) = (some (ixPars r.p, FuncBody.stmts (ixBody r.p), ixScope, mainGlobals, [("__class__" : Str)], builtinsNs) : RfW) := h1
        simp only [Option.some.injEq, Prod.mk.injEq] at e2
        obtain ⟨h1, h2, h3, h4, h5, h6⟩ := e2
        subst h1 h2 h3 h4 h6
        dsimp only at a2
        split at a2
        · rename_i cda y cc
          obtain ⟨w1, w2⟩ := Bool.and_eq_true_iff.mp a2
          obtain ⟨w3, w4⟩ := Bool.and_eq_true_iff.mp w2
          have hy : y = "__class__" := by simpa using h5
          subst hy
          refine ⟨cc, cda, _, ⟨⟨oexB_ok a1, a3, a4, a5, a6⟩, ⟨n1, n2, .none, n9, n10, n11, n14, oc, n12, od, osl, rfl, q, w1⟩, ?_, ?_, a9, b1, b2, b3, b4, htop⟩, ?_⟩
          · split at w3
            · rename_i vs _ hv
              split at w3
              · rename_i file tf hf
                exact ⟨_, _, vs, _, file, tf, hv, hf, by rw [hfl]; exact w3⟩
              · cases w3
            · cases w3
          · split at w4
            · rename_i D _ hv
              have : D = He.ga K r.c := by simpa using w4
              subst this
              exact ⟨_, _, _, hv⟩
            · cases w4
          · refine .all fun us hl => ?_
            cases us with
            | nil => simp at hl
            | cons a us =>
              cases us with
              | nil => simp at hl
              | cons b us =>
                cases us with
                | nil => rfl
                | cons _ _ => simp at hl
        · cases a2
      | _ => cases a2
  obtain ⟨cc, cda, fd, O, hb⟩ := key
  exact ⟨⟨r.p, cc, cda, _, fd, O, XC, hb, a7, a8⟩, hat, xfB_ok b5, hsup, b6⟩
theorem SaysE.rf {fa : List He.Fa} {fn : List He.DefD} {ck : PySem.W.Frag → Bool} {dn : List (Str × List Str)} {tf : List He.Defn} {rs : List RfD} {fl : Str} {w : World} {h : Heap} {K : PySem.W.Frag} (c : SaysE fa fn ck dn tf rs fl w h K) {P : Program} {mg : Str → Option Value} (i : Nat) {r : RfD} (hi : rs[i]? = some r := by rfl) (hfl : P.main.file = fl) (htop : (P.main.scope.names.lookup ("super" : Str)).isSome = false) (XC : XiCall r.p) (hat : mg r.c = some (.ref (He.ga K r.c))) (hsup : mg "super" = none) : Rfs P K mg r.c := by
  have e := congrArg (fun l => l[i]?) c.r1
  simp only [List.getElem?_map, hi, Option.map_some, Option.some.injEq] at e
  exact rfs_of e (List.all_eq_true.mp c.r2 r (List.mem_of_getElem? hi)) hfl htop XC hat hsup
end Oz

/-! Oz65: list(range(n)); the simp lemmas of raise and try -/
namespace Oz
open PySem PySem.Spec L2
open PyProof.Rows hiding St
variable [WD]
def rgD (n : Int) : List D := (List.range n.toNat).map fun i => PyData.int ((i : Nat) : Int)
noncomputable def pLRg (p : Px) : Px := fun ρ => (p ρ).bind fun r => match r.d with
  | .int n => if gd (decide (0 ≤ n ∧ n ≤ 1000000)) = true then dnew .own (rgD n) else .bad
  | _ => .bad
@[simp] theorem x_lRg {p : Px} {ρ : Ev} : pLRg p ρ = ((p ρ).bind fun r => match r.d with
  | .int n => if gd (decide (0 ≤ n ∧ n ≤ 1000000)) = true then dnew .own (rgD n) else .bad
  | _ => .bad) := id rfl
@[simp] theorem x_rse {c : Str} {d : PyData} {ρ : Ev} : sRse c d ρ = .exc c [("what", d)] ρ := id rfl
@[simp] theorem x_tryE1 {f : Str} {d : PyData} {ρ : Ev} : tryE (some none) [(f, d)] ρ = if f = "what" then .ret ⟨.imm, d⟩ ρ else .bad := id rfl
@[simp] theorem x_try {i : Nat} {c : Str} {m : Fn} {md : List Md} {qs : List Px} {ρ : Ev} : sTry i c m md qs ρ = (match pCall m md qs ρ with
  | .bad => .bad
  | .ok r => if storable r = true then .ret r ρ else .bad
  | .exc c' fs => if c' = c then tryE ρ[i]? fs ρ else .bad) := id rfl
end Oz

/-! Oz66: a law whose own body calls what may raise, and never lets anything out -/
namespace Oz
open PySem PySem.Spec L2
open PyProof.Rows hiding St
variable [WD]
end Oz

/-! Oz67: any and all of a generator expression whose element is any expression: its frame is a context of its own. -/
namespace Oz
open PySem PySem.Spec PyProof.Rows L2
variable [WD]
section
variable {X : Cx} {pins : List (Addr × Obj)} {σ : L2.St} {H : Hp} {s : Shared}
end
/-! ### its turns -/
def GEnd (Y : Cx) (Qa : Hp → Prop) (_ : Nat) (_ s₁ : Shared) : Prop := ∃ σ' H', Inv Y [] σ' H' s₁ ∧ Qa H'
def GYld (Y : Cx) (all : Bool) (Q : Bool → Hp → Prop) : Protocol := fun _ _ v s kap => ∃ b σ' H', v = .bool b ∧ Inv Y [] σ' H' s ∧ (if b = all then ∀ s'' : Shared, s''.heap = s.heap → s''.os = s.os → AllBare s''.gens → kap (.send .none) s'' else Q b H')
section
variable {Y : Cx} {A : Around} {scope : Scope} {elt tg iter : Expr} {gpos : Pos} {fp : List Addr} {a it : Addr} {go : Obj} {tn : Nat → Heap → Prop} {J : It} {g : TG} {te : TE} {all : Bool} {W : Nat → Nat → Hp → Prop} {Q : Bool → Hp → Prop} {σ0 : L2.St} {vs : List Nat}
end
end Oz

/-! Oz68: any and all over Oz67's generators; the generator expression made. -/
namespace Oz
open PySem PySem.Spec PyProof.Rows L2
variable [WD]
section
variable {Y : Cx} {A : Around} {a g : Nat} {Q : Bool → Hp → Prop} {R : Result → Shared → Prop}
end
/-! ### the generator expression made -/
structure GRd (X : Cx) (pins : List (Addr × Obj)) (σ : L2.St) (all : Bool) (Q : VK) (a : Nat) (s5 : Shared) (Y : Cx) (n g : Nat) : Prop where
  pr : Y.prog = X.prog
  w : Y.w = X.w
  pin : ∀ σ' H' s', Inv Y [] σ' H' s' → s'.heap.IsGen a g
  gen : s5.heap.IsGen a g
  lim : s5.heap.NoLimit
  go : ∃ gs, s5.gens[g]? = some gs ∧ gs.Goes (model Y.prog Y.w) X.A.in1.in1 (fun n s₀ r s₁ => r = .ok .next ∧ GEnd Y (fun H' => Q (.bl all) H') n s₀ s₁) (GYld Y all fun b H' => Q (.bl b) H') n (.send .none) (s5.setGen g .running)
  fin : ∀ b σ' H' s' s'', Inv Y [] σ' H' s' → Q (.bl b) H' → s''.os = s'.os → (∀ b o, s'.heap.get? b = some o → s''.heap.get? b = some o) → AllBare s''.gens → EP X pins σ Q (.bool b) s''
section
variable {X : Cx} {pins : List (Addr × Obj)} {σ : L2.St} {H : Hp} {s : Shared}
end
end Oz

/-! Oz69: any(e for t in xs), all(e for t in xs), e any expression: rules. -/
namespace Oz
open PySem PySem.Spec PyProof.Rows L2
variable [WD]
section
variable {X : Cx} {pins : List (Addr × Obj)} {σ : L2.St} {H : Hp} {s : Shared}
end
/-! ### its mirror -/
def anyE (all : Bool) (g : Tgx) (p : Px) (ρ0 : Ev) : List R → Option Bool
  | [] => some all
  | r :: rs => (match g r ρ0 with
    | none => none
    | some ρ1 => (match p ρ1 with
      | .ok ⟨_, .bool b⟩ => if b = all then anyE all g p ρ0 rs else some b
      | _ => none))
def pAnyX (all : Bool) (vs : List Nat) (src : Src) (g : Tgx) (p : Px) : Px := fun ρ => if nov ρ = true then (src ρ).bind fun rs => (match anyE all g p (wipeE ρ vs) rs with
  | some b => .ok ⟨.imm, .bool b⟩
  | none => .bad) else .bad
section
variable {X : Cx} {E : XK} {P : Addr} {all : Bool} {vs is : List Nat} {w : TI} {src : Src} {t : TG} {g : Tgx} {p : Px} {σ : L2.St} {H : Hp} {Q : VK}
end
section
variable {X : Cx} {E : XK} {c P : Addr} {elt tg iter : Expr} {pf pos gpos : Pos} {scope : Scope} {own : List (Str × Nat)} {is : List Nat} {w : TI} {src : Src} {t : TG} {g : Tgx} {p : Px} {k : Nat}
end
@[simp] theorem x_anyX {all : Bool} {vs : List Nat} {src : Src} {g : Tgx} {p : Px} {ρ : Ev} : pAnyX all vs src g p ρ = if nov ρ = true then (src ρ).bind fun rs => (match anyE all g p (wipeE ρ vs) rs with
  | some b => .ok ⟨.imm, .bool b⟩
  | none => .bad) else .bad := id rfl
end Oz

/-! Oz70: zip of two lists, for comprehensions and generator expressions. -/
namespace Oz
open PySem PySem.Spec L2
open PyProof.Rows hiding St
variable [WD]
def zpR (r r' : R) : R := ⟨if r.s = .imm ∧ r'.s = .imm then .imm else .view, .tuple [r.d, r'.d]⟩
section
variable {K : PySem.W.Frag} {E : XK} {Z O H Z' O' H' : Hp} {G G' : List Addr}
end
def srcZ (p q : Px) : Src := fun ρ => (p ρ).bind fun r => (q ρ).bind fun r' => match r.d, r'.d with
  | .list ds, .list ds' => .ok (List.zipWith zpR (ds.map (Oz.sub r.s)) (ds'.map (Oz.sub r'.s)))
  | _, _ => .bad
section
variable {K : PySem.W.Frag} {E : XK}
end
@[simp] theorem x_srcZ {p q : Px} {ρ : Ev} : srcZ p q ρ = ((p ρ).bind fun r => (q ρ).bind fun r' => match r.d, r'.d with
  | .list ds, .list ds' => .ok (List.zipWith zpR (ds.map (Oz.sub r.s)) (ds'.map (Oz.sub r'.s)))
  | _, _ => .bad) := id rfl
end Oz

/-! Oz71: max(l, default=i) of a list of ints. -/
namespace Oz
open PySem PySem.Spec L2 PySem.Calls PySem.W
open PyProof.Rows hiding St
variable [WD]
noncomputable section
def mxI (i : Int) : List Int → Int
  | [] => i
  | n :: ns => ns.foldl max n
end
noncomputable def pMaxDf (i : Int) (p : Px) : Px := fun ρ => (p ρ).bind fun r => match r.d with
  | .list ds => (match intsD ds with
    | some ns => .ok ⟨.imm, .int (mxI i ns)⟩
    | none => .bad)
  | _ => .bad
section
variable {X : Cx} {E : XK} {p0 pos kpos cpos : Pos} {e : Expr} {p : Px} {i : Int} {j : Option Str}
end
@[simp] theorem x_maxDf {i : Int} {p : Px} {ρ : Ev} : pMaxDf i p ρ = ((p ρ).bind fun r => match r.d with
  | .list ds => (match intsD ds with
    | some ns => .ok ⟨.imm, .int (mxI i ns)⟩
    | none => .bad)
  | _ => .bad) := id rfl
end Oz

/-! Oz72: while, with at most so many turns. -/
namespace Oz
open PySem PySem.Spec L2
open PyProof.Rows hiding St
variable [WD]
def whileS (t : Tx) (b : Stx) : Nat → Ev → SR
  | 0, _ => .bad
  | n + 1, ρ => (match t ρ with
    | .bad => .bad
    | .exc c fs => .exc c fs ρ
    | .ok false => .next ρ
    | .ok true => (match b ρ with
      | .next ρ' => whileS t b n ρ'
      | x => x))
def sWhile (n : Nat) (t : Tx) (b : Stx) : Stx := fun ρ => whileS t b n ρ
@[simp] theorem x_while {n : Nat} {t : Tx} {b : Stx} {ρ : Ev} : sWhile n t b ρ = whileS t b n ρ := id rfl
end Oz

namespace Oz
open PySem PySem.Spec L2
open PyProof.Rows hiding St
variable [WD]
/-! ### a list's display that lasts -/
def pLstF (ps : List Px) : Px := fun ρ => (evs ps ρ).bind fun rs => match frzs rs with
  | some ds => if ds.length ≤ sizeLine then .ok ⟨.imm, .list ds⟩ else .bad
  | none => .bad
section
variable {X : Cx} {E : XK} {es : List Expr} {ps : List Px} {pos : Pos}
end
@[simp] theorem x_lstF {ps : List Px} {ρ : Ev} : pLstF ps ρ = ((evs ps ρ).bind fun rs => match frzs rs with | some ds => if ds.length ≤ sizeLine then .ok ⟨.imm, .list ds⟩ else .bad | none => .bad) := id rfl
end Oz

/-! Oz74: t[::-1] of a tuple. -/
namespace Oz
open PySem PySem.Spec L2 HT
open PyProof.Rows hiding St
section
variable {prog : Program} {w : World} {A : Around} {E : Value → Shared → Prop} {s : Shared}
end
theorem Reps.reverse {K : PySem.W.Frag} {C : Hp} : ∀ {vs : List V} {ds : List D}, Reps K C vs ds → Reps K C vs.reverse ds.reverse
  | _, _, .nil => .nil
  | _, _, .cons h hs => by rw [List.reverse_cons, List.reverse_cons]; exact (Reps.reverse hs).append (.cons h .nil)
variable [WD]
def pRevT (p : Px) : Px := fun ρ => (p ρ).bind fun r => match r.d with
  | .tuple ds => tnew r.s ds.reverse
  | _ => .bad
section
variable {K : PySem.W.Frag} {E : XK} {H : Hp} {σ : St} {Q : VK}
end
section
variable {X : Cx} {E : XK} {e : Expr} {p : Px} {k : Nat} {p1 p2 p3 pos : Pos}
end
@[simp] theorem x_revT {p : Px} {ρ : Ev} : pRevT p ρ = (p ρ).bind fun r => match r.d with
  | .tuple ds => tnew r.s ds.reverse
  | _ => .bad := id rfl
end Oz

/-! Oz75: a list of one's own that is given to another slot and looked at behind that. -/
namespace Oz
open PySem PySem.Spec L2
open PyProof.Rows hiding St
variable [WD]
def kpE (j x a : Nat) (ρ : Ev) : Option Ev := match ρ[j]? with
  | some (some ⟨.brw, d⟩) => gvE j x a d (ρ.set j none)
  | _ => none
def kpS (j x a : Nat) : SR → SR
  | .bad => .bad
  | .next ρ => (match kpE j x a ρ with
    | some ρ' => .next ρ'
    | none => .bad)
  | .ret r ρ => (match kpE j x a ρ with
    | some ρ' => .ret r ρ'
    | none => .bad)
  | .exc c fs ρ => (match kpE j x a ρ with
    | some ρ' => .exc c fs ρ'
    | none => .bad)
def kpB (j a : Nat) (ds : List D) (s2 : Stx) : SR → SR
  | .next ρ => (match ρ[j]? with
    | some (some ⟨.imm, t⟩) => if isPtr a (some t) = true then s2 (ρ.set j (some ⟨.brw, .list ds⟩)) else .bad
    | _ => .bad)
  | _ => .bad
noncomputable def sKeep (j x : Nat) (s1 s2 : Stx) : Stx := fun ρ => match ρ[j]? with
  | some (some ⟨.own, .list ds⟩) => if j ≠ x then ali fun a => kpS j x a (kpB j a ds s2 (s1 (ρ.set j (some ⟨.imm, ptrD a⟩)))) else .bad
  | _ => .bad
section
variable {K : PySem.W.Frag} {E : XK} {Z O H : Hp} {σ : St} {ρ ρ' : Ev} {F : List Addr} {j x : Nat} {a : Addr} {d : D}
theorem kp_nov (h : kpE j x a ρ = some ρ') : nov ρ = true := by
  unfold kpE at h
  split at h
  · rename_i d e
    have n := (gvE_some h).1
    unfold nov at n ⊢
    rw [List.all_eq_true] at n ⊢
    intro y hy
    obtain ⟨i, hi⟩ := List.getElem?_of_mem hy
    by_cases ij : j = i
    · subst ij
      rw [e] at hi
      cases hi
      rfl
    · exact n y (List.mem_of_getElem? (i := i) (by rw [List.getElem?_set_ne ij]; exact hi))
  · cases h
theorem kp_ok (rl : Rel K Z O H σ ρ F) (jx : j ≠ x) (n : nov ρ = true) (hj : σ[j]? = some (some (.ref a))) (h : kpE j x a ρ = some ρ') :
    ∃ F', Rel K Z O H σ ρ' F' ∧ nov ρ' = true ∧ (∀ c ∈ F', c ∈ F) ∧ ∀ (m : Nat) (dm : D), m ≠ j → ρ[m]? = some (some (R.mk .brw dm)) → ∃ d', ρ'[m]? = some (some (R.mk .brw d')) := by
  unfold kpE at h
  split at h
  · rename_i d e
    obtain ⟨hl, _⟩ := List.getElem?_eq_some_iff.mp e
    obtain ⟨y, y', F1, G, F2, h1, h2, h3, h4, h5⟩ := rl.sl.focus hl
    rw [e] at h2
    cases h2
    rw [hj] at h1
    cases h1
    have ow : Own K Z H (.ref a) d G := RepS.rep h4 nofun
    have sl := h5 (some (.ref a)) none [] Z O H (Same.refl _) (Same.refl _) (.inl fun _ _ q _ => q) (fun a _ o q _ => q) rfl
    rw [set_same hj] at sl
    have nF := rl.nd
    rw [h3] at nF
    obtain ⟨m1, m2, m3⟩ := List.nodup_append.mp nF
    obtain ⟨m4, m5, m6⟩ := List.nodup_append.mp m2
    have sb : (F1 ++ ([] ++ F2)).Sublist F := by
      rw [h3, List.nil_append]
      exact List.Sublist.append (List.Sublist.refl _) (List.sublist_append_right _ _)
    have dG : ∀ c ∈ G, c ∉ F1 ++ ([] ++ F2) := fun c hc z => by
      rcases List.mem_append.mp z with z | z
      · exact m3 c z c (List.mem_append_left _ hc) rfl
      · exact m6 c hc c (by simpa using z) rfl
    have inF : ∀ c ∈ G, c ∈ F := fun c hc => by rw [h3]; simp [hc]
    obtain ⟨F', r1, r2, r3, r4⟩ := gv_ok ⟨rl.g, rl.nd.sublist sb, fun c hc => rl.fo c (sb.subset hc), sl, rl.tb⟩ jx ow m4 dG (fun c hc => rl.fo c (inF c hc)) h
    exact ⟨F', r1, r2, fun c hc => (r3 c hc).elim (fun z => sb.subset z) (inF c), fun m dm hm hb => r4 m dm hm (by rw [List.getElem?_set_ne (Ne.symm hm)]; exact hb)⟩
  · cases h
theorem SRK.kp {Z1 O1 H1 : Hp} {σ1 : St} {ρ1 : Ev} {F1 : List Addr} {nx : St → Hp → Prop} {rt : VK} {r : SR} (jx : j ≠ x) (t : TrS Z O H σ ρ F Z1 O1 H1 σ1 ρ1 F1) (hj : σ1[j]? = some (some (.ref a))) (hb : ∃ d, ρ1[j]? = some (some (R.mk .brw d)))
    (nj : ∀ d, ρ[j]? ≠ some (some (R.mk .brw d))) (h : SRK K E Z O H σ ρ F nx rt (kpS j x a r)) : SRK K E Z1 O1 H1 σ1 ρ1 F1 nx rt r := by
  obtain ⟨db, hb⟩ := hb
  have fin : ∀ {σ' : St} {H' Z' O' : Hp} {F' F'' : List Addr} {ρ' ρ'' : Ev}, (∀ (m : Nat) (dm : D), m ≠ j → ρ'[m]? = some (some (R.mk .brw dm)) → ∃ d', ρ''[m]? = some (some (R.mk .brw d'))) → (∀ c ∈ F'', c ∈ F') → TrS Z1 O1 H1 σ1 ρ1 F1 Z' O' H' σ' ρ' F' → TrS Z O H σ ρ F Z' O' H' σ' ρ'' F'' := fun {σ' H' Z' O' F' F'' ρ' ρ''} e sb u => by
    have w := t.trans u
    refine ⟨⟨w.tr.z, w.tr.keep, w.tr.zn, fun c hc => w.tr.fn c (sb c hc), w.tr.fr, w.tr.tab⟩, w.o, w.len, fun m d hm => ?_, w.on⟩
    obtain ⟨q1, d1, q2⟩ := w.brw m d hm
    exact ⟨q1, e m d1 (fun z => nj d (z ▸ hm)) q2⟩
  have at_ : ∀ {σ' : St} {H' Z' O' : Hp} {F' : List Addr} {ρ' : Ev}, TrS Z1 O1 H1 σ1 ρ1 F1 Z' O' H' σ' ρ' F' → σ'[j]? = some (some (.ref a)) := fun u => by rw [(u.brw j db hb).1]; exact hj
  cases r with
  | bad => exact h
  | next ρ' =>
    intro σ' H' Z' O' F' rl n u
    have h2 : SRK K E Z O H σ ρ F nx rt (match kpE j x a ρ' with | some ρ' => .next ρ' | none => .bad) := h
    cases e : kpE j x a ρ' with
    | none => rw [e] at h2; exact h2.elim
    | some ρ'' =>
      rw [e] at h2
      obtain ⟨F'', rl2, n2, sb, bw⟩ := kp_ok rl jx n (at_ u) e
      exact h2 σ' H' Z' O' F'' rl2 n2 (fin bw sb u)
  | ret r ρ' =>
    intro v σ' H' Z' O' F' G rl w nd fo u u2
    have h2 : SRK K E Z O H σ ρ F nx rt (match kpE j x a ρ' with | some ρ' => .ret r ρ' | none => .bad) := h
    cases e : kpE j x a ρ' with
    | none => rw [e] at h2; exact h2.elim
    | some ρ'' =>
      rw [e] at h2
      obtain ⟨F'', rl2, n2, sb, bw⟩ := kp_ok rl jx (kp_nov e) (at_ u2) e
      have w2 := fin bw sb u2
      obtain ⟨d1, d2, d3⟩ := List.nodup_append.mp nd
      have u' := t.tr.trans u
      refine h2 v σ' H' Z' O' F'' G rl2 w ?_ fo ⟨u'.z, u'.keep, u'.zn, fun c hc => ?_, u'.fr, u'.tab⟩ w2
      · rw [List.nodup_append]
        exact ⟨rl2.nd, d2, fun x hx y hy => d3 x (sb x hx) y hy⟩
      · rcases List.mem_append.mp hc with hc | hc
        · exact u'.fn c (List.mem_append_left _ (sb c hc))
        · exact u'.fn c (List.mem_append_right _ hc)
  | exc c fs ρ' =>
    intro σ' H' Z' O' F' d xs rl u hd e1 e2
    have h2 : SRK K E Z O H σ ρ F nx rt (match kpE j x a ρ' with | some ρ' => .exc c fs ρ' | none => .bad) := h
    cases e : kpE j x a ρ' with
    | none => rw [e] at h2; exact h2.elim
    | some ρ'' =>
      rw [e] at h2
      obtain ⟨F'', rl2, n2, sb, bw⟩ := kp_ok rl jx (kp_nov e) (at_ u) e
      exact h2 σ' H' Z' O' F'' d xs rl2 (fin bw sb u) hd e1 e2
end
/-! ### reckoning -/
section
variable {ρ : Ev}
@[simp] theorem x_keep {j x : Nat} {s1 s2 : Stx} : sKeep j x s1 s2 ρ = (match ρ[j]? with
  | some (some ⟨.own, .list ds⟩) => if j ≠ x then ali fun a => kpS j x a (kpB j a ds s2 (s1 (ρ.set j (some ⟨.imm, ptrD a⟩)))) else .bad
  | _ => .bad) := id rfl
@[simp] theorem x_kpB {j a : Nat} {ds : List D} {s2 : Stx} : kpB j a ds s2 (.next ρ) = (match ρ[j]? with
    | some (some ⟨.imm, t⟩) => if isPtr a (some t) = true then s2 (ρ.set j (some ⟨.brw, .list ds⟩)) else .bad
    | _ => .bad) := id rfl
@[simp] theorem x_kpE {j x a : Nat} : kpE j x a ρ = (match ρ[j]? with
  | some (some ⟨.brw, d⟩) => gvE j x a d (ρ.set j none)
  | _ => none) := id rfl
@[simp] theorem x_kpSn {j x a : Nat} : kpS j x a (.next ρ) = (match kpE j x a ρ with
    | some ρ' => .next ρ'
    | none => .bad) := id rfl
@[simp] theorem x_kpSr {j x a : Nat} {r : R} : kpS j x a (.ret r ρ) = (match kpE j x a ρ with
    | some ρ' => .ret r ρ'
    | none => .bad) := id rfl
end
end Oz

/-! Oz76: tuple * int. -/
namespace Oz
open PySem PySem.Spec L2
open PyProof.Rows hiding St
variable [WD]
/-- a tuple, k times -/
def mulT (a b : R) : Res R := match a.d, b.d with
  | .tuple ds, .int k => if k = 1 then .ok (vw a) else if (2 ≤ k ∧ k ≤ 1000) ∧ ds.length ≤ 1000 ∧ ds.isEmpty = false then tnew a.s (List.replicate k.toNat ds).flatten else .bad
  | _, _ => .bad
@[simp] theorem x_mulT {s t : Sx} {ds : List D} {k : Int} : mulT ⟨s, .tuple ds⟩ ⟨t, .int k⟩ = if k = 1 then .ok (vw ⟨s, .tuple ds⟩) else if (2 ≤ k ∧ k ≤ 1000) ∧ ds.length ≤ 1000 ∧ ds.isEmpty = false then tnew s (List.replicate k.toNat ds).flatten else .bad := id rfl
end Oz

/-! Oz77: try: return o.m(..) / except c as e: return e.what, m a method that may change o. -/
namespace Oz
open PySem PySem.Spec L2
open PyProof.Rows hiding St
section
variable {X : Cx} {CX : CXT} {k : Nat} {C f : Addr} {fd : FuncData} {ps : List Str} {sp : Sp} {E : L2.St → XK} {m : Str} {pos apos : Pos} {e o : Expr} {es : List Expr} {ta : TE} {t : TA}
def tMethE (C : Addr) (m : Str) (sp : Sp) (E : L2.St → XK) (ta : TE) (t : TA) : TE := fun σ H Q => ta σ H fun x H1 => ∃ a dx fs, x = .ref a ∧ H1 a = some (.ins C dx fs) ∧ fs.lookup m = none ∧
  t σ H1 fun vs H2 => sp (x :: vs) H2 Q (E σ)
theorem pe_methE {pl : Sem Bool} (he : PE X o ta) (c : Cls X.K C) (hm : Meth X.K C m f) (F : FnOk X.prog X.w X.K X.mg X.base CX k f fd ps sp) (hr : Room k X.A) (hb : Binds X.K fd ps []) (hx : ∀ σ, PassesAt CX X σ (E σ)) (ha : PA X (e :: es) t)
    (hst : starEach (e :: es) X.env = (false, eval e X.env) :: starEach es X.env := by rfl) (hpl : (backTo pos (starEach es X.env)).any (·.1) = false := by rfl)
    (ht : eval (.Call (.Attribute o m apos) (e :: es) [] pos) X.env = (do
      let ov ← eval o X.env
      standAt apos.atName
      let (f, first) ← holding [ov] (getMethod ov m pl)
      callWith pos f first (backTo pos (starEach (e :: es) X.env)) (backToKw pos (keywordEach [] X.env))) := by rfl) :
    PE X (.Call (.Attribute o m apos) (e :: es) [] pos) (tMethE C m sp E ta t) := by
  refine ⟨fun pins s σ H Q I h => ?_⟩
  refine PySem.W.methodCall_KW (pl := pl) (thn (he.run pins s σ H _ I h) fun u s1 ⟨x, H1, I1, rx, a, dx, fs, ex, ea, l, q⟩ => ?_) ht
  subst ex
  obtain rfl : u = Value.ref a := rx
  refine getmeth_ok I1 ea c hm l ?_
  refine PySem.W.callWith_K (first := [.ref a]) (h₀ := X.base) I.ok.mod.kin hm.kp (thn (ha.run pos pins s1 σ H1 _ I1 q) fun us s2 ⟨vs, H2, I2, r, q2⟩ => ⟨I2.kIn, ?_⟩) hst hpl
  exact run_fnS (us := .ref a :: us) (vs := .ref a :: vs) F hr hb (hx σ) I2 (.cons rfl r) q2
end
variable [WD]
def sTryM (i : Nat) (c : Str) (s : Stx) : Stx := fun ρ => match s ρ with
  | .ret r ρ' => if storable r = true then .ret r ρ' else .bad
  | .exc c' fs ρ' => if c' = c then tryE ρ'[i]? fs ρ' else .bad
  | _ => .bad
section
variable {X : Cx} {E : XK} {c cN n x mn : Str} {i j k k' : Nat} {md : List Md} {ps : List Str} {m : Fn} {p np p1 p2 p3 rp pos pos' pos'' apos : Pos} {e : Expr} {es : List Expr} {ks : List Ax}
theorem s_tryM {pl : Sem Bool} (j : Nat) (R : Rfs X.prog X.K X.mg c) (hs : X.stack = X.env :: X.outer) (hf : X.env.frame = some X.env.locals) (hN : X.N.Nodup) (cal : CalM (CX X.prog X.w) X.prog X.w X.K X.mg X.base k cN mn ps md m) (hr : Room k' X.A)
    (ha : ∀ pn xe E', PA (X.tr pn xe) (e :: es) (tAX X.K E' ks)) (hj : X.N[j]? = some x := by rfl) (hk : k ≤ k' := by decide) (hi : X.N[i]? = some n := by rfl) (hln : X.env.kindOf n = some .local := by rfl) (hgc : Gl X c := by rfl) (hdc : (c == ("__debug__" : Str)) = false := by decide)
    (hdn : (n == ("__debug__" : Str)) = false := by decide) (hdd : (n == ("__classdict__" : Str)) = false := by decide)
    (hv : Vis X.env.scope x := by first | exact Or.inl rfl | exact Or.inr (Or.inl rfl) | exact Or.inr (Or.inr rfl)) (hd : (x == ("__debug__" : Str)) = false := by decide) (hcd : (x == ("__classdict__" : Str)) = false := by decide)
    (he : starEach (e :: es) X.env = (false, eval e X.env) :: starEach es X.env := by rfl) (hpl : (backTo pos (starEach es X.env)).any (·.1) = false := by rfl) (hb : attributeBase (.Name n p1) "what" X.env (eval (.Name n p1) X.env) = eval (.Name n p1) X.env := by rfl)
    (ht : eval (.Call (.Attribute (.Name x p) mn apos) (e :: es) [] pos) X.env = (do
      let ov ← eval (.Name x p) X.env
      standAt apos.atName
      let (f, first) ← holding [ov] (getMethod ov mn pl)
      callWith pos f first (backTo pos (starEach (e :: es) X.env)) (backToKw pos (keywordEach [] X.env))) := by rfl) :
    PS X (.Try [.Return (some (.Call (.Attribute (.Name x p) mn apos) (e :: es) [] pos)) rp] [.ExceptHandler (some (.Name c np)) (some n) [.Return (some (.Attribute (.Name n p1) "what" p2)) p3] pos'] [] [] pos'') (tS X.K E (sTryM i c (mMeth cN mn m md j ks))) := by
  obtain ⟨f, fd, Fo, bi, hmeth⟩ := cal.ex
  obtain ⟨xp, cc, cda, fI, fdI, O, XC, hbI, iC, tI⟩ := R.ex
  refine (ps_try_as (X := X) (i := i) (c := .ref (He.ga X.K c)) (Wout := fun _ _ _ _ => False) (tb := fun W => tRet (tMethE (He.ga X.K cN) mn (spF X.K md m) (WE W) (tVar j) (fun σ H Q => tAX X.K (WE W σ) ks σ H Q))) (ts := fun a cls d => tRet (tXf a cls d (He.ga X.K c) "what" (tVar i))) hs hf hN hi hln ⟨hgc, hdc, .inl R.at_⟩ (fun _ _ ⟨_, _, _, _, _, _, _, _, _, _, _, _, _, _, _, _, w⟩ => w.elim)
    (fun W pn xe tkW _ => pss_one (ps_ret (pe_methE (X := X.tr pn xe) (CX := CX X.prog X.w) (pe_var (X := X.tr pn xe) (i := j) hj hv hd hcd) cal.cl hmeth Fo (hr.mono hk) bi (fun σ => passAt tkW σ) ⟨fun ps pins s σ H Q I h => (ha pn xe (WE W σ)).run ps pins s σ H Q I h⟩ he hpl ht)))
    (fun a oe cls d pn hz hfl => pss_one (ps_ret (pe_xf (X := X) R.xf O.no hz hfl (pe_var (i := i) hi (.inl hln) hdn hdd) hb)))).imp fun D σ H h => ?_
  obtain ⟨Z, O', ρ, F, rl, nv, h⟩ := h
  have key : tM X.K (WE (wAs X.K (.ref (He.ga X.K c)) i (fun a cls d => tRet (tXf a cls d (He.ga X.K c) "what" (tVar i))) (fun _ _ _ _ => False) D) σ) (mMeth cN mn m md j ks) σ H D.rt := by
    refine ⟨Z, O', ρ, F, rl, nv, ?_⟩
    unfold sTryM at h
    cases e : mMeth cN mn m md j ks ρ with
    | bad => rw [e] at h; exact h.elim
    | next ρ' => rw [e] at h; exact h.elim
    | ret r ρ' =>
      rw [e] at h
      intro v H1 Z1 O1 F1 G rl1 n1 q nd fo tr tr2
      have h1 : SRK X.K E Z O' H σ ρ F D.nx D.rt (if storable r = true then .ret r ρ' else .bad) := h
      by_cases cs : storable r = true
      · rw [if_pos cs] at h1
        exact h1 v σ H1 Z1 O1 F1 G rl1 q nd fo tr tr2
      · rw [if_neg cs] at h1
        exact h1.elim
    | exc c' fs ρ' =>
      rw [e] at h
      intro H1 Z1 O1 F1 dd xs rl1 tr1 hd1 e1 e2
      by_cases cc' : c' = c
      · subst cc'
        have h1 : SRK X.K E Z O' H σ ρ F D.nx D.rt (if c' = c' then tryE ρ'[i]? fs ρ' else .bad) := h
        rw [if_pos rfl] at h1
        have h2 : ∃ d, ρ'[i]? = some none ∧ fs = [(("what" : Str), d)] ∧ SRK X.K E Z O' H σ ρ F D.nx D.rt (.ret ⟨.imm, d⟩ ρ') := by
          clear h
          unfold tryE at h1
          split at h1
          · rename_i f d er
            by_cases ew : f = "what"
            · rw [if_pos ew] at h1
              exact ⟨d, er, by rw [ew], h1⟩
            · rw [if_neg ew] at h1; exact h1.elim
          · exact h1.elim
        obtain ⟨d, er, ef, h3⟩ := h2
        subst ef
        obtain ⟨hl, _⟩ := List.getElem?_eq_some_iff.mp er
        obtain ⟨sx, _, _, _, _, hsx, _⟩ := rl1.sl.focus hl
        obtain ⟨hls, _⟩ := List.getElem?_eq_some_iff.mp hsx
        obtain ⟨v, ex⟩ : ∃ v, xs = [(("what" : Str), v)] := by
          cases xs with
          | nil => simp at e1
          | cons y ys =>
            cases ys with
            | nil =>
              obtain ⟨y1, y2⟩ := y
              simp at e1
              exact ⟨y2, by rw [e1]⟩
            | cons z zs => simp at e1
        subst ex
        have rv : Rep X.K Z1 v d := by
          cases e2 with
          | cons r _ => exact r
        have fin : D.rt v H1 := by
          refine h3 v σ H1 Z1 O1 F1 [] rl1 ⟨rv, rfl⟩ (by rw [List.append_nil]; exact rl1.nd) (fun a ha => by cases ha) ?_ tr1
          rw [List.append_nil]
          exact tr1.tr
        refine ⟨true, R.self, fun _ a na => ?_, fun z => by cases z⟩
        refine ⟨.ref a, List.getElem?_set_self hls, rfl, rfl, dd, _, v, rfl, hd1, rfl, fin⟩
      · have h1 : SRK X.K E Z O' H σ ρ F D.nx D.rt (if c' = c then tryE ρ'[i]? fs ρ' else .bad) := h
        rw [if_neg cc'] at h1
        exact h1.elim
  exact mMeth_ok key
end
section
variable {X : Cx} {E : XK} {CX : CXT} {k k' : Nat} {ps : List Str} {md : List Md} {g : Fn} {c m : Str} {pos apos : Pos} {o : Expr} {q : Px}
/-- o.m(), o looked at -/
theorem s_meth0 {pl : Sem Bool} (cal : CalM CX X.prog X.w X.K X.mg X.base k c m ps md g) (hr : Room k' X.A) (hx : Passes CX X E) (ho : PE X o (tP X.K E q)) (hk : k ≤ k' := by decide)
    (ht : eval (.Call (.Attribute o m apos) [] [] pos) X.env = (do
      let ov ← eval o X.env
      standAt apos.atName
      let (f, first) ← holding [ov] (getMethod ov m pl)
      callWith pos f first (backTo pos (starEach [] X.env)) (backToKw pos (keywordEach [] X.env))) := by rfl) :
    PE X (.Call (.Attribute o m apos) [] [] pos) (tP X.K E (pMeth c m g md q [])) := by
  obtain ⟨f, fd, F, b, hm⟩ := cal.ex
  refine (pe_meth0 ho cal.cl hm F (hr.mono hk) b .nil hx ht).imp fun σ H Q h => ?_
  have h2 := pMeth_ok h
  obtain ⟨Z, O, ρ, F, rl, h2⟩ := h2
  refine ⟨Z, O, ρ, F, rl, ?_⟩
  cases e : q ρ with
  | bad => rw [e] at h2; exact h2
  | exc c fs => rw [e] at h2; exact h2
  | ok r =>
    rw [e] at h2
    intro v H' Z' O' G a1 a2 a3 a4 a5
    obtain ⟨a, dx, fs, ev, ha, hl, h3⟩ := h2 v H' Z' O' G a1 a2 a3 a4 a5
    refine ⟨a, dx, fs, ev, ha, hl, ?_⟩
    obtain ⟨Z1, O1, ρ1, F1, rl1, h4⟩ := h3
    have := h4 [] H' Z1 O1 [] (Ext.refl _ _ _ _) rl1.g .nil List.nodup_nil fun a ha => by cases ha
    exact this
end
@[simp] theorem x_tryM {i : Nat} {c : Str} {s : Stx} {ρ : Ev} : sTryM i c s ρ = (match s ρ with
  | .ret r ρ' => if storable r = true then .ret r ρ' else .bad
  | .exc c' fs ρ' => if c' = c then tryE ρ'[i]? fs ρ' else .bad
  | _ => .bad) := id rfl
end Oz

/-! Oz78: operations whose left side changes an argument. -/
namespace Oz
open PySem PySem.Spec L2
open PyProof.Rows hiding St
variable [WD]
def mOp2 (f : R → R → Res R) (s : Stx) (q : Px) : Stx := mBind s fun r ρ => if r.s = .imm then (match q ρ with
  | .bad => .bad
  | .exc c fs => .exc c fs ρ
  | .ok r2 => (match f r r2 with
    | .bad => .bad
    | .exc c fs => .exc c fs ρ
    | .ok r3 => .ret r3 ρ)) else .bad
section
variable {K : PySem.W.Frag} {E : XK} {H : Hp} {σ : L2.St} {Q : VK}
theorem mOp2_ok {T : R2} {f : R → R → Res R} {s : Stx} {q : Px} (hf : Op2 K T f) (h : tM K E (mOp2 f s q) σ H Q) : tM K E s σ H fun x H1 => tP K E q σ H1 fun y H2 => T x y H2 Q := by
  refine mBind_ok h fun Z O H1 ρ F G v r rl n q1 nd fo _ ⟨Z0, O0, ρ0, F0, h2, tr, ts⟩ => ?_
  obtain ⟨st, d⟩ := r
  by_cases es : st = .imm
  · subst es
    obtain ⟨q1, rfl⟩ := q1
    refine ⟨Z, O, ρ, F, rl, ?_⟩
    have h3 : MRK K E Z0 O0 H σ ρ0 F0 Q (match q ρ with
      | .bad => .bad
      | .exc c fs => .exc c fs ρ
      | .ok r2 => (match f ⟨.imm, d⟩ r2 with
        | .bad => .bad
        | .exc c fs => .exc c fs ρ
        | .ok r3 => .ret r3 ρ)) := h2
    cases e : q ρ with
    | bad => rw [e] at h3; exact h3.elim
    | exc c fs =>
      rw [e] at h3
      exact fun H' Z' O' dd xs x g q a b => h3 H' Z' O' F dd xs (rl.ext x g) (ts.trans (TrS.ext x)) q a b
    | ok r2 =>
      rw [e] at h3
      intro y H2 Z2 O2 G2 x2 g2 q2 nd2 fr2
      have hn2 : ∀ a ∈ G2, H1 a = none := fun a ha => (fr2 a ha).1.elim id fun z => by cases z
      have r1 : RepR K Z2 O2 H2 v ⟨.imm, d⟩ [] := RepR.ext (F := []) ⟨q1, rfl⟩ x2
      refine hf E Z2 O2 H2 v y ⟨.imm, d⟩ r2 [] G2 Q g2 r1 q2 (by simpa using nd2) (fun c hc => (fr2 c (by simpa using hc)).2) ?_
      simp only at h3
      cases e3 : f ⟨.imm, d⟩ r2 with
      | bad => rw [e3] at h3; exact h3.elim
      | exc c fs =>
        rw [e3] at h3
        intro H3 Z3 O3 dd xs x3 g3 hd e1 e2
        have xx : Ext [] Z O H1 Z3 O3 H3 := x2.trans x3 fun c hc => .inl (hn2 c (by simpa using hc))
        exact h3 H3 Z3 O3 F dd xs (rl.ext xx g3) (ts.trans (TrS.ext xx)) hd e1 e2
      | ok r3 =>
        rw [e3] at h3
        intro v3 H3 Z3 O3 G3 x3 g3 q3 nd3 fr3
        have xx : Ext [] Z O H1 Z3 O3 H3 := x2.trans x3 fun c hc => .inl (hn2 c (by simpa using hc))
        have hn3 : ∀ a ∈ G3, H1 a = none := fun a ha => (fr3 a ha).1.elim (fun z => x2.h.free z) fun z => hn2 a (by simpa using z)
        refine h3 v3 H3 Z3 O3 F G3 (rl.ext xx g3) n q3 ?_ (fun a ha => (fr3 a ha).2) (ts.tr.trans (Ext.tr xx hn3)) (ts.trans (TrS.ext xx))
        exact nodup_fresh rl.nd nd3 (fun a ha => let ⟨o, z, _⟩ := rl.sl.live a ha; ⟨o, z⟩) hn3
  · have h3 : MRK K E Z0 O0 H σ ρ0 F0 Q (if st = .imm then _ else SR.bad) := h2
    rw [if_neg es] at h3
    exact h3.elim
end
section
variable {X : Cx} {E : XK} {a b : Expr} {s : Stx} {q : Px} {pos : Pos}
end
@[simp] theorem x_mOp2 {f : R → R → Res R} {s : Stx} {q : Px} {ρ : Ev} : mOp2 f s q ρ = mBind s (fun r ρ => if r.s = .imm then (match q ρ with
  | .bad => .bad
  | .exc c fs => .exc c fs ρ
  | .ok r2 => (match f r r2 with
    | .bad => .bad
    | .exc c fs => .exc c fs ρ
    | .ok r3 => .ret r3 ρ)) else .bad) ρ := id rfl
end Oz

/-! Oz79: list displays whose items change an argument. -/
namespace Oz
open PySem PySem.Spec L2
open PyProof.Rows hiding St
variable [WD]
def mLsts : List Stx → List D → Stx
  | [], acc => fun ρ => if acc.length ≤ sizeLine then (match dnew .imm acc with
    | .ok r => .ret r ρ
    | _ => .bad) else .bad
  | s :: ss, acc => mBind s fun r ρ => if r.s = .imm then mLsts ss (acc ++ [r.d]) ρ else .bad
def mLst (ss : List Stx) : Stx := mLsts ss []
def tMs (K : PySem.W.Frag) (E : XK) : List Stx → TA
  | [] => tNil
  | s :: ss => tCons (tM K E s) (tMs K E ss)
section
variable {K : PySem.W.Frag} {E : XK} {σ : L2.St} {Q : VK}
theorem mLsts_ok : ∀ (ss : List Stx) {acc : List D} {vs : List V} {H Z O : Hp} {ρ : Ev} {F : List Addr}, Rel K Z O H σ ρ F → nov ρ = true → Reps K Z vs acc → MRK K E Z O H σ ρ F Q (mLsts ss acc ρ) →
    tMs K E ss σ H fun xs H1 => (vs ++ xs).length ≤ sizeLine ∧ ∀ p, H1 p = none → Q (.ref p) (upd H1 p (.lst (vs ++ xs)))
  | [], acc, vs, H, Z, O, ρ, F, rl, n, rv, h => by
    have h1 : MRK K E Z O H σ ρ F Q (if acc.length ≤ sizeLine then (match dnew .imm acc with
      | .ok r => .ret r ρ
      | _ => .bad) else .bad) := h
    by_cases c : acc.length ≤ sizeLine
    · rw [if_pos c] at h1
      refine ⟨by rw [List.append_nil, rv.length]; exact c, fun p np => ?_⟩
      rw [List.append_nil]
      refine dnew_ok (s := .imm) (E := E) (W := []) rl.g ?_ (rv.mono rl.g.zh) (fun _ => rv) np
      cases e : dnew .imm acc with
      | bad => rw [e] at h1; exact h1.elim
      | exc c fs => rw [e] at h1; exact h1.elim
      | ok r =>
        rw [e] at h1
        intro v H1 Z1 O1 G x1 g1 q nd fr
        have hn : ∀ a ∈ G, H a = none := fun a ha => (fr a ha).1.elim id fun z => by cases z
        refine h1 v H1 Z1 O1 F G (rl.ext x1 g1) n q ?_ (fun a ha => (fr a ha).2) (Ext.tr x1 hn) (TrS.ext x1)
        exact nodup_fresh rl.nd nd (fun a ha => let ⟨o, z, _⟩ := rl.sl.live a ha; ⟨o, z⟩) hn
    · rw [if_neg c] at h1
      exact h1.elim
  | s :: ss, acc, vs, H, Z, O, ρ, F, rl, n, rv, h => by
    have h1 : MRK K E Z O H σ ρ F Q (mBind s (fun r ρ => if r.s = .imm then mLsts ss (acc ++ [r.d]) ρ else .bad) ρ) := h
    unfold mBind at h1
    refine ⟨Z, O, ρ, F, rl, n, ?_⟩
    cases e : s ρ with
    | bad => rw [e] at h1; exact h1.elim
    | next ρ' => rw [e] at h1; exact h1.elim
    | exc c fs ρ' => rw [e] at h1; exact h1
    | ret r ρ' =>
      rw [e] at h1
      intro v H' Z' O' F' G rl' n' q nd fo t ts
      obtain ⟨st, d⟩ := r
      by_cases es : st = .imm
      · subst es
        have h2 : MRK K E Z O H σ ρ F Q (mLsts ss (acc ++ [d]) ρ') := h1
        obtain ⟨q, _⟩ := q
        have ih := mLsts_ok ss rl' n' ((rv.mono ts.tr.z).append (.cons q .nil)) (MRK.from h2 ts)
        simp only [List.append_assoc, List.singleton_append] at ih
        exact ih
      · have h2 : MRK K E Z O H σ ρ F Q (if st = .imm then mLsts ss (acc ++ [d]) ρ' else .bad) := h1
        rw [if_neg es] at h2
        exact h2.elim
end
section
variable {X : Cx} {E : XK} {e : Expr} {es : List Expr} {s : Stx} {ss : List Stx} {pos : Pos}
theorem ma_nil : PA X [] (tMs X.K E []) := pa_nil
theorem ma_cons (ha : PE X e (tM X.K E s)) (hr : PA X es (tMs X.K E ss)) (hs : starEach (e :: es) X.env = (false, eval e X.env) :: starEach es X.env := by rfl) : PA X (e :: es) (tMs X.K E (s :: ss)) := pa_cons ha hr hs
theorem m_lst (h : PA X es (tMs X.K E ss)) : PE X (.List es pos) (tM X.K E (mLst ss)) := (pe_lst h).imp fun σ H Q ⟨Z, O, ρ, F, rl, n, q⟩ => mLsts_ok ss rl n .nil q
end
@[simp] theorem x_mLst {ss : List Stx} : mLst ss = mLsts ss [] := rfl
@[simp] theorem x_mLsts_n {acc : List D} {ρ : Ev} : mLsts [] acc ρ = if acc.length ≤ sizeLine then (match dnew .imm acc with
    | .ok r => .ret r ρ
    | _ => .bad) else .bad := id rfl
@[simp] theorem x_mLsts_c {s : Stx} {ss : List Stx} {acc : List D} {ρ : Ev} : mLsts (s :: ss) acc ρ = mBind s (fun r ρ => if r.s = .imm then mLsts ss (acc ++ [r.d]) ρ else .bad) ρ := id rfl
end Oz

/-! Oz80: operations whose right side changes an argument (the left one lasts). -/
namespace Oz
open PySem PySem.Spec L2
open PyProof.Rows hiding St
variable [WD]
section
variable {K : PySem.W.Frag} {E : XK} {Z0 O0 H0 Z O H Z' O' H' : Hp} {σ σ0 : L2.St} {ρ ρ0 : Ev} {F F0 G G' W : List Addr} {Q : VK}
theorem Rel.extW (rl : Rel K Z O H σ ρ F) (x : Ext W Z O H Z' O' H') (g : Good Z' O' H') (dj : ∀ a ∈ F, a ∉ W) : Rel K Z' O' H' σ ρ F := ⟨g, rl.nd, fun a ha => by
  cases e : O' a with
  | none => rfl
  | some o =>
    obtain ⟨ob, h1, _⟩ := rl.sl.live a ha
    rcases x.on a (by rw [e]; simp) with z | z | z
    · exact absurd (rl.fo a ha) z
    · rw [h1] at z; cases z
    · exact absurd z (dj a ha), rl.sl.ext x, rl.tb.ext x.h⟩
theorem Tr.extW (t : Tr Z0 H0 F0 Z H (F ++ G)) (x : Ext G Z O H Z' O' H') (hn : ∀ a ∈ G', H a = none ∨ a ∈ G) : Tr Z0 H0 F0 Z' H' (F ++ G') where
  z := t.z.trans x.z
  keep := fun a o h hn nn => x.h.s a o (t.keep a o h hn nn) nn
  zn := fun a ha => (x.zn a ha).elim (t.zn a) fun q => .inr (q.elim (t.fr a) fun q => t.fn a (List.mem_append_right _ q))
  fn := fun a ha => (List.mem_append.mp ha).elim (fun z => t.fn a (List.mem_append_left _ z)) fun z => (hn a z).elim (t.fr a) fun q => t.fn a (List.mem_append_right _ q)
  fr := fun c h => t.fr c (x.h.free h)
  tab := fun c hn h => x.h.tab c (t.tab c hn h)
theorem TrS.extW (ts : TrS Z0 O0 H0 σ0 ρ0 F0 Z O H σ ρ F) (t : Tr Z0 H0 F0 Z H (F ++ G)) (x : Ext G Z O H Z' O' H') : TrS Z0 O0 H0 σ0 ρ0 F0 Z' O' H' σ ρ F where
  tr := (t.extW (G' := []) x fun a ha => by cases ha).sub
  o := ts.o.trans x.o
  len := ts.len
  brw := ts.brw
  on := fun c q => (x.on c q).elim (ts.on c) fun q => .inr (q.elim (t.fr c) fun q => t.fn c (List.mem_append_right _ q))
end
def mOp2R (f : R → R → Res R) (p : Px) (s : Stx) : Stx := fun ρ => match p ρ with
  | .bad => .bad
  | .exc c fs => .exc c fs ρ
  | .ok a => if a.s = .imm then (match s ρ with
    | .ret r ρ' => (match f a r with
      | .bad => .bad
      | .exc c fs => .exc c fs ρ'
      | .ok r3 => .ret r3 ρ')
    | .exc c fs ρ' => .exc c fs ρ'
    | _ => .bad) else .bad
section
variable {K : PySem.W.Frag} {E : XK} {H : Hp} {σ : L2.St} {Q : VK}
theorem mOp2R_ok {T : R2} {f : R → R → Res R} {p : Px} {s : Stx} (hf : Op2 K T f) (h : tM K E (mOp2R f p s) σ H Q) : tP K E p σ H fun x H1 => tM K E s σ H1 fun y H2 => T x y H2 Q := by
  obtain ⟨Z, O, ρ, F, rl, n, h⟩ := h
  refine ⟨Z, O, ρ, F, rl, ?_⟩
  unfold mOp2R at h
  cases e : p ρ with
  | bad => rw [e] at h; exact h.elim
  | exc c fs =>
    rw [e] at h
    exact fun H' Z' O' d xs x g q a b => h H' Z' O' F d xs (rl.ext x g) (TrS.ext x) q a b
  | ok a =>
    rw [e] at h
    intro v H1 Z1 O1 G x1 g1 q nd fr
    obtain ⟨st, d⟩ := a
    by_cases es : st = .imm
    · subst es
      have h1 : MRK K E Z O H σ ρ F Q (match s ρ with
        | .ret r ρ' => (match f ⟨.imm, d⟩ r with
          | .bad => .bad
          | .exc c fs => .exc c fs ρ'
          | .ok r3 => .ret r3 ρ')
        | .exc c fs ρ' => .exc c fs ρ'
        | _ => .bad) := h
      have h2 := MRK.from (Z1 := Z1) (O1 := O1) (H1 := H1) (ρ1 := ρ) (F1 := F) h1 (TrS.ext x1)
      obtain ⟨q, _⟩ := q
      refine ⟨Z1, O1, ρ, F, rl.ext x1 g1, n, ?_⟩
      cases e2 : s ρ with
      | bad => rw [e2] at h2; exact h2.elim
      | next ρ' => rw [e2] at h2; exact h2.elim
      | exc c fs ρ' => rw [e2] at h2; exact h2
      | ret r ρ' =>
        rw [e2] at h2
        intro y H2 Z2 O2 F2 G2 rl2 n2 q2 nd2 fo2 t2 ts2
        obtain ⟨m1, m2, m3⟩ := List.nodup_append.mp nd2
        have dj : ∀ a ∈ F2, a ∉ G2 := fun a ha hb => m3 a ha a hb rfl
        have r1 : RepR K Z2 O2 H2 v ⟨.imm, d⟩ [] := ⟨q.mono ts2.tr.z, rfl⟩
        refine hf E Z2 O2 H2 v y ⟨.imm, d⟩ r [] G2 Q rl2.g r1 q2 (by simpa using m2) (fun c hc => fo2 c (by simpa using hc)) ?_
        simp only at h2
        cases e3 : f ⟨.imm, d⟩ r with
        | bad => rw [e3] at h2; exact h2.elim
        | exc c fs =>
          rw [e3] at h2
          intro H3 Z3 O3 dd xs x3 g3 hd e1 e2
          have x3' : Ext G2 Z2 O2 H2 Z3 O3 H3 := x3.mono fun c hc => by simpa using hc
          exact h2 H3 Z3 O3 F2 dd xs (rl2.extW x3' g3 dj) (ts2.extW t2 x3') hd e1 e2
        | ok r3 =>
          rw [e3] at h2
          intro v3 H3 Z3 O3 G3 x3 g3 q3 nd3 fr3
          have x3' : Ext G2 Z2 O2 H2 Z3 O3 H3 := x3.mono fun c hc => by simpa using hc
          have hn : ∀ a ∈ G3, H2 a = none ∨ a ∈ G2 := fun a ha => (fr3 a ha).1.imp id fun z => by simpa using z
          refine h2 v3 H3 Z3 O3 F2 G3 (rl2.extW x3' g3 dj) n2 q3 ?_ (fun a ha => (fr3 a ha).2) (t2.extW x3' hn) (ts2.extW t2 x3')
          rw [List.nodup_append]
          refine ⟨m1, nd3, fun a ha b hb eb => ?_⟩
          subst eb
          rcases hn a hb with z | z
          · obtain ⟨o, w, _⟩ := rl2.sl.live a ha
            rw [w] at z; cases z
          · exact dj a ha z
    · have h1 : MRK K E Z O H σ ρ F Q (if st = .imm then _ else SR.bad) := h
      rw [if_neg es] at h1
      exact h1.elim
end
section
variable {X : Cx} {E : XK} {a b : Expr} {s : Stx} {q : Px} {pos : Pos}
theorem m_opR {op : Operator} {T : R2} {f : R → R → Res R} (ho : OpR X (binaryOp op) T) (hf : Op2 X.K T f) (ha : PE X a (tP X.K E q)) (hb : PE X b (tM X.K E s)) : PE X (.BinOp a op b pos) (tM X.K E (mOp2R f q s)) :=
  (pe_op ho ha hb).imp fun σ H Q h => mOp2R_ok hf h
end
@[simp] theorem x_mOp2R {f : R → R → Res R} {p : Px} {s : Stx} {ρ : Ev} : mOp2R f p s ρ = (match p ρ with
  | .bad => .bad
  | .exc c fs => .exc c fs ρ
  | .ok a => if a.s = .imm then (match s ρ with
    | .ret r ρ' => (match f a r with
      | .bad => .bad
      | .exc c fs => .exc c fs ρ'
      | .ok r3 => .ret r3 ρ')
    | .exc c fs ρ' => .exc c fs ρ'
    | _ => .bad) else .bad) := id rfl
end Oz

/-! Oz81: tests that compare what changes an argument; methods with generator expressions. -/
namespace Oz
open PySem PySem.Spec L2
open PyProof.Rows hiding St
variable [WD]
def mVal (s : Stx) : Stx := mBind s fun r ρ => match r.d with
  | .bool b => .ret ⟨.imm, .bool b⟩ ρ
  | _ => .bad
section
variable {K : PySem.W.Frag} {E : XK} {H : Hp} {σ : L2.St}
theorem mVal_ok {s : Stx} {Q : Bool → Hp → Prop} (h : tMT K E (mVal s) σ H Q) : tM K E s σ H fun x H' => ∃ k, x = .bl k ∧ Q k H' := by
  obtain ⟨Z, O, ρ, F, rl, n, h⟩ := h
  refine ⟨Z, O, ρ, F, rl, n, ?_⟩
  unfold mVal mBind at h
  cases e : s ρ with
  | bad => rw [e] at h; exact h.elim
  | next ρ' => rw [e] at h; exact h.elim
  | exc c fs ρ' => rw [e] at h; exact h
  | ret r ρ' =>
    rw [e] at h
    simp only at h
    intro v H' Z' O' F' G rl' n' q nd fo t ts
    obtain ⟨st, d⟩ := r
    cases d with
    | bool b =>
      have lk := q.look rl'.g
      cases lk
      exact ⟨b, rfl, h H' Z' O' F' rl' n' ts⟩
    | _ => exact h.elim
end
section
variable {X : Cx} {E : XK} {a b : Expr} {s : Stx} {q : Px} {pos : Pos} {op : CmpOp} {T : R2} {f : R → R → Res R}
theorem m_tcmp (ho : OpR X (compareOp op) T) (hf : Op2 X.K T f) (ha : PE X a (tM X.K E s)) (hb : PE X b (tP X.K E q)) (hm : behindInMarks op b = false) : PT X (.Compare a [op] [b] pos) (tMT X.K E (mVal (mOp2 f s q))) :=
  (pt_cmpR ho ha hb hm).imp fun σ H Q h => mOp2_ok hf (mVal_ok h)
end
@[simp] theorem x_mVal {s : Stx} : mVal s = mBind s fun r ρ => match r.d with
  | .bool b => .ret ⟨.imm, .bool b⟩ ρ
  | _ => .bad := rfl
theorem calM_ofC {CX : CXT} {P : Program} {w : World} {K : PySem.W.Frag} {mg : Str → Option Value} {base : Heap} {c x qual : Str} {params : Arguments} {body : List Stmt} {scope : Scope} {ps : List Str} {k : Nat} {md : List Md} {m : Fn} {cv : Value}
    (cl : Cls K (He.ga K c)) (T : ∃ f fd, FunD K x qual params body scope [] [] f fd ∧ Meth K (He.ga K c) x f ∧ fd.code = cv)
    (hb : ∀ (kV doc pm : Value) (an : Option Addr) (cdv ct : Value) (us : List Value), us.length = ps.length → bindArgs (PySem.W.fnOf x qual params body scope .none kV doc pm an cdv ct) ⟨us, []⟩ = pure (ps.zip us))
    (B : ∀ f fd, FunD K x qual params body scope [] [] f fd → fd.code = cv → FnOk P w K mg base CX k f fd ps (spF K md m)) :
    CalM CX P w K mg base k c x ps md m := by
  obtain ⟨f, fd, F, hm, hc⟩ := T
  exact ⟨cl, f, fd, B f fd F hc, F.bindsN hb, hm⟩
end Oz

/-! Oz82: try with a body of several statements: what an exception finds depends on the slots at its time. -/
namespace Oz
open PySem PySem.Spec L2
open PyProof.Rows hiding St
variable [WD]
def SRKW (K : PySem.W.Frag) (W : WX) (Z O H : Hp) (σ : St) (ρ : Ev) (F : List Addr) (nx : St → Hp → Prop) (rt : VK) : SR → Prop
  | .bad => False
  | .next ρ' => ∀ σ' H' Z' O' F', Rel K Z' O' H' σ' ρ' F' → nov ρ' = true → TrS Z O H σ ρ F Z' O' H' σ' ρ' F' → nx σ' H'
  | .ret r ρ' => ∀ v σ' H' Z' O' F' G, Rel K Z' O' H' σ' ρ' F' → RepR K Z' O' H' v r G → (F' ++ G).Nodup → (∀ a ∈ G, O' a = none) → Tr Z H F Z' H' (F' ++ G) → TrS Z O H σ ρ F Z' O' H' σ' ρ' F' → rt v H'
  | .exc c fs ρ' => ∀ σ' H' Z' O' F' d xs, Rel K Z' O' H' σ' ρ' F' → TrS Z O H σ ρ F Z' O' H' σ' ρ' F' → H' d = some (.xd xs) → xs.map (·.1) = fs.map (·.1) → Reps K Z' (xs.map (·.2)) (fs.map (·.2)) → W (.ref (He.ga K c)) (some d) σ' H'
section
variable {K : PySem.W.Frag} {W : WX} {Z O H Z1 O1 H1 : Hp} {σ σ1 : St} {ρ ρ1 : Ev} {F F1 : List Addr} {nx : St → Hp → Prop} {rt : VK}
theorem SRKW.from {r : SR} (h : SRKW K W Z O H σ ρ F nx rt r) (t : TrS Z O H σ ρ F Z1 O1 H1 σ1 ρ1 F1) : SRKW K W Z1 O1 H1 σ1 ρ1 F1 nx rt r := by
  cases r with
  | bad => exact h
  | next ρ' => exact fun σ' H' Z' O' F' q n u => h σ' H' Z' O' F' q n (t.trans u)
  | ret r ρ' => exact fun v σ' H' Z' O' F' G q w nd fo u u2 => h v σ' H' Z' O' F' G q w nd fo (t.tr.trans u) (t.trans u2)
  | exc c fs ρ' => exact fun σ' H' Z' O' F' d xs q u hd e1 e2 => h σ' H' Z' O' F' d xs q (t.trans u) hd e1 e2
theorem SRKW.exc {c : Str} {fs : List (Str × D)} (rl : Rel K Z O H σ ρ F) (h : SRKW K W Z O H σ ρ F nx rt (.exc c fs ρ)) : ExcK K (WE W σ) Z O H c fs := fun H' Z' O' d xs e g q a b =>
  h σ H' Z' O' F d xs (rl.ext e g) (TrS.ext e) q a b
end
section
variable {X : Cx} {W : WX} {e c : Expr} {p : Px} {t : Tx} {a b : List Stmt} {st : Stmt} {rest : List Stmt} {s u : Stx} {pos pos' : Pos} {x : Str}
end
section
variable {X : Cx} {W : WX} {c cN n x m : Str} {i j k k' : Nat} {md : List Md} {ps : List Str} {g : Fn} {p pos apos : Pos} {e : Expr} {es : List Expr} {ks : List Ax} {qs : List Px} {s : Stx}
end
/-- try: s / except c as n: return n.what -/
def sTryG (i : Nat) (c : Str) (s : Stx) : Stx := fun ρ => match s ρ with
  | .exc c' fs ρ' => if c' = c then tryE ρ'[i]? fs ρ' else .bad
  | r => r
/-- try: s / except c: h -/
def sTryN (c : Str) (s h : Stx) : Stx := fun ρ => match s ρ with
  | .exc c' fs ρ' => if c' = c ∧ nov ρ' = true then h ρ' else .bad
  | r => r
section
variable {X : Cx} {E : XK} {c n : Str} {i : Nat} {s h : Stx} {np p1 p2 p3 pos' pos'' : Pos} {body suite : List Stmt} {b₀ : Stmt}
end
@[simp] theorem x_tryG {i : Nat} {c : Str} {s : Stx} {ρ : Ev} : sTryG i c s ρ = (match s ρ with
  | .exc c' fs ρ' => if c' = c then tryE ρ'[i]? fs ρ' else .bad
  | r => r) := id rfl
@[simp] theorem x_tryN {c : Str} {s h : Stx} {ρ : Ev} : sTryN c s h ρ = (match s ρ with
  | .exc c' fs ρ' => if c' = c ∧ nov ρ' = true then h ρ' else .bad
  | r => r) := id rfl
@[simp] theorem x_pMeth {c mn : Str} {f : Fn} {md : List Md} {p : Px} {ps : List Px} {ρ : Ev} : pMeth c mn f md p ps ρ = ((p ρ).bind fun r => match unO c r.d with
  | some es => if lkD (.inr mn) es = none then ((evs ps ρ).bind fun rs => match pargs md (r :: rs) with
    | some ds => (match f ds with
      | .ok r [] => .ok r
      | .exc c fs [] => .exc c fs
      | _ => .bad)
    | none => .bad) else .bad
  | none => .bad) := id rfl
end Oz

namespace Law
open PySem PySem.Spec L2 Oz
open PyProof.Rows hiding St
structure Txt [WD] (P : Program) (w : World) (K : PySem.W.Frag) (mg : Str → Option Value) (base : Heap) : Prop where
  hw : w = WD.w
  f_Desk___init__ : ∃ f fd, FunD K "__init__" "Desk.__init__" (defArgs st_Desk___init__) (defBody st_Desk___init__) (defScope st_Desk___init__) [] [] f fd ∧ Mk K (He.ga K "Desk") f
  f_Desk_evidence : ∃ f fd, FunD K "evidence" "Desk.evidence" (defArgs st_Desk_evidence) (defBody st_Desk_evidence) (defScope st_Desk_evidence) [] [] f fd ∧ Meth K (He.ga K "Desk") "evidence" f
  f__law_cell : ∃ f fd, FunD K "_law_cell" "_law_cell" (defArgs st__law_cell) (defBody st__law_cell) (defScope st__law_cell) [] [] f fd ∧ mg "_law_cell" = some (.ref f)
  f_Desk_step : ∃ f fd, FunD K "step" "Desk.step" (defArgs st_Desk_step) (defBody st_Desk_step) (defScope st_Desk_step) [] [] f fd ∧ Meth K (He.ga K "Desk") "step" f
  f_is_number : ∃ f fd, FunD K "is_number" "is_number" (defArgs st_is_number) (defBody st_is_number) (defScope st_is_number) [] [] f fd ∧ mg "is_number" = some (.ref f)
  f_is_flag : ∃ f fd, FunD K "is_flag" "is_flag" (defArgs st_is_flag) (defBody st_is_flag) (defScope st_is_flag) [] [] f fd ∧ mg "is_flag" = some (.ref f)
  f_is_entry : ∃ f fd, FunD K "is_entry" "is_entry" (defArgs st_is_entry) (defBody st_is_entry) (defScope st_is_entry) [] [] f fd ∧ mg "is_entry" = some (.ref f)
  f_Desk_with_file : ∃ f fd, FunD K "with_file" "Desk.with_file" (defArgs st_Desk_with_file) (defBody st_Desk_with_file) (defScope st_Desk_with_file) [] [] f fd ∧ Meth K (He.ga K "Desk") "with_file" f
  f_Desk_enter : ∃ f fd, FunD K "enter" "Desk.enter" (defArgs st_Desk_enter) (defBody st_Desk_enter) (defScope st_Desk_enter) [] [] f fd ∧ Meth K (He.ga K "Desk") "enter" f ∧ fd.code = .ref (He.cT K ("Desk", some "enter")).1
  tb_Desk_enter : GxR.TabB base mg (He.cT K ("Desk", some "enter")).1 (He.cT K ("Desk", some "enter")).2
  tp_Desk_enter : (He.cT K ("Desk", some "enter")).2 ∈ tabsK K
  f__law_entered : ∃ f fd, FunD K "_law_entered" "_law_entered" (defArgs st__law_entered) (defBody st__law_entered) (defScope st__law_entered) [] [] f fd ∧ mg "_law_entered" = some (.ref f)
  f_is_find : ∃ f fd, FunD K "is_find" "is_find" (defArgs st_is_find) (defBody st_is_find) (defScope st_is_find) [] [] f fd ∧ mg "is_find" = some (.ref f)
  f_entry_numbers : ∃ f fd, FunD K "entry_numbers" "entry_numbers" (defArgs st_entry_numbers) (defBody st_entry_numbers) (defScope st_entry_numbers) [] [] f fd ∧ mg "entry_numbers" = some (.ref f)
  f_Desk_found : ∃ f fd, FunD K "found" "Desk.found" (defArgs st_Desk_found) (defBody st_Desk_found) (defScope st_Desk_found) [] [] f fd ∧ Meth K (He.ga K "Desk") "found" f
  f__law_found : ∃ f fd, FunD K "_law_found" "_law_found" (defArgs st__law_found) (defBody st__law_found) (defScope st__law_found) [] [] f fd ∧ mg "_law_found" = some (.ref f)
  f_law : ∃ f fd, FunD K "law" "law" (defArgs st_law) (defBody st_law) (defScope st_law) [] [] f fd ∧ mg "law" = some (.ref f)
  cl_Desk : Cls K (He.ga K "Desk")
  g_Desk : mg "Desk" = some (.ref (He.ga K "Desk"))
  na_Desk_kinds : NoAttr K (He.ga K "Desk") "kinds"
  na_Desk_parties : NoAttr K (He.ga K "Desk") "parties"
  na_Desk_past : NoAttr K (He.ga K "Desk") "past"
  na_Desk_done : NoAttr K (He.ga K "Desk") "done"
  na_Desk_state : NoAttr K (He.ga K "Desk") "state"
  g_PLAIN_DEEDS : mg "PLAIN_DEEDS" = some (.ref (He.ga K "PLAIN_DEEDS"))
  t_PLAIN_DEEDS : ∀ C, Rep K C (.ref (He.ga K "PLAIN_DEEDS")) (.tuple [.str "made", .str "treated"])
  g_COPY_DEEDS : mg "COPY_DEEDS" = some (.ref (He.ga K "COPY_DEEDS"))
  t_COPY_DEEDS : ∀ C, Rep K C (.ref (He.ga K "COPY_DEEDS")) (.tuple [.str "gave", .str "took"])
  g_NUMBER_MOST : ∃ t, mg "NUMBER_MOST" = some (.int 1000000000 t)
  g_AMOUNT_MOST : ∃ t, mg "AMOUNT_MOST" = some (.int 1000000000000 t)
  g_ROWS_MOST : ∃ t, mg "ROWS_MOST" = some (.int 200 t)
  b_tuple : mg "tuple" = none
  b_len : mg "len" = none
  b_isinstance : mg "isinstance" = none
  b_int : mg "int" = none
  b_bool : mg "bool" = none
  b_str : mg "str" = none
  b_enumerate : mg "enumerate" = none
  b_any : mg "any" = none
  b_range : mg "range" = none
  b_min : mg "min" = none
  rf_Refused : Rfs P K mg "Refused"
section
noncomputable def c_Desk___init___0 : Px := pTup []
noncomputable def q_Desk___init___0 : Px := pComp [3] (srcC (pFld "Desk" "parties" (pVar 0))) (cN 3) (tYesD) (c_Desk___init___0)
noncomputable def b_Desk___init__ : Stx := sSeq (sFldS "Desk" "kinds" (plN 0) (pVar 1)) (sSeq (sFldS "Desk" "parties" (plN 0) (pB bTuple [pVar 2])) (sSeq (sFldS "Desk" "past" (plN 0) (pLst [])) (sSeq (sFldS "Desk" "done" (plN 0) (pLst [])) (sFldS "Desk" "state" (plN 0) (pTup [pB bTuple [q_Desk___init___0], pTup [], pC (.int 0)])))))
noncomputable def m_Desk___init__ : Fn := fnD 4 [.m, .v, .v] b_Desk___init__
noncomputable def b_Desk_evidence : Stx := sRet (pTup [pFld "Desk" "kinds" (pVar 0), pFld "Desk" "parties" (pVar 0), p2 ixR (pFld "Desk" "state" (pVar 0)) (pC (.int 0)), p2 ixR (pFld "Desk" "state" (pVar 0)) (pC (.int 1))])
noncomputable def m_Desk_evidence : Fn := fnD 1 [.v] b_Desk_evidence
noncomputable def b__law_cell : Stx := sSeq (sIf (tVal (p2 (at2 fLt) (pVar 1) (pB (b1 fLen) [pVar 0]))) (sFrz 0 (sRet (p2 ixR (pVar 0) (pVar 1)))) (sNext)) (sRet (pC (.int 0)))
noncomputable def m__law_cell : Fn := fnD 2 [.v, .v] b__law_cell
noncomputable def b_Desk_step : Stx := sSeq (sApp (plF "Desk" "past" (plN 0)) (pFld "Desk" "state" (pVar 0))) (sSeq (sApp (plF "Desk" "done" (plN 0)) (pVar 1)) (sFldS "Desk" "state" (plN 0) (pVar 2)))
noncomputable def m_Desk_step : Fn := fnD 3 [.m, .v, .v] b_Desk_step
noncomputable def b_is_number : Stx := sRet (pAnd (pIsi "int" (pVar 0)) (pAnd (pNot (pIsi "bool" (pVar 0))) (pChI (fun i j => decide (i ≤ j)) (fun i j => decide (i ≤ j)) (pVar 1) (pVar 0) (pVar 2))))
noncomputable def m_is_number : Fn := fnD 3 [.i, .v, .v] b_is_number
noncomputable def b_is_flag : Stx := sRet (pIsi "bool" (pVar 0))
noncomputable def m_is_flag : Fn := fnD 1 [.i] b_is_flag
noncomputable def b_is_entry : Stx := sSeq (sIf (tOrD (tNotD (tTru (pIsi "tuple" (pVar 0)))) (tVal (p2 (at2 ninF) (pB (b1 fLen) [pVar 0]) (pTup [pC (.int 4), pC (.int 6)])))) (sRet (pC (.bool false))) (sNext)) (sSeq (sAsg 4 (pIf (tVal (p2 (at2 eqF) (pB (b1 fLen) [pVar 0]) (pC (.int 4)))) (pC (.tuple [.str "made", .str "treated"])) (pC (.tuple [.str "gave", .str "took"])))) (sSeq (sIf (tOrD (tNotD (tTru (pCall m_is_number [.i, .v, .v] [p2 ixR (pVar 0) (pC (.int 0)), pC (.int 1), pC (.int 1000000000)]))) (tOrD (tNotD (tTru (pIsi "str" (p2 ixR (pVar 0) (pC (.int 1)))))) (tVal (p2 (at2 ninF) (p2 ixR (pVar 0) (pC (.int 1))) (pVar 4))))) (sRet (pC (.bool false))) (sNext)) (sSeq (sIf (tOrD (tNotD (tTru (pCall m_is_number [.i, .v, .v] [p2 ixR (pVar 0) (pC (.int 2)), pC (.int 0), p2 (at2 fSub) (pVar 1) (pC (.int 1))]))) (tNotD (tTru (pCall m_is_number [.i, .v, .v] [p2 ixR (pVar 0) (pC (.int 3)), pC (.int 1), pC (.int 1000000000000)])))) (sRet (pC (.bool false))) (sNext)) (sSeq (sIf (tVal (p2 (at2 eqF) (pB (b1 fLen) [pVar 0]) (pC (.int 4)))) (sRet (pC (.bool true))) (sNext)) (sRet (pAnd (pCall m_is_number [.i, .v, .v] [p2 ixR (pVar 0) (pC (.int 4)), pC (.int 0), p2 (at2 fSub) (pVar 2) (pC (.int 1))]) (pAnd (p2 (at2 neF) (p2 ixR (pVar 0) (pC (.int 4))) (pVar 3)) (pCall m_is_flag [.i] [p2 ixR (pVar 0) (pC (.int 5))]))))))))
noncomputable def m_is_entry : Fn := fnD 5 [.i, .v, .v, .v] b_is_entry
noncomputable def c_Desk_with_file_0 : Px := pIf (tVal (p2 (at2 eqF) (pVar 3) (pVar 1))) (pVar 2) (pVar 4)
noncomputable def q_Desk_with_file_0 : Px := pComp [3, 4] (srcEc (p2 ixR (pFld "Desk" "state" (pVar 0)) (pC (.int 0)))) (gT 2 (gsC (cN 3) (gsC (cN 4) (gsN)))) (tYesD) (c_Desk_with_file_0)
noncomputable def b_Desk_with_file : Stx := sRet (pB bTuple [q_Desk_with_file_0])
noncomputable def m_Desk_with_file : Fn := fnD 5 [.v, .v, .v] b_Desk_with_file
noncomputable def b_Desk_enter : Stx := sSeq (sAsgT (gT 3 (gsC (gN 3) (gsC (gN 4) (gsC (gN 5) (gsN))))) (pFld "Desk" "state" (pVar 0))) (sSeq (sIf (tNotD (tTru (pCall m_is_entry [.i, .v, .v, .v] [pVar 2, pFld "Desk" "kinds" (pVar 0), pB (b1 fLen) [pFld "Desk" "parties" (pVar 0)], pVar 1]))) (sRse "Refused" (.str "no entry")) (sNext)) (sSeq (sIf (tAndD (tTru (p2 ixR (pVar 3) (pVar 1))) (tVal (p2 (at2 fLe) (p2 ixR (pVar 2) (pC (.int 0))) (p2 ixR (p2 ixR (p2 ixR (pVar 3) (pVar 1)) (pNeg (pC (.int 1)))) (pC (.int 0)))))) (sRse "Refused" (.str "numbers do not ascend")) (sNext)) (sSeq (sIf (tTru (pGen false (pVar 4) (eEq (eIx (eX) (eInt 0)) (eIx (eCap "entry") (eInt 0))) [("entry", 2)])) (sRse "Refused" (.str "number is taken")) (sNext)) (sSeq (sIf (tVal (p2 (at2 fGe) (pB (b1 fLen) [p2 ixR (pVar 3) (pVar 1)]) (pC (.int 200)))) (sRse "Refused" (.str "too many entries")) (sNext)) (mDrop (mMeth "Desk" "step" m_Desk_step [.m, .v, .v] 0 [.p (pTup [pC (.str "enter"), pVar 1, pVar 2]), .p (pTup [pMeth "Desk" "with_file" m_Desk_with_file [.v, .v, .v] (pVar 0) [pVar 1, p2 addR (p2 ixR (pVar 3) (pVar 1)) (pTup [pVar 2])], pVar 4, pVar 5])]))))))
noncomputable def m_Desk_enter : Fn := fnD 7 [.m, .v, .v] b_Desk_enter
noncomputable def b__law_entered : Stx := sTryM 3 "Refused" (mMeth "Desk" "enter" m_Desk_enter [.m, .v, .v] 0 [.n 1, .n 2])
noncomputable def m__law_entered : Fn := fnD 4 [.m, .v, .v] b__law_entered
noncomputable def b_is_find : Stx := sSeq (sIf (tOrD (tNotD (tTru (pIsi "tuple" (pVar 0)))) (tOrD (tVal (p2 (at2 neF) (pB (b1 fLen) [pVar 0]) (pC (.int 4)))) (tNotD (tTru (pCall m_is_number [.i, .v, .v] [p2 ixR (pVar 0) (pC (.int 0)), pC (.int 1), pC (.int 1000000000)]))))) (sRet (pC (.bool false))) (sNext)) (sSeq (sIf (tOrD (tNotD (tTru (pCall m_is_number [.i, .v, .v] [p2 ixR (pVar 0) (pC (.int 1)), pC (.int 0), p2 (at2 fSub) (pVar 2) (pC (.int 1))]))) (tNotD (tTru (pCall m_is_number [.i, .v, .v] [p2 ixR (pVar 0) (pC (.int 2)), pC (.int 0), p2 (at2 fSub) (pVar 1) (pC (.int 1))])))) (sRet (pC (.bool false))) (sNext)) (sRet (pCall m_is_number [.i, .v, .v] [p2 ixR (pVar 0) (pC (.int 3)), pC (.int 0), pC (.int 1000000000000)])))
noncomputable def m_is_find : Fn := fnD 3 [.i, .v, .v] b_is_find
noncomputable def c_entry_numbers_0 : Px := p2 ixR (pVar 2) (pC (.int 0))
noncomputable def cs_entry_numbers_0 : Src := srcS (pVar 1)
noncomputable def q_entry_numbers_0 : Px := pDc2 [1, 2] (srcC (pVar 0)) (cN 1) (tYesD) [2] (cs_entry_numbers_0) (cN 2) (tYesD) (c_entry_numbers_0)
noncomputable def b_entry_numbers : Stx := sRet (q_entry_numbers_0)
noncomputable def m_entry_numbers : Fn := fnD 3 [.i] b_entry_numbers
noncomputable def b_Desk_found : Stx := sSeq (sAsgT (gT 3 (gsC (gN 2) (gsC (gN 3) (gsC (gN 4) (gsN))))) (pFld "Desk" "state" (pVar 0))) (sSeq (sIf (tNotD (tTru (pCall m_is_find [.i, .v, .v] [pVar 1, pFld "Desk" "kinds" (pVar 0), pB (b1 fLen) [pFld "Desk" "parties" (pVar 0)]]))) (sRse "Refused" (.str "no find")) (sNext)) (sSeq (sIf (tAndD (tTru (pVar 3)) (tVal (p2 (at2 fLe) (p2 ixR (pVar 1) (pC (.int 0))) (p2 ixR (p2 ixR (pVar 3) (pNeg (pC (.int 1)))) (pC (.int 0)))))) (sRse "Refused" (.str "numbers do not ascend")) (sNext)) (sSeq (sIf (tVal (p2 (at2 inK) (p2 ixR (pVar 1) (pC (.int 0))) (pCall m_entry_numbers [.i] [pVar 2]))) (sRse "Refused" (.str "number is taken")) (sNext)) (sSeq (sIf (tVal (p2 (at2 fGe) (pB (b1 fLen) [pVar 3]) (pC (.int 200)))) (sRse "Refused" (.str "too many finds")) (sNext)) (mDrop (mMeth "Desk" "step" m_Desk_step [.m, .v, .v] 0 [.p (pTup [pC (.str "found"), pVar 1]), .p (pTup [pVar 2, p2 addR (pVar 3) (pTup [pVar 1]), pVar 4])]))))))
noncomputable def m_Desk_found : Fn := fnD 5 [.m, .v] b_Desk_found
noncomputable def b__law_found : Stx := sTryM 2 "Refused" (mMeth "Desk" "found" m_Desk_found [.m, .v] 0 [.n 1])
noncomputable def m__law_found : Fn := fnD 3 [.m, .v] b__law_found
noncomputable def l_law_0 : Stx := sEnd [true, true, true, true, false, false, false, false, false, false, false] [false, false, false, false, false, false, false, false, false, false, false] (mIf (mVal (mOp2 (at2 isnF2) (mCall m__law_entered [.m, .v, .v] 1 [.n 1, .n 2, .p (pTup [p2 addR (p2 mulR (pC (.int 2)) (pVar 4)) (pC (.int 1)), pC (.str "made"), pC (.int 0), pC (.int 1)])]) (pC .none))) (sRet (pC (.bool false))) (sNext))
noncomputable def f_law_0 : Stx := sEnd [true, true, true, true, false, false, false, false, false, false, false] [false, false, false, false, false, false, false, false, false, false, false] (sPre [true, true, true, true, false, false, false, false, false, false, false] (sFor (srcR1 (pVar 3)) (gN 4) (l_law_0)))
noncomputable def l_law_1 : Stx := sEnd [false, true, true, true, false, true, false, false, false, false, false] [false, false, false, false, false, false, false, false, false, false, false] (mIf (mVal (mOp2 (at2 isnF2) (mCall m__law_found [.m, .v] 1 [.n 1, .p (pTup [p2 addR (p2 mulR (pC (.int 2)) (pVar 4)) (pC (.int 2)), pC (.int 0), pC (.int 0), pC (.int 0)])]) (pC .none))) (sRet (pC (.bool false))) (sNext))
noncomputable def f_law_1 : Stx := sEnd [false, true, true, true, false, true, false, false, false, false, false] [false, false, false, false, false, false, false, false, false, false, false] (sPre [false, true, true, true, false, true, false, false, false, false, false] (sFor (srcR1 (pVar 5)) (gN 4) (l_law_1)))
noncomputable def t_law_0 : Stx := sSeq (sAsg 10 (p2 ixR (pMeth "Desk" "evidence" m_Desk_evidence [.v] (pVar 1) []) (pC (.int 2)))) (sRet (pAnd (p2 (at2 eqF) (pB (b1 fLen) [p2 ixR (pVar 10) (pVar 2)]) (pB (b2i fMin2) [pC (.int 200), p2 addR (pVar 3) (pC (.int 1))])) (p2 (at2 eqF) (pB (b1 fLen) [p2 ixR (pMeth "Desk" "evidence" m_Desk_evidence [.v] (pVar 1) []) (pC (.int 3))]) (pB (b2i fMin2) [pC (.int 200), p2 addR (pVar 5) (pC (.int 1))]))))
noncomputable def t_law_1 : Stx := sSeq (mIf (mVal (mOp2 (at2 neF) (mCall m__law_found [.m, .v] 1 [.n 1, .p (pTup [pC (.int 502), pC (.int 0), pC (.int 0), pC (.int 0)])]) (pIf (tVal (p2 (at2 eqF) (pVar 5) (pC (.int 200)))) (pC (.str "too many finds")) (pC .none)))) (sRet (pC (.bool false))) (sNext)) (t_law_0)
noncomputable def t_law_2 : Stx := sSeq (mIf (mVal (mOp2 (at2 neF) (mCall m__law_entered [.m, .v, .v] 1 [.n 1, .n 2, .p (pTup [pC (.int 501), pC (.str "made"), pC (.int 0), pC (.int 1)])]) (pIf (tTru (pVar 7)) (pC (.str "too many entries")) (pC .none)))) (sRet (pC (.bool false))) (sNext)) (t_law_1)
noncomputable def t_law_3 : Stx := sSeq (sIf (tOrD (tVal (p2 (at2 neF) (pVar 8) (pLst [pC (.str "no find"), pC (.str "numbers do not ascend"), pVar 9]))) (tVal (p2 (at2 neF) (pMeth "Desk" "evidence" m_Desk_evidence [.v] (pVar 1) []) (pVar 6)))) (sRet (pC (.bool false))) (sNext)) (t_law_2)
noncomputable def t_law_4 : Stx := sSeq (sAsg 9 (pIf (tVal (p2 (at2 fLe) (p2 (at2 fSub) (p2 mulR (pC (.int 2)) (pVar 3)) (pC (.int 1))) (p2 mulR (pC (.int 2)) (pVar 5)))) (pC (.str "numbers do not ascend")) (pC (.str "number is taken")))) (t_law_3)
noncomputable def t_law_5 : Stx := sSeq (mAsg 8 (mLst [mCall m__law_found [.m, .v] 1 [.n 1, .p (pTup [pC (.int 502), pC (.int 0), pC (.int 1), pC (.int 0)])], mCall m__law_found [.m, .v] 1 [.n 1, .p (pTup [pC (.int 2), pC (.int 0), pC (.int 0), pC (.int 0)])], mCall m__law_found [.m, .v] 1 [.n 1, .p (pTup [p2 (at2 fSub) (p2 mulR (pC (.int 2)) (pVar 3)) (pC (.int 1)), pC (.int 0), pC (.int 0), pC (.int 0)])]])) (t_law_4)
noncomputable def t_law_6 : Stx := sSeq (sIf (tVal (p2 (at2 neF) (pVar 8) (pLst [pC (.str "no entry"), pC (.str "numbers do not ascend"), pVar 9, pC (.str "number is taken")]))) (sRet (pC (.bool false))) (sNext)) (t_law_5)
noncomputable def t_law_7 : Stx := sSeq (sAsg 9 (pIf (tVal (p2 (at2 fLe) (p2 mulR (pC (.int 2)) (pVar 5)) (p2 (at2 fSub) (p2 mulR (pC (.int 2)) (pVar 3)) (pC (.int 1))))) (pC (.str "numbers do not ascend")) (pC (.str "number is taken")))) (t_law_6)
noncomputable def t_law_8 : Stx := sSeq (sFrz 8 (mAsg 8 (mOp2R addR (pVar 8) (mLst [mCall m__law_entered [.m, .v, .v] 1 [.n 1, .n 2, .p (pTup [p2 mulR (pC (.int 2)) (pVar 5), pC (.str "made"), pC (.int 0), pC (.int 1)])], mCall m__law_entered [.m, .v, .v] 1 [.n 1, .p (p2 (at2 fSub) (pC (.int 1)) (pVar 2)), .p (pTup [pC (.int 4), pC (.str "made"), pC (.int 0), pC (.int 1)])]])))) (t_law_7)
noncomputable def t_law_9 : Stx := sSeq (mAsg 8 (mLst [mCall m__law_entered [.m, .v, .v] 1 [.n 1, .n 2, .p (pTup [pC (.int 501), pC (.str "made"), pC (.int 0), pC (.int 0)])], mCall m__law_entered [.m, .v, .v] 1 [.n 1, .n 2, .p (pTup [pC (.int 3), pC (.str "made"), pC (.int 0), pC (.int 1)])]])) (t_law_8)
noncomputable def t_law_10 : Stx := sSeq (sAsg 7 (p2 (at2 eqF) (pVar 3) (pC (.int 200)))) (t_law_9)
noncomputable def t_law_11 : Stx := sSeq (sAsg 6 (pMeth "Desk" "evidence" m_Desk_evidence [.v] (pVar 1) [])) (t_law_10)
noncomputable def t_law_12 : Stx := sSeq (f_law_1) (t_law_11)
noncomputable def t_law_13 : Stx := sSeq (sAsg 5 (p2 addR (pC (.int 196)) (p2 (at2 fMod) (pCall m__law_cell [.v, .v] [pVar 0, pC (.int 2)]) (pC (.int 5))))) (t_law_12)
noncomputable def t_law_14 : Stx := sSeq (f_law_0) (t_law_13)
noncomputable def t_law_15 : Stx := sSeq (sAsg 3 (p2 addR (pC (.int 196)) (p2 (at2 fMod) (pCall m__law_cell [.v, .v] [pVar 0, pC (.int 1)]) (pC (.int 5))))) (t_law_14)
noncomputable def t_law_16 : Stx := sSeq (sAsg 2 (p2 (at2 fMod) (pCall m__law_cell [.v, .v] [pVar 0, pC (.int 0)]) (pC (.int 2)))) (t_law_15)
noncomputable def b_law : Stx := sSeq (sAsg 1 (pMake "Desk" m_Desk___init__ [.v, .v] [pC (.int 1), pLst [pTup [pC (.bool true), pC (.bool true)], pTup [pC (.bool true), pC (.bool true)]]])) (t_law_16)
noncomputable def m_law : Fn := fnD 11 [.v] b_law
end
section
variable [WD] {P : Program} {w : World} {K : PySem.W.Frag} {mg : Str → Option Value} {base : Heap}
theorem sc_Desk___init__ : FnScope ["self", "kinds", "parties", "party"] ["self", "kinds", "parties"] (defScope st_Desk___init__) := ⟨rfl, rfl, rfl, by decide +kernel, rfl, by decide +kernel, by decide +kernel⟩
theorem ok_Desk___init__ (T : Txt P w K mg base) {f : Addr} {fd : FuncData} (F : FunD K "__init__" "Desk.__init__" (defArgs st_Desk___init__) (defBody st_Desk___init__) (defScope st_Desk___init__) [] [] f fd) : FnOk P w K mg base CX0 1 f fd ["self", "kinds", "parties"] (spF K [.m, .v, .v] m_Desk___init__) := by
  have B : ∀ (cdv : Value) (A : Around) (outer : List Env) (s : Shared) (H : Hp) (E : XK), Room 0 (A.deeper (envOfC "Desk.__init__" (defScope st_Desk___init__) s.heap.objs.size f cdv)) → PSs (cxOf CX0 P w K mg base ["self", "kinds", "parties", "party"] "Desk.__init__" (defScope st_Desk___init__) f cdv A outer s H E) (defBody st_Desk___init__) (tS K E b_Desk___init__) := by
    intro cdv A outer s H E hr
    have hu := hu64 hr
    have hu5 := hu65 hr
    exact s_cons (s_fldS T.cl_Desk T.na_Desk_kinds (s_plN 0) (s_var 1)) (s_cons (s_fldS T.cl_Desk T.na_Desk_parties (s_plN 0) (s_callTy b_tuple call_tuple_of (by rfl) T.b_tuple PyProof.Rows.boot_tuple (s_acons (s_var 2) (s_anil)))) (s_cons (s_fldS T.cl_Desk T.na_Desk_past (s_plN 0) (s_lst (s_anil))) (s_cons (s_fldS T.cl_Desk T.na_Desk_done (s_plN 0) (s_lst (s_anil))) (s_last (s_fldS T.cl_Desk T.na_Desk_state (s_plN 0) (s_tup (s_acons (s_callTy b_tuple call_tuple_of (by rfl) T.b_tuple PyProof.Rows.boot_tuple (s_acons (s_comp (own := [("party", 3)]) rfl sc_Desk___init__.nd (pi_seq (s_fld T.cl_Desk T.na_Desk_parties (s_var 0))) (srcC_ok) (blkB_ok (by kernel_rfl)) (c_name) (by decide) (fun _ _ _ _ _ => pg_name (i := 3) sc_Desk___init__.nd rfl (by first | exact Or.inl rfl | exact Or.inr rfl)) (fun _ _ _ _ _ => s_ifs0) (fun _ _ _ _ _ => s_tup (s_anil))) (s_anil))) (s_acons (s_tup (s_anil)) (s_acons (s_int) (s_anil))))))))))
  have e : m_Desk___init__ = fnD 4 [.m, .v, .v] b_Desk___init__ := rfl
  rw [e]
  exact fn_body F sc_Desk___init__ rfl (by decide) B
theorem cal_Desk___init__ (T : Txt P w K mg base) : CalI CX0 P w K mg base 1 "Desk" ["self", "kinds", "parties"] [.v, .v] m_Desk___init__ :=
  calI_of T.g_Desk T.f_Desk___init__ (fun _ _ _ _ _ _ us hl => match us, hl with | [_, _, _], _ => rfl) fun f fd F => ok_Desk___init__ T F
theorem sc_Desk_evidence : FnScope ["self"] ["self"] (defScope st_Desk_evidence) := ⟨rfl, rfl, rfl, by decide +kernel, rfl, by decide +kernel, by decide +kernel⟩
theorem ok_Desk_evidence (T : Txt P w K mg base) {f : Addr} {fd : FuncData} (F : FunD K "evidence" "Desk.evidence" (defArgs st_Desk_evidence) (defBody st_Desk_evidence) (defScope st_Desk_evidence) [] [] f fd) : FnOk P w K mg base CX0 1 f fd ["self"] (spF K [.v] m_Desk_evidence) := by
  have B : ∀ (cdv : Value) (A : Around) (outer : List Env) (s : Shared) (H : Hp) (E : XK), Room 0 (A.deeper (envOfC "Desk.evidence" (defScope st_Desk_evidence) s.heap.objs.size f cdv)) → PSs (cxOf CX0 P w K mg base ["self"] "Desk.evidence" (defScope st_Desk_evidence) f cdv A outer s H E) (defBody st_Desk_evidence) (tS K E b_Desk_evidence) := by
    intro cdv A outer s H E hr
    have hu := hu64 hr
    have hu5 := hu65 hr
    exact s_last (s_ret (s_tup (s_acons (s_fld T.cl_Desk T.na_Desk_kinds (s_var 0)) (s_acons (s_fld T.cl_Desk T.na_Desk_parties (s_var 0)) (s_acons (s_ix ix_seq o_ix (s_fld T.cl_Desk T.na_Desk_state (s_var 0)) (s_int)) (s_acons (s_ix ix_seq o_ix (s_fld T.cl_Desk T.na_Desk_state (s_var 0)) (s_int)) (s_anil)))))))
  have e : m_Desk_evidence = fnD 1 [.v] b_Desk_evidence := rfl
  rw [e]
  exact fn_body F sc_Desk_evidence rfl (by decide) B
theorem cal_Desk_evidence (T : Txt P w K mg base) : CalM CX0 P w K mg base 1 "Desk" "evidence" ["self"] [.v] m_Desk_evidence :=
  calM_of T.cl_Desk T.f_Desk_evidence (fun _ _ _ _ _ _ us hl => match us, hl with | [_], _ => rfl) fun f fd F => ok_Desk_evidence T F
theorem sc__law_cell : FnScope ["_law_script", "_law_k"] ["_law_script", "_law_k"] (defScope st__law_cell) := ⟨rfl, rfl, rfl, by decide +kernel, rfl, by decide +kernel, by decide +kernel⟩
theorem ok__law_cell (T : Txt P w K mg base) {f : Addr} {fd : FuncData} (F : FunD K "_law_cell" "_law_cell" (defArgs st__law_cell) (defBody st__law_cell) (defScope st__law_cell) [] [] f fd) : FnOk P w K mg base CX0 1 f fd ["_law_script", "_law_k"] (spF K [.v, .v] m__law_cell) := by
  have B : ∀ (cdv : Value) (A : Around) (outer : List Env) (s : Shared) (H : Hp) (E : XK), Room 0 (A.deeper (envOfC "_law_cell" (defScope st__law_cell) s.heap.objs.size f cdv)) → PSs (cxOf CX0 P w K mg base ["_law_script", "_law_k"] "_law_cell" (defScope st__law_cell) f cdv A outer s H E) (defBody st__law_cell) (tS K E b__law_cell) := by
    intro cdv A outer s H E hr
    have hu := hu64 hr
    have hu5 := hu65 hr
    exact s_cons (s_ifS (s_tcmp op_lt o_lt (s_var 1) (s_callB b_len call_lenA (by rfl) T.b_len boot_len (s_acons (s_var 0) (s_anil))) rfl) (s_last (s_frz 0 (s_ret (s_ix ix_seq o_ix (s_var 0) (s_var 1))))) (s_nil)) (s_last (s_ret (s_int)))
  have e : m__law_cell = fnD 2 [.v, .v] b__law_cell := rfl
  rw [e]
  exact fn_body F sc__law_cell rfl (by decide) B
theorem cal__law_cell (T : Txt P w K mg base) : Cal CX0 P w K mg base 1 "_law_cell" ["_law_script", "_law_k"] [.v, .v] m__law_cell :=
  cal_of T.f__law_cell (fun _ _ _ _ _ _ us hl => match us, hl with | [_, _], _ => rfl) fun f fd F => ok__law_cell T F
theorem sc_Desk_step : FnScope ["self", "deed", "state"] ["self", "deed", "state"] (defScope st_Desk_step) := ⟨rfl, rfl, rfl, by decide +kernel, rfl, by decide +kernel, by decide +kernel⟩
theorem ok_Desk_step (T : Txt P w K mg base) {f : Addr} {fd : FuncData} (F : FunD K "step" "Desk.step" (defArgs st_Desk_step) (defBody st_Desk_step) (defScope st_Desk_step) [] [] f fd) : FnOk P w K mg base CX0 1 f fd ["self", "deed", "state"] (spF K [.m, .v, .v] m_Desk_step) := by
  have B : ∀ (cdv : Value) (A : Around) (outer : List Env) (s : Shared) (H : Hp) (E : XK), Room 0 (A.deeper (envOfC "Desk.step" (defScope st_Desk_step) s.heap.objs.size f cdv)) → PSs (cxOf CX0 P w K mg base ["self", "deed", "state"] "Desk.step" (defScope st_Desk_step) f cdv A outer s H E) (defBody st_Desk_step) (tS K E b_Desk_step) := by
    intro cdv A outer s H E hr
    have hu := hu64 hr
    have hu5 := hu65 hr
    exact s_cons (s_app (s_plF T.cl_Desk T.na_Desk_past (s_plN 0)) (s_fld T.cl_Desk T.na_Desk_state (s_var 0)) rfl (fun hl ha => ps_expr (pe_bm PySem.F.plainAttrs_list PySem.F.slot_list_append PySem.F.type_list_append mt_append hl ha))) (s_cons (s_app (s_plF T.cl_Desk T.na_Desk_done (s_plN 0)) (s_var 1) rfl (fun hl ha => ps_expr (pe_bm PySem.F.plainAttrs_list PySem.F.slot_list_append PySem.F.type_list_append mt_append hl ha))) (s_last (s_fldS T.cl_Desk T.na_Desk_state (s_plN 0) (s_var 2))))
  have e : m_Desk_step = fnD 3 [.m, .v, .v] b_Desk_step := rfl
  rw [e]
  exact fn_body F sc_Desk_step rfl (by decide) B
theorem cal_Desk_step (T : Txt P w K mg base) : CalM CX0 P w K mg base 1 "Desk" "step" ["self", "deed", "state"] [.m, .v, .v] m_Desk_step :=
  calM_of T.cl_Desk T.f_Desk_step (fun _ _ _ _ _ _ us hl => match us, hl with | [_, _, _], _ => rfl) fun f fd F => ok_Desk_step T F
theorem sc_is_number : FnScope ["thing", "least", "most"] ["thing", "least", "most"] (defScope st_is_number) := ⟨rfl, rfl, rfl, by decide +kernel, rfl, by decide +kernel, by decide +kernel⟩
theorem ok_is_number (T : Txt P w K mg base) {f : Addr} {fd : FuncData} (F : FunD K "is_number" "is_number" (defArgs st_is_number) (defBody st_is_number) (defScope st_is_number) [] [] f fd) : FnOk P w K mg base CX0 1 f fd ["thing", "least", "most"] (spF K [.i, .v, .v] m_is_number) := by
  have B : ∀ (cdv : Value) (A : Around) (outer : List Env) (s : Shared) (H : Hp) (E : XK), Room 0 (A.deeper (envOfC "is_number" (defScope st_is_number) s.heap.objs.size f cdv)) → PSs (cxOf CX0 P w K mg base ["thing", "least", "most"] "is_number" (defScope st_is_number) f cdv A outer s H E) (defBody st_is_number) (tS K E b_is_number) := by
    intro cdv A outer s H E hr
    have hu := hu64 hr
    have hu5 := hu65 hr
    exact s_last (s_ret (s_and (s_isi tyOk_int PyProof.Rows.boot_int (by rfl) T.b_isinstance (by rfl) T.b_int (s_var 0)) (s_and (s_not (s_isi tyOk_bool (by decide +kernel) (by rfl) T.b_isinstance (by rfl) T.b_bool (s_var 0))) (s_one (s_chI op_le op_le (s_var 1) (s_var 0) (s_var 2))))))
  have e : m_is_number = fnD 3 [.i, .v, .v] b_is_number := rfl
  rw [e]
  exact fn_body F sc_is_number rfl (by decide) B
theorem cal_is_number (T : Txt P w K mg base) : Cal CX0 P w K mg base 1 "is_number" ["thing", "least", "most"] [.i, .v, .v] m_is_number :=
  cal_of T.f_is_number (fun _ _ _ _ _ _ us hl => match us, hl with | [_, _, _], _ => rfl) fun f fd F => ok_is_number T F
theorem sc_is_flag : FnScope ["thing"] ["thing"] (defScope st_is_flag) := ⟨rfl, rfl, rfl, by decide +kernel, rfl, by decide +kernel, by decide +kernel⟩
theorem ok_is_flag (T : Txt P w K mg base) {f : Addr} {fd : FuncData} (F : FunD K "is_flag" "is_flag" (defArgs st_is_flag) (defBody st_is_flag) (defScope st_is_flag) [] [] f fd) : FnOk P w K mg base CX0 1 f fd ["thing"] (spF K [.i] m_is_flag) := by
  have B : ∀ (cdv : Value) (A : Around) (outer : List Env) (s : Shared) (H : Hp) (E : XK), Room 0 (A.deeper (envOfC "is_flag" (defScope st_is_flag) s.heap.objs.size f cdv)) → PSs (cxOf CX0 P w K mg base ["thing"] "is_flag" (defScope st_is_flag) f cdv A outer s H E) (defBody st_is_flag) (tS K E b_is_flag) := by
    intro cdv A outer s H E hr
    have hu := hu64 hr
    have hu5 := hu65 hr
    exact s_last (s_ret (s_isi tyOk_bool (by decide +kernel) (by rfl) T.b_isinstance (by rfl) T.b_bool (s_var 0)))
  have e : m_is_flag = fnD 1 [.i] b_is_flag := rfl
  rw [e]
  exact fn_body F sc_is_flag rfl (by decide) B
theorem cal_is_flag (T : Txt P w K mg base) : Cal CX0 P w K mg base 1 "is_flag" ["thing"] [.i] m_is_flag :=
  cal_of T.f_is_flag (fun _ _ _ _ _ _ us hl => match us, hl with | [_], _ => rfl) fun f fd F => ok_is_flag T F
theorem sc_is_entry : FnScope ["thing", "kinds", "parties", "owner", "deeds"] ["thing", "kinds", "parties", "owner"] (defScope st_is_entry) := ⟨rfl, rfl, rfl, by decide +kernel, rfl, by decide +kernel, by decide +kernel⟩
theorem ok_is_entry (T : Txt P w K mg base) {f : Addr} {fd : FuncData} (F : FunD K "is_entry" "is_entry" (defArgs st_is_entry) (defBody st_is_entry) (defScope st_is_entry) [] [] f fd) : FnOk P w K mg base CX0 2 f fd ["thing", "kinds", "parties", "owner"] (spF K [.i, .v, .v, .v] m_is_entry) := by
  have c_is_number : Cal CX0 P w K mg base 1 "is_number" ["thing", "least", "most"] [.i, .v, .v] m_is_number := cal_is_number T
  have c_is_flag : Cal CX0 P w K mg base 1 "is_flag" ["thing"] [.i] m_is_flag := cal_is_flag T
  have B : ∀ (cdv : Value) (A : Around) (outer : List Env) (s : Shared) (H : Hp) (E : XK), Room 1 (A.deeper (envOfC "is_entry" (defScope st_is_entry) s.heap.objs.size f cdv)) → PSs (cxOf CX0 P w K mg base ["thing", "kinds", "parties", "owner", "deeds"] "is_entry" (defScope st_is_entry) f cdv A outer s H E) (defBody st_is_entry) (tS K E b_is_entry) := by
    intro cdv A outer s H E hr
    have hu := hu64 hr
    have hu5 := hu65 hr
    exact s_cons (s_ifS ((s_tor (s_tnot (s_tru (s_isi tyOk_tuple PyProof.Rows.boot_tuple (by rfl) T.b_isinstance (by rfl) T.b_tuple (s_var 0)))) (s_tor1 (s_tcmp (op_nin3 hu5) o_nin (s_callB b_len call_lenA (by rfl) T.b_len boot_len (s_acons (s_var 0) (s_anil))) (s_tup (s_acons (s_int) (s_acons (s_int) (s_anil)))) rfl))).pt) (s_last (s_ret (s_bl))) (s_nil)) (s_cons (s_asg 4 sc_is_entry.nd (s_if (s_tcmp (op_eq2 hu) o_eq (s_callB b_len call_lenA (by rfl) T.b_len boot_len (s_acons (s_var 0) (s_anil))) (s_int) rfl) (s_globT T.t_PLAIN_DEEDS T.g_PLAIN_DEEDS) (s_globT T.t_COPY_DEEDS T.g_COPY_DEEDS))) (s_cons (s_ifS ((s_tor (s_tnot (s_tru (s_callC c_is_number hr passE (s_acons (s_ix ix_seq o_ix (s_var 0) (s_int)) (s_acons (s_int) (s_acons (s_globI T.g_NUMBER_MOST) (s_anil))))))) (s_tor (s_tnot (s_tru (s_isi tyOk_str (by decide +kernel) (by rfl) T.b_isinstance (by rfl) T.b_str (s_ix ix_seq o_ix (s_var 0) (s_int))))) (s_tor1 (s_tcmp (op_nin3 hu5) o_nin (s_ix ix_seq o_ix (s_var 0) (s_int)) (s_var 4) rfl)))).pt) (s_last (s_ret (s_bl))) (s_nil)) (s_cons (s_ifS ((s_tor (s_tnot (s_tru (s_callC c_is_number hr passE (s_acons (s_ix ix_seq o_ix (s_var 0) (s_int)) (s_acons (s_int) (s_acons (s_op op_sub o_sub (s_var 1) (s_int)) (s_anil))))))) (s_tor1 (s_tnot (s_tru (s_callC c_is_number hr passE (s_acons (s_ix ix_seq o_ix (s_var 0) (s_int)) (s_acons (s_int) (s_acons (s_globI T.g_AMOUNT_MOST) (s_anil))))))))).pt) (s_last (s_ret (s_bl))) (s_nil)) (s_cons (s_ifS (s_tcmp (op_eq2 hu) o_eq (s_callB b_len call_lenA (by rfl) T.b_len boot_len (s_acons (s_var 0) (s_anil))) (s_int) rfl) (s_last (s_ret (s_bl))) (s_nil)) (s_last (s_ret (s_and (s_callC c_is_number hr passE (s_acons (s_ix ix_seq o_ix (s_var 0) (s_int)) (s_acons (s_int) (s_acons (s_op op_sub o_sub (s_var 2) (s_int)) (s_anil))))) (s_and (s_cmp (op_ne2 hu) o_ne (s_ix ix_seq o_ix (s_var 0) (s_int)) (s_var 3) rfl) (s_one (s_callC c_is_flag hr passE (s_acons (s_ix ix_seq o_ix (s_var 0) (s_int)) (s_anil))))))))))))
  have e : m_is_entry = fnD 5 [.i, .v, .v, .v] b_is_entry := rfl
  rw [e]
  exact fn_body F sc_is_entry rfl (by decide) B
theorem cal_is_entry (T : Txt P w K mg base) : Cal CX0 P w K mg base 2 "is_entry" ["thing", "kinds", "parties", "owner"] [.i, .v, .v, .v] m_is_entry :=
  cal_of T.f_is_entry (fun _ _ _ _ _ _ us hl => match us, hl with | [_, _, _, _], _ => rfl) fun f fd F => ok_is_entry T F
theorem sc_Desk_with_file : FnScope ["self", "party", "file", "owner", "other"] ["self", "party", "file"] (defScope st_Desk_with_file) := ⟨rfl, rfl, rfl, by decide +kernel, rfl, by decide +kernel, by decide +kernel⟩
theorem ok_Desk_with_file (T : Txt P w K mg base) {f : Addr} {fd : FuncData} (F : FunD K "with_file" "Desk.with_file" (defArgs st_Desk_with_file) (defBody st_Desk_with_file) (defScope st_Desk_with_file) [] [] f fd) : FnOk P w K mg base CX0 1 f fd ["self", "party", "file"] (spF K [.v, .v, .v] m_Desk_with_file) := by
  have B : ∀ (cdv : Value) (A : Around) (outer : List Env) (s : Shared) (H : Hp) (E : XK), Room 0 (A.deeper (envOfC "Desk.with_file" (defScope st_Desk_with_file) s.heap.objs.size f cdv)) → PSs (cxOf CX0 P w K mg base ["self", "party", "file", "owner", "other"] "Desk.with_file" (defScope st_Desk_with_file) f cdv A outer s H E) (defBody st_Desk_with_file) (tS K E b_Desk_with_file) := by
    intro cdv A outer s H E hr
    have hu := hu64 hr
    have hu5 := hu65 hr
    exact s_last (s_ret (s_callTy b_tuple call_tuple_of (by rfl) T.b_tuple PyProof.Rows.boot_tuple (s_acons (s_comp (own := [("owner", 3), ("other", 4)]) rfl sc_Desk_with_file.nd (pi_enumA (by rfl) T.b_enumerate (s_acons (s_ix ix_seq o_ix (s_fld T.cl_Desk T.na_Desk_state (s_var 0)) (s_int)) (s_anil))) (srcEc_ok) (blkB_ok (by kernel_rfl)) (c_tup (cs_cons (c_name) (cs_cons (c_name) (cs_nil)))) (by decide) (fun _ _ _ _ _ => pg_tup rfl (pgs_cons (pg_name (i := 3) sc_Desk_with_file.nd rfl (by first | exact Or.inl rfl | exact Or.inr rfl)) (pgs_cons (pg_name (i := 4) sc_Desk_with_file.nd rfl (by first | exact Or.inl rfl | exact Or.inr rfl)) (pgs_nil)))) (fun _ _ _ _ _ => s_ifs0) (fun _ _ _ _ _ => s_if (s_tcmp (op_eq2 hu) o_eq (s_var 3) (s_var 1) rfl) (s_var 2) (s_var 4))) (s_anil))))
  have e : m_Desk_with_file = fnD 5 [.v, .v, .v] b_Desk_with_file := rfl
  rw [e]
  exact fn_body F sc_Desk_with_file rfl (by decide) B
theorem cal_Desk_with_file (T : Txt P w K mg base) : CalM CX0 P w K mg base 1 "Desk" "with_file" ["self", "party", "file"] [.v, .v, .v] m_Desk_with_file :=
  calM_of T.cl_Desk T.f_Desk_with_file (fun _ _ _ _ _ _ us hl => match us, hl with | [_, _, _], _ => rfl) fun f fd F => ok_Desk_with_file T F
theorem sc_Desk_enter : FnScope ["self", "party", "entry", "files", "finds", "limit", "find"] ["self", "party", "entry"] (defScope st_Desk_enter) := ⟨rfl, rfl, rfl, by decide +kernel, rfl, by decide +kernel, by decide +kernel⟩
theorem ok_Desk_enter (T : Txt P w K mg base) {f : Addr} {fd : FuncData} (F : FunD K "enter" "Desk.enter" (defArgs st_Desk_enter) (defBody st_Desk_enter) (defScope st_Desk_enter) [] [] f fd) (hc : fd.code = .ref (He.cT K ("Desk", some "enter")).1) : FnOk P w K mg base (L2.CX P w) 3 f fd ["self", "party", "entry"] (spF K [.m, .v, .v] m_Desk_enter) := by
  have c_is_entry : Cal CX0 P w K mg base 2 "is_entry" ["thing", "kinds", "parties", "owner"] [.i, .v, .v, .v] m_is_entry := cal_is_entry T
  have c_Desk_step : CalM CX0 P w K mg base 1 "Desk" "step" ["self", "deed", "state"] [.m, .v, .v] m_Desk_step := cal_Desk_step T
  have c_Desk_with_file : CalM CX0 P w K mg base 1 "Desk" "with_file" ["self", "party", "file"] [.v, .v, .v] m_Desk_with_file := cal_Desk_with_file T
  have B : ∀ (A : Around) (outer : List Env) (s : Shared) (H : Hp) (E : XK), Room 2 (A.deeper (envOfC "Desk.enter" (defScope st_Desk_enter) s.heap.objs.size f fd.code)) → PSs (cxOf (L2.CX P w) P w K mg base ["self", "party", "entry", "files", "finds", "limit", "find"] "Desk.enter" (defScope st_Desk_enter) f fd.code A outer s H E) (defBody st_Desk_enter) (tS K E b_Desk_enter) := by
    intro A outer s H E hr
    have hu := hu64 hr
    have hu5 := hu65 hr
    exact s_cons (s_asgT (s_fld T.cl_Desk T.na_Desk_state (s_var 0)) (pg_tup rfl (pgs_cons (pg_name (i := 3) sc_Desk_enter.nd rfl (by first | exact Or.inl rfl | exact Or.inr rfl)) (pgs_cons (pg_name (i := 4) sc_Desk_enter.nd rfl (by first | exact Or.inl rfl | exact Or.inr rfl)) (pgs_cons (pg_name (i := 5) sc_Desk_enter.nd rfl (by first | exact Or.inl rfl | exact Or.inr rfl)) (pgs_nil))))) (g_tup (gs_cons (g_name) (gs_cons (g_name) (gs_cons (g_name) (gs_nil)))))) (s_cons (s_ifS (s_tnot (s_tru (s_callC c_is_entry hr passE (s_acons (s_var 2) (s_acons (s_fld T.cl_Desk T.na_Desk_kinds (s_var 0)) (s_acons (s_callB b_len call_lenA (by rfl) T.b_len boot_len (s_acons (s_fld T.cl_Desk T.na_Desk_parties (s_var 0)) (s_anil))) (s_acons (s_var 1) (s_anil)))))))) (s_last (s_raise T.rf_Refused hr (takes_of rfl rfl rfl rfl))) (s_nil)) (s_cons (s_ifS ((s_tand (s_tru (s_ix ix_seq o_ix (s_var 3) (s_var 1))) (s_tand1 (s_tcmp op_le o_le (s_ix ix_seq o_ix (s_var 2) (s_int)) (s_ix ix_seq o_ix (s_ix ix_seq o_ix (s_ix ix_seq o_ix (s_var 3) (s_var 1)) (s_neg (s_int))) (s_int)) rfl))).pt) (s_last (s_raise T.rf_Refused hr (takes_of rfl rfl rfl rfl))) (s_nil)) (s_cons (s_ifS (s_tru (s_any T.tp_Desk_enter hr (by rfl) T.b_any T.tb_Desk_enter hc ⟨rfl, rfl, by decide, rfl, rfl, freeOk_el (by rfl)⟩ (capOk_el (by rfl)) (s_var 4) (el_eq (el_ix (el_x) (el_int)) (el_ix (el_cap) (el_int))))) (s_last (s_raise T.rf_Refused hr (takes_of rfl rfl rfl rfl))) (s_nil)) (s_cons (s_ifS (s_tcmp op_ge o_ge (s_callB b_len call_lenA (by rfl) T.b_len boot_len (s_acons (s_ix ix_seq o_ix (s_var 3) (s_var 1)) (s_anil))) (s_globI T.g_ROWS_MOST) rfl) (s_last (s_raise T.rf_Refused hr (takes_of rfl rfl rfl rfl))) (s_nil)) (s_last (s_mdrop (s_mmeth 0 c_Desk_step hr passE (x_p (s_tup (s_acons (s_str) (s_acons (s_var 1) (s_acons (s_var 2) (s_anil))))) (x_p (s_tup (s_acons (s_meth c_Desk_with_file hr passE (s_var 0) (s_acons (s_var 1) (s_acons (s_op op_add4 o_add (s_ix ix_seq o_ix (s_var 3) (s_var 1)) (s_tup (s_acons (s_var 2) (s_anil)))) (s_anil)))) (s_acons (s_var 4) (s_acons (s_var 5) (s_anil))))) (x_nil))))))))))
  have e : m_Desk_enter = fnD 7 [.m, .v, .v] b_Desk_enter := rfl
  rw [e]
  exact fn_bodyC F sc_Desk_enter rfl (by decide) B
theorem cal_Desk_enter (T : Txt P w K mg base) : CalM (L2.CX P w) P w K mg base 3 "Desk" "enter" ["self", "party", "entry"] [.m, .v, .v] m_Desk_enter :=
  calM_ofC T.cl_Desk T.f_Desk_enter (fun _ _ _ _ _ _ us hl => match us, hl with | [_, _, _], _ => rfl) fun f fd F hc => ok_Desk_enter T F hc
theorem sc__law_entered : FnScope ["_law_desk", "_law_party", "_law_entry", "e"] ["_law_desk", "_law_party", "_law_entry"] (defScope st__law_entered) := ⟨rfl, rfl, rfl, by decide +kernel, rfl, by decide +kernel, by decide +kernel⟩
theorem ok__law_entered (T : Txt P w K mg base) {f : Addr} {fd : FuncData} (F : FunD K "_law_entered" "_law_entered" (defArgs st__law_entered) (defBody st__law_entered) (defScope st__law_entered) [] [] f fd) : FnOk P w K mg base CX0 4 f fd ["_law_desk", "_law_party", "_law_entry"] (spF K [.m, .v, .v] m__law_entered) := by
  have c_Desk_enter : CalM (L2.CX P w) P w K mg base 3 "Desk" "enter" ["self", "party", "entry"] [.m, .v, .v] m_Desk_enter := cal_Desk_enter T
  have B : ∀ (cdv : Value) (A : Around) (outer : List Env) (s : Shared) (H : Hp) (E : XK), Room 3 (A.deeper (envOfC "_law_entered" (defScope st__law_entered) s.heap.objs.size f cdv)) → PSs (cxOf CX0 P w K mg base ["_law_desk", "_law_party", "_law_entry", "e"] "_law_entered" (defScope st__law_entered) f cdv A outer s H E) (defBody st__law_entered) (tS K E b__law_entered) := by
    intro cdv A outer s H E hr
    have hu := hu64 hr
    have hu5 := hu65 hr
    exact s_last (s_tryM (i := 3) 0 T.rf_Refused rfl rfl sc__law_entered.nd c_Desk_enter hr (fun _ _ _ => x_n 1 (x_n 2 (x_nil))))
  have e : m__law_entered = fnD 4 [.m, .v, .v] b__law_entered := rfl
  rw [e]
  exact fn_body F sc__law_entered rfl (by decide) B
theorem cal__law_entered (T : Txt P w K mg base) : Cal CX0 P w K mg base 4 "_law_entered" ["_law_desk", "_law_party", "_law_entry"] [.m, .v, .v] m__law_entered :=
  cal_of T.f__law_entered (fun _ _ _ _ _ _ us hl => match us, hl with | [_, _, _], _ => rfl) fun f fd F => ok__law_entered T F
theorem sc_is_find : FnScope ["thing", "kinds", "parties"] ["thing", "kinds", "parties"] (defScope st_is_find) := ⟨rfl, rfl, rfl, by decide +kernel, rfl, by decide +kernel, by decide +kernel⟩
theorem ok_is_find (T : Txt P w K mg base) {f : Addr} {fd : FuncData} (F : FunD K "is_find" "is_find" (defArgs st_is_find) (defBody st_is_find) (defScope st_is_find) [] [] f fd) : FnOk P w K mg base CX0 2 f fd ["thing", "kinds", "parties"] (spF K [.i, .v, .v] m_is_find) := by
  have c_is_number : Cal CX0 P w K mg base 1 "is_number" ["thing", "least", "most"] [.i, .v, .v] m_is_number := cal_is_number T
  have B : ∀ (cdv : Value) (A : Around) (outer : List Env) (s : Shared) (H : Hp) (E : XK), Room 1 (A.deeper (envOfC "is_find" (defScope st_is_find) s.heap.objs.size f cdv)) → PSs (cxOf CX0 P w K mg base ["thing", "kinds", "parties"] "is_find" (defScope st_is_find) f cdv A outer s H E) (defBody st_is_find) (tS K E b_is_find) := by
    intro cdv A outer s H E hr
    have hu := hu64 hr
    have hu5 := hu65 hr
    exact s_cons (s_ifS ((s_tor (s_tnot (s_tru (s_isi tyOk_tuple PyProof.Rows.boot_tuple (by rfl) T.b_isinstance (by rfl) T.b_tuple (s_var 0)))) (s_tor (s_tcmp (op_ne2 hu) o_ne (s_callB b_len call_lenA (by rfl) T.b_len boot_len (s_acons (s_var 0) (s_anil))) (s_int) rfl) (s_tor1 (s_tnot (s_tru (s_callC c_is_number hr passE (s_acons (s_ix ix_seq o_ix (s_var 0) (s_int)) (s_acons (s_int) (s_acons (s_globI T.g_NUMBER_MOST) (s_anil)))))))))).pt) (s_last (s_ret (s_bl))) (s_nil)) (s_cons (s_ifS ((s_tor (s_tnot (s_tru (s_callC c_is_number hr passE (s_acons (s_ix ix_seq o_ix (s_var 0) (s_int)) (s_acons (s_int) (s_acons (s_op op_sub o_sub (s_var 2) (s_int)) (s_anil))))))) (s_tor1 (s_tnot (s_tru (s_callC c_is_number hr passE (s_acons (s_ix ix_seq o_ix (s_var 0) (s_int)) (s_acons (s_int) (s_acons (s_op op_sub o_sub (s_var 1) (s_int)) (s_anil))))))))).pt) (s_last (s_ret (s_bl))) (s_nil)) (s_last (s_ret (s_callC c_is_number hr passE (s_acons (s_ix ix_seq o_ix (s_var 0) (s_int)) (s_acons (s_int) (s_acons (s_globI T.g_AMOUNT_MOST) (s_anil))))))))
  have e : m_is_find = fnD 3 [.i, .v, .v] b_is_find := rfl
  rw [e]
  exact fn_body F sc_is_find rfl (by decide) B
theorem cal_is_find (T : Txt P w K mg base) : Cal CX0 P w K mg base 2 "is_find" ["thing", "kinds", "parties"] [.i, .v, .v] m_is_find :=
  cal_of T.f_is_find (fun _ _ _ _ _ _ us hl => match us, hl with | [_, _, _], _ => rfl) fun f fd F => ok_is_find T F
theorem sc_entry_numbers : FnScope ["files", "file", "entry"] ["files"] (defScope st_entry_numbers) := ⟨rfl, rfl, rfl, by decide +kernel, rfl, by decide +kernel, by decide +kernel⟩
theorem ok_entry_numbers (T : Txt P w K mg base) {f : Addr} {fd : FuncData} (F : FunD K "entry_numbers" "entry_numbers" (defArgs st_entry_numbers) (defBody st_entry_numbers) (defScope st_entry_numbers) [] [] f fd) : FnOk P w K mg base CX0 1 f fd ["files"] (spF K [.i] m_entry_numbers) := by
  have B : ∀ (cdv : Value) (A : Around) (outer : List Env) (s : Shared) (H : Hp) (E : XK), Room 0 (A.deeper (envOfC "entry_numbers" (defScope st_entry_numbers) s.heap.objs.size f cdv)) → PSs (cxOf CX0 P w K mg base ["files", "file", "entry"] "entry_numbers" (defScope st_entry_numbers) f cdv A outer s H E) (defBody st_entry_numbers) (tS K E b_entry_numbers) := by
    intro cdv A outer s H E hr
    have hu := hu64 hr
    have hu5 := hu65 hr
    exact s_last (s_ret (s_dc2 (own := [("file", 1), ("entry", 2)]) (vs1 := [2]) rfl sc_entry_numbers.nd (pi_seq (s_var 0)) (srcC_ok) (blkB_ok (by kernel_rfl)) (c_name) (by decide) (srcS_d) (c_name) (by decide) (by decide) (fun _ _ _ _ _ => pg_name (i := 1) sc_entry_numbers.nd rfl (by first | exact Or.inl rfl | exact Or.inr rfl)) (fun _ _ _ _ _ => s_ifs0) (fun _ _ _ _ _ => pi_seq (s_var 1)) (fun _ _ _ _ _ => pg_name (i := 2) sc_entry_numbers.nd rfl (by first | exact Or.inl rfl | exact Or.inr rfl)) (fun _ _ _ _ _ => s_ifs0) (fun _ _ _ _ _ => s_ix ix_seq o_ix (s_var 2) (s_int))))
  have e : m_entry_numbers = fnD 3 [.i] b_entry_numbers := rfl
  rw [e]
  exact fn_body F sc_entry_numbers rfl (by decide) B
theorem cal_entry_numbers (T : Txt P w K mg base) : Cal CX0 P w K mg base 1 "entry_numbers" ["files"] [.i] m_entry_numbers :=
  cal_of T.f_entry_numbers (fun _ _ _ _ _ _ us hl => match us, hl with | [_], _ => rfl) fun f fd F => ok_entry_numbers T F
theorem sc_Desk_found : FnScope ["self", "find", "files", "finds", "limit"] ["self", "find"] (defScope st_Desk_found) := ⟨rfl, rfl, rfl, by decide +kernel, rfl, by decide +kernel, by decide +kernel⟩
theorem ok_Desk_found (T : Txt P w K mg base) {f : Addr} {fd : FuncData} (F : FunD K "found" "Desk.found" (defArgs st_Desk_found) (defBody st_Desk_found) (defScope st_Desk_found) [] [] f fd) : FnOk P w K mg base (L2.CX P w) 3 f fd ["self", "find"] (spF K [.m, .v] m_Desk_found) := by
  have c_is_find : Cal CX0 P w K mg base 2 "is_find" ["thing", "kinds", "parties"] [.i, .v, .v] m_is_find := cal_is_find T
  have c_entry_numbers : Cal CX0 P w K mg base 1 "entry_numbers" ["files"] [.i] m_entry_numbers := cal_entry_numbers T
  have c_Desk_step : CalM CX0 P w K mg base 1 "Desk" "step" ["self", "deed", "state"] [.m, .v, .v] m_Desk_step := cal_Desk_step T
  have B : ∀ (cdv : Value) (A : Around) (outer : List Env) (s : Shared) (H : Hp) (E : XK), Room 2 (A.deeper (envOfC "Desk.found" (defScope st_Desk_found) s.heap.objs.size f cdv)) → PSs (cxOf (L2.CX P w) P w K mg base ["self", "find", "files", "finds", "limit"] "Desk.found" (defScope st_Desk_found) f cdv A outer s H E) (defBody st_Desk_found) (tS K E b_Desk_found) := by
    intro cdv A outer s H E hr
    have hu := hu64 hr
    have hu5 := hu65 hr
    exact s_cons (s_asgT (s_fld T.cl_Desk T.na_Desk_state (s_var 0)) (pg_tup rfl (pgs_cons (pg_name (i := 2) sc_Desk_found.nd rfl (by first | exact Or.inl rfl | exact Or.inr rfl)) (pgs_cons (pg_name (i := 3) sc_Desk_found.nd rfl (by first | exact Or.inl rfl | exact Or.inr rfl)) (pgs_cons (pg_name (i := 4) sc_Desk_found.nd rfl (by first | exact Or.inl rfl | exact Or.inr rfl)) (pgs_nil))))) (g_tup (gs_cons (g_name) (gs_cons (g_name) (gs_cons (g_name) (gs_nil)))))) (s_cons (s_ifS (s_tnot (s_tru (s_callC c_is_find hr passE (s_acons (s_var 1) (s_acons (s_fld T.cl_Desk T.na_Desk_kinds (s_var 0)) (s_acons (s_callB b_len call_lenA (by rfl) T.b_len boot_len (s_acons (s_fld T.cl_Desk T.na_Desk_parties (s_var 0)) (s_anil))) (s_anil))))))) (s_last (s_raise T.rf_Refused hr (takes_of rfl rfl rfl rfl))) (s_nil)) (s_cons (s_ifS ((s_tand (s_tru (s_var 3)) (s_tand1 (s_tcmp op_le o_le (s_ix ix_seq o_ix (s_var 1) (s_int)) (s_ix ix_seq o_ix (s_ix ix_seq o_ix (s_var 3) (s_neg (s_int))) (s_int)) rfl))).pt) (s_last (s_raise T.rf_Refused hr (takes_of rfl rfl rfl rfl))) (s_nil)) (s_cons (s_ifS (s_tcmp (op_inK hu5) o_inK (s_ix ix_seq o_ix (s_var 1) (s_int)) (s_callC c_entry_numbers hr passE (s_acons (s_var 2) (s_anil))) rfl) (s_last (s_raise T.rf_Refused hr (takes_of rfl rfl rfl rfl))) (s_nil)) (s_cons (s_ifS (s_tcmp op_ge o_ge (s_callB b_len call_lenA (by rfl) T.b_len boot_len (s_acons (s_var 3) (s_anil))) (s_globI T.g_ROWS_MOST) rfl) (s_last (s_raise T.rf_Refused hr (takes_of rfl rfl rfl rfl))) (s_nil)) (s_last (s_mdrop (s_mmeth 0 c_Desk_step hr passE (x_p (s_tup (s_acons (s_str) (s_acons (s_var 1) (s_anil)))) (x_p (s_tup (s_acons (s_var 2) (s_acons (s_op op_add4 o_add (s_var 3) (s_tup (s_acons (s_var 1) (s_anil)))) (s_acons (s_var 4) (s_anil))))) (x_nil))))))))))
  have e : m_Desk_found = fnD 5 [.m, .v] b_Desk_found := rfl
  rw [e]
  exact fn_body F sc_Desk_found rfl (by decide) B
theorem cal_Desk_found (T : Txt P w K mg base) : CalM (L2.CX P w) P w K mg base 3 "Desk" "found" ["self", "find"] [.m, .v] m_Desk_found :=
  calM_of T.cl_Desk T.f_Desk_found (fun _ _ _ _ _ _ us hl => match us, hl with | [_, _], _ => rfl) fun f fd F => ok_Desk_found T F
theorem sc__law_found : FnScope ["_law_desk", "_law_find", "e"] ["_law_desk", "_law_find"] (defScope st__law_found) := ⟨rfl, rfl, rfl, by decide +kernel, rfl, by decide +kernel, by decide +kernel⟩
theorem ok__law_found (T : Txt P w K mg base) {f : Addr} {fd : FuncData} (F : FunD K "_law_found" "_law_found" (defArgs st__law_found) (defBody st__law_found) (defScope st__law_found) [] [] f fd) : FnOk P w K mg base CX0 4 f fd ["_law_desk", "_law_find"] (spF K [.m, .v] m__law_found) := by
  have c_Desk_found : CalM (L2.CX P w) P w K mg base 3 "Desk" "found" ["self", "find"] [.m, .v] m_Desk_found := cal_Desk_found T
  have B : ∀ (cdv : Value) (A : Around) (outer : List Env) (s : Shared) (H : Hp) (E : XK), Room 3 (A.deeper (envOfC "_law_found" (defScope st__law_found) s.heap.objs.size f cdv)) → PSs (cxOf CX0 P w K mg base ["_law_desk", "_law_find", "e"] "_law_found" (defScope st__law_found) f cdv A outer s H E) (defBody st__law_found) (tS K E b__law_found) := by
    intro cdv A outer s H E hr
    have hu := hu64 hr
    have hu5 := hu65 hr
    exact s_last (s_tryM (i := 2) 0 T.rf_Refused rfl rfl sc__law_found.nd c_Desk_found hr (fun _ _ _ => x_n 1 (x_nil)))
  have e : m__law_found = fnD 3 [.m, .v] b__law_found := rfl
  rw [e]
  exact fn_body F sc__law_found rfl (by decide) B
theorem cal__law_found (T : Txt P w K mg base) : Cal CX0 P w K mg base 4 "_law_found" ["_law_desk", "_law_find"] [.m, .v] m__law_found :=
  cal_of T.f__law_found (fun _ _ _ _ _ _ us hl => match us, hl with | [_, _], _ => rfl) fun f fd F => ok__law_found T F
theorem sc_law : FnScope ["_law_script", "_law_desk", "_law_owner", "_law_first", "_law_k", "_law_last", "_law_before", "_law_full", "_law_told", "_law_late", "_law_files"] ["_law_script"] (defScope st_law) := ⟨rfl, rfl, rfl, by decide +kernel, rfl, by decide +kernel, by decide +kernel⟩
theorem ok_law (T : Txt P w K mg base) {f : Addr} {fd : FuncData} (F : FunD K "law" "law" (defArgs st_law) (defBody st_law) (defScope st_law) [] [] f fd) : FnOk P w K mg base CX0 5 f fd ["_law_script"] (spF K [.v] m_law) := by
  have c_Desk___init__ : CalI CX0 P w K mg base 1 "Desk" ["self", "kinds", "parties"] [.v, .v] m_Desk___init__ := cal_Desk___init__ T
  have c__law_cell : Cal CX0 P w K mg base 1 "_law_cell" ["_law_script", "_law_k"] [.v, .v] m__law_cell := cal__law_cell T
  have c__law_entered : Cal CX0 P w K mg base 4 "_law_entered" ["_law_desk", "_law_party", "_law_entry"] [.m, .v, .v] m__law_entered := cal__law_entered T
  have c__law_found : Cal CX0 P w K mg base 4 "_law_found" ["_law_desk", "_law_find"] [.m, .v] m__law_found := cal__law_found T
  have c_Desk_evidence : CalM CX0 P w K mg base 1 "Desk" "evidence" ["self"] [.v] m_Desk_evidence := cal_Desk_evidence T
  have B : ∀ (cdv : Value) (A : Around) (outer : List Env) (s : Shared) (H : Hp) (E : XK), Room 4 (A.deeper (envOfC "law" (defScope st_law) s.heap.objs.size f cdv)) → PSs (cxOf CX0 P w K mg base ["_law_script", "_law_desk", "_law_owner", "_law_first", "_law_k", "_law_last", "_law_before", "_law_full", "_law_told", "_law_late", "_law_files"] "law" (defScope st_law) f cdv A outer s H E) (defBody st_law) (tS K E b_law) := by
    intro cdv A outer s H E hr
    have hu := hu64 hr
    have hu5 := hu65 hr
    exact s_cons (s_asg 1 sc_law.nd (s_make c_Desk___init__ hr passE (s_acons (s_int) (s_acons (s_lst (s_acons (s_tup (s_acons (s_bl) (s_acons (s_bl) (s_anil)))) (s_acons (s_tup (s_acons (s_bl) (s_acons (s_bl) (s_anil)))) (s_anil)))) (s_anil))))) (s_cons (s_asg 2 sc_law.nd (s_op op_mod o_mod (s_callC c__law_cell hr passE (s_acons (s_var 0) (s_acons (s_int) (s_anil)))) (s_int))) (s_cons (s_asg 3 sc_law.nd (s_op op_add4 o_add (s_int) (s_op op_mod o_mod (s_callC c__law_cell hr passE (s_acons (s_var 0) (s_acons (s_int) (s_anil)))) (s_int)))) (s_cons (s_end [true, true, true, true, false, false, false, false, false, false, false] [false, false, false, false, false, false, false, false, false, false, false] (s_pre [true, true, true, true, false, false, false, false, false, false, false] (s_for (passes_of rfl) rfl (pi_range1 (by rfl) T.b_range (s_acons (s_var 3) (s_anil))) (srcR1_ok) (pg_name (i := 4) sc_law.nd rfl (by first | exact Or.inl rfl | exact Or.inr rfl)) (g_name) (s_ends [true, true, true, true, false, false, false, false, false, false, false] [false, false, false, false, false, false, false, false, false, false, false] (s_last (s_mif (m_tcmp op_isn2 o_isn2 (s_mcall 1 c__law_entered hr passE (x_n 1 (x_n 2 (x_p (s_tup (s_acons (s_op op_add4 o_add (s_op op_mul2 o_mul2 (s_int) (s_var 4)) (s_int)) (s_acons (s_str) (s_acons (s_int) (s_acons (s_int) (s_anil)))))) (x_nil))))) (s_non) rfl) (s_last (s_ret (s_bl))) (s_nil))))))) (s_cons (s_asg 5 sc_law.nd (s_op op_add4 o_add (s_int) (s_op op_mod o_mod (s_callC c__law_cell hr passE (s_acons (s_var 0) (s_acons (s_int) (s_anil)))) (s_int)))) (s_cons (s_end [false, true, true, true, false, true, false, false, false, false, false] [false, false, false, false, false, false, false, false, false, false, false] (s_pre [false, true, true, true, false, true, false, false, false, false, false] (s_for (passes_of rfl) rfl (pi_range1 (by rfl) T.b_range (s_acons (s_var 5) (s_anil))) (srcR1_ok) (pg_name (i := 4) sc_law.nd rfl (by first | exact Or.inl rfl | exact Or.inr rfl)) (g_name) (s_ends [false, true, true, true, false, true, false, false, false, false, false] [false, false, false, false, false, false, false, false, false, false, false] (s_last (s_mif (m_tcmp op_isn2 o_isn2 (s_mcall 1 c__law_found hr passE (x_n 1 (x_p (s_tup (s_acons (s_op op_add4 o_add (s_op op_mul2 o_mul2 (s_int) (s_var 4)) (s_int)) (s_acons (s_int) (s_acons (s_int) (s_acons (s_int) (s_anil)))))) (x_nil)))) (s_non) rfl) (s_last (s_ret (s_bl))) (s_nil))))))) (s_cons (s_asg 6 sc_law.nd (s_meth0 c_Desk_evidence hr passE (s_var 1))) (s_cons (s_asg 7 sc_law.nd (s_cmp (op_eq2 hu) o_eq (s_var 3) (s_int) rfl)) (s_cons (s_masg 8 sc_law.nd (m_lst (ma_cons (s_mcall 1 c__law_entered hr passE (x_n 1 (x_n 2 (x_p (s_tup (s_acons (s_int) (s_acons (s_str) (s_acons (s_int) (s_acons (s_int) (s_anil)))))) (x_nil))))) (ma_cons (s_mcall 1 c__law_entered hr passE (x_n 1 (x_n 2 (x_p (s_tup (s_acons (s_int) (s_acons (s_str) (s_acons (s_int) (s_acons (s_int) (s_anil)))))) (x_nil))))) (ma_nil))))) (s_cons (s_frz 8 (s_masg 8 sc_law.nd (m_opR op_add4 o_add (s_var 8) (m_lst (ma_cons (s_mcall 1 c__law_entered hr passE (x_n 1 (x_n 2 (x_p (s_tup (s_acons (s_op op_mul2 o_mul2 (s_int) (s_var 5)) (s_acons (s_str) (s_acons (s_int) (s_acons (s_int) (s_anil)))))) (x_nil))))) (ma_cons (s_mcall 1 c__law_entered hr passE (x_n 1 (x_p (s_op op_sub o_sub (s_int) (s_var 2)) (x_p (s_tup (s_acons (s_int) (s_acons (s_str) (s_acons (s_int) (s_acons (s_int) (s_anil)))))) (x_nil))))) (ma_nil))))))) (s_cons (s_asg 9 sc_law.nd (s_if (s_tcmp op_le o_le (s_op op_mul2 o_mul2 (s_int) (s_var 5)) (s_op op_sub o_sub (s_op op_mul2 o_mul2 (s_int) (s_var 3)) (s_int)) rfl) (s_str) (s_str))) (s_cons (s_ifS (s_tcmp (op_ne2 hu) o_ne (s_var 8) (s_lst (s_acons (s_str) (s_acons (s_str) (s_acons (s_var 9) (s_acons (s_str) (s_anil)))))) rfl) (s_last (s_ret (s_bl))) (s_nil)) (s_cons (s_masg 8 sc_law.nd (m_lst (ma_cons (s_mcall 1 c__law_found hr passE (x_n 1 (x_p (s_tup (s_acons (s_int) (s_acons (s_int) (s_acons (s_int) (s_acons (s_int) (s_anil)))))) (x_nil)))) (ma_cons (s_mcall 1 c__law_found hr passE (x_n 1 (x_p (s_tup (s_acons (s_int) (s_acons (s_int) (s_acons (s_int) (s_acons (s_int) (s_anil)))))) (x_nil)))) (ma_cons (s_mcall 1 c__law_found hr passE (x_n 1 (x_p (s_tup (s_acons (s_op op_sub o_sub (s_op op_mul2 o_mul2 (s_int) (s_var 3)) (s_int)) (s_acons (s_int) (s_acons (s_int) (s_acons (s_int) (s_anil)))))) (x_nil)))) (ma_nil)))))) (s_cons (s_asg 9 sc_law.nd (s_if (s_tcmp op_le o_le (s_op op_sub o_sub (s_op op_mul2 o_mul2 (s_int) (s_var 3)) (s_int)) (s_op op_mul2 o_mul2 (s_int) (s_var 5)) rfl) (s_str) (s_str))) (s_cons (s_ifS ((s_tor (s_tcmp (op_ne2 hu) o_ne (s_var 8) (s_lst (s_acons (s_str) (s_acons (s_str) (s_acons (s_var 9) (s_anil))))) rfl) (s_tor1 (s_tcmp (op_ne2 hu) o_ne (s_meth0 c_Desk_evidence hr passE (s_var 1)) (s_var 6) rfl))).pt) (s_last (s_ret (s_bl))) (s_nil)) (s_cons (s_mif (m_tcmp (op_ne2 hu) o_ne (s_mcall 1 c__law_entered hr passE (x_n 1 (x_n 2 (x_p (s_tup (s_acons (s_int) (s_acons (s_str) (s_acons (s_int) (s_acons (s_int) (s_anil)))))) (x_nil))))) (s_if (s_tru (s_var 7)) (s_str) (s_non)) rfl) (s_last (s_ret (s_bl))) (s_nil)) (s_cons (s_mif (m_tcmp (op_ne2 hu) o_ne (s_mcall 1 c__law_found hr passE (x_n 1 (x_p (s_tup (s_acons (s_int) (s_acons (s_int) (s_acons (s_int) (s_acons (s_int) (s_anil)))))) (x_nil)))) (s_if (s_tcmp (op_eq2 hu) o_eq (s_var 5) (s_int) rfl) (s_str) (s_non)) rfl) (s_last (s_ret (s_bl))) (s_nil)) (s_cons (s_asg 10 sc_law.nd (s_ix ix_seq o_ix (s_meth0 c_Desk_evidence hr passE (s_var 1)) (s_int))) (s_last (s_ret (s_and (s_cmp (op_eq2 hu) o_eq (s_callB b_len call_lenA (by rfl) T.b_len boot_len (s_acons (s_ix ix_seq o_ix (s_var 10) (s_var 2)) (s_anil))) (s_callB bok2i (call_min2 (by rfl)) (by rfl) T.b_min (by decide +kernel) (s_acons (s_int) (s_acons (s_op op_add4 o_add (s_var 3) (s_int)) (s_anil)))) rfl) (s_one (s_cmp (op_eq2 hu) o_eq (s_callB b_len call_lenA (by rfl) T.b_len boot_len (s_acons (s_ix ix_seq o_ix (s_meth0 c_Desk_evidence hr passE (s_var 1)) (s_int)) (s_anil))) (s_callB bok2i (call_min2 (by rfl)) (by rfl) T.b_min (by decide +kernel) (s_acons (s_int) (s_acons (s_op op_add4 o_add (s_var 5) (s_int)) (s_anil)))) rfl))))))))))))))))))))))
  have e : m_law = fnD 11 [.v] b_law := rfl
  rw [e]
  exact fn_body F sc_law rfl (by decide) B
end
end Law

namespace Law
open PySem Oz L2
variable [Oz.WD]
/-! ### the desk -/
def ptyD : PyData := .tuple [.tuple [.bool true, .bool true], .tuple [.bool true, .bool true]]
def deskD (S : PyData) (P N : List PyData) : D := objD (Str.ofString "Desk") [(.str (Str.ofString "kinds"), .int 1), (.str (Str.ofString "parties"), ptyD), (.str (Str.ofString "past"), .list P), (.str (Str.ofString "done"), .list N), (.str (Str.ofString "state"), S)]
@[simp] theorem lf_deskD {S : PyData} {P N : List PyData} : lf (deskD S P N) = false := id rfl
@[simp] theorem lf_ptyD : lf ptyD = true := id rfl
theorem e_step {S S' T : PyData} {P N : List PyData} (lS : lf S = true) (lS' : lf S' = true) (lT : lf T = true) (hP : P.length ≤ 100000) (hN : N.length ≤ 100000) :
    m_Desk_step [deskD S P N, T, S'] = .ok ⟨.imm, .none⟩ [deskD S' (P ++ [S]) (N ++ [T])] := by
  have h1 : P.length < 16777216 := by omega
  have h2 : N.length < 16777216 := by omega
  simp [m_Desk_step, b_Desk_step, deskD, lS, lS', lT, h1, h2, sizeLine]
def stD (fs G : List PyData) : PyData := .tuple [.tuple fs, .tuple G, .int 0]
theorem e_desk_evidence {fs G P N : List PyData} (lf1 : lfs fs = true) (lf2 : lfs G = true) : m_Desk_evidence [deskD (stD fs G) P N] = .ok ⟨.imm, .tuple [.int 1, ptyD, .tuple fs, .tuple G]⟩ [] := by
  have e1 : lf (.tuple fs) = true := lf1
  have e2 : lf (.tuple G) = true := lf2
  have e3 : lf (stD fs G) = true := by simp [stD, lf, lfs, lf1, lf2]
  unfold stD at e3
  simp [m_Desk_evidence, b_Desk_evidence, deskD, stD, e1, e2, e3, sizeLine]
theorem e_init : m_Desk___init__ [objD (Str.ofString "Desk") [], .int 1, .list [.tuple [.bool true, .bool true], .tuple [.bool true, .bool true]]] = .ok ⟨.imm, .none⟩ [deskD (stD [.tuple [], .tuple []] []) [] []] := by
  have hz : sizeLine = 16777216 := rfl
  have hcr : compR [(⟨.imm, .tuple []⟩ : R), ⟨.imm, .tuple []⟩] = .ok ⟨.own, .list [.tuple [], .tuple []]⟩ := compR_own (xs := [(), ()]) (f := fun _ => (⟨.imm, .tuple []⟩ : R)) (e := fun _ => PyData.tuple []) (by show 2 ≤ sizeLine; omega) fun _ _ => ownR_lf rfl
  simp [hcr, m_Desk___init__, b_Desk___init__, q_Desk___init___0, c_Desk___init___0, deskD, stD, ptyD, compE, sizeLine]
end Law

namespace Law
open PySem Oz L2
variable [Oz.WD]
def setP (p : Int) (f : PyData) (f0 f1 : PyData) : List PyData := if p = 0 then [f, f1] else [f0, f]
theorem e_with_file {f0 f1 f : PyData} {G P N : List PyData} (l0 : lf f0 = true) (l1 : lf f1 = true) (l : lf f = true) (lG : lfs G = true) {p : Int} (hp : p = 0 ∨ p = 1) :
    m_Desk_with_file [deskD (stD [f0, f1] G) P N, .int p, f] = .ok ⟨.imm, .tuple (setP p f f0 f1)⟩ [] := by
  have e2 : lf (.tuple G) = true := lG
  have hz : sizeLine = 16777216 := rfl
  have hcr : ∀ a b : PyData, lf a = true → lf b = true → compR [(⟨.imm, a⟩ : R), ⟨.imm, b⟩] = .ok ⟨.own, .list [a, b]⟩ := fun a b la lb => by
    unfold compR
    rw [if_pos (by show 2 ≤ sizeLine; omega)]
    have : owns [(⟨.imm, a⟩ : R), ⟨.imm, b⟩] = some [a, b] := by simp [owns, ownR_lf la, ownR_lf lb]
    rw [this]
  have c1 := hcr f f1 l l1
  have c2 := hcr f0 f l0 l
  have ls : lfs [f, f1] = true := by simp [lfs, l, l1]
  have ls2 : lfs [f0, f] = true := by simp [lfs, l, l0]
  rcases hp with rfl | rfl
  · have e : setP 0 f f0 f1 = [f, f1] := rfl
    rw [e]
    simp [m_Desk_with_file, b_Desk_with_file, q_Desk_with_file_0, c_Desk_with_file_0, deskD, stD, compE, enumR, enR, l0, l1, l, e2, c1, ls, sizeLine]
  · have e : setP 1 f f0 f1 = [f0, f] := rfl
    rw [e]
    simp [m_Desk_with_file, b_Desk_with_file, q_Desk_with_file_0, c_Desk_with_file_0, deskD, stD, compE, enumR, enR, l0, l1, l, e2, c2, ls2, sizeLine]
end Law

namespace Law
open PySem Oz L2
variable [Oz.WD]
def mkE (n am : Int) : PyData := .tuple [.int n, .str "made", .int 0, .int am]
def mkF (n k : Int) : PyData := .tuple [.int n, .int 0, .int k, .int 0]
@[simp] theorem lf_mkE {n am : Int} : lf (mkE n am) = true := rfl
@[simp] theorem lf_mkF {n k : Int} : lf (mkF n k) = true := rfl
theorem e_num (i lo hi : Int) : m_is_number [.int i, .int lo, .int hi] = .ok ⟨.imm, .bool (decide (lo ≤ i) && decide (i ≤ hi))⟩ [] := by
  by_cases c : lo ≤ i <;> simp [m_is_number, b_is_number, c]
theorem e_ent1 {n : Int} (h1 : 1 ≤ n) (h2 : n ≤ 1000000000) (p : Int) : m_is_entry [mkE n 1, .int 1, .int 2, .int p] = .ok ⟨.imm, .bool true⟩ [] := by
  simp [m_is_entry, b_is_entry, mkE, e_num, h1, h2, sizeLine]
theorem e_ent0 {n : Int} (h1 : 1 ≤ n) (h2 : n ≤ 1000000000) (p : Int) : m_is_entry [mkE n 0, .int 1, .int 2, .int p] = .ok ⟨.imm, .bool false⟩ [] := by
  simp [m_is_entry, b_is_entry, mkE, e_num, h1, h2, sizeLine]
theorem e_find0 {n : Int} (h1 : 1 ≤ n) (h2 : n ≤ 1000000000) : m_is_find [mkF n 0, .int 1, .int 2] = .ok ⟨.imm, .bool true⟩ [] := by
  simp [m_is_find, b_is_find, mkF, e_num, h1, h2, sizeLine]
theorem e_find1 {n : Int} (h1 : 1 ≤ n) (h2 : n ≤ 1000000000) : m_is_find [mkF n 1, .int 1, .int 2] = .ok ⟨.imm, .bool false⟩ [] := by
  simp [m_is_find, b_is_find, mkF, e_num, h1, h2, sizeLine]
end Law

namespace Law
open PySem Oz L2
variable [Oz.WD]
theorem e_enter_no {f0 f1 x : PyData} {G P N : List PyData} (l0 : lf f0 = true) (l1 : lf f1 = true) (lx : lf x = true) (lG : lfs G = true) {p : Int} (he : m_is_entry [x, .int 1, .int 2, .int p] = .ok ⟨.imm, .bool false⟩ []) :
    m_Desk_enter [deskD (stD [f0, f1] G) P N, .int p, x] = .exc "Refused" [("what", .str "no entry")] [deskD (stD [f0, f1] G) P N] := by
  have e2 : lf (.tuple G) = true := lG
  have e3 : lf (.tuple [f0, f1]) = true := by simp [lf, lfs, l0, l1]
  have e4 : lf (stD [f0, f1] G) = true := by simp [stD, lf, lfs, l0, l1, lG]
  unfold stD at e4
  simp [m_Desk_enter, b_Desk_enter, deskD, stD, ptyD, he, lx, l0, l1, e2, e3, e4, sRse]
theorem boolsE_map {α : Type} {f : ElF} {c : List (Str × D)} {e : α → D} {b : α → Bool} : ∀ {xs : List α}, (∀ x ∈ xs, f (e x) c = some (.bool (b x))) → boolsE f c (xs.map e) = some (xs.map b)
  | [], _ => rfl
  | x :: xs, h => by
    have h1 := h x (by simp)
    have h2 := boolsE_map (xs := xs) fun y hy => h y (by simp [hy])
    simp [boolsE, h1, h2]
theorem gen_taken {ms : List Int} {n : Int} {p f0 f1 : PyData} (S : R) (A B : Option R) : genK false (eEq (eIx (eX) (eInt 0)) (eIx (eCap "entry") (eInt 0))) [("entry", 2)] ⟨.imm, .tuple (ms.map fun m => mkF m 0)⟩ [some S, some ⟨.imm, p⟩, some ⟨.imm, mkE n 1⟩, A, B, some ⟨.imm, .int 0⟩, none] = .ok ⟨.imm, .bool (ms.any fun m => m == n)⟩ := by
  have e1 : boolsE (eEq (eIx eX (eInt 0)) (eIx (eCap "entry") (eInt 0))) [(Str.ofString "entry", mkE n 1)] (ms.map fun m => mkF m 0) = some (ms.map fun m => m == n) := boolsE_map fun m _ => by
    simp [eEq, eIx, eX, eInt, eCap, mkE, mkF, sizeLine, List.lookup_cons]
  have e2 : pls (ms.map fun m => mkF m 0) = true := lfs_pls (by rw [lfs_all, List.all_map]; simp)
  have e3 : pl (mkE n 1) = true := rfl
  simp [genK, capE, e1, e2, e3, anyB, Function.comp_def]
end Law

namespace Law
open PySem Oz L2
variable [Oz.WD]
def filN (ns : List Int) : PyData := .tuple (ns.map fun n => mkE n 1)
def finN (ms : List Int) : List PyData := ms.map fun m => mkF m 0
theorem lf_filN {ns : List Int} : lf (filN ns) = true := by show lfs _ = true; rw [lfs_all, List.all_map]; simp
theorem lfs_finN {ms : List Int} : lfs (finN ms) = true := by unfold finN; rw [lfs_all, List.all_map]; simp
/-- what enter answers of a fit entry -/
def entW (ns ms : List Int) (n : Int) : Option String := if ns ≠ [] ∧ n ≤ ns.getLastD 0 then some "numbers do not ascend" else if (ms.any fun m => m == n) = true then some "number is taken" else if 200 ≤ ns.length then some "too many entries" else none
def pick (p : Int) (a b : List Int) : List Int := if p = 0 then a else b
theorem last_at {ns : List Int} (h : ns ≠ []) : atI (ns.map fun n => mkE n 1) (-1) = some (mkE (ns.getLastD 0) 1) := by
  rcases List.eq_nil_or_concat ns with e | ⟨init, l, e⟩
  · exact absurd e h
  · have e : ns = init ++ [l] := by simpa using e
    subst e
    have hc : (1 : Int) ≤ (init.length : Int) + 1 := by omega
    have ht : (-1 + ((init.length : Int) + 1)).toNat = init.length := by omega
    have hl : (init ++ [l]).getLastD 0 = l := by simp
    rw [hl]
    have e2 : (init.map fun n => mkE n 1).length = init.length := by simp
    simp [atI, ixN, hc, ht]
end Law

namespace Law
open PySem Oz L2
variable [Oz.WD]
/-- what enter answers: L the file's rows, la the last one's number -/
def entG (L : List PyData) (la n : Int) (tk : Bool) : Option String := if L ≠ [] ∧ n ≤ la then some "numbers do not ascend" else if tk = true then some "number is taken" else if 200 ≤ L.length then some "too many entries" else none
theorem e_enter {f0 f1 X Y : PyData} {L G P N : List PyData} {p n la : Int} {tk : Bool} (hp : p = 0 ∨ p = 1)
    (l0 : lf f0 = true) (l1 : lf f1 = true) (lG : lfs G = true) (lL : lfs L = true) (lx : lf X = true) (ly : lf Y = true) (hP : P.length ≤ 10000) (hN : N.length ≤ 10000) (hLl : L.length ≤ 10000)
    (he : m_is_entry [X, .int 1, .int 2, .int p] = .ok ⟨.imm, .bool true⟩ [])
    (hat : atI [f0, f1] p = some (.tuple L)) (hla : L ≠ [] → atI L (-1) = some Y)
    (hx0 : ∀ s t, ixR ⟨s, X⟩ ⟨t, .int 0⟩ = .ok ⟨.imm, .int n⟩) (hy0 : ∀ s t, ixR ⟨s, Y⟩ ⟨t, .int 0⟩ = .ok ⟨.imm, .int la⟩)
    (hg : ∀ (S : R) (A B : Option R), genK false (eEq (eIx (eX) (eInt 0)) (eIx (eCap "entry") (eInt 0))) [("entry", 2)] ⟨.imm, .tuple G⟩ [some S, some ⟨.imm, .int p⟩, some ⟨.imm, X⟩, A, B, some ⟨.imm, .int 0⟩, none] = .ok ⟨.imm, .bool tk⟩) :
    m_Desk_enter [deskD (stD [f0, f1] G) P N, .int p, X] = match entG L la n tk with
      | some w => .exc "Refused" [("what", .str w)] [deskD (stD [f0, f1] G) P N]
      | none => .ok ⟨.imm, .none⟩ [deskD (stD (setP p (.tuple (L ++ [X])) f0 f1) G) (P ++ [stD [f0, f1] G]) (N ++ [.tuple [.str "enter", .int p, X]])] := by
  have e2 : lf (.tuple G) = true := lG
  have e3 : lf (.tuple [f0, f1]) = true := by simp [lf, lfs, l0, l1]
  have e4 : lf (stD [f0, f1] G) = true := by simp [stD, lf, lfs, l0, l1, lG]
  have eL : lf (.tuple L) = true := lL
  have lLX : lfs (L ++ [X]) = true := by
    rw [lfs_all] at lL ⊢
    rw [List.all_append, lL]
    simp [lx]
  have eLX : lf (.tuple (L ++ [X])) = true := lLX
  have eS : lfs (setP p (.tuple (L ++ [X])) f0 f1) = true := by
    unfold setP
    split <;> simp [lfs, eLX, l0, l1, lLX]
  have eS2 : lf (.tuple (setP p (.tuple (L ++ [X])) f0 f1)) = true := eS
  have e5 : lf (stD (setP p (.tuple (L ++ [X])) f0 f1) G) = true := by simp [stD, lf, lfs, eS, lG]
  have hst := e_step (S := stD [f0, f1] G) (S' := stD (setP p (.tuple (L ++ [X])) f0 f1) G) (T := .tuple [.str "enter", .int p, X]) (P := P) (N := N) e4 e5 (by simp [lf, lfs, lx]) (by omega) (by omega)
  have hwf := e_with_file (f0 := f0) (f1 := f1) (f := .tuple (L ++ [X])) (G := G) (P := P) (N := N) l0 l1 eLX lG (p := p) hp
  have hsz : L.length + 1 ≤ 16777216 := by omega
  unfold stD at e4 e5
  unfold deskD stD ptyD at hst hwf
  generalize setP p (.tuple (L ++ [X])) f0 f1 = SP at *
  unfold entG
  by_cases c : L = []
  · subst c
    by_cases ct : tk = true
    · subst ct
      simp [m_Desk_enter, b_Desk_enter, deskD, stD, ptyD, pGen, he, lx, l0, l1, e2, e3, e4, hx0, hg, sRse, hat]
    · have ct2 := Bool.eq_false_iff.mpr ct
      subst ct2
      simp at hst hwf
      simp [m_Desk_enter, b_Desk_enter, deskD, stD, ptyD, pGen, he, lx, l0, l1, e2, e3, e4, e5, hx0, hg, sRse, hat, hst, hwf, eS, eS2, lG, lLX, eLX, sizeLine]
  · have hla := hla c
    have hem : L.isEmpty = false := by cases L with
      | nil => exact absurd rfl c
      | cons => rfl
    by_cases ca : n ≤ la
    · have hcc : (L ≠ [] ∧ n ≤ la) := ⟨c, ca⟩
      rw [if_pos hcc]
      simp [m_Desk_enter, b_Desk_enter, deskD, stD, ptyD, he, lx, l0, l1, e2, e3, e4, hx0, hy0, hla, hem, ca, ly, sRse, hat, eL]
    · rw [if_neg fun z => ca z.2]
      by_cases ct : tk = true
      · subst ct
        rw [if_pos rfl]
        simp [m_Desk_enter, b_Desk_enter, deskD, stD, ptyD, pGen, he, lx, l0, l1, e2, e3, e4, hx0, hy0, hla, hem, ca, ly, hg, sRse, hat, eL]
      · rw [if_neg ct]
        have ct2 := Bool.eq_false_iff.mpr ct
        subst ct2
        by_cases cl : 200 ≤ L.length
        · rw [if_pos cl]
          have cl2 : (200 : Int) ≤ L.length := by omega
          simp [m_Desk_enter, b_Desk_enter, deskD, stD, ptyD, pGen, he, lx, l0, l1, e2, e3, e4, hx0, hy0, hla, hem, ca, ly, hg, cl2, sRse, hat, eL]
        · rw [if_neg cl]
          have cl2 : ¬ (200 : Int) ≤ L.length := by omega
          simp [m_Desk_enter, b_Desk_enter, deskD, stD, ptyD, pGen, he, lx, l0, l1, e2, e3, e4, e5, hx0, hy0, hla, hem, ca, ly, hg, cl2, sRse, hat, hst, hwf, eS, eS2, lG, lLX, eLX, eL, hsz, sizeLine]
end Law

namespace Law
open PySem Oz L2
variable [Oz.WD]
/-! ### dicts of numbers -/
@[simp] theorem lf_dI {ns : List Int} : lf (dI ns) = false := id rfl
theorem foldK_len : ∀ (xs ns : List Int), (xs.foldl addK ns).length ≤ ns.length + xs.length
  | [], ns => Nat.le_refl _
  | x :: xs, ns => by
    have h1 := foldK_len xs (addK ns x)
    have h2 := addK_len (ns := ns) (n := x)
    rw [List.foldl_cons, List.length_cons]
    omega
theorem foldK_mem {m : Int} : ∀ (xs ns : List Int), m ∈ xs.foldl addK ns ↔ m ∈ ns ∨ m ∈ xs
  | [], ns => by simp
  | x :: xs, ns => by
    rw [List.foldl_cons, foldK_mem xs (addK ns x), addK_mem, List.mem_cons]
    constructor
    · rintro ((h | h) | h)
      · exact .inl h
      · exact .inr (.inl h)
      · exact .inr (.inr h)
    · rintro (h | h | h)
      · exact .inl (.inl h)
      · exact .inl (.inr h)
      · exact .inr h
theorem dcE_fold {α : Type} {g : Tgx} {t : Tx} {p : Px} {ρ : Ev} {item : α → R} {c : α → Bool} {f : α → Int} : ∀ (xs : List α) (ns : List Int),
    (∀ x ∈ xs, ∃ ρ1, g (item x) ρ = some ρ1 ∧ t ρ1 = .ok (c x) ∧ (c x = true → ∃ s, p ρ1 = .ok ⟨s, .int (f x)⟩)) → ns.length + xs.length ≤ 10000000 →
    dcE g t p ρ (xs.map item) ns = some (((xs.filter c).map f).foldl addK ns)
  | [], ns, _, _ => rfl
  | x :: xs, ns, h, hl => by
    obtain ⟨ρ1, h1, h2, h3⟩ := h x (by simp)
    have ih := fun ms hm => dcE_fold xs ms (fun y hy => h y (by simp [hy])) hm
    rw [List.length_cons] at hl
    rw [List.map_cons]
    unfold dcE
    rw [h1]
    simp only [h2]
    cases cx : c x with
    | false =>
      rw [if_neg Bool.false_ne_true, ih ns (by omega), List.filter_cons, if_neg (by rw [cx]; exact Bool.false_ne_true)]
    | true =>
      obtain ⟨s, h4⟩ := h3 cx
      have hs : sizeLine = 16777216 := rfl
      have h5 := addK_len (ns := ns) (n := f x)
      simp only [if_true, h4]
      rw [if_pos (by omega), ih _ (by omega), List.filter_cons, if_pos cx]
      rfl
theorem dc2E_fold {α : Type} {vs1 : List Nat} {g g1 : Tgx} {t t1 : Tx} {src1 : Src} {p : Px} {ρ : Ev} {item : α → R} {row : α → List Int} : ∀ (xs : List α) (ns : List Int),
    (∀ x ∈ xs, ∃ ρ1, g (item x) ρ = some ρ1 ∧ nov ρ1 = true ∧ t ρ1 = .ok true ∧ ∃ rs1, src1 ρ1 = .ok rs1 ∧ ∀ ns : List Int, ns.length + (row x).length ≤ 10000000 → dcE g1 t1 p (wipeE ρ1 vs1) rs1 ns = some ((row x).foldl addK ns)) → ns.length + (xs.flatMap row).length ≤ 10000000 →
    dc2E vs1 g t src1 g1 t1 p ρ (xs.map item) ns = some ((xs.flatMap row).foldl addK ns)
  | [], ns, _, _ => rfl
  | x :: xs, ns, h, hl => by
    obtain ⟨ρ1, h1, h2, h3, rs1, h4, h5⟩ := h x (by simp)
    have ih := fun ms hm => dc2E_fold xs ms (fun y hy => h y (by simp [hy])) hm
    rw [List.flatMap_cons, List.length_append] at hl
    have h6 := foldK_len (row x) ns
    rw [List.map_cons]
    unfold dc2E
    rw [h1]
    simp only [h2, if_true, h3, h4]
    rw [h5 ns (by omega)]
    simp only
    rw [ih _ (by omega), List.flatMap_cons, List.foldl_append]
theorem e_entry_numbers {n0 n1 : List Int} (h0 : n0.length ≤ 1000) (h1 : n1.length ≤ 1000) : m_entry_numbers [.tuple [filN n0, filN n1]] = .ok ⟨.own, dI ((n0 ++ n1).foldl addK [])⟩ [] := by
  have hc : dc2E [2] (cN 1) tYesD cs_entry_numbers_0 (cN 2) tYesD c_entry_numbers_0 [some ⟨.imm, .tuple [filN n0, filN n1]⟩, none, none] [(⟨.imm, filN n0⟩ : R), ⟨.imm, filN n1⟩] [] = some ((n0 ++ n1).foldl addK []) := by
    have := dc2E_fold (vs1 := [2]) (g := cN 1) (g1 := cN 2) (t := tYesD) (t1 := tYesD) (src1 := cs_entry_numbers_0) (p := c_entry_numbers_0) (ρ := [some ⟨.imm, .tuple [filN n0, filN n1]⟩, none, none]) (item := fun ns => (⟨.imm, filN ns⟩ : R)) (row := fun f : List Int => f) [n0, n1] [] (fun f hf => ⟨[some ⟨.imm, .tuple [filN n0, filN n1]⟩, some ⟨.imm, filN f⟩, none], by simp, by simp, rfl, f.map fun x => (⟨.imm, mkE x 1⟩ : R), ?_, fun ns hns => ?_⟩) (by simp; omega)
    · simpa using this
    · simp [cs_entry_numbers_0, filN, Function.comp_def]
    · have := dcE_fold (g := cN 2) (t := tYesD) (p := c_entry_numbers_0) (ρ := [some ⟨.imm, .tuple [filN n0, filN n1]⟩, some ⟨.imm, filN f⟩, none]) (item := fun x => (⟨.imm, mkE x 1⟩ : R)) (c := fun _ => true) (f := fun x => x) f ns (fun x _ => ⟨[some ⟨.imm, .tuple [filN n0, filN n1]⟩, some ⟨.imm, filN f⟩, some ⟨.imm, mkE x 1⟩], by simp, rfl, fun _ => ⟨.imm, by simp [c_entry_numbers_0, mkE]⟩⟩) (by simpa using hns)
      rw [List.filter_eq_self.mpr (fun _ _ => rfl)] at this
      simpa using this
  have l0 := lf_filN (ns := n0)
  have l1 := lf_filN (ns := n1)
  generalize filN n0 = F0 at *
  generalize filN n1 = F1 at *
  simp [m_entry_numbers, b_entry_numbers, q_entry_numbers_0, hc, l0, l1]
/-- what found answers -/
def fndG (G : List PyData) (la n : Int) (K : List Int) : Option String := if G ≠ [] ∧ n ≤ la then some "numbers do not ascend" else if n ∈ K then some "number is taken" else if 200 ≤ G.length then some "too many finds" else none
theorem e_found {f0 f1 X Y : PyData} {G P N : List PyData} {n la : Int} {K : List Int}
    (l0 : lf f0 = true) (l1 : lf f1 = true) (lG : lfs G = true) (lx : lf X = true) (ly : lf Y = true) (hP : P.length ≤ 10000) (hN : N.length ≤ 10000) (hGl : G.length ≤ 10000)
    (he : m_is_find [X, .int 1, .int 2] = .ok ⟨.imm, .bool true⟩ []) (hn : m_entry_numbers [.tuple [f0, f1]] = .ok ⟨.own, dI K⟩ [])
    (hla : G ≠ [] → atI G (-1) = some Y)
    (hx0 : ∀ s t, ixR ⟨s, X⟩ ⟨t, .int 0⟩ = .ok ⟨.imm, .int n⟩) (hy0 : ∀ s t, ixR ⟨s, Y⟩ ⟨t, .int 0⟩ = .ok ⟨.imm, .int la⟩) :
    m_Desk_found [deskD (stD [f0, f1] G) P N, X] = match fndG G la n K with
      | some w => .exc "Refused" [("what", .str w)] [deskD (stD [f0, f1] G) P N]
      | none => .ok ⟨.imm, .none⟩ [deskD (stD [f0, f1] (G ++ [X])) (P ++ [stD [f0, f1] G]) (N ++ [.tuple [.str "found", X]])] := by
  have e2 : lf (.tuple G) = true := lG
  have e3 : lf (.tuple [f0, f1]) = true := by simp [lf, lfs, l0, l1]
  have e4 : lf (stD [f0, f1] G) = true := by simp [stD, lf, lfs, l0, l1, lG]
  have lGX : lfs (G ++ [X]) = true := by
    rw [lfs_all] at lG ⊢
    rw [List.all_append, lG]
    simp [lx]
  have eGX : lf (.tuple (G ++ [X])) = true := lGX
  have e5 : lf (stD [f0, f1] (G ++ [X])) = true := by simp [stD, lf, lfs, l0, l1, lGX]
  have hst := e_step (S := stD [f0, f1] G) (S' := stD [f0, f1] (G ++ [X])) (T := .tuple [.str "found", X]) (P := P) (N := N) e4 e5 (by simp [lf, lfs, lx]) (by omega) (by omega)
  have hsz : G.length + 1 ≤ 16777216 := by omega
  unfold stD at e4 e5
  unfold deskD stD ptyD at hst
  unfold fndG
  by_cases c : G = []
  · subst c
    by_cases ct : n ∈ K
    · simp [m_Desk_found, b_Desk_found, deskD, stD, ptyD, he, hn, lx, l0, l1, e2, e3, e4, hx0, sRse, ct]
    · simp at hst
      simp [m_Desk_found, b_Desk_found, deskD, stD, ptyD, he, hn, lx, l0, l1, e2, e3, e4, e5, hx0, sRse, ct, hst, lG, lGX, eGX, sizeLine]
  · have hla := hla c
    have hem : G.isEmpty = false := by cases G with
      | nil => exact absurd rfl c
      | cons => rfl
    by_cases ca : n ≤ la
    · have hcc : (G ≠ [] ∧ n ≤ la) := ⟨c, ca⟩
      rw [if_pos hcc]
      simp [m_Desk_found, b_Desk_found, deskD, stD, ptyD, he, hn, lx, l0, l1, e2, e3, e4, hx0, hy0, hla, hem, ca, ly, sRse]
    · rw [if_neg fun z => ca z.2]
      by_cases ct : n ∈ K
      · rw [if_pos ct]
        simp [m_Desk_found, b_Desk_found, deskD, stD, ptyD, he, hn, lx, l0, l1, e2, e3, e4, hx0, hy0, hla, hem, ca, ly, sRse, ct]
      · rw [if_neg ct]
        by_cases cl : 200 ≤ G.length
        · rw [if_pos cl]
          have cl2 : (200 : Int) ≤ G.length := by omega
          simp [m_Desk_found, b_Desk_found, deskD, stD, ptyD, he, hn, lx, l0, l1, e2, e3, e4, hx0, hy0, hla, hem, ca, ly, cl2, sRse, ct]
        · rw [if_neg cl]
          have cl2 : ¬ (200 : Int) ≤ G.length := by omega
          simp [m_Desk_found, b_Desk_found, deskD, stD, ptyD, he, hn, lx, l0, l1, e2, e3, e4, e5, hx0, hy0, hla, hem, ca, ly, cl2, sRse, ct, hst, lG, lGX, eGX, hsz, sizeLine]
theorem e_found_no {f0 f1 X : PyData} {G P N : List PyData} (l0 : lf f0 = true) (l1 : lf f1 = true) (lx : lf X = true) (lG : lfs G = true) (he : m_is_find [X, .int 1, .int 2] = .ok ⟨.imm, .bool false⟩ []) :
    m_Desk_found [deskD (stD [f0, f1] G) P N, X] = .exc "Refused" [("what", .str "no find")] [deskD (stD [f0, f1] G) P N] := by
  have e2 : lf (.tuple G) = true := lG
  have e3 : lf (.tuple [f0, f1]) = true := by simp [lf, lfs, l0, l1]
  have e4 : lf (stD [f0, f1] G) = true := by simp [stD, lf, lfs, l0, l1, lG]
  unfold stD at e4
  simp [m_Desk_found, b_Desk_found, deskD, stD, ptyD, he, lx, l0, l1, e2, e3, e4, sRse]
end Law

namespace Law
open PySem Oz L2
variable [Oz.WD]
def dr (ds : List Int) (i : Nat) : Int := ds.getD i 0
theorem e_cell (ns : List Int) (i : Nat) : m__law_cell [scrD (ns.map .int), .int i] = .ok ⟨.imm, .int (dr ns i)⟩ [] := by
  by_cases h : i < ns.length
  · simp [m__law_cell, b__law_cell, h, atI_ofNat, dr]
  · simp [m__law_cell, b__law_cell, h, atI_ofNat, dr]
def deskE (n0 n1 ms : List Int) (P N : List PyData) : D := deskD (stD [filN n0, filN n1] (finN ms)) P N
theorem lf_deskE {n0 n1 ms : List Int} {P N : List PyData} : lf (deskE n0 n1 ms P N) = false := id rfl
def fndW (n0 n1 ms : List Int) (n : Int) : Option String := if ms ≠ [] ∧ n ≤ ms.getLastD 0 then some "numbers do not ascend" else if n ∈ n0 ++ n1 then some "number is taken" else if 200 ≤ ms.length then some "too many finds" else none
theorem last_atF {ns : List Int} (h : ns ≠ []) : atI (finN ns) (-1) = some (mkF (ns.getLastD 0) 0) := by
  unfold finN
  rcases List.eq_nil_or_concat ns with e | ⟨init, l, e⟩
  · exact absurd e h
  · have e : ns = init ++ [l] := by simpa using e
    subst e
    have hc : (1 : Int) ≤ (init.length : Int) + 1 := by omega
    have ht : (-1 + ((init.length : Int) + 1)).toNat = init.length := by omega
    have hl : (init ++ [l]).getLastD 0 = l := by simp
    rw [hl]
    have e2 : (init.map fun n => mkF n 0).length = init.length := by simp
    simp [atI, ixN, hc, ht]
theorem enter_main {n0 n1 ms : List Int} {P N : List PyData} {p n : Int} (hp : p = 0 ∨ p = 1) (h1 : 1 ≤ n) (h2 : n ≤ 1000000000) (hP : P.length ≤ 5000) (hN : N.length ≤ 5000) (h3 : (pick p n0 n1).length ≤ 5000) :
    m_Desk_enter [deskE n0 n1 ms P N, .int p, mkE n 1] = match entW (pick p n0 n1) ms n with
      | some w => .exc "Refused" [("what", .str w)] [deskE n0 n1 ms P N]
      | none => .ok ⟨.imm, .none⟩ [deskD (stD (setP p (filN (pick p n0 n1 ++ [n])) (filN n0) (filN n1)) (finN ms)) (P ++ [stD [filN n0, filN n1] (finN ms)]) (N ++ [.tuple [.str "enter", .int p, mkE n 1]])] := by
  have hat : atI [filN n0, filN n1] p = some (.tuple ((pick p n0 n1).map fun n => mkE n 1)) := by
    rcases hp with rfl | rfl <;> simp [pick, filN]
  have key := e_enter (f0 := filN n0) (f1 := filN n1) (X := mkE n 1) (Y := mkE ((pick p n0 n1).getLastD 0) 1) (L := (pick p n0 n1).map fun n => mkE n 1) (G := finN ms) (P := P) (N := N) (p := p) (n := n) (la := (pick p n0 n1).getLastD 0) (tk := ms.any fun m => m == n) hp lf_filN lf_filN lfs_finN lf_filN rfl rfl (by omega) (by omega) (by simpa using (by omega : (pick p n0 n1).length ≤ 10000)) (e_ent1 h1 h2 p) hat (fun h => last_at (by simpa using h))
    (fun s t => by simp [mkE]) (fun s t => by simp [mkE]) (fun S A B => gen_taken (ms := ms) (n := n) (p := .int p) (f0 := .none) (f1 := .none) S A B)
  have eW : entG ((pick p n0 n1).map fun n => mkE n 1) ((pick p n0 n1).getLastD 0) n (ms.any fun m => m == n) = entW (pick p n0 n1) ms n := by
    unfold entG entW
    simp only [ne_eq, List.map_eq_nil_iff, List.length_map]
  have eF : filN (pick p n0 n1 ++ [n]) = .tuple (((pick p n0 n1).map fun n => mkE n 1) ++ [mkE n 1]) := by simp [filN]
  rw [eW, ← eF] at key
  exact key
theorem found_main {n0 n1 ms : List Int} {P N : List PyData} {n : Int} (h1 : 1 ≤ n) (h2 : n ≤ 1000000000) (hP : P.length ≤ 5000) (hN : N.length ≤ 5000) (h3 : ms.length ≤ 5000) (h4 : n0.length ≤ 1000) (h5 : n1.length ≤ 1000) :
    m_Desk_found [deskE n0 n1 ms P N, mkF n 0] = match fndW n0 n1 ms n with
      | some w => .exc "Refused" [("what", .str w)] [deskE n0 n1 ms P N]
      | none => .ok ⟨.imm, .none⟩ [deskE n0 n1 (ms ++ [n]) (P ++ [stD [filN n0, filN n1] (finN ms)]) (N ++ [.tuple [.str "found", mkF n 0]])] := by
  have key := e_found (f0 := filN n0) (f1 := filN n1) (X := mkF n 0) (Y := mkF (ms.getLastD 0) 0) (G := finN ms) (P := P) (N := N) (n := n) (la := ms.getLastD 0) (K := (n0 ++ n1).foldl addK []) lf_filN lf_filN lfs_finN rfl rfl (by omega) (by omega) (by simpa [finN] using (by omega : ms.length ≤ 10000)) (e_find0 h1 h2) (e_entry_numbers h4 h5)
    (fun h => last_atF (by simpa [finN] using h)) (fun s t => by simp [mkF]) (fun s t => by simp [mkF])
  have eW : fndG (finN ms) (ms.getLastD 0) n ((n0 ++ n1).foldl addK []) = fndW n0 n1 ms n := by
    unfold fndG fndW
    simp only [finN, ne_eq, List.map_eq_nil_iff, List.length_map]
    have hm := foldK_mem (m := n) (n0 ++ n1) []
    by_cases c : n ∈ n0 ++ n1
    · rw [if_pos c, if_pos (hm.mpr (.inr c))]
    · rw [if_neg c, if_neg (c := n ∈ (n0 ++ n1).foldl addK []) fun z => (hm.mp z).elim (fun q => by cases q) c]
  have eF : finN (ms ++ [n]) = finN ms ++ [mkF n 0] := by simp [finN]
  rw [eW, ← eF] at key
  exact key
/-! ### the law's calls -/
theorem l_ent_some {n0 n1 ms : List Int} {P N : List PyData} {p n : Int} {w : String} (hp : p = 0 ∨ p = 1) (h1 : 1 ≤ n) (h2 : n ≤ 1000000000) (hP : P.length ≤ 5000) (hN : N.length ≤ 5000) (h3 : (pick p n0 n1).length ≤ 5000) (hw : entW (pick p n0 n1) ms n = some w) :
    m__law_entered [deskE n0 n1 ms P N, .int p, mkE n 1] = .ok ⟨.imm, .str w⟩ [deskE n0 n1 ms P N] := by
  have h := enter_main (ms := ms) hp h1 h2 hP hN h3
  rw [hw] at h
  have hu : unO (Str.ofString "Desk") (deskE n0 n1 ms P N) = some [(.str (Str.ofString "kinds"), .int 1), (.str (Str.ofString "parties"), ptyD), (.str (Str.ofString "past"), .list P), (.str (Str.ofString "done"), .list N), (.str (Str.ofString "state"), stD [filN n0, filN n1] (finN ms))] := by simp [deskE, deskD]
  have lfd : lf (deskE n0 n1 ms P N) = false := lf_deskE
  have lx : lf (mkE n 1) = true := rfl
  generalize deskE n0 n1 ms P N = D at *
  simp at h
  simp [m__law_entered, b__law_entered, hu, h, lfd, lx, tryE]
theorem l_ent_none {n0 n1 ms : List Int} {P N : List PyData} {p n : Int} (hp : p = 0 ∨ p = 1) (h1 : 1 ≤ n) (h2 : n ≤ 1000000000) (hP : P.length ≤ 5000) (hN : N.length ≤ 5000) (h3 : (pick p n0 n1).length ≤ 5000) (hw : entW (pick p n0 n1) ms n = none) :
    ∃ P' N', P'.length = P.length + 1 ∧ N'.length = N.length + 1 ∧ m__law_entered [deskE n0 n1 ms P N, .int p, mkE n 1] = .ok ⟨.imm, .none⟩ [deskE (if p = 0 then n0 ++ [n] else n0) (if p = 0 then n1 else n1 ++ [n]) ms P' N'] := by
  have h := enter_main (ms := ms) hp h1 h2 hP hN h3
  rw [hw] at h
  have hu : unO (Str.ofString "Desk") (deskE n0 n1 ms P N) = some [(.str (Str.ofString "kinds"), .int 1), (.str (Str.ofString "parties"), ptyD), (.str (Str.ofString "past"), .list P), (.str (Str.ofString "done"), .list N), (.str (Str.ofString "state"), stD [filN n0, filN n1] (finN ms))] := by simp [deskE, deskD]
  refine ⟨P ++ [stD [filN n0, filN n1] (finN ms)], N ++ [.tuple [.str "enter", .int p, mkE n 1]], by simp, by simp, ?_⟩
  have e : deskD (stD (setP p (filN (pick p n0 n1 ++ [n])) (filN n0) (filN n1)) (finN ms)) (P ++ [stD [filN n0, filN n1] (finN ms)]) (N ++ [.tuple [.str "enter", .int p, mkE n 1]]) = deskE (if p = 0 then n0 ++ [n] else n0) (if p = 0 then n1 else n1 ++ [n]) ms (P ++ [stD [filN n0, filN n1] (finN ms)]) (N ++ [.tuple [.str "enter", .int p, mkE n 1]]) := by
    rcases hp with rfl | rfl <;> simp [deskE, setP, pick]
  simp only [e] at h
  have lfd : lf (deskE n0 n1 ms P N) = false := lf_deskE
  have lfd2 : lf (deskE (if p = 0 then n0 ++ [n] else n0) (if p = 0 then n1 else n1 ++ [n]) ms (P ++ [stD [filN n0, filN n1] (finN ms)]) (N ++ [.tuple [.str "enter", .int p, mkE n 1]])) = false := lf_deskE
  have lx : lf (mkE n 1) = true := rfl
  generalize deskE (if p = 0 then n0 ++ [n] else n0) (if p = 0 then n1 else n1 ++ [n]) ms (P ++ [stD [filN n0, filN n1] (finN ms)]) (N ++ [.tuple [.str "enter", .int p, mkE n 1]]) = D2 at *
  generalize deskE n0 n1 ms P N = D at *
  simp [m__law_entered, b__law_entered, hu, h, lfd, lx]
theorem l_ent_no {n0 n1 ms : List Int} {P N : List PyData} {p n : Int} (h1 : 1 ≤ n) (h2 : n ≤ 1000000000) :
    m__law_entered [deskE n0 n1 ms P N, .int p, mkE n 0] = .ok ⟨.imm, .str "no entry"⟩ [deskE n0 n1 ms P N] := by
  have h := e_enter_no (P := P) (N := N) (lf_filN (ns := n0)) (lf_filN (ns := n1)) (lf_mkE (n := n) (am := 0)) (lfs_finN (ms := ms)) (e_ent0 h1 h2 p)
  have hu : unO (Str.ofString "Desk") (deskE n0 n1 ms P N) = some [(.str (Str.ofString "kinds"), .int 1), (.str (Str.ofString "parties"), ptyD), (.str (Str.ofString "past"), .list P), (.str (Str.ofString "done"), .list N), (.str (Str.ofString "state"), stD [filN n0, filN n1] (finN ms))] := by simp [deskE, deskD]
  have lfd : lf (deskE n0 n1 ms P N) = false := lf_deskE
  have lx : lf (mkE n 0) = true := rfl
  rw [show deskD (stD [filN n0, filN n1] (finN ms)) P N = deskE n0 n1 ms P N from rfl] at h
  generalize deskE n0 n1 ms P N = D at *
  generalize mkE n 0 = X at *
  simp [m__law_entered, b__law_entered, hu, h, lfd, lx, tryE]
theorem l_fnd_some {n0 n1 ms : List Int} {P N : List PyData} {n : Int} {w : String} (h1 : 1 ≤ n) (h2 : n ≤ 1000000000) (hP : P.length ≤ 5000) (hN : N.length ≤ 5000) (h3 : ms.length ≤ 5000) (h4 : n0.length ≤ 1000) (h5 : n1.length ≤ 1000) (hw : fndW n0 n1 ms n = some w) :
    m__law_found [deskE n0 n1 ms P N, mkF n 0] = .ok ⟨.imm, .str w⟩ [deskE n0 n1 ms P N] := by
  have h := found_main h1 h2 hP hN h3 h4 h5
  rw [hw] at h
  have hu : unO (Str.ofString "Desk") (deskE n0 n1 ms P N) = some [(.str (Str.ofString "kinds"), .int 1), (.str (Str.ofString "parties"), ptyD), (.str (Str.ofString "past"), .list P), (.str (Str.ofString "done"), .list N), (.str (Str.ofString "state"), stD [filN n0, filN n1] (finN ms))] := by simp [deskE, deskD]
  have lfd : lf (deskE n0 n1 ms P N) = false := lf_deskE
  have lx : lf (mkF n 0) = true := rfl
  generalize deskE n0 n1 ms P N = D at *
  simp at h
  simp [m__law_found, b__law_found, hu, h, lfd, lx, tryE]
theorem l_fnd_no {n0 n1 ms : List Int} {P N : List PyData} {n : Int} (h1 : 1 ≤ n) (h2 : n ≤ 1000000000) :
    m__law_found [deskE n0 n1 ms P N, mkF n 1] = .ok ⟨.imm, .str "no find"⟩ [deskE n0 n1 ms P N] := by
  have h := e_found_no (P := P) (N := N) (lf_filN (ns := n0)) (lf_filN (ns := n1)) (lf_mkF (n := n) (k := 1)) (lfs_finN (ms := ms)) (e_find1 h1 h2)
  have hu : unO (Str.ofString "Desk") (deskE n0 n1 ms P N) = some [(.str (Str.ofString "kinds"), .int 1), (.str (Str.ofString "parties"), ptyD), (.str (Str.ofString "past"), .list P), (.str (Str.ofString "done"), .list N), (.str (Str.ofString "state"), stD [filN n0, filN n1] (finN ms))] := by simp [deskE, deskD]
  have lfd : lf (deskE n0 n1 ms P N) = false := lf_deskE
  have lx : lf (mkF n 1) = true := rfl
  rw [show deskD (stD [filN n0, filN n1] (finN ms)) P N = deskE n0 n1 ms P N from rfl] at h
  generalize deskE n0 n1 ms P N = D at *
  generalize mkF n 1 = X at *
  simp [m__law_found, b__law_found, hu, h, lfd, lx, tryE]
theorem l_fnd_none {n0 n1 ms : List Int} {P N : List PyData} {n : Int} (h1 : 1 ≤ n) (h2 : n ≤ 1000000000) (hP : P.length ≤ 5000) (hN : N.length ≤ 5000) (h3 : ms.length ≤ 5000) (h4 : n0.length ≤ 1000) (h5 : n1.length ≤ 1000) (hw : fndW n0 n1 ms n = none) :
    ∃ P' N', P'.length = P.length + 1 ∧ N'.length = N.length + 1 ∧ m__law_found [deskE n0 n1 ms P N, mkF n 0] = .ok ⟨.imm, .none⟩ [deskE n0 n1 (ms ++ [n]) P' N'] := by
  have h := found_main h1 h2 hP hN h3 h4 h5
  rw [hw] at h
  have hu : unO (Str.ofString "Desk") (deskE n0 n1 ms P N) = some [(.str (Str.ofString "kinds"), .int 1), (.str (Str.ofString "parties"), ptyD), (.str (Str.ofString "past"), .list P), (.str (Str.ofString "done"), .list N), (.str (Str.ofString "state"), stD [filN n0, filN n1] (finN ms))] := by simp [deskE, deskD]
  refine ⟨P ++ [stD [filN n0, filN n1] (finN ms)], N ++ [.tuple [.str "found", mkF n 0]], by simp, by simp, ?_⟩
  have lfd : lf (deskE n0 n1 ms P N) = false := lf_deskE
  have lx : lf (mkF n 0) = true := rfl
  generalize deskE n0 n1 (ms ++ [n]) (P ++ [stD [filN n0, filN n1] (finN ms)]) (N ++ [.tuple [.str "found", mkF n 0]]) = D2 at *
  generalize deskE n0 n1 ms P N = D at *
  simp at h
  simp [m__law_found, b__law_found, hu, h, lfd, lx]
end Law

namespace Law
open PySem Oz L2
variable [Oz.WD]
def odds (k : Nat) : List Int := (List.range k).map fun (j : Nat) => 2 * (j : Int) + 1
def evens (k : Nat) : List Int := (List.range k).map fun (j : Nat) => 2 * (j : Int) + 2
theorem odds_s (k : Nat) : odds (k + 1) = odds k ++ [2 * (k : Int) + 1] := by simp [odds, List.range_succ]
theorem evens_s (k : Nat) : evens (k + 1) = evens k ++ [2 * (k : Int) + 2] := by simp [evens, List.range_succ]
@[simp] theorem odds_len (k : Nat) : (odds k).length = k := by simp [odds]
@[simp] theorem evens_len (k : Nat) : (evens k).length = k := by simp [evens]
theorem odds_last {k : Nat} (h : 0 < k) : (odds k).getLastD 0 = 2 * (k : Int) - 1 := by
  obtain ⟨j, rfl⟩ : ∃ j, k = j + 1 := ⟨k - 1, by omega⟩
  rw [odds_s]
  simp
  omega
theorem evens_last {k : Nat} (h : 0 < k) : (evens k).getLastD 0 = 2 * (k : Int) := by
  obtain ⟨j, rfl⟩ : ∃ j, k = j + 1 := ⟨k - 1, by omega⟩
  rw [evens_s]
  simp
  omega
theorem odds_mem {k : Nat} {n : Int} : n ∈ odds k ↔ ∃ j : Nat, j < k ∧ n = 2 * (j : Int) + 1 := by
  simp only [odds, List.mem_map, List.mem_range]
  exact ⟨fun ⟨j, h, e⟩ => ⟨j, h, e.symm⟩, fun ⟨j, h, e⟩ => ⟨j, h, e.symm⟩⟩
theorem evens_mem {k : Nat} {n : Int} : n ∈ evens k ↔ ∃ j : Nat, j < k ∧ n = 2 * (j : Int) + 2 := by
  simp only [evens, List.mem_map, List.mem_range]
  exact ⟨fun ⟨j, h, e⟩ => ⟨j, h, e.symm⟩, fun ⟨j, h, e⟩ => ⟨j, h, e.symm⟩⟩
theorem odds_ne {k : Nat} (h : 0 < k) : odds k ≠ [] := fun z => by have := congrArg List.length z; simp at this; omega
theorem evens_ne {k : Nat} (h : 0 < k) : evens k ≠ [] := fun z => by have := congrArg List.length z; simp at this; omega
theorem any_mem {ms : List Int} {n : Int} : ((ms.any fun m => m == n) = true) = (n ∈ ms) := by
  apply propext
  rw [List.any_eq_true]
  constructor
  · rintro ⟨m, hm, e⟩
    rw [beq_iff_eq] at e
    rw [← e]; exact hm
  · exact fun h => ⟨n, h, by simp⟩
/-! ### the desk of the law -/
def dk (p : Int) (a ms : List Int) (P N : List PyData) : D := deskE (if p = 0 then a else []) (if p = 0 then [] else a) ms P N
theorem lf_dk {p : Int} {a ms : List Int} {P N : List PyData} : lf (dk p a ms P N) = false := id rfl
section
variable {p n : Int} {a ms : List Int} {P N : List PyData} {w : String}
theorem k_ent_some (hp : p = 0 ∨ p = 1) (h1 : 1 ≤ n) (h2 : n ≤ 1000000000) (hP : P.length ≤ 5000) (hN : N.length ≤ 5000) (h3 : a.length ≤ 1000) (hw : entW a ms n = some w) : m__law_entered [dk p a ms P N, .int p, mkE n 1] = .ok ⟨.imm, .str w⟩ [dk p a ms P N] := by
  rcases hp with rfl | rfl
  · exact l_ent_some (.inl rfl) h1 h2 hP hN (by show a.length ≤ 5000; omega) hw
  · exact l_ent_some (.inr rfl) h1 h2 hP hN (by show a.length ≤ 5000; omega) hw
theorem k_ent_none (hp : p = 0 ∨ p = 1) (h1 : 1 ≤ n) (h2 : n ≤ 1000000000) (hP : P.length ≤ 5000) (hN : N.length ≤ 5000) (h3 : a.length ≤ 1000) (hw : entW a ms n = none) : ∃ P' N', P'.length = P.length + 1 ∧ N'.length = N.length + 1 ∧ m__law_entered [dk p a ms P N, .int p, mkE n 1] = .ok ⟨.imm, .none⟩ [dk p (a ++ [n]) ms P' N'] := by
  rcases hp with rfl | rfl
  · exact l_ent_none (.inl rfl) h1 h2 hP hN (by show a.length ≤ 5000; omega) hw
  · exact l_ent_none (.inr rfl) h1 h2 hP hN (by show a.length ≤ 5000; omega) hw
theorem k_oth_some (hp : p = 0 ∨ p = 1) (h1 : 1 ≤ n) (h2 : n ≤ 1000000000) (hP : P.length ≤ 5000) (hN : N.length ≤ 5000) (hw : entW [] ms n = some w) : m__law_entered [dk p a ms P N, .int (1 - p), mkE n 1] = .ok ⟨.imm, .str w⟩ [dk p a ms P N] := by
  rcases hp with rfl | rfl
  · exact l_ent_some (.inr rfl) h1 h2 hP hN (by show [].length ≤ 5000; simp) hw
  · exact l_ent_some (.inl rfl) h1 h2 hP hN (by show [].length ≤ 5000; simp) hw
theorem k_ent_no (h1 : 1 ≤ n) (h2 : n ≤ 1000000000) : m__law_entered [dk p a ms P N, .int p, mkE n 0] = .ok ⟨.imm, .str "no entry"⟩ [dk p a ms P N] := l_ent_no h1 h2
def fnW (a ms : List Int) (n : Int) : Option String := if ms ≠ [] ∧ n ≤ ms.getLastD 0 then some "numbers do not ascend" else if n ∈ a then some "number is taken" else if 200 ≤ ms.length then some "too many finds" else none
theorem fnW_eq (hp : p = 0 ∨ p = 1) : fndW (if p = 0 then a else []) (if p = 0 then [] else a) ms n = fnW a ms n := by
  rcases hp with rfl | rfl <;> simp [fndW, fnW]
theorem k_fnd_some (hp : p = 0 ∨ p = 1) (h1 : 1 ≤ n) (h2 : n ≤ 1000000000) (hP : P.length ≤ 5000) (hN : N.length ≤ 5000) (h3 : ms.length ≤ 5000) (h4 : a.length ≤ 1000) (hw : fnW a ms n = some w) : m__law_found [dk p a ms P N, mkF n 0] = .ok ⟨.imm, .str w⟩ [dk p a ms P N] :=
  l_fnd_some h1 h2 hP hN h3 (by split <;> first | exact h4 | exact Nat.zero_le _) (by split <;> first | exact h4 | exact Nat.zero_le _) ((fnW_eq hp).trans hw)
theorem k_fnd_none (hp : p = 0 ∨ p = 1) (h1 : 1 ≤ n) (h2 : n ≤ 1000000000) (hP : P.length ≤ 5000) (hN : N.length ≤ 5000) (h3 : ms.length ≤ 5000) (h4 : a.length ≤ 1000) (hw : fnW a ms n = none) : ∃ P' N', P'.length = P.length + 1 ∧ N'.length = N.length + 1 ∧ m__law_found [dk p a ms P N, mkF n 0] = .ok ⟨.imm, .none⟩ [dk p a (ms ++ [n]) P' N'] :=
  l_fnd_none h1 h2 hP hN h3 (by split <;> first | exact h4 | exact Nat.zero_le _) (by split <;> first | exact h4 | exact Nat.zero_le _) ((fnW_eq hp).trans hw)
theorem k_fnd_no (h1 : 1 ≤ n) (h2 : n ≤ 1000000000) : m__law_found [dk p a ms P N, mkF n 1] = .ok ⟨.imm, .str "no find"⟩ [dk p a ms P N] := l_fnd_no h1 h2
end
def evD (p : Int) (a ms : List Int) : PyData := .tuple [.int 1, ptyD, .tuple [filN (if p = 0 then a else []), filN (if p = 0 then [] else a)], .tuple (finN ms)]
theorem k_evi {p : Int} {a ms : List Int} {P N : List PyData} : m_Desk_evidence [dk p a ms P N] = .ok ⟨.imm, evD p a ms⟩ [] :=
  e_desk_evidence (by simp [lfs, lf_filN]) lfs_finN
theorem k_uno {p : Int} {a ms : List Int} {P N : List PyData} : ∃ es, unO (Str.ofString "Desk") (dk p a ms P N) = some es ∧ lkD (.inr (Str.ofString "evidence")) es = none :=
  ⟨[(.str (Str.ofString "kinds"), .int 1), (.str (Str.ofString "parties"), ptyD), (.str (Str.ofString "past"), .list P), (.str (Str.ofString "done"), .list N), (.str (Str.ofString "state"), stD [filN (if p = 0 then a else []), filN (if p = 0 then [] else a)] (finN ms))], by simp [dk, deskE, deskD], by simp⟩
/-! ### the loops -/
abbrev oR := Option R
noncomputable def lE (sc : oR) (p f : Int) (d : D) (l b fu t la fi : oR) : Ev := [sc, some ⟨.own, d⟩, some ⟨.imm, .int p⟩, some ⟨.imm, .int f⟩, none, l, b, fu, t, la, fi]
theorem loop0 {ns : List Int} {p : Int} (hp : p = 0 ∨ p = 1) {f : Nat} (hf : f ≤ 200) : ∃ P N, P.length = f ∧ N.length = f ∧ f_law_0 (lE (some ⟨.out, scrD (ns.map .int)⟩) p f (dk p [] [] [] []) none none none none none none) = .next (lE (some ⟨.out, scrD (ns.map .int)⟩) p f (dk p (odds f) [] P N) none none none none none none) := by
  obtain ⟨⟨P, N⟩, e, h1, h2⟩ := loop_st (g := gN 4) (b := l_law_0) (item := fun (k : Nat) => (⟨.imm, .int (0 + (k : Int))⟩ : R))
    (fun (s : List PyData × List PyData) => lE (some ⟨.out, scrD (ns.map .int)⟩) p f (dk p (odds s.1.length) [] s.1 s.2) none none none none none none)
    (fun pre s => s.1.length = pre.length ∧ s.2.length = pre.length) (List.range f) ([], []) (by simp) (by
      rintro pre x post ⟨P, N⟩ hx ⟨h1, h2⟩
      have hr := pre_rng hx
      simp only at h1 h2
      have hlen : pre.length = x ∧ x < f := by
        have := congrArg List.length hx
        simp at this
        have h3 : (List.range f)[pre.length]? = some x := by rw [hx]; simp
        rw [List.getElem?_range (by omega)] at h3
        exact ⟨Option.some.inj h3, by have := Option.some.inj h3; omega⟩
      obtain ⟨hx1, hx2⟩ := hlen
      have hw : entW (odds x) [] (2 * (x : Int) + 1) = none := by
        unfold entW
        rw [if_neg, if_neg (by simp), if_neg (by simp; omega)]
        rintro ⟨q, r⟩
        have hx0 : 0 < x := by
          rcases Nat.eq_zero_or_pos x with e | e
          · subst e; exact absurd rfl q
          · exact e
        rw [odds_last hx0] at r
        omega
      obtain ⟨P', N', e1, e2, e3⟩ := k_ent_none (P := P) (N := N) (p := p) hp (n := 2 * (x : Int) + 1) (by omega) (by omega) (by omega) (by omega) (by simp; omega) hw
      rw [← odds_s] at e3
      have e4 : P.length = x := by omega
      have e5 : P'.length = x + 1 := by omega
      refine ⟨(P', N'), ?_, by simp; omega, by simp; omega⟩
      simp only [e4, e5]
      unfold mkE at e3
      have l1 := lf_dk (p := p) (a := odds x) (ms := []) (P := P) (N := N)
      have l2 := lf_dk (p := p) (a := odds (x + 1)) (ms := []) (P := P') (N := N')
      generalize dk p (odds x) [] P N = D1 at *
      generalize dk p (odds (x + 1)) [] P' N' = D2 at *
      simp [x_stp, l_law_0, lE, e3, l1, l2, sizeLine])
  simp at h1 h2
  rw [← irng_map] at e
  simp only [h1] at e
  have hr : inR (f : Int) = true := inR_of (by omega) (by omega)
  refine ⟨P, N, h1, h2, ?_⟩
  have l1 := lf_dk (p := p) (a := []) (ms := []) (P := []) (N := [])
  have l2 := lf_dk (p := p) (a := odds f) (ms := []) (P := P) (N := N)
  have e0 : odds 0 = [] := rfl
  simp only [List.length_nil, e0] at e
  generalize dk p [] [] [] [] = D1 at *
  generalize dk p (odds f) [] P N = D2 at *
  simp [lE] at e
  simp [f_law_0, lE, hr, e, l1, l2]
theorem loop1 {ns : List Int} {p : Int} (hp : p = 0 ∨ p = 1) {f l : Nat} (hf : f ≤ 200) (hl : l ≤ 200) {P0 N0 : List PyData} (hP0 : P0.length = f) (hN0 : N0.length = f) : ∃ P N, P.length = f + l ∧ N.length = f + l ∧ f_law_1 (lE (some ⟨.out, scrD (ns.map .int)⟩) p f (dk p (odds f) [] P0 N0) (some ⟨.imm, .int l⟩) none none none none none) = .next (lE none p f (dk p (odds f) (evens l) P N) (some ⟨.imm, .int l⟩) none none none none none) := by
  obtain ⟨⟨P, N⟩, e, h1, h2⟩ := loop_st (g := gN 4) (b := l_law_1) (item := fun (k : Nat) => (⟨.imm, .int (0 + (k : Int))⟩ : R))
    (fun (s : List PyData × List PyData) => lE none p f (dk p (odds f) (evens (s.1.length - f)) s.1 s.2) (some ⟨.imm, .int l⟩) none none none none none)
    (fun pre s => s.1.length = f + pre.length ∧ s.2.length = f + pre.length) (List.range l) (P0, N0) (by simp [hP0, hN0]) (by
      rintro pre x post ⟨P, N⟩ hx ⟨h1, h2⟩
      simp only at h1 h2
      have hlen : pre.length = x ∧ x < l := by
        have := congrArg List.length hx
        simp at this
        have h3 : (List.range l)[pre.length]? = some x := by rw [hx]; simp
        rw [List.getElem?_range (by omega)] at h3
        exact ⟨Option.some.inj h3, by have := Option.some.inj h3; omega⟩
      obtain ⟨hx1, hx2⟩ := hlen
      have hw : fnW (odds f) (evens x) (2 * (x : Int) + 2) = none := by
        unfold fnW
        rw [if_neg, if_neg, if_neg (by simp; omega)]
        · rw [odds_mem]
          rintro ⟨j, _, q⟩
          omega
        · rintro ⟨q, r⟩
          have hx0 : 0 < x := by
            rcases Nat.eq_zero_or_pos x with e | e
            · subst e; exact absurd rfl q
            · exact e
          rw [evens_last hx0] at r
          omega
      obtain ⟨P', N', e1, e2, e3⟩ := k_fnd_none (P := P) (N := N) (p := p) hp (n := 2 * (x : Int) + 2) (by omega) (by omega) (by omega) (by omega) (by simp; omega) (by simp; omega) hw
      rw [← evens_s] at e3
      have e4 : P.length - f = x := by omega
      have e5 : P'.length - f = x + 1 := by omega
      refine ⟨(P', N'), ?_, by simp; omega, by simp; omega⟩
      simp only [e4, e5]
      unfold mkF at e3
      have l1 := lf_dk (p := p) (a := odds f) (ms := evens x) (P := P) (N := N)
      have l2 := lf_dk (p := p) (a := odds f) (ms := evens (x + 1)) (P := P') (N := N')
      generalize dk p (odds f) (evens x) P N = D1 at *
      generalize dk p (odds f) (evens (x + 1)) P' N' = D2 at *
      simp [x_stp, l_law_1, lE, e3, l1, l2, sizeLine])
  simp at h1 h2
  rw [← irng_map] at e
  have h3 : P.length - f = l := by omega
  have h4 : P0.length - f = 0 := by omega
  simp only [h3, h4] at e
  have hr : inR (l : Int) = true := inR_of (by omega) (by omega)
  refine ⟨P, N, h1, h2, ?_⟩
  have e0 : evens 0 = [] := rfl
  rw [e0] at e
  have l1 := lf_dk (p := p) (a := odds f) (ms := []) (P := P0) (N := N0)
  have l2 := lf_dk (p := p) (a := odds f) (ms := evens l) (P := P) (N := N)
  generalize dk p (odds f) [] P0 N0 = D1 at *
  generalize dk p (odds f) (evens l) P N = D2 at *
  simp [lE] at e
  simp [f_law_1, lE, hr, e, l1, l2]
end Law

namespace Law
open PySem Oz L2
variable [Oz.WD]
@[simp] theorem fEq_nn : fEq .none .none = some true := id rfl
section
variable {p : Int} {f l : Nat} {P N : List PyData}
theorem w_3 (hf : 196 ≤ f) (ms : List Int) : entW (odds f) ms 3 = some "numbers do not ascend" := by
  unfold entW
  rw [if_pos]
  exact ⟨odds_ne (by omega), by rw [odds_last (by omega)]; omega⟩
theorem w_2l (hf : 196 ≤ f) (hl : 196 ≤ l) : entW (odds f) (evens l) (2 * (l : Int)) = some (if 2 * (l : Int) ≤ 2 * (f : Int) - 1 then "numbers do not ascend" else "number is taken") := by
  unfold entW
  by_cases c : 2 * (l : Int) ≤ 2 * (f : Int) - 1
  · rw [if_pos ⟨odds_ne (by omega), by rw [odds_last (by omega)]; exact c⟩, if_pos c]
  · rw [if_neg fun z => c (by have := z.2; rw [odds_last (by omega)] at this; exact this), if_neg c]
    have : ((evens l).any fun m => m == 2 * (l : Int)) = true := by
      rw [any_mem, evens_mem]
      exact ⟨l - 1, by omega, by omega⟩
    rw [if_pos this]
theorem w_4 (hl : 196 ≤ l) : entW [] (evens l) 4 = some "number is taken" := by
  unfold entW
  rw [if_neg fun z => z.1 rfl]
  have : ((evens l).any fun m => m == (4 : Int)) = true := by
    rw [any_mem, evens_mem]
    exact ⟨1, by omega, by omega⟩
  rw [if_pos this]
theorem w_501 (hf : 196 ≤ f) (hf2 : f ≤ 200) (hl : l ≤ 200) : entW (odds f) (evens l) 501 = if f = 200 then some "too many entries" else none := by
  unfold entW
  rw [if_neg fun z => by have := z.2; rw [odds_last (by omega)] at this; omega]
  rw [if_neg (fun z => by rw [any_mem, evens_mem] at z; obtain ⟨j, _, e⟩ := z; omega)]
  rw [odds_len]
  by_cases c : f = 200
  · rw [if_pos (by omega), if_pos c]
  · rw [if_neg (by omega), if_neg c]
theorem v_2 (hl : 196 ≤ l) : fnW (odds f) (evens l) 2 = some "numbers do not ascend" := by
  unfold fnW
  rw [if_pos]
  exact ⟨evens_ne (by omega), by rw [evens_last (by omega)]; omega⟩
theorem v_2f (hf : 196 ≤ f) (hl : 196 ≤ l) : fnW (odds f) (evens l) (2 * (f : Int) - 1) = some (if 2 * (f : Int) - 1 ≤ 2 * (l : Int) then "numbers do not ascend" else "number is taken") := by
  unfold fnW
  by_cases c : 2 * (f : Int) - 1 ≤ 2 * (l : Int)
  · rw [if_pos ⟨evens_ne (by omega), by rw [evens_last (by omega)]; exact c⟩, if_pos c]
  · rw [if_neg fun z => c (by have := z.2; rw [evens_last (by omega)] at this; exact this), if_neg c]
    rw [if_pos]
    rw [odds_mem]
    exact ⟨f - 1, by omega, by omega⟩
theorem v_502 {a : List Int} (ha : ∀ n ∈ a, n ≤ 501) (hl : 196 ≤ l) (hl2 : l ≤ 200) : fnW a (evens l) 502 = if l = 200 then some "too many finds" else none := by
  unfold fnW
  rw [if_neg fun z => by have := z.2; rw [evens_last (by omega)] at this; omega]
  rw [if_neg (fun z => by have := ha _ z; omega)]
  rw [evens_len]
  by_cases c : l = 200
  · rw [if_pos (by omega), if_pos c]
  · rw [if_neg (by omega), if_neg c]
end
theorem sh_fil {ns : List Int} : Sh 2 (filN ns) := .tup fun d hd => by
  obtain ⟨n, _, rfl⟩ := List.mem_map.mp hd
  refine .tup fun d hd => ?_
  simp at hd
  rcases hd with rfl | rfl | rfl | rfl
  · exact .int
  · exact .lit
  · exact .int
  · exact .int
theorem sh_evD {p : Int} {a ms : List Int} : Sh 4 (evD p a ms) := by
  refine .tup fun d hd => ?_
  simp at hd
  rcases hd with rfl | rfl | rfl | rfl
  · exact .int
  · refine .tup fun d hd => ?_
    simp at hd
    subst hd
    refine .tup fun d hd => ?_
    simp at hd
    subst hd
    exact .bool
  · refine .tup fun d hd => ?_
    simp at hd
    rcases hd with rfl | rfl <;> exact sh_fil
  · refine .tup fun d hd => ?_
    obtain ⟨n, _, rfl⟩ := List.mem_map.mp hd
    refine .tup fun d hd => ?_
    simp at hd
    rcases hd with rfl | rfl | rfl | rfl <;> exact .int
/-- the end -/
theorem tail0 {p : Int} (hp : p = 0 ∨ p = 1) {f l : Nat} {a ms : List Int} {P N : List PyData} (ha : a.length = min 200 (f + 1)) (hm : ms.length = min 200 (l + 1)) {b fu t la : oR} :
    ∃ ρ, t_law_0 (lE none p f (dk p a ms P N) (some ⟨.imm, .int l⟩) b fu t la none) = .ret ⟨.imm, .bool true⟩ (none :: ρ) := by
  have hev := k_evi (p := p) (a := a) (ms := ms) (P := P) (N := N)
  obtain ⟨es, hu, hk⟩ := k_uno (p := p) (a := a) (ms := ms) (P := P) (N := N)
  have l1 := lf_dk (p := p) (a := a) (ms := ms) (P := P) (N := N)
  generalize dk p a ms P N = D at *
  unfold evD at hev
  have hat : atI [filN (if p = 0 then a else []), filN (if p = 0 then [] else a)] p = some (filN a) := by
    rcases hp with rfl | rfl <;> simp
  have l2 : lf (.tuple [filN (if p = 0 then a else []), filN (if p = 0 then [] else a)]) = true := by simp [lfs, lf_filN]
  have l3 : lf (.tuple (finN ms)) = true := lfs_finN
  have n1 : fLen (filN a) = some (.int (fMin2 200 ((f : Int) + 1))) := by
    unfold filN
    rw [x_len_t, List.length_map, ha]
    congr 2
    unfold fMin2
    split <;> omega
  have n2 : ((finN ms).length : Int) = fMin2 200 ((l : Int) + 1) := by
    unfold finN
    rw [List.length_map, hm]
    unfold fMin2
    split <;> omega
  have l4 := lf_filN (ns := a)
  generalize filN (if p = 0 then a else []) = F0 at *
  generalize filN (if p = 0 then [] else a) = F1 at *
  generalize filN a = FA at *
  generalize finN ms = M at *
  simp [t_law_0, lE, hu, hk, hev, l1, l2, l3, l4, hat, n1, n2]

theorem tail1 {p : Int} (hp : p = 0 ∨ p = 1) {f l : Nat} (hl : 196 ≤ l) (hl2 : l ≤ 200) {a : List Int} {P N : List PyData} (hP : P.length ≤ 4000) (hN : N.length ≤ 4000) (ha : a.length = min 200 (f + 1)) (ham : ∀ n ∈ a, n ≤ 501) {b fu t la : oR} :
    ∃ ρ, t_law_1 (lE none p f (dk p a (evens l) P N) (some ⟨.imm, .int l⟩) b fu t la none) = .ret ⟨.imm, .bool true⟩ (none :: ρ) := by
  have hw := v_502 ham hl hl2
  have l1 := lf_dk (p := p) (a := a) (ms := evens l) (P := P) (N := N)
  by_cases c : l = 200
  · rw [if_pos c] at hw
    have hc := k_fnd_some (P := P) (N := N) (p := p) hp (n := 502) (by omega) (by omega) (by omega) (by omega) (by simp; omega) (by rw [ha]; omega) hw
    obtain ⟨ρ, ht⟩ := tail0 (l := l) (P := P) (N := N) (ms := evens l) (b := b) (fu := fu) (t := t) (la := la) hp ha (by rw [evens_len]; omega)
    refine ⟨ρ, ?_⟩
    rw [← ht]
    generalize dk p a (evens l) P N = D at *
    unfold mkF at hc
    have c2 : (l : Int) = 200 := by omega
    simp only [lE, c2]
    simp [t_law_1, hc, l1, sizeLine]
  · rw [if_neg c] at hw
    obtain ⟨P', N', e1, e2, hc⟩ := k_fnd_none (P := P) (N := N) (p := p) hp (n := 502) (by omega) (by omega) (by omega) (by omega) (by simp; omega) (by rw [ha]; omega) hw
    obtain ⟨ρ, ht⟩ := tail0 (l := l) (P := P') (N := N') (ms := evens l ++ [502]) (b := b) (fu := fu) (t := t) (la := la) hp ha (by simp; omega)
    refine ⟨ρ, ?_⟩
    rw [← ht]
    generalize dk p a (evens l) P N = D at *
    have l2 := lf_dk (p := p) (a := a) (ms := evens l ++ [502]) (P := P') (N := N')
    generalize dk p a (evens l ++ [502]) P' N' = D2 at *
    unfold mkF at hc
    have c2 : ¬ (l : Int) = 200 := by omega
    simp [t_law_1, lE, hc, l1, l2, c2, sizeLine]
theorem tail2 {p : Int} (hp : p = 0 ∨ p = 1) {f l : Nat} (hf : 196 ≤ f) (hf2 : f ≤ 200) (hl : 196 ≤ l) (hl2 : l ≤ 200) {P N : List PyData} (hP : P.length ≤ 3000) (hN : N.length ≤ 3000) {b t la : oR} :
    ∃ ρ, t_law_2 (lE none p f (dk p (odds f) (evens l) P N) (some ⟨.imm, .int l⟩) b (some ⟨.imm, .bool ((f : Int) == 200)⟩) t la none) = .ret ⟨.imm, .bool true⟩ (none :: ρ) := by
  have hw := w_501 hf hf2 hl2
  have l1 := lf_dk (p := p) (a := odds f) (ms := evens l) (P := P) (N := N)
  have hodd : ∀ n ∈ odds f, n ≤ 501 := fun n hn => by
    rw [odds_mem] at hn
    obtain ⟨j, _, e⟩ := hn
    omega
  by_cases c : f = 200
  · rw [if_pos c] at hw
    have hc := k_ent_some (P := P) (N := N) (p := p) hp (n := 501) (by omega) (by omega) (by omega) (by omega) (by simp; omega) hw
    obtain ⟨ρ, ht⟩ := tail1 (f := f) (P := P) (N := N) (b := b) (fu := some ⟨.imm, .bool ((f : Int) == 200)⟩) (t := t) (la := la) hp hl hl2 (by omega) (by omega) (a := odds f) (by rw [odds_len]; omega) hodd
    refine ⟨ρ, ?_⟩
    rw [← ht]
    generalize dk p (odds f) (evens l) P N = D at *
    unfold mkE at hc
    have c2 : (f : Int) = 200 := by omega
    simp only [lE, c2]
    simp [t_law_2, hc, l1, sizeLine]
  · rw [if_neg c] at hw
    obtain ⟨P', N', e1, e2, hc⟩ := k_ent_none (P := P) (N := N) (p := p) hp (n := 501) (by omega) (by omega) (by omega) (by omega) (by simp; omega) hw
    obtain ⟨ρ, ht⟩ := tail1 (f := f) (P := P') (N := N') (b := b) (fu := some ⟨.imm, .bool ((f : Int) == 200)⟩) (t := t) (la := la) hp hl hl2 (by omega) (by omega) (a := odds f ++ [501]) (by simp; omega) (fun n hn => by
      rcases List.mem_append.mp hn with h | h
      · exact hodd n h
      · simp at h; omega)
    refine ⟨ρ, ?_⟩
    rw [← ht]
    generalize dk p (odds f) (evens l) P N = D at *
    have l2 := lf_dk (p := p) (a := odds f ++ [501]) (ms := evens l) (P := P') (N := N')
    generalize dk p (odds f ++ [501]) (evens l) P' N' = D2 at *
    unfold mkE at hc
    have c2 : ¬ (f : Int) = 200 := by omega
    simp [t_law_2, lE, hc, l1, l2, c2, sizeLine]
theorem tail5 {p : Int} (hp : p = 0 ∨ p = 1) {f l : Nat} (hf : 196 ≤ f) (hf2 : f ≤ 200) (hl : 196 ≤ l) (hl2 : l ≤ 200) {P N : List PyData} (hP : P.length ≤ 3000) (hN : N.length ≤ 3000) {t la : D} :
    ∃ ρ, t_law_5 (lE none p f (dk p (odds f) (evens l) P N) (some ⟨.imm, .int l⟩) (some ⟨.imm, evD p (odds f) (evens l)⟩) (some ⟨.imm, .bool ((f : Int) == 200)⟩) (some ⟨.own, t⟩) (some ⟨.imm, la⟩) none) = .ret ⟨.imm, .bool true⟩ (none :: ρ) := by
  have hA := k_fnd_no (p := p) (a := odds f) (ms := evens l) (P := P) (N := N) (n := 502) (by omega) (by omega)
  have hB := k_fnd_some (P := P) (N := N) (p := p) hp (n := 2) (by omega) (by omega) (by omega) (by omega) (by simp; omega) (by simp; omega) (v_2 (f := f) hl)
  have hC := k_fnd_some (P := P) (N := N) (p := p) hp (n := 2 * (f : Int) - 1) (by omega) (by omega) (by omega) (by omega) (by simp; omega) (by simp; omega) (v_2f hf hl)
  have l1 := lf_dk (p := p) (a := odds f) (ms := evens l) (P := P) (N := N)
  have hev := k_evi (p := p) (a := odds f) (ms := evens l) (P := P) (N := N)
  obtain ⟨es, hu, hk⟩ := k_uno (p := p) (a := odds f) (ms := evens l) (P := P) (N := N)
  have hsh := fEq_refl (sh_evD (p := p) (a := odds f) (ms := evens l)).shaped
  obtain ⟨ρ, ht⟩ := tail2 hp hf hf2 hl hl2 hP hN (b := some ⟨.imm, evD p (odds f) (evens l)⟩) (t := some ⟨.own, .list [.str "no find", .str "numbers do not ascend", .str (if 2 * (f : Int) - 1 ≤ 2 * (l : Int) then "numbers do not ascend" else "number is taken")]⟩) (la := some ⟨.imm, .str (if 2 * (f : Int) - 1 ≤ 2 * (l : Int) then "numbers do not ascend" else "number is taken")⟩)
  refine ⟨ρ, ?_⟩
  rw [← ht]
  generalize dk p (odds f) (evens l) P N = D at *
  generalize evD p (odds f) (evens l) = EV at *
  unfold mkF at hA hB hC
  have hs : ∀ x y : String, fEq (.list [.str "no find", .str "numbers do not ascend", .str x]) (.list [.str "no find", .str "numbers do not ascend", .str x]) = some true := fun x y => fEq_refl (Sh.shaped (n := 1) (.list fun d hd => by
    simp at hd
    rcases hd with rfl | rfl | rfl <;> exact .lit))
  by_cases c : 2 * (f : Int) - 1 ≤ 2 * (l : Int)
  · have h1 := hs "numbers do not ascend" ""
    rw [if_pos c] at hC
    simp [t_law_5, t_law_4, t_law_3, lE, hA, hB, hC, l1, c, h1, hu, hk, hev, hsh, sizeLine]
  · have h1 := hs "number is taken" ""
    rw [if_neg c] at hC
    simp [t_law_5, t_law_4, t_law_3, lE, hA, hB, hC, l1, c, h1, hu, hk, hev, hsh, sizeLine]
theorem tail9 {p : Int} (hp : p = 0 ∨ p = 1) {f l : Nat} (hf : 196 ≤ f) (hf2 : f ≤ 200) (hl : 196 ≤ l) (hl2 : l ≤ 200) {P N : List PyData} (hP : P.length ≤ 3000) (hN : N.length ≤ 3000) :
    ∃ ρ, t_law_9 (lE none p f (dk p (odds f) (evens l) P N) (some ⟨.imm, .int l⟩) (some ⟨.imm, evD p (odds f) (evens l)⟩) (some ⟨.imm, .bool ((f : Int) == 200)⟩) none none none) = .ret ⟨.imm, .bool true⟩ (none :: ρ) := by
  have hA := k_ent_no (p := p) (a := odds f) (ms := evens l) (P := P) (N := N) (n := 501) (by omega) (by omega)
  have hB := k_ent_some (P := P) (N := N) (p := p) hp (n := 3) (by omega) (by omega) (by omega) (by omega) (by simp; omega) (w_3 (f := f) hf (evens l))
  have hC := k_ent_some (P := P) (N := N) (p := p) hp (n := 2 * (l : Int)) (by omega) (by omega) (by omega) (by omega) (by simp; omega) (w_2l hf hl)
  have hE := k_oth_some (a := odds f) (P := P) (N := N) (p := p) hp (n := 4) (by omega) (by omega) (by omega) (by omega) (w_4 hl)
  have l1 := lf_dk (p := p) (a := odds f) (ms := evens l) (P := P) (N := N)
  obtain ⟨ρ, ht⟩ := tail5 hp hf hf2 hl hl2 hP hN (t := .list [.str "no entry", .str "numbers do not ascend", .str (if 2 * (l : Int) ≤ 2 * (f : Int) - 1 then "numbers do not ascend" else "number is taken"), .str "number is taken"]) (la := .str (if 2 * (l : Int) ≤ 2 * (f : Int) - 1 then "numbers do not ascend" else "number is taken"))
  refine ⟨ρ, ?_⟩
  rw [← ht]
  generalize dk p (odds f) (evens l) P N = D at *
  generalize evD p (odds f) (evens l) = EV at *
  unfold mkE at hA hB hC hE
  have hs : ∀ x : String, fEq (.list [.str "no entry", .str "numbers do not ascend", .str x, .str "number is taken"]) (.list [.str "no entry", .str "numbers do not ascend", .str x, .str "number is taken"]) = some true := fun x => fEq_refl (Sh.shaped (n := 1) (.list fun d hd => by
    simp at hd
    rcases hd with rfl | rfl | rfl | rfl <;> exact .lit))
  by_cases c : 2 * (l : Int) ≤ 2 * (f : Int) - 1
  · have h1 := hs "numbers do not ascend"
    rw [if_pos c] at hC
    simp [t_law_9, t_law_8, t_law_7, t_law_6, lE, hA, hB, hC, hE, l1, c, h1, sizeLine]
  · have h1 := hs "number is taken"
    rw [if_neg c] at hC
    simp [t_law_9, t_law_8, t_law_7, t_law_6, lE, hA, hB, hC, hE, l1, c, h1, sizeLine]
theorem law_true : ∀ ns : List Int, ns.length ≤ 63 → m_law [scrD (ns.map .int)] = .ok ⟨.imm, .bool true⟩ [] := fun ns hns => by
  have c0 : m__law_cell [scrD (ns.map .int), .int 0] = _ := e_cell ns 0
  have c1 : m__law_cell [scrD (ns.map .int), .int 1] = _ := e_cell ns 1
  have c2 : m__law_cell [scrD (ns.map .int), .int 2] = _ := e_cell ns 2
  have hp : dr ns 0 % 2 = 0 ∨ dr ns 0 % 2 = 1 := by omega
  obtain ⟨f, ef, hf, hf2⟩ : ∃ f : Nat, 196 + dr ns 1 % 5 = (f : Int) ∧ 196 ≤ f ∧ f ≤ 200 := ⟨(196 + dr ns 1 % 5).toNat, by omega, by omega, by omega⟩
  obtain ⟨l, el, hl, hl2⟩ : ∃ f : Nat, 196 + dr ns 2 % 5 = (f : Int) ∧ 196 ≤ f ∧ f ≤ 200 := ⟨(196 + dr ns 2 % 5).toNat, by omega, by omega, by omega⟩
  generalize ep : dr ns 0 % 2 = p at *
  obtain ⟨P0, N0, h1, h2, e1⟩ := loop0 (ns := ns) hp hf2
  obtain ⟨P, N, h3, h4, e2⟩ := loop1 (ns := ns) hp hf2 hl2 h1 h2
  obtain ⟨ρ, e3⟩ := tail9 hp hf hf2 hl hl2 (P := P) (N := N) (by omega) (by omega)
  have hi := e_init
  have ed : deskD (stD [.tuple [], .tuple []] []) [] [] = dk p [] [] [] [] := by
    rcases hp with rfl | rfl <;> rfl
  rw [ed] at hi
  have hev := k_evi (p := p) (a := odds f) (ms := evens l) (P := P) (N := N)
  obtain ⟨es, hu, hk⟩ := k_uno (p := p) (a := odds f) (ms := evens l) (P := P) (N := N)
  have l0 := lf_dk (p := p) (a := []) (ms := []) (P := []) (N := [])
  have l1 := lf_dk (p := p) (a := odds f) (ms := evens l) (P := P) (N := N)
  have l2 := lf_dk (p := p) (a := odds f) (ms := []) (P := P0) (N := N0)
  generalize dk p [] [] [] [] = D0 at *
  generalize dk p (odds f) [] P0 N0 = D1 at *
  generalize dk p (odds f) (evens l) P N = D2 at *
  generalize evD p (odds f) (evens l) = EV at *
  simp only [lE] at e1 e2 e3
  simp [m_law, b_law, t_law_16, t_law_15, t_law_14, t_law_13, t_law_12, t_law_11, t_law_10, c0, c1, c2, hi, l0, l1, l2, ep, ef, e1, e2, el, hu, hk, hev, e3, sizeLine]
end Law

namespace Law
open PySem PySem.Spec L2 Oz
open PyProof.Rows hiding St
theorem txt [WD] {w : World} (hw : w = WD.w) {K : PySem.W.Frag} {h : Heap} {mg : Str → Option Value} (X : K.In h) (G : h.Ns mainGlobals mg) (c : He.SaysD fa fn K) (k : ck K = true) (dk : dn.map (fun q => He.dicW K (He.ga K q.1)) = dn.map (fun q => some (He.keysIn w.params q.2))) {base : Heap} (cz0 : SaysE fa fn ck dn tf rs fl w h K) (cz : SaysZ fa fn ck dn tf w h K) (tb : ∀ p ∈ tf, GxR.TabB base mg (He.cT K p).1 (He.cT K p).2) : Txt (PySem.Challenge.rw_notetrail_k41_full_desks).prog w K mg base where
  hw := hw
  f_Desk___init__ := by
    obtain ⟨fd, F⟩ := c.def_ 0 (d := d_Desk___init__) rfl
    exact ⟨_, fd, F, He.mkr_ok (c.fact 0 (f := .mkr "Desk") rfl)⟩
  f_Desk_evidence := by
    obtain ⟨fd, F⟩ := c.def_ 1 (d := d_Desk_evidence) rfl
    exact ⟨_, fd, F, He.meth_ok (c.fact 1 (f := .meth "Desk" "evidence") rfl)⟩
  f__law_cell := by
    obtain ⟨fd, F⟩ := c.def_ 2 (d := d__law_cell) rfl
    exact ⟨_, fd, F, He.glo_ok X G (c.fact 2 (f := .glo "_law_cell") rfl)⟩
  f_Desk_step := by
    obtain ⟨fd, F⟩ := c.def_ 3 (d := d_Desk_step) rfl
    exact ⟨_, fd, F, He.meth_ok (c.fact 3 (f := .meth "Desk" "step") rfl)⟩
  f_is_number := by
    obtain ⟨fd, F⟩ := c.def_ 4 (d := d_is_number) rfl
    exact ⟨_, fd, F, He.glo_ok X G (c.fact 4 (f := .glo "is_number") rfl)⟩
  f_is_flag := by
    obtain ⟨fd, F⟩ := c.def_ 5 (d := d_is_flag) rfl
    exact ⟨_, fd, F, He.glo_ok X G (c.fact 5 (f := .glo "is_flag") rfl)⟩
  f_is_entry := by
    obtain ⟨fd, F⟩ := c.def_ 6 (d := d_is_entry) rfl
    exact ⟨_, fd, F, He.glo_ok X G (c.fact 6 (f := .glo "is_entry") rfl)⟩
  f_Desk_with_file := by
    obtain ⟨fd, F⟩ := c.def_ 7 (d := d_Desk_with_file) rfl
    exact ⟨_, fd, F, He.meth_ok (c.fact 7 (f := .meth "Desk" "with_file") rfl)⟩
  f_Desk_enter := by
    obtain ⟨fd, F⟩ := c.def_ 8 (d := d_Desk_enter) rfl
    exact ⟨_, fd, F, He.meth_ok (c.fact 8 (f := .meth "Desk" "enter") rfl), code_of F⟩
  tb_Desk_enter := tb ("Desk", some "enter") (by simp [tf])
  tp_Desk_enter := by rw [cz.tk]; exact List.mem_map.mpr ⟨("Desk", some "enter"), by simp [tf], rfl⟩
  f__law_entered := by
    obtain ⟨fd, F⟩ := c.def_ 9 (d := d__law_entered) rfl
    exact ⟨_, fd, F, He.glo_ok X G (c.fact 9 (f := .glo "_law_entered") rfl)⟩
  f_is_find := by
    obtain ⟨fd, F⟩ := c.def_ 10 (d := d_is_find) rfl
    exact ⟨_, fd, F, He.glo_ok X G (c.fact 10 (f := .glo "is_find") rfl)⟩
  f_entry_numbers := by
    obtain ⟨fd, F⟩ := c.def_ 11 (d := d_entry_numbers) rfl
    exact ⟨_, fd, F, He.glo_ok X G (c.fact 11 (f := .glo "entry_numbers") rfl)⟩
  f_Desk_found := by
    obtain ⟨fd, F⟩ := c.def_ 12 (d := d_Desk_found) rfl
    exact ⟨_, fd, F, He.meth_ok (c.fact 12 (f := .meth "Desk" "found") rfl)⟩
  f__law_found := by
    obtain ⟨fd, F⟩ := c.def_ 13 (d := d__law_found) rfl
    exact ⟨_, fd, F, He.glo_ok X G (c.fact 13 (f := .glo "_law_found") rfl)⟩
  f_law := by
    obtain ⟨fd, F⟩ := c.def_ 14 (d := d_law) rfl
    exact ⟨_, fd, F, He.glo_ok X G (c.fact 14 (f := .glo "law") rfl)⟩
  cl_Desk := He.cls_ok (c.fact 15 (f := .cls "Desk") rfl)
  g_Desk := He.glo_ok X G (c.fact 16 (f := .glo "Desk") rfl)
  na_Desk_kinds := He.noat_ok (c.fact 17 (f := .noat "Desk" "kinds") rfl)
  na_Desk_parties := He.noat_ok (c.fact 18 (f := .noat "Desk" "parties") rfl)
  na_Desk_past := He.noat_ok (c.fact 19 (f := .noat "Desk" "past") rfl)
  na_Desk_done := He.noat_ok (c.fact 20 (f := .noat "Desk" "done") rfl)
  na_Desk_state := He.noat_ok (c.fact 21 (f := .noat "Desk" "state") rfl)
  g_PLAIN_DEEDS := He.glo_ok X G (c.fact 22 (f := .glo "PLAIN_DEEDS") rfl)
  t_PLAIN_DEEDS := fun C => tup_glob (vs := [.str "made", .str "treated"]) (ck_0 k) rfl C
  g_COPY_DEEDS := He.glo_ok X G (c.fact 23 (f := .glo "COPY_DEEDS") rfl)
  t_COPY_DEEDS := fun C => tup_glob (vs := [.str "gave", .str "took"]) (ck_1 k) rfl C
  g_NUMBER_MOST := He.int_ok X G (c.fact 24 (f := .int "NUMBER_MOST" 1000000000) rfl)
  g_AMOUNT_MOST := He.int_ok X G (c.fact 25 (f := .int "AMOUNT_MOST" 1000000000000) rfl)
  g_ROWS_MOST := He.int_ok X G (c.fact 26 (f := .int "ROWS_MOST" 200) rfl)
  b_tuple := He.free_ok X G (c.fact 27 (f := .free "tuple") rfl)
  b_len := He.free_ok X G (c.fact 28 (f := .free "len") rfl)
  b_isinstance := He.free_ok X G (c.fact 29 (f := .free "isinstance") rfl)
  b_int := He.free_ok X G (c.fact 30 (f := .free "int") rfl)
  b_bool := He.free_ok X G (c.fact 31 (f := .free "bool") rfl)
  b_str := He.free_ok X G (c.fact 32 (f := .free "str") rfl)
  b_enumerate := He.free_ok X G (c.fact 33 (f := .free "enumerate") rfl)
  b_any := He.free_ok X G (c.fact 34 (f := .free "any") rfl)
  b_range := He.free_ok X G (c.fact 35 (f := .free "range") rfl)
  b_min := He.free_ok X G (c.fact 36 (f := .free "min") rfl)
  rf_Refused := cz0.rf 0 (r := ⟨"Refused", xp_Refused⟩) rfl rfl (by kernel_rfl) (fun _ _ _ _ _ => ⟨_, rfl⟩) (He.glo_ok X G (c.fact 37 (f := .glo "Refused") rfl)) (He.free_ok X G (c.fact 38 (f := .free "super") rfl))
theorem facts [WD] {w : World} {K : PySem.W.Frag} {h : Heap} {mg : Str → Option Value} {fa' : Addr} (X : K.In h) (G : h.Ns mainGlobals mg) (hfa : mg ("law" : Str) = some (.ref fa')) (c : He.SaysD fa fn K) (k : ck K = true) (dk : dn.map (fun q => He.dicW K (He.ga K q.1)) = dn.map (fun q => some (He.keysIn w.params q.2))) (cz0 : SaysE fa fn ck dn tf rs fl w h K) (cz : SaysZ fa fn ck dn tf w h K) (hw : w = WD.w) :
    ∃ fd : FuncData, (∀ (s : Shared) (v : Value), BindsTo s fd ⟨[v], []⟩ [("_law_script", v)]) ∧ ∀ base : Heap, K.In base → base.Ns mainGlobals mg → (∀ p ∈ tf, GxR.TabB base mg (He.cT K p).1 (He.cT K p).2) → FnOk (PySem.Challenge.rw_notetrail_k41_full_desks).prog w K mg base CX0 5 fa' fd ["_law_script"] (spF K [.v] m_law) := by
  obtain ⟨fd, F⟩ := c.def_ 14 (d := d_law) rfl
  have hm : mg ("law" : Str) = some (.ref _) := He.glo_ok X G (c.fact 14 (f := .glo "law") rfl)
  have e := hfa.symm.trans hm
  cases e
  have b := FunD.bindsA (ps := ["_law_script"]) F fun _ _ _ _ _ _ us hl => match us, hl with | [_], _ => rfl
  exact ⟨fd, fun s v => b s [v] rfl, fun base _ _ tb => ok_law (txt hw X G c k dk cz0 cz tb) F⟩
end Law
open PySem PySem.W PySem.Calls PyProof.Rows
theorem PySem.Challenge.cw_notetrail_k41_full_desks_holds : PySem.Challenge.rw_notetrail_k41_full_desks.Holds := by
  w_on; o_law
  refine HandSHeadRun.head_any (r := OpenLaw.row PySem.Challenge.rw_notetrail_k41_full_desks) (q := view (OpenLaw.row PySem.Challenge.rw_notetrail_k41_full_desks).prog [22]) (H := Law.hk) (ob := Law.ob) (M := 3000) (loose := Law.loose) (d := HandSHeadRun.topDef (OpenLaw.row PySem.Challenge.rw_notetrail_k41_full_desks).prog 22) (kwd := []) Law.ob_eq
    (by kernel_rfl) (fun s => by kernel_rfl) Law.run (by kernel_rfl) (by kernel_rfl) (by kernel_rfl) (by rfl) (by first | assumption | decide +kernel) (by decide +kernel) ⟨rfl, rfl, rfl, rfl, rfl, by decide +kernel⟩ ?hw ?hc
  case hw => w_witness2
  case hc =>
    refine Oz.walk_ofTsE (l := PySem.Challenge.rw_notetrail_k41_full_desks) (n := 63) (k := 5) (x := "_law_script") rfl (by decide) (by kernel_rfl) ⟨rfl, by decide, by decide⟩ ?F
    intro w mg fa h Y G hmg0
    letI : Oz.WD := ⟨(PySem.Challenge.rw_notetrail_k41_full_desks).prog, w⟩
    obtain ⟨K, KX, cz0⟩ := Y
    have cz := cz0.toSaysZ
    have hmg : mg ("law" : PySem.Str) = some (.ref fa) := by
      have e : (HandSHeadRun.topDef (OpenLaw.row PySem.Challenge.rw_notetrail_k41_full_desks).prog 22).name = ("law" : PySem.Str) := by kernel_rfl
      rw [← e]
      exact hmg0
    obtain ⟨fd, hb, hF⟩ := Law.facts (w := w) KX G hmg cz.d cz.ck cz.dn cz0 cz rfl
    exact ⟨K, KX, Oz.lawAt KX cz hb Law.law_true hF⟩
