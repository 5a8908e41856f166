import PyProof.Rows.All
import Wide.All
import OpenK.AllK
import Wide.FinOn
import HandS.ForMost
import HandS.ForExc
import HandS.TupAny
import HandS.Deep
import HandS.Style
import HandS.Zip
import HandS.StrMore
import HandS.TupMul
import HandS.IsInst
import HandS.Comp
import KE.GoesEnum
import HandS.SetFor
import HandS.ReplaceLit
import KE.SortData
import KE.KSortTup
import HandS.Set
import HandS.SetKeys
import HandS.ExcIs
import HandS.HotCalls
import HandS.Dict
import HandS.Iter
import KE.KDictList
import KE.KDictSum
import PyProof.ListStr
import HandS.TupSets
import KE.RegKIsAll
import KE.RegKTryMore
import PySem.Challenge.RW_coinshapes_k20_whole_sweeps
set_option Elab.async false
set_option linter.all false
set_option maxRecDepth 100000
set_option maxHeartbeats 4000000
/-! CoA: the data layer over L2: what a state is worth as plain data. -/
namespace CO
open PySem PySem.Spec PyProof.Rows L2

abbrev D := PyData
abbrev St := L2.St
/-- who owns an object: a slot, a world object, a result on its way -/
inductive Ix where
  | s (i : Nat) | w (j : Nat) | r
  deriving DecidableEq
/-- objects that outlive the names: the law's town, a Table -/
inductive Ob where
  | tn (k : Nat)
  | tb (g : D) (rows : List D) (kept : Int)
inductive Ent where
  | no
  | sh (d : D)
  | ow (ds : List D)
  | dk (kvs : List (Key × D))
  | wr (j : Nat)
  | sc (ns : List Int)
  | fz (kvs : List (Key × D))
structure En where
  sl : List Ent
  wd : List Ob
def En.get (en : En) (i : Nat) : Ent := en.sl.getD i .no
def En.set (en : En) (i : Nat) (e : Ent) : En := { en with sl := en.sl.set i e }
/-- what a program's top says: its written part, the class Table, the exceptions' classes; the script -/
structure Kx where
  K : PySem.W.Frag
  T : Addr
  ec : Nat → Addr
/-- a snapshot: the world objects' addresses, the owners, the heap that stays, the heap -/
structure Sn where
  ad : List Addr
  O : Addr → Option Ix
  G : Hp
  H : Hp

/-! ### data in a heap that grows -/
mutual
/-- v is worth d in G -/
inductive Dq (G : Hp) : V → D → Prop
  | non : Dq G .non .none
  | bl (b : Bool) : Dq G (.bl b) (.bool b)
  | int (i : Int) : Dq G (.int i) (.int i)
  | str (x : Str) : Dq G (.str x) (.str x)
  | lst {a : Addr} {xs : List V} {ds : List D} : G a = some (.lst xs) → DqAll G xs ds → Dq G (.ref a) (.list ds)
  | tup {a : Addr} {xs : List V} {ds : List D} : G a = some (.tup xs) → DqAll G xs ds → Dq G (.ref a) (.tuple ds)
inductive DqAll (G : Hp) : List V → List D → Prop
  | nil : DqAll G [] []
  | cons {v : V} {vs : List V} {d : D} {ds : List D} : Dq G v d → DqAll G vs ds → DqAll G (v :: vs) (d :: ds)
end
section
variable {K : PySem.W.Frag} {G G' : Hp}
mutual
theorem dq_dp : ∀ (d : D) (v : V), Dq G v d → Dp K G v d
  | .none, _, q => by cases q; exact .non
  | .bool b, _, q => by cases q; exact .bl b
  | .int i, _, q => by cases q; exact .int i
  | .str x, _, q => by cases q; exact .str x
  | .list ds, _, q => by
    cases q with
    | lst hs ha => exact .lst (SqL.of hs) (dqa_dp ds _ ha)
  | .tuple ds, _, q => by
    cases q with
    | tup hs ha => exact .tup (SqT.of hs) (dqa_dp ds _ ha)
  | .dict _, _, q => by cases q
theorem dqa_dp : ∀ (ds : List D) (vs : List V), DqAll G vs ds → DpAll K G vs ds
  | [], _, q => by cases q; exact .nil
  | d :: ds, _, q => by
    cases q with
    | cons q1 q2 => exact .cons (dq_dp d _ q1) (dqa_dp ds _ q2)
end
mutual
theorem dp_mono (h : Same G G') : ∀ (d : D) (v : V), Dq G v d → Dq G' v d
  | .none, _, q => by cases q; exact .non
  | .bool b, _, q => by cases q; exact .bl b
  | .int i, _, q => by cases q; exact .int i
  | .str x, _, q => by cases q; exact .str x
  | .list ds, _, q => by
    cases q with
    | lst hs ha => exact .lst (h _ _ hs) (dpa_mono h ds _ ha)
  | .tuple ds, _, q => by
    cases q with
    | tup hs ha => exact .tup (h _ _ hs) (dpa_mono h ds _ ha)
  | .dict _, _, q => by cases q
theorem dpa_mono (h : Same G G') : ∀ (ds : List D) (vs : List V), DqAll G vs ds → DqAll G' vs ds
  | [], _, q => by cases q; exact .nil
  | d :: ds, _, q => by
    cases q with
    | cons q1 q2 => exact .cons (dp_mono h d _ q1) (dpa_mono h ds _ q2)
end
theorem dpa_len : ∀ {ds : List D} {vs : List V}, DqAll G vs ds → vs.length = ds.length
  | [], _, .nil => rfl
  | _ :: _, _, .cons _ h => by rw [List.length_cons, List.length_cons, dpa_len h]
theorem dpa_get : ∀ {ds : List D} {vs : List V} {i : Nat} {d : D}, DqAll G vs ds → ds[i]? = some d → ∃ v, vs[i]? = some v ∧ Dq G v d
  | _, _, _, _, .nil, h => by simp at h
  | _ :: _, _, 0, _, .cons q _, h => by
    simp at h; subst h; exact ⟨_, rfl, q⟩
  | _ :: _, _, i + 1, _, .cons _ t, h => by
    obtain ⟨v, h1, h2⟩ := dpa_get (i := i) t (by simpa using h)
    exact ⟨v, by simpa using h1, h2⟩
theorem dpa_get' : ∀ {ds : List D} {vs : List V} {i : Nat} {v : V}, DqAll G vs ds → vs[i]? = some v → ∃ d, ds[i]? = some d ∧ Dq G v d
  | _, _, _, _, .nil, h => by simp at h
  | _ :: _, _, 0, _, .cons q _, h => by
    simp at h; subst h; exact ⟨_, rfl, q⟩
  | _ :: _, _, i + 1, _, .cons _ t, h => by
    obtain ⟨v, h1, h2⟩ := dpa_get' (i := i) t (by simpa using h)
    exact ⟨v, by simpa using h1, h2⟩
theorem dpa_app : ∀ {ds es : List D} {vs us : List V}, DqAll G vs ds → DqAll G us es → DqAll G (vs ++ us) (ds ++ es)
  | _, _, _, _, .nil, h => h
  | _, _, _, _, .cons q t, h => .cons q (dpa_app t h)
theorem dpa_one {v : V} {d : D} (h : Dq G v d) : DqAll G [v] [d] := .cons h .nil
theorem dpa_take : ∀ {ds : List D} {vs : List V} (n : Nat), DqAll G vs ds → DqAll G (vs.take n) (ds.take n)
  | _, _, 0, _ => by simp; exact .nil
  | _, _, _ + 1, .nil => .nil
  | _, _, n + 1, .cons q t => .cons q (dpa_take n t)
theorem dpa_drop : ∀ {ds : List D} {vs : List V} (n : Nat), DqAll G vs ds → DqAll G (vs.drop n) (ds.drop n)
  | _, _, 0, h => h
  | _, _, _ + 1, .nil => .nil
  | _, _, n + 1, .cons _ t => dpa_drop n t
theorem dpa_set : ∀ {ds : List D} {vs : List V} {v : V} {d : D} (n : Nat), DqAll G vs ds → Dq G v d → DqAll G (vs.set n v) (ds.set n d)
  | _, _, _, _, _, .nil, _ => .nil
  | _, _, _, _, 0, .cons _ t, h => .cons h t
  | _, _, _, _, n + 1, .cons q t, h => .cons q (dpa_set n t h)
theorem dp_int {v : V} {i : Int} (h : Dq G v (.int i)) : v = .int i := by cases h; rfl
theorem dp_bool {v : V} {b : Bool} (h : Dq G v (.bool b)) : v = .bl b := by cases h; rfl
theorem dp_str {v : V} {x : Str} (h : Dq G v (.str x)) : v = .str x := by cases h; rfl
theorem dp_none {v : V} (h : Dq G v .none) : v = .non := by cases h; rfl
theorem dp_list {v : V} {ds : List D} (h : Dq G v (.list ds)) : ∃ a xs, v = .ref a ∧ G a = some (.lst xs) ∧ DqAll G xs ds := by
  cases h with
  | lst h1 h2 => exact ⟨_, _, rfl, h1, h2⟩
theorem dp_tuple {v : V} {ds : List D} (h : Dq G v (.tuple ds)) : ∃ a xs, v = .ref a ∧ G a = some (.tup xs) ∧ DqAll G xs ds := by
  cases h with
  | tup h1 h2 => exact ⟨_, _, rfl, h1, h2⟩
theorem dpa_strs : ∀ {xs : List Str} {vs : List V}, DqAll G vs (xs.map .str) → vs = xs.map V.str
  | [], _, .nil => rfl
  | _ :: _, _, .cons q t => by rw [dp_str q, dpa_strs t]; rfl
theorem dpa_ints : ∀ {xs : List Int} {vs : List V}, DqAll G vs (xs.map .int) → vs = xs.map V.int
  | [], _, .nil => rfl
  | _ :: _, _, .cons q t => by rw [dp_int q, dpa_ints t]; rfl
theorem dpa_bools : ∀ {xs : List Bool} {vs : List V}, DqAll G vs (xs.map .bool) → vs = xs.map V.bl
  | [], _, .nil => rfl
  | _ :: _, _, .cons q t => by rw [dp_bool q, dpa_bools t]; rfl
theorem dpa_of_strs : ∀ (xs : List Str), DqAll G (xs.map V.str) (xs.map .str)
  | [] => .nil
  | x :: xs => .cons (.str x) (dpa_of_strs xs)
theorem dpa_of_ints : ∀ (xs : List Int), DqAll G (xs.map V.int) (xs.map .int)
  | [] => .nil
  | x :: xs => .cons (.int x) (dpa_of_ints xs)
end
def DpKv (G : Hp) : List (Key × V) → List (Key × D) → Prop := Paired fun p q => p.1 = q.1 ∧ Dq G p.2 q.2
theorem dpkv_mono {G G' : Hp} (h : Same G G') {ks : List (Key × V)} {kvs : List (Key × D)} (q : DpKv G ks kvs) : DpKv G' ks kvs :=
  Paired.mapP q fun _ _ z => ⟨z.1, dp_mono h _ _ z.2⟩

/-! ### entries, objects, states -/
def EntR (κ : Kx) (w : Sn) (ix : Ix) (v : V) : Ent → Prop
  | .no => True
  | .sh d => Dq w.G v d
  | .ow ds => ∃ p xs, v = .ref p ∧ w.O p = some ix ∧ w.H p = some (.lst xs) ∧ DqAll w.G xs ds
  | .dk kvs => ∃ p ks, v = .ref p ∧ w.O p = some ix ∧ w.H p = some (.dK ks) ∧ DpKv w.G ks kvs
  | .wr j => ∃ p, v = .ref p ∧ w.ad[j]? = some p
  | .sc ns => ∃ a, v = .ref a ∧ SqL κ.K w.G a (ns.map V.int)
  | .fz kvs => ∃ p od ks, v = .ref p ∧ w.G p = some (.frz od (.dK ks)) ∧ DpKv w.G ks kvs
def SlR (κ : Kx) (w : Sn) (ix : Ix) (o : Option V) (e : Ent) : Prop := e = .no ∨ ∃ v, o = some v ∧ EntR κ w ix v e
def ObR (κ : Kx) (w : Sn) (ix : Ix) (p : Addr) : Ob → Prop
  | .tn k => w.O p = some ix ∧ w.H p = some (.lst (List.replicate k (.int 0)))
  | .tb g rows kept => ∃ dx l vg rs, w.O p = some ix ∧ w.O dx = some ix ∧ w.O l = some ix ∧
      w.H p = some (.ins κ.T dx [("game", vg), ("rows", .ref l), ("kept", .int kept)]) ∧ w.H dx = some (.own p) ∧ w.H l = some (.lst rs) ∧
      Dq w.G vg g ∧ DqAll w.G rs rows
/-- the world part of a state -/
structure WdR (κ : Kx) (w : Sn) (wd : List Ob) : Prop where
  fr : ∀ p i, w.O p = some i → w.G p = none
  su : Same w.G w.H
  wl : w.ad.length = wd.length
  wd : ∀ (j : Nat) (ob : Ob) (p : Addr), wd[j]? = some ob → w.ad[j]? = some p → ObR κ w (.w j) p ob
structure StR (κ : Kx) (w : Sn) (σ : St) (en : En) : Prop where
  wo : WdR κ w en.wd
  ln : en.sl.length = σ.length
  sl : ∀ i, SlR κ w (.s i) (σ.getD i none) (en.get i)
/-- from a snapshot on -/
structure Nx (a b : Sn) : Prop where
  p : a.ad <+: b.ad
  g : Same a.G b.G
  f : ∀ x o, a.H x = some o → a.O x = none → b.H x = some o ∧ b.G x = a.G x ∧ b.O x = none
theorem Nx.refl (a : Sn) : Nx a a := ⟨List.prefix_refl _, Same.refl _, fun _ _ h1 h2 => ⟨h1, rfl, h2⟩⟩
theorem Nx.trans {a b c : Sn} (h : Nx a b) (k : Nx b c) : Nx a c :=
  ⟨h.p.trans k.p, h.g.trans k.g, fun x o h1 h2 => by
    obtain ⟨q1, q2, q3⟩ := h.f x o h1 h2
    obtain ⟨r1, r2, r3⟩ := k.f x o q1 q3
    exact ⟨r1, r2.trans q2, r3⟩⟩

/-! ### results -/
inductive R (α : Type) where
  | ok (a : α) (e : En) | ex (c : Nat) (e : En) | st
def R.bind {α β : Type} (x : R α) (f : α → En → R β) : R β := match x with
  | .ok a e => f a e | .ex c e => .ex c e | .st => .st
/-- a statement's end -/
inductive Fl where
  | nx | rt (r : Ent) | bk | ct

/-- what is wanted behind a result -/
def Po {α : Type} (κ : Kx) (W : WX) (w : Sn) (x : R α) (Q : α → En → Sn → Prop) : Prop := match x with
  | .ok a en' => ∀ w', Nx w w' → Q a en' w'
  | .ex c en' => ∀ σ' w', Nx w w' → StR κ w' σ' en' → W (.ref (κ.ec c)) none σ' w'.H
  | .st => False
section
variable {κ : Kx} {W : WX} {w w' : Sn} {α β : Type}
theorem Po.mono {x : R α} {Q : α → En → Sn → Prop} (h : Po κ W w x Q) (n : Nx w w') : Po κ W w' x Q := by
  cases x with
  | ok a e => exact fun w2 n2 => h w2 (n.trans n2)
  | ex c e => exact fun σ' w2 n2 s2 => h σ' w2 (n.trans n2) s2
  | st => exact h
theorem Po.imp {x : R α} {Q Q' : α → En → Sn → Prop} (h : Po κ W w x Q) (k : ∀ a en' w', Nx w w' → Q a en' w' → Q' a en' w') : Po κ W w x Q' := by
  cases x with
  | ok a e => exact fun w2 n2 => k _ _ _ n2 (h w2 n2)
  | ex c e => exact h
  | st => exact h
theorem Po.bind_of {x : R α} {f : α → En → R β} {Q : β → En → Sn → Prop} (h : Po κ W w (x.bind f) Q) : Po κ W w x (fun a en' w' => Po κ W w' (f a en') Q) := by
  cases x with
  | ok a e => exact fun w2 n2 => Po.mono (x := f a e) h n2
  | ex c e => exact h
  | st => exact h
end
def tOf (κ : Kx) (W : WX) (m : En → R Ent) : TE := fun σ H Q => ∃ w en, w.H = H ∧ StR κ w σ en ∧ Po κ W w (m en) fun r en' w' => ∀ v, StR κ w' σ en' → EntR κ w' .r v r → Q v w'.H
/-- a borrowed value: any owner -/
def tBOf (κ : Kx) (W : WX) (m : En → R Ent) : TE := fun σ H Q => ∃ w en, w.H = H ∧ StR κ w σ en ∧ Po κ W w (m en) fun r en' w' => ∀ v ix, StR κ w' σ en' → EntR κ w' ix v r → Q v w'.H
def tTOf (κ : Kx) (W : WX) (m : En → R Bool) : TT := fun σ H Q => ∃ w en, w.H = H ∧ StR κ w σ en ∧ Po κ W w (m en) fun b en' w' => StR κ w' σ en' → Q b w'.H
def ArgR (κ : Kx) (w : Sn) (v : V) : Ent → Prop
  | .sh d => Dq w.G v d
  | .wr j => ∃ p, v = .ref p ∧ w.ad[j]? = some p
  | .sc ns => ∃ a, v = .ref a ∧ SqL κ.K w.G a (ns.map V.int)
  | _ => False
abbrev ArgsR (κ : Kx) (w : Sn) : List V → List Ent → Prop := Paired (ArgR κ w)
def tAOf (κ : Kx) (W : WX) (m : En → R (List Ent)) : TA := fun σ H Q => ∃ w en, w.H = H ∧ StR κ w σ en ∧ Po κ W w (m en) fun rs en' w' => ∀ vs, StR κ w' σ en' → ArgsR κ w' vs rs → Q vs w'.H
def endS (κ : Kx) (Dn : Ends) (fl : Fl) (en' : En) (w' : Sn) : Prop := match fl with
  | .nx => ∀ σ', StR κ w' σ' en' → Dn.nx σ' w'.H
  | .rt r => ∀ v σ', StR κ w' σ' en' → EntR κ w' .r v r → Dn.rt v w'.H
  | .bk => ∀ σ', StR κ w' σ' en' → Dn.bk σ' w'.H
  | .ct => ∀ σ', StR κ w' σ' en' → Dn.ct σ' w'.H
def tSOf (κ : Kx) (W : WX) (m : En → R Fl) : TS := fun Dn σ H => ∃ w en, w.H = H ∧ StR κ w σ en ∧ Po κ W w (m en) (endS κ Dn)
def tGOf (κ : Kx) (W : WX) (g : Ent → En → R Unit) : TG := fun v σ H Q => ∃ w en r, w.H = H ∧ StR κ w σ en ∧ EntR κ w .r v r ∧ Po κ W w (g r en) fun _ en' w' => ∀ σ', StR κ w' σ' en' → Q σ' w'.H

/-! ### weaker readings -/
section
variable {X : Cx} {e : Expr} {es : List Expr} {st : Stmt} {sts : List Stmt}
theorem pe_imp {t t' : TE} (h : PE X e t) (f : ∀ σ H Q, t' σ H Q → t σ H Q) : PE X e t' := ⟨fun pins s σ H Q I hq => h.run pins s σ H Q I (f σ H Q hq)⟩
theorem pt_imp {t t' : TT} (h : PT X e t) (f : ∀ σ H Q, t' σ H Q → t σ H Q) : PT X e t' := ⟨fun pins s σ H Q I hq => h.run pins s σ H Q I (f σ H Q hq)⟩
theorem pa_imp {t t' : TA} (h : PA X es t) (f : ∀ σ H Q, t' σ H Q → t σ H Q) : PA X es t' := ⟨fun pos pins s σ H Q I hq => h.run pos pins s σ H Q I (f σ H Q hq)⟩
theorem ps_imp {t t' : TS} (h : PS X st t) (f : ∀ Dn σ H, t' Dn σ H → t Dn σ H) : PS X st t' := ⟨fun pins s σ H Dn I hq => h.run pins s σ H Dn I (f Dn σ H hq)⟩
theorem pss_imp {t t' : TS} (h : PSs X sts t) (f : ∀ Dn σ H, t' Dn σ H → t Dn σ H) : PSs X sts t' := ⟨fun pins s σ H Dn I hq => h.run pins s σ H Dn I (f Dn σ H hq)⟩
theorem pg_imp {t t' : TG} (h : PG X e t) (f : ∀ v σ H Q, t' v σ H Q → t v σ H Q) : PG X e t' := ⟨fun pins s σ H v u Q I r hq => h.run pins s σ H v u Q I r (f v σ H Q hq)⟩
end

/-! ### entries from snapshot to snapshot -/
section
variable {κ : Kx} {W : WX} {w w' : Sn} {σ : St} {en : En} {v : V} {ix : Ix} {r : Ent}
theorem ArgR.mono {e : Ent} (h : ArgR κ w v e) (n : Nx w w') : ArgR κ w' v e := by
  cases e with
  | sh d => exact dp_mono n.g _ _ h
  | wr j =>
    obtain ⟨p, h1, h2⟩ := h
    refine ⟨p, h1, ?_⟩
    obtain ⟨t, ht⟩ := n.p
    rw [← ht, List.getElem?_append_left (List.getElem?_eq_some_iff.mp h2).1]
    exact h2
  | sc =>
    obtain ⟨a, h1, h2⟩ := h
    exact ⟨a, h1, n.g.seq h2⟩
  | fz kvs => exact h
  | no => exact h
  | ow ds => exact h
  | dk kvs => exact h
theorem ArgsR.mono {vs : List V} {rs : List Ent} (h : ArgsR κ w vs rs) (n : Nx w w') : ArgsR κ w' vs rs := Paired.mapP h fun _ _ q => q.mono n
/-- everything but the owners of an address of their own kind: a result frozen -/
theorem upG {G : Hp} {p : Addr} {o : HO} (h : G p = none) : Same G (upd G p o) := fun b x e => by
  rw [upd_ne (ne_of_none e h)]
  exact e
/-- the owners' map with p let go -/
def letO (O : Addr → Option Ix) (p : Addr) : Addr → Option Ix := fun b => if b = p then none else O b
theorem letO_ne {O : Addr → Option Ix} {p b : Addr} (h : b ≠ p) : letO O p b = O b := if_neg h
theorem letO_same {O : Addr → Option Ix} {p : Addr} : letO O p p = none := if_pos rfl
/-- p's list goes into the heap that stays -/
def frzAt (w : Sn) (p : Addr) (xs : List V) : Sn := { w with G := upd w.G p (.lst xs), O := letO w.O p }
theorem frz_nx {p : Addr} {xs : List V} (hO : w.O p = some ix) (hG : w.G p = none) : Nx w (frzAt w p xs) :=
  ⟨List.prefix_refl _, upG hG, fun x o h1 h2 => by
    have ne : x ≠ p := fun z => by rw [z, hO] at h2; cases h2
    exact ⟨h1, upd_ne ne, (letO_ne ne).trans h2⟩⟩
theorem EntR.frz {p : Addr} {xs : List V} {j : Ix} (hO : w.O p = some ix) (hG : w.G p = none) (hj : j ≠ ix) (h : EntR κ w j v r) : EntR κ (frzAt w p xs) j v r := by
  have nep : ∀ {q : Addr}, w.O q = some j → q ≠ p := fun e z => by rw [z, hO] at e; exact hj (Option.some.inj e).symm
  cases r with
  | no => trivial
  | sh d => exact dp_mono (upG hG) _ _ h
  | ow ds =>
    obtain ⟨q, ys, e1, e2, e3, e4⟩ := h
    exact ⟨q, ys, e1, (letO_ne (nep e2)).trans e2, e3, dpa_mono (upG hG) _ _ e4⟩
  | dk kvs =>
    obtain ⟨q, ks, e1, e2, e3, e4⟩ := h
    exact ⟨q, ks, e1, (letO_ne (nep e2)).trans e2, e3, dpkv_mono (upG hG) e4⟩
  | wr j => exact h
  | sc =>
    obtain ⟨a, h1, h2⟩ := h
    exact ⟨a, h1, (upG hG).seq h2⟩
  | fz kvs =>
    obtain ⟨p, od, ks, h1, h2, h3⟩ := h
    exact ⟨p, od, ks, h1, (upG hG) _ _ h2, dpkv_mono (upG hG) h3⟩
theorem ObR.frz {p q : Addr} {xs : List V} {j : Ix} {ob : Ob} (hO : w.O p = some ix) (hG : w.G p = none) (hj : j ≠ ix) (h : ObR κ w j q ob) : ObR κ (frzAt w p xs) j q ob := by
  have nep : ∀ {q : Addr}, w.O q = some j → q ≠ p := fun e z => by rw [z, hO] at e; exact hj (Option.some.inj e).symm
  cases ob with
  | tn k => exact ⟨(letO_ne (nep h.1)).trans h.1, h.2⟩
  | tb g rows kept =>
    obtain ⟨dx, l, vg, rs, a1, a2, a3, a4, a5, a6, a7, a8⟩ := h
    exact ⟨dx, l, vg, rs, (letO_ne (nep a1)).trans a1, (letO_ne (nep a2)).trans a2, (letO_ne (nep a3)).trans a3, a4, a5, a6, dp_mono (upG hG) _ _ a7, dpa_mono (upG hG) _ _ a8⟩
theorem WdR.frz {p : Addr} {xs : List V} {wd : List Ob} (h : WdR κ w wd) (hO : w.O p = some ix) (hx : ∀ j, Ix.w j ≠ ix) (hH : w.H p = some (.lst xs)) : WdR κ (frzAt w p xs) wd where
  fr := fun q i e => by
    have e' : letO w.O p q = some i := e
    have ne : q ≠ p := fun z => by rw [z, letO_same] at e'; cases e'
    rw [letO_ne ne] at e'
    exact (upd_ne ne).trans (h.fr q i e')
  su := fun b o e => by
    by_cases z : b = p
    · subst z
      have e' : upd w.G b (.lst xs) b = some o := e
      rw [upd_same] at e'
      rw [← e']
      exact hH
    · have e' : upd w.G p (.lst xs) b = some o := e
      rw [upd_ne z] at e'
      exact h.su b o e'
  wl := h.wl
  wd := fun j ob q e1 e2 => (h.wd j ob q e1 e2).frz hO (h.fr p _ hO) (hx j)
theorem SlR.frz {p : Addr} {xs : List V} {j : Ix} {o : Option V} {e : Ent} (hO : w.O p = some ix) (hG : w.G p = none) (hj : j ≠ ix) (h : SlR κ w j o e) : SlR κ (frzAt w p xs) j o e := by
  rcases h with h | ⟨v, h1, h2⟩
  · exact .inl h
  · exact .inr ⟨v, h1, h2.frz hO hG hj⟩
/-- a result's list is frozen -/
theorem StR.frzR {p : Addr} {xs : List V} (h : StR κ w σ en) (hO : w.O p = some .r) (hH : w.H p = some (.lst xs)) : StR κ (frzAt w p xs) σ en :=
  ⟨h.wo.frz hO (fun _ q => nomatch q) hH, h.ln, fun i => (h.sl i).frz hO (h.wo.fr p _ hO) (fun q => nomatch q)⟩
theorem get_set_same {en : En} {i : Nat} {e : Ent} : (en.set i e).get i = e ∨ (en.set i e).get i = .no := by
  unfold En.set En.get
  by_cases h : i < en.sl.length
  · left
    rw [List.getD_eq_getElem?_getD, List.getElem?_set_self (by simpa using h)]; rfl
  · right
    rw [List.getD_eq_getElem?_getD, List.getElem?_eq_none (by simpa using h)]; rfl
theorem get_set_ne {en : En} {i j : Nat} {e : Ent} (h : i ≠ j) : (en.set i e).get j = en.get j := by
  unfold En.set En.get
  rw [List.getD_eq_getElem?_getD, List.getD_eq_getElem?_getD, List.getElem?_set_ne h]
theorem gd_ne {σ : St} {i j : Nat} {o : Option V} (h : i ≠ j) : (σ.set i o).getD j none = σ.getD j none := by
  rw [List.getD_eq_getElem?_getD, List.getD_eq_getElem?_getD, List.getElem?_set_ne h]
theorem gd_same {σ : St} {i : Nat} {o : Option V} (h : i < σ.length) : (σ.set i o).getD i none = o := by
  rw [List.getD_eq_getElem?_getD, List.getElem?_set_self h]; rfl
/-- data on its way: what a result is worth -/
def toD (r : Ent) (e : En) : R D := match r with
  | .sh d => .ok d e
  | .ow ds => .ok (.list ds) e
  | _ => .st
def dv (m : En → R Ent) : En → R D := fun en => (m en).bind toD
theorem frz_r {d : D} {e : En} (s : StR κ w σ en) (er : EntR κ w .r v r) (hd : toD r en = .ok d e) : e = en ∧ ∃ w', Nx w w' ∧ w'.H = w.H ∧ StR κ w' σ en ∧ Dq w'.G v d := by
  cases r with
  | sh d' =>
    cases hd
    exact ⟨rfl, w, Nx.refl _, rfl, s, er⟩
  | ow ds =>
    cases hd
    obtain ⟨p, xs, rfl, hO, hH, ha⟩ := er
    have hG := s.wo.fr p _ hO
    exact ⟨rfl, frzAt w p xs, frz_nx hO hG, rfl, s.frzR hO hH, .lst upd_same (dpa_mono (upG hG) _ _ ha)⟩
  | no => cases hd
  | dk kvs => cases hd
  | wr j => cases hd
  | sc => cases hd
  | fz kvs => cases hd
/-- a subexpression's value as data -/
theorem poD {α : Type} {m : En → R Ent} {k : D → En → R α} {Q : α → En → Sn → Prop} {Q1 : VK} (s : StR κ w σ en) (h : Po κ W w ((dv m en).bind k) Q)
    (hk : ∀ d en1 v w1, Nx w w1 → StR κ w1 σ en1 → Dq w1.G v d → Po κ W w1 (k d en1) Q → Q1 v w1.H) : Po κ W w (m en) fun r en' w' => ∀ v, StR κ w' σ en' → EntR κ w' .r v r → Q1 v w'.H := by
  unfold dv at h
  cases e : m en with
  | ok r en1 =>
    rw [e] at h
    intro w1 n1 v s1 er
    have h' : Po κ W w ((toD r en1).bind k) Q := h
    cases e2 : toD r en1 with
    | ok d e3 =>
      rw [e2] at h'
      obtain ⟨rfl, w2, n2, hH, s2, dp⟩ := frz_r s1 er e2
      rw [← hH]
      exact hk d e3 v w2 (n1.trans n2) s2 dp (Po.mono h' (n1.trans n2))
    | ex c e3 => cases r <;> cases e2
    | st => rw [e2] at h'; exact h'.elim
  | ex c en1 =>
    rw [e] at h
    exact h
  | st =>
    rw [e] at h
    exact h
theorem goD {α : Type} {m : En → R Ent} {k : D → En → R α} {Q : α → En → Sn → Prop} {Q1 : VK} (s : StR κ w σ en) (h : Po κ W w ((dv m en).bind k) Q)
    (hk : ∀ d en1 v w1, Nx w w1 → StR κ w1 σ en1 → Dq w1.G v d → Po κ W w1 (k d en1) Q → Q1 v w1.H) : tOf κ W m σ w.H Q1 := ⟨w, en, rfl, s, poD s h hk⟩
/-- .. as it is -/
theorem go {α : Type} {m : En → R Ent} {k : Ent → En → R α} {Q : α → En → Sn → Prop} {Q1 : VK} (s : StR κ w σ en) (h : Po κ W w ((m en).bind k) Q)
    (hk : ∀ r en1 v w1, Nx w w1 → StR κ w1 σ en1 → EntR κ w1 .r v r → Po κ W w1 (k r en1) Q → Q1 v w1.H) : tOf κ W m σ w.H Q1 :=
  ⟨w, en, rfl, s, (Po.bind_of h).imp fun r en1 w1 n1 h1 v s1 er => hk r en1 v w1 n1 s1 er h1⟩
theorem goT {α : Type} {m : En → R Bool} {k : Bool → En → R α} {Q : α → En → Sn → Prop} {Q1 : Bool → Hp → Prop} (s : StR κ w σ en) (h : Po κ W w ((m en).bind k) Q)
    (hk : ∀ b en1 w1, Nx w w1 → StR κ w1 σ en1 → Po κ W w1 (k b en1) Q → Q1 b w1.H) : tTOf κ W m σ w.H Q1 :=
  ⟨w, en, rfl, s, (Po.bind_of h).imp fun r en1 w1 n1 h1 s1 => hk r en1 w1 n1 s1 h1⟩
theorem goA {α : Type} {m : En → R (List Ent)} {k : List Ent → En → R α} {Q : α → En → Sn → Prop} {Q1 : List V → Hp → Prop} (s : StR κ w σ en) (h : Po κ W w ((m en).bind k) Q)
    (hk : ∀ rs en1 vs w1, Nx w w1 → StR κ w1 σ en1 → ArgsR κ w1 vs rs → Po κ W w1 (k rs en1) Q → Q1 vs w1.H) : tAOf κ W m σ w.H Q1 :=
  ⟨w, en, rfl, s, (Po.bind_of h).imp fun r en1 w1 n1 h1 vs s1 er => hk r en1 vs w1 n1 s1 er h1⟩
/-- an end: data -/
theorem fin_sh {d : D} {Q : VK} (s : StR κ w σ en) (h : Po κ W w (R.ok (Ent.sh d) en) fun r en' w' => ∀ v, StR κ w' σ en' → EntR κ w' .r v r → Q v w'.H) (hd : Dq w.G v d) : Q v w.H := h w (Nx.refl _) v s hd
/-- new objects that nobody owns: G and H grow alike -/
def grow (w : Sn) (p : Addr) (o : HO) : Sn := { w with G := upd w.G p o, H := upd w.H p o, O := letO w.O p }
theorem grow_nx {p : Addr} {o : HO} (hs : Same w.G w.H) (hp : w.H p = none) : Nx w (grow w p o) :=
  ⟨List.prefix_refl _, upG (hs.free hp), fun x u h1 h2 => by
    have ne : x ≠ p := ne_of_none h1 hp
    exact ⟨(upd_ne ne).trans h1, upd_ne ne, (letO_ne ne).trans h2⟩⟩
theorem EntR.grow {p : Addr} {o : HO} (hs : Same w.G w.H) (hp : w.H p = none) (h : EntR κ w ix v r) : EntR κ (grow w p o) ix v r := by
  have hG := hs.free hp
  cases r with
  | no => trivial
  | sh d => exact dp_mono (upG hG) _ _ h
  | ow ds =>
    obtain ⟨q, ys, e1, e2, e3, e4⟩ := h
    have ne : q ≠ p := ne_of_none e3 hp
    exact ⟨q, ys, e1, (letO_ne ne).trans e2, (upd_ne ne).trans e3, dpa_mono (upG hG) _ _ e4⟩
  | dk kvs =>
    obtain ⟨q, ys, e1, e2, e3, e4⟩ := h
    have ne : q ≠ p := ne_of_none e3 hp
    exact ⟨q, ys, e1, (letO_ne ne).trans e2, (upd_ne ne).trans e3, dpkv_mono (upG hG) e4⟩
  | wr j => exact h
  | sc =>
    obtain ⟨a, h1, h2⟩ := h
    exact ⟨a, h1, (upG hG).seq h2⟩
  | fz kvs =>
    obtain ⟨p, od, ks, h1, h2, h3⟩ := h
    exact ⟨p, od, ks, h1, (upG hG) _ _ h2, dpkv_mono (upG hG) h3⟩
theorem ObR.grow {p q : Addr} {o : HO} {ob : Ob} (hs : Same w.G w.H) (hp : w.H p = none) (h : ObR κ w ix q ob) : ObR κ (grow w p o) ix q ob := by
  have hG := hs.free hp
  have ne : ∀ {q : Addr} {u : HO}, w.H q = some u → q ≠ p := fun e => ne_of_none e hp
  cases ob with
  | tn k => exact ⟨(letO_ne (ne h.2)).trans h.1, (upd_ne (ne h.2)).trans h.2⟩
  | tb g rows kept =>
    obtain ⟨dx, l, vg, rs, a1, a2, a3, a4, a5, a6, a7, a8⟩ := h
    exact ⟨dx, l, vg, rs, (letO_ne (ne a4)).trans a1, (letO_ne (ne a5)).trans a2, (letO_ne (ne a6)).trans a3, (upd_ne (ne a4)).trans a4, (upd_ne (ne a5)).trans a5, (upd_ne (ne a6)).trans a6, dp_mono (upG hG) _ _ a7, dpa_mono (upG hG) _ _ a8⟩
theorem WdR.grow {p : Addr} {o : HO} {wd : List Ob} (h : WdR κ w wd) (hp : w.H p = none) : WdR κ (grow w p o) wd where
  fr := fun q i e => by
    have e' : letO w.O p q = some i := e
    have ne : q ≠ p := fun z => by rw [z, letO_same] at e'; cases e'
    rw [letO_ne ne] at e'
    exact (upd_ne ne).trans (h.fr q i e')
  su := fun b u e => by
    by_cases z : b = p
    · subst z
      have e' : upd w.G b o b = some u := e
      rw [upd_same] at e'
      show upd w.H b o b = some u
      rw [upd_same]
      exact e'
    · have e' : upd w.G p o b = some u := e
      rw [upd_ne z] at e'
      exact (upd_ne z).trans (h.su b u e')
  wl := h.wl
  wd := fun j ob q e1 e2 => (h.wd j ob q e1 e2).grow h.su hp
theorem StR.grow {p : Addr} {o : HO} (h : StR κ w σ en) (hp : w.H p = none) : StR κ (grow w p o) σ en :=
  ⟨h.wo.grow hp, h.ln, fun i => by
    rcases h.sl i with q | ⟨v, q1, q2⟩
    · exact .inl q
    · exact .inr ⟨v, q1, q2.grow h.wo.su hp⟩⟩
/-- a new list that a result owns -/
def newR (w : Sn) (p : Addr) (o : HO) : Sn := { w with H := upd w.H p o, O := fun b => if b = p then some .r else w.O b }
theorem newR_O {p b : Addr} {o : HO} (h : b ≠ p) : (newR w p o).O b = w.O b := if_neg h
theorem newR_Op {p : Addr} {o : HO} : (newR w p o).O p = some .r := if_pos rfl
theorem newR_nx {p : Addr} {o : HO} (hp : w.H p = none) : Nx w (newR w p o) :=
  ⟨List.prefix_refl _, Same.refl _, fun x u h1 h2 => by
    have ne : x ≠ p := ne_of_none h1 hp
    exact ⟨(upd_ne ne).trans h1, rfl, (newR_O ne).trans h2⟩⟩
theorem EntR.newR {p : Addr} {o : HO} (hp : w.H p = none) (h : EntR κ w ix v r) : EntR κ (newR w p o) ix v r := by
  cases r with
  | no => trivial
  | sh d => exact h
  | ow ds =>
    obtain ⟨q, ys, e1, e2, e3, e4⟩ := h
    have ne : q ≠ p := ne_of_none e3 hp
    exact ⟨q, ys, e1, (newR_O ne).trans e2, (upd_ne ne).trans e3, e4⟩
  | dk kvs =>
    obtain ⟨q, ys, e1, e2, e3, e4⟩ := h
    have ne : q ≠ p := ne_of_none e3 hp
    exact ⟨q, ys, e1, (newR_O ne).trans e2, (upd_ne ne).trans e3, e4⟩
  | wr j => exact h
  | sc => exact h
  | fz kvs => exact h
theorem ObR.newR {p q : Addr} {o : HO} {ob : Ob} (hp : w.H p = none) (h : ObR κ w ix q ob) : ObR κ (newR w p o) ix q ob := by
  have ne : ∀ {q : Addr} {u : HO}, w.H q = some u → q ≠ p := fun e => ne_of_none e hp
  cases ob with
  | tn k => exact ⟨(newR_O (ne h.2)).trans h.1, (upd_ne (ne h.2)).trans h.2⟩
  | tb g rows kept =>
    obtain ⟨dx, l, vg, rs, a1, a2, a3, a4, a5, a6, a7, a8⟩ := h
    exact ⟨dx, l, vg, rs, (newR_O (ne a4)).trans a1, (newR_O (ne a5)).trans a2, (newR_O (ne a6)).trans a3, (upd_ne (ne a4)).trans a4, (upd_ne (ne a5)).trans a5, (upd_ne (ne a6)).trans a6, a7, a8⟩
theorem WdR.newR {p : Addr} {o : HO} {wd : List Ob} (h : WdR κ w wd) (hp : w.H p = none) : WdR κ (newR w p o) wd where
  fr := fun q i e => by
    by_cases z : q = p
    · rw [z]; exact h.su.free hp
    · rw [newR_O z] at e
      exact h.fr q i e
  su := fun b u e => by
    have e' : w.G b = some u := e
    have q := h.su b u e'
    exact (upd_ne (ne_of_none q hp)).trans q
  wl := h.wl
  wd := fun j ob q e1 e2 => (h.wd j ob q e1 e2).newR hp
theorem StR.newR {p : Addr} {o : HO} (h : StR κ w σ en) (hp : w.H p = none) : StR κ (newR w p o) σ en :=
  ⟨h.wo.newR hp, h.ln, fun i => by
    rcases h.sl i with q | ⟨v, q1, q2⟩
    · exact .inl q
    · exact .inr ⟨v, q1, q2.newR hp⟩⟩
/-- an end: a new list of the result's own -/
theorem fin_ow {ds : List D} {xs : List V} {p : Addr} {Q : VK} (s : StR κ w σ en) (h : Po κ W w (R.ok (Ent.ow ds) en) fun r en' w' => ∀ v, StR κ w' σ en' → EntR κ w' .r v r → Q v w'.H) (hd : DqAll w.G xs ds) (hp : w.H p = none) : Q (.ref p) (upd w.H p (.lst xs)) :=
  h (newR w p (.lst xs)) (newR_nx hp) (.ref p) (s.newR hp) ⟨p, xs, rfl, newR_Op, upd_same, hd⟩
/-- .. a new tuple -/
theorem fin_tup {ds : List D} {xs : List V} {p : Addr} {Q : VK} (s : StR κ w σ en) (h : Po κ W w (R.ok (Ent.sh (.tuple ds)) en) fun r en' w' => ∀ v, StR κ w' σ en' → EntR κ w' .r v r → Q v w'.H) (hd : DqAll w.G xs ds) (hp : w.H p = none) : Q (.ref p) (upd w.H p (.tup xs)) :=
  h (grow w p (.tup xs)) (grow_nx s.wo.su hp) (.ref p) (s.grow hp) (Dq.tup upd_same (dpa_mono (upG (s.wo.su.free hp)) _ _ hd))
end
end CO

/-! CoB: expressions over the data layer: constants, names, operators, comparisons, tests, displays, subscripts, slices. -/
namespace CO
open PySem PySem.Spec PyProof.Rows L2

/-- what an expression's end wants -/
abbrev Qe (κ : Kx) (σ : St) (Q : VK) : Ent → En → Sn → Prop := fun r en' w' => ∀ v, StR κ w' σ en' → EntR κ w' .r v r → Q v w'.H
def eC (d : D) (en : En) : R Ent := .ok (.sh d) en
def eN (i : Nat) (en : En) : R Ent := match en.get i with
  | .sh d => .ok (.sh d) en
  | .ow ds => .ok (.sh (.list ds)) (en.set i (.sh (.list ds)))
  | .wr j => .ok (.wr j) en
  | .sc ns => .ok (.sc ns) en
  | _ => .st
/-- a name whose value is handed on for good -/
def eMv (i : Nat) (en : En) : R Ent := match en.get i with
  | .sh d => .ok (.sh d) en
  | .ow ds => .ok (.ow ds) (en.set i .no)
  | .dk kvs => .ok (.dk kvs) (en.set i .no)
  | .wr j => .ok (.wr j) en
  | .sc ns => .ok (.sc ns) en
  | .fz _ => .st
  | .no => .st
/-- a name that is only looked at -/
def eP (i : Nat) (en : En) : R Ent := match en.get i with
  | .no => .st
  | e => .ok e en

section
variable {X : Cx} {κ : Kx} {W : WX}
/-! ### constants -/
theorem de_c {e : Expr} {d : D} {v : V} (h : PE X e (tC v)) (hd : ∀ G, Dq G v d) : PE X e (tOf κ W (eC d)) :=
  pe_imp h fun σ H Q ⟨w, en, hw, s, p⟩ => by
    subst hw
    exact p w (Nx.refl _) v s (hd _)
theorem de_int {i j pos} : PE X (.Constant (.int i) j pos) (tOf κ W (eC (.int i))) := de_c pe_int fun _ => .int i
theorem de_str {x j pos} : PE X (.Constant (.str x) j pos) (tOf κ W (eC (.str x))) := de_c pe_str fun _ => .str x
theorem de_bl {b j pos} : PE X (.Constant (.bool b) j pos) (tOf κ W (eC (.bool b))) := de_c pe_bl fun _ => .bl b
theorem de_non {j pos} : PE X (.Constant .none j pos) (tOf κ W (eC .none)) := de_c pe_non fun _ => .non
theorem de_globI {x : Str} {i : Int} {t : Tok} {pos : Pos} (hm : X.mg x = some (.int i t)) (hg : Gl X x := by rfl) (hd : (x == ("__debug__" : Str)) = false := by decide) : PE X (.Name x pos) (tOf κ W (eC (.int i))) :=
  de_c (pe_glob hg hm (v := .int i) ⟨t, rfl⟩ hd) fun _ => .int i

/-! ### names -/
theorem slot_of {σ : St} {i : Nat} {v : V} (h : σ.getD i none = some v) : σ[i]? = some (some v) := by
  rw [List.getD_eq_getElem?_getD] at h
  cases e : σ[i]? with
  | none => rw [e] at h; cases h
  | some o => rw [e] at h; exact congrArg some h
theorem StR.at {w : Sn} {σ : St} {en : En} (s : StR κ w σ en) {i : Nat} (h : en.get i ≠ .no) : ∃ v, σ[i]? = some (some v) ∧ EntR κ w (.s i) v (en.get i) := by
  rcases s.sl i with q | ⟨v, q1, q2⟩
  · exact absurd q h
  · exact ⟨v, slot_of q1, q2⟩
/-- slot i's own list goes into the heap that stays -/
theorem StR.frzS {w : Sn} {σ : St} {en : En} (s : StR κ w σ en) {i : Nat} {p : Addr} {xs : List V} {ds : List D} (hv : σ[i]? = some (some (.ref p))) (hO : w.O p = some (.s i)) (hH : w.H p = some (.lst xs)) (ha : DqAll w.G xs ds) :
    StR κ (frzAt w p xs) σ (en.set i (.sh (.list ds))) := by
  have hG := s.wo.fr p _ hO
  refine ⟨s.wo.frz hO (fun _ q => nomatch q) hH, by show (en.sl.set i _).length = _; rw [List.length_set]; exact s.ln, fun j => ?_⟩
  by_cases hj : i = j
  · subst hj
    rcases get_set_same (en := en) (i := i) (e := .sh (.list ds)) with e | e
    · rw [e]
      exact .inr ⟨.ref p, by rw [List.getD_eq_getElem?_getD, hv]; rfl, .lst upd_same (dpa_mono (upG hG) _ _ ha)⟩
    · exact .inl e
  · rw [get_set_ne hj]
    exact (s.sl j).frz hO hG (fun q => hj (by injection q with q; exact q.symm))
theorem de_name (i : Nat) {x : Str} {pos : Pos} (hN : X.N[i]? = some x := by rfl) (hv : Vis X.env.scope x := by first | exact Or.inl rfl | exact Or.inr (Or.inl rfl) | exact Or.inr (Or.inr rfl)) (hd : (x == ("__debug__" : Str)) = false := by decide)
    (hcd : (x == ("__classdict__" : Str)) = false := by decide) : PE X (.Name x pos) (tOf κ W (eN i)) :=
  pe_imp (pv i hN hv hd hcd) fun σ H Q ⟨w, en, hw, s, p⟩ => by
    subst hw
    unfold eN at p
    cases hg : en.get i with
    | no => rw [hg] at p; exact p.elim
    | dk kvs => rw [hg] at p; exact p.elim
    | sh d =>
      rw [hg] at p
      obtain ⟨v, e1, e2⟩ := s.at (i := i) (by rw [hg]; intro q; cases q)
      rw [hg] at e2
      exact ⟨v, e1, p w (Nx.refl _) v s e2⟩
    | wr j =>
      rw [hg] at p
      obtain ⟨v, e1, e2⟩ := s.at (i := i) (by rw [hg]; intro q; cases q)
      rw [hg] at e2
      exact ⟨v, e1, p w (Nx.refl _) v s e2⟩
    | sc =>
      rw [hg] at p
      obtain ⟨v, e1, e2⟩ := s.at (i := i) (by rw [hg]; intro q; cases q)
      rw [hg] at e2
      exact ⟨v, e1, p w (Nx.refl _) v s e2⟩
    | fz kvs => rw [hg] at p; exact p.elim
    | ow ds =>
      rw [hg] at p
      obtain ⟨v, e1, e2⟩ := s.at (i := i) (by rw [hg]; intro q; cases q)
      rw [hg] at e2
      obtain ⟨a, xs, rfl, hO, hH, ha⟩ := e2
      have hG := s.wo.fr a _ hO
      exact ⟨_, e1, p (frzAt w a xs) (frz_nx hO hG) (.ref a) (s.frzS e1 hO hH ha) (.lst upd_same (dpa_mono (upG hG) _ _ ha))⟩
/-- slot i's own object becomes the result's -/
def mvO (w : Sn) (p : Addr) (ix : Ix) : Sn := { w with O := fun b => if b = p then some ix else w.O b }
theorem mvO_nx {w : Sn} {p : Addr} {ix jx : Ix} (hO : w.O p = some jx) : Nx w (mvO w p ix) :=
  ⟨List.prefix_refl _, Same.refl _, fun x o h1 h2 => by
    have ne : x ≠ p := fun z => by rw [z, hO] at h2; cases h2
    exact ⟨h1, rfl, (if_neg ne).trans h2⟩⟩
theorem EntR.mv {w : Sn} {p : Addr} {ix jx kx : Ix} {v : V} {r : Ent} (hO : w.O p = some jx) (hk : kx ≠ jx) (h : EntR κ w kx v r) : EntR κ (mvO w p ix) kx v r := by
  have ne : ∀ {q : Addr}, w.O q = some kx → q ≠ p := fun e z => by rw [z, hO] at e; exact hk (Option.some.inj e).symm
  cases r with
  | no => trivial
  | sh d => exact h
  | ow ds =>
    obtain ⟨q, ys, e1, e2, e3, e4⟩ := h
    exact ⟨q, ys, e1, (if_neg (ne e2)).trans e2, e3, e4⟩
  | dk kvs =>
    obtain ⟨q, ys, e1, e2, e3, e4⟩ := h
    exact ⟨q, ys, e1, (if_neg (ne e2)).trans e2, e3, e4⟩
  | wr j => exact h
  | sc => exact h
  | fz kvs => exact h
theorem WdR.mv {w : Sn} {p : Addr} {ix jx : Ix} {wd : List Ob} (h : WdR κ w wd) (hO : w.O p = some jx) (hj : ∀ j, Ix.w j ≠ jx) : WdR κ (mvO w p ix) wd where
  fr := fun q i e => by
    by_cases z : q = p
    · rw [z]; exact h.fr p _ hO
    · have e' : (if q = p then some ix else w.O q) = some i := e
      rw [if_neg z] at e'
      exact h.fr q i e'
  su := h.su
  wl := h.wl
  wd := fun j ob q e1 e2 => by
    have x := h.wd j ob q e1 e2
    have ne : ∀ {q : Addr}, w.O q = some (.w j) → q ≠ p := fun e z => by rw [z, hO] at e; exact hj j (Option.some.inj e).symm
    cases ob with
    | tn k => exact ⟨(if_neg (ne x.1)).trans x.1, x.2⟩
    | tb g rows kept =>
      obtain ⟨dx, l, vg, rs, a1, a2, a3, a4, a5, a6, a7, a8⟩ := x
      exact ⟨dx, l, vg, rs, (if_neg (ne a1)).trans a1, (if_neg (ne a2)).trans a2, (if_neg (ne a3)).trans a3, a4, a5, a6, a7, a8⟩
theorem StR.mvS {w : Sn} {σ : St} {en : En} (s : StR κ w σ en) {i : Nat} {p : Addr} (hO : w.O p = some (.s i)) : StR κ (mvO w p .r) σ (en.set i .no) := by
  refine ⟨s.wo.mv hO (fun _ q => nomatch q), by show (en.sl.set i _).length = _; rw [List.length_set]; exact s.ln, fun j => ?_⟩
  by_cases hj : i = j
  · subst hj
    rcases get_set_same (en := en) (i := i) (e := .no) with e | e <;> exact .inl e
  · rw [get_set_ne hj]
    rcases s.sl j with q | ⟨v, q1, q2⟩
    · exact .inl q
    · exact .inr ⟨v, q1, q2.mv hO (fun q => hj (by injection q with q; exact q.symm))⟩
theorem de_move (i : Nat) {x : Str} {pos : Pos} (hN : X.N[i]? = some x := by rfl) (hv : Vis X.env.scope x := by first | exact Or.inl rfl | exact Or.inr (Or.inl rfl) | exact Or.inr (Or.inr rfl)) (hd : (x == ("__debug__" : Str)) = false := by decide)
    (hcd : (x == ("__classdict__" : Str)) = false := by decide) : PE X (.Name x pos) (tOf κ W (eMv i)) :=
  pe_imp (pv i hN hv hd hcd) fun σ H Q ⟨w, en, hw, s, p⟩ => by
    subst hw
    unfold eMv at p
    cases hg : en.get i with
    | no => rw [hg] at p; exact p.elim
    | sh d =>
      rw [hg] at p
      obtain ⟨v, e1, e2⟩ := s.at (i := i) (by rw [hg]; intro q; cases q)
      rw [hg] at e2
      exact ⟨v, e1, p w (Nx.refl _) v s e2⟩
    | wr j =>
      rw [hg] at p
      obtain ⟨v, e1, e2⟩ := s.at (i := i) (by rw [hg]; intro q; cases q)
      rw [hg] at e2
      exact ⟨v, e1, p w (Nx.refl _) v s e2⟩
    | sc =>
      rw [hg] at p
      obtain ⟨v, e1, e2⟩ := s.at (i := i) (by rw [hg]; intro q; cases q)
      rw [hg] at e2
      exact ⟨v, e1, p w (Nx.refl _) v s e2⟩
    | fz kvs => rw [hg] at p; exact p.elim
    | ow ds =>
      rw [hg] at p
      obtain ⟨v, e1, e2⟩ := s.at (i := i) (by rw [hg]; intro q; cases q)
      rw [hg] at e2
      obtain ⟨a, xs, rfl, hO, hH, ha⟩ := e2
      exact ⟨_, e1, p (mvO w a .r) (mvO_nx hO) (.ref a) (s.mvS hO) ⟨a, xs, rfl, if_pos rfl, hH, ha⟩⟩
    | dk kvs =>
      rw [hg] at p
      obtain ⟨v, e1, e2⟩ := s.at (i := i) (by rw [hg]; intro q; cases q)
      rw [hg] at e2
      obtain ⟨a, xs, rfl, hO, hH, ha⟩ := e2
      exact ⟨_, e1, p (mvO w a .r) (mvO_nx hO) (.ref a) (s.mvS hO) ⟨a, xs, rfl, if_pos rfl, hH, ha⟩⟩
theorem db_name (i : Nat) {x : Str} {pos : Pos} (hN : X.N[i]? = some x := by rfl) (hv : Vis X.env.scope x := by first | exact Or.inl rfl | exact Or.inr (Or.inl rfl) | exact Or.inr (Or.inr rfl)) (hd : (x == ("__debug__" : Str)) = false := by decide)
    (hcd : (x == ("__classdict__" : Str)) = false := by decide) : PE X (.Name x pos) (tBOf κ W (eP i)) :=
  pe_imp (pv i hN hv hd hcd) fun σ H Q ⟨w, en, hw, s, p⟩ => by
    subst hw
    unfold eP at p
    by_cases hg : en.get i = .no
    · rw [hg] at p; exact p.elim
    · obtain ⟨v, e1, e2⟩ := s.at hg
      refine ⟨v, e1, ?_⟩
      have p' : Po κ W w (R.ok (en.get i) en) fun r en' w' => ∀ v ix, StR κ w' σ en' → EntR κ w' ix v r → Q v w'.H := by
        cases hq : en.get i with
        | no => exact absurd hq hg
        | sh d => rw [hq] at p; exact p
        | ow ds => rw [hq] at p; exact p
        | dk kvs => rw [hq] at p; exact p
        | wr j => rw [hq] at p; exact p
        | sc => rw [hq] at p; exact p
        | fz kvs => rw [hq] at p; exact p
      exact p' w (Nx.refl _) v (.s i) s e2
theorem db_of {e : Expr} {m : En → R Ent} (h : PE X e (tOf κ W m)) : PE X e (tBOf κ W m) :=
  pe_imp h fun σ H Q ⟨w, en, hw, s, p⟩ => ⟨w, en, hw, s, p.imp fun r en' w' n q v s' er => q v .r s' er⟩

/-! ### operators on data -/
/-- f over two values is worth g over data -/
def OpD (X : Cx) (κ : Kx) (F : Value → Value → Sem Value) (g : D → D → En → R Ent) : Prop :=
  ∃ r : R2, OpR X F r ∧ ∀ (W : WX) (w : Sn) (σ : St) (en : En) (x y : V) (a b : D) (Q : VK), StR κ w σ en → Dq w.G x a → Dq w.G y b → Po κ W w (g a b en) (Qe κ σ Q) → r x y w.H Q
def eBin (g : D → D → En → R Ent) (ma mb : En → R Ent) (en : En) : R Ent := (dv ma en).bind fun x e1 => (dv mb e1).bind fun y e2 => g x y e2
theorem tOp_of {F : Value → Value → Sem Value} {g : D → D → En → R Ent} {r : R2} {ma mb : En → R Ent} {σ : St} {H : Hp} {Q : VK}
    (h : ∀ (W : WX) (w : Sn) (σ : St) (en : En) (x y : V) (a b : D) (Q : VK), StR κ w σ en → Dq w.G x a → Dq w.G y b → Po κ W w (g a b en) (Qe κ σ Q) → r x y w.H Q)
    (q : tOf κ W (eBin g ma mb) σ H Q) : tOp r (tOf κ W ma) (tOf κ W mb) σ H Q := by
  obtain ⟨w, en, hw, s, p⟩ := q
  subst hw
  refine goD s p fun x e1 v1 w1 n1 s1 d1 p1 => ?_
  refine goD s1 p1 fun y e2 v2 w2 n2 s2 d2 p2 => ?_
  exact h W w2 σ e2 v1 v2 x y Q s2 (dp_mono n2.g _ _ d1) d2 p2
theorem de_bin {op : Operator} {g : D → D → En → R Ent} {a b : Expr} {ma mb : En → R Ent} {pos : Pos} (ho : OpD X κ (binaryOp op) g) (ha : PE X a (tOf κ W ma)) (hb : PE X b (tOf κ W mb)) : PE X (.BinOp a op b pos) (tOf κ W (eBin g ma mb)) := by
  obtain ⟨r, hr, h⟩ := ho
  exact pe_imp (pe_op hr ha hb) fun σ H Q q => tOp_of (F := binaryOp op) h q
theorem de_cmp {op : CmpOp} {g : D → D → En → R Ent} {a b : Expr} {ma mb : En → R Ent} {pos : Pos} (ho : OpD X κ (compareOp op) g) (ha : PE X a (tOf κ W ma)) (hb : PE X b (tOf κ W mb)) (hm : behindInMarks op b = false := by first | exact nomark _ | rfl) :
    PE X (.Compare a [op] [b] pos) (tOf κ W (eBin g ma mb)) := by
  obtain ⟨r, hr, h⟩ := ho
  exact pe_imp (pe_cmpR hr ha hb hm) fun σ H Q q => tOp_of (F := compareOp op) h q
/-- a value that is a truth value, as a test -/
def tst (m : En → R Ent) (en : En) : R Bool := (dv m en).bind fun d e => match d with | .bool b => .ok b e | _ => .st
theorem tTest_of {m : En → R Ent} {t : TE} (h : ∀ σ H Q, tOf κ W m σ H Q → t σ H Q) {σ : St} {H : Hp} {Q : Bool → Hp → Prop} (q : tTOf κ W (tst m) σ H Q) : tTest t σ H Q := by
  obtain ⟨w, en, hw, s, p⟩ := q
  subst hw
  refine h σ _ _ ?_
  refine goD s p fun d e1 v1 w1 n1 s1 d1 p1 => ?_
  cases d with
  | bool b => exact ⟨b, dp_bool d1, p1 w1 (Nx.refl _) s1⟩
  | _ => exact False.elim p1
theorem dt_cmp {op : CmpOp} {g : D → D → En → R Ent} {a b : Expr} {ma mb : En → R Ent} {pos : Pos} (ho : OpD X κ (compareOp op) g) (ha : PE X a (tOf κ W ma)) (hb : PE X b (tOf κ W mb)) (hm : behindInMarks op b = false := by first | exact nomark _ | rfl) :
    PT X (.Compare a [op] [b] pos) (tTOf κ W (tst (eBin g ma mb))) := by
  obtain ⟨r, hr, h⟩ := ho
  exact pt_imp (pt_cmpR hr ha hb hm) fun σ H Q q => tTest_of (fun σ H Q z => tOp_of (F := compareOp op) h z) q
theorem dt_val {e : Expr} {m : En → R Ent} (h : PE X e (tOf κ W m)) (he : ∀ whole, isTrue e X.env whole = (do let v ← whole; standAt e.pos; holding [v] (truthy v)) := by intro _; rfl) : PT X e (tTOf κ W (tst m)) :=
  pt_imp (pt_val h he) fun σ H Q q => tTest_of (t := tOf κ W m) (fun _ _ _ z => z) q
/-- a < b < c -/
def eChain (g g' : D → D → En → R Ent) (ma mb mc : En → R Ent) (en : En) : R Ent := (dv ma en).bind fun x e1 => (dv mb e1).bind fun y e2 => (dv (g x y) e2).bind fun z e3 => match z with
  | .bool true => (dv mc e3).bind fun u e4 => g' y u e4
  | .bool false => .ok (.sh (.bool false)) e3
  | _ => .st
theorem tChain_of {g g' : D → D → En → R Ent} {r r' : R2} {ma mb mc : En → R Ent} {σ : St} {H : Hp} {Q : VK}
    (h : ∀ (W : WX) (w : Sn) (σ : St) (en : En) (x y : V) (a b : D) (Q : VK), StR κ w σ en → Dq w.G x a → Dq w.G y b → Po κ W w (g a b en) (Qe κ σ Q) → r x y w.H Q)
    (h' : ∀ (W : WX) (w : Sn) (σ : St) (en : En) (x y : V) (a b : D) (Q : VK), StR κ w σ en → Dq w.G x a → Dq w.G y b → Po κ W w (g' a b en) (Qe κ σ Q) → r' x y w.H Q)
    (q : tOf κ W (eChain g g' ma mb mc) σ H Q) : tChain r r' (tOf κ W ma) (tOf κ W mb) (tOf κ W mc) σ H Q := by
  obtain ⟨w, en, hw, s, p⟩ := q
  subst hw
  refine goD s p fun x e1 v1 w1 n1 s1 d1 p1 => ?_
  refine goD s1 p1 fun y e2 v2 w2 n2 s2 d2 p2 => ?_
  refine h W w2 σ e2 v1 v2 x y _ s2 (dp_mono n2.g _ _ d1) d2 ?_
  refine poD (m := g x y) (Q1 := fun z H3 => ∃ k, z = .bl k ∧ (if k = true then tOf κ W mc σ H3 fun w' H4 => r' v2 w' H4 Q else Q (.bl false) H3)) s2 p2 fun z e3 v3 w3 n3 s3 d3 p3 => ?_
  cases z with
  | bool b =>
    refine ⟨b, dp_bool d3, ?_⟩
    cases b with
    | true =>
      rw [if_pos rfl]
      refine goD s3 p3 fun u e4 v4 w4 n4 s4 d4 p4 => ?_
      exact h' W w4 σ e4 v2 v4 y u Q s4 (dp_mono (n3.trans n4).g _ _ d2) d4 p4
    | false =>
      rw [if_neg Bool.false_ne_true]
      exact p3 w3 (Nx.refl _) (.bl false) s3 (.bl false)
  | _ => exact False.elim p3
theorem de_chain {op op' : CmpOp} {g g' : D → D → En → R Ent} {a b c : Expr} {ma mb mc : En → R Ent} {pos : Pos} (ho : OpD X κ (compareOp op) g) (ho' : OpD X κ (compareOp op') g') (ha : PE X a (tOf κ W ma)) (hb : PE X b (tOf κ W mb)) (hc : PE X c (tOf κ W mc)) (hm : lastMarks [op, op'] [b, c] = false := by with_unfolding_all rfl) :
    PE X (.Compare a [op, op'] [b, c] pos) (tOf κ W (eChain g g' ma mb mc)) := by
  obtain ⟨r, hr, h⟩ := ho
  obtain ⟨r', hr', h'⟩ := ho'
  exact pe_imp (pe_chain hr hr' ha hb hc hm) fun σ H Q q => tChain_of h h' q
theorem dt_chain {op op' : CmpOp} {g g' : D → D → En → R Ent} {a b c : Expr} {ma mb mc : En → R Ent} {pos : Pos} (ho : OpD X κ (compareOp op) g) (ho' : OpD X κ (compareOp op') g') (ha : PE X a (tOf κ W ma)) (hb : PE X b (tOf κ W mb)) (hc : PE X c (tOf κ W mc)) (hm : lastMarks [op, op'] [b, c] = false := by with_unfolding_all rfl) :
    PT X (.Compare a [op, op'] [b, c] pos) (tTOf κ W (tst (eChain g g' ma mb mc))) := by
  obtain ⟨r, hr, h⟩ := ho
  obtain ⟨r', hr', h'⟩ := ho'
  exact pt_imp (pt_chain hr hr' ha hb hc hm) fun σ H Q q => tTest_of (fun _ _ _ z => tChain_of h h' z) q

/-! ### and, or, not, if -/
def tAndM (m1 m2 : En → R Bool) (en : En) : R Bool := (m1 en).bind fun b e => if b = true then m2 e else .ok false e
def tOrM (m1 m2 : En → R Bool) (en : En) : R Bool := (m1 en).bind fun b e => if b = true then .ok true e else m2 e
def tNotM (m1 : En → R Bool) (en : En) : R Bool := (m1 en).bind fun b e => .ok (!b) e
variable {a b c e : Expr} {rest : List Expr} {pos : Pos} {m m' ma mb : En → R Ent} {t t' : En → R Bool}
theorem pw_imp {t t' : TT} (h : PW X e t) (f : ∀ σ H Q, t' σ H Q → t σ H Q) : PW X e t' := ⟨fun wh pins s σ H Q I hq => h.run wh pins s σ H Q I (f σ H Q hq)⟩
theorem dw_and (ha : PT X a (tTOf κ W t)) (hb : PW X (.BoolOp .And (b :: rest) pos) (tTOf κ W t')) : PW X (.BoolOp .And (a :: b :: rest) pos) (tTOf κ W (tAndM t t')) :=
  pw_imp (pw_and ha hb) fun σ H Q ⟨w, en, hw, s, p⟩ => by
    subst hw
    refine goT (k := fun b e => if b = true then t' e else .ok false e) s p fun b e1 w1 n1 s1 p1 => ?_
    cases b with
    | true =>
      rw [if_pos rfl] at p1 ⊢
      exact ⟨w1, e1, rfl, s1, p1⟩
    | false =>
      rw [if_neg Bool.false_ne_true] at p1 ⊢
      exact p1 w1 (Nx.refl _) s1
theorem dw_and1 (ha : PT X a (tTOf κ W t)) : PW X (.BoolOp .And [a] pos) (tTOf κ W t) := pw_and1 ha
theorem dw_or (ha : PT X a (tTOf κ W t)) (hb : PW X (.BoolOp .Or (b :: rest) pos) (tTOf κ W t')) : PW X (.BoolOp .Or (a :: b :: rest) pos) (tTOf κ W (tOrM t t')) :=
  pw_imp (pw_or ha hb) fun σ H Q ⟨w, en, hw, s, p⟩ => by
    subst hw
    refine goT (k := fun b e => if b = true then .ok true e else t' e) s p fun b e1 w1 n1 s1 p1 => ?_
    cases b with
    | true =>
      rw [if_pos rfl] at p1 ⊢
      exact p1 w1 (Nx.refl _) s1
    | false =>
      rw [if_neg Bool.false_ne_true] at p1 ⊢
      exact ⟨w1, e1, rfl, s1, p1⟩
theorem dw_or1 (ha : PT X a (tTOf κ W t)) : PW X (.BoolOp .Or [a] pos) (tTOf κ W t) := pw_or1 ha
theorem dt_not (ha : PT X a (tTOf κ W t)) : PT X (.UnaryOp .Not a pos) (tTOf κ W (tNotM t)) :=
  pt_imp (pt_not ha) fun σ H Q ⟨w, en, hw, s, p⟩ => by
    subst hw
    exact goT (k := fun b e => .ok (!b) e) s p fun b e1 w1 n1 s1 p1 => p1 w1 (Nx.refl _) s1
/-- .. as values -/
def eAnd (m m' : En → R Ent) (en : En) : R Ent := (tst m en).bind fun b e => if b = true then m' e else .ok (.sh (.bool false)) e
def eOr (m m' : En → R Ent) (en : En) : R Ent := (tst m en).bind fun b e => if b = true then .ok (.sh (.bool true)) e else m' e
def eNot (m : En → R Ent) (en : En) : R Ent := (tst m en).bind fun b e => .ok (.sh (.bool (!b))) e
def eIf (t : En → R Bool) (m m' : En → R Ent) (en : En) : R Ent := (t en).bind fun b e => if b = true then m e else m' e
/-- a truth value's place in a reading -/
theorem goB {w : Sn} {σ : St} {en : En} {α : Type} {k : Bool → En → R α} {Q : α → En → Sn → Prop} {Q1 : VK} (s : StR κ w σ en) (h : Po κ W w ((tst m en).bind k) Q)
    (hk : ∀ b en1 w1, Nx w w1 → StR κ w1 σ en1 → Po κ W w1 (k b en1) Q → Q1 (.bl b) w1.H) : tOf κ W m σ w.H Q1 := by
  have h' : Po κ W w ((dv m en).bind fun d e => (match d with | .bool b => R.ok b e | _ => .st : R Bool).bind k) Q := by
    unfold tst at h
    cases e : dv m en with
    | ok d e1 => rw [e] at h; exact h
    | ex c e1 => rw [e] at h; exact h
    | st => rw [e] at h; exact h
  refine goD s h' fun d e1 v1 w1 n1 s1 d1 p1 => ?_
  cases d with
  | bool b =>
    rw [dp_bool d1]
    exact hk b e1 w1 n1 s1 p1
  | _ => exact False.elim p1
theorem de_and (ha : PE X a (tOf κ W m)) (hb : PE X (.BoolOp .And (b :: rest) pos) (tOf κ W m')) : PE X (.BoolOp .And (a :: b :: rest) pos) (tOf κ W (eAnd m m')) :=
  pe_imp (pe_and ha hb) fun σ H Q ⟨w, en, hw, s, p⟩ => by
    subst hw
    refine goB s p fun b e1 w1 n1 s1 p1 => ⟨b, rfl, ?_⟩
    cases b with
    | true =>
      rw [if_pos rfl] at p1 ⊢
      exact ⟨w1, e1, rfl, s1, p1⟩
    | false =>
      rw [if_neg Bool.false_ne_true] at p1 ⊢
      exact p1 w1 (Nx.refl _) _ s1 (.bl false)
theorem de_or (ha : PE X a (tOf κ W m)) (hb : PE X (.BoolOp .Or (b :: rest) pos) (tOf κ W m')) : PE X (.BoolOp .Or (a :: b :: rest) pos) (tOf κ W (eOr m m')) :=
  pe_imp (pe_or ha hb) fun σ H Q ⟨w, en, hw, s, p⟩ => by
    subst hw
    refine goB s p fun b e1 w1 n1 s1 p1 => ⟨b, rfl, ?_⟩
    cases b with
    | true =>
      rw [if_pos rfl] at p1 ⊢
      exact p1 w1 (Nx.refl _) _ s1 (.bl true)
    | false =>
      rw [if_neg Bool.false_ne_true] at p1 ⊢
      exact ⟨w1, e1, rfl, s1, p1⟩
theorem de_one {op : BoolOp} (ha : PE X a (tOf κ W m)) : PE X (.BoolOp op [a] pos) (tOf κ W m) := pe_one ha
theorem de_not (ha : PE X a (tOf κ W m)) : PE X (.UnaryOp .Not a pos) (tOf κ W (eNot m)) :=
  pe_imp (pe_not ha) fun σ H Q ⟨w, en, hw, s, p⟩ => by
    subst hw
    exact goB (k := fun (b : Bool) (e : En) => R.ok (Ent.sh (PyData.bool (!b))) e) s p fun b e1 w1 n1 s1 p1 => ⟨b, rfl, p1 w1 (Nx.refl _) _ s1 (.bl _)⟩
theorem de_if (hc : PT X c (tTOf κ W t)) (ha : PE X a (tOf κ W m)) (hb : PE X b (tOf κ W m')) : PE X (.IfExp c a b pos) (tOf κ W (eIf t m m')) :=
  pe_imp (pe_ifExp hc ha hb) fun σ H Q ⟨w, en, hw, s, p⟩ => by
    subst hw
    refine goT (k := fun b e => if b = true then m e else m' e) s p fun b e1 w1 n1 s1 p1 => ?_
    cases b with
    | true =>
      rw [if_pos rfl] at p1 ⊢
      exact ⟨w1, e1, rfl, s1, p1⟩
    | false =>
      rw [if_neg Bool.false_ne_true] at p1 ⊢
      exact ⟨w1, e1, rfl, s1, p1⟩

/-! ### arguments -/
/-- an argument: data, or a world object -/
def toA (r : Ent) (e : En) : R Ent := match r with
  | .sh d => .ok (.sh d) e
  | .ow ds => .ok (.sh (.list ds)) e
  | .wr j => .ok (.wr j) e
  | .sc ns => .ok (.sc ns) e
  | _ => .st
def aNil (en : En) : R (List Ent) := .ok [] en
def aCons (m : En → R Ent) (ms : En → R (List Ent)) (en : En) : R (List Ent) := (m en).bind fun r e => (toA r e).bind fun r' e' => (ms e').bind fun rs e2 => .ok (r' :: rs) e2
theorem frz_a {w : Sn} {σ : St} {en : En} {v : V} {r r' : Ent} {e : En} (s : StR κ w σ en) (er : EntR κ w .r v r) (hd : toA r en = .ok r' e) : e = en ∧ ∃ w', Nx w w' ∧ w'.H = w.H ∧ StR κ w' σ en ∧ ArgR κ w' v r' := by
  cases r with
  | sh d' =>
    cases hd
    exact ⟨rfl, w, Nx.refl _, rfl, s, er⟩
  | ow ds =>
    cases hd
    obtain ⟨p, xs, rfl, hO, hH, ha⟩ := er
    have hG := s.wo.fr p _ hO
    exact ⟨rfl, frzAt w p xs, frz_nx hO hG, rfl, s.frzR hO hH, Dq.lst upd_same (dpa_mono (upG hG) _ _ ha)⟩
  | no => cases hd
  | dk kvs => cases hd
  | wr j =>
    cases hd
    exact ⟨rfl, w, Nx.refl _, rfl, s, er⟩
  | sc =>
    cases hd
    exact ⟨rfl, w, Nx.refl _, rfl, s, er⟩
  | fz kvs => cases hd
theorem goE {w : Sn} {σ : St} {en : En} {α : Type} {k : Ent → En → R α} {Q : α → En → Sn → Prop} {Q1 : VK} (s : StR κ w σ en) (h : Po κ W w ((m en).bind fun r e => (toA r e).bind k) Q)
    (hk : ∀ r en1 v w1, Nx w w1 → StR κ w1 σ en1 → ArgR κ w1 v r → Po κ W w1 (k r en1) Q → Q1 v w1.H) : tOf κ W m σ w.H Q1 := by
  refine go s h fun r en1 v w1 n1 s1 er p1 => ?_
  cases e2 : toA r en1 with
  | ok r' e3 =>
    rw [e2] at p1
    obtain ⟨rfl, w2, n2, hH, s2, dp⟩ := frz_a s1 er e2
    rw [← hH]
    exact hk r' e3 v w2 (n1.trans n2) s2 dp (Po.mono (x := k r' e3) p1 n2)
  | ex c e3 => cases r <;> cases e2
  | st => rw [e2] at p1; exact False.elim p1
theorem da_nil : PA X [] (tAOf κ W aNil) := pa_imp pa_nil fun σ H Q ⟨w, en, hw, s, p⟩ => by
  subst hw
  exact p w (Nx.refl _) [] s .nil
theorem da_cons {es : List Expr} {ms : En → R (List Ent)} (h : PE X e (tOf κ W m)) (hs : PA X es (tAOf κ W ms)) (hst : starEach (e :: es) X.env = (false, eval e X.env) :: starEach es X.env := by rfl) : PA X (e :: es) (tAOf κ W (aCons m ms)) :=
  pa_imp (pa_cons h hs hst) fun σ H Q ⟨w, en, hw, s, p⟩ => by
    subst hw
    refine goE s p fun r e1 v w1 n1 s1 a1 p1 => ?_
    exact goA s1 p1 fun rs e2 vs w2 n2 s2 a2 p2 => p2 w2 (Nx.refl _) (v :: vs) s2 (.cons (a1.mono n2) a2)
/-- all data -/
def asDs : List Ent → Option (List D)
  | [] => some []
  | .sh d :: r => (asDs r).map (d :: ·)
  | _ :: _ => none
theorem asDs_all {w : Sn} : ∀ {rs : List Ent} {ds : List D} {vs : List V}, asDs rs = some ds → ArgsR κ w vs rs → DqAll w.G vs ds
  | [], ds, vs, h, a => by
    cases a
    cases h
    exact .nil
  | .sh d :: r, ds, _, h, .cons q t => by
    have h' : (asDs r).map (d :: ·) = some ds := h
    cases e : asDs r with
    | none => rw [e] at h'; cases h'
    | some es =>
      rw [e] at h'
      cases h'
      exact .cons q (asDs_all e t)
  | .no :: _, _, _, h, _ => by cases h
  | .ow _ :: _, _, _, h, _ => by cases h
  | .dk _ :: _, _, _, h, _ => by cases h
  | .wr _ :: _, _, _, h, _ => by cases h
  | .sc _ :: _, _, _, h, _ => by cases h
  | .fz _ :: _, _, _, h, _ => by cases h
def dvs (ms : En → R (List Ent)) (en : En) : R (List D) := (ms en).bind fun rs e => match asDs rs with | some ds => .ok ds e | none => .st
theorem goDs {w : Sn} {σ : St} {en : En} {ms : En → R (List Ent)} {α : Type} {k : List D → En → R α} {Q : α → En → Sn → Prop} {Q1 : List V → Hp → Prop} (s : StR κ w σ en) (h : Po κ W w ((dvs ms en).bind k) Q)
    (hk : ∀ ds en1 vs w1, Nx w w1 → StR κ w1 σ en1 → DqAll w1.G vs ds → Po κ W w1 (k ds en1) Q → Q1 vs w1.H) : tAOf κ W ms σ w.H Q1 := by
  have h' : Po κ W w ((ms en).bind fun rs e => (match asDs rs with | some ds => R.ok ds e | none => .st : R (List D)).bind k) Q := by
    unfold dvs at h
    cases e : ms en with
    | ok d e1 => rw [e] at h; exact h
    | ex c e1 => rw [e] at h; exact h
    | st => rw [e] at h; exact h
  refine goA s h' fun rs e1 vs w1 n1 s1 a1 p1 => ?_
  cases e : asDs rs with
  | none => rw [e] at p1; exact False.elim p1
  | some ds =>
    rw [e] at p1
    exact hk ds e1 vs w1 n1 s1 (asDs_all e a1) p1

/-! ### displays -/
def lim : Nat := 100000
theorem lim_ok {n : Nat} (h : n ≤ lim) : n ≤ sizeLine := Nat.le_trans h (by unfold lim; rw [sizeLine_eq]; decide)
theorem lim_lt {n : Nat} (h : n < lim) : n < sizeLine := Nat.lt_of_lt_of_le h (by unfold lim; rw [sizeLine_eq]; decide)
def eTup (ms : En → R (List Ent)) (en : En) : R Ent := (dvs ms en).bind fun ds e => if ds.length ≤ lim then .ok (.sh (.tuple ds)) e else .st
def eLst (ms : En → R (List Ent)) (en : En) : R Ent := (dvs ms en).bind fun ds e => if ds.length ≤ lim then .ok (.ow ds) e else .st
theorem de_tup {es : List Expr} {ms : En → R (List Ent)} {k : Nat} (h : PA X es (tAOf κ W ms)) : PE X (.Tuple es k pos) (tOf κ W (eTup ms)) :=
  pe_imp (pe_tup h) fun σ H Q ⟨w, en, hw, s, p⟩ => by
    subst hw
    refine goDs (k := fun (ds : List D) (e : En) => if ds.length ≤ lim then R.ok (Ent.sh (PyData.tuple ds)) e else R.st) s p fun ds e1 vs w1 n1 s1 d1 p1 => ?_
    by_cases hl : ds.length ≤ lim
    · rw [if_pos hl] at p1
      exact ⟨by rw [dpa_len d1]; exact lim_ok hl, fun a ha => fin_tup s1 p1 d1 ha⟩
    · rw [if_neg hl] at p1
      exact False.elim p1
theorem de_lst {es : List Expr} {ms : En → R (List Ent)} (h : PA X es (tAOf κ W ms)) : PE X (.List es pos) (tOf κ W (eLst ms)) :=
  pe_imp (pe_lst h) fun σ H Q ⟨w, en, hw, s, p⟩ => by
    subst hw
    refine goDs (k := fun (ds : List D) (e : En) => if ds.length ≤ lim then R.ok (Ent.ow ds) e else R.st) s p fun ds e1 vs w1 n1 s1 d1 p1 => ?_
    by_cases hl : ds.length ≤ lim
    · rw [if_pos hl] at p1
      exact ⟨by rw [dpa_len d1]; exact lim_ok hl, fun a ha => fin_ow s1 p1 d1 ha⟩
    · rw [if_neg hl] at p1
      exact False.elim p1
end
end CO

/-! CoC: operators, subscripts, slices over the data layer. -/
namespace CO
open PySem PySem.Spec PyProof.Rows L2

/-- a choice that the kernel never runs -/
noncomputable def cIf {α : Type} (p : Prop) (a b : α) : α := @ite α p (Classical.propDecidable p) a b
theorem cIf_pos {α : Type} {p : Prop} {a b : α} (h : p) : cIf p a b = a := if_pos h
theorem cIf_neg {α : Type} {p : Prop} {a b : α} (h : ¬p) : cIf p a b = b := if_neg h
theorem cIf_t {α : Type} {a b : α} : cIf True a b = a := cIf_pos True.intro

/-! ### what operators do to data -/
def gAdd : D → D → En → R Ent
  | .int i, .int j, e => .ok (.sh (.int (i + j))) e
  | .str x, .str y, e => if x.length + y.length ≤ lim then .ok (.sh (.str (x ++ y))) e else .st
  | .list xs, .list ys, e => if xs.length + ys.length ≤ lim then .ok (.ow (xs ++ ys)) e else .st
  | .tuple xs, .tuple ys, e => if xs.length + ys.length ≤ lim then .ok (.sh (.tuple (xs ++ ys))) e else .st
  | _, _, _ => .st
def gSub : D → D → En → R Ent
  | .int i, .int j, e => .ok (.sh (.int (i - j))) e
  | _, _, _ => .st
/-- a text many times -/
def mulS (x : Str) (n : Int) : Str := Txt.mul x n
noncomputable def gMul : D → D → En → R Ent
  | .int i, .int j, e => cIf ((-(2 ^ 64) < i ∧ i < 2 ^ 64) ∨ (-(2 ^ 64) < j ∧ j < 2 ^ 64)) (.ok (.sh (.int (i * j))) e) .st
  | .str x, .int n, e => if x.length ≤ 1000 ∧ 0 ≤ n ∧ n ≤ 1000 then .ok (.sh (.str (mulS x n))) e else .st
  | .list xs, .int n, e => if xs.length ≤ 1000 ∧ 0 ≤ n ∧ n ≤ 1000 then .ok (.ow (List.replicate n.toNat xs).flatten) e else .st
  | .tuple xs, .int n, e => if xs ≠ [] ∧ xs.length ≤ 1000 ∧ 2 ≤ n ∧ n ≤ 1000 then .ok (.sh (.tuple (List.replicate n.toNat xs).flatten)) e else .st
  | _, _, _ => .st
noncomputable def gDiv : D → D → En → R Ent
  | .int i, .int j, e => cIf (0 < j ∧ j < 1073741824) (.ok (.sh (.int (i / j))) e) .st
  | _, _, _ => .st
def gMod : D → D → En → R Ent
  | .int i, .int j, e => if 0 < j then .ok (.sh (.int (i % j))) e else .st
  | _, _, _ => .st
noncomputable def gPow : D → D → En → R Ent
  | .int i, .int j, e => cIf (0 ≤ j ∧ j ≤ 1000000 ∧ i.natAbs < 2 ^ 64) (.ok (.sh (.int (i ^ j.toNat))) e) .st
  | _, _, _ => .st
def gEq (a b : D) (e : En) : R Ent := if SeqAt.shaped a = true ∧ SeqAt.shaped b = true then .ok (.sh (.bool (PyData.eqv a b))) e else .st
def gNe (a b : D) (e : En) : R Ent := if SeqAt.shaped a = true ∧ SeqAt.shaped b = true then .ok (.sh (.bool (!PyData.eqv a b))) e else .st
def gLt : D → D → En → R Ent
  | .int i, .int j, e => .ok (.sh (.bool (decide (i < j)))) e
  | .str x, .str y, e => .ok (.sh (.bool (decide (x.cps.toList < y.cps.toList)))) e
  | _, _, _ => .st
def gLe : D → D → En → R Ent
  | .int i, .int j, e => .ok (.sh (.bool (decide (i ≤ j)))) e
  | _, _, _ => .st
def gGt : D → D → En → R Ent
  | .int i, .int j, e => .ok (.sh (.bool (decide (j < i)))) e
  | _, _, _ => .st
def gGe : D → D → En → R Ent
  | .int i, .int j, e => .ok (.sh (.bool (decide (j ≤ i)))) e
  | _, _, _ => .st
/-- y in x: a text in a text -/
def inS (y x : Str) : Bool := !(Builtin.Str.occurrences x y 0 x.length 1).isEmpty
/-- flat data -/
def flatD : D → Bool
  | .none => true | .bool _ => true | .int _ => true | .str _ => true | _ => false
def gInB (a b : D) : Option Bool := match b with
  | .str y => match a with | .str x => some (inS x y) | _ => none
  | .list ds => if SeqAt.shaped a = true ∧ SeqAt.shaped (.list ds) = true then some (ds.any fun z => PyData.eqv z a) else none
  | .tuple ds => if flatD a = true ∧ ds.all flatD = true then some (ds.any fun z => PyData.eqv z a) else none
  | _ => none
def gIn (a b : D) (e : En) : R Ent := match gInB a b with | some k => .ok (.sh (.bool k)) e | none => .st
def gNotIn (a b : D) (e : En) : R Ent := match gInB a b with | some k => .ok (.sh (.bool (!k))) e | none => .st
def isD : D → D → Option Bool
  | .none, .none => some true
  | _, .none => some false
  | .bool a, .bool b => some (decide (a = b))
  | _, _ => none
def gIs (a b : D) (e : En) : R Ent := match isD a b with | some k => .ok (.sh (.bool k)) e | none => .st
def gIsNot (a b : D) (e : En) : R Ent := match isD a b with | some k => .ok (.sh (.bool (!k))) e | none => .st

section
variable {X : Cx} {κ : Kx}
/-- ints to an int -/
theorem opd_of {F : Value → Value → Sem Value} {g : D → D → En → R Ent} {r : R2} (hr : OpR X F r)
    (h : ∀ (W : WX) (w : Sn) (σ : St) (en : En) (x y : V) (a b : D) (Q : VK), StR κ w σ en → Dq w.G x a → Dq w.G y b → Po κ W w (g a b en) (Qe κ σ Q) → r x y w.H Q) : OpD X κ F g := ⟨r, hr, h⟩
theorem od_add : OpD X κ (binaryOp .Add) gAdd := by
  refine opd_of (op_add.or (op_add_str.or (op_cat.or op_catA))) fun W w σ en x y a b Q s ha hb p => ?_
  cases ha with
  | int i =>
    cases hb with
    | int j => exact .inl ⟨i, j, rfl, rfl, fin_sh s p (.int _)⟩
    | _ => exact False.elim p
  | str i =>
    cases hb with
    | str j =>
      have p' : Po κ W w (if i.length + j.length ≤ lim then R.ok (Ent.sh (.str (i ++ j))) en else .st) (Qe κ σ Q) := p
      by_cases hl : i.length + j.length ≤ lim
      · rw [if_pos hl] at p'
        exact .inr (.inl ⟨i, j, rfl, rfl, lim_ok hl, fin_sh s p' (.str _)⟩)
      · rw [if_neg hl] at p'
        exact p'.elim
    | _ => exact False.elim p
  | lst h1 h2 =>
    rename_i p1 xs ds
    cases hb with
    | lst h3 h4 =>
      rename_i p2 ys es
      have p' : Po κ W w (if ds.length + es.length ≤ lim then R.ok (Ent.ow (ds ++ es)) en else .st) (Qe κ σ Q) := p
      by_cases hl : ds.length + es.length ≤ lim
      · rw [if_pos hl] at p'
        exact .inr (.inr (.inl ⟨p1, p2, xs, ys, rfl, rfl, s.wo.su _ _ h1, s.wo.su _ _ h3, by rw [dpa_len h2, dpa_len h4]; exact lim_ok hl, fun a ha => fin_ow s p' (dpa_app h2 h4) ha⟩))
      · rw [if_neg hl] at p'
        exact p'.elim
    | _ => exact False.elim p
  | tup h1 h2 =>
    rename_i p1 xs ds
    cases hb with
    | tup h3 h4 =>
      rename_i p2 ys es
      have p' : Po κ W w (if ds.length + es.length ≤ lim then R.ok (Ent.sh (.tuple (ds ++ es))) en else .st) (Qe κ σ Q) := p
      by_cases hl : ds.length + es.length ≤ lim
      · rw [if_pos hl] at p'
        refine .inr (.inr (.inr ⟨p1, p2, xs, ys, rfl, rfl, SqT.of (s.wo.su _ _ h1), SqT.of (s.wo.su _ _ h3), by rw [dpa_len h2, dpa_len h4]; exact lim_ok hl, fun e => ?_, fun _ e => ?_, fun _ _ a ha => fin_tup s p' (dpa_app h2 h4) ha⟩))
        · subst e
          have e2 := dpa_len h2
          have e3 : ds = [] := List.eq_nil_of_length_eq_zero e2.symm
          subst e3
          exact fin_sh s p' (.tup h3 h4)
        · subst e
          have e2 := dpa_len h4
          have e3 : es = [] := List.eq_nil_of_length_eq_zero e2.symm
          subst e3
          exact fin_sh s p' (.tup h1 (by rw [List.append_nil]; exact h2))
      · rw [if_neg hl] at p'
        exact p'.elim
    | _ => exact False.elim p
  | non => exact False.elim p
  | bl b => exact False.elim p
theorem od_sub : OpD X κ (binaryOp .Sub) gSub := by
  refine opd_of op_sub fun W w σ en x y a b Q s ha hb p => ?_
  cases ha with
  | int i =>
    cases hb with
    | int j => exact ⟨i, j, rfl, rfl, fin_sh s p (.int _)⟩
    | _ => exact False.elim p
  | _ => exact False.elim p
theorem op_mulStr : OpR X (binaryOp .Mult) (fun x y H Q => ∃ i n, x = .str i ∧ y = .int n ∧ i.length ≤ 1000 ∧ 0 ≤ n ∧ n ≤ 1000 ∧ Q (.str (mulS i n)) H) := by
  intro pins s σ H x y v u Q I rx ry h
  obtain ⟨i, n, rfl, rfl, h1, h2, h3, q⟩ := h
  obtain ⟨t, rfl⟩ := rx
  obtain ⟨t', rfl⟩ := ry
  refine PySem.SB.mul ⟨?_, fun h4 _ => ?_, fun h4 _ => ?_⟩ fun t' k => ⟨.str (mulS i n), H, I.tok _, ⟨_, rfl⟩, q⟩
  · have e1 : decide (n < -(2 ^ 63 : Int)) = false := decide_eq_false (by omega)
    have e2 : decide (n ≥ 2 ^ 63) = false := decide_eq_false (by omega)
    rw [e1, e2]; rfl
  · intro h5
    have : (2 ^ 63 - 1 : Int) / n ≥ (2 ^ 63 - 1) / 1000 := by
      apply Int.le_ediv_of_mul_le (by omega)
      have : (2 ^ 63 - 1 : Int) / 1000 * n ≤ (2 ^ 63 - 1 : Int) / 1000 * 1000 := Int.mul_le_mul_of_nonneg_left h3 (by decide)
      omega
    omega
  · have a1 : i.length * n.toNat ≤ 1000 * 1000 := Nat.mul_le_mul h1 (by omega)
    unfold PySem.Builtin.Str.tooLong
    rw [sizeLine_eq]
    exact decide_eq_false (by omega)
theorem dpa_rep {G : Hp} {vs : List V} {ds : List D} (h : DqAll G vs ds) : ∀ n : Nat, DqAll G (List.replicate n vs).flatten (List.replicate n ds).flatten
  | 0 => .nil
  | n + 1 => by
    rw [List.replicate_succ, List.replicate_succ, List.flatten_cons, List.flatten_cons]
    exact dpa_app h (dpa_rep h n)
theorem od_mul : OpD X κ (binaryOp .Mult) gMul := by
  refine opd_of (op_mul.or (op_mulStr.or (op_rep.or op_repT))) fun W w σ en x y a b Q s ha hb p => ?_
  cases hb with
  | int n =>
    cases ha with
    | int i =>
      have p' : Po κ W w (cIf ((-(2 ^ 64) < i ∧ i < 2 ^ 64) ∨ (-(2 ^ 64) < n ∧ n < 2 ^ 64)) (R.ok (Ent.sh (.int (i * n))) en) .st) (Qe κ σ Q) := p
      by_cases hl : (-(2 ^ 64) < i ∧ i < 2 ^ 64) ∨ (-(2 ^ 64) < n ∧ n < 2 ^ 64)
      · rw [cIf_pos hl] at p'
        exact .inl ⟨i, n, rfl, rfl, hl, fin_sh s p' (.int _)⟩
      · rw [cIf_neg hl] at p'
        exact p'.elim
    | str i =>
      have p' : Po κ W w (if i.length ≤ 1000 ∧ 0 ≤ n ∧ n ≤ 1000 then R.ok (Ent.sh (.str (mulS i n))) en else .st) (Qe κ σ Q) := p
      by_cases hl : i.length ≤ 1000 ∧ 0 ≤ n ∧ n ≤ 1000
      · rw [if_pos hl] at p'
        exact .inr (.inl ⟨i, n, rfl, rfl, hl.1, hl.2.1, hl.2.2, fin_sh s p' (.str _)⟩)
      · rw [if_neg hl] at p'
        exact p'.elim
    | lst h1 h2 =>
      rename_i p1 xs ds
      have p' : Po κ W w (if ds.length ≤ 1000 ∧ 0 ≤ n ∧ n ≤ 1000 then R.ok (Ent.ow (List.replicate n.toNat ds).flatten) en else .st) (Qe κ σ Q) := p
      by_cases hl : ds.length ≤ 1000 ∧ 0 ≤ n ∧ n ≤ 1000
      · rw [if_pos hl] at p'
        refine .inr (.inr (.inl ⟨p1, n, xs, rfl, rfl, s.wo.su _ _ h1, by omega, by omega, ?_, fun a ha => fin_ow s p' (dpa_rep h2 n.toNat) ha⟩))
        have a1 : xs.length * n.toNat ≤ 1000 * 1000 := Nat.mul_le_mul (by rw [dpa_len h2]; exact hl.1) (by omega)
        rw [sizeLine_eq]; omega
      · rw [if_neg hl] at p'
        exact p'.elim
    | tup h1 h2 =>
      rename_i p1 xs ds
      have p' : Po κ W w (if ds ≠ [] ∧ ds.length ≤ 1000 ∧ 2 ≤ n ∧ n ≤ 1000 then R.ok (Ent.sh (.tuple (List.replicate n.toNat ds).flatten)) en else .st) (Qe κ σ Q) := p
      by_cases hl : ds ≠ [] ∧ ds.length ≤ 1000 ∧ 2 ≤ n ∧ n ≤ 1000
      · rw [if_pos hl] at p'
        refine .inr (.inr (.inr ⟨p1, n, xs, rfl, rfl, SqT.of (s.wo.su _ _ h1), fun e => ?_, hl.2.2.1, hl.2.2.2, by rw [dpa_len h2]; exact hl.2.1, fun a ha => fin_tup s p' (dpa_rep h2 n.toNat) ha⟩))
        subst e
        exact hl.1 (List.eq_nil_of_length_eq_zero (dpa_len h2).symm)
      · rw [if_neg hl] at p'
        exact p'.elim
    | non => exact False.elim p
    | bl b => exact False.elim p
  | _ => cases ha <;> exact False.elim p
theorem od_div : OpD X κ (binaryOp .FloorDiv) gDiv := by
  refine opd_of op_fdiv fun W w σ en x y a b Q s ha hb p => ?_
  cases ha with
  | int i =>
    cases hb with
    | int j =>
      have p' : Po κ W w (cIf (0 < j ∧ j < 1073741824) (R.ok (Ent.sh (.int (i / j))) en) .st) (Qe κ σ Q) := p
      by_cases hl : 0 < j ∧ j < 1073741824
      · rw [cIf_pos hl] at p'
        exact ⟨i, j, rfl, rfl, hl, fin_sh s p' (.int _)⟩
      · rw [cIf_neg hl] at p'
        exact p'.elim
    | _ => exact False.elim p
  | _ => exact False.elim p
theorem od_mod : OpD X κ (binaryOp .Mod) gMod := by
  refine opd_of op_mod fun W w σ en x y a b Q s ha hb p => ?_
  cases ha with
  | int i =>
    cases hb with
    | int j =>
      have p' : Po κ W w (if 0 < j then R.ok (Ent.sh (.int (i % j))) en else .st) (Qe κ σ Q) := p
      by_cases hl : 0 < j
      · rw [if_pos hl] at p'
        exact ⟨i, j, rfl, rfl, hl, fin_sh s p' (.int _)⟩
      · rw [if_neg hl] at p'
        exact p'.elim
    | _ => exact False.elim p
  | _ => exact False.elim p
theorem od_pow : OpD X κ (binaryOp .Pow) gPow := by
  refine opd_of op_pow fun W w σ en x y a b Q s ha hb p => ?_
  cases ha with
  | int i =>
    cases hb with
    | int j =>
      have p' : Po κ W w (cIf (0 ≤ j ∧ j ≤ 1000000 ∧ i.natAbs < 2 ^ 64) (R.ok (Ent.sh (.int (i ^ j.toNat))) en) .st) (Qe κ σ Q) := p
      by_cases hl : 0 ≤ j ∧ j ≤ 1000000 ∧ i.natAbs < 2 ^ 64
      · rw [cIf_pos hl] at p'
        exact ⟨i, j, rfl, rfl, hl, fin_sh s p' (.int _)⟩
      · rw [cIf_neg hl] at p'
        exact p'.elim
    | _ => exact False.elim p
  | _ => exact False.elim p
theorem od_eq (hu : X.A.units + 64 < cLine) : OpD X κ (compareOp .Eq) gEq := by
  refine opd_of (op_eqD hu) fun W w σ en x y a b Q s ha hb p => ?_
  unfold gEq at p
  by_cases hl : SeqAt.shaped a = true ∧ SeqAt.shaped b = true
  · rw [if_pos hl] at p
    exact ⟨a, b, dp_mono' s ha, dp_mono' s hb, hl.1, hl.2, fin_sh s p (.bl _)⟩
  · rw [if_neg hl] at p
    exact p.elim
where dp_mono' {X : Cx} {κ : Kx} {w : Sn} {σ : St} {en : En} {v : V} {d : D} (s : StR κ w σ en) (h : Dq w.G v d) : Dp X.K w.H v d := dq_dp _ _ (dp_mono s.wo.su _ _ h)
theorem dqH {w : Sn} {σ : St} {en : En} {v : V} {d : D} (s : StR κ w σ en) (h : Dq w.G v d) : Dp X.K w.H v d := dq_dp _ _ (dp_mono s.wo.su _ _ h)
theorem od_ne (hu : X.A.units + 64 < cLine) : OpD X κ (compareOp .NotEq) gNe := by
  refine opd_of (op_neD hu) fun W w σ en x y a b Q s ha hb p => ?_
  unfold gNe at p
  by_cases hl : SeqAt.shaped a = true ∧ SeqAt.shaped b = true
  · rw [if_pos hl] at p
    exact ⟨a, b, dqH s ha, dqH s hb, hl.1, hl.2, fin_sh s p (.bl _)⟩
  · rw [if_neg hl] at p
    exact p.elim
theorem od_lt : OpD X κ (compareOp .Lt) gLt := by
  refine opd_of (op_lt.or op_lt_str) fun W w σ en x y a b Q s ha hb p => ?_
  cases ha with
  | int i =>
    cases hb with
    | int j => exact .inl ⟨i, j, rfl, rfl, fin_sh s p (.bl _)⟩
    | _ => exact False.elim p
  | str i =>
    cases hb with
    | str j => exact .inr ⟨i, j, rfl, rfl, fin_sh s p (.bl _)⟩
    | _ => exact False.elim p
  | _ => exact False.elim p
theorem od_le : OpD X κ (compareOp .LtE) gLe := by
  refine opd_of op_le fun W w σ en x y a b Q s ha hb p => ?_
  cases ha with
  | int i =>
    cases hb with
    | int j => exact ⟨i, j, rfl, rfl, fin_sh s p (.bl _)⟩
    | _ => exact False.elim p
  | _ => exact False.elim p
theorem od_gt : OpD X κ (compareOp .Gt) gGt := by
  refine opd_of op_gt fun W w σ en x y a b Q s ha hb p => ?_
  cases ha with
  | int i =>
    cases hb with
    | int j => exact ⟨i, j, rfl, rfl, fin_sh s p (.bl _)⟩
    | _ => exact False.elim p
  | _ => exact False.elim p
theorem od_ge : OpD X κ (compareOp .GtE) gGe := by
  refine opd_of op_ge fun W w σ en x y a b Q s ha hb p => ?_
  cases ha with
  | int i =>
    cases hb with
    | int j => exact ⟨i, j, rfl, rfl, fin_sh s p (.bl _)⟩
    | _ => exact False.elim p
  | _ => exact False.elim p
theorem flat_dv {G : Hp} {v : V} {d : D} (h : Dq G v d) (f : flatD d = true) : flatV v = true := by
  cases h <;> first | rfl | cases f
theorem eqv_flat {G : Hp} {v u : V} {d e : D} (h : Dq G v d) (k : Dq G u e) (f : flatD d = true) (f' : flatD e = true) : eqV v u = PyData.eqv d e := by
  cases h <;> cases k <;> first | (simp only [eqV, PyData.eqv]; done) | (exact absurd f (by unfold flatD; exact Bool.false_ne_true)) | (exact absurd f' (by unfold flatD; exact Bool.false_ne_true)) | (simp [eqV, PyData.eqv]; done)
theorem any_flat {G : Hp} {v : V} {d : D} (h : Dq G v d) (f : flatD d = true) : ∀ {vs : List V} {ds : List D}, DqAll G vs ds → ds.all flatD = true → vs.all flatV = true ∧ inV v vs = ds.any fun z => PyData.eqv z d
  | _, _, .nil, _ => ⟨rfl, rfl⟩
  | _, _, .cons q t, g => by
    rw [List.all_cons, Bool.and_eq_true] at g
    obtain ⟨i1, i2⟩ := any_flat h f t g.2
    refine ⟨by rw [List.all_cons, flat_dv q g.1, i1]; rfl, ?_⟩
    have e1 := eqv_flat q h g.1 f
    have i2' := i2
    unfold inV at i2' ⊢
    rw [List.any_cons, List.any_cons, e1, i2']
theorem od_in (hu : X.A.units + 65 < cLine) : OpD X κ (compareOp .In) gIn := by
  refine opd_of (op_in_str.or ((op_inD hu).or op_in_seq)) fun W w σ en x y a b Q s ha hb p => ?_
  unfold gIn gInB at p
  cases hb with
  | str j =>
    cases ha with
    | str i => exact .inl ⟨i, j, rfl, rfl, fin_sh s p (.bl _)⟩
    | _ => exact False.elim p
  | lst h1 h2 =>
    rename_i p1 xs ds
    dsimp only at p
    by_cases hl : SeqAt.shaped a = true ∧ SeqAt.shaped (.list ds) = true
    · rw [if_pos hl] at p
      exact .inr (.inl ⟨a, ds, dqH s ha, dqH s (.lst h1 h2), hl.1, hl.2, fin_sh s p (.bl _)⟩)
    · rw [if_neg hl] at p
      exact p.elim
  | tup h1 h2 =>
    rename_i p1 xs ds
    dsimp only at p
    by_cases hl : flatD a = true ∧ ds.all flatD = true
    · rw [if_pos hl] at p
      obtain ⟨i1, i2⟩ := any_flat ha hl.1 h2 hl.2
      refine .inr (.inr ⟨p1, xs, rfl, .inr (SqT.of (s.wo.su _ _ h1)), flat_dv ha hl.1, i1, ?_⟩)
      show Q (.bl (inV x xs)) w.H
      rw [i2]
      exact fin_sh s p (.bl _)
    · rw [if_neg hl] at p
      exact p.elim
  | _ => exact False.elim p
theorem od_notIn (hu : X.A.units + 65 < cLine) : OpD X κ (compareOp .NotIn) gNotIn := by
  refine opd_of (op_notin_str.or ((op_notInD hu).or op_notIn_seq)) fun W w σ en x y a b Q s ha hb p => ?_
  unfold gNotIn gInB at p
  cases hb with
  | str j =>
    cases ha with
    | str i => exact .inl ⟨i, j, rfl, rfl, fin_sh s p (.bl _)⟩
    | _ => exact False.elim p
  | lst h1 h2 =>
    rename_i p1 xs ds
    dsimp only at p
    by_cases hl : SeqAt.shaped a = true ∧ SeqAt.shaped (.list ds) = true
    · rw [if_pos hl] at p
      exact .inr (.inl ⟨a, ds, dqH s ha, dqH s (.lst h1 h2), hl.1, hl.2, fin_sh s p (.bl _)⟩)
    · rw [if_neg hl] at p
      exact p.elim
  | tup h1 h2 =>
    rename_i p1 xs ds
    dsimp only at p
    by_cases hl : flatD a = true ∧ ds.all flatD = true
    · rw [if_pos hl] at p
      obtain ⟨i1, i2⟩ := any_flat ha hl.1 h2 hl.2
      refine .inr (.inr ⟨p1, xs, rfl, .inr (SqT.of (s.wo.su _ _ h1)), flat_dv ha hl.1, i1, ?_⟩)
      show Q (.bl (!inV x xs)) w.H
      rw [i2]
      exact fin_sh s p (.bl _)
    · rw [if_neg hl] at p
      exact p.elim
  | _ => exact False.elim p
theorem dec_non {G : Hp} {v : V} {d : D} (h : Dq G v d) : isD d .none = some (decide (v = .non)) := by
  cases h <;> simp [isD]
theorem od_is : OpD X κ (compareOp .Is) gIs := by
  refine opd_of (op_isN.or op_isBl) fun W w σ en x y a b Q s ha hb p => ?_
  unfold gIs at p
  cases hb with
  | non =>
    rw [dec_non ha] at p
    exact .inl ⟨rfl, fin_sh s p (.bl _)⟩
  | bl b =>
    cases ha with
    | bl c => exact .inr ⟨c, b, rfl, rfl, fin_sh s p (.bl _)⟩
    | _ => exact False.elim p
  | _ => cases ha <;> exact False.elim p
theorem od_isNot : OpD X κ (compareOp .IsNot) gIsNot := by
  refine opd_of (op_notN.or op_notBl) fun W w σ en x y a b Q s ha hb p => ?_
  unfold gIsNot at p
  cases hb with
  | non =>
    rw [dec_non ha] at p
    exact .inl ⟨rfl, fin_sh s p (.bl _)⟩
  | bl b =>
    cases ha with
    | bl c => exact .inr ⟨c, b, rfl, rfl, fin_sh s p (.bl _)⟩
    | _ => exact False.elim p
  | _ => cases ha <;> exact False.elim p
end
end CO

/-! CoD: subscripts, slices, calls of built-ins and of built-in methods over the data layer. -/
namespace CO
open PySem PySem.Spec PyProof.Rows L2

/-! ### subscripts -/
/-- item k of what an entry holds -/
def itemE (r : Ent) (k : Int) (e : En) : R Ent := match r with
  | .sh (.list ds) => match atI ds k with | some d => .ok (.sh d) e | none => .st
  | .sh (.tuple ds) => match atI ds k with | some d => .ok (.sh d) e | none => .st
  | .sh (.str x) => if x.length ≤ lim then match atI x.cps.toList k with | some c => .ok (.sh (.str ⟨#[c]⟩)) e | none => .st else .st
  | .ow ds => match atI ds k with | some d => .ok (.sh d) e | none => .st
  | _ => .st
/-- e[i], e any -/
def eIx (m mi : En → R Ent) (en : En) : R Ent := (dv m en).bind fun a e1 => (dv mi e1).bind fun k e2 => match k with | .int k => itemE (.sh a) k e2 | _ => .st
/-- x[i], x a name -/
def eIxN (i : Nat) (mi : En → R Ent) (en : En) : R Ent := match en.get i with
  | .no => .st
  | _ => (dv mi en).bind fun k e2 => match k with | .int k => itemE (e2.get i) k e2 | _ => .st
section
variable {X : Cx} {κ : Kx} {W : WX} {w : Sn} {σ : St} {en : En}
theorem atI_at {ds : List D} {xs : List V} {k : Int} {d : D} (h : DqAll w.G xs ds) (e : atI ds k = some d) : ∃ v, atI xs k = some v ∧ Dq w.G v d := by
  unfold atI at e ⊢
  rw [dpa_len h]
  cases q : ixN ds.length k with
  | none => rw [q] at e; cases e
  | some j =>
    rw [q] at e
    exact dpa_get h e
theorem item_ok {ix : Ix} {r : Ent} {v : V} {k : Int} {Q : VK} (s : StR κ w σ en) (er : EntR κ w ix v r) (p : Po κ W w (itemE r k en) (Qe κ σ Q)) : rIx X.K v (.int k) w.H Q := by
  unfold itemE at p
  cases r with
  | sh a =>
    cases a with
    | list ds =>
      obtain ⟨q, xs, rfl, h1, h2⟩ := dp_list er
      dsimp only at p
      cases e : atI ds k with
      | none => rw [e] at p; exact False.elim p
      | some d =>
        rw [e] at p
        obtain ⟨u, e1, e2⟩ := atI_at h2 e
        exact .inl ⟨q, xs, k, u, rfl, rfl, SqL.of (s.wo.su _ _ h1), e1, fin_sh s p e2⟩
    | tuple ds =>
      obtain ⟨q, xs, rfl, h1, h2⟩ := dp_tuple er
      dsimp only at p
      cases e : atI ds k with
      | none => rw [e] at p; exact False.elim p
      | some d =>
        rw [e] at p
        obtain ⟨u, e1, e2⟩ := atI_at h2 e
        exact .inr (.inl ⟨q, xs, k, u, rfl, rfl, SqT.of (s.wo.su _ _ h1), e1, fin_sh s p e2⟩)
    | str x =>
      have := dp_str er
      subst this
      dsimp only at p
      by_cases hl : x.length ≤ lim
      · rw [if_pos hl] at p
        cases e : atI x.cps.toList k with
        | none => rw [e] at p; exact False.elim p
        | some c =>
          rw [e] at p
          exact .inr (.inr ⟨x, k, c, rfl, rfl, lim_ok hl, e, fin_sh s p (.str _)⟩)
      · rw [if_neg hl] at p
        exact False.elim p
    | _ => exact False.elim p
  | ow ds =>
    obtain ⟨q, xs, rfl, hO, hH, h2⟩ := er
    dsimp only at p
    cases e : atI ds k with
    | none => rw [e] at p; exact False.elim p
    | some d =>
      rw [e] at p
      obtain ⟨u, e1, e2⟩ := atI_at h2 e
      exact .inl ⟨q, xs, k, u, rfl, rfl, SqL.of hH, e1, fin_sh s p e2⟩
  | _ => exact False.elim p
theorem de_ix {a b : Expr} {m mi : En → R Ent} {pos : Pos} (ha : PE X a (tOf κ W m)) (hb : PE X b (tOf κ W mi)) (hs : PlainIx b := by exact fun _ _ => rfl) : PE X (.Subscript a b pos) (tOf κ W (eIx m mi)) :=
  pe_imp (pe_ix ix_seq ha hb hs) fun σ H Q ⟨w, en, hw, s, p⟩ => by
    subst hw
    refine goD s p fun a e1 v1 w1 n1 s1 d1 p1 => ?_
    refine goD s1 p1 fun k e2 v2 w2 n2 s2 d2 p2 => ?_
    cases k with
    | int k =>
      rw [dp_int d2]
      exact item_ok (ix := .r) (r := .sh a) s2 (dp_mono n2.g _ _ d1) p2
    | _ => exact False.elim p2
theorem de_ixN (i : Nat) {x : Str} {b : Expr} {mi : En → R Ent} {px pos : Pos} (hb : PE X b (tOf κ W mi)) (hs : PlainIx b := by exact fun _ _ => rfl) (hN : X.N[i]? = some x := by rfl)
    (hv : Vis X.env.scope x := by first | exact Or.inl rfl | exact Or.inr (Or.inl rfl) | exact Or.inr (Or.inr rfl)) (hd : (x == ("__debug__" : Str)) = false := by decide) (hcd : (x == ("__classdict__" : Str)) = false := by decide) :
    PE X (.Subscript (.Name x px) b pos) (tOf κ W (eIxN i mi)) :=
  pe_imp (pe_ix ix_seq (pv i hN hv hd hcd) hb hs) fun σ H Q ⟨w, en, hw, s, p⟩ => by
    subst hw
    unfold eIxN at p
    by_cases hg : en.get i = .no
    · rw [hg] at p
      exact False.elim p
    · obtain ⟨v, ev, _⟩ := s.at hg
      have p' : Po κ W w ((dv mi en).bind fun k e2 => match k with | .int k => itemE (e2.get i) k e2 | _ => .st) (Qe κ σ Q) := by
        cases hq : en.get i with
        | no => exact absurd hq hg
        | sh d => rw [hq] at p; exact p
        | ow ds => rw [hq] at p; exact p
        | dk kvs => rw [hq] at p; exact p
        | wr j => rw [hq] at p; exact p
        | sc => rw [hq] at p; exact p
        | fz kvs => rw [hq] at p; exact p
      refine ⟨v, ev, ?_⟩
      refine goD s p' fun k e2 v2 w2 n2 s2 d2 p2 => ?_
      cases k with
      | int k =>
        rw [dp_int d2]
        dsimp only at p2
        by_cases hg2 : e2.get i = .no
        · rw [hg2] at p2
          exact False.elim p2
        · obtain ⟨v', ev', er⟩ := s2.at hg2
          rw [ev] at ev'
          cases ev'
          exact item_ok s2 er p2
      | _ => exact False.elim p2

/-! ### slices -/
def tPOf (κ : Kx) (W : WX) (m : En → R (Option Int)) : TO := fun σ H Q => ∃ w en, w.H = H ∧ StR κ w σ en ∧ Po κ W w (m en) fun o en' w' => StR κ w' σ en' → Q o w'.H
def pNo (en : En) : R (Option Int) := .ok none en
def pSo (m : En → R Ent) (en : En) : R (Option Int) := (dv m en).bind fun k e => match k with | .int k => .ok (some k) e | _ => .st
theorem po_imp {e : Option Expr} {t t' : TO} (h : PO X e t) (f : ∀ σ H Q, t' σ H Q → t σ H Q) : PO X e t' := ⟨fun pins s σ H Q I hq => h.run pins s σ H Q I (f σ H Q hq)⟩
theorem dp_no : PO X none (tPOf κ W pNo) := po_imp po_none fun σ H Q ⟨w, en, hw, s, p⟩ => by
  subst hw
  exact p w (Nx.refl _) s
theorem dp_so {e : Expr} {m : En → R Ent} (h : PE X e (tOf κ W m)) : PO X (some e) (tPOf κ W (pSo m)) := po_imp (po_some h) fun σ H Q ⟨w, en, hw, s, p⟩ => by
  subst hw
  refine goD s p fun k e2 v2 w2 n2 s2 d2 p2 => ?_
  cases k with
  | int k => exact ⟨k, dp_int d2, p2 w2 (Nx.refl _) s2⟩
  | _ => exact False.elim p2
theorem goP {α : Type} {m : En → R (Option Int)} {k : Option Int → En → R α} {Q : α → En → Sn → Prop} {Q1 : Option Int → Hp → Prop} (s : StR κ w σ en) (h : Po κ W w ((m en).bind k) Q)
    (hk : ∀ o en1 w1, Nx w w1 → StR κ w1 σ en1 → Po κ W w1 (k o en1) Q → Q1 o w1.H) : tPOf κ W m σ w.H Q1 :=
  ⟨w, en, rfl, s, (Po.bind_of h).imp fun r en1 w1 n1 h1 s1 => hk r en1 w1 n1 s1 h1⟩
/-- xs[lo:hi] -/
def cutL {α : Type} (xs : List α) (lo hi : Option Int) : List α := (xs.drop (HT.sIx xs.length 0 lo)).take (HT.sIx xs.length xs.length hi - HT.sIx xs.length 0 lo)
theorem dpa_cut {G : Hp} {vs : List V} {ds : List D} (h : DqAll G vs ds) (lo hi : Option Int) : DqAll G (cutV vs lo hi) (cutL ds lo hi) := by
  unfold cutV cutL
  rw [dpa_len h]
  exact dpa_take _ (dpa_drop _ h)
def cutD (a : D) (lo hi : Option Int) (e : En) : R Ent := match a with
  | .list ds => .ok (.ow (cutL ds lo hi)) e
  | .tuple ds => .ok (.sh (.tuple (cutL ds lo hi))) e
  | .str x => if x.length ≤ lim then .ok (.sh (.str (cutS x lo hi))) e else .st
  | _ => .st
def eSl (m : En → R Ent) (l h : En → R (Option Int)) (en : En) : R Ent := (dv m en).bind fun a e1 => (l e1).bind fun lo e2 => (h e2).bind fun hi e3 => cutD a lo hi e3
theorem de_slice {e : Expr} {m : En → R Ent} {lo hi : Option Expr} {l h : En → R (Option Int)} {p2 pos : Pos} (he : PE X e (tOf κ W m)) (hl : PO X lo (tPOf κ W l)) (hh : PO X hi (tPOf κ W h)) : PE X (.Subscript e (.Slice lo hi none p2) pos) (tOf κ W (eSl m l h)) :=
  pe_imp (pe_slice (sl_list.or (sl_tupA.or sl_str)) he hl hh) fun σ H Q ⟨w, en, hw, s, p⟩ => by
    subst hw
    refine goD s p fun a e1 v1 w1 n1 s1 d1 p1 => ?_
    refine goP s1 p1 fun lo e2 w2 n2 s2 p2 => ?_
    refine goP s2 p2 fun hi e3 w3 n3 s3 p3 => ?_
    have d3 := dp_mono (n2.trans n3).g _ _ d1
    unfold cutD at p3
    cases a with
    | list ds =>
      obtain ⟨q, xs, rfl, h1, h2⟩ := dp_list d3
      exact .inl ⟨q, xs, rfl, SqL.of (s3.wo.su _ _ h1), fun b hb => fin_ow s3 p3 (dpa_cut h2 lo hi) hb⟩
    | tuple ds =>
      obtain ⟨q, xs, rfl, h1, h2⟩ := dp_tuple d3
      refine .inr (.inl ⟨q, xs, rfl, SqT.of (s3.wo.su _ _ h1), fun hw => ?_, fun _ b hb => fin_tup s3 p3 (dpa_cut h2 lo hi) hb⟩)
      have e4 : cutL ds lo hi = ds := by
        unfold cutL
        rw [← dpa_len h2, hw.1, hw.2, List.drop_zero, dpa_len h2]
        exact List.take_of_length_le (by omega)
      dsimp only at p3
      rw [e4] at p3
      exact fin_sh s3 p3 d3
    | str x =>
      have := dp_str d3
      subst this
      dsimp only at p3
      by_cases hl : x.length ≤ lim
      · rw [if_pos hl] at p3
        exact .inr (.inr ⟨x, rfl, lim_ok hl, fin_sh s3 p3 (.str _)⟩)
      · rw [if_neg hl] at p3
        exact False.elim p3
    | _ => exact False.elim p3
/-- xs[::-1] of a list -/
def eRev (m : En → R Ent) (en : En) : R Ent := (dv m en).bind fun a e => match a with | .list ds => .ok (.ow ds.reverse) e | _ => .st
theorem dpa_rev {G : Hp} : ∀ {vs : List V} {ds : List D}, DqAll G vs ds → DqAll G vs.reverse ds.reverse
  | _, _, .nil => .nil
  | _, _, .cons q t => by
    rw [List.reverse_cons, List.reverse_cons]
    exact dpa_app (dpa_rev t) (dpa_one q)
theorem de_rev {e : Expr} {m : En → R Ent} {k : Nat} {p1 p2 p3 pos : Pos} (he : PE X e (tOf κ W m)) : PE X (.Subscript e (.Slice none none (some (.UnaryOp .USub (.Constant (.int 1) k p1) p2)) p3) pos) (tOf κ W (eRev m)) :=
  pe_imp (pe_revL he) fun σ H Q ⟨w, en, hw, s, p⟩ => by
    subst hw
    refine goD s p fun a e1 v1 w1 n1 s1 d1 p1 => ?_
    cases a with
    | list ds =>
      obtain ⟨q, xs, rfl, h1, h2⟩ := dp_list d1
      exact ⟨q, xs, rfl, SqL.of (s1.wo.su _ _ h1), fun b hb => fin_ow s1 p1 (dpa_rev h2) hb⟩
    | _ => exact False.elim p1

/-! ### built-in functions and types -/
def CallD (X : Cx) (κ : Kx) (f : Value) (g : List D → En → R Ent) : Prop :=
  ∃ r, CallR X f r ∧ ∀ (W : WX) (w : Sn) (σ : St) (en : En) (vs : List V) (ds : List D) (Q : VK), StR κ w σ en → DqAll w.G vs ds → Po κ W w (g ds en) (Qe κ σ Q) → r vs w.H Q
def eCall (g : List D → En → R Ent) (ms : En → R (List Ent)) (en : En) : R Ent := (dvs ms en).bind g
theorem tCB_of {g : List D → En → R Ent} {r : List V → Hp → VK → Prop} {ms : En → R (List Ent)} {H : Hp} {Q : VK}
    (h : ∀ (W : WX) (w : Sn) (σ : St) (en : En) (vs : List V) (ds : List D) (Q : VK), StR κ w σ en → DqAll w.G vs ds → Po κ W w (g ds en) (Qe κ σ Q) → r vs w.H Q)
    (q : tOf κ W (eCall g ms) σ H Q) : tCB r (tAOf κ W ms) σ H Q := by
  obtain ⟨w, en, hw, s, p⟩ := q
  subst hw
  exact goDs s p fun ds e1 vs w1 n1 s1 d1 p1 => h W w1 σ e1 vs ds Q s1 d1 p1
theorem de_callB {x : Str} {id : String} {e : Expr} {es : List Expr} {g : List D → En → R Ent} {ms : En → R (List Ent)} {p pos : Pos} (hc : CallD X κ (.builtin id) g) (hm : X.mg x = none) (ha : PA X (e :: es) (tAOf κ W ms)) (hg : Gl X x := by rfl)
    (hv : bootBuiltins x = some (.builtin id) := by decide +kernel) (hn : x ≠ "__name__" := by decide) (hdb : (x == ("__debug__" : Str)) = false := by decide)
    (he : starEach (e :: es) X.env = (false, eval e X.env) :: starEach es X.env := by rfl) (hpl : (backTo pos (starEach es X.env)).any (·.1) = false := by rfl) : PE X (.Call (.Name x p) (e :: es) [] pos) (tOf κ W (eCall g ms)) := by
  obtain ⟨r, hr, h⟩ := hc
  exact pe_imp (pe_callB hr hg hm hv ha hn hdb he hpl) fun σ H Q q => tCB_of h q
theorem de_callTy {x : Str} {T : String} {e : Expr} {es : List Expr} {g : List D → En → R Ent} {ms : En → R (List Ent)} {p pos : Pos} (hc : CallD X κ (.type T) g) (hm : X.mg x = none) (ha : PA X (e :: es) (tAOf κ W ms)) (hg : Gl X x := by rfl)
    (hv : bootBuiltins x = some (.type T) := by decide +kernel) (hn : x ≠ "__name__" := by decide) (hdb : (x == ("__debug__" : Str)) = false := by decide)
    (he : starEach (e :: es) X.env = (false, eval e X.env) :: starEach es X.env := by rfl) (hpl : (backTo pos (starEach es X.env)).any (·.1) = false := by rfl) : PE X (.Call (.Name x p) (e :: es) [] pos) (tOf κ W (eCall g ms)) := by
  obtain ⟨r, hr, h⟩ := hc
  exact pe_imp (pe_callTy hr hg hm hv ha hn hdb he hpl) fun σ H Q q => tCB_of h q
/-- len -/
def lenD : D → Option Nat
  | .str x => if x.length ≤ lim then some x.length else none
  | .list ds => some ds.length
  | .tuple ds => some ds.length
  | _ => none
def gLen : List D → En → R Ent
  | [a], e => match lenD a with | some n => .ok (.sh (.int n)) e | none => .st
  | _, _ => .st
theorem lenV_of {v : V} {a : D} {n : Nat} (s : StR κ w σ en) (h : Dq w.G v a) (e : lenD a = some n) : LenV X.K v w.H n := by
  cases h with
  | str x =>
    have e' : (if x.length ≤ lim then some x.length else none) = some n := e
    by_cases hl : x.length ≤ lim
    · rw [if_pos hl] at e'
      exact ⟨lim_ok hl, (Option.some.inj e').symm⟩
    · rw [if_neg hl] at e'
      cases e'
  | lst h1 h2 => exact .inl ⟨_, SqL.of (s.wo.su _ _ h1), by rw [dpa_len h2]; exact (Option.some.inj e).symm⟩
  | tup h1 h2 => exact .inr ⟨_, SqT.of (s.wo.su _ _ h1), by rw [dpa_len h2]; exact (Option.some.inj e).symm⟩
  | _ => cases e
theorem cd_len : CallD X κ (.builtin "len") gLen := by
  refine ⟨_, call_len, fun W w σ en vs ds Q s h p => ?_⟩
  cases h with
  | nil => exact False.elim p
  | cons h t =>
    rename_i v vs d ds
    cases t with
    | cons _ _ => exact False.elim p
    | nil =>
      have p' : Po κ W w (match lenD d with | some n => R.ok (Ent.sh (.int n)) en | none => .st) (Qe κ σ Q) := p
      cases e : lenD d with
      | none => rw [e] at p'; exact False.elim p'
      | some n =>
        rw [e] at p'
        exact ⟨_, n, rfl, lenV_of s h e, fin_sh s p' (.int _)⟩
/-- len(x), x a name -/
def eLenN (i : Nat) (en : En) : R Ent := match en.get i with
  | .sh a => match lenD a with | some n => .ok (.sh (.int n)) en | none => .st
  | .ow ds => .ok (.sh (.int ds.length)) en
  | .wr j => match en.wd[j]? with | some (.tn k) => .ok (.sh (.int k)) en | _ => .st
  | _ => .st
theorem de_lenN (i : Nat) {x : Str} {p px pos : Pos} (hm : X.mg "len" = none) (hg : Gl X "len" := by rfl) (hN : X.N[i]? = some x := by rfl)
    (hv : Vis X.env.scope x := by first | exact Or.inl rfl | exact Or.inr (Or.inl rfl) | exact Or.inr (Or.inr rfl)) (hd : (x == ("__debug__" : Str)) = false := by decide) (hcd : (x == ("__classdict__" : Str)) = false := by decide)
    (he : starEach [.Name x px] X.env = (false, eval (.Name x px) X.env) :: starEach [] X.env := by rfl) (hpl : (backTo pos (starEach [] X.env)).any (·.1) = false := by rfl) :
    PE X (.Call (.Name "len" p) [.Name x px] [] pos) (tOf κ W (eLenN i)) :=
  pe_imp (pe_callB call_len hg hm PySem.boot_len (pa_cons (pv i hN hv hd hcd) pa_nil he) (by decide) (by decide) he hpl) fun σ H Q ⟨w, en, hw, s, p⟩ => by
    subst hw
    unfold eLenN at p
    cases hq : en.get i with
    | sh a =>
      rw [hq] at p
      obtain ⟨v, ev, er⟩ := s.at (i := i) (by rw [hq]; intro z; cases z)
      rw [hq] at er
      dsimp only at p
      cases e : lenD a with
      | none => rw [e] at p; exact False.elim p
      | some n =>
        rw [e] at p
        exact ⟨v, ev, v, n, rfl, lenV_of s er e, fin_sh s p (.int _)⟩
    | ow ds =>
      rw [hq] at p
      obtain ⟨v, ev, er⟩ := s.at (i := i) (by rw [hq]; intro z; cases z)
      rw [hq] at er
      obtain ⟨q, xs, rfl, hO, hH, h2⟩ := er
      exact ⟨_, ev, _, ds.length, rfl, .inl ⟨xs, SqL.of hH, (dpa_len h2).symm⟩, fin_sh s p (.int _)⟩
    | wr j =>
      rw [hq] at p
      obtain ⟨v, ev, er⟩ := s.at (i := i) (by rw [hq]; intro z; cases z)
      rw [hq] at er
      obtain ⟨q, rfl, ea⟩ := er
      dsimp only at p
      cases eo : en.wd[j]? with
      | none => rw [eo] at p; exact False.elim p
      | some ob =>
        rw [eo] at p
        cases ob with
        | tn k =>
          obtain ⟨_, hH⟩ := s.wo.wd j _ q eo ea
          exact ⟨_, ev, _, k, rfl, .inl ⟨_, SqL.of hH, by rw [List.length_replicate]⟩, fin_sh s p (.int _)⟩
        | tb g rows kept => exact False.elim p
    | no => rw [hq] at p; exact False.elim p
    | dk kvs => rw [hq] at p; exact False.elim p
    | sc => rw [hq] at p; exact False.elim p
    | fz kvs => rw [hq] at p; exact False.elim p
/-- list(x), tuple(x) -/
def gList : List D → En → R Ent
  | [.list ds], e => .ok (.ow ds) e
  | [.tuple ds], e => .ok (.ow ds) e
  | _, _ => .st
theorem cd_list : CallD X κ (.type "list") gList := by
  refine ⟨_, call_list_of, fun W w σ en vs ds Q s h p => ?_⟩
  cases h with
  | nil => exact False.elim p
  | cons h t =>
    cases t with
    | cons _ _ => cases h <;> exact False.elim p
    | nil =>
      cases h with
      | lst h1 h2 => exact ⟨_, _, rfl, .inl (SqL.of (s.wo.su _ _ h1)), fun b hb => fin_ow s p h2 hb⟩
      | tup h1 h2 => exact ⟨_, _, rfl, .inr (SqT.of (s.wo.su _ _ h1)), fun b hb => fin_ow s p h2 hb⟩
      | _ => exact False.elim p
def gTuple : List D → En → R Ent
  | [.list ds], e => .ok (.sh (.tuple ds)) e
  | [.tuple ds], e => .ok (.sh (.tuple ds)) e
  | _, _ => .st
theorem cd_tuple : CallD X κ (.type "tuple") gTuple := by
  refine ⟨_, call_tuple_of, fun W w σ en vs ds Q s h p => ?_⟩
  cases h with
  | nil => exact False.elim p
  | cons h t =>
    cases t with
    | cons _ _ => cases h <;> exact False.elim p
    | nil =>
      cases h with
      | lst h1 h2 => exact ⟨_, _, rfl, .inl ⟨SqL.of (s.wo.su _ _ h1), fun b hb => fin_tup s p h2 hb⟩⟩
      | tup h1 h2 => exact ⟨_, _, rfl, .inr ⟨SqT.of (s.wo.su _ _ h1), fin_sh s p (.tup h1 h2)⟩⟩
      | _ => exact False.elim p
/-- ints, truth values of a list -/
def asInts : List D → Option (List Int)
  | [] => some []
  | .int i :: r => (asInts r).map (i :: ·)
  | _ :: _ => none
def asBools : List D → Option (List Bool)
  | [] => some []
  | .bool i :: r => (asBools r).map (i :: ·)
  | _ :: _ => none
def asStrs : List D → Option (List Str)
  | [] => some []
  | .str i :: r => (asStrs r).map (i :: ·)
  | _ :: _ => none
theorem asInts_eq : ∀ {ds : List D} {ns : List Int}, asInts ds = some ns → ds = ns.map .int
  | [], _, h => by cases h; rfl
  | .int i :: r, ns, h => by
    have h' : (asInts r).map (i :: ·) = some ns := h
    cases e : asInts r with
    | none => rw [e] at h'; cases h'
    | some es =>
      rw [e] at h'
      cases h'
      rw [asInts_eq e]; rfl
  | .none :: _, _, h => by cases h
  | .bool _ :: _, _, h => by cases h
  | .str _ :: _, _, h => by cases h
  | .list _ :: _, _, h => by cases h
  | .tuple _ :: _, _, h => by cases h
  | .dict _ :: _, _, h => by cases h
theorem asBools_eq : ∀ {ds : List D} {ns : List Bool}, asBools ds = some ns → ds = ns.map .bool
  | [], _, h => by cases h; rfl
  | .bool i :: r, ns, h => by
    have h' : (asBools r).map (i :: ·) = some ns := h
    cases e : asBools r with
    | none => rw [e] at h'; cases h'
    | some es =>
      rw [e] at h'
      cases h'
      rw [asBools_eq e]; rfl
  | .none :: _, _, h => by cases h
  | .int _ :: _, _, h => by cases h
  | .str _ :: _, _, h => by cases h
  | .list _ :: _, _, h => by cases h
  | .tuple _ :: _, _, h => by cases h
  | .dict _ :: _, _, h => by cases h
theorem asStrs_eq : ∀ {ds : List D} {ns : List Str}, asStrs ds = some ns → ds = ns.map .str
  | [], _, h => by cases h; rfl
  | .str i :: r, ns, h => by
    have h' : (asStrs r).map (i :: ·) = some ns := h
    cases e : asStrs r with
    | none => rw [e] at h'; cases h'
    | some es =>
      rw [e] at h'
      cases h'
      rw [asStrs_eq e]; rfl
  | .none :: _, _, h => by cases h
  | .int _ :: _, _, h => by cases h
  | .bool _ :: _, _, h => by cases h
  | .list _ :: _, _, h => by cases h
  | .tuple _ :: _, _, h => by cases h
  | .dict _ :: _, _, h => by cases h
@[simp] theorem asInts_map : ∀ ns : List Int, asInts (ns.map .int) = some ns
  | [] => rfl
  | n :: ns => by show (asInts (ns.map .int)).map (n :: ·) = _; rw [asInts_map ns]; rfl
@[simp] theorem asBools_map : ∀ ns : List Bool, asBools (ns.map .bool) = some ns
  | [] => rfl
  | n :: ns => by show (asBools (ns.map .bool)).map (n :: ·) = _; rw [asBools_map ns]; rfl
@[simp] theorem asStrs_map : ∀ ns : List Str, asStrs (ns.map .str) = some ns
  | [] => rfl
  | n :: ns => by show (asStrs (ns.map .str)).map (n :: ·) = _; rw [asStrs_map ns]; rfl
def maxI : List Int → Int
  | [] => 0
  | [a] => a
  | a :: b :: r => let m := maxI (b :: r); if m < a then a else m
theorem maxI_ge : ∀ (ns : List Int) (y : Int), y ∈ ns → y ≤ maxI ns
  | [], _, h => by cases h
  | [a], y, h => by
    have e : y = a := by simpa using h
    rw [e]
    exact Int.le_refl _
  | a :: b :: r, y, h => by
    have ih := maxI_ge (b :: r)
    show y ≤ if maxI (b :: r) < a then a else maxI (b :: r)
    rcases List.mem_cons.mp h with e | h
    · split <;> omega
    · have := ih y h
      split <;> omega
theorem maxI_mem : ∀ (ns : List Int), ns ≠ [] → maxI ns ∈ ns
  | [], h => absurd rfl h
  | [a], _ => by show a ∈ [a]; simp
  | a :: b :: r, _ => by
    have ih := maxI_mem (b :: r) (by simp)
    show (if maxI (b :: r) < a then a else maxI (b :: r)) ∈ a :: b :: r
    split
    · exact List.mem_cons_self
    · exact List.mem_cons_of_mem _ ih
theorem maxI_uniq {ns : List Int} {m : Int} (h1 : m ∈ ns) (h2 : ∀ y, y ∈ ns → y ≤ m) : m = maxI ns := by
  have a := maxI_ge ns m h1
  have b := h2 _ (maxI_mem ns (by intro e; rw [e] at h1; cases h1))
  omega
def gSum : List D → En → R Ent
  | [.list ds], e => match asInts ds with | some ns => .ok (.sh (.int ns.sum)) e | none => .st
  | _, _ => .st
def gMax : List D → En → R Ent
  | [.list ds], e => match asInts ds with | some ns => if ns = [] then .st else .ok (.sh (.int (maxI ns))) e | none => .st
  | [.int i, .int j], e => .ok (.sh (.int (if j > i then j else i))) e
  | _, _ => .st
def gMin : List D → En → R Ent
  | [.int i, .int j], e => .ok (.sh (.int (if j < i then j else i))) e
  | _, _ => .st
def gAll : List D → En → R Ent
  | [.list ds], e => match asBools ds with | some ns => .ok (.sh (.bool (ns.all id))) e | none => .st
  | _, _ => .st
theorem cd_sum (hc : X.calm = true) : CallD X κ (.builtin "sum") gSum := by
  refine ⟨_, cr_sum hc, fun W w σ en vs ds Q s h p => ?_⟩
  cases h with
  | nil => exact False.elim p
  | cons h t =>
    cases t with
    | cons _ _ => cases h <;> exact False.elim p
    | nil =>
      cases h with
      | lst h1 h2 =>
        rename_i a xs ds
        have p' : Po κ W w (match asInts ds with | some ns => R.ok (Ent.sh (.int ns.sum)) en | none => .st) (Qe κ σ Q) := p
        cases e : asInts ds with
        | none => rw [e] at p'; exact False.elim p'
        | some ns =>
          rw [e] at p'
          have := asInts_eq e
          subst this
          have := dpa_ints h2
          subst this
          exact ⟨a, ns, rfl, SqL.of (s.wo.su _ _ h1), fin_sh s p' (.int _)⟩
      | _ => exact False.elim p
theorem cd_all (hc : X.calm = true) : CallD X κ (.builtin "all") gAll := by
  refine ⟨_, cr_all hc, fun W w σ en vs ds Q s h p => ?_⟩
  cases h with
  | nil => exact False.elim p
  | cons h t =>
    cases t with
    | cons _ _ => cases h <;> exact False.elim p
    | nil =>
      cases h with
      | lst h1 h2 =>
        rename_i a xs ds
        have p' : Po κ W w (match asBools ds with | some ns => R.ok (Ent.sh (.bool (ns.all id))) en | none => .st) (Qe κ σ Q) := p
        cases e : asBools ds with
        | none => rw [e] at p'; exact False.elim p'
        | some ns =>
          rw [e] at p'
          have := asBools_eq e
          subst this
          have := dpa_bools h2
          subst this
          exact ⟨a, ns, rfl, SqL.of (s.wo.su _ _ h1), fin_sh s p' (.bl _)⟩
      | _ => exact False.elim p
theorem cd_max (hc : X.calm = true) : CallD X κ (.builtin "max") gMax := by
  refine ⟨_, (cr_max hc).or (call_max2 hc), fun W w σ en vs ds Q s h p => ?_⟩
  cases h with
  | nil => exact False.elim p
  | cons h t =>
    cases h with
    | lst h1 h2 =>
      cases t with
      | cons _ _ => exact False.elim p
      | nil =>
        rename_i a xs ds
        have p' : Po κ W w (match asInts ds with | some ns => if ns = [] then R.st else R.ok (Ent.sh (.int (maxI ns))) en | none => .st) (Qe κ σ Q) := p
        cases e : asInts ds with
        | none => rw [e] at p'; exact False.elim p'
        | some ns =>
          rw [e] at p'
          have := asInts_eq e
          subst this
          have := dpa_ints h2
          subst this
          dsimp only at p'
          by_cases hn : ns = []
          · rw [if_pos hn] at p'
            exact False.elim p'
          · rw [if_neg hn] at p'
            refine .inl ⟨a, ns, rfl, SqL.of (s.wo.su _ _ h1), List.length_pos_iff.mpr hn, fun m hm hle => ?_⟩
            rw [maxI_uniq hm hle]
            exact fin_sh s p' (.int _)
    | int i =>
      cases t with
      | nil => exact False.elim p
      | cons h2 t2 =>
        cases h2 with
        | int j =>
          cases t2 with
          | nil => exact .inr ⟨i, j, rfl, fin_sh s p (.int _)⟩
          | cons _ _ => exact False.elim p
        | _ => exact False.elim p
    | _ => exact False.elim p
theorem cd_min (hc : X.calm = true) : CallD X κ (.builtin "min") gMin := by
  refine ⟨_, call_min2 hc, fun W w σ en vs ds Q s h p => ?_⟩
  cases h with
  | nil => exact False.elim p
  | cons h t =>
    cases h with
    | int i =>
      cases t with
      | nil => exact False.elim p
      | cons h2 t2 =>
        cases h2 with
        | int j =>
          cases t2 with
          | nil => exact ⟨i, j, rfl, fin_sh s p (.int _)⟩
          | cons _ _ => exact False.elim p
        | _ => exact False.elim p
    | _ => exact False.elim p
/-- str(n), str(text) ; int(text) -/
def gStr : List D → En → R Ent
  | [.int i], e => if i.natAbs.log2 < 1920 then .ok (.sh (.str (toString i))) e else .st
  | _, _ => .st
theorem cd_str : CallD X κ (.type "str") gStr := by
  refine ⟨_, call_str_int, fun W w σ en vs ds Q s h p => ?_⟩
  cases h with
  | nil => exact False.elim p
  | cons h t =>
    cases h with
    | int i =>
      cases t with
      | nil =>
        have p' : Po κ W w (if i.natAbs.log2 < 1920 then R.ok (Ent.sh (.str (toString i))) en else .st) (Qe κ σ Q) := p
        by_cases hl : i.natAbs.log2 < 1920
        · rw [if_pos hl] at p'
          exact ⟨i, rfl, hl, fin_sh s p' (.str _)⟩
        · rw [if_neg hl] at p'
          exact False.elim p'
      | cons _ _ => exact False.elim p
    | _ => exact False.elim p
def gInt : List D → En → R Ent
  | [.str x], e => if x.length ≤ 640 then match PySem.intText? x with | some n => .ok (.sh (.int n)) e | none => .st else .st
  | _, _ => .st
theorem cd_int : CallD X κ (.type "int") gInt := by
  refine ⟨_, call_int_str, fun W w σ en vs ds Q s h p => ?_⟩
  cases h with
  | nil => exact False.elim p
  | cons h t =>
    cases h with
    | str x =>
      cases t with
      | nil =>
        have p' : Po κ W w (if x.length ≤ 640 then match PySem.intText? x with | some n => R.ok (Ent.sh (.int n)) en | none => .st else .st) (Qe κ σ Q) := p
        by_cases hl : x.length ≤ 640
        · rw [if_pos hl] at p'
          cases e : PySem.intText? x with
          | none => rw [e] at p'; exact False.elim p'
          | some n =>
            rw [e] at p'
            exact ⟨x, n, rfl, e, hl, fin_sh s p' (.int _)⟩
        · rw [if_neg hl] at p'
          exact False.elim p'
      | cons _ _ => exact False.elim p
    | _ => exact False.elim p
/-- isinstance(e, T), T one of int, bool, str, tuple, list -/
def isT (T : String) : D → Bool
  | .none => false
  | .bool _ => T == "bool" || T == "int"
  | .int _ => T == "int"
  | .str _ => T == "str"
  | .list _ => T == "list"
  | .tuple _ => T == "tuple"
  | .dict _ => false
def eIsi (T : String) (m : En → R Ent) (en : En) : R Ent := (dv m en).bind fun a e => .ok (.sh (.bool (isT T a))) e
def KitAll (T : String) : Prop := kitB "NoneType" T = some false ∧ kitB "bool" T = some (T == "bool" || T == "int") ∧ kitB "int" T = some (T == "int") ∧ kitB "str" T = some (T == "str") ∧ kitB "list" T = some (T == "list") ∧ kitB "tuple" T = some (T == "tuple")
theorem kitAll_int : KitAll "int" := by refine ⟨?_, ?_, ?_, ?_, ?_, ?_⟩ <;> decide +kernel
theorem kitAll_bool : KitAll "bool" := by refine ⟨?_, ?_, ?_, ?_, ?_, ?_⟩ <;> decide +kernel
theorem kitAll_str : KitAll "str" := by refine ⟨?_, ?_, ?_, ?_, ?_, ?_⟩ <;> decide +kernel
theorem kitAll_tuple : KitAll "tuple" := by refine ⟨?_, ?_, ?_, ?_, ?_, ?_⟩ <;> decide +kernel
theorem de_isi {T : String} {x : Str} {e : Expr} {m : En → R Ent} {p px pos : Pos} (kt : KitAll T) (hm : X.mg "isinstance" = none) (hmT : X.mg x = none) (he : PE X e (tOf κ W m)) (hg : Gl X "isinstance" := by rfl) (hgT : Gl X x := by rfl) (hvT : bootBuiltins x = some (.type T) := by decide +kernel)
    (hn : x ≠ "__name__" := by decide) (hdb : (x == ("__debug__" : Str)) = false := by decide)
    (hs : starEach [e, .Name x px] X.env = (false, eval e X.env) :: starEach [.Name x px] X.env := by rfl) (hs2 : starEach [.Name x px] X.env = (false, eval (.Name x px) X.env) :: starEach [] X.env := by rfl)
    (hpl : (backTo pos (starEach [.Name x px] X.env)).any (·.1) = false := by rfl) :
    PE X (.Call (.Name "isinstance" p) [e, .Name x px] [] pos) (tOf κ W (eIsi T m)) :=
  pe_imp (pe_callB call_isi hg hm (by decide +kernel) (pa_cons he (pa_cons (pe_bltn (v := .ty T) hgT hmT hvT rfl hn hdb) pa_nil hs2) hs) (by decide) (by decide) hs hpl) fun σ H Q ⟨w, en, hw, s, po⟩ => by
    subst hw
    refine goD s po fun a e1 v1 w1 n1 s1 d1 p1 => ?_
    obtain ⟨k1, k2, k3, k4, k5, k6⟩ := kt
    cases d1 with
    | non => exact ⟨_, _, _, _, _, rfl, .ty T, .base .non, kit_ty k1, fin_sh s1 p1 (.bl _)⟩
    | bl b => exact ⟨_, _, _, _, _, rfl, .ty T, .base (.bl b), kit_ty k2, fin_sh s1 p1 (.bl _)⟩
    | int i => exact ⟨_, _, _, _, _, rfl, .ty T, .base (.int i), kit_ty k3, fin_sh s1 p1 (.bl _)⟩
    | str y => exact ⟨_, _, _, _, _, rfl, .ty T, .base (.str y), kit_ty k4, fin_sh s1 p1 (.bl _)⟩
    | lst h1 h2 => exact ⟨_, _, _, _, _, rfl, .ty T, .base (.lst (s1.wo.su _ _ h1)), kit_ty k5, fin_sh s1 p1 (.bl _)⟩
    | tup h1 h2 => exact ⟨_, _, _, _, _, rfl, .ty T, .base (.tup (s1.wo.su _ _ h1)), kit_ty k6, fin_sh s1 p1 (.bl _)⟩
end
end CO

/-! CoE: statements over the data layer, targets, loops, comprehensions, defs and their calls. -/
namespace CO
open PySem PySem.Spec PyProof.Rows L2
section
variable {κ : Kx} {W : WX} {w w' : Sn} {σ : St} {en : En}
/-- a value whose object nobody owns -/
def Raw (w : Sn) (κ : Kx) (v : V) : Ent → Prop
  | .no => False
  | .sh d => Dq w.G v d
  | .ow ds => ∃ p xs, v = .ref p ∧ w.O p = none ∧ w.G p = none ∧ w.H p = some (.lst xs) ∧ DqAll w.G xs ds
  | .dk kvs => ∃ p ks, v = .ref p ∧ w.O p = none ∧ w.G p = none ∧ w.H p = some (.dK ks) ∧ DpKv w.G ks kvs
  | .wr j => ∃ p, v = .ref p ∧ w.ad[j]? = some p
  | .sc ns => ∃ a, v = .ref a ∧ SqL κ.K w.G a (ns.map V.int)
  | .fz kvs => ∃ p od ks, v = .ref p ∧ w.G p = some (.frz od (.dK ks)) ∧ DpKv w.G ks kvs
def own? (r : Ent) (v : V) : Option Addr := match r, v with
  | .ow _, .ref p => some p
  | .dk _, .ref p => some p
  | _, _ => none
def hideO (w : Sn) (o : Option Addr) : Sn := match o with | some p => { w with O := letO w.O p } | none => w
theorem Nx.ad {a b : Sn} (n : Nx a b) {j : Nat} {p : Addr} (h : a.ad[j]? = some p) : b.ad[j]? = some p := by
  obtain ⟨t, ht⟩ := n.p
  rw [← ht, List.getElem?_append_left (List.getElem?_eq_some_iff.mp h).1]
  exact h
theorem Raw.mono {v : V} {r : Ent} (h : Raw w κ v r) (n : Nx w w') : Raw w' κ v r := by
  cases r with
  | no => exact h
  | sh d => exact dp_mono n.g _ _ h
  | ow ds =>
    obtain ⟨p, xs, e1, e2, e3, e4, e5⟩ := h
    obtain ⟨q1, q2, q3⟩ := n.f p _ e4 e2
    exact ⟨p, xs, e1, q3, q2.trans e3, q1, dpa_mono n.g _ _ e5⟩
  | dk kvs =>
    obtain ⟨p, xs, e1, e2, e3, e4, e5⟩ := h
    obtain ⟨q1, q2, q3⟩ := n.f p _ e4 e2
    exact ⟨p, xs, e1, q3, q2.trans e3, q1, dpkv_mono n.g e5⟩
  | wr j =>
    obtain ⟨p, h1, h2⟩ := h
    exact ⟨p, h1, n.ad h2⟩
  | sc =>
    obtain ⟨a, h1, h2⟩ := h
    exact ⟨a, h1, n.g.seq h2⟩
  | fz kvs =>
    obtain ⟨p, od, ks, h1, h2, h3⟩ := h
    exact ⟨p, od, ks, h1, n.g _ _ h2, dpkv_mono n.g h3⟩
theorem EntR.let {p : Addr} {ix jx : Ix} {v : V} {r : Ent} (hO : w.O p = some ix) (hj : jx ≠ ix) (h : EntR κ w jx v r) : EntR κ { w with O := letO w.O p } jx v r := by
  have ne : ∀ {q : Addr}, w.O q = some jx → q ≠ p := fun e z => by rw [z, hO] at e; exact hj (Option.some.inj e).symm
  cases r with
  | no => trivial
  | sh d => exact h
  | ow ds =>
    obtain ⟨q, ys, e1, e2, e3, e4⟩ := h
    exact ⟨q, ys, e1, (letO_ne (ne e2)).trans e2, e3, e4⟩
  | dk kvs =>
    obtain ⟨q, ys, e1, e2, e3, e4⟩ := h
    exact ⟨q, ys, e1, (letO_ne (ne e2)).trans e2, e3, e4⟩
  | wr j => exact h
  | sc => exact h
  | fz kvs => exact h
theorem WdR.let {p : Addr} {ix : Ix} {wd : List Ob} (h : WdR κ w wd) (hO : w.O p = some ix) (hj : ∀ j, Ix.w j ≠ ix) : WdR κ { w with O := letO w.O p } wd where
  fr := fun q i e => by
    have e' : letO w.O p q = some i := e
    have ne : q ≠ p := fun z => by rw [z, letO_same] at e'; cases e'
    rw [letO_ne ne] at e'
    exact h.fr q i e'
  su := h.su
  wl := h.wl
  wd := fun j ob q e1 e2 => by
    have x := h.wd j ob q e1 e2
    have ne : ∀ {q : Addr}, w.O q = some (.w j) → q ≠ p := fun e z => by rw [z, hO] at e; exact hj j (Option.some.inj e).symm
    cases ob with
    | tn k => exact ⟨(letO_ne (ne x.1)).trans x.1, x.2⟩
    | tb g rows kept =>
      obtain ⟨dx, l, vg, rs, a1, a2, a3, a4, a5, a6, a7, a8⟩ := x
      exact ⟨dx, l, vg, rs, (letO_ne (ne a1)).trans a1, (letO_ne (ne a2)).trans a2, (letO_ne (ne a3)).trans a3, a4, a5, a6, a7, a8⟩
theorem StR.letR {p : Addr} (s : StR κ w σ en) (hO : w.O p = some .r) : StR κ { w with O := letO w.O p } σ en :=
  ⟨s.wo.let hO (fun _ q => nomatch q), s.ln, fun i => by
    rcases s.sl i with q | ⟨v, q1, q2⟩
    · exact .inl q
    · exact .inr ⟨v, q1, q2.let hO (fun q => nomatch q)⟩⟩
theorem let_nx {p : Addr} {ix : Ix} (hO : w.O p = some ix) : Nx w { w with O := letO w.O p } :=
  ⟨List.prefix_refl _, Same.refl _, fun x o h1 h2 => by
    have ne : x ≠ p := fun z => by rw [z, hO] at h2; cases h2
    exact ⟨h1, rfl, (letO_ne ne).trans h2⟩⟩
/-- a result is put aside -/
theorem hide {v : V} {r : Ent} (s : StR κ w σ en) (er : EntR κ w .r v r) (hr : r ≠ .no) : ∃ w', Nx w w' ∧ w'.H = w.H ∧ w'.G = w.G ∧ w'.ad = w.ad ∧ StR κ w' σ en ∧ Raw w' κ v r ∧ (∀ p, w'.O p = w.O p ∨ (own? r v = some p ∧ w.O p = some .r ∧ w'.O p = none)) := by
  cases r with
  | no => exact absurd rfl hr
  | sh d => exact ⟨w, Nx.refl _, rfl, rfl, rfl, s, er, fun p => .inl rfl⟩
  | ow ds =>
    obtain ⟨p, xs, rfl, e2, e3, e4⟩ := er
    refine ⟨_, let_nx e2, rfl, rfl, rfl, s.letR e2, ⟨p, xs, rfl, letO_same, s.wo.fr p _ e2, e3, e4⟩, fun q => ?_⟩
    by_cases z : q = p
    · subst z; exact .inr ⟨rfl, e2, letO_same⟩
    · exact .inl (letO_ne z)
  | dk kvs =>
    obtain ⟨p, xs, rfl, e2, e3, e4⟩ := er
    refine ⟨_, let_nx e2, rfl, rfl, rfl, s.letR e2, ⟨p, xs, rfl, letO_same, s.wo.fr p _ e2, e3, e4⟩, fun q => ?_⟩
    by_cases z : q = p
    · subst z; exact .inr ⟨rfl, e2, letO_same⟩
    · exact .inl (letO_ne z)
  | wr j => exact ⟨w, Nx.refl _, rfl, rfl, rfl, s, er, fun p => .inl rfl⟩
  | sc => exact ⟨w, Nx.refl _, rfl, rfl, rfl, s, er, fun p => .inl rfl⟩
  | fz kvs => exact ⟨w, Nx.refl _, rfl, rfl, rfl, s, er, fun p => .inl rfl⟩
/-- owners behind a store at slot i of a value whose object is at o -/
def stoO (O : Addr → Option Ix) (i : Nat) (o : Option Addr) : Addr → Option Ix := fun b => if o = some b then some (.s i) else if O b = some (.s i) then none else O b
theorem stoO_at {O : Addr → Option Ix} {i : Nat} {p : Addr} : stoO O i (some p) p = some (.s i) := if_pos rfl
theorem stoO_ne {O : Addr → Option Ix} {i : Nat} {o : Option Addr} {b : Addr} (h : o ≠ some b) (h2 : O b ≠ some (.s i)) : stoO O i o b = O b := by
  unfold stoO
  rw [if_neg h, if_neg h2]
/-- a slot's store: the object at o is owned by nobody -/
theorem StR.sto {v : V} {r : Ent} {i : Nat} (s : StR κ w σ en) (hr : Raw w κ v r) : StR κ { w with O := stoO w.O i (own? r v) } (σ.set i (some v)) (en.set i r) := by
  have free : ∀ b, own? r v = some b → w.O b = none ∧ w.G b = none := fun b e => by
    cases r with
    | ow ds =>
      obtain ⟨p, xs, rfl, e2, e3, _, _⟩ := hr
      cases e
      exact ⟨e2, e3⟩
    | dk kvs =>
      obtain ⟨p, xs, rfl, e2, e3, _, _⟩ := hr
      cases e
      exact ⟨e2, e3⟩
    | no => cases e
    | sh d => cases e
    | wr j => cases e
    | sc => cases e
    | fz kvs => cases e
  have keep : ∀ {b : Addr} {jx : Ix}, jx ≠ .s i → w.O b = some jx → stoO w.O i (own? r v) b = some jx := fun {b jx} h1 h2 => by
    have n1 : own? r v ≠ some b := fun z => by rw [(free b z).1] at h2; cases h2
    rw [stoO_ne n1 (fun z => by rw [z] at h2; exact h1 (Option.some.inj h2).symm)]
    exact h2
  refine ⟨⟨fun p ix e => ?_, s.wo.su, s.wo.wl, fun j ob p e1 e2 => ?_⟩, ?_, fun k => ?_⟩
  · have e' : stoO w.O i (own? r v) p = some ix := e
    unfold stoO at e'
    by_cases h1 : own? r v = some p
    · exact (free p h1).2
    · rw [if_neg h1] at e'
      by_cases h2 : w.O p = some (.s i)
      · exact s.wo.fr p _ h2
      · rw [if_neg h2] at e'
        exact s.wo.fr p _ e'
  · have x := s.wo.wd j ob p e1 e2
    have k : ∀ {b : Addr}, w.O b = some (.w j) → stoO w.O i (own? r v) b = some (.w j) := fun h => keep (fun z => nomatch z) h
    cases ob with
    | tn n => exact ⟨k x.1, x.2⟩
    | tb g rows kept =>
      obtain ⟨dx, l, vg, rs, a1, a2, a3, a4, a5, a6, a7, a8⟩ := x
      exact ⟨dx, l, vg, rs, k a1, k a2, k a3, a4, a5, a6, a7, a8⟩
  · show (en.sl.set i r).length = (σ.set i (some v)).length
    rw [List.length_set, List.length_set]
    exact s.ln
  · by_cases hk : i = k
    · subst hk
      rcases get_set_same (en := en) (i := i) (e := r) with e | e
      · rw [e]
        by_cases hi : i < σ.length
        · refine .inr ⟨v, gd_same hi, ?_⟩
          cases r with
          | no => trivial
          | sh d => exact hr
          | ow ds =>
            obtain ⟨p, xs, rfl, e2, e3, e4, e5⟩ := hr
            exact ⟨p, xs, rfl, stoO_at, e4, e5⟩
          | dk kvs =>
            obtain ⟨p, xs, rfl, e2, e3, e4, e5⟩ := hr
            exact ⟨p, xs, rfl, stoO_at, e4, e5⟩
          | wr j => exact hr
          | sc => exact hr
          | fz kvs => exact hr
        · left
          have q : (en.set i r).get i = .no := by
            unfold En.set En.get
            rw [List.getD_eq_getElem?_getD, List.getElem?_eq_none (by rw [List.length_set, s.ln]; omega)]; rfl
          rw [← e]
          exact q
      · exact .inl e
    · rw [get_set_ne hk, gd_ne hk]
      rcases s.sl k with q | ⟨u, q1, q2⟩
      · exact .inl q
      · refine .inr ⟨u, q1, ?_⟩
        have kk : ∀ {b : Addr}, w.O b = some (.s k) → stoO w.O i (own? r v) b = some (.s k) := fun h => keep (fun z => hk (by injection z with z; exact z.symm)) h
        cases h : en.get k with
        | no => trivial
        | sh d => rw [h] at q2; exact q2
        | ow ds =>
          rw [h] at q2
          obtain ⟨p, xs, e1, e2, e3, e4⟩ := q2
          exact ⟨p, xs, e1, kk e2, e3, e4⟩
        | dk kvs =>
          rw [h] at q2
          obtain ⟨p, xs, e1, e2, e3, e4⟩ := q2
          exact ⟨p, xs, e1, kk e2, e3, e4⟩
        | wr j => rw [h] at q2; exact q2
        | sc => rw [h] at q2; exact q2
        | fz kvs => rw [h] at q2; exact q2
/-- .. seen from an elder snapshot, ahead of which the object was not there (or owned) -/
theorem sto_nx {w0 : Sn} {i : Nat} {o : Option Addr} (n : Nx w0 w) (h : ∀ p, o = some p → ∀ u, w0.H p = some u → w0.O p ≠ none) : Nx w0 { w with O := stoO w.O i o } :=
  ⟨n.p, n.g, fun x u h1 h2 => by
    obtain ⟨q1, q2, q3⟩ := n.f x u h1 h2
    refine ⟨q1, q2, ?_⟩
    have n1 : o ≠ some x := fun z => h x z u h1 h2
    show stoO w.O i o x = none
    rw [stoO_ne n1 (by rw [q3]; intro z; cases z)]
    exact q3⟩
/-- a result is stored -/
theorem StR.store {v : V} {r : Ent} (i : Nat) (s : StR κ w σ en) (er : EntR κ w .r v r) (hr : r ≠ .no) : ∃ w', Nx w w' ∧ w'.H = w.H ∧ w'.G = w.G ∧ StR κ w' (σ.set i (some v)) (en.set i r) := by
  obtain ⟨w1, n1, hH, hG, ha, s1, r1, hO⟩ := hide s er hr
  refine ⟨{ w1 with O := stoO w1.O i (own? r v) }, sto_nx n1 (fun p e u _ => ?_), hH, hG, s1.sto r1⟩
  rcases hO p with q | ⟨_, q, _⟩
  · intro z
    cases r with
    | ow ds =>
      obtain ⟨p', xs, rfl, e2, _, _⟩ := er
      cases e
      rw [e2] at z; cases z
    | dk kvs =>
      obtain ⟨p', xs, rfl, e2, _, _⟩ := er
      cases e
      rw [e2] at z; cases z
    | no => cases e
    | sh d => cases e
    | wr j => cases e
    | sc => cases e
    | fz kvs => cases e
  · rw [q]; intro z; cases z
end

/-! ### blocks -/
def sPass (en : En) : R Fl := .ok .nx en
def thenS (b : En → R Fl) (f : Fl) (e : En) : R Fl := match f with | .nx => b e | f => .ok f e
def sSeq (a b : En → R Fl) (en : En) : R Fl := (a en).bind (thenS b)
def sEx (m : En → R Ent) (en : En) : R Fl := (m en).bind fun _ e => .ok .nx e
def sRet (m : En → R Ent) (en : En) : R Fl := (m en).bind fun r e => match r with | .no => .st | r => .ok (.rt r) e
def sIf (t : En → R Bool) (a b : En → R Fl) (en : En) : R Fl := (t en).bind fun k e => if k = true then a e else b e
def sSet (i : Nat) (m : En → R Ent) (en : En) : R Fl := (m en).bind fun r e => match r with | .no => .st | r => .ok .nx (e.set i r)
def sBk (en : En) : R Fl := .ok .bk en
def sEx_ (c : Nat) (en : En) : R Fl := .ex c en
section
variable {X : Cx} {κ : Kx} {W : WX} {st : Stmt} {rest : List Stmt} {a b : En → R Fl} {m : En → R Ent} {e : Expr} {pos : Pos}
theorem dss_cons (h1 : PS X st (tSOf κ W a)) (h2 : PSs X rest (tSOf κ W b)) : PSs X (st :: rest) (tSOf κ W (sSeq a b)) :=
  pss_imp (pss_cons h1 h2) fun Dn σ H ⟨w, en, hw, s, p⟩ => ⟨w, en, hw, s, (Po.bind_of (f := thenS b) p).imp fun f e w' n q => by
    cases f with
    | nx => exact fun σ' s' => ⟨w', e, rfl, s', q⟩
    | rt r => exact q w' (Nx.refl _)
    | bk => exact q w' (Nx.refl _)
    | ct => exact q w' (Nx.refl _)⟩
theorem dss_one (h1 : PS X st (tSOf κ W a)) : PSs X [st] (tSOf κ W a) := pss_one h1
theorem dss_nil : PSs X [] (tSOf κ W sPass) := pss_imp pss_nil fun Dn σ H ⟨w, en, hw, s, p⟩ => by
  subst hw
  exact p w (Nx.refl _) σ s
theorem ds_expr (h : PE X e (tOf κ W m)) (hs : swapsWith e none pos.line X.env = pure false := by rfl) : PS X (.Expr e pos) (tSOf κ W (sEx m)) :=
  ps_imp (ps_expr h hs) fun Dn σ H ⟨w, en, hw, s, p⟩ => by
    subst hw
    exact go (k := fun _ e => R.ok Fl.nx e) s p fun r e1 v w1 n1 s1 er p1 => p1 w1 (Nx.refl _) σ s1
theorem ds_ret (h : PE X e (tOf κ W m)) : PS X (.Return (some e) pos) (tSOf κ W (sRet m)) :=
  ps_imp (ps_ret h) fun Dn σ H ⟨w, en, hw, s, p⟩ => by
    subst hw
    refine go (k := fun r e => match r with | .no => R.st | r => R.ok (Fl.rt r) e) s p fun r e1 v w1 n1 s1 er p1 => ?_
    cases r with
    | no => exact False.elim p1
    | sh d => exact p1 w1 (Nx.refl _) v σ s1 er
    | ow d => exact p1 w1 (Nx.refl _) v σ s1 er
    | dk d => exact p1 w1 (Nx.refl _) v σ s1 er
    | wr d => exact p1 w1 (Nx.refl _) v σ s1 er
    | sc => exact p1 w1 (Nx.refl _) v σ s1 er
    | fz kvs => exact p1 w1 (Nx.refl _) v σ s1 er
theorem ds_if {c : Expr} {sa sb : List Stmt} {t : En → R Bool} (hc : PT X c (tTOf κ W t)) (ha : PSs X sa (tSOf κ W a)) (hb : PSs X sb (tSOf κ W b)) : PS X (.If c sa sb pos) (tSOf κ W (sIf t a b)) :=
  ps_imp (ps_if hc ha hb) fun Dn σ H ⟨w, en, hw, s, p⟩ => by
    subst hw
    refine goT (k := fun k e => if k = true then a e else b e) s p fun k e1 w1 n1 s1 p1 => ?_
    cases k with
    | true =>
      rw [if_pos rfl] at p1 ⊢
      exact ⟨w1, e1, rfl, s1, p1⟩
    | false =>
      rw [if_neg Bool.false_ne_true] at p1 ⊢
      exact ⟨w1, e1, rfl, s1, p1⟩
theorem tSet_of {σ : St} {Dn : Ends} {H : Hp} {i : Nat} (q : tSOf κ W (sSet i m) Dn σ H) : tAsg (tOf κ W m) (gName i) Dn σ H := by
  obtain ⟨w, en, hw, s, p⟩ := q
  subst hw
  refine go (k := fun r e => match r with | .no => R.st | r => R.ok Fl.nx (e.set i r)) s p fun r e1 v w1 n1 s1 er p1 => ?_
  have fin : r ≠ .no → (∀ w', Nx w1 w' → ∀ σ', StR κ w' σ' (e1.set i r) → Dn.nx σ' w'.H) → Dn.nx (σ.set i (some v)) w1.H := fun hr q => by
    obtain ⟨w2, n2, hH, _, s2⟩ := s1.store i er hr
    rw [← hH]
    exact q w2 n2 _ s2
  cases r with
  | no => exact False.elim p1
  | sh d => exact fin (fun z => nomatch z) p1
  | ow d => exact fin (fun z => nomatch z) p1
  | dk d => exact fin (fun z => nomatch z) p1
  | wr d => exact fin (fun z => nomatch z) p1
  | sc => exact fin (fun z => nomatch z) p1
  | fz kvs => exact fin (fun z => nomatch z) p1
theorem ds_set (i : Nat) {x : Str} {pos' : Pos} (hN : X.N.Nodup) (h : PE X e (tOf κ W m)) (hi : X.N[i]? = some x := by rfl) (hx : Loc X.env.scope x := by first | exact Or.inl rfl | exact Or.inr rfl) (hs : swapsWith e (some (.Name x pos')) pos.line X.env = pure false := by rfl)
    (hf : X.fn x = true ∨ X.env.scope.names.lookup x = some .local := by first | exact .inl rfl | exact .inr rfl) : PS X (.Assign [.Name x pos'] e pos) (tSOf κ W (sSet i m)) :=
  ps_imp (ps_set hN hi hx h hs hf) fun Dn σ H q => tSet_of q
theorem ds_break : PS X (.Break pos) (tSOf κ W sBk) := ps_imp ps_break fun Dn σ H ⟨w, en, hw, s, p⟩ => by
  subst hw
  exact p w (Nx.refl _) σ s
/-- raise C('..') -/
theorem ds_raise (c : Nat) {x mm : Str} {j : Nat} {p p2 pos' : Pos} {bmB : List Value} {B newId initId : String} (hc : X.calm = true) (tk : Takes X W) (F : ExcBaseFacts B newId initId bmB) (q : PySem.W.excIn X.K (κ.ec c) bmB newId = true) (gC : X.mg x = some (.ref (κ.ec c)))
    (kC : PySem.W.keepIn X.K (.ref (κ.ec c)) = true) (r : Raises X (.ref (κ.ec c))) (hg : Gl X x := by rfl) (hdb : (x == ("__debug__" : Str)) = false := by decide) :
    PS X (.Raise (some (.Call (.Name x p) [.Constant (.str mm) j p2] [] pos')) none pos) (tSOf κ W (sEx_ c)) :=
  ps_imp (ps_raise hc tk (pmk_own F q gC kC r hg hdb)) fun Dn σ H ⟨w, en, hw, s, po⟩ => by
    subst hw
    exact po σ w (Nx.refl _) s
end

/-! ### targets -/
def gN (i : Nat) (r : Ent) (en : En) : R Unit := match r with | .no => .st | r => .ok () (en.set i r)
/-- several names from a tuple's data -/
def setAll : List Nat → List D → En → R Unit
  | [], [], en => .ok () en
  | i :: is, d :: ds, en => setAll is ds (en.set i (.sh d))
  | _, _, _ => .st
def gT (is : List Nat) (r : Ent) (en : En) : R Unit := match r with | .sh (.tuple ds) => setAll is ds en | _ => .st
/-- alike but in the slots is -/
def AlikeBut (is : List Nat) (σ σ' : St) : Prop := ∀ vs, (∀ i ∈ is, i ∈ vs) → wipe σ' vs = wipe σ vs
theorem wipe_in {σ : St} {k : Nat} : ∀ {vs : List Nat}, k ∈ vs → (wipe σ vs)[k]? = if k < σ.length then some none else none
  | v :: vs, h => by
    unfold wipe
    by_cases hv : v = k
    · subst hv
      by_cases hl : v < σ.length
      · rw [if_pos hl, List.getElem?_set_self (by rw [wipe_length]; exact hl)]
      · rw [if_neg hl, List.getElem?_eq_none (by rw [List.length_set, wipe_length]; omega)]
    · rw [List.getElem?_set_ne hv]
      exact wipe_in ((List.mem_cons.mp h).resolve_left (Ne.symm hv))
theorem wipe_set {σ : St} {i : Nat} {o : Option V} {vs : List Nat} (h : i ∈ vs) : wipe (σ.set i o) vs = wipe σ vs := by
  apply List.ext_getElem?
  intro k
  by_cases hk : k ∈ vs
  · rw [wipe_in hk, wipe_in hk, List.length_set]
  · rw [wipe_out hk, wipe_out hk, List.getElem?_set_ne (fun z : i = k => hk (by rw [← z]; exact h))]
/-- a target's store, its slots named -/
def tGv (κ : Kx) (W : WX) (g : Ent → En → R Unit) (is : List Nat) : TG := fun v σ H Q => ∃ w en r, w.H = H ∧ StR κ w σ en ∧ EntR κ w .r v r ∧ Po κ W w (g r en) fun _ en' w' => ∀ σ', StR κ w' σ' en' → AlikeBut is σ σ' → Q σ' w'.H
section
variable {X : Cx} {κ : Kx} {W : WX} {pos : Pos}
theorem dg_of {e : Expr} {g : Ent → En → R Unit} {is : List Nat} (h : PG X e (tGv κ W g is)) : PG X e (tGOf κ W g) :=
  pg_imp h fun v σ H Q ⟨w, en, r, hw, s, er, p⟩ => ⟨w, en, r, hw, s, er, p.imp fun _ en' w' n q σ' s' _ => q σ' s'⟩
theorem dg_name (i : Nat) {x : Str} (hN : X.N.Nodup) (hi : X.N[i]? = some x := by rfl) (hx : Loc X.env.scope x := by first | exact Or.inl rfl | exact Or.inr rfl)
    (hf : X.fn x = true ∨ X.env.scope.names.lookup x = some .local := by first | exact .inl rfl | exact .inr rfl) : PG X (.Name x pos) (tGv κ W (gN i) [i]) :=
  pg_imp (pg_name hN hi hx hf) fun v σ H Q ⟨w, en, r, hw, s, er, p⟩ => by
    subst hw
    have fin : r ≠ .no → (∀ w', Nx w w' → ∀ σ', StR κ w' σ' (en.set i r) → AlikeBut [i] σ σ' → Q σ' w'.H) → Q (σ.set i (some v)) w.H := fun hr q => by
      obtain ⟨w2, n2, hH, _, s2⟩ := s.store i er hr
      rw [← hH]
      exact q w2 n2 _ s2 fun vs h => wipe_set (h i (by simp))
    cases r with
    | no => exact False.elim p
    | sh d => exact fin (fun z => nomatch z) p
    | ow d => exact fin (fun z => nomatch z) p
    | dk d => exact fin (fun z => nomatch z) p
    | wr d => exact fin (fun z => nomatch z) p
    | sc => exact fin (fun z => nomatch z) p
    | fz kvs => exact fin (fun z => nomatch z) p
/-- the targets of a tuple, by their slots -/
def PGsD (X : Cx) (κ : Kx) (ts : List Expr) (is : List Nat) : Prop := ∃ t : TGs, PGs X ts t ∧ ∀ (w : Sn) (σ : St) (en : En) (xs : List V) (ds : List D) (W : WX) (Q : St → Hp → Prop), StR κ w σ en → DqAll w.G xs ds →
  Po κ W w (setAll is ds en) (fun _ en' w' => ∀ σ', StR κ w' σ' en' → AlikeBut is σ σ' → Q σ' w'.H) → t xs σ w.H Q
theorem dgs_nil : PGsD X κ [] [] := ⟨_, pgs_nil, fun w σ en xs ds W Q s h p => by
  cases h with
  | nil => exact ⟨rfl, p w (Nx.refl _) σ s fun _ _ => rfl⟩
  | cons _ _ => exact False.elim p⟩
theorem dgs_name (i : Nat) {x : Str} {es : List Expr} {is : List Nat} (hN : X.N.Nodup) (h : PGsD X κ es is) (hi : X.N[i]? = some x := by rfl) (hx : Loc X.env.scope x := by first | exact Or.inl rfl | exact Or.inr rfl)
    (hf : X.fn x = true ∨ X.env.scope.names.lookup x = some .local := by first | exact .inl rfl | exact .inr rfl)
    (hs : (assignEach (.Name x pos :: es) X.env).map (·.2) = assign (.Name x pos) X.env :: (assignEach es X.env).map (·.2) := by rfl) : PGsD X κ (.Name x pos :: es) (i :: is) := by
  obtain ⟨t, ht, hh⟩ := h
  refine ⟨_, pgs_cons (pg_name hN hi hx hf) ht hs, fun w σ en xs ds W Q s hd p => ?_⟩
  cases hd with
  | nil => exact False.elim p
  | cons h1 h2 =>
    refine ⟨_, _, rfl, ?_⟩
    obtain ⟨w2, n2, hH, hG, s2⟩ := s.store (r := .sh _) i h1 (fun z => nomatch z)
    rw [← hH]
    refine hh w2 _ _ _ _ W Q s2 (by rw [hG]; exact h2) ((Po.mono p n2).imp fun _ en' w' n q σ' s' al => q σ' s' fun vs hvs => ?_)
    rw [al vs fun k hk => hvs k (List.mem_cons_of_mem _ hk)]
    exact wipe_set (hvs i List.mem_cons_self)
theorem dg_tup {es : List Expr} {k n : Nat} {is : List Nat} (hc : X.calm = true) (h : PGsD X κ es is) (hil : is.length = n := by rfl) (hn : (assignEach es X.env).length = n := by rfl) (hst : (assignEach es X.env).findIdx? (·.1) = none := by rfl) : PG X (.Tuple es k pos) (tGv κ W (gT is) is) := by
  obtain ⟨t, ht, hh⟩ := h
  refine pg_imp (pg_tup hc ht hn hst) fun v σ H Q ⟨w, en, r, hw, s, er, p⟩ => ?_
  subst hw
  cases r with
  | sh d =>
    cases d with
    | tuple ds =>
      obtain ⟨a, xs, rfl, h1, h2⟩ := dp_tuple er
      refine ⟨a, xs, rfl, SqT.of (s.wo.su _ _ h1), ?_, hh w σ en xs ds W Q s h2 p⟩
      rw [dpa_len h2, ← hil]
      have go : ∀ (is : List Nat) (ds : List D) (en : En) (Q : Unit → En → Sn → Prop), Po κ W w (setAll is ds en) Q → ds.length = is.length := by
        intro is
        induction is with
        | nil =>
          intro ds en Q p
          cases ds with
          | nil => rfl
          | cons _ _ => exact False.elim p
        | cons i is ih =>
          intro ds en Q p
          cases ds with
          | nil => exact False.elim p
          | cons d ds => rw [List.length_cons, List.length_cons, ih ds _ _ p]
      exact go is ds en _ p
    | _ => exact False.elim p
  | _ => exact False.elim p
/-- target = value, any target -/
def sAsg (g : Ent → En → R Unit) (m : En → R Ent) (en : En) : R Fl := (m en).bind fun r e => (g r e).bind fun _ e' => .ok .nx e'
theorem ds_asg {tg e : Expr} {m : En → R Ent} {g : Ent → En → R Unit} {is : List Nat} (he : PE X e (tOf κ W m)) (hg : PG X tg (tGv κ W g is)) (hs : swapsWithSole [tg] e pos.line X.env = pure false := by rfl) (hw : swappedStores [tg] e X.env = pure none := by rfl)
    (h1 : (assignEach [tg] X.env).map (·.2) = [assign tg X.env] := by rfl) : PS X (.Assign [tg] e pos) (tSOf κ W (sAsg g m)) :=
  ps_imp (ps_asg he (dg_of hg) hs hw h1) fun Dn σ H ⟨w, en, hw, s, p⟩ => by
    subst hw
    refine go (k := fun r e => (g r e).bind fun _ e' => R.ok Fl.nx e') s p fun r e1 v w1 n1 s1 er p1 => ?_
    exact ⟨w1, e1, r, rfl, s1, er, (Po.bind_of p1).imp fun _ e2 w2 n2 p2 => fun σ' s2 => p2 w2 (Nx.refl _) σ' s2⟩
end

/-! ### a, b = x, y -/
def sPar2 (i j : Nat) (m1 m2 : En → R Ent) (en : En) : R Fl := (m1 en).bind fun r1 e1 => (m2 e1).bind fun r2 e2 => match r1, r2 with
  | .no, _ => .st | _, .no => .st | r1, r2 => .ok .nx ((e2.set i r1).set j r2)
def sPar3 (i j l : Nat) (m1 m2 m3 : En → R Ent) (en : En) : R Fl := (m1 en).bind fun r1 e1 => (m2 e1).bind fun r2 e2 => (m3 e2).bind fun r3 e3 => match r1, r2, r3 with
  | .no, _, _ => .st | _, .no, _ => .st | _, _, .no => .st | r1, r2, r3 => .ok .nx (((e3.set i r1).set j r2).set l r3)
section
variable {X : Cx} {κ : Kx} {W : WX} {pos : Pos} {w w0 : Sn} {σ : St} {en : En}
theorem own_raw {v : V} {r : Ent} {p : Addr} (h : Raw w κ v r) (e : own? r v = some p) : w.O p = none ∧ ∃ u, w.H p = some u := by
  cases r with
  | ow ds =>
    obtain ⟨q, xs, rfl, e2, _, e4, _⟩ := h
    cases e
    exact ⟨e2, _, e4⟩
  | dk kvs =>
    obtain ⟨q, xs, rfl, e2, _, e4, _⟩ := h
    cases e
    exact ⟨e2, _, e4⟩
  | no => cases e
  | sh d => cases e
  | wr j => cases e
  | sc => cases e
  | fz kvs => cases e
theorem own_ent {v : V} {r : Ent} {p : Addr} (h : EntR κ w .r v r) (e : own? r v = some p) : w.O p = some .r := by
  cases r with
  | ow ds =>
    obtain ⟨q, xs, rfl, e2, _⟩ := h
    cases e
    exact e2
  | dk kvs =>
    obtain ⟨q, xs, rfl, e2, _⟩ := h
    cases e
    exact e2
  | no => cases e
  | sh d => cases e
  | wr j => cases e
  | sc => cases e
  | fz kvs => cases e
/-- not standing unowned at w0 -/
def Apart (w0 : Sn) (o : Option Addr) : Prop := ∀ p, o = some p → ∀ u, w0.H p = some u → w0.O p ≠ none
theorem apart_of {v : V} {r : Ent} (n : Nx w0 w) (h : EntR κ w .r v r) : Apart w0 (own? r v) := fun p e u h1 h2 => by
  have q := (n.f p u h1 h2).2.2
  rw [own_ent h e] at q
  cases q
theorem Raw.sto {v v' : V} {r r' : Ent} {i : Nat} (h : Raw w κ v r) (hne : ∀ p, own? r v = some p → own? r' v' ≠ some p) : Raw { w with O := stoO w.O i (own? r' v') } κ v r := by
  have k : ∀ p, own? r v = some p → w.O p = none → stoO w.O i (own? r' v') p = none := fun p e e2 => by
    rw [stoO_ne (hne p e) (by rw [e2]; intro z; cases z)]
    exact e2
  cases r with
  | no => exact h
  | sh d => exact h
  | ow ds =>
    obtain ⟨p, xs, rfl, e2, e3⟩ := h
    exact ⟨p, xs, rfl, k p rfl e2, e3⟩
  | dk kvs =>
    obtain ⟨p, xs, rfl, e2, e3⟩ := h
    exact ⟨p, xs, rfl, k p rfl e2, e3⟩
  | wr j => exact h
  | sc => exact h
  | fz kvs => exact h
/-- .. with the equation of the part, the end's wish where it stood -/
theorem goQ {α : Type} {m : En → R Ent} {k : Ent → En → R α} {Q : α → En → Sn → Prop} {Q1 : VK} (n0 : Nx w0 w) (s : StR κ w σ en) (h : Po κ W w0 ((m en).bind k) Q)
    (hk : ∀ r en1 v w1, m en = .ok r en1 → Nx w w1 → StR κ w1 σ en1 → EntR κ w1 .r v r → Po κ W w0 (k r en1) Q → Q1 v w1.H) : tOf κ W m σ w.H Q1 := by
  refine ⟨w, en, rfl, s, ?_⟩
  cases e : m en with
  | ok r en1 =>
    rw [e] at h
    exact fun w1 n1 v s1 er => hk r en1 v w1 e n1 s1 er h
  | ex c en1 =>
    rw [e] at h
    exact fun σ' w1 n1 s1 => h σ' w1 (n0.trans n1) s1
  | st =>
    rw [e] at h
    exact h
theorem ds_par2 (i j : Nat) {x y : Str} {a b : Expr} {m1 m2 : En → R Ent} {px py pt : Pos} {kt k2 pt2} (hc : X.calm = true) (hN : X.N.Nodup) (ha : PE X a (tOf κ W m1)) (hb : PE X b (tOf κ W m2)) (hi : X.N[i]? = some x := by rfl) (hj : X.N[j]? = some y := by rfl) (hij : i ≠ j := by decide)
    (hx : X.env.scope.names.lookup x = some .local := by rfl) (hy : X.env.scope.names.lookup y = some .local := by rfl)
    (hw : swappedStores [.Tuple [.Name x px, .Name y py] kt pt] (.Tuple [a, b] k2 pt2) X.env = pure (some [x, y]) := by rfl)
    (hs : swapsWithSole [.Tuple [.Name x px, .Name y py] kt pt] (.Tuple [a, b] k2 pt2) pos.line X.env = pure false := by rfl) (h1 : starEach [a, b] X.env = (false, eval a X.env) :: starEach [b] X.env := by rfl) (h2 : starEach [b] X.env = (false, eval b X.env) :: starEach [] X.env := by rfl) :
    PS X (.Assign [.Tuple [.Name x px, .Name y py] kt pt] (.Tuple [a, b] k2 pt2) pos) (tSOf κ W (sPar2 i j m1 m2)) :=
  ps_imp (ps_par hc hN hi hj hij hx hy (pa_cons ha (pa_cons hb pa_nil h2) h1) hw hs) fun Dn σ H ⟨w, en, hw', s, p⟩ => by
    subst hw'
    refine goQ (Q1 := fun v1 H1 => tOf κ W m2 σ H1 fun v2 H2 => ∃ v w, [v1, v2] = [v, w] ∧ Dn.nx ((σ.set i (some v)).set j (some w)) H2) (Nx.refl w) s p fun r1 e1 v1 w1 q1 n1 s1 er1 p1 => ?_
    by_cases hr1 : r1 = .no
    · subst hr1
      exact ⟨w1, e1, rfl, s1, ((Po.bind_of p1).mono n1).imp fun r2 e2 w2 n2 p2 => False.elim p2⟩
    obtain ⟨w1h, nh, hH, hG, had, s1h, raw1, hO1⟩ := hide s1 er1 hr1
    rw [← hH]
    refine goQ (n1.trans nh) s1h p1 fun r2 e2 v2 w2 q2 n2 s2 er2 p2 => ⟨v1, v2, rfl, ?_⟩
    by_cases hr2 : r2 = .no
    · subst hr2
      cases r1 <;> exact False.elim p2
    have raw1' := raw1.mono n2
    obtain ⟨w2h, nh2, hH2, hG2, had2, s2h, raw2, hO2⟩ := hide s2 er2 hr2
    have raw1'' := raw1'.mono nh2
    have hne : ∀ q, own? r2 v2 = some q → own? r1 v1 ≠ some q := fun q e e' => by
      have z1 := (own_raw raw1' e').1
      rw [own_ent er2 e] at z1
      cases z1
    have st3 := s2h.sto (i := i) raw1''
    have raw3 := raw2.sto (i := i) (r' := r1) (v' := v1) hne
    have st4 := st3.sto (i := j) raw3
    have nAll : Nx w w2h := ((n1.trans nh).trans n2).trans nh2
    have n3 : Nx w { w2h with O := stoO w2h.O i (own? r1 v1) } := sto_nx nAll (apart_of n1 er1)
    have n4 : Nx w { w2h with O := stoO (stoO w2h.O i (own? r1 v1)) j (own? r2 v2) } := sto_nx (w := { w2h with O := stoO w2h.O i (own? r1 v1) }) n3 (apart_of ((n1.trans nh).trans n2) er2)
    have fin : Po κ W w (R.ok Fl.nx ((e2.set i r1).set j r2)) (endS κ Dn) := by
      cases r1 <;> first | exact absurd rfl hr1 | (cases r2 <;> first | exact absurd rfl hr2 | exact p2)
    have q := fin _ n4 _ st4
    rw [← hH2]
    exact q
theorem ds_par3 (i j l : Nat) {x y z : Str} {a b c : Expr} {m1 m2 m3 : En → R Ent} {px py pz pt : Pos} {kt k2 pt2} (hc : X.calm = true) (hN : X.N.Nodup) (ha : PE X a (tOf κ W m1)) (hb : PE X b (tOf κ W m2)) (hcc : PE X c (tOf κ W m3))
    (hi : X.N[i]? = some x := by rfl) (hj : X.N[j]? = some y := by rfl) (hl : X.N[l]? = some z := by rfl) (hij : i ≠ j := by decide) (hil : i ≠ l := by decide) (hjl : j ≠ l := by decide)
    (hx : X.env.scope.names.lookup x = some .local := by rfl) (hy : X.env.scope.names.lookup y = some .local := by rfl) (hz : X.env.scope.names.lookup z = some .local := by rfl)
    (hw : swappedStores [.Tuple [.Name x px, .Name y py, .Name z pz] kt pt] (.Tuple [a, b, c] k2 pt2) X.env = pure (some [x, y, z]) := by rfl)
    (hs : swapsWithSole [.Tuple [.Name x px, .Name y py, .Name z pz] kt pt] (.Tuple [a, b, c] k2 pt2) pos.line X.env = pure false := by rfl)
    (h1 : starEach [a, b, c] X.env = (false, eval a X.env) :: starEach [b, c] X.env := by rfl) (h2 : starEach [b, c] X.env = (false, eval b X.env) :: starEach [c] X.env := by rfl) (h3 : starEach [c] X.env = (false, eval c X.env) :: starEach [] X.env := by rfl) :
    PS X (.Assign [.Tuple [.Name x px, .Name y py, .Name z pz] kt pt] (.Tuple [a, b, c] k2 pt2) pos) (tSOf κ W (sPar3 i j l m1 m2 m3)) :=
  ps_imp (ps_par3 hc hN hi hj hl hij hil hjl hx hy hz (pa_cons ha (pa_cons hb (pa_cons hcc pa_nil h3) h2) h1) hw hs) fun Dn σ H ⟨w, en, hw', s, p⟩ => by
    subst hw'
    refine goQ (Q1 := fun v1 H1 => tOf κ W m2 σ H1 fun v2 H2 => tOf κ W m3 σ H2 fun v3 H3 => ∃ u v w, [v1, v2, v3] = [u, v, w] ∧ Dn.nx (((σ.set i (some u)).set j (some v)).set l (some w)) H3) (Nx.refl w) s p fun r1 e1 v1 w1 q1 n1 s1 er1 p1 => ?_
    by_cases hr1 : r1 = .no
    · subst hr1
      refine ⟨w1, e1, rfl, s1, ((Po.bind_of p1).mono n1).imp fun r2 e2 w2 n2 p2 v2 s2 er2 => ⟨w2, e2, rfl, s2, (Po.bind_of p2).imp fun r3 e3 w3 n3 p3 => False.elim p3⟩⟩
    obtain ⟨w1h, nh, hH, hG, had, s1h, raw1, hO1⟩ := hide s1 er1 hr1
    rw [← hH]
    refine goQ (Q1 := fun v2 H2 => tOf κ W m3 σ H2 fun v3 H3 => ∃ u v w, [v1, v2, v3] = [u, v, w] ∧ Dn.nx (((σ.set i (some u)).set j (some v)).set l (some w)) H3) (n1.trans nh) s1h p1 fun r2 e2 v2 w2 q2 n2 s2 er2 p2 => ?_
    by_cases hr2 : r2 = .no
    · subst hr2
      exact ⟨w2, e2, rfl, s2, ((Po.bind_of p2).mono ((n1.trans nh).trans n2)).imp fun r3 e3 w3 n3 p3 => by cases r1 <;> exact False.elim p3⟩
    have raw1' := raw1.mono n2
    obtain ⟨w2h, nh2, hH2, hG2, had2, s2h, raw2, hO2⟩ := hide s2 er2 hr2
    have raw1'' := raw1'.mono nh2
    have hne : ∀ q, own? r2 v2 = some q → own? r1 v1 ≠ some q := fun q e e' => by
      have z1 := (own_raw raw1' e').1
      rw [own_ent er2 e] at z1
      cases z1
    rw [← hH2]
    refine goQ (((n1.trans nh).trans n2).trans nh2) s2h p2 fun r3 e3 v3 w3 q3 n3 s3 er3 p3 => ⟨v1, v2, v3, rfl, ?_⟩
    by_cases hr3 : r3 = .no
    · subst hr3
      cases r1 <;> first | exact absurd rfl hr1 | (cases r2 <;> first | exact absurd rfl hr2 | exact False.elim p3)
    have raw1a := raw1''.mono n3
    have raw2a := raw2.mono n3
    obtain ⟨w3h, nh3, hH3, hG3, had3, s3h, raw3, hO3⟩ := hide s3 er3 hr3
    have raw1b := raw1a.mono nh3
    have raw2b := raw2a.mono nh3
    have hne13 : ∀ q, own? r3 v3 = some q → own? r1 v1 ≠ some q := fun q e e' => by
      have z1 := (own_raw raw1a e').1
      rw [own_ent er3 e] at z1
      cases z1
    have hne23 : ∀ q, own? r3 v3 = some q → own? r2 v2 ≠ some q := fun q e e' => by
      have z1 := (own_raw raw2a e').1
      rw [own_ent er3 e] at z1
      cases z1
    have st4 := s3h.sto (i := i) raw1b
    have rw2 := raw2b.sto (i := i) (r' := r1) (v' := v1) hne
    have rw3 := raw3.sto (i := i) (r' := r1) (v' := v1) hne13
    have st5 := st4.sto (i := j) rw2
    have rw3' := rw3.sto (i := j) (r' := r2) (v' := v2) hne23
    have st6 := st5.sto (i := l) rw3'
    have nAll : Nx w w3h := ((((n1.trans nh).trans n2).trans nh2).trans n3).trans nh3
    have na : Nx w { w3h with O := stoO w3h.O i (own? r1 v1) } := sto_nx nAll (apart_of n1 er1)
    have nb : Nx w { w3h with O := stoO (stoO w3h.O i (own? r1 v1)) j (own? r2 v2) } := sto_nx (w := { w3h with O := stoO w3h.O i (own? r1 v1) }) na (apart_of ((n1.trans nh).trans n2) er2)
    have nc : Nx w { w3h with O := stoO (stoO (stoO w3h.O i (own? r1 v1)) j (own? r2 v2)) l (own? r3 v3) } := sto_nx (w := { w3h with O := stoO (stoO w3h.O i (own? r1 v1)) j (own? r2 v2) }) nb (apart_of ((((n1.trans nh).trans n2).trans nh2).trans n3) er3)
    have fin : Po κ W w (R.ok Fl.nx (((e3.set i r1).set j r2).set l r3)) (endS κ Dn) := by
      cases r1 <;> first | exact absurd rfl hr1 | (cases r2 <;> first | exact absurd rfl hr2 | (cases r3 <;> first | exact absurd rfl hr3 | exact p3))
    have q := fin _ nc _ st6
    rw [← hH3]
    exact q
end
end CO

/-! CoF: enumerate over a tuple, over a text. -/
namespace CO
open PySem PySem.Spec PyProof.Rows L2

set_option maxHeartbeats 4000000 in
theorem enum1_new {v : Value} {ob : Obj} {Hh : Heap → Prop} (B : Begins v ob Hh) :
    Meets (Builtin.«enumerate.__new__» ⟨[.type "enumerate", v], []⟩) (fun _ R s => Hh s.heap ∧
      R (.ok (.ret (.ref (s.heap.push ob).objs.size))) { s with heap := (s.heap.push ob).push { cls := .type "enumerate", data := .fields #[.none, .bool false, .ref s.heap.objs.size, rawInt 0, .none, .none] } }) :=
  .of_wp fun prog w A R s h => by
    obtain ⟨hp, g, d, tk, os⟩ := s
    obtain ⟨hh, h⟩ := h
    have hsub := sub_enumerate
    have go1 : ∀ {A1 : Around} {E1 : Value → Shared → Prop} {Q1 : Value → Shared → Prop}, Q1 (.ref hp.objs.size) ⟨hp.push ob, g, d, tk, os⟩ → wpAny (model prog w) A1 (pyIter v) Q1 E1 ⟨hp, g, d, tk, os⟩ := fun q => B.iter prog w _ _ ⟨hp, g, d, tk, os⟩ _ hh q
    wp_walk using go1
    refine wpAny_stack_any fun st => wpAny_pure ?_
    split
    · rename_i c _ _ _ _ _
      cases (c == Value.type "enumerate")
      all_goals (wp_walk using go1; exact ⟨_, rfl, h⟩)
    · wp_walk using go1
      exact ⟨_, rfl, h⟩
theorem enum1_call {prog : Program} {w : World} {A : Around} {E : Value → Shared → Prop} {s : Shared} {v : Value} {ob : Obj} {Hh : Heap → Prop} {Q : Value → Shared → Prop} (B : Begins v ob Hh) (hh : Hh s.heap)
    (k : ∀ h', IsEnum h' (s.heap.objs.size + 1) s.heap.objs.size 0 .none → h'.get? s.heap.objs.size = some ob → (∀ b o, s.heap.get? b = some o → h'.get? b = some o) → Q (.ref (s.heap.objs.size + 1)) { s with heap := h' }) :
    wpAny (model prog w) A (call (.type "enumerate") [v]) Q E s := by
  refine callType_new F.called_enumerate (by decide) (F.typeCall_enumerate_1 _) (F.newCall_enumerate_1 _) (fun z => F.args_object_init_2 z _) F.entry_enumerate_new (enum1_new B) ⟨hh, ?_⟩
  have sz : (s.heap.push ob).objs.size = s.heap.objs.size + 1 := Heap.size_push ..
  rw [sz]
  have isE : IsEnum ((s.heap.push ob).push { cls := .type "enumerate", data := .fields #[.none, .bool false, .ref s.heap.objs.size, rawInt 0, .none, .none] }) (s.heap.objs.size + 1) s.heap.objs.size 0 .none := by
    have z := Heap.get?_push_size (s.heap.push ob) (o := { cls := .type "enumerate", data := .fields #[.none, .bool false, .ref s.heap.objs.size, rawInt 0, .none, .none] }) rfl
    rw [sz] at z
    exact z
  exact ⟨⟨_, isE, rfl⟩, k _ isE (Heap.get?_push_of_some _ (Heap.get?_push_size _ B.free)) fun b o x => Heap.get?_push_of_some _ (Heap.get?_push_of_some _ x)⟩

/-- the tuple at a, each item in a new pair -/
def IteT (K : PySem.W.Frag) (a : Addr) : It where
  go i H := ∃ (xs : List V) (x : V), SqT K H a xs ∧ xs[i]? = some x
  yld i H v H' := ∃ T x, v = .ref T ∧ H T = none ∧ H' = upd H T (.tup [.int (i : Nat), x]) ∧ ∀ xs, SqT K H a xs → xs[i]? = some x
  stop i H := ∃ xs : List V, SqT K H a xs ∧ xs.length = i
def IteS (x : Str) : It where
  go i _ := i < x.cps.size
  yld i H v H' := ∃ T c, v = .ref T ∧ H T = none ∧ H' = upd H T (.tup [.int (i : Nat), .str ⟨#[c]⟩]) ∧ x.cps[i]? = some c
  stop i _ := i = x.cps.size
section
variable {P : Program} {w : World} {K : PySem.W.Frag} {elts : List Expr} {kk : Nat} {tpos : Pos}
theorem turn_enumT (a e it : Addr) : Turn P w K (.Tuple elts kk tpos) (IteT K a) [e, it] e (fun i h => (∃ old, IsEnum h e it ((i : Nat) : Int) old) ∧ h.IsTupleIter it a i ∧ e ≠ it ∧ a ≠ it ∧ a ≠ e) where
  mem := by simp
  obj := fun i h st b hb => by
    obtain ⟨⟨old, he⟩, ⟨o, ho, _, hd⟩, _⟩ := st
    rcases (by simpa using hb : b = e ∨ b = it) with z | z
    · subst z; exact ⟨_, he, fun v q => nomatch q⟩
    · subst z; exact ⟨o, ho, fun v q => by rw [hd] at q; cases q⟩
  keep := fun i h h' st k => by
    obtain ⟨⟨old, he⟩, hi, r⟩ := st
    exact ⟨⟨old, k e (by simp) _ he⟩, hi.at fun o q => k it (by simp) o q, r⟩
  item := by
    intro X hP hw hK hc i pins s σ H E I hf st hg
    subst hP hw hK
    obtain ⟨⟨old, he⟩, hit, hne, hai, hae⟩ := st
    obtain ⟨xs, x, hq, hx⟩ := hg
    obtain ⟨its, rv, p, _⟩ := I.tuple hq
    obtain ⟨u, hu, ru⟩ := rv.get hx
    have hel : e < s.heap.objs.size := Heap.lt_size he
    have hil : it < s.heap.objs.size := by obtain ⟨_, q, _⟩ := hit; exact Heap.lt_size q
    have hn : i < its.toArray.size := by
      have := (List.getElem?_eq_some_iff.mp hu).1
      simpa using this
    have Dr := Draws.tuple (prog := X.prog) (w := X.w) (A := X.A.in1) (I.ok.hd hc) it a hai its.toArray
    refine wpAny_pyNext_enum_itemD Dr he ⟨hit, p⟩ hn hne (by simp; exact ⟨hne, Ne.symm hae⟩) fun y h' tk hy ho hst' hT hsz hk => ?_
    have ey : y = u := by
      have q1 : its.toArray[i]? = some y := hy
      rw [List.getElem?_toArray, hu] at q1
      exact (Option.some.inj q1).symm
    subst ey
    refine ⟨_, rfl, wpAny_letOwnedTupleGo_enum (s := { s with heap := h', toks := tk + 1 }) ho fun h'' he' sb => ?_⟩
    have hT2 : h''.get? s.heap.objs.size = some { cls := .type "tuple", data := .seq #[.int i tk, y] } := (sb.2 _ (Nat.ne_of_gt hel)).trans hT
    have new : ObjOk X.prog X.w (upd H s.heap.objs.size (.tup [.int (i : Nat), x])) h'' s.heap.objs.size (.tup [.int (i : Nat), x]) := by
      refine ⟨?_, [.int i tk, y], .cons ⟨_, rfl⟩ (.cons ru .nil), ⟨_, hT2, rfl, _, rfl⟩⟩
      show 2 ≤ sizeLine; decide
    have I1 : Inv X pins σ (upd H s.heap.objs.size (.tup [.int (i : Nat), x])) { s with heap := h'', toks := tk + 1 } :=
      I.turnedNew (ch := [e, it]) (fun b ob hb q => by
        have n1 : b ≠ e := fun z => hb (by simp [z])
        have n2 : b ≠ it := fun z => hb (by simp [z])
        exact (sb.2 b n1).trans (hk b ob n1 n2 q)) hf (Nat.le_refl _) new
    refine ⟨.ref s.heap.objs.size, _, I1, rfl, ⟨_, x, rfl, I.hok.fresh (Nat.le_refl _), rfl, fun ys hy => by rw [I.tuple_inj hy hq]; exact hx⟩, ⟨⟨y, ?_⟩, hst'.1.at fun o q => (sb.2 it (Ne.symm hne)).trans q, hne, hai, hae⟩, fun b hb => ?_⟩
    · rw [show ((i + 1 : Nat) : Int) = (i : Int) + 1 by omega]
      exact he'
    · have lt : b < s.heap.objs.size := by
        rcases (by simpa using hb : b = e ∨ b = it) with z | z
        · rw [z]; exact hel
        · rw [z]; exact hil
      rw [upd_ne (Nat.ne_of_lt lt)]
      exact (hf b hb).1
  done := by
    intro X hP hw hK hc i pins s σ H E I hf st hg
    subst hP hw hK
    obtain ⟨⟨old, he⟩, hit, hne, hai, hae⟩ := st
    obtain ⟨xs, hq, hx⟩ := hg
    obtain ⟨its, rv, p, _⟩ := I.tuple hq
    obtain ⟨f0, f1, f2, f3, f4, f5⟩ := hf it (by simp)
    have hn : i = its.toArray.size := by
      have hl := rv.length
      simp; omega
    subst hn
    have Dr := Draws.tuple (prog := X.prog) (w := X.w) (A := X.A.in1) (I.ok.hd hc) it a hai its.toArray
    exact wpAny_pyNext_enum_endD Dr he ⟨hit, p⟩ fun h' eb => ⟨rfl, I.turned (t' := s.toks) (fun b o hb q => eb b o hb q) f0 f1 f3 f4 f5⟩
  self := fun A i s Q E st h => by
    obtain ⟨⟨_, he⟩, _⟩ := st
    exact wpAny_pyIter_enum he h
theorem turn_enumS (x : Str) (t : Tok) (e it : Addr) : Turn P w K (.Tuple elts kk tpos) (IteS x) [e, it] e (fun i h => (∃ old, IsEnum h e it ((i : Nat) : Int) old) ∧ h.IsStrIter it (strIterType x) x t i ∧ e ≠ it) where
  mem := by simp
  obj := fun i h st b hb => by
    obtain ⟨⟨old, he⟩, ⟨o, ho, _, hd⟩, _⟩ := st
    rcases (by simpa using hb : b = e ∨ b = it) with z | z
    · subst z; exact ⟨_, he, fun v q => nomatch q⟩
    · subst z; exact ⟨o, ho, fun v q => by rw [hd] at q; cases q⟩
  keep := fun i h h' st k => by
    obtain ⟨⟨old, he⟩, ⟨o, ho, r1⟩, r⟩ := st
    exact ⟨⟨old, k e (by simp) _ he⟩, ⟨o, k it (by simp) o ho, r1⟩, r⟩
  item := by
    intro X hP hw hK hc i pins s σ H E I hf st hg
    subst hP hw hK
    obtain ⟨⟨old, he⟩, hit, hne⟩ := st
    have hel : e < s.heap.objs.size := Heap.lt_size he
    have hil : it < s.heap.objs.size := by obtain ⟨_, q, _⟩ := hit; exact Heap.lt_size q
    have Dr := Draws.text (prog := X.prog) (w := X.w) (A := X.A.in1) (I.ok.hd hc) it x t
    refine wpAny_pyNext_enum_itemD Dr he hit hg hne (by simp; exact hne) fun y h' tk hy ho hst' hT hsz hk => ?_
    obtain ⟨c, u, hc1, rfl⟩ := hy
    refine ⟨_, rfl, wpAny_letOwnedTupleGo_enum (s := { s with heap := h', toks := tk + 1 }) ho fun h'' he' sb => ?_⟩
    have hT2 : h''.get? s.heap.objs.size = some { cls := .type "tuple", data := .seq #[.int i tk, .str ⟨#[c]⟩ u] } := (sb.2 _ (Nat.ne_of_gt hel)).trans hT
    have new : ObjOk X.prog X.w (upd H s.heap.objs.size (.tup [.int (i : Nat), .str ⟨#[c]⟩])) h'' s.heap.objs.size (.tup [.int (i : Nat), .str ⟨#[c]⟩]) := by
      refine ⟨?_, [.int i tk, .str ⟨#[c]⟩ u], .cons ⟨_, rfl⟩ (.cons ⟨_, rfl⟩ .nil), ⟨_, hT2, rfl, _, rfl⟩⟩
      show 2 ≤ sizeLine; decide
    have I1 : Inv X pins σ (upd H s.heap.objs.size (.tup [.int (i : Nat), .str ⟨#[c]⟩])) { s with heap := h'', toks := tk + 1 } :=
      I.turnedNew (ch := [e, it]) (fun b ob hb q => by
        have n1 : b ≠ e := fun z => hb (by simp [z])
        have n2 : b ≠ it := fun z => hb (by simp [z])
        exact (sb.2 b n1).trans (hk b ob n1 n2 q)) hf (Nat.le_refl _) new
    have hst2 : h'.IsStrIter it (strIterType x) x t (i + 1) := hst'
    refine ⟨.ref s.heap.objs.size, _, I1, rfl, ⟨_, c, rfl, I.hok.fresh (Nat.le_refl _), rfl, hc1⟩, ⟨⟨.str ⟨#[c]⟩ u, ?_⟩, ?_, hne⟩, fun b hb => ?_⟩
    · rw [show ((i + 1 : Nat) : Int) = (i : Int) + 1 by omega]
      exact he'
    · obtain ⟨o, ho2, r2⟩ := hst2
      exact ⟨o, (sb.2 it (Ne.symm hne)).trans ho2, r2⟩
    · have lt : b < s.heap.objs.size := by
        rcases (by simpa using hb : b = e ∨ b = it) with z | z
        · rw [z]; exact hel
        · rw [z]; exact hil
      rw [upd_ne (Nat.ne_of_lt lt)]
      exact (hf b hb).1
  done := by
    intro X hP hw hK hc i pins s σ H E I hf st hg
    subst hP hw hK
    obtain ⟨⟨old, he⟩, hit, hne⟩ := st
    obtain ⟨f0, f1, f2, f3, f4, f5⟩ := hf it (by simp)
    have hn : i = x.cps.size := hg
    subst hn
    have Dr := Draws.text (prog := X.prog) (w := X.w) (A := X.A.in1) (I.ok.hd hc) it x t
    exact wpAny_pyNext_enum_endD Dr he hit fun h' eb => ⟨rfl, I.turned (t' := s.toks) (fun b o hb q => eb b o hb q) f0 f1 f3 f4 f5⟩
  self := fun A i s Q E st h => by
    obtain ⟨⟨_, he⟩, _⟩ := st
    exact wpAny_pyIter_enum he h
end
def iEnumT (K : PySem.W.Frag) (ta : TA) : TI := fun σ H R => ta σ H fun vs H1 => ∃ a xs, vs = [.ref a] ∧ SqT K H1 a xs ∧ R (IteT K a) H1
def iEnumS (ta : TA) : TI := fun σ H R => ta σ H fun vs H1 => ∃ x, vs = [.str x] ∧ R (IteS x) H1
section
variable {X : Cx} {e : Expr} {ta : TA} {p pos tpos : Pos} {elts : List Expr} {kk : Nat}
theorem pi_enumT (hg : Gl X "enumerate") (hm : X.mg "enumerate" = none) (ha : PA X [e] ta) (hs : starEach [e] X.env = [(false, eval e X.env)] := by rfl) : PI X (.Tuple elts kk tpos) (.Call (.Name "enumerate" p) [e] [] pos) (iEnumT X.K ta) := by
  refine ⟨fun pins s σ H R I h => Call_ (ld_blt I hg hm boot_enumerate (PyProof.Rows.callWith_type1 (thn (ha.run pos pins s σ H _ I h) fun us s1 ⟨vs, H1, I1, r1, q1⟩ => ?_) hs rfl))⟩
  obtain ⟨a, xs, ex, hq, q⟩ := q1
  subst ex
  cases r1 with
  | cons r rr =>
    cases rr
    cases r
    obtain ⟨its, rv, p', hz⟩ := I1.tuple hq
    have la : a < s1.heap.objs.size := by obtain ⟨_, z, _⟩ := (show s1.heap.IsTuple a its.toArray from p'); exact Heap.lt_size z
    refine enum1_call (begins_tuple a its.toArray) p' fun h' he hit hk => wpAny_pyIter_enum he ?_
    have I2 : Inv X pins σ H1 { s1 with heap := h' } := I1.kept (t' := s1.toks) hk
    refine ⟨s1.heap.objs.size + 1, [s1.heap.objs.size + 1, s1.heap.objs.size], _, _, H1, rfl, I2, turn_enumT a (s1.heap.objs.size + 1) s1.heap.objs.size, ⟨⟨.none, he⟩, ⟨_, hit, rfl, rfl⟩, Nat.succ_ne_self _, Nat.ne_of_lt la, Nat.ne_of_lt (Nat.lt_succ_of_lt la)⟩, fun b hb => ?_, q⟩
    have le : s1.heap.objs.size ≤ b := by
      rcases (by simpa using hb : b = s1.heap.objs.size + 1 ∨ b = s1.heap.objs.size) with z | z
      · rw [z]; exact Nat.le_add_right _ _
      · rw [z]; exact Nat.le_refl _
    exact I1.fpOk le (I1.hok.fresh le)
theorem pi_enumS (hg : Gl X "enumerate") (hm : X.mg "enumerate" = none) (ha : PA X [e] ta) (hs : starEach [e] X.env = [(false, eval e X.env)] := by rfl) : PI X (.Tuple elts kk tpos) (.Call (.Name "enumerate" p) [e] [] pos) (iEnumS ta) := by
  refine ⟨fun pins s σ H R I h => Call_ (ld_blt I hg hm boot_enumerate (PyProof.Rows.callWith_type1 (thn (ha.run pos pins s σ H _ I h) fun us s1 ⟨vs, H1, I1, r1, q1⟩ => ?_) hs rfl))⟩
  obtain ⟨x, ex, q⟩ := q1
  subst ex
  cases r1 with
  | cons r rr =>
    cases rr
    obtain ⟨t, rfl⟩ := r
    refine enum1_call (begins_text x t) trivial fun h' he hit hk => wpAny_pyIter_enum he ?_
    have I2 : Inv X pins σ H1 { s1 with heap := h' } := I1.kept (t' := s1.toks) hk
    refine ⟨s1.heap.objs.size + 1, [s1.heap.objs.size + 1, s1.heap.objs.size], _, _, H1, rfl, I2, turn_enumS x t (s1.heap.objs.size + 1) s1.heap.objs.size, ⟨⟨.none, he⟩, ⟨_, hit, rfl, rfl⟩, Nat.succ_ne_self _⟩, fun b hb => ?_, q⟩
    have le : s1.heap.objs.size ≤ b := by
      rcases (by simpa using hb : b = s1.heap.objs.size + 1 ∨ b = s1.heap.objs.size) with z | z
      · rw [z]; exact Nat.le_add_right _ _
      · rw [z]; exact Nat.le_refl _
    exact I1.fpOk le (I1.hok.fresh le)
end
end CO

/-! CoG: what a loop walks, loops, comprehensions over the data layer. -/
namespace CO
open PySem PySem.Spec PyProof.Rows L2

/-- J yields ds, one by one -/
def ItD (κ : Kx) (J : It) (w : Sn) (ds : List D) : Prop := ∀ w2, Nx w w2 → Same w2.G w2.H →
  (∀ i d, ds[i]? = some d → J.go i w2.H ∧ ∀ x H', J.yld i w2.H x H' → ∃ w3, Nx w2 w3 ∧ w3.H = H' ∧ (∀ σ en, StR κ w2 σ en → StR κ w3 σ en) ∧ Dq w3.G x d) ∧ J.stop ds.length w2.H
def tIOf (κ : Kx) (W : WX) (mi : En → R (List D)) : TI := fun σ H R => ∃ w en, w.H = H ∧ StR κ w σ en ∧ Po κ W w (mi en) fun ds en' w' => ∀ J, ItD κ J w' ds → StR κ w' σ en' → R J w'.H
section
variable {X : Cx} {κ : Kx} {W : WX} {tg e : Expr} {w w0 : Sn} {σ : St} {en : En} {m : En → R Ent} {pos p : Pos}
theorem pi_imp {wi wi' : TI} (h : PI X tg e wi) (f : ∀ σ H R, wi' σ H R → wi σ H R) : PI X tg e wi' := ⟨fun pins s σ H R I hq => h.run pins s σ H R I (f σ H R hq)⟩
theorem pi_or {wi wi' : TI} (h : PI X tg e wi) (h' : PI X tg e wi') : PI X tg e (fun σ H R => wi σ H R ∨ wi' σ H R) := ⟨fun pins s σ H R I hq => hq.elim (h.run pins s σ H R I) (h'.run pins s σ H R I)⟩
/-- data on its way, with the part's equation and the wish where it stood -/
theorem goX {α : Type} {k : D → En → R α} {Q : α → En → Sn → Prop} {Q1 : VK} (n0 : Nx w0 w) (s : StR κ w σ en) (h : Po κ W w0 ((dv m en).bind k) Q)
    (hk : ∀ d en1 v w1, dv m en = .ok d en1 → Nx w w1 → StR κ w1 σ en1 → Dq w1.G v d → Po κ W w0 (k d en1) Q → Q1 v w1.H) : tOf κ W m σ w.H Q1 := by
  refine ⟨w, en, rfl, s, ?_⟩
  unfold dv at h hk
  cases e : m en with
  | ok r en1 =>
    rw [e] at h
    intro w1 n1 v s1 er
    have h' : Po κ W w0 ((toD r en1).bind k) Q := h
    cases e2 : toD r en1 with
    | ok d e3 =>
      rw [e2] at h'
      obtain ⟨rfl, w2, n2, hH, s2, dp⟩ := frz_r s1 er e2
      rw [← hH]
      refine hk d e3 v w2 ?_ (n1.trans n2) s2 dp h'
      rw [e]
      exact e2
    | ex c e3 => cases r <;> cases e2
    | st => rw [e2] at h'; exact h'.elim
  | ex c en1 =>
    rw [e] at h
    exact fun σ' w1 n1 s1 => h σ' w1 (n0.trans n1) s1
  | st =>
    rw [e] at h
    exact h
/-- the items of a sequence -/
def itemsOf : D → Option (List D)
  | .list ds => some ds
  | .tuple ds => some ds
  | .str x => some (x.cps.toList.map fun c => .str ⟨#[c]⟩)
  | _ => none
def iAll (m : En → R Ent) (en : En) : R (List D) := (dv m en).bind fun d e => match itemsOf d with | some ds => .ok ds e | none => .st
theorem itd_list {a : Addr} {xs : List V} {ds : List D} (hq : w.G a = some (.lst xs)) (hd : DqAll w.G xs ds) : ItD κ (Itl κ.K a) w ds := fun w2 n2 su => by
  have h2 : SqL κ.K w2.H a xs := SqL.of (su _ _ (n2.g _ _ hq))
  have d2 := dpa_mono n2.g _ _ hd
  refine ⟨fun i d e => ?_, xs, h2, Nat.le_of_eq (dpa_len hd)⟩
  obtain ⟨v, e1, e2⟩ := dpa_get d2 e
  refine ⟨⟨xs, v, h2, e1⟩, fun x H' y => ?_⟩
  obtain ⟨rfl, y⟩ := y
  have := y xs h2
  rw [e1] at this
  cases this
  exact ⟨w2, Nx.refl _, rfl, fun _ _ z => z, e2⟩
theorem itd_tup {a : Addr} {xs : List V} {ds : List D} (hq : w.G a = some (.tup xs)) (hd : DqAll w.G xs ds) : ItD κ (Itt κ.K a) w ds := fun w2 n2 su => by
  have h2 : SqT κ.K w2.H a xs := SqT.of (su _ _ (n2.g _ _ hq))
  have d2 := dpa_mono n2.g _ _ hd
  refine ⟨fun i d e => ?_, xs, h2, Nat.le_of_eq (dpa_len hd)⟩
  obtain ⟨v, e1, e2⟩ := dpa_get d2 e
  refine ⟨⟨xs, v, h2, e1⟩, fun x H' y => ?_⟩
  obtain ⟨rfl, y⟩ := y
  have := y xs h2
  rw [e1] at this
  cases this
  exact ⟨w2, Nx.refl _, rfl, fun _ _ z => z, e2⟩
theorem itd_str {x : Str} : ItD κ (Its x) w (x.cps.toList.map fun c => .str ⟨#[c]⟩) := fun w2 n2 su => by
  refine ⟨fun i d e => ?_, ?_⟩
  · rw [List.getElem?_map] at e
    cases q : x.cps.toList[i]? with
    | none => rw [q] at e; cases e
    | some c =>
      rw [q] at e
      cases e
      have q2 : x.cps[i]? = some c := by simpa using q
      refine ⟨(Array.getElem?_eq_some_iff.mp q2).1, fun v H' y => ?_⟩
      obtain ⟨rfl, c', y1, rfl⟩ := y
      rw [q2] at y1
      cases y1
      exact ⟨w2, Nx.refl _, rfl, fun _ _ z => z, .str _⟩
  · show x.cps.size ≤ _
    simp
/-- the kind of what is walked -/
theorem di_seq (hK : X.K = κ.K) (h : PE X e (tOf κ W m)) : PI X tg e (tIOf κ W (iAll m)) :=
  pi_imp (pi_or (pi_list h) (pi_or (pi_tup h) (pi_str h))) fun σ H Rj ⟨w, en, hw, s, p⟩ => by
    subst hw
    rw [hK]
    have key : ∀ (Q1 : VK), (∀ d en1 v w1, dv m en = .ok d en1 → Nx w w1 → StR κ w1 σ en1 → Dq w1.G v d → Po κ W w (match itemsOf d with | some ds => R.ok ds en1 | none => .st) (fun ds en' w' => ∀ J, ItD κ J w' ds → StR κ w' σ en' → Rj J w'.H) → Q1 v w1.H) → tOf κ W m σ w.H Q1 := fun Q1 hk => goX (Nx.refl _) s p hk
    cases hd : dv m en with
    | ok d e1 =>
      cases d with
      | list ds =>
        refine .inl (key _ fun d en1 v w1 e n1 s1 d1 p1 => ?_)
        rw [hd] at e
        cases e
        obtain ⟨a, xs, rfl, h1, h2⟩ := dp_list d1
        exact ⟨a, rfl, ⟨xs, SqL.of (s1.wo.su _ _ h1)⟩, p1 w1 n1 _ (itd_list h1 h2) s1⟩
      | tuple ds =>
        refine .inr (.inl (key _ fun d en1 v w1 e n1 s1 d1 p1 => ?_))
        rw [hd] at e
        cases e
        obtain ⟨a, xs, rfl, h1, h2⟩ := dp_tuple d1
        exact ⟨a, rfl, ⟨xs, SqT.of (s1.wo.su _ _ h1)⟩, p1 w1 n1 _ (itd_tup h1 h2) s1⟩
      | str x =>
        refine .inr (.inr (key _ fun d en1 v w1 e n1 s1 d1 p1 => ?_))
        rw [hd] at e
        cases e
        exact ⟨x, dp_str d1, p1 w1 n1 _ itd_str s1⟩
      | _ =>
        refine .inl (key _ fun d en1 v w1 e n1 s1 d1 p1 => ?_)
        rw [hd] at e
        cases e
        exact False.elim p1
    | ex c e1 =>
      refine .inl (key _ fun d en1 v w1 e n1 s1 d1 p1 => ?_)
      rw [hd] at e
      cases e
    | st =>
      refine .inl (key _ fun d en1 v w1 e n1 s1 d1 p1 => ?_)
      rw [hd] at e
      cases e
/-! ### range -/
def rangeL (lo : Int) (n : Nat) : List D := (List.range n).map fun i => .int (lo + (i : Nat))
theorem itd_range {lo : Int} {n : Nat} : ItD κ (Itr lo n) w (rangeL lo n) := fun w2 n2 su => by
  refine ⟨fun i d e => ?_, ?_⟩
  · have hi : i < n := by
      have := (List.getElem?_eq_some_iff.mp e).1
      simpa [rangeL] using this
    refine ⟨hi, fun v H' y => ?_⟩
    obtain ⟨rfl, rfl⟩ := y
    have e' : d = .int (lo + (i : Nat)) := by
      unfold rangeL at e
      rw [List.getElem?_map, List.getElem?_range hi] at e
      exact (Option.some.inj e).symm
    rw [e']
    exact ⟨w2, Nx.refl _, rfl, fun _ _ z => z, .int _⟩
  · show n ≤ _
    simp [rangeL]
def iR1 (m : En → R Ent) (en : En) : R (List D) := (dv m en).bind fun d e => match d with | .int n => if n ≤ 100000 ∧ -100000 ≤ n then .ok (rangeL 0 n.toNat) e else .st | _ => .st
def iR2 (m m' : En → R Ent) (en : En) : R (List D) := (dv m en).bind fun d e => (dv m' e).bind fun d' e' => match d, d' with
  | .int i, .int j => if i ≤ 100000 ∧ -100000 ≤ i ∧ j ≤ 100000 ∧ -100000 ≤ j then .ok (rangeL i (j - i).toNat) e' else .st | _, _ => .st
theorem di_range1 {a : Expr} (hm : X.mg "range" = none) (ha : PE X a (tOf κ W m)) (hg : Gl X "range" := by rfl) (hs : starEach [a] X.env = [(false, eval a X.env)] := by rfl) (hs' : starEach [a] X.env = (false, eval a X.env) :: starEach [] X.env := by rfl) :
    PI X tg (.Call (.Name "range" p) [a] [] pos) (tIOf κ W (iR1 m)) :=
  pi_imp (pi_range1 hg hm (pa_cons ha pa_nil hs') hs) fun σ H Rj ⟨w, en, hw, s, p⟩ => by
    subst hw
    refine goD s p fun d e1 v w1 n1 s1 d1 p1 => ?_
    cases d with
    | int n =>
      have p2 : Po κ W w1 (if n ≤ 100000 ∧ -100000 ≤ n then .ok (rangeL 0 n.toNat) e1 else .st) (fun ds en' w' => ∀ J, ItD κ J w' ds → StR κ w' σ en' → Rj J w'.H) := p1
      by_cases hl : n ≤ 100000 ∧ -100000 ≤ n
      · rw [if_pos hl] at p2
        refine ⟨n, by rw [dp_int d1], ?_, ?_, p2 w1 (Nx.refl _) _ itd_range s1⟩
        · have : (2:Int)^62 = 4611686018427387904 := by decide
          omega
        · have : (2:Int)^62 = 4611686018427387904 := by decide
          omega
      · rw [if_neg hl] at p2
        exact False.elim p2
    | _ => exact False.elim p1
theorem di_range2 {a b : Expr} {m' : En → R Ent} (hm : X.mg "range" = none) (ha : PE X a (tOf κ W m)) (hb : PE X b (tOf κ W m')) (hg : Gl X "range" := by rfl) (hs : starEach [a, b] X.env = [(false, eval a X.env), (false, eval b X.env)] := by rfl) (hs2 : starEach [b] X.env = [(false, eval b X.env)] := by rfl)
    (hs3 : starEach [a, b] X.env = (false, eval a X.env) :: starEach [b] X.env := by rfl) (hs4 : starEach [b] X.env = (false, eval b X.env) :: starEach [] X.env := by rfl) : PI X tg (.Call (.Name "range" p) [a, b] [] pos) (tIOf κ W (iR2 m m')) :=
  pi_imp (pi_range2 hg hm (pa_cons ha (pa_cons hb pa_nil hs4) hs3) hs hs2) fun σ H Rj ⟨w, en, hw, s, p⟩ => by
    subst hw
    unfold iRng2 tCons tNil
    refine goD s p fun d e1 v w1 n1 s1 d1 p1 => ?_
    refine goD s1 p1 fun d' e2 v' w2 n2 s2 d2 p2 => ?_
    cases d with
    | int i =>
      cases d' with
      | int j =>
        have p3 : Po κ W w2 (if i ≤ 100000 ∧ -100000 ≤ i ∧ j ≤ 100000 ∧ -100000 ≤ j then .ok (rangeL i (j - i).toNat) e2 else .st) (fun ds en' w' => ∀ J, ItD κ J w' ds → StR κ w' σ en' → Rj J w'.H) := p2
        by_cases hl : i ≤ 100000 ∧ -100000 ≤ i ∧ j ≤ 100000 ∧ -100000 ≤ j
        · rw [if_pos hl] at p3
          refine ⟨i, j, by rw [dp_int d1, dp_int d2], ?_, p3 w2 (Nx.refl _) _ itd_range s2⟩
          have : (2:Int)^62 = 4611686018427387904 := by decide
          omega
        · rw [if_neg hl] at p3
          exact False.elim p3
      | _ => exact False.elim p2
    | _ => exact False.elim p2
/-! ### enumerate, zip -/
def enumL : Nat → List D → List D
  | _, [] => []
  | i, d :: ds => .tuple [.int (i : Nat), d] :: enumL (i + 1) ds
theorem enumL_len : ∀ (k : Nat) (ds : List D), (enumL k ds).length = ds.length
  | _, [] => rfl
  | k, _ :: ds => by unfold enumL; rw [List.length_cons, List.length_cons, enumL_len (k + 1) ds]
theorem enumL_get : ∀ (k i : Nat) (ds : List D) (z : D), (enumL k ds)[i]? = some z → ∃ d, ds[i]? = some d ∧ z = .tuple [.int ((k + i : Nat)), d]
  | _, _, [], _, h => by unfold enumL at h; simp at h
  | k, 0, d :: ds, z, h => by
    unfold enumL at h
    simp at h
    exact ⟨d, rfl, h.symm⟩
  | k, i + 1, d :: ds, z, h => by
    unfold enumL at h
    rw [List.getElem?_cons_succ] at h
    obtain ⟨d', e1, e2⟩ := enumL_get (k + 1) i ds z h
    refine ⟨d', by rw [List.getElem?_cons_succ]; exact e1, ?_⟩
    rw [e2]
    congr 3
    omega
/-- a pair just made -/
theorem pair_ok {T : Addr} {x y : V} {a b : D} {w2 : Sn} (su : Same w2.G w2.H) (hT : w2.H T = none) (ha : Dq w2.G x a) (hb : Dq w2.G y b) :
    ∃ w3, Nx w2 w3 ∧ w3.H = upd w2.H T (.tup [x, y]) ∧ (∀ σ en, StR κ w2 σ en → StR κ w3 σ en) ∧ Dq w3.G (.ref T) (.tuple [a, b]) :=
  ⟨grow w2 T (.tup [x, y]), grow_nx su hT, rfl, fun _ _ s => s.grow hT, Dq.tup upd_same (dpa_mono (upG (su.free hT)) _ _ (.cons ha (.cons hb .nil)))⟩
theorem itd_enum {a : Addr} {xs : List V} {ds : List D} (hq : w.G a = some (.lst xs)) (hd : DqAll w.G xs ds) : ItD κ (Ite κ.K a) w (enumL 0 ds) := fun w2 n2 su => by
  have h2 : SqL κ.K w2.H a xs := SqL.of (su _ _ (n2.g _ _ hq))
  have d2 := dpa_mono n2.g _ _ hd
  refine ⟨fun i z e => ?_, xs, h2, by rw [enumL_len]; exact Nat.le_of_eq (dpa_len hd)⟩
  obtain ⟨d, e0, rfl⟩ := enumL_get 0 i ds z e
  obtain ⟨v, e1, e2⟩ := dpa_get d2 e0
  refine ⟨⟨xs, v, h2, e1⟩, fun x H' y => ?_⟩
  obtain ⟨T, x', rfl, hT, rfl, y⟩ := y
  have := y xs h2
  rw [e1] at this
  cases this
  rw [Nat.zero_add]
  exact pair_ok su hT (.int _) e2
theorem itd_enumT {a : Addr} {xs : List V} {ds : List D} (hq : w.G a = some (.tup xs)) (hd : DqAll w.G xs ds) : ItD κ (IteT κ.K a) w (enumL 0 ds) := fun w2 n2 su => by
  have h2 : SqT κ.K w2.H a xs := SqT.of (su _ _ (n2.g _ _ hq))
  have d2 := dpa_mono n2.g _ _ hd
  refine ⟨fun i z e => ?_, xs, h2, by rw [enumL_len]; exact dpa_len hd⟩
  obtain ⟨d, e0, rfl⟩ := enumL_get 0 i ds z e
  obtain ⟨v, e1, e2⟩ := dpa_get d2 e0
  refine ⟨⟨xs, v, h2, e1⟩, fun x H' y => ?_⟩
  obtain ⟨T, x', rfl, hT, rfl, y⟩ := y
  have := y xs h2
  rw [e1] at this
  cases this
  rw [Nat.zero_add]
  exact pair_ok su hT (.int _) e2
theorem itd_enumS {x : Str} : ItD κ (IteS x) w (enumL 0 (x.cps.toList.map fun c => .str ⟨#[c]⟩)) := fun w2 n2 su => by
  refine ⟨fun i z e => ?_, by rw [enumL_len]; show _ = x.cps.size; simp⟩
  obtain ⟨d, e0, rfl⟩ := enumL_get 0 i _ z e
  rw [List.getElem?_map] at e0
  cases q : x.cps.toList[i]? with
  | none => rw [q] at e0; cases e0
  | some c =>
    rw [q] at e0
    cases e0
    have q2 : x.cps[i]? = some c := by simpa using q
    refine ⟨(Array.getElem?_eq_some_iff.mp q2).1, fun v H' y => ?_⟩
    obtain ⟨T, c', rfl, hT, rfl, y⟩ := y
    rw [q2] at y
    cases y
    rw [Nat.zero_add]
    exact pair_ok su hT (.int _) (.str _)
def iEn (m : En → R Ent) (en : En) : R (List D) := (dv m en).bind fun d e => match itemsOf d with | some ds => .ok (enumL 0 ds) e | none => .st
theorem di_enum {elts : List Expr} {kk : Nat} {tpos : Pos} (hK : X.K = κ.K) (hm : X.mg "enumerate" = none) (h : PE X e (tOf κ W m)) (hg : Gl X "enumerate" := by rfl) (hs : starEach [e] X.env = [(false, eval e X.env)] := by rfl) (hs' : starEach [e] X.env = (false, eval e X.env) :: starEach [] X.env := by rfl) :
    PI X (.Tuple elts kk tpos) (.Call (.Name "enumerate" p) [e] [] pos) (tIOf κ W (iEn m)) :=
  pi_imp (pi_or (pi_enum hg hm (pa_cons h pa_nil hs') hs) (pi_or (pi_enumT hg hm (pa_cons h pa_nil hs') hs) (pi_enumS hg hm (pa_cons h pa_nil hs') hs))) fun σ H Rj ⟨w, en, hw, s, p⟩ => by
    subst hw
    rw [hK]
    have key : ∀ (Q1 : VK), (∀ d en1 v w1, dv m en = .ok d en1 → Nx w w1 → StR κ w1 σ en1 → Dq w1.G v d → Po κ W w (match itemsOf d with | some ds => R.ok (enumL 0 ds) en1 | none => .st) (fun ds en' w' => ∀ J, ItD κ J w' ds → StR κ w' σ en' → Rj J w'.H) → Q1 v w1.H) → tOf κ W m σ w.H Q1 := fun Q1 hk => goX (Nx.refl _) s p hk
    cases hd : dv m en with
    | ok d e1 =>
      cases d with
      | list ds =>
        refine .inl (key _ fun d en1 v w1 e n1 s1 d1 p1 => ?_)
        rw [hd] at e
        cases e
        obtain ⟨a, xs, rfl, h1, h2⟩ := dp_list d1
        exact ⟨a, xs, rfl, SqL.of (s1.wo.su _ _ h1), p1 w1 n1 _ (itd_enum h1 h2) s1⟩
      | tuple ds =>
        refine .inr (.inl (key _ fun d en1 v w1 e n1 s1 d1 p1 => ?_))
        rw [hd] at e
        cases e
        obtain ⟨a, xs, rfl, h1, h2⟩ := dp_tuple d1
        exact ⟨a, xs, rfl, SqT.of (s1.wo.su _ _ h1), p1 w1 n1 _ (itd_enumT h1 h2) s1⟩
      | str x =>
        refine .inr (.inr (key _ fun d en1 v w1 e n1 s1 d1 p1 => ?_))
        rw [hd] at e
        cases e
        exact ⟨x, by rw [dp_str d1], p1 w1 n1 _ itd_enumS s1⟩
      | _ =>
        refine .inl (key _ fun d en1 v w1 e n1 s1 d1 p1 => ?_)
        rw [hd] at e
        cases e
        exact False.elim p1
    | ex c e1 =>
      refine .inl (key _ fun d en1 v w1 e n1 s1 d1 p1 => ?_)
      rw [hd] at e
      cases e
    | st =>
      refine .inl (key _ fun d en1 v w1 e n1 s1 d1 p1 => ?_)
      rw [hd] at e
      cases e
def zipL : List D → List D → List D
  | a :: as, b :: bs => .tuple [a, b] :: zipL as bs
  | _, _ => []
theorem zipL_get : ∀ (i : Nat) (as bs : List D) (z : D), (zipL as bs)[i]? = some z → ∃ a b, as[i]? = some a ∧ bs[i]? = some b ∧ z = .tuple [a, b]
  | 0, a :: as, b :: bs, z, h => ⟨a, b, rfl, rfl, by unfold zipL at h; simpa using h.symm⟩
  | i + 1, a :: as, b :: bs, z, h => by
    unfold zipL at h
    rw [List.getElem?_cons_succ] at h
    simpa using zipL_get i as bs z h
  | _, [], _, z, h => by unfold zipL at h; simp at h
  | _, _ :: _, [], z, h => by unfold zipL at h; simp at h
theorem zipL_len : ∀ (as bs : List D), as.length ≤ (zipL as bs).length ∨ bs.length ≤ (zipL as bs).length
  | a :: as, b :: bs => by
    unfold zipL
    rcases zipL_len as bs with h | h
    · exact .inl (Nat.succ_le_succ h)
    · exact .inr (Nat.succ_le_succ h)
  | [], _ => .inl (Nat.zero_le _)
  | _ :: _, [] => .inr (Nat.zero_le _)
theorem itd_zipT {a b : Addr} {xs ys : List V} {ds es : List D} (hq : w.G a = some (.tup xs)) (hd : DqAll w.G xs ds) (hq' : w.G b = some (.tup ys)) (hd' : DqAll w.G ys es) : ItD κ (RZ.ItzT κ.K a b) w (zipL ds es) := fun w2 n2 su => by
  have h2 : SqT κ.K w2.H a xs := SqT.of (su _ _ (n2.g _ _ hq))
  have h3 : SqT κ.K w2.H b ys := SqT.of (su _ _ (n2.g _ _ hq'))
  have d2 := dpa_mono n2.g _ _ hd
  have d3 := dpa_mono n2.g _ _ hd'
  refine ⟨fun i z e => ?_, xs, ys, h2, h3, by rw [dpa_len hd, dpa_len hd']; exact zipL_len ds es⟩
  obtain ⟨x, y, e0, f0, rfl⟩ := zipL_get i ds es z e
  obtain ⟨v, e1, e2⟩ := dpa_get d2 e0
  obtain ⟨u, f1, f2⟩ := dpa_get d3 f0
  refine ⟨⟨xs, ys, v, u, h2, h3, e1, f1⟩, fun x H' y => ?_⟩
  obtain ⟨T, x', y', rfl, hT, rfl, z1, z2⟩ := y
  have a1 := z1 xs h2
  have a2 := z2 ys h3
  rw [e1] at a1
  rw [f1] at a2
  cases a1
  cases a2
  exact pair_ok su hT e2 f2
def iZp (m m' : En → R Ent) (en : En) : R (List D) := (dv m en).bind fun d e => (dv m' e).bind fun d' e' => match d, d' with
  | .tuple xs, .tuple ys => .ok (zipL xs ys) e' | _, _ => .st
theorem di_zip {e2 : Expr} {m' : En → R Ent} {elts : List Expr} {kk : Nat} {tpos : Pos} (hK : X.K = κ.K) (hm : X.mg "zip" = none) (h : PE X e (tOf κ W m)) (h' : PE X e2 (tOf κ W m')) (hg : Gl X "zip" := by rfl) (hs : starEach [e, e2] X.env = (false, eval e X.env) :: starEach [e2] X.env := by rfl)
    (hs' : starEach [e2] X.env = (false, eval e2 X.env) :: starEach [] X.env := by rfl) (hpl : (backTo pos (starEach [e2] X.env)).any (·.1) = false := by rfl) : PI X (.Tuple elts kk tpos) (.Call (.Name "zip" p) [e, e2] [] pos) (tIOf κ W (iZp m m')) :=
  pi_imp (RZ.pi_zipA hg hm (pa_cons h (pa_cons h' pa_nil hs') hs) hs hpl) fun σ H Rj ⟨w, en, hw, s, p⟩ => by
    subst hw
    unfold RZ.iZipA tCons tNil
    refine goD s p fun d e1 v w1 n1 s1 d1 p1 => ?_
    refine goD s1 p1 fun d' e2 v' w2 n2 s2 d2 p2 => ?_
    cases d with
    | tuple xs =>
      cases d' with
      | tuple ys =>
        obtain ⟨a, vs, rfl, h1, h2⟩ := dp_tuple (dp_mono n2.g _ _ d1)
        obtain ⟨b, us, rfl, h3, h4⟩ := dp_tuple d2
        refine ⟨a, b, vs, us, rfl, .inr ⟨SqT.of (s2.wo.su _ _ h1), SqT.of (s2.wo.su _ _ h3), ?_⟩⟩
        rw [hK]
        exact p2 w2 (Nx.refl _) _ (itd_zipT h1 h2 h3 h4) s2
      | _ => exact False.elim p2
    | _ => exact False.elim p2
end

/-! ### for -/
def forGo (g : Ent → En → R Unit) (b : En → R Fl) : List D → En → R Fl
  | [], e => .ok .nx e
  | d :: ds, e => (g (.sh d) e).bind fun _ e1 => (b e1).bind fun f e2 => match f with
    | .nx => forGo g b ds e2
    | .ct => forGo g b ds e2
    | .bk => .ok .nx e2
    | .rt r => .ok (.rt r) e2
def sFor (mi : En → R (List D)) (g : Ent → En → R Unit) (b : En → R Fl) (en : En) : R Fl := (mi en).bind fun ds e => forGo g b ds e
def whileGo (t : En → R Bool) (b : En → R Fl) : Nat → En → R Fl
  | 0, _ => .st
  | n + 1, e => (t e).bind fun k e1 => if k = true then (b e1).bind fun f e2 => match f with
    | .nx => whileGo t b n e2
    | .ct => whileGo t b n e2
    | .bk => .ok .nx e2
    | .rt r => .ok (.rt r) e2
    else .ok .nx e1
def sWhile (t : En → R Bool) (b : En → R Fl) (en : En) : R Fl := whileGo t b 100000 en
section
variable {X : Cx} {κ : Kx} {W : WX} {tg iter : Expr} {body : List Stmt} {pos : Pos} {mi : En → R (List D)} {g : Ent → En → R Unit} {b : En → R Fl} {t : En → R Bool}
theorem ds_for {is : List Nat} (hp : PassesOwn (model X.prog X.w) X.A X.env X.xe) (hc : X.calm = true) (hi : PI X tg iter (tIOf κ W mi)) (hg : PG X tg (tGv κ W g is)) (hb : PSs X body (tSOf κ W b)) (hs : ∀ x, foldedSetIterable iter X.env x = pure x := by intro _; rfl) :
    PS X (.For tg iter body [] pos) (tSOf κ W (sFor mi g b)) :=
  ps_imp (ps_for hp hc hi (dg_of hg) hb hs) fun Dn σ H ⟨w, en, hw, s, p⟩ => by
    subst hw
    refine ⟨w, en, rfl, s, (Po.bind_of (f := fun ds e => forGo g b ds e) p).imp fun ds e1 w1 n1 p1 J hJ s1 => ?_⟩
    refine ⟨fun i n σ' H' => n = ds.length - i ∧ i ≤ ds.length ∧ ∃ w e, w.H = H' ∧ Nx w1 w ∧ StR κ w σ' e ∧ Po κ W w (forGo g b (ds.drop i) e) (endS κ Dn), ⟨_, rfl, Nat.zero_le _, w1, e1, rfl, Nx.refl _, s1, p1⟩, ?_⟩
    rintro i n σ' H' ⟨rfl, hi, w2, e2, rfl, n2, s2, p2⟩
    obtain ⟨hgo, hst⟩ := hJ w2 n2 s2.wo.su
    by_cases hlt : i < ds.length
    · obtain ⟨h1, h2⟩ := hgo i ds[i] (List.getElem?_eq_getElem hlt)
      refine .inr ⟨h1, fun σ3 H3 => ∃ w e, w.H = H3 ∧ Nx w1 w ∧ StR κ w σ3 e ∧ Po κ W w (forGo g b (ds.drop (i + 1)) e) (endS κ Dn), fun σ3 H3 q => ⟨ds.length - (i + 1), by omega, rfl, hlt, q⟩, fun x H3 hy => ?_⟩
      obtain ⟨w3, n3, rfl, st3, d3⟩ := h2 x H3 hy
      rw [List.drop_eq_getElem_cons hlt] at p2
      have p3 : Po κ W w3 ((g (.sh ds[i]) e2).bind fun _ e3 => (b e3).bind fun f e4 => match f with | .nx => forGo g b (ds.drop (i + 1)) e4 | .ct => forGo g b (ds.drop (i + 1)) e4 | .bk => R.ok Fl.nx e4 | .rt r => R.ok (Fl.rt r) e4) (endS κ Dn) := p2.mono n3
      refine ⟨w3, e2, .sh ds[i], rfl, st3 _ _ s2, d3, (Po.bind_of p3).imp fun _ e4 w4 n4 p4 σ4 s4 => ⟨w4, e4, rfl, s4, (Po.bind_of p4).imp fun f e5 w5 n5 p5 => ?_⟩⟩
      have nn := ((n2.trans n3).trans n4).trans n5
      cases f with
      | nx => exact fun σ5 s5 => ⟨w5, e5, rfl, nn, s5, p5⟩
      | ct => exact fun σ5 s5 => ⟨w5, e5, rfl, nn, s5, p5⟩
      | bk => exact p5 w5 (Nx.refl _)
      | rt r => exact p5 w5 (Nx.refl _)
    · have e : i = ds.length := by omega
      subst e
      rw [List.drop_length] at p2
      exact .inl ⟨hst, p2 w2 (Nx.refl _) _ s2⟩
theorem ds_while {c : Expr} (hp : PassesOwn (model X.prog X.w) X.A X.env X.xe) (hc : PT X c (tTOf κ W t)) (hb : PSs X body (tSOf κ W b)) : PS X (.While c body [] pos) (tSOf κ W (sWhile t b)) :=
  ps_imp (ps_while hp hc hb) fun Dn σ H ⟨w, en, hw, s, p⟩ => by
    subst hw
    refine ⟨fun n σ' H' => ∃ w e, w.H = H' ∧ StR κ w σ' e ∧ Po κ W w (whileGo t b n e) (endS κ Dn), ⟨_, w, en, rfl, s, p⟩, ?_⟩
    rintro n σ' H' ⟨w1, e1, rfl, s1, p1⟩
    cases n with
    | zero => exact False.elim p1
    | succ n =>
      refine ⟨w1, e1, rfl, s1, (Po.bind_of (show Po κ W w1 ((t e1).bind _) _ from p1)).imp fun k e2 w2 n2 p2 s2 => ?_⟩
      cases k with
      | true =>
        rw [if_pos rfl] at p2 ⊢
        refine ⟨fun σ3 H3 => ∃ w e, w.H = H3 ∧ StR κ w σ3 e ∧ Po κ W w (whileGo t b n e) (endS κ Dn), fun σ3 H3 q => ⟨n, Nat.lt_succ_self n, q⟩, w2, e2, rfl, s2, (Po.bind_of p2).imp fun f e3 w3 n3 p3 => ?_⟩
        cases f with
        | nx => exact fun σ5 s5 => ⟨w3, e3, rfl, s5, p3⟩
        | ct => exact fun σ5 s5 => ⟨w3, e3, rfl, s5, p3⟩
        | bk => exact p3 w3 (Nx.refl _)
        | rt r => exact p3 w3 (Nx.refl _)
      | false =>
        rw [if_neg Bool.false_ne_true] at p2 ⊢
        exact p2 w2 (Nx.refl _) _ s2
end
end CO

/-! CoH: comprehensions over the data layer. -/
namespace CO
open PySem PySem.Spec PyProof.Rows L2

/-- within a block: nothing is raised -/
abbrev NoW : WX := fun _ _ _ _ => False
def noEx {α : Type} (x : R α) : R α := match x with | .ok a e => .ok a e | _ => .st
def wipeE (e : En) : List Nat → En
  | [] => e
  | v :: vs => (wipeE e vs).set v .no
/-- what a name keeps through a block of the same name -/
def keepE : Ent → Ent
  | .sh d => .sh d
  | .wr j => .wr j
  | .sc ns => .sc ns
  | _ => .no
def restE (e : En) (e0 : En) : List Nat → En
  | [] => e
  | v :: vs => (restE e e0 vs).set v (keepE (e0.get v))
def compGo (g : Ent → En → R Unit) (t : En → R Bool) (m : En → R Ent) (vs : List Nat) : List D → En → List D → R (List D)
  | [], e, acc => .ok acc e
  | d :: ds, e, acc => if acc.length < lim then (noEx (g (.sh d) (wipeE e vs))).bind fun _ e1 => (noEx (t e1)).bind fun b e2 =>
      if b = true then (noEx (dv m e2)).bind fun x e3 => compGo g t m vs ds e3 (acc ++ [x]) else compGo g t m vs ds e2 acc
    else .st
def eLc (mi : En → R (List D)) (g : Ent → En → R Unit) (t : En → R Bool) (m : En → R Ent) (vs : List Nat) (en : En) : R Ent :=
  (mi en).bind fun ds e => (compGo g t m vs ds e []).bind fun acc e' => .ok (.ow acc) (restE (wipeE e' vs) e vs)
def tYesM (en : En) : R Bool := .ok true en
section
variable {X : Cx} {κ : Kx} {W : WX} {w w0 : Sn} {σ : St} {en : En} {m : En → R Ent} {t : En → R Bool}
theorem dpts_nil : PTs X [] (tTOf κ W tYesM) := by
  refine ⟨fun pins s σ H Q I h => pts_nil.run pins s σ H Q I ?_⟩
  obtain ⟨w, en, hw, st, p⟩ := h
  subst hw
  exact p w (Nx.refl _) st
theorem dpts_one {c : Expr} (h : PT X c (tTOf κ W t)) : PTs X [c] (tTOf κ W t) := pts_one h
theorem wipeE_get {e : En} : ∀ {vs : List Nat} {i : Nat}, (i ∈ vs → (wipeE e vs).get i = .no) ∧ (i ∉ vs → (wipeE e vs).get i = e.get i)
  | [], i => And.intro (fun h => absurd h (by simp)) (fun _ => rfl)
  | v :: vs, i => by
    obtain ⟨ih1, ih2⟩ := wipeE_get (e := e) (vs := vs) (i := i)
    unfold wipeE
    by_cases hv : v = i
    · subst hv
      refine ⟨fun _ => ?_, fun h => absurd List.mem_cons_self h⟩
      rcases get_set_same (en := wipeE e vs) (i := v) (e := .no) with z | z <;> exact z
    · rw [get_set_ne hv]
      refine ⟨fun h => ih1 ((List.mem_cons.mp h).resolve_left (Ne.symm hv)), fun h => ih2 fun z => h (List.mem_cons_of_mem _ z)⟩
theorem wipeE_wd (e : En) : ∀ vs : List Nat, (wipeE e vs).wd = e.wd
  | [] => rfl
  | v :: vs => wipeE_wd e vs
theorem wipeE_len (e : En) : ∀ vs : List Nat, (wipeE e vs).sl.length = e.sl.length
  | [] => rfl
  | v :: vs => by
    show ((wipeE e vs).sl.set v .no).length = _
    rw [List.length_set, wipeE_len e vs]
theorem restE_wd (e e0 : En) : ∀ vs : List Nat, (restE e e0 vs).wd = e.wd
  | [] => rfl
  | v :: vs => restE_wd e e0 vs
theorem restE_len (e e0 : En) : ∀ vs : List Nat, (restE e e0 vs).sl.length = e.sl.length
  | [] => rfl
  | v :: vs => by
    show ((restE e e0 vs).sl.set v _).length = _
    rw [List.length_set, restE_len e e0 vs]
theorem restE_get {e e0 : En} : ∀ {vs : List Nat} {i : Nat}, (i ∈ vs → (restE e e0 vs).get i = keepE (e0.get i) ∨ (restE e e0 vs).get i = .no) ∧ (i ∉ vs → (restE e e0 vs).get i = e.get i)
  | [], i => And.intro (fun h => absurd h (by simp)) (fun _ => rfl)
  | v :: vs, i => by
    obtain ⟨ih1, ih2⟩ := restE_get (e := e) (e0 := e0) (vs := vs) (i := i)
    unfold restE
    by_cases hv : v = i
    · subst hv
      exact ⟨fun _ => get_set_same, fun h => absurd List.mem_cons_self h⟩
    · rw [get_set_ne hv]
      refine ⟨fun h => ih1 ((List.mem_cons.mp h).resolve_left (Ne.symm hv)), fun h => ih2 fun z => h (List.mem_cons_of_mem _ z)⟩
theorem gd_wipe {σ : St} {vs : List Nat} {i : Nat} (h : i ∉ vs) : (wipe σ vs).getD i none = σ.getD i none := by
  rw [List.getD_eq_getElem?_getD, List.getD_eq_getElem?_getD, wipe_out h]
theorem wipe_idem {σ : St} : ∀ {vs : List Nat} {i : Nat}, i ∈ vs → (wipe σ vs).getD i none = none
  | v :: vs, i, h => by
    unfold wipe
    by_cases hv : v = i
    · subst hv
      by_cases hl : v < (wipe σ vs).length
      · exact gd_same hl
      · rw [List.getD_eq_getElem?_getD, List.getElem?_eq_none (by rw [List.length_set]; omega)]; rfl
    · rw [gd_ne hv]
      exact wipe_idem ((List.mem_cons.mp h).resolve_left (Ne.symm hv))
theorem StR.wip {vs : List Nat} (s : StR κ w σ en) : StR κ w (L2.wipe σ vs) (wipeE en vs) := by
  refine ⟨by rw [wipeE_wd]; exact s.wo, by rw [wipeE_len, wipe_length]; exact s.ln, fun i => ?_⟩
  by_cases hi : i ∈ vs
  · exact .inl (wipeE_get.1 hi)
  · rw [wipeE_get.2 hi, gd_wipe hi]
    exact s.sl i
/-- a block's state seen from any state alike but in the block's names -/
theorem StR.rewipe {σ2 : St} {vs : List Nat} (s : StR κ w σ2 en) (h : L2.wipe σ2 vs = L2.wipe σ vs) : StR κ w (L2.wipe σ vs) (wipeE en vs) := by
  rw [← h]
  exact s.wip
theorem keepE_ent {v : V} {ix : Ix} {r : Ent} {w' : Sn} (h : EntR κ w ix v r) (n : Nx w w') : EntR κ w' ix v (keepE r) := by
  cases r with
  | no => trivial
  | sh d => exact dp_mono n.g _ _ h
  | ow ds => trivial
  | dk kvs => trivial
  | wr j =>
    obtain ⟨p, h1, h2⟩ := h
    exact ⟨p, h1, n.ad h2⟩
  | sc =>
    obtain ⟨a, h1, h2⟩ := h
    exact ⟨a, h1, n.g.seq h2⟩
  | fz kvs => trivial
theorem StR.rest {w' : Sn} {e0 : En} {vs : List Nat} (s0 : StR κ w σ e0) (n : Nx w w') (s : StR κ w' (L2.wipe σ vs) en) : StR κ w' σ (restE en e0 vs) := by
  refine ⟨by rw [restE_wd]; exact s.wo, by rw [restE_len, s.ln, wipe_length], fun i => ?_⟩
  by_cases hi : i ∈ vs
  · rcases (restE_get (e := en) (e0 := e0) (vs := vs) (i := i)).1 hi with z | z
    · rw [z]
      rcases s0.sl i with q | ⟨v, q1, q2⟩
      · rw [q]; exact .inl rfl
      · exact .inr ⟨v, q1, keepE_ent q2 n⟩
    · exact .inl z
  · rw [restE_get.2 hi, ← gd_wipe (σ := σ) hi]
    exact s.sl i
/-- an object that nobody owns, not of the heap that stays, may turn -/
theorem EntR.updFree {p : Addr} {o : HO} {ix : Ix} {v : V} {r : Ent} (hO : w.O p = none) (h : EntR κ w ix v r) : EntR κ { w with H := upd w.H p o } ix v r := by
  have ne : ∀ {q : Addr} {jx : Ix}, w.O q = some jx → q ≠ p := fun e z => by rw [z, hO] at e; cases e
  cases r with
  | no => trivial
  | sh d => exact h
  | ow ds =>
    obtain ⟨q, ys, e1, e2, e3, e4⟩ := h
    exact ⟨q, ys, e1, e2, (upd_ne (ne e2)).trans e3, e4⟩
  | dk kvs =>
    obtain ⟨q, ys, e1, e2, e3, e4⟩ := h
    exact ⟨q, ys, e1, e2, (upd_ne (ne e2)).trans e3, e4⟩
  | wr j => exact h
  | sc => exact h
  | fz kvs => exact h
theorem StR.updFree {p : Addr} {o : HO} (s : StR κ w σ en) (hO : w.O p = none) (hG : w.G p = none) : StR κ { w with H := upd w.H p o } σ en := by
  have ne : ∀ {q : Addr} {jx : Ix}, w.O q = some jx → q ≠ p := fun e z => by rw [z, hO] at e; cases e
  refine ⟨⟨s.wo.fr, fun b u e => ?_, s.wo.wl, fun j ob q e1 e2 => ?_⟩, s.ln, fun i => ?_⟩
  · have e' : w.G b = some u := e
    have nb : b ≠ p := fun z => by rw [z, hG] at e'; cases e'
    exact (upd_ne nb).trans (s.wo.su b u e')
  · have x := s.wo.wd j ob q e1 e2
    cases ob with
    | tn k => exact ⟨x.1, (upd_ne (ne x.1)).trans x.2⟩
    | tb g rows kept =>
      obtain ⟨dx, l, vg, rs, a1, a2, a3, a4, a5, a6, a7, a8⟩ := x
      exact ⟨dx, l, vg, rs, a1, a2, a3, (upd_ne (ne a1)).trans a4, (upd_ne (ne a2)).trans a5, (upd_ne (ne a3)).trans a6, a7, a8⟩
  · rcases s.sl i with q | ⟨v, q1, q2⟩
    · exact .inl q
    · exact .inr ⟨v, q1, q2.updFree hO⟩
/-- it becomes the result's -/
theorem EntR.own {p : Addr} {ix jx : Ix} {v : V} {r : Ent} (hO : w.O p = none) (h : EntR κ w ix v r) : EntR κ { w with O := fun b => if b = p then some jx else w.O b } ix v r := by
  have ne : ∀ {q : Addr} {kx : Ix}, w.O q = some kx → q ≠ p := fun e z => by rw [z, hO] at e; cases e
  cases r with
  | no => trivial
  | sh d => exact h
  | ow ds =>
    obtain ⟨q, ys, e1, e2, e3, e4⟩ := h
    exact ⟨q, ys, e1, (if_neg (ne e2)).trans e2, e3, e4⟩
  | dk kvs =>
    obtain ⟨q, ys, e1, e2, e3, e4⟩ := h
    exact ⟨q, ys, e1, (if_neg (ne e2)).trans e2, e3, e4⟩
  | wr j => exact h
  | sc => exact h
  | fz kvs => exact h
theorem StR.own {p : Addr} {jx : Ix} (s : StR κ w σ en) (hO : w.O p = none) (hG : w.G p = none) : StR κ { w with O := fun b => if b = p then some jx else w.O b } σ en := by
  have ne : ∀ {q : Addr} {kx : Ix}, w.O q = some kx → q ≠ p := fun e z => by rw [z, hO] at e; cases e
  have up : ∀ {q : Addr} {kx : Ix}, w.O q = some kx → (if q = p then some jx else w.O q) = some kx := fun e => (if_neg (ne e)).trans e
  refine ⟨⟨fun q i e => ?_, s.wo.su, s.wo.wl, fun j ob q e1 e2 => ?_⟩, s.ln, fun i => ?_⟩
  · by_cases z : q = p
    · rw [z]; exact hG
    · have e' : (if q = p then some jx else w.O q) = some i := e
      rw [if_neg z] at e'
      exact s.wo.fr q i e'
  · have x := s.wo.wd j ob q e1 e2
    cases ob with
    | tn k => exact ⟨up x.1, x.2⟩
    | tb g rows kept =>
      obtain ⟨dx, l, vg, rs, a1, a2, a3, a4, a5, a6, a7, a8⟩ := x
      exact ⟨dx, l, vg, rs, up a1, up a2, up a3, a4, a5, a6, a7, a8⟩
  · rcases s.sl i with q | ⟨v, q1, q2⟩
    · exact .inl q
    · exact .inr ⟨v, q1, q2.own hO⟩
/-! the end's wish stays where it stood -/
theorem bind_assoc {α β γ : Type} {x : R α} {f : α → En → R β} {k : β → En → R γ} : (x.bind f).bind k = x.bind fun a e => (f a e).bind k := by
  cases x <;> rfl
theorem wipe_wipe {σ : St} {vs : List Nat} : L2.wipe (L2.wipe σ vs) vs = L2.wipe σ vs := by
  apply List.ext_getElem?
  intro k
  by_cases hk : k ∈ vs
  · rw [wipe_in hk, wipe_in hk, wipe_length]
  · rw [wipe_out hk]
theorem no_bind {α β : Type} {x : R α} {f : α → En → R β} {Q : β → En → Sn → Prop} (h : Po κ W w0 ((noEx x).bind f) Q) : ∃ a e, x = .ok a e ∧ Po κ W w0 (f a e) Q := by
  cases x with
  | ok a e => exact ⟨a, e, rfl, h⟩
  | ex c e => exact False.elim h
  | st => exact False.elim h
theorem po_of {α : Type} {x : R α} {a : α} {e : En} {Q : α → En → Sn → Prop} (h : x = .ok a e) (q : ∀ w', Nx w w' → Q a e w') : Po κ W w x Q := by
  rw [h]
  exact q
theorem dv_ok {e1 : En} {d : D} (h : dv m en = .ok d e1) : ∃ r, m en = .ok r e1 ∧ toD r e1 = .ok d e1 := by
  unfold dv at h
  cases e : m en with
  | ok r e2 =>
    rw [e] at h
    have h' : toD r e2 = .ok d e1 := h
    have : e2 = e1 := by cases r <;> first | (cases h'; rfl) | cases h'
    subst this
    exact ⟨r, rfl, h'⟩
  | ex c e2 => rw [e] at h; cases h
  | st => rw [e] at h; cases h
theorem tLc_of {mi : En → R (List D)} {g : Ent → En → R Unit} {is vs : List Nat} {H : Hp} {Q : VK} (hv : ∀ i ∈ is, i ∈ vs) (q : tOf κ W (eLc mi g t m vs) σ H Q) :
    tLc (tIOf κ W mi) (tGv κ NoW g is) (tTOf κ NoW t) (tOf κ NoW m) vs σ H Q := by
  obtain ⟨w, en, hw, s, p⟩ := q
  subst hw
  refine ⟨w, en, rfl, s, (Po.bind_of p).imp fun ds e0 w1 n1 p1 J hJ s1 Da hDn => ?_⟩
  -- the new list, owned by nobody
  have hG1 : w1.G Da = none := s1.wo.su.free hDn
  have hst : ∀ {e acc}, Po κ W w1 ((compGo g t m vs ds e acc).bind fun acc e' => .ok (Ent.ow acc) (restE (wipeE e' vs) e0 vs)) (Qe κ σ Q) → True := fun _ => trivial
  let wN : Sn := { w1 with H := upd w1.H Da (.lst []), O := letO w1.O Da }
  have nN : Nx w1 wN := ⟨List.prefix_refl _, Same.refl _, fun x u h1 h2 => by
    have ne : x ≠ Da := ne_of_none h1 hDn
    exact ⟨(upd_ne ne).trans h1, rfl, (letO_ne ne).trans h2⟩⟩
  have sN : StR κ wN (L2.wipe σ vs) (wipeE e0 vs) := by
    have s2 := (s1.newR (o := .lst []) hDn)
    have s3 : StR κ wN σ e0 := by
      have := s2.letR (p := Da) newR_Op
      have e : ({ newR w1 Da (.lst []) with O := letO (newR w1 Da (.lst [])).O Da } : Sn) = wN := by
        show ({ newR w1 Da (.lst []) with O := letO (newR w1 Da (.lst [])).O Da } : Sn) = { w1 with H := upd w1.H Da (.lst []), O := letO w1.O Da }
        have : letO (newR w1 Da (.lst [])).O Da = letO w1.O Da := by
          funext b
          unfold letO
          by_cases hb : b = Da
          · rw [if_pos hb, if_pos hb]
          · rw [if_neg hb, if_neg hb]
            exact newR_O hb
        rw [this]; rfl
      rw [e] at this
      exact this
    exact s3.wip
  refine ⟨fun i n H' => n = ds.length - i ∧ i ≤ ds.length ∧ ∃ w e xs acc, w.H = H' ∧ Nx w1 w ∧ StR κ w (L2.wipe σ vs) (wipeE e vs) ∧ w.O Da = none ∧ w.G Da = none ∧ w.H Da = some (.lst xs) ∧ DqAll w.G xs acc ∧
      Po κ W w1 ((compGo g t m vs (ds.drop i) e acc).bind fun acc e' => .ok (Ent.ow acc) (restE (wipeE e' vs) e0 vs)) (Qe κ σ Q), ⟨_, rfl, Nat.zero_le _, wN, e0, [], [], rfl, nN, sN, letO_same, hG1, upd_same, .nil, p1⟩, ?_⟩
  rintro i n H' ⟨rfl, hi, w2, e, xs, acc, rfl, n2, s2, hO, hG, hH, hacc, p2⟩
  obtain ⟨hgo, hstop⟩ := hJ w2 n2 s2.wo.su
  by_cases hlt : i < ds.length
  · obtain ⟨h1, h2⟩ := hgo i ds[i] (List.getElem?_eq_getElem hlt)
    refine .inr ⟨h1, fun H3 => ∃ w e xs acc, w.H = H3 ∧ Nx w1 w ∧ StR κ w (L2.wipe σ vs) (wipeE e vs) ∧ w.O Da = none ∧ w.G Da = none ∧ w.H Da = some (.lst xs) ∧ DqAll w.G xs acc ∧
      Po κ W w1 ((compGo g t m vs (ds.drop (i + 1)) e acc).bind fun acc e' => .ok (Ent.ow acc) (restE (wipeE e' vs) e0 vs)) (Qe κ σ Q), fun H3 z => ⟨ds.length - (i + 1), by omega, rfl, hlt, z⟩, fun x H3 hy => ?_⟩
    obtain ⟨w3, n3, rfl, st3, d3⟩ := h2 x H3 hy
    rw [List.drop_eq_getElem_cons hlt] at p2
    unfold compGo at p2
    by_cases hl : acc.length < lim
    · rw [if_pos hl] at p2
      have p3 : Po κ W w1 ((noEx (g (.sh ds[i]) (wipeE e vs))).bind fun _ e1 => ((noEx (t e1)).bind fun b e2 => if b = true then (noEx (dv m e2)).bind fun x e3 => compGo g t m vs (ds.drop (i + 1)) e3 (acc ++ [x]) else compGo g t m vs (ds.drop (i + 1)) e2 acc).bind fun acc e' => .ok (Ent.ow acc) (restE (wipeE e' vs) e0 vs)) (Qe κ σ Q) := by
        rw [bind_assoc] at p2
        exact p2
      obtain ⟨_, e1, eg, p4⟩ := no_bind p3
      refine ⟨w3, wipeE e vs, .sh ds[i], rfl, st3 _ _ s2, d3, po_of eg fun w4 n4 σ2 s4 al => ⟨(al vs hv).trans wipe_wipe, ?_⟩⟩
      have p5 : Po κ W w1 ((noEx (t e1)).bind fun b e2 => (if b = true then (noEx (dv m e2)).bind fun x e3 => compGo g t m vs (ds.drop (i + 1)) e3 (acc ++ [x]) else compGo g t m vs (ds.drop (i + 1)) e2 acc : R (List D)).bind fun acc e' => .ok (Ent.ow acc) (restE (wipeE e' vs) e0 vs)) (Qe κ σ Q) := by
        rw [bind_assoc] at p4
        exact p4
      obtain ⟨b, e2, et, p6⟩ := no_bind p5
      refine ⟨w4, e1, rfl, s4, po_of et fun w5 n5 s5 => ?_⟩
      have nn : Nx w2 w5 := (n3.trans n4).trans n5
      obtain ⟨f1, f2, f3⟩ := nn.f Da _ hH hO
      cases b with
      | true =>
        simp only [↓reduceIte] at p6 ⊢
        have p7 : Po κ W w1 ((noEx (dv m e2)).bind fun x e3 => (compGo g t m vs (ds.drop (i + 1)) e3 (acc ++ [x])).bind fun acc e' => .ok (Ent.ow acc) (restE (wipeE e' vs) e0 vs)) (Qe κ σ Q) := by
          rw [bind_assoc] at p6
          exact p6
        obtain ⟨x1, e3, ed, p8⟩ := no_bind p7
        obtain ⟨r, er, etd⟩ := dv_ok ed
        refine ⟨w5, e2, rfl, s5, po_of er fun w6 n6 v6 s6 er6 => ?_⟩
        obtain ⟨_, w7, n7, hH7, s7, d7⟩ := frz_r s6 er6 etd
        have nn2 : Nx w2 w7 := (nn.trans n6).trans n7
        obtain ⟨g1, g2, g3⟩ := nn2.f Da _ hH hO
        refine ⟨xs, by rw [← hH7]; exact g1, lim_lt (by rw [dpa_len hacc]; exact hl), { w7 with H := upd w7.H Da (.lst (xs ++ [v6])) }, e3, xs ++ [v6], acc ++ [x1], by rw [← hH7], ?_, ?_, g3, g2.trans hG, upd_same, dpa_app (dpa_mono nn2.g _ _ hacc) (dpa_one d7), p8⟩
        · have nu := n2.trans nn2
          refine ⟨nu.p, nu.g, fun y u y1 y2 => ?_⟩
          obtain ⟨z1, z2, z3⟩ := nu.f y u y1 y2
          have ne : y ≠ Da := ne_of_none y1 hDn
          exact ⟨(upd_ne ne).trans z1, z2, z3⟩
        · refine (?_ : StR κ { w7 with H := upd w7.H Da (.lst (xs ++ [v6])) } σ2 e3).rewipe ((al vs hv).trans wipe_wipe)
          exact s7.updFree g3 (g2.trans hG)
      | false =>
        simp only [Bool.false_eq_true, ↓reduceIte] at p6 ⊢
        refine ⟨w5, e2, xs, acc, rfl, n2.trans nn, s5.rewipe ((al vs hv).trans wipe_wipe), f3, f2.trans hG, f1, dpa_mono nn.g _ _ hacc, p6⟩
    · rw [if_neg hl] at p2
      exact False.elim p2
  · have hie : i = ds.length := by omega
    subst hie
    rw [List.drop_length] at p2
    refine .inl ⟨hstop, ?_⟩
    have p3 : Po κ W w1 (R.ok (Ent.ow acc) (restE (wipeE e vs) e0 vs)) (Qe κ σ Q) := p2
    let w9 : Sn := { w2 with O := fun b => if b = Da then some .r else w2.O b }
    have n9 : Nx w1 w9 := ⟨n2.p, n2.g, fun y u y1 y2 => by
      obtain ⟨z1, z2, z3⟩ := n2.f y u y1 y2
      have ne : y ≠ Da := ne_of_none y1 hDn
      exact ⟨z1, z2, (if_neg ne).trans z3⟩⟩
    have s9 : StR κ w9 (L2.wipe σ vs) (wipeE e vs) := s2.own hO hG
    have s10 : StR κ w9 σ (restE (wipeE e vs) e0 vs) := StR.rest (w := w1) s1 n9 s9
    exact p3 w9 n9 (.ref Da) s10 ⟨Da, xs, rfl, if_pos rfl, hH, hacc⟩
theorem de_lc {elt tg iter : Expr} {ifs : List Expr} {scope : Scope} {own : List (Str × Nat)} {pos : Pos} {mi : En → R (List D)} {g : Ent → En → R Unit} {is : List Nat} (hc : X.calm = true) (hN : X.N.Nodup) (hi : PI X tg iter (tIOf κ W mi)) (ok : blkC X.N X.env.scope scope own = true)
    (hg : ∀ (s : Shared) (H : Hp) (C : Addr) (cl : List (Str × Addr)) (fp : List Addr), PG (X.blk s H scope (compEnvC scope cl C X.env) fp) tg (tGv κ NoW g is)) (ht : ∀ (s : Shared) (H : Hp) (C : Addr) (cl : List (Str × Addr)) (fp : List Addr), PTs (X.blk s H scope (compEnvC scope cl C X.env) fp) ifs (tTOf κ NoW t))
    (he : ∀ (s : Shared) (H : Hp) (C : Addr) (cl : List (Str × Addr)) (fp : List Addr), PE (X.blk s H scope (compEnvC scope cl C X.env) fp) elt (tOf κ NoW m)) (hv : (is.all fun i => (own.map (·.2)).contains i) = true := by rfl) (hs : ∀ x, foldedSetIterable iter X.env x = pure x := by intro _; rfl) :
    PE X (.ListComp elt [⟨tg, iter, ifs, 0⟩] scope pos) (tOf κ W (eLc mi g t m (own.map (·.2)))) :=
  pe_imp (pe_lc hc hN hi (blkOk_by ok) hg ht he hs) fun σ H Q q => tLc_of (fun i hi => by
    have := List.all_eq_true.mp hv i hi
    simpa using this) q
/-- name = [..] on one line -/
theorem ds_setLc (i : Nat) {y : Str} {py : Pos} {elt tg iter : Expr} {ifs : List Expr} {scope : Scope} {own : List (Str × Nat)} {pos spos : Pos} {mi : En → R (List D)} {g : Ent → En → R Unit} {is : List Nat} (hc : X.calm = true) (hN : X.N.Nodup) (hi : PI X tg iter (tIOf κ W mi)) (ok : blkC X.N X.env.scope scope own = true)
    (hg : ∀ (s : Shared) (H : Hp) (C : Addr) (cl : List (Str × Addr)) (fp : List Addr), PG (X.blk s H scope (compEnvC scope cl C X.env) fp) tg (tGv κ NoW g is)) (ht : ∀ (s : Shared) (H : Hp) (C : Addr) (cl : List (Str × Addr)) (fp : List Addr), PTs (X.blk s H scope (compEnvC scope cl C X.env) fp) ifs (tTOf κ NoW t))
    (he : ∀ (s : Shared) (H : Hp) (C : Addr) (cl : List (Str × Addr)) (fp : List Addr), PE (X.blk s H scope (compEnvC scope cl C X.env) fp) elt (tOf κ NoW m)) (hv : (is.all fun i => (own.map (·.2)).contains i) = true := by rfl) (hy : X.N[i]? = some y := by rfl) (hyl : X.env.scope.names.lookup y = some .local := by rfl)
    (hsw : swapsWith (.ListComp elt [⟨tg, iter, ifs, 0⟩] scope pos) (some (.Name y py)) spos.line X.env = pure true := by exact sw_true rfl rfl rfl rfl) (hs : ∀ x, foldedSetIterable iter X.env x = pure x := by intro _; rfl) :
    PS X (.Assign [.Name y py] (.ListComp elt [⟨tg, iter, ifs, 0⟩] scope pos) spos) (tSOf κ W (sSet i (eLc mi g t m (own.map (·.2))))) :=
  ps_imp (ps_setLc hc hN hy hyl hsw hi (blkOk_by ok) hg ht he hs) fun Dn σ H q => by
    have q2 := tSet_of q
    exact tLc_of (fun i hi => by
      have := List.all_eq_true.mp hv i hi
      simpa using this) q2
end
end CO

/-! CoI: what a def promises, its call. -/
namespace CO
open PySem PySem.Spec PyProof.Rows L2

def PoF (κ : Kx) (w : Sn) (x : R Ent) (Q : VK) (E : XK) : Prop := match x with
  | .ok r e => ∀ v w', Nx w w' → WdR κ w' e.wd → EntR κ w' .r v r → Q v w'.H
  | .ex c e => ∀ w', Nx w w' → WdR κ w' e.wd → E (.ref (κ.ec c)) none w'.H
  | .st => False
/-- a def's promise: its arguments' data and the world to its end -/
def spOf (κ : Kx) (n : Nat) (m : List Ent → List Ob → R Ent) : Sp := fun vs H Q E => vs.length = n ∧ ∃ w es wd, w.H = H ∧ WdR κ w wd ∧ (∀ p ix, w.O p = some ix → ∃ j, ix = Ix.w j) ∧ ArgsR κ w vs es ∧ PoF κ w (m es wd) Q E
/-- a body's end -/
def finM (nN : Nat) (ms : En → R Fl) (es : List Ent) (wd : List Ob) : R Ent := (ms ⟨es ++ List.replicate (nN - es.length) .no, wd⟩).bind fun fl e => match fl with
  | .nx => .ok (.sh .none) e
  | .rt r => .ok r e
  | _ => .st
def FnD (P : Program) (w : World) (K : PySem.W.Frag) (mg : Str → Option Value) (base : Heap) (κ : Kx) (x : Str) (k n : Nat) (m : List Ent → List Ob → R Ent) : Prop :=
  ∃ f fd ps, FnOk P w K mg base (L2.CX P w) k f fd ps (spOf κ n m) ∧ mg x = some (.ref f) ∧ PySem.W.keepIn K (.ref f) = true ∧ Binds K fd ps []
theorem arg_ent {κ : Kx} {w : Sn} {ix : Ix} {v : V} {e : Ent} (h : ArgR κ w v e) : EntR κ w ix v e := by
  cases e with
  | sh d => exact h
  | wr j => exact h
  | sc => exact h
  | fz kvs => exact False.elim h
  | no => exact False.elim h
  | ow ds => exact False.elim h
  | dk kvs => exact False.elim h
theorem paired_get {α β : Type} {R : α → β → Prop} : ∀ {as : List α} {bs : List β} {i : Nat}, Paired R as bs → (∀ b, bs[i]? = some b → ∃ a, as[i]? = some a ∧ R a b)
  | _, _, _, .nil => fun b h => by simp at h
  | _ :: _, _ :: _, 0, .cons r t => fun b h => by
    simp at h
    subst h
    exact ⟨_, rfl, r⟩
  | _ :: _, _ :: _, i + 1, .cons r t => fun b h => by
    obtain ⟨a, h1, h2⟩ := paired_get (i := i) t b (by simpa using h)
    exact ⟨a, by simpa using h1, h2⟩
section
variable {P : Program} {w : World} {K : PySem.W.Frag} {mg : Str → Option Value} {base : Heap} {κ : Kx}
theorem start_ok {N : List Str} {vs : List V} {w : Sn} {es : List Ent} {wd : List Ob} (h : WdR κ w wd) (a : ArgsR κ w vs es) : StR κ w (start N vs) ⟨es ++ List.replicate (N.length - es.length) .no, wd⟩ := by
  have hl : vs.length = es.length := Paired.length a
  refine ⟨h, ?_, fun i => ?_⟩
  · show (es ++ List.replicate (N.length - es.length) Ent.no).length = (vs.map some ++ List.replicate (N.length - vs.length) none).length
    simp [hl]
  · show SlR κ w (.s i) ((vs.map some ++ List.replicate (N.length - vs.length) none).getD i none) ((es ++ List.replicate (N.length - es.length) Ent.no).getD i .no)
    rw [List.getD_eq_getElem?_getD, List.getD_eq_getElem?_getD]
    by_cases hi : i < es.length
    · rw [List.getElem?_append_left hi, List.getElem?_append_left (by simpa [hl] using hi)]
      have e1 := List.getElem?_eq_getElem hi
      obtain ⟨v, h1, h2⟩ := paired_get a _ e1
      rw [e1, List.getElem?_map, h1]
      exact .inr ⟨v, rfl, arg_ent h2⟩
    · left
      rw [List.getElem?_append_right (Nat.le_of_not_lt hi), List.getElem?_replicate]
      split <;> rfl
theorem fnD_of {x : Str} {st : Stmt} {f : Addr} {fd : FuncData} {N ps : List Str} {k : Nat} (F : Fun K x x st f fd) (S : FnScope N ps (defScope st)) (gx : mg x = some (.ref f)) (hb : Binds K fd ps []) (ms : En → R Fl)
    (hbody : ∀ (cdv : Value) (A : Around) (outer : List Env) (s : Shared) (H : Hp) (E : XK), Room k (A.deeper (envOfC x (defScope st) s.heap.objs.size f cdv)) →
      PSs (cxOf (L2.CX P w) P w K mg base N x (defScope st) f cdv A outer s H E) (defBody st) (tSOf κ (fun cls d _ H => E cls d H) ms)) : FnD P w K mg base κ x (k + 1) ps.length (finM N.length ms) := by
  refine ⟨f, fd, ps, F.okX S (fun vs H Q E h => h.1) (fun cdv A outer s H vs Q E hr h => ⟨_, hbody cdv A outer s H E hr, ?_⟩), gx, F.kp, hb⟩
  obtain ⟨_, w0, es, wd, hH, hw, hO, ha, p⟩ := h
  refine ⟨w0, _, hH, start_ok hw ha, ?_⟩
  unfold finM at p
  cases hm : ms ⟨es ++ List.replicate (N.length - es.length) .no, wd⟩ with
  | ok fl e =>
    rw [hm] at p
    intro w' n
    cases fl with
    | nx => exact fun σ' s' => p .non w' n s'.wo .non
    | rt r => exact fun v σ' s' er => p v w' n s'.wo er
    | bk => exact False.elim p
    | ct => exact False.elim p
  | ex c e =>
    rw [hm] at p
    exact fun σ' w' n s' => p w' n s'.wo
  | st =>
    rw [hm] at p
    exact p
end

/-! ### a call -/
def eCallF (n : Nat) (m : List Ent → List Ob → R Ent) (ms : En → R (List Ent)) (en : En) : R Ent := (ms en).bind fun es e => if es.length = n then match m es e.wd with
  | .ok r e' => .ok r { e with wd := e'.wd }
  | .ex c e' => .ex c { e with wd := e'.wd }
  | .st => .st
  else .st
/-- only the world's owners -/
def wOnly : Option Ix → Option Ix
  | some (.w j) => some (.w j)
  | _ => none
def noSl : Option Ix → Option Ix
  | some (.s _) => none
  | o => o
def wR (w : Sn) : Sn := { w with O := fun p => wOnly (w.O p) }
/-- the owners behind a call -/
def mrgO (O O' : Addr → Option Ix) (H : Hp) (p : Addr) : Option Ix := if wOnly (O p) = none ∧ (O p).isSome = true ∧ (H p).isSome = true then O p else noSl (O' p)
theorem wOnly_w {o : Option Ix} {j : Nat} : wOnly o = some (.w j) ↔ o = some (.w j) := by
  cases o with
  | none => exact ⟨(fun h => by cases h), (fun h => by cases h)⟩
  | some ix =>
    cases ix with
    | s i => exact ⟨(fun h => by cases h), (fun h => by cases h)⟩
    | w i => exact Iff.rfl
    | r => exact ⟨(fun h => by cases h), (fun h => by cases h)⟩
theorem wOnly_of {o : Option Ix} {ix : Ix} (h : wOnly o = some ix) : o = some ix ∧ ∃ j, ix = .w j := by
  cases o with
  | none => cases h
  | some jx =>
    cases jx with
    | s i => cases h
    | w i => cases h; exact ⟨rfl, i, rfl⟩
    | r => cases h
section
variable {κ : Kx} {w w' : Sn} {σ : St} {en : En} {wd : List Ob}
theorem WdR.only (h : WdR κ w wd) : WdR κ (wR w) wd where
  fr := fun p i e => by
    obtain ⟨e', _⟩ := wOnly_of (show wOnly (w.O p) = some i from e)
    exact h.fr p i e'
  su := h.su
  wl := h.wl
  wd := fun j ob p e1 e2 => by
    have x := h.wd j ob p e1 e2
    have k : ∀ {q : Addr}, w.O q = some (.w j) → wOnly (w.O q) = some (.w j) := fun e => wOnly_w.mpr e
    cases ob with
    | tn n => exact ⟨k x.1, x.2⟩
    | tb g rows kept =>
      obtain ⟨dx, l, vg, rs, a1, a2, a3, a4, a5, a6, a7, a8⟩ := x
      exact ⟨dx, l, vg, rs, k a1, k a2, k a3, a4, a5, a6, a7, a8⟩
theorem mrg_old {p : Addr} {ix : Ix} {o : HO} (h : w.O p = some ix) (hx : ∀ j, ix ≠ .w j) (hH : w.H p = some o) : mrgO w.O w'.O w.H p = some ix := by
  unfold mrgO
  have e : wOnly (w.O p) = none := by
    cases q : wOnly (w.O p) with
    | none => rfl
    | some jx =>
      obtain ⟨e1, j, e2⟩ := wOnly_of q
      rw [h] at e1
      cases e1
      exact absurd e2 (hx j)
  rw [if_pos ⟨e, by rw [h]; rfl, by rw [hH]; rfl⟩]
  exact h
theorem mrg_new {p : Addr} {ix : Ix} (n : Nx (wR w) w') (h : w'.O p = some ix) (hx : ∀ i, ix ≠ .s i) : mrgO w.O w'.O w.H p = some ix := by
  unfold mrgO
  by_cases c : wOnly (w.O p) = none ∧ (w.O p).isSome = true ∧ (w.H p).isSome = true
  · obtain ⟨c1, _, c3⟩ := c
    obtain ⟨o, ho⟩ := Option.isSome_iff_exists.mp c3
    have := (n.f p o ho c1).2.2
    rw [h] at this
    cases this
  · rw [if_neg c, h]
    cases ix with
    | s i => exact absurd rfl (hx i)
    | w j => rfl
    | r => rfl
theorem mrg_of {p : Addr} {ix : Ix} (h : mrgO w.O w'.O w.H p = some ix) : (w.O p = some ix ∧ wOnly (w.O p) = none ∧ ∃ o, w.H p = some o) ∨ w'.O p = some ix := by
  unfold mrgO at h
  by_cases c : wOnly (w.O p) = none ∧ (w.O p).isSome = true ∧ (w.H p).isSome = true
  · rw [if_pos c] at h
    exact .inl ⟨h, c.1, Option.isSome_iff_exists.mp c.2.2⟩
  · rw [if_neg c] at h
    right
    cases q : w'.O p with
    | none => rw [q] at h; cases h
    | some jx =>
      rw [q] at h
      cases jx with
      | s i => cases h
      | w j => exact h
      | r => exact h
/-- the state behind a call -/
theorem after_call (s : StR κ w σ en) (n : Nx (wR w) w') (h : WdR κ w' wd) : Nx w { w' with O := mrgO w.O w'.O w.H } ∧ StR κ { w' with O := mrgO w.O w'.O w.H } σ { en with wd := wd } ∧ ∀ v r, EntR κ w' .r v r → EntR κ { w' with O := mrgO w.O w'.O w.H } .r v r := by
  refine ⟨⟨n.p, n.g, fun x o h1 h2 => ?_⟩, ⟨⟨fun p i e => ?_, h.su, h.wl, fun j ob p e1 e2 => ?_⟩, s.ln, fun i => ?_⟩, fun v r er => ?_⟩
  · obtain ⟨q1, q2, q3⟩ := n.f x o h1 (by show wOnly (w.O x) = none; rw [h2]; rfl)
    refine ⟨q1, q2, ?_⟩
    show mrgO w.O w'.O w.H x = none
    unfold mrgO
    rw [if_neg (by rw [h2]; rintro ⟨_, z, _⟩; cases z), q3]; rfl
  · rcases mrg_of e with ⟨e1, e2, o, e3⟩ | e1
    · exact (n.f p o e3 e2).2.1.trans (s.wo.fr p i e1)
    · exact h.fr p i e1
  · have x := h.wd j ob p e1 e2
    have k : ∀ {q : Addr}, w'.O q = some (.w j) → mrgO w.O w'.O w.H q = some (.w j) := fun e => mrg_new n e (fun i z => by cases z)
    cases ob with
    | tn m => exact ⟨k x.1, x.2⟩
    | tb g rows kept =>
      obtain ⟨dx, l, vg, rs, a1, a2, a3, a4, a5, a6, a7, a8⟩ := x
      exact ⟨dx, l, vg, rs, k a1, k a2, k a3, a4, a5, a6, a7, a8⟩
  · rcases s.sl i with q | ⟨v, q1, q2⟩
    · exact .inl q
    · refine .inr ⟨v, q1, ?_⟩
      show EntR κ { w' with O := mrgO w.O w'.O w.H } (.s i) v (en.get i)
      have k : ∀ {q : Addr} {o : HO}, w.O q = some (.s i) → w.H q = some o → mrgO w.O w'.O w.H q = some (.s i) ∧ w'.H q = some o := fun {q o} e1 e2 =>
        ⟨mrg_old e1 (fun j z => by cases z) e2, (n.f q o e2 (by show wOnly (w.O q) = none; rw [e1]; rfl)).1⟩
      cases hg : en.get i with
      | no => trivial
      | sh d => rw [hg] at q2; exact dp_mono n.g _ _ q2
      | ow ds =>
        rw [hg] at q2
        obtain ⟨p, xs, e1, e2, e3, e4⟩ := q2
        obtain ⟨k1, k2⟩ := k e2 e3
        exact ⟨p, xs, e1, k1, k2, dpa_mono n.g _ _ e4⟩
      | dk kvs =>
        rw [hg] at q2
        obtain ⟨p, xs, e1, e2, e3, e4⟩ := q2
        obtain ⟨k1, k2⟩ := k e2 e3
        exact ⟨p, xs, e1, k1, k2, dpkv_mono n.g e4⟩
      | wr j =>
        rw [hg] at q2
        obtain ⟨p, e1, e2⟩ := q2
        refine ⟨p, e1, ?_⟩
        obtain ⟨t, ht⟩ := n.p
        show w'.ad[j]? = some p
        have ht' : w.ad ++ t = w'.ad := ht
        rw [← ht', List.getElem?_append_left (List.getElem?_eq_some_iff.mp e2).1]
        exact e2
      | sc =>
        rw [hg] at q2
        obtain ⟨a, h1, h2⟩ := q2
        exact ⟨a, h1, n.g.seq h2⟩
      | fz kvs =>
        rw [hg] at q2
        obtain ⟨p, od, ks, h1, h2, h3⟩ := q2
        exact ⟨p, od, ks, h1, n.g _ _ h2, dpkv_mono n.g h3⟩
  · have k : ∀ {q : Addr}, w'.O q = some .r → mrgO w.O w'.O w.H q = some .r := fun e => mrg_new n e (fun i z => by cases z)
    cases r with
    | no => trivial
    | sh d => exact er
    | ow ds =>
      obtain ⟨p, xs, e1, e2, e3, e4⟩ := er
      exact ⟨p, xs, e1, k e2, e3, e4⟩
    | dk kvs =>
      obtain ⟨p, xs, e1, e2, e3, e4⟩ := er
      exact ⟨p, xs, e1, k e2, e3, e4⟩
    | wr j => exact er
    | sc => exact er
    | fz kvs => exact er
/-- a promise's wish from ours -/
theorem sp_of {W : WX} {Q : VK} {vs : List V} {es : List Ent} {n : Nat} {m : List Ent → List Ob → R Ent} (s : StR κ w σ en) (a : ArgsR κ w vs es) (hn : es.length = n)
    (p : Po κ W w (match m es en.wd with | .ok r e' => R.ok r { en with wd := e'.wd } | .ex c e' => .ex c { en with wd := e'.wd } | .st => .st) (Qe κ σ Q)) : spOf κ n m vs w.H Q (WE W σ) := by
  refine ⟨(Paired.length a).trans hn, wR w, es, en.wd, rfl, s.wo.only, fun p ix e => (wOnly_of e).2, a, ?_⟩
  cases hm : m es en.wd with
  | ok r e' =>
    rw [hm] at p
    intro v w' n' hw er
    obtain ⟨z1, z2, z3⟩ := after_call s n' hw
    exact p { w' with O := mrgO w.O w'.O w.H } z1 v z2 (z3 v r er)
  | ex c e' =>
    rw [hm] at p
    intro w' n' hw
    obtain ⟨z1, z2, z3⟩ := after_call s n' hw
    exact p σ { w' with O := mrgO w.O w'.O w.H } z1 z2
  | st =>
    rw [hm] at p
    exact p
end
section
variable {X : Cx} {κ : Kx} {W : WX}
theorem de_call {x : Str} {e : Expr} {es : List Expr} {k n : Nat} {m : List Ent → List Ob → R Ent} {ms : En → R (List Ent)} {p pos : Pos} (F : FnD X.prog X.w X.K X.mg X.base κ x k n m) (hr : Room k X.A) (tk : Takes X W) (ha : PA X (e :: es) (tAOf κ W ms)) (hg : Gl X x := by rfl)
    (hdb : (x == ("__debug__" : Str)) = false := by decide) (he : starEach (e :: es) X.env = (false, eval e X.env) :: starEach es X.env := by rfl) (hpl : (backTo pos (starEach es X.env)).any (·.1) = false := by rfl) :
    PE X (.Call (.Name x p) (e :: es) [] pos) (tOf κ W (eCallF n m ms)) := by
  obtain ⟨f, fd, ps, hF, hm, hk, hb⟩ := F
  refine pe_imp (pe_callS hF hr hg hm hk hb (fun σ => passAt tk σ) ha hdb he hpl) fun σ H Q ⟨w, en, hw, s, q⟩ => ?_
  subst hw
  refine goA s q fun rs en1 vs w1 n1 s1 a1 p1 => ?_
  by_cases hn : rs.length = n
  · rw [if_pos hn] at p1
    exact sp_of s1 a1 hn p1
  · rw [if_neg hn] at p1
    exact False.elim p1
end
end CO

/-! CoJ: methods of texts and lists, op=. -/
namespace CO
open PySem PySem.Spec PyProof.Rows L2

/-! ### a method on data -/
def tyD (T : String) : D → Bool
  | .str _ => T == "str"
  | .list _ => T == "list"
  | _ => false
def MtD (X : Cx) (κ : Kx) (id : String) (g : D → List D → En → R Ent) : Prop :=
  ∃ r, MtR X id r ∧ ∀ (W : WX) (w : Sn) (σ : St) (en : En) (x : V) (a : D) (xs : List V) (ds : List D) (Q : VK), StR κ w σ en → Dq w.G x a → DqAll w.G xs ds → Po κ W w (g a ds en) (Qe κ σ Q) → r x xs w.H Q
def eMt (T : String) (g : D → List D → En → R Ent) (m : En → R Ent) (ms : En → R (List Ent)) (en : En) : R Ent := (dv m en).bind fun a e1 => if tyD T a = true then (dvs ms e1).bind fun ds e2 => g a ds e2 else .st
section
variable {X : Cx} {κ : Kx} {W : WX} {w : Sn} {σ : St} {en : En}
theorem tyD_ok {T : String} {a : D} {x : V} (s : StR κ w σ en) (h : tyD T a = true) (hd : Dq w.G x a) : tyV X.K T x w.H := by
  cases hd with
  | str y => exact eq_of_beq h
  | lst h1 h2 => exact .inl ⟨eq_of_beq h, _, SqL.of (s.wo.su _ _ h1)⟩
  | non => cases h
  | bl b => cases h
  | int i => cases h
  | tup _ _ => cases h
theorem de_mt {T id : String} {name : Str} {o e : Expr} {es : List Expr} {g : D → List D → En → R Ent} {m : En → R Ent} {ms : En → R (List Ent)} {apos cpos : Pos} (hm : MtD X κ id g) (pa : PlainAttrs T) (slot : Slot T name id) (hty : typeOf (.builtin id) = pure (.type "method_descriptor")) (ho : PE X o (tOf κ W m)) (ha : PA X (e :: es) (tAOf κ W ms))
    (hbase : attributeBase o name X.env (eval o X.env) = eval o X.env := by rfl)
    (hfew : ((backTo cpos (starEach (e :: es) X.env)).all (fun x => !x.1) && (backToKw cpos (keywordEach [] X.env)).all (fun x => x.1.isSome) && decide ((e :: es).length + ([] : List Keyword).length + (if ([] : List Keyword).isEmpty then 0 else 1) < 30)) = true := by rfl)
    (hline : (apos.endLine == cpos.line) = true := by rfl) (hs : starEach (e :: es) X.env = (false, eval e X.env) :: starEach es X.env := by rfl) (hplain : (backTo cpos (starEach es X.env)).any (·.1) = false := by rfl) :
    PE X (.Call (.Attribute o name apos) (e :: es) [] cpos) (tOf κ W (eMt T g m ms)) := by
  obtain ⟨r, hr, hg⟩ := hm
  refine pe_imp (pe_bm pa slot hty hr ho ha hbase hfew hline hs hplain) fun σ H Q ⟨w, en, hw, s, p⟩ => ?_
  subst hw
  refine goD s p fun a e1 v1 w1 n1 s1 d1 p1 => ?_
  by_cases ht : tyD T a = true
  · rw [if_pos ht] at p1
    refine ⟨tyD_ok s1 ht d1, ?_⟩
    exact goDs s1 p1 fun ds e2 vs w2 n2 s2 d2 p2 => hg W w2 σ e2 v1 a vs ds Q s2 (dp_mono n2.g _ _ d1) d2 p2
  · rw [if_neg ht] at p1
    exact False.elim p1
/-- sep.join(texts) -/
def gJoin : D → List D → En → R Ent
  | .str a, [.list ds], e => match asStrs ds with | some ys => if (ys.map (·.length)).sum + ys.length * a.length ≤ lim then .ok (.sh (.str (Txt.join a ys))) e else .st | none => .st
  | _, _, _ => .st
theorem md_join : MtD X κ "str.join" gJoin := by
  refine ⟨_, mt_join, fun W w σ en x a xs ds Q s ha hds p => ?_⟩
  cases ha with
  | str y =>
    cases hds with
    | nil => exact False.elim p
    | cons h t =>
      cases t with
      | cons _ _ => cases h <;> exact False.elim p
      | nil =>
        cases h with
        | lst h1 h2 =>
          rename_i q vs ds
          have p' : Po κ W w (match asStrs ds with | some ys => if (ys.map (·.length)).sum + ys.length * y.length ≤ lim then R.ok (Ent.sh (.str (Txt.join y ys))) en else .st | none => .st) (Qe κ σ Q) := p
          cases e : asStrs ds with
          | none => rw [e] at p'; exact False.elim p'
          | some ys =>
            rw [e] at p'
            have := asStrs_eq e
            subst this
            have := dpa_strs h2
            subst this
            dsimp only at p'
            by_cases hl : (ys.map (·.length)).sum + ys.length * y.length ≤ lim
            · rw [if_pos hl] at p'
              exact ⟨y, q, ys, rfl, rfl, .inl (SqL.of (s.wo.su _ _ h1)), Nat.le_trans hl (by decide), fin_sh s p' (.str _)⟩
            · rw [if_neg hl] at p'
              exact False.elim p'
        | _ => exact False.elim p
  | _ => exact False.elim p
/-- a text's method of one text: to a text -/
theorem md_str1 {id : String} {g : Str → Str → Str} (h : MtR X id (fun x xs H Q => ∃ a b, x = .str a ∧ xs = [.str b] ∧ a.length ≤ sizeLine ∧ Q (.str (g a b)) H)) :
    MtD X κ id (fun a ds e => match a, ds with | .str a, [.str b] => if a.length ≤ lim then .ok (.sh (.str (g a b))) e else .st | _, _ => .st) := by
  refine ⟨_, h, fun W w σ en x a xs ds Q s ha hds p => ?_⟩
  cases ha with
  | str y =>
    cases hds with
    | nil => exact False.elim p
    | cons h t =>
      cases t with
      | cons _ _ => cases h <;> exact False.elim p
      | nil =>
        cases h with
        | str z =>
          have p' : Po κ W w (if y.length ≤ lim then R.ok (Ent.sh (.str (g y z))) en else .st) (Qe κ σ Q) := p
          by_cases hl : y.length ≤ lim
          · rw [if_pos hl] at p'
            exact ⟨y, z, rfl, rfl, lim_ok hl, fin_sh s p' (.str _)⟩
          · rw [if_neg hl] at p'
            exact False.elim p'
        | _ => exact False.elim p
  | _ => exact False.elim p
def gLstrip (a : D) (ds : List D) (e : En) : R Ent := match a, ds with | .str a, [.str b] => if a.length ≤ lim then .ok (.sh (.str (Txt.lstripChars a b))) e else .st | _, _ => .st
theorem md_lstrip : MtD X κ "str.lstrip" gLstrip := md_str1 mt_lstripChars
def gRstrip (a : D) (ds : List D) (e : En) : R Ent := match a, ds with | .str a, [.str b] => if a.length ≤ lim then .ok (.sh (.str (Txt.rstripChars a b))) e else .st | _, _ => .st
theorem md_rstrip : MtD X κ "str.rstrip" gRstrip := md_str1 mt_rstripChars
def gSplit (a : D) (ds : List D) (e : En) : R Ent := match a, ds with | .str a, [.str b] => if a.length ≤ lim - 2 ∧ (b.length == 0) = false then .ok (.ow ((Txt.split a b).map .str)) e else .st | _, _ => .st
theorem md_split : MtD X κ "str.split" gSplit := by
  refine ⟨_, mt_split, fun W w σ en x a xs ds Q s ha hds p => ?_⟩
  cases ha with
  | str y =>
    cases hds with
    | nil => exact False.elim p
    | cons h t =>
      cases t with
      | cons _ _ => cases h <;> exact False.elim p
      | nil =>
        cases h with
        | str z =>
          have p' : Po κ W w (if y.length ≤ lim - 2 ∧ (z.length == 0) = false then R.ok (Ent.ow ((Txt.split y z).map .str)) en else .st) (Qe κ σ Q) := p
          by_cases hl : y.length ≤ lim - 2 ∧ (z.length == 0) = false
          · rw [if_pos hl] at p'
            refine ⟨y, z, rfl, rfl, hl.2, lim_ok (by have := hl.1; unfold lim at *; omega), ?_⟩
            exact fun q hq => fin_ow s p' (dpa_of_strs _) hq
          · rw [if_neg hl] at p'
            exact False.elim p'
        | _ => exact False.elim p
  | _ => exact False.elim p
def gCountS (a : D) (ds : List D) (e : En) : R Ent := match a, ds with
  | .str a, [.str b] => .ok (.sh (.int (Txt.count a b))) e
  | _, _ => .st
theorem md_countS : MtD X κ "str.count" gCountS := by
  refine ⟨_, mt_count, fun W w σ en x a xs ds Q s ha hds p => ?_⟩
  cases ha with
  | str y =>
    cases hds with
    | nil => exact False.elim p
    | cons h t =>
      cases t with
      | cons _ _ => cases h <;> exact False.elim p
      | nil =>
        cases h with
        | str z => exact ⟨y, z, rfl, rfl, fin_sh s p (.int _)⟩
        | _ => exact False.elim p
  | _ => exact False.elim p
def gCountL (a : D) (ds : List D) (e : En) : R Ent := match a, ds with
  | .list xs, [.int k] => match asInts xs with | some ns => .ok (.sh (.int (ns.count k : Nat))) e | none => .st
  | _, _ => .st
theorem md_countL : MtD X κ "list.count" gCountL := by
  refine ⟨_, mt_lcount, fun W w σ en x a xs ds Q s ha hds p => ?_⟩
  cases ha with
  | lst h1 h2 =>
    rename_i q vs ys
    cases hds with
    | nil => exact False.elim p
    | cons h t =>
      cases t with
      | cons _ _ => cases h <;> exact False.elim p
      | nil =>
        cases h with
        | int k =>
          have p' : Po κ W w (match asInts ys with | some ns => R.ok (Ent.sh (.int (ns.count k : Nat))) en | none => .st) (Qe κ σ Q) := p
          cases e : asInts ys with
          | none => rw [e] at p'; exact False.elim p'
          | some ns =>
            rw [e] at p'
            have := asInts_eq e
            subst this
            have := dpa_ints h2
            subst this
            exact ⟨q, ns, k, rfl, rfl, SqL.of (s.wo.su _ _ h1), fin_sh s p' (.int _)⟩
        | _ => exact False.elim p
  | _ => exact False.elim p

/-! ### a slot's own thing is written -/
theorem StR.updS {i : Nat} {p : Addr} {o : HO} {r : Ent} (s : StR κ w σ en) {v : V} (hv : σ.getD i none = some v) (hO : w.O p = some (.s i)) (hr : EntR κ { w with H := upd w.H p o } (.s i) v r) : StR κ { w with H := upd w.H p o } σ (en.set i r) := by
  have ne : ∀ {q : Addr} {jx : Ix}, w.O q = some jx → jx ≠ .s i → q ≠ p := fun e hj z => by
    rw [z, hO] at e
    exact hj (Option.some.inj e).symm
  refine ⟨⟨s.wo.fr, fun b u e => ?_, s.wo.wl, fun j ob q e1 e2 => ?_⟩, ?_, fun k => ?_⟩
  · have e' : w.G b = some u := e
    have nb : b ≠ p := fun z => by rw [z, s.wo.fr p _ hO] at e'; cases e'
    exact (upd_ne nb).trans (s.wo.su b u e')
  · have x := s.wo.wd j ob q e1 e2
    have nw : Ix.w j ≠ Ix.s i := fun z => nomatch z
    cases ob with
    | tn k => exact ⟨x.1, (upd_ne (ne x.1 nw)).trans x.2⟩
    | tb g rows kept =>
      obtain ⟨dx, l, vg, rs, a1, a2, a3, a4, a5, a6, a7, a8⟩ := x
      exact ⟨dx, l, vg, rs, a1, a2, a3, (upd_ne (ne a1 nw)).trans a4, (upd_ne (ne a2 nw)).trans a5, (upd_ne (ne a3 nw)).trans a6, a7, a8⟩
  · show (en.sl.set i r).length = _
    rw [List.length_set]
    exact s.ln
  · by_cases hk : i = k
    · subst hk
      rcases get_set_same (en := en) (i := i) (e := r) with e | e
      · rw [e]
        exact .inr ⟨v, hv, hr⟩
      · exact .inl e
    · rw [get_set_ne hk]
      rcases s.sl k with q | ⟨u, q1, q2⟩
      · exact .inl q
      · refine .inr ⟨u, q1, ?_⟩
        have nk : Ix.s k ≠ Ix.s i := fun z => hk (by injection z with z; exact z.symm)
        cases hg : en.get k with
        | no => trivial
        | sh d => rw [hg] at q2; exact q2
        | ow ds =>
          rw [hg] at q2
          obtain ⟨q, xs, e1, e2, e3, e4⟩ := q2
          exact ⟨q, xs, e1, e2, (upd_ne (ne e2 nk)).trans e3, e4⟩
        | dk kvs =>
          rw [hg] at q2
          obtain ⟨q, xs, e1, e2, e3, e4⟩ := q2
          exact ⟨q, xs, e1, e2, (upd_ne (ne e2 nk)).trans e3, e4⟩
        | wr j => rw [hg] at q2; exact q2
        | sc => rw [hg] at q2; exact q2
        | fz kvs => rw [hg] at q2; exact q2
theorem upd_nx {p : Addr} {o : HO} {ix : Ix} (hO : w.O p = some ix) : Nx w { w with H := upd w.H p o } :=
  ⟨List.prefix_refl _, Same.refl _, fun x u h1 h2 => by
    have ne : x ≠ p := fun z => by rw [z, hO] at h2; cases h2
    exact ⟨(upd_ne ne).trans h1, rfl, h2⟩⟩
theorem slot_get {i : Nat} {v : V} (h : σ[i]? = some (some v)) : σ.getD i none = some v := by
  rw [List.getD_eq_getElem?_getD, h]; rfl
/-- x.append(e), x a name -/
def eApp (i : Nat) (m : En → R Ent) (en : En) : R Ent := match en.get i with
  | .ow _ => (dv m en).bind fun d e1 => match e1.get i with
    | .ow ds => if ds.length < lim then .ok (.sh .none) (e1.set i (.ow (ds ++ [d]))) else .st
    | _ => .st
  | _ => .st
def eExt (i : Nat) (m : En → R Ent) (en : En) : R Ent := match en.get i with
  | .ow _ => (dv m en).bind fun d e1 => match e1.get i, d with
    | .ow ds, .list es => if ds.length + es.length ≤ lim then .ok (.sh .none) (e1.set i (.ow (ds ++ es))) else .st
    | _, _ => .st
  | _ => .st
theorem ow_at {i : Nat} {ds : List D} (s : StR κ w σ en) (h : en.get i = .ow ds) : ∃ p xs, σ[i]? = some (some (.ref p)) ∧ w.O p = some (.s i) ∧ w.H p = some (.lst xs) ∧ DqAll w.G xs ds := by
  obtain ⟨v, e1, e2⟩ := s.at (i := i) (by rw [h]; intro z; cases z)
  rw [h] at e2
  obtain ⟨p, xs, rfl, q⟩ := e2
  exact ⟨p, xs, e1, q⟩
theorem de_app (i : Nat) {x : Str} {e : Expr} {m : En → R Ent} {px apos cpos : Pos} (he : PE X e (tOf κ W m)) (hN : X.N[i]? = some x := by rfl)
    (hv : Vis X.env.scope x := by first | exact Or.inl rfl | exact Or.inr (Or.inl rfl) | exact Or.inr (Or.inr rfl)) (hd : (x == ("__debug__" : Str)) = false := by decide) (hcd : (x == ("__classdict__" : Str)) = false := by decide)
    (hbase : attributeBase (.Name x px) "append" X.env (eval (.Name x px) X.env) = eval (.Name x px) X.env := by rfl)
    (hfew : ((backTo cpos (starEach (e :: []) X.env)).all (fun x => !x.1) && (backToKw cpos (keywordEach [] X.env)).all (fun x => x.1.isSome) && decide ((e :: []).length + ([] : List Keyword).length + (if ([] : List Keyword).isEmpty then 0 else 1) < 30)) = true := by rfl)
    (hline : (apos.endLine == cpos.line) = true := by rfl) (hs : starEach (e :: []) X.env = (false, eval e X.env) :: starEach [] X.env := by rfl) (hplain : (backTo cpos (starEach [] X.env)).any (·.1) = false := by rfl) :
    PE X (.Call (.Attribute (.Name x px) "append" apos) [e] [] cpos) (tOf κ W (eApp i m)) :=
  pe_imp (pe_bm F.plainAttrs_list F.slot_list_append F.type_list_append mt_append (pv i hN hv hd hcd) (pa_cons he pa_nil hs) hbase hfew hline hs hplain) fun σ H Q ⟨w, en, hw, s, p⟩ => by
    subst hw
    unfold eApp at p
    cases hg : en.get i with
    | ow ds0 =>
      rw [hg] at p
      obtain ⟨q, xs, ev, hO, hH, ha⟩ := ow_at s hg
      refine ⟨_, ev, .inl ⟨rfl, xs, SqL.of hH⟩, ?_⟩
      refine goD s p fun d e1 y w1 n1 s1 d1 p1 => ?_
      cases hg1 : e1.get i with
      | ow ds =>
        rw [hg1] at p1
        obtain ⟨q', xs', ev', hO', hH', ha'⟩ := ow_at s1 hg1
        rw [ev] at ev'
        cases ev'
        dsimp only at p1
        by_cases hl : ds.length < lim
        · rw [if_pos hl] at p1
          refine ⟨q, xs', y, rfl, rfl, hH', lim_lt (by rw [dpa_len ha']; exact hl), ?_⟩
          refine p1 { w1 with H := upd w1.H q (.lst (xs' ++ [y])) } (upd_nx hO') .non ?_ .non
          exact s1.updS (slot_get ev) hO' ⟨q, _, rfl, hO', upd_same, dpa_app ha' (dpa_one d1)⟩
        · rw [if_neg hl] at p1
          exact False.elim p1
      | _ => rw [hg1] at p1; exact False.elim p1
    | _ => rw [hg] at p; exact False.elim p
theorem de_ext (i : Nat) {x : Str} {e : Expr} {m : En → R Ent} {px apos cpos : Pos} (he : PE X e (tOf κ W m)) (hN : X.N[i]? = some x := by rfl)
    (hv : Vis X.env.scope x := by first | exact Or.inl rfl | exact Or.inr (Or.inl rfl) | exact Or.inr (Or.inr rfl)) (hd : (x == ("__debug__" : Str)) = false := by decide) (hcd : (x == ("__classdict__" : Str)) = false := by decide)
    (hbase : attributeBase (.Name x px) "extend" X.env (eval (.Name x px) X.env) = eval (.Name x px) X.env := by rfl)
    (hfew : ((backTo cpos (starEach (e :: []) X.env)).all (fun x => !x.1) && (backToKw cpos (keywordEach [] X.env)).all (fun x => x.1.isSome) && decide ((e :: []).length + ([] : List Keyword).length + (if ([] : List Keyword).isEmpty then 0 else 1) < 30)) = true := by rfl)
    (hline : (apos.endLine == cpos.line) = true := by rfl) (hs : starEach (e :: []) X.env = (false, eval e X.env) :: starEach [] X.env := by rfl) (hplain : (backTo cpos (starEach [] X.env)).any (·.1) = false := by rfl) :
    PE X (.Call (.Attribute (.Name x px) "extend" apos) [e] [] cpos) (tOf κ W (eExt i m)) :=
  pe_imp (pe_bm F.plainAttrs_list F.slot_list_extend F.type_list_extend mt_extend (pv i hN hv hd hcd) (pa_cons he pa_nil hs) hbase hfew hline hs hplain) fun σ H Q ⟨w, en, hw, s, p⟩ => by
    subst hw
    unfold eExt at p
    cases hg : en.get i with
    | ow ds0 =>
      rw [hg] at p
      obtain ⟨q, xs, ev, hO, hH, ha⟩ := ow_at s hg
      refine ⟨_, ev, .inl ⟨rfl, xs, SqL.of hH⟩, ?_⟩
      refine goD s p fun d e1 y w1 n1 s1 d1 p1 => ?_
      cases hg1 : e1.get i with
      | ow ds =>
        rw [hg1] at p1
        obtain ⟨q', xs', ev', hO', hH', ha'⟩ := ow_at s1 hg1
        rw [ev] at ev'
        cases ev'
        cases d with
        | list es =>
          obtain ⟨b, zs, rfl, hb, hz⟩ := dp_list d1
          dsimp only at p1
          by_cases hl : ds.length + es.length ≤ lim
          · rw [if_pos hl] at p1
            refine ⟨q, b, xs', zs, rfl, rfl, hH', s1.wo.su _ _ hb, lim_ok (by rw [dpa_len ha', dpa_len hz]; exact hl), ?_⟩
            refine p1 { w1 with H := upd w1.H q (.lst (xs' ++ zs)) } (upd_nx hO') .non ?_ .non
            exact s1.updS (slot_get ev) hO' ⟨q, _, rfl, hO', upd_same, dpa_app ha' hz⟩
          · rw [if_neg hl] at p1
            exact False.elim p1
        | _ => exact False.elim p1
      | _ => rw [hg1] at p1; exact False.elim p1
    | _ => rw [hg] at p; exact False.elim p

/-! ### op= -/
def sAug (i : Nat) (g : D → D → En → R Ent) (m : En → R Ent) (en : En) : R Fl := match en.get i with
  | .sh a => (dv m en).bind fun b e1 => (dv (g a b) e1).bind fun c e2 => .ok .nx (e2.set i (.sh c))
  | _ => .st
theorem od_iadd : OpD X κ (inplaceOp .Add) (fun a b e => match a, b with | .int i, .int j => .ok (.sh (.int (i + j))) e | .str x, .str y => if x.length + y.length ≤ lim then .ok (.sh (.str (x ++ y))) e else .st | _, _ => .st) := by
  refine opd_of (iop_add.or iop_add_str) fun W w σ en x y a b Q s ha hb p => ?_
  cases ha with
  | int i =>
    cases hb with
    | int j => exact .inl ⟨i, j, rfl, rfl, fin_sh s p (.int _)⟩
    | _ => exact False.elim p
  | str i =>
    cases hb with
    | str j =>
      have p' : Po κ W w (if i.length + j.length ≤ lim then R.ok (Ent.sh (.str (i ++ j))) en else .st) (Qe κ σ Q) := p
      by_cases hl : i.length + j.length ≤ lim
      · rw [if_pos hl] at p'
        exact .inr ⟨i, j, rfl, rfl, lim_ok hl, fin_sh s p' (.str _)⟩
      · rw [if_neg hl] at p'
        exact p'.elim
    | _ => exact False.elim p
  | _ => exact False.elim p
def gIadd (a b : D) (e : En) : R Ent := match a, b with | .int i, .int j => .ok (.sh (.int (i + j))) e | .str x, .str y => if x.length + y.length ≤ lim then .ok (.sh (.str (x ++ y))) e else .st | _, _ => .st
noncomputable def gImul (a b : D) (e : En) : R Ent := match a, b with | .int i, .int j => cIf ((-(2 ^ 64) < i ∧ i < 2 ^ 64) ∨ (-(2 ^ 64) < j ∧ j < 2 ^ 64)) (.ok (.sh (.int (i * j))) e) .st | _, _ => .st
theorem od_isub : OpD X κ (inplaceOp .Sub) gSub := by
  refine opd_of iop_sub fun W w σ en x y a b Q s ha hb p => ?_
  cases ha with
  | int i =>
    cases hb with
    | int j => exact ⟨i, j, rfl, rfl, fin_sh s p (.int _)⟩
    | _ => exact False.elim p
  | _ => exact False.elim p
theorem od_imul : OpD X κ (inplaceOp .Mult) gImul := by
  refine opd_of iop_mul fun W w σ en x y a b Q s ha hb p => ?_
  cases ha with
  | int i =>
    cases hb with
    | int j =>
      have p' : Po κ W w (cIf ((-(2 ^ 64) < i ∧ i < 2 ^ 64) ∨ (-(2 ^ 64) < j ∧ j < 2 ^ 64)) (R.ok (Ent.sh (.int (i * j))) en) .st) (Qe κ σ Q) := p
      by_cases hl : (-(2 ^ 64) < i ∧ i < 2 ^ 64) ∨ (-(2 ^ 64) < j ∧ j < 2 ^ 64)
      · rw [cIf_pos hl] at p'
        exact ⟨i, j, rfl, rfl, hl, fin_sh s p' (.int _)⟩
      · rw [cIf_neg hl] at p'
        exact p'.elim
    | _ => exact False.elim p
  | _ => exact False.elim p
theorem od_iadd' : OpD X κ (inplaceOp .Add) gIadd := od_iadd
theorem StR.setSh {i : Nat} {v : V} {d : D} (s : StR κ w σ en) (hd : Dq w.G v d) : ∃ w', Nx w w' ∧ w'.H = w.H ∧ StR κ w' (σ.set i (some v)) (en.set i (.sh d)) := by
  obtain ⟨w', n, h1, _, h3⟩ := s.store (r := .sh d) i hd (fun z => nomatch z)
  exact ⟨w', n, h1, h3⟩
theorem ds_aug (i : Nat) {x : Str} {e : Expr} {op : Operator} {g : D → D → En → R Ent} {m : En → R Ent} {pos pos' : Pos} (hN : X.N.Nodup) (ho : OpD X κ (inplaceOp op) g) (he : PE X e (tOf κ W m)) (hi : X.N[i]? = some x := by rfl) (hx : Loc X.env.scope x := by first | exact Or.inl rfl | exact Or.inr rfl)
    (hf : X.fn x = true ∨ X.env.scope.names.lookup x = some .local := by first | exact .inl rfl | exact .inr rfl) : PS X (.AugAssign (.Name x pos') op e pos) (tSOf κ W (sAug i g m)) := by
  obtain ⟨r, hr, hg⟩ := ho
  refine ps_imp (ps_aug (ti := r) hN hi hx he (fun pins s σ H x y v u Q I r1 r2 h => hr pins s σ H x y v u Q I r1 r2 h) hf) fun Dn σ H ⟨w, en, hw, s, p⟩ => ?_
  subst hw
  unfold sAug at p
  cases hgi : en.get i with
  | sh a =>
    rw [hgi] at p
    obtain ⟨v, ev, er⟩ := s.at (i := i) (by rw [hgi]; intro z; cases z)
    rw [hgi] at er
    refine ⟨v, ev, ?_⟩
    refine goD s p fun b e1 y w1 n1 s1 d1 p1 => ?_
    refine hg W w1 σ e1 v y a b _ s1 (dp_mono n1.g _ _ er) d1 ?_
    refine poD (m := g a b) (Q1 := fun z H3 => Dn.nx (σ.set i (some z)) H3) s1 p1 fun c e2 z w2 n2 s2 d2 p2 => ?_
    obtain ⟨w3, n3, h3, s3⟩ := s2.setSh (i := i) d2
    have q := p2 w3 n3 _ s3
    rw [h3] at q
    exact q
  | _ => rw [hgi] at p; exact False.elim p
/-- xs[k] += n -/
theorem get_listI : PGet X (fun x y H Q => ∃ p xs k v, x = .ref p ∧ y = .int k ∧ H p = some (.lst xs) ∧ 0 ≤ k ∧ k < 2 ^ 62 ∧ xs[k.toNat]? = some v ∧ Q v H) := by
  intro pins s σ H o i ov iv Q I ro ri h
  obtain ⟨p, xs, k, v, rfl, rfl, hp, h0, h1, h2, q⟩ := h
  cases ro
  obtain ⟨t, rfl⟩ := ri
  obtain ⟨its, n, r, ho, hz⟩ := I.lst hp
  obtain ⟨u, hu, ru⟩ := r.get h2
  have e1 : (2:Int)^63 = 9223372036854775808 := by decide
  have e2 : (2:Int)^62 = 4611686018427387904 := by decide
  exact wpAny_getItem_list (items := its.toArray) ⟨_, ho, rfl, n, rfl⟩ h0 (by omega) (by simpa using hu) ⟨v, H, I, ru, q⟩
def sAugL (i : Nat) (mi m : En → R Ent) (en : En) : R Fl := match en.get i with
  | .ow _ => (dv mi en).bind fun k e1 => match k, e1.get i with
    | .int k, .ow ds => if 0 ≤ k ∧ k < 100000 then match ds[k.toNat]? with
      | some (.int a) => (dv m e1).bind fun b e2 => match b, e2.get i with
        | .int b, .ow ds2 => if k.toNat < ds2.length then .ok .nx (e2.set i (.ow (ds2.set k.toNat (.int (a + b))))) else .st
        | _, _ => .st
      | _ => .st
      else .st
    | _, _ => .st
  | _ => .st
theorem ds_augL (i : Nat) {x : Str} {ei e : Expr} {mi m : En → R Ent} {px tpos pos : Pos} (hi : PE X ei (tOf κ W mi)) (he : PE X e (tOf κ W m)) (hN : X.N[i]? = some x := by rfl)
    (hv : Vis X.env.scope x := by first | exact Or.inl rfl | exact Or.inr (Or.inl rfl) | exact Or.inr (Or.inr rfl)) (hd : (x == ("__debug__" : Str)) = false := by decide) (hcd : (x == ("__classdict__" : Str)) = false := by decide)
    (ha : ∀ ov iv new, augStore ei ov iv new = (do holding [new, ov, iv] (setItem ov iv new); release [new, ov, iv] []; pure .next) := by intros; rfl) :
    PS X (.AugAssign (.Subscript (.Name x px) ei tpos) .Add e pos) (tSOf κ W (sAugL i mi m)) := by
  refine ps_imp (ps_augS (pv i hN hv hd hcd) hi get_listI he ip_add set_list ha) fun Dn σ H ⟨w, en, hw, s, p⟩ => ?_
  subst hw
  unfold sAugL at p
  cases hg : en.get i with
  | ow ds0 =>
    rw [hg] at p
    obtain ⟨q, xs, ev, hO, hH, hal⟩ := ow_at s hg
    refine ⟨_, ev, ?_⟩
    refine goD s p fun k e1 y w1 n1 s1 d1 p1 => ?_
    cases k with
    | int k =>
      have := dp_int d1
      subst this
      cases hg1 : e1.get i with
      | ow ds =>
        rw [hg1] at p1
        dsimp only at p1
        obtain ⟨q', xs', ev', hO', hH', ha'⟩ := ow_at s1 hg1
        rw [ev] at ev'
        cases ev'
        by_cases hk : 0 ≤ k ∧ k < 100000
        · rw [if_pos hk] at p1
          cases hz : ds[k.toNat]? with
          | none => rw [hz] at p1; exact False.elim p1
          | some z =>
            rw [hz] at p1
            obtain ⟨v, hv1, hv2⟩ := dpa_get ha' hz
            cases z with
            | int a =>
              have := dp_int hv2
              subst this
              have e62 : (2:Int)^62 = 4611686018427387904 := by decide
              refine ⟨q, xs', k, .int a, rfl, rfl, hH', hk.1, by omega, hv1, ?_⟩
              refine goD s1 p1 fun b e2 y2 w2 n2 s2 d2 p2 => ?_
              cases b with
              | int b =>
                have := dp_int d2
                subst this
                refine ⟨a, b, rfl, rfl, ?_⟩
                cases hg2 : e2.get i with
                | ow ds2 =>
                  rw [hg2] at p2
                  dsimp only at p2
                  obtain ⟨q2, xs2, ev2, hO2, hH2, ha2⟩ := ow_at s2 hg2
                  rw [ev] at ev2
                  cases ev2
                  by_cases hl : k.toNat < ds2.length
                  · rw [if_pos hl] at p2
                    refine ⟨q, xs2, k, k.toNat, rfl, rfl, hH2, ?_, ?_⟩
                    · unfold ixN
                      rw [if_pos hk.1, if_pos (by rw [dpa_len ha2]; omega)]
                    · refine p2 { w2 with H := upd w2.H q (.lst (xs2.set k.toNat (.int (a + b)))) } (upd_nx hO2) _ ?_
                      exact s2.updS (slot_get ev) hO2 ⟨q, _, rfl, hO2, upd_same, dpa_set _ ha2 (.int _)⟩
                  · rw [if_neg hl] at p2
                    exact False.elim p2
                | _ => rw [hg2] at p2; exact False.elim p2
              | _ => exact False.elim p2
            | _ => exact False.elim p1
        · rw [if_neg hk] at p1
          exact False.elim p1
      | _ => rw [hg1] at p1; exact False.elim p1
    | _ => exact False.elim p1
  | _ => rw [hg] at p; exact False.elim p

/-! ### .replace of written texts: behind a written text -/
def eRepl (m : En → R Ent) (y z : Str) (en : En) : R Ent := (dv m en).bind fun d e => match d with | .str x => if x.length + (x.length + 1) * z.length ≤ lim then .ok (.sh (.str (Txt.replace x y z))) e else .st | _ => .st
def PED (X : Cx) (κ : Kx) (W : WX) (e : Expr) (m : En → R Ent) : Prop := PET X e (tOf κ W m)
def PAD (X : Cx) (κ : Kx) (W : WX) (es : List Expr) (ms : En → R (List Ent)) : Prop := PAT X es (tAOf κ W ms)
theorem dr_of {e : Expr} {m : En → R Ent} (h : PE X e (tOf κ W m)) : PED X κ W e m := CwR.PET.of h
theorem dr_repl {o : Expr} {m : En → R Ent} {y z : Str} {j k : Nat} {c0 c1 apos pos : Pos} (ho : PE X o (tOf κ W m)) (hyz : (y == z) = false := by decide)
    (hst : starEach [.Constant (.str y) j c0, .Constant (.str z) k c1] X.env = [(false, eval (.Constant (.str y) j c0) X.env), (false, eval (.Constant (.str z) k c1) X.env)] := by rfl)
    (hbase : attributeBase o "replace" X.env (eval o X.env) = eval o X.env := by rfl) (hline : (apos.endLine == pos.line) = true := by rfl) :
    PED X κ W (.Call (.Attribute o "replace" apos) [.Constant (.str y) j c0, .Constant (.str z) k c1] [] pos) (eRepl m y z) := by
  intro pins s σ H Q h0 I h
  refine CwR.pet_replC ho hyz hst hbase hline pins s σ H Q h0 I ?_
  obtain ⟨w, en, hw, st, p⟩ := h
  subst hw
  refine goD st p fun d e1 v w1 n1 s1 d1 p1 => ?_
  cases d with
  | str x =>
    have p' : Po κ W w1 (if x.length + (x.length + 1) * z.length ≤ lim then R.ok (Ent.sh (.str (Txt.replace x y z))) e1 else .st) (Qe κ σ Q) := p1
    by_cases hl : x.length + (x.length + 1) * z.length ≤ lim
    · rw [if_pos hl] at p'
      exact ⟨x, dp_str d1, Nat.le_trans hl (by decide), fin_sh s1 p' (.str _)⟩
    · rw [if_neg hl] at p'
      exact False.elim p'
  | _ => exact False.elim p1
theorem pat_imp {es : List Expr} {t t' : TA} (h : PAT X es t) (f : ∀ σ H Q, t' σ H Q → t σ H Q) : PAT X es t' := fun pos pins s σ H Q h0 I hq => h pos pins s σ H Q h0 I (f σ H Q hq)
theorem tCons_of {m : En → R Ent} {ms : En → R (List Ent)} {σ : St} {H : Hp} {Q : List V → Hp → Prop} (q : tAOf κ W (aCons m ms) σ H Q) : tCons (tOf κ W m) (tAOf κ W ms) σ H Q := by
  obtain ⟨w, en, hw, s, p⟩ := q
  subst hw
  refine goE s p fun r e1 v w1 n1 s1 a1 p1 => ?_
  exact goA s1 p1 fun rs e2 vs w2 n2 s2 a2 p2 => p2 w2 (Nx.refl _) (v :: vs) s2 (.cons (a1.mono n2) a2)
theorem dra_nil : PAD X κ W [] aNil := pat_imp pat_nil fun σ H Q ⟨w, en, hw, s, p⟩ => by
  subst hw
  exact p w (Nx.refl _) [] s .nil
theorem dra_cons {e : Expr} {es : List Expr} {m : En → R Ent} {ms : En → R (List Ent)} (h : PED X κ W e m) (hs : PAD X κ W es ms) (hst : starEach (e :: es) X.env = (false, eval e X.env) :: starEach es X.env := by rfl) : PAD X κ W (e :: es) (aCons m ms) :=
  pat_imp (pat_cons h hs hst) fun σ H Q q => tCons_of q
/-- behind a written text a token is out -/
theorem da_tok {c : Str} {j : Nat} {p : Pos} {es : List Expr} {ms : En → R (List Ent)} (hs : PAD X κ W es ms) (hst : starEach (.Constant (.str c) j p :: es) X.env = (false, eval (.Constant (.str c) j p) X.env) :: starEach es X.env := by rfl) :
    PA X (.Constant (.str c) j p :: es) (tAOf κ W (aCons (eC (.str c)) ms)) := by
  refine ⟨fun pos pins s σ H Q I h => ?_⟩
  obtain ⟨w, en, hw, st, po⟩ := h
  subst hw
  rw [hst]
  show wpAny _ _ (spliced ((false, eval (.Constant (.str c) j p) X.env) :: backTo pos (starEach es X.env))) _ _ s
  refine Calls.spliced_cons (Calls.Constant_str ?_)
  have q : tAOf κ W ms σ w.H (fun vs H2 => Q (V.str c :: vs) H2) := by
    have po' : Po κ W w ((ms en).bind fun rs e2 => .ok (.sh (.str c) :: rs) e2) (fun rs en' w' => ∀ vs, StR κ w' σ en' → ArgsR κ w' vs rs → Q vs w'.H) := po
    exact goA st po' fun rs e2 vs w2 n2 s2 a2 p2 => p2 w2 (Nx.refl _) (V.str c :: vs) s2 (.cons (.str c) a2)
  refine wpAny_mono (hs pos pins { s with toks := s.toks + 1 } σ w.H _ (Nat.le_add_left 1 _) (I.tok _) q) (fun us s2 ⟨xs, H2, I2, r2, q2⟩ => ⟨V.str c :: xs, H2, I2, .cons ⟨_, rfl⟩ r2, q2⟩) fun _ _ z => z
end
end CO

/-! CoK: what the top has written, in short. -/
namespace CO
open PySem PySem.Spec PyProof.Rows L2

theorem u100 {k : Nat} {A : Around} (hr : Room k A) : A.units + 100 < cLine := by have := hr.un; omega
theorem u1 {k : Nat} {A : Around} (hr : Room k A) : A.units + 1 < cLine := by have := hr.un; omega
theorem u64 {k : Nat} {A : Around} (hr : Room k A) : A.units + 64 < cLine := by have := hr.un; omega
theorem u65 {k : Nat} {A : Around} (hr : Room k A) : A.units + 65 < cLine := by have := hr.un; omega
/-- an own error's class, the c-th, under the name nm -/
structure ExnOk (K : PySem.W.Frag) (mg : Str → Option Value) (κ : Kx) (c : Nat) (nm : Str) : Prop where
  g : mg nm = some (.ref (κ.ec c))
  k : PySem.W.keepIn K (.ref (κ.ec c)) = true
  e : PySem.W.excIn K (κ.ec c) [.type "ValueError", .type "Exception", .type "BaseException", .type "object"] "ValueError.__new__" = true
  s : PySem.W.subIn K (.ref (κ.ec c)) (.type "BaseException") = some true
  t : PySem.W.typeIn K (.ref (κ.ec c)) = some (.type "type")
def FunOk (K : PySem.W.Frag) (mg : Str → Option Value) (x : Str) (st : Stmt) (ps : List Str) : Prop := ∃ f fd, Fun K x x st f fd ∧ mg x = some (.ref f) ∧ Binds K fd ps []
section
variable {X : Cx} {κ : Kx} {W : WX}
theorem ds_raiseX (c : Nat) {x mm : Str} {j : Nat} {p p2 pos' pos : Pos} (hc : X.calm = true) (tk : Takes X W) (h : ExnOk X.K X.mg κ c x) (hg : Gl X x := by rfl) (hdb : (x == ("__debug__" : Str)) = false := by decide) :
    PS X (.Raise (some (.Call (.Name x p) [.Constant (.str mm) j p2] [] pos')) none pos) (tSOf κ W (sEx_ c)) :=
  ds_raise c hc tk F.excBase_ValueError h.e h.g h.k (raises_own h.s h.t) hg hdb
/-- -n -/
def eNeg (m : En → R Ent) (en : En) : R Ent := (dv m en).bind fun a e => match a with | .int i => .ok (.sh (.int (-i))) e | _ => .st
theorem de_neg {e : Expr} {m : En → R Ent} {pos : Pos} (he : PE X e (tOf κ W m)) : PE X (.UnaryOp .USub e pos) (tOf κ W (eNeg m)) :=
  pe_imp (pe_un un_neg he) fun σ H Q ⟨w, en, hw, s, p⟩ => by
    subst hw
    refine goD s p fun a e1 v w1 n1 s1 d1 p1 => ?_
    cases a with
    | int i => exact ⟨i, dp_int d1, fin_sh s1 p1 (.int _)⟩
    | _ => exact False.elim p1
end
end CO

/-! CoL: the law's script and town. -/
namespace CO
open PySem PySem.Spec PyProof.Rows L2
def eLenSc (i : Nat) (en : En) : R Ent := match en.get i with | .sc ns => .ok (.sh (.int ns.length)) en | _ => .st
def eIxSc (i : Nat) (m : En → R Ent) (en : En) : R Ent := match en.get i with
  | .sc ns => (dv m en).bind fun k e => match k with | .int k => (match atI ns k with | some n => .ok (.sh (.int n)) e | none => .st) | _ => .st
  | _ => .st
def eScNil (i : Nat) (en : En) : R Ent := match en.get i with | .sc ns => .ok (.sh (.bool ns.isEmpty)) en | _ => .st
def eAppTn (i : Nat) (en : En) : R Ent := match en.get i with
  | .wr j => (match en.wd[j]? with | some (.tn k) => if k < lim then .ok (.sh .none) { en with wd := en.wd.set j (.tn (k + 1)) } else .st | _ => .st)
  | _ => .st
section
variable {X : Cx} {κ : Kx} {W : WX} {w : Sn} {σ : St} {en : En}
theorem sc_at {i : Nat} {ns : List Int} (s : StR κ w σ en) (h : en.get i = .sc ns) : ∃ a, σ[i]? = some (some (.ref a)) ∧ SqL κ.K w.H a (ns.map V.int) := by
  obtain ⟨v, e1, e2⟩ := s.at (i := i) (by rw [h]; intro z; cases z)
  rw [h] at e2
  obtain ⟨a, rfl, q⟩ := e2
  exact ⟨a, e1, s.wo.su.seq q⟩
theorem de_lenSc (i : Nat) {x : Str} {p px pos : Pos} (hK : X.K = κ.K) (hm : X.mg "len" = none) (hg : Gl X "len" := by rfl) (hN : X.N[i]? = some x := by rfl)
    (hv : Vis X.env.scope x := by first | exact Or.inl rfl | exact Or.inr (Or.inl rfl) | exact Or.inr (Or.inr rfl)) (hd : (x == ("__debug__" : Str)) = false := by decide) (hcd : (x == ("__classdict__" : Str)) = false := by decide)
    (he : starEach [.Name x px] X.env = (false, eval (.Name x px) X.env) :: starEach [] X.env := by rfl) (hpl : (backTo pos (starEach [] X.env)).any (·.1) = false := by rfl) :
    PE X (.Call (.Name "len" p) [.Name x px] [] pos) (tOf κ W (eLenSc i)) :=
  pe_imp (pe_callB call_len hg hm PySem.boot_len (pa_cons (pv i hN hv hd hcd) pa_nil he) (by decide) (by decide) he hpl) fun σ H Q ⟨w, en, hw, s, p⟩ => by
    subst hw
    unfold eLenSc at p
    cases hq : en.get i with
    | sc ns =>
      rw [hq] at p
      obtain ⟨a, ev, hs⟩ := sc_at s hq
      exact ⟨_, ev, _, ns.length, rfl, .inl ⟨_, by rw [hK]; exact hs, by rw [List.length_map]⟩, fin_sh s p (.int _)⟩
    | _ => rw [hq] at p; exact False.elim p
theorem de_ixSc (i : Nat) {x : Str} {b : Expr} {mi : En → R Ent} {px pos : Pos} (hK : X.K = κ.K) (hb : PE X b (tOf κ W mi)) (hs : PlainIx b := by exact fun _ _ => rfl) (hN : X.N[i]? = some x := by rfl)
    (hv : Vis X.env.scope x := by first | exact Or.inl rfl | exact Or.inr (Or.inl rfl) | exact Or.inr (Or.inr rfl)) (hd : (x == ("__debug__" : Str)) = false := by decide) (hcd : (x == ("__classdict__" : Str)) = false := by decide) :
    PE X (.Subscript (.Name x px) b pos) (tOf κ W (eIxSc i mi)) :=
  pe_imp (pe_ix ix_seq (pv i hN hv hd hcd) hb hs) fun σ H Q ⟨w, en, hw, s, p⟩ => by
    subst hw
    unfold eIxSc at p
    cases hq : en.get i with
    | sc ns =>
      rw [hq] at p
      obtain ⟨a, ev, h1⟩ := sc_at s hq
      obtain ⟨v', ev', er⟩ := s.at (i := i) (by rw [hq]; intro z; cases z)
      rw [hq] at er
      obtain ⟨a', rfl, ha'⟩ := er
      rw [ev] at ev'
      cases ev'
      refine ⟨_, ev, ?_⟩
      refine goD s p fun k e1 v1 w1 n1 s1 d1 p1 => ?_
      cases k with
      | int k =>
        have := dp_int d1
        subst this
        dsimp only at p1
        cases e : atI ns k with
        | none => rw [e] at p1; exact False.elim p1
        | some n =>
          rw [e] at p1
          refine .inl ⟨a, ns.map V.int, k, .int n, rfl, rfl, by rw [hK]; exact s1.wo.su.seq (n1.g.seq ha'), ?_, fin_sh s1 p1 (.int _)⟩
          unfold atI at e ⊢
          rw [List.length_map]
          cases q : ixN ns.length k with
          | none => rw [q] at e; cases e
          | some j =>
            rw [q] at e
            show (ns.map V.int)[j]? = some (V.int n)
            rw [List.getElem?_map, show ns[j]? = some n from e]
            rfl
      | _ => exact False.elim p1
    | _ => rw [hq] at p; exact False.elim p
theorem dpa_intsH {K : PySem.W.Frag} {H : Hp} : ∀ ns : List Int, DpAll K H (ns.map V.int) (ns.map .int)
  | [] => .nil
  | n :: ns => .cons (.int n) (dpa_intsH ns)
theorem lay_ints : ∀ ns : List Int, PyData.canLayAll0 (ns.map .int) = true ∧ PyData.depthAll (ns.map .int) = 0
  | [] => ⟨by simp [PyData.canLayAll0], by simp [PyData.depthAll]⟩
  | n :: ns => by
    obtain ⟨h1, h2⟩ := lay_ints ns
    exact ⟨by simp [PyData.canLayAll0, PyData.canLay0, h1], by simp [PyData.depthAll, PyData.depth, h2]⟩
theorem shaped_ints (ns : List Int) : SeqAt.shaped (.list (ns.map .int)) = true := by
  obtain ⟨h1, h2⟩ := lay_ints ns
  unfold SeqAt.shaped
  simp [PyData.canLay0, PyData.depth, h1, h2]
theorem dt_scNil (i : Nat) {x : Str} {px p2 pos : Pos} (hK : X.K = κ.K) (hu : X.A.units + 64 < cLine) (hN : X.N[i]? = some x := by rfl) (hv : Vis X.env.scope x := by first | exact Or.inl rfl | exact Or.inr (Or.inl rfl) | exact Or.inr (Or.inr rfl)) (hd : (x == ("__debug__" : Str)) = false := by decide)
    (hcd : (x == ("__classdict__" : Str)) = false := by decide) (hm : behindInMarks .Eq (.List [] p2) = false := by first | exact nomark _ | rfl) : PT X (.Compare (.Name x px) [.Eq] [.List [] p2] pos) (tTOf κ W (tst (eScNil i))) :=
  pt_imp (pt_cmpR (op_eqD hu) (pv i hN hv hd hcd) (pe_lst pa_nil) hm) fun σ H Q q => tTest_of (m := eScNil i) (fun σ H Q ⟨w, en, hw, s, p⟩ => by
    subst hw
    unfold eScNil at p
    cases hq : en.get i with
    | sc ns =>
      rw [hq] at p
      obtain ⟨a, ev, hs⟩ := sc_at s hq
      refine ⟨_, ev, by decide, fun b hb => ?_⟩
      have n1 := grow_nx (o := .lst []) s.wo.su hb
      have s1 := s.grow (o := .lst []) hb
      have hG : SqL κ.K w.G a (ns.map V.int) := by
        obtain ⟨v', ev', er⟩ := s.at (i := i) (by rw [hq]; intro z; cases z)
        rw [hq] at er
        obtain ⟨a', rfl, ha'⟩ := er
        rw [ev] at ev'
        cases ev'
        exact ha'
      have hA : SqL X.K (upd w.H b (.lst [])) a (ns.map V.int) := by
        rw [hK]
        exact s1.wo.su.seq (n1.g.seq hG)
      have hB : SqL X.K (upd w.H b (.lst [])) b [] := SqL.of upd_same
      have e : PyData.eqv (.list (ns.map .int)) (.list []) = ns.isEmpty := by
        cases ns <;> simp [PyData.eqv, PyData.eqvAll]
      refine ⟨.list (ns.map .int), .list [], .lst hA (dpa_intsH ns), .lst hB .nil, shaped_ints ns, by decide, ?_⟩
      rw [e]
      exact p (grow w b (.lst [])) n1 (.bl ns.isEmpty) s1 (.bl _)
    | _ => rw [hq] at p; exact False.elim p) q

/-! ### the town -/
theorem StR.updW {j : Nat} {p : Addr} {o : HO} {ob : Ob} (s : StR κ w σ en) (hp : w.ad[j]? = some p) (hO : w.O p = some (.w j)) (hr : ObR κ { w with H := upd w.H p o } (.w j) p ob) : StR κ { w with H := upd w.H p o } σ { en with wd := en.wd.set j ob } := by
  have ne : ∀ {q : Addr} {jx : Ix}, w.O q = some jx → jx ≠ .w j → q ≠ p := fun e hj z => by
    rw [z, hO] at e
    exact hj (Option.some.inj e).symm
  refine ⟨⟨s.wo.fr, fun b u e => ?_, by show w.ad.length = (en.wd.set j ob).length; rw [List.length_set]; exact s.wo.wl, fun k ob' q e1 e2 => ?_⟩, s.ln, fun k => ?_⟩
  · have e' : w.G b = some u := e
    have nb : b ≠ p := fun z => by rw [z, s.wo.fr p _ hO] at e'; cases e'
    exact (upd_ne nb).trans (s.wo.su b u e')
  · by_cases hk : j = k
    · subst hk
      have e1' : (en.wd.set j ob)[j]? = some ob' := e1
      have e2' : w.ad[j]? = some q := e2
      rw [hp] at e2'
      cases e2'
      have hl : j < en.wd.length := by rw [← s.wo.wl]; exact (List.getElem?_eq_some_iff.mp hp).1
      rw [List.getElem?_set_self hl] at e1'
      cases e1'
      exact hr
    · have e1' : (en.wd.set j ob)[k]? = some ob' := e1
      rw [List.getElem?_set_ne hk] at e1'
      have x := s.wo.wd k ob' q e1' e2
      have nw : Ix.w k ≠ Ix.w j := fun z => hk (by injection z with z; exact z.symm)
      cases ob' with
      | tn m => exact ⟨x.1, (upd_ne (ne x.1 nw)).trans x.2⟩
      | tb g rows kept =>
        obtain ⟨dx, l, vg, rs, a1, a2, a3, a4, a5, a6, a7, a8⟩ := x
        exact ⟨dx, l, vg, rs, a1, a2, a3, (upd_ne (ne a1 nw)).trans a4, (upd_ne (ne a2 nw)).trans a5, (upd_ne (ne a3 nw)).trans a6, a7, a8⟩
  · rcases s.sl k with q | ⟨u, q1, q2⟩
    · exact .inl q
    · refine .inr ⟨u, q1, ?_⟩
      have nk : Ix.s k ≠ Ix.w j := fun z => nomatch z
      show EntR κ { w with H := upd w.H p o } (.s k) u (en.get k)
      cases hg : en.get k with
      | no => trivial
      | sh d => rw [hg] at q2; exact q2
      | ow ds =>
        rw [hg] at q2
        obtain ⟨q, xs, e1, e2, e3, e4⟩ := q2
        exact ⟨q, xs, e1, e2, (upd_ne (ne e2 nk)).trans e3, e4⟩
      | dk kvs =>
        rw [hg] at q2
        obtain ⟨q, xs, e1, e2, e3, e4⟩ := q2
        exact ⟨q, xs, e1, e2, (upd_ne (ne e2 nk)).trans e3, e4⟩
      | wr j => rw [hg] at q2; exact q2
      | sc => rw [hg] at q2; exact q2
      | fz kvs => rw [hg] at q2; exact q2
theorem de_appTn (i : Nat) {x : Str} {j0 : Nat} {pc px apos cpos : Pos} (hN : X.N[i]? = some x := by rfl)
    (hv : Vis X.env.scope x := by first | exact Or.inl rfl | exact Or.inr (Or.inl rfl) | exact Or.inr (Or.inr rfl)) (hd : (x == ("__debug__" : Str)) = false := by decide) (hcd : (x == ("__classdict__" : Str)) = false := by decide)
    (hbase : attributeBase (.Name x px) "append" X.env (eval (.Name x px) X.env) = eval (.Name x px) X.env := by rfl)
    (hfew : ((backTo cpos (starEach (.Constant (.int 0) j0 pc :: []) X.env)).all (fun x => !x.1) && (backToKw cpos (keywordEach [] X.env)).all (fun x => x.1.isSome) && decide ((Expr.Constant (.int 0) j0 pc :: []).length + ([] : List Keyword).length + (if ([] : List Keyword).isEmpty then 0 else 1) < 30)) = true := by rfl)
    (hline : (apos.endLine == cpos.line) = true := by rfl) (hs : starEach (.Constant (.int 0) j0 pc :: []) X.env = (false, eval (.Constant (.int 0) j0 pc) X.env) :: starEach [] X.env := by rfl) (hplain : (backTo cpos (starEach [] X.env)).any (·.1) = false := by rfl) :
    PE X (.Call (.Attribute (.Name x px) "append" apos) [.Constant (.int 0) j0 pc] [] cpos) (tOf κ W (eAppTn i)) :=
  pe_imp (pe_bm F.plainAttrs_list F.slot_list_append F.type_list_append mt_append (pv i hN hv hd hcd) (pa_cons pe_int pa_nil hs) hbase hfew hline hs hplain) fun σ H Q ⟨w, en, hw, s, p⟩ => by
    subst hw
    unfold eAppTn at p
    cases hg : en.get i with
    | wr j =>
      rw [hg] at p
      obtain ⟨v, ev, er⟩ := s.at (i := i) (by rw [hg]; intro z; cases z)
      rw [hg] at er
      obtain ⟨q, rfl, ea⟩ := er
      dsimp only at p
      cases eo : en.wd[j]? with
      | none => rw [eo] at p; exact False.elim p
      | some ob =>
        rw [eo] at p
        cases ob with
        | tn k =>
          dsimp only at p
          obtain ⟨hO, hH⟩ := s.wo.wd j _ q eo ea
          by_cases hl : k < lim
          · rw [if_pos hl] at p
            refine ⟨_, ev, .inl ⟨rfl, _, SqL.of hH⟩, q, _, .int 0, rfl, rfl, hH, by rw [List.length_replicate]; exact lim_lt hl, ?_⟩
            have e : List.replicate k (V.int 0) ++ [V.int 0] = List.replicate (k + 1) (V.int 0) := List.replicate_succ'.symm
            rw [e]
            exact p { w with H := upd w.H q (.lst (List.replicate (k + 1) (.int 0))) } (upd_nx hO) .non (s.updW ea hO ⟨hO, upd_same⟩) .non
          · rw [if_neg hl] at p
            exact False.elim p
        | tb g rows kept => exact False.elim p
    | _ => rw [hg] at p; exact False.elim p
end
end CO

/-! CoM: sorted over data, tuples with nothing in them too. -/
namespace CoSort
open PySem PySem.SeqAt PySem.W PyProof.Rows
section
variable {prog : Program} {w : World} {A : Around} {E : Value → Shared → Prop} {s : Shared}
theorem tup_lt_call {Q : Value → Shared → Prop} {p q : Addr} {xs ys : Array Value} {e r : Nat → Bool} (hp : s.heap.IsTuple p xs) (hq : s.heap.IsTuple q ys)
    (he : ∀ j (h1 : j < xs.size) (h2 : j < ys.size), EqAt A.in1 s xs[j] ys[j] (e j)) (hr : ∀ j (h1 : j < xs.size) (h2 : j < ys.size), e j = false → RcLt A.in1 s xs[j] ys[j] (r j))
    (h : Q (.bool (firstLt e r (decide (xs.size < ys.size)) (List.range (min xs.size ys.size)))) s) : wpAny (model prog w) A (call (.builtin "tuple.__lt__") [.ref p, .ref q]) Q E s := by
  obtain ⟨⟨c1, d1, t1, s1⟩, ho1, hc1, n1, hd1⟩ := id hp
  obtain ⟨⟨c2, d2, t2, s2⟩, ho2, hc2, n2, hd2⟩ := id hq
  simp only at hc1 hd1 hc2 hd2
  subst hc1 hd1 hc2 hd2
  exact call_meets F.slot_tuple_lt ⟨_, ho1, rfl⟩ F.entry_tuple_lt (F.args_tuple_lt_2 _ _) (tuple_ltAt p q xs ys n1 n2 d1 d2 s1 s2 e r) ⟨ho1, ho2, he, hr, h⟩
theorem one_tup {xs ys : List PyData} {a b : Value} {as bs : List Addr} {Q : Bool → Shared → Prop} (ra : Reads s.heap a (.tuple xs) as) (rb : Reads s.heap b (.tuple ys) bs) (h : alike (.tuple xs) (.tuple ys) = true)
    (hu : A.units + min (PyData.tuple xs).depth (PyData.tuple ys).depth < cLine) (hq : Q (dataLt (.tuple xs) (.tuple ys)) s) : wpAny (model prog w) A (oneLt' true a b) Q E s := by
  have al : alikeAll xs ys = true := by simpa [alike] using h
  cases ra with
  | @tuple l o vs n _ as1 g1 g2 g3 g4 =>
    cases rb with
    | @tuple l' o' vs' n' _ bs1 k1 k2 k3 k4 =>
      have m1 : vs.size = xs.length := by simpa using ReadsAll.length _ _ _ g4
      have m2 : vs'.size = ys.length := by simpa using ReadsAll.length _ _ _ k4
      rw [dataLt_tuple, ← firstLt_toks xs ys al, ← m1, ← m2] at hq
      rw [oneLt'_eq]
      simp only [if_true]
      refine wpAny_bind (wpAny_cRoomFor (room_here hu) (wpAny_bind (wpAny_callSpecialIfBound?_slot (T := "tuple") ⟨_, g1, g2⟩ F.slot_tuple_lt ?_)))
      refine tup_lt_call (e := pairEq xs ys) (r := fun j => dataLt (xs.getD j .none) (ys.getD j .none)) ⟨_, g1, g2, _, g3⟩ ⟨_, k1, k2, _, k3⟩ (fun j j1 j2 => ?_) (fun j j1 j2 hj => ?_) (wpAny_truthy_bool hq)
      · have z := eqAt_alikeAll xs ys A.in1 s vs.toList vs'.toList _ _ g4 k4 al (room_in hu) j (by simpa using j1) (by simpa using j2)
        simpa using z
      · have z := rcLt_alikeAll xs ys A.in1 s vs.toList vs'.toList _ _ g4 k4 al (room_in hu) j (by simpa using j1) (by simpa using j2) hj
        simpa using z
/-- tuples' first items, or none -/
theorem firsts_of {M : Model} : ∀ (vs : List Value) {Q : List (Option Value) → Shared → Prop}, (∀ v ∈ vs, ∃ p o xs n, v = .ref p ∧ s.heap.get? p = some o ∧ o.cls = .type "tuple" ∧ o.data = .seq xs n) →
    (∀ fs, fs.length = vs.length → (∀ p o xs n, vs[0]? = some (.ref p) → s.heap.get? p = some o → o.data = .seq xs n → fs[0]? = some xs[0]?) → Q fs s) → wpAny M A (vs.mapM firstOfTuple') Q E s
  | [], _, _, h => by
    rw [List.mapM_nil]
    exact wpAny_pure (h [] rfl fun _ _ _ _ z => by simp at z)
  | v :: vs, Q, hv, h => by
    obtain ⟨p, o, xs, n, rfl, ho, hc, hd⟩ := hv v List.mem_cons_self
    rw [List.mapM_cons, kas_first_eq]
    refine wpAny_bind (wpAny_bind (Looks.here (show Looks M s.heap (typeOf (.ref p)) o.cls from (Looks.ld ho).andThen .now) ?_))
    rw [hc, if_neg (by first | decide | simp)]
    refine wpAny_bind (listItems_at ho hd (wpAny_pure (wpAny_bind (firsts_of vs (fun u hu => hv u (List.mem_cons_of_mem _ hu)) fun fs hl _ => wpAny_pure ?_))))
    refine h _ (by rw [List.length_cons, List.length_cons, hl]) fun p' o' xs' n' e1 e2 e3 => ?_
    simp at e1
    subst e1
    rw [ho] at e2
    cases e2
    rw [hd] at e3
    cases e3
    rfl
theorem kind_tup0 {M : Model} {vs : List Value} {Q : SortKind → Shared → Prop} (h2 : 2 ≤ vs.length) (hv : ∀ v ∈ vs, ∃ p o xs n, v = .ref p ∧ s.heap.get? p = some o ∧ o.cls = .type "tuple" ∧ o.data = .seq xs n)
    (h0 : ∀ p o xs n, vs[0]? = some (.ref p) → s.heap.get? p = some o → o.data = .seq xs n → xs[0]? = none) (h : Q oneType' s) : wpAny M A (keyKind' vs.toArray) Q E s := by
  obtain ⟨v1, rest, rfl⟩ : ∃ v1 rest, vs = v1 :: rest := by
    cases vs with
    | nil => simp at h2
    | cons v1 rest => exact ⟨v1, rest, rfl⟩
  rw [keyKind'_eq, List.mapM_toArray, map_eq_pure_bind]
  refine wpAny_bind (wpAny_bind (firsts_of (v1 :: rest) hv fun fs hl hf => wpAny_pure ?_))
  obtain ⟨p, o, xs, n, rfl, ho, hc, hd⟩ := hv v1 List.mem_cons_self
  have f0 : fs[0]? = some none := by
    rw [hf p o xs n rfl ho hd, h0 p o xs n rfl ho hd]
  obtain ⟨fr, rfl⟩ : ∃ fr, fs = none :: fr := by
    cases fs with
    | nil => simp at f0
    | cons f fr =>
      simp at f0
      subst f0
      exact ⟨fr, rfl⟩
  rw [if_neg (by simp), if_neg (by simp)]
  rw [oneTypeOnly'_eq, List.mapM_toArray, map_eq_pure_bind]
  refine wpAny_bind (wpAny_bind (wpAny_bind (kas_mapM (r := Value.type "tuple") _ (fun v hm Q' hq => ?_) (wpAny_pure ?_))))
  · obtain ⟨p', o', xs', n', rfl, ho', hc', hd'⟩ := hv v hm
    exact Looks.here (show Looks M s.heap (typeOf (.ref p')) (.type "tuple") from hc' ▸ (Looks.ld ho').andThen .now) hq
  · have hall : ((List.map (fun _ => Value.type "tuple") (Value.ref p :: rest)).toArray.all fun x => x == Value.type "tuple") = true := by
      simp only [List.all_toArray, List.all_map, List.all_eq_true]
      intro _ _
      exact beq_self_eq_true _
    have hz : (List.map (fun _ => Value.type "tuple") (Value.ref p :: rest)).toArray[0]? = some (Value.type "tuple") := by simp
    rw [hz]
    simp only [hall, if_true]
    exact wpAny_pure (wpAny_pure h)
/-- the kinds of lists that we sort -/
def Sort3 (ds : List PyData) : Prop := Sortable ds ∨ (ds[0]? = some (.tuple []) ∧ ∀ d, d ∈ ds → ∃ xs, d = .tuple xs)
theorem sorts3 {vs : List Value} {ds : List PyData} (e : EachIs (fun v d => ∃ as, Reads s.heap v d as) vs ds) (hal : AllAlike ds) (hk : Sort3 ds) (hu : ∀ d, d ∈ ds → A.units + d.depth < cLine) : SortsAt prog w A s (dataKind s.heap ds) vs := by
  rcases hk with hk | ⟨h0, ht⟩
  · exact SortsAt.data e hal hk hu
  · refine ⟨fun v hv => ?_, oneType', ?_, fun h2 E Q hq => ?_⟩
    · obtain ⟨d, hd, as, r⟩ := e.left v hv
      exact ⟨_, dataKind_some hal hd r⟩
    · intro E x y a b Q ha hb hq
      obtain ⟨d, as, hd, ra, rfl⟩ := dataKind_inv ha
      obtain ⟨d', as', hd', rb, rfl⟩ := dataKind_inv hb
      obtain ⟨xs, rfl⟩ := ht d hd
      obtain ⟨ys, rfl⟩ := ht d' hd'
      rw [keyLt'_oneType]
      exact one_tup ra rb (hal _ hd _ hd') (Nat.lt_of_le_of_lt (Nat.add_le_add_left (Nat.min_le_left _ _) _) (hu _ hd)) hq
    · have obj : ∀ v ∈ vs, ∃ p o xs n, v = Value.ref p ∧ s.heap.get? p = some o ∧ o.cls = .type "tuple" ∧ o.data = .seq xs n := fun v hv => by
        obtain ⟨d, hd, as, r⟩ := e.left v hv
        obtain ⟨xs, rfl⟩ := ht d hd
        cases r with
        | tuple g1 g2 g3 g4 => exact ⟨_, _, _, _, rfl, g1, g2, g3⟩
      refine kind_tup0 h2 obj (fun p o xs n e1 e2 e3 => ?_) hq
      cases e with
      | nil => simp at e1
      | cons hr _ =>
        rename_i v d vs ds
        simp at e1 h0
        subst e1 h0
        obtain ⟨as, r⟩ := hr
        cases r with
        | tuple g1 g2 g3 g4 =>
          rw [e2] at g1
          cases g1
          rw [e3] at g3
          cases g3
          have := ReadsAll.length _ _ _ g4
          simp at this
          simp [this]
theorem sorted3 {l : Addr} {vs : List Value} {R : Value → PyData → Prop} {ds : List PyData} {Q : Value → Shared → Prop} (hl : s.heap.IsList l vs.toArray) (e : EachIs R vs ds) (er : EachIs (fun v d => ∃ as, Reads s.heap v d as) vs ds) (hal : AllAlike ds) (hk : Sort3 ds) (hL : ds.length ≤ sizeLine)
    (hu : ∀ d, d ∈ ds → A.units + 2 + d.depth < cLine) (h : ∀ out, out.length = ds.length → EachIs R out (ds.mergeSort (dataLe false id)) → Q (.ref (s.heap.objs.size + 1)) { s with heap := sortedAll s.heap vs (List.toArray out) }) :
    wpAny (model prog w) A (call (.builtin "sorted") [.ref l]) Q E s := by
  have er2 : EachIs (fun v d => ∃ as, Reads (sortingHeap (copyHeap s.heap vs) (s.heap.objs.size + 1) vs) v d as) vs ds := er.mono fun _ _ z => by
    obtain ⟨as, r⟩ := z
    exact ⟨as, PyProof.Rows.Reads.keeps (fun _ _ => sorting_copy_old) r⟩
  have e3 : EachIs R (sortVals (dataKind (sortingHeap (copyHeap s.heap vs) (s.heap.objs.size + 1) vs) ds) false vs vs) (ds.mergeSort (dataLe false id)) := by
    have q := sortVals_data (h' := sortingHeap (copyHeap s.heap vs) (s.heap.objs.size + 1) vs) (enc := id) (bs := ds) (vs := vs) false e er2 (by rw [List.map_id]; exact hal)
    rw [List.map_id] at q
    exact q
  exact sorted_vals hl (sorts3 (s := { s with heap := sortingHeap (copyHeap s.heap vs) (s.heap.objs.size + 1) vs }) er2 hal hk hu) (by rw [e.length]; exact hL) (h _ ((sortVals_length false rfl).trans e.length) e3)
end
end CoSort
namespace CO
open PySem PySem.Spec PyProof.Rows L2
/-- the order of sorted -/
def leD : D → D → Bool := PySem.W.dataLe false id
def sortDs (ds : List D) : List D := ds.mergeSort leD
def isTup : D → Bool
  | .tuple _ => true | _ => false
def sort3 (ds : List D) : Bool := ds.all (fun d => match d with | .tuple (_ :: _) => true | _ => false) || ds.all (fun d => match d with | .tuple _ => false | .none => false | _ => true) || ((match ds with | .tuple [] :: _ => true | _ => false) && ds.all isTup)
def canSort (ds : List D) : Bool := decide (ds.length ≤ lim) && ds.all SeqAt.shaped && ds.all (fun a => ds.all fun b => PySem.W.alike a b) && sort3 ds
theorem sort3_ok {ds : List D} (h : sort3 ds = true) : CoSort.Sort3 ds := by
  unfold sort3 at h
  rw [Bool.or_eq_true, Bool.or_eq_true, Bool.and_eq_true] at h
  rcases h with (h | h) | ⟨h1, h2⟩
  · refine .inl (.inl fun d hd => ?_)
    have q := List.all_eq_true.mp h d hd
    cases d with
    | tuple xs =>
      cases xs with
      | nil => cases q
      | cons x r => exact ⟨x, r, rfl⟩
    | _ => cases q
  · refine .inl (.inr fun d hd => ?_)
    have q := List.all_eq_true.mp h d hd
    refine ⟨fun z => ?_, fun xs z => ?_⟩
    · rw [z] at q; cases q
    · rw [z] at q; cases q
  · refine .inr ⟨?_, fun d hd => ?_⟩
    · cases ds with
      | nil => cases h1
      | cons d ds =>
        cases d with
        | tuple xs =>
          cases xs with
          | nil => rfl
          | cons _ _ => cases h1
        | _ => cases h1
    · have q := List.all_eq_true.mp h2 d hd
      cases d with
      | tuple xs => exact ⟨xs, rfl⟩
      | _ => cases q
theorem canSort_ok {ds : List D} (h : canSort ds = true) : ds.length ≤ lim ∧ (∀ d ∈ ds, d.depth ≤ 64) ∧ PySem.W.AllAlike ds ∧ CoSort.Sort3 ds := by
  unfold canSort at h
  rw [Bool.and_eq_true, Bool.and_eq_true, Bool.and_eq_true, decide_eq_true_eq] at h
  obtain ⟨⟨⟨h1, h2⟩, h3⟩, h4⟩ := h
  exact ⟨h1, fun d hd => SeqAt.depth_of_shaped (List.all_eq_true.mp h2 d hd), fun a ha b hb => List.all_eq_true.mp (List.all_eq_true.mp h3 a ha) b hb, sort3_ok h4⟩
section
variable {X : Cx} {κ : Kx} {W : WX} {w : Sn} {σ : St} {en : En}
def rSortD : List V → Hp → VK → Prop := fun vs H Q => ∃ (a : Addr) (xs : List V) (ds : List D) (G : Hp), vs = [V.ref a] ∧ H a = some (.lst xs) ∧ DqAll G xs ds ∧ Same G H ∧ canSort ds = true ∧
  ∀ (ys : List V) (p : Addr), DqAll G ys (sortDs ds) → H p = none → Q (.ref p) (upd H p (.lst ys))
theorem each_dq {G : Hp} : ∀ {xs : List V} {us : List Value} {ds : List D}, DqAll G xs ds → Vals xs us → PySem.W.EachIs (fun u d => ∃ x, RelV x u ∧ Dq G x d) us ds
  | _, _, _, .nil, .nil => .nil
  | _, _, _, .cons q t, .cons r s => .cons ⟨_, r, q⟩ (each_dq t s)
theorem each_back {G : Hp} : ∀ {us : List Value} {ds : List D}, PySem.W.EachIs (fun u d => ∃ x, RelV x u ∧ Dq G x d) us ds → ∃ xs, Vals xs us ∧ DqAll G xs ds
  | _, _, .nil => ⟨[], .nil, .nil⟩
  | _, _, .cons ⟨x, r, q⟩ t => by
    obtain ⟨xs, h1, h2⟩ := each_back t
    exact ⟨x :: xs, .cons r h1, .cons q h2⟩
theorem each_reads {h : Heap} : ∀ {us : List Value} {ds : List D} {as : List Addr}, ReadsAll h us ds as → PySem.W.EachIs (fun u d => ∃ as, Reads h u d as) us ds
  | _, _, _, .nil => .nil
  | _, _, _, .cons r t => .cons ⟨_, r⟩ (each_reads t)
theorem call_sortD (hu : X.A.units + 100 < cLine) : CallR X (.builtin "sorted") rSortD := by
  intro pins s σ H vs us Q I r h
  obtain ⟨a, xs, ds, G, rfl, ha, hd, hs, hc, q⟩ := h
  obtain ⟨c1, c2, c3, c4⟩ := canSort_ok hc
  obtain ⟨its, rv, hl, hz⟩ := I.list (SqL.of ha)
  rw [Vals.ref1 r]
  obtain ⟨as, rd⟩ := Dp.readsAll I ds xs its (dqa_dp ds xs (dpa_mono hs ds xs hd)) rv
  refine CoSort.sorted3 (R := fun u d => ∃ x, RelV x u ∧ Dq G x d) hl.isList (each_dq hd rv) (each_reads rd) c3 c4 (lim_ok c1) (fun d hm => ?_) fun out ho eo => ?_
  · have := c2 d hm
    omega
  · obtain ⟨ys, y1, y2⟩ := each_back eo
    obtain ⟨ep, he'⟩ := PyProof.Rows.sortedAll_at s.heap its out.toArray
    have hlen : ys.length ≤ sizeLine := by
      rw [y1.length, ho]
      exact lim_ok c1
    exact ⟨.ref _, upd H (s.heap.objs.size + 1) (.lst ys), I.laid (t' := s.toks) (fun _ _ => PyProof.Rows.sortedAll_old) (Nat.le_succ _) ⟨hlen, out, ep, y1, he'⟩, rfl, q ys _ y2 (I.hok.fresh (Nat.le_succ _))⟩
def gSort : List D → En → R Ent
  | [.list ds], e => if canSort ds = true then .ok (.ow (sortDs ds)) e else .st
  | _, _ => .st
theorem cd_sort (hu : X.A.units + 100 < cLine) : CallD X κ (.builtin "sorted") gSort := by
  refine ⟨_, call_sortD hu, fun W w σ en vs ds Q s h p => ?_⟩
  cases h with
  | nil => exact False.elim p
  | cons h t =>
    cases t with
    | cons _ _ => cases h <;> exact False.elim p
    | nil =>
      cases h with
      | lst h1 h2 =>
        rename_i a xs ds
        have p' : Po κ W w (if canSort ds = true then R.ok (Ent.ow (sortDs ds)) en else .st) (Qe κ σ Q) := p
        by_cases hl : canSort ds = true
        · rw [if_pos hl] at p'
          exact ⟨a, xs, ds, w.G, rfl, s.wo.su _ _ h1, h2, s.wo.su, hl, fun ys q hy hq => fin_ow s p' hy hq⟩
        · rw [if_neg hl] at p'
          exact False.elim p'
      | _ => exact False.elim p
end
end CO

/-! CoN: set(list), sorted(set), len(set): ints, texts. -/
namespace CO
open PySem PySem.Spec PyProof.Rows L2

/-- one key more -/
def hasK (k : Key) : List Key → Bool
  | [] => false
  | q :: qs => decide (k = q) || hasK k qs
theorem hasK_iff {k : Key} : ∀ {l : List Key}, hasK k l = true ↔ k ∈ l
  | [] => by simp [hasK]
  | q :: qs => by
    unfold hasK
    rw [Bool.or_eq_true, decide_eq_true_eq, hasK_iff, List.mem_cons]
def addK (k : Key) (l : List Key) : List Key := if hasK k l = true then l else k :: l
/-- an entry of a set: a key, its hash -/
def KeyE (P : Program) (w : World) (e : Int × Value) (k : Key) : Prop := RelV (kV k) e.2 ∧ e.1 = (mixKind P w).hash k
theorem paired_perm {α β : Type} {R : α → β → Prop} {l l' : List α} (p : l.Perm l') : ∀ {ks : List β}, Paired R l ks → ∃ ks', Paired R l' ks' ∧ ks'.Perm ks := by
  induction p with
  | nil => exact fun h => ⟨_, h, List.Perm.refl _⟩
  | cons x p ih =>
    intro ks h
    cases h with
    | cons r t =>
      obtain ⟨ks', h1, h2⟩ := ih t
      exact ⟨_ :: ks', .cons r h1, h2.cons _⟩
  | swap x y l =>
    intro ks h
    cases h with
    | cons r t =>
      cases t with
      | cons r' t => exact ⟨_, .cons r' (.cons r t), List.Perm.swap _ _ _⟩
  | trans p q ih1 ih2 =>
    intro ks h
    obtain ⟨k1, h1, h2⟩ := ih1 h
    obtain ⟨k2, h3, h4⟩ := ih2 h1
    exact ⟨k2, h3, h4.trans h2⟩
/-- the set of the keys ks at a, that can be walked -/
def SetQ (P : Program) (w : World) (h : Heap) (a : Addr) (ks : List Key) : Prop :=
  ∃ o es ep t qs, h.get? a = some o ∧ o.ExactSet ∧ o.data = .set es ep t ∧ Paired (KeyE P w) es.toList qs ∧ qs.Perm ks ∧ ks.Nodup ∧ es.size < scanBound ∧ t.fits es.size = true ∧ Ris t.place.toList ∧ (w.params.followText "set-order" = true ∨ t.led = true)
section
variable {P : Program} {w : World} {A : Around} {E : Value → Shared → Prop} {s : Shared} {a : Addr} {ks : List Key}
theorem SetQ.keep {h h' : Heap} (R : SetQ P w h a ks) (k : ∀ o, h.get? a = some o → h'.get? a = some o) : SetQ P w h' a ks := by
  obtain ⟨o, es, ep, t, qs, ho, r⟩ := R
  exact ⟨o, es, ep, t, qs, k o ho, r⟩
theorem keyE_elems : ∀ {l : List (Int × Value)} {qs : List Key}, Paired (KeyE P w) l qs → ElemsOf (mixKind P w) l
  | _, _, .nil => fun e he => by cases he
  | _, _, .cons r t => fun e he => by
    rcases List.mem_cons.mp he with z | z
    · subst z
      exact ⟨⟨_, kV_is r.1, r.2⟩, key_scan r.1⟩
    · exact keyE_elems t e z
theorem keyE_has {k : Key} : ∀ {l : List (Int × Value)} {qs : List Key}, Paired (KeyE P w) l qs → (k ∈ qs ↔ ∃ e ∈ l, (mixKind P w).is k e.2 = true)
  | _, _, .nil => by simp
  | e :: l, q :: qs, .cons r t => by
    have ih := keyE_has (k := k) t
    have hd : (mixKind P w).is k e.2 = true ↔ k = q := by
      rw [KeyKind.is_eq_decide (kV_is r.1) k, decide_eq_true_eq]
    rw [List.mem_cons, ih]
    constructor
    · rintro (z | ⟨e', h1, h2⟩)
      · exact ⟨e, List.mem_cons_self, hd.mpr z⟩
      · exact ⟨e', List.mem_cons_of_mem _ h1, h2⟩
    · rintro ⟨e', h1, h2⟩
      rcases List.mem_cons.mp h1 with z | z
      · subst z; exact .inl (hd.mp h2)
      · exact .inr ⟨e', z, h2⟩
theorem setQ_tail {g : Bool → Sem Unit} (hg : ∀ (b : Bool) (s₁ : Shared) (Q' : Unit → Shared → Prop), Q' () s₁ → wpAny (model P w) A (g b) Q' E s₁) {o : Obj} {es : Array (Int × Value)} {ep : Nat} {t : SetTable} (ho : s.heap.get? a = some o) (hex : o.ExactSet) (hd : o.data = .set es ep t)
    {es1 : Array (Int × Value)} {t2 : SetTable} {qs : List Key} (pq : Paired (KeyE P w) es1.toList qs) (pm1 : qs.Perm ks) (nd : ks.Nodup) (hb1 : es1.size < scanBound) (hf2 : t2.fits es1.size = true) (hr : Ris t2.place.toList) (hl : w.params.followText "set-order" = true ∨ t2.led = true)
    {wd : Bool} {R : Option Bool → Shared → Prop} (hR : ∀ h', Heap.SameBut a s.heap h' → SetQ P w h' a ks → R (some true) { s with heap := h' }) :
    wpAny (model P w) A (do
        storeSet a es1 t2
        if (!wd && t2.tooFull) = true then do
            g (relayAll t2 es1 (SetTable.grown es1.size)).2.2
            storeSet a (relayAll t2 es1 (SetTable.grown es1.size)).1 (relayAll t2 es1 (SetTable.grown es1.size)).2.1
            pure (some true)
          else pure (some true)) R E s := by
  refine wpAny_bind (wpAny_storeSet_of ho hd ?_ (fits_of_scanBound hb1))
  have h1 := store_at (es' := es1) (t' := t2) ho hd
  have b1 := Heap.SameBut.update s.heap a (Obj.putSet es1 t2)
  split
  · have pm := relayAll_perm t2 es1 (SetTable.grown es1.size)
    have f3 := relayAll_fits t2 es1 (SetTable.grown es1.size)
    have r3 := relayAll_ris t2 es1 (SetTable.grown es1.size)
    have l3 := relayAll_led t2 es1 (SetTable.grown es1.size)
    generalize relayAll t2 es1 (SetTable.grown es1.size) = Z at pm f3 r3 l3 ⊢
    obtain ⟨es2, t3, gv⟩ := Z
    dsimp only at pm f3 r3 l3 ⊢
    have z2 : es2.size = es1.size := by rw [← Array.length_toList, pm.length_eq, Array.length_toList]
    have b2 : es2.size < scanBound := by rw [z2]; exact hb1
    refine wpAny_bind (hg _ _ _ (wpAny_bind (wpAny_storeSet_of h1 rfl ?_ (fits_of_scanBound b2))))
    have h2 := store_at (es' := es2) (t' := t3) h1 rfl
    obtain ⟨qs', p1, p2⟩ := paired_perm pm.symm pq
    refine wpAny_pure (hR _ (b1.trans (Heap.SameBut.update _ a _)) ⟨_, es2, _, t3, qs', h2, hex, rfl, p1, p2.trans pm1, nd, b2, f3, r3, hl.imp id fun z => by rw [l3]; exact z⟩)
  · exact wpAny_pure (hR _ b1 ⟨_, es1, _, t2, qs, h1, hex, rfl, pq, pm1, nd, hb1, hf2, hr, hl⟩)
theorem setQ_len {h : Heap} (R : SetQ P w h a ks) : ks.length < scanBound := by
  obtain ⟨o, es, ep, t, qs, _, _, _, pq, pm, _, hb, _⟩ := R
  have e1 := Paired.length pq
  rw [← pm.length_eq, ← e1, Array.length_toList]
  exact hb
theorem setQ_add {k : Key} {u : Value} {Q : Bool → Shared → Prop} (R : SetQ P w s.heap a ks) (rk : RelV (kV k) u) (room : ks.length + 1 < scanBound)
    (hQ : ∀ b h', Heap.SameBut a s.heap h' → SetQ P w h' a (addK k ks) → Q b { s with heap := h' }) : wpAny (model P w) A (setAddHashed a u ((mixKind P w).hash k)) Q E s := by
  obtain ⟨o, es, ep, t, qs, ho, hex, hd, pq, pm0, nd, hb, hf, hr, hl⟩ := R
  have hsc : u.scannable = true := key_scan rk
  have hel : ElemsOf (mixKind P w) es.toList := keyE_elems pq
  unfold setAddHashed setAddHashedIn
  refine wpAny_holding (wpAny_bind (wpAny_setState_of ho hd hf ?_))
  dsimp only
  rw [byScan_of hsc hb hel]
  simp only [↓reduceIte]
  unfold setAddByScan
  refine wpAny_bind (wpAny_bind (wpAny_rule (wpAny_bind (wpAny_setScan_of (kV_is rk) ho hd hf hel ?_))))
  cases hfi : List.findIdx? (fun e => (mixKind P w).is k e.2) es.toList with
  | some j =>
    dsimp only
    obtain ⟨hj, pj, _⟩ := List.findIdx?_eq_some_iff_getElem.mp hfi
    have hk : k ∈ ks := pm0.mem_iff.mp ((keyE_has pq).mpr ⟨es.toList[j], List.getElem_mem hj, pj⟩)
    have ea : addK k ks = ks := if_pos (hasK_iff.mpr hk)
    refine wpAny_pure (wpAny_pure (hQ _ s.heap (Heap.SameBut.refl a s.heap) ?_))
    rw [ea]
    exact ⟨o, es, ep, t, qs, ho, hex, hd, pq, pm0, nd, hb, hf, hr, hl⟩
  | none =>
    dsimp only
    have hk : k ∉ ks := fun z => by
      obtain ⟨e, he, q⟩ := (keyE_has pq).mp (pm0.mem_iff.mpr z)
      have c := List.findIdx?_eq_none_iff.mp hfi e he
      rw [q] at c
      cases c
    have ea : addK k ks = k :: ks := if_neg fun z => hk (hasK_iff.mp z)
    have gw : ∀ (b : Bool) {s₁ : Shared} {Q' : Unit → Shared → Prop}, Q' () s₁ → wpAny (model P w) A (match b with | true => rule "set.scan.the-table-gave-way" | false => pure ()) Q' E s₁ := fun b s₁ Q' q => by
      cases b
      · exact wpAny_pure q
      · exact wpAny_rule q
    have pm := layNew_perm t es ((mixKind P w).hash k) u
    have f1 := layNew_fits t es ((mixKind P w).hash k) u
    have r1 := layNew_ris t es ((mixKind P w).hash k) u hr
    have l1 := layNew_led t es ((mixKind P w).hash k) u
    generalize layNew t es ((mixKind P w).hash k) u = Z at pm f1 r1 l1 ⊢
    obtain ⟨es1, t1, wd, gv⟩ := Z
    dsimp only at pm f1 r1 l1 ⊢
    rw [Array.toList_push] at pm
    have pc : es1.toList.Perm (((mixKind P w).hash k, u) :: es.toList) := pm.trans (List.perm_append_singleton _ _)
    obtain ⟨qs', p1, p2⟩ := paired_perm pc.symm (show Paired (KeyE P w) (((mixKind P w).hash k, u) :: es.toList) (k :: qs) from .cons ⟨rk, rfl⟩ pq)
    have nd1 : (k :: ks).Nodup := List.nodup_cons.mpr ⟨hk, nd⟩
    have p3 : qs'.Perm (k :: ks) := p2.trans (pm0.cons k)
    have sz : es1.size = ks.length + 1 := by
      rw [← Array.length_toList, Paired.length p1, p3.length_eq, List.length_cons]
    have hb1 : es1.size < scanBound := by rw [sz]; exact room
    have hled : w.params.followText "set-order" = true ∨ t1.led = true := hl.imp id fun z => by rw [l1]; exact z
    have fin : ∀ h', Heap.SameBut a s.heap h' → SetQ P w h' a (k :: ks) → Q true { s with heap := h' } := fun h' sb r => hQ _ h' sb (by rw [ea]; exact r)
    refine wpAny_bind (gw _ ?_)
    split
    · refine wpAny_bind ?_
      rw [hashByValue_scannable 8 hsc]
      refine wpAny_pure (setQ_tail ?_ ho hex hd p1 p3 nd1 hb1 ?_ ?_ ?_ ?_)
      · intro b s₁ Q' q
        cases b <;> first | exact wpAny_pure q | exact wpAny_rule q
      · first | (split <;> first | exact f1 | exact SetTable.fits_plain_off f1) | exact f1
      · first | (split <;> exact r1) | exact r1
      · first | (split <;> exact hled) | exact hled
      · intro h' sb r
        dsimp only
        exact wpAny_pure (fin h' sb r)
    · refine wpAny_bind (wpAny_pure ?_)
      simp only [↓reduceIte]
      refine setQ_tail ?_ ho hex hd p1 p3 nd1 hb1 f1 r1 hled ?_
      · intro b s₁ Q' q
        cases b <;> first | exact wpAny_pure q | exact wpAny_rule q
      · intro h' sb r
        dsimp only
        exact wpAny_pure (fin h' sb r)
/-- the keys of a list, each once -/
def dedupK : List Key → List Key → List Key
  | [], acc => acc
  | k :: ks, acc => dedupK ks (addK k acc)
theorem addK_len (k : Key) (ks : List Key) : (addK k ks).length ≤ ks.length + 1 := by
  unfold addK
  split
  · omega
  · simp
section
variable {Rr : Result → Shared → Prop} {I : Addr} {fp wr : List Addr} {G : Array GenState → Array GenState → Prop} {n : Nat} {Pv : Nat → Value → Prop} {St : Nat → Shared → Prop}
theorem setQ_loop (Wk : WalksS P w A.in1 I fp wr G n Pv St) (S : Addr) (hSf : S ∉ fp) (l : List Key) (hn : l.length = n) (hval : ∀ i v, Pv i v → ∃ k, l[i]? = some k ∧ RelV (kV k) v) :
    ∀ (k i : Nat) (s : Shared) (acc : List Key), n - i = k → i ≤ n → acc.length ≤ i → n + 1 < scanBound → St i s → SetQ P w s.heap S acc →
      (∀ s', Moved (S :: wr) G s s' → SetQ P w s'.heap S (dedupK (l.drop i) acc) → Rr (.ok (.ret .none)) s') → codeAny (model P w) A (.builtin "set.update.loop" ⟨[.ref S, .ref I], []⟩) Rr s := by
  have hSw : S ∉ wr := fun h => hSf (Wk.sub _ h)
  have hsub : ∀ b ∈ wr, b ∈ S :: wr := fun b hb => List.mem_cons_of_mem _ hb
  intro k
  induction k with
  | zero =>
    intro i s acc hk hi ha hb hst hS hR
    have hin : i = n := by omega
    subst hin
    refine codeAny_builtin F.entry_set_update_loop ?_
    rw [Around.under_plainId F.plain_set_update_loop _]
    show wpAny _ A.in1 (pyNext (.ref I) >>= _) _ _ s
    refine wpAny_bind (Wk.done s _ _ hst fun s' hm => ?_)
    show wpAny _ A.in1 (ret Value.none) _ _ s'
    refine wpAny_pure (hR s' (hm.mono hsub) ?_)
    rw [← hn, List.drop_length]
    exact hS.keep fun o q => hm.heap S _ hSw q
  | succ k ih =>
    intro i s acc hk hi ha hb hst hS hR
    have hlt : i < n := by omega
    refine codeAny_builtin F.entry_set_update_loop ?_
    rw [Around.under_plainId F.plain_set_update_loop _]
    show wpAny _ A.in1 (pyNext (.ref I) >>= _) _ _ s
    refine wpAny_bind (Wk.item i s _ _ hlt hst fun v s' hP hst' hm => ?_)
    obtain ⟨kk, hkk, rk⟩ := hval i v hP
    have hS' : SetQ P w s'.heap S acc := hS.keep fun o q => hm.heap S _ hSw q
    show wpAny _ A.in1 (holding [v] (setAdd S v) >>= _) _ _ s'
    refine wpAny_bind (wpAny_holding ?_)
    unfold setAdd
    refine wpAny_holding (wpAny_bind ((mixKind P w).pyHash (k := kk) (kV_is rk) ?_))
    refine setQ_add (s := { s' with toks := s'.toks + 1 }) hS' rk (by omega) fun _ h' hsb hS2 => ?_
    refine wpAny_pure ⟨plainId_quiet F.plain_set_update_loop _, ih (i + 1) _ (addK kk acc) (by omega) hlt (Nat.le_trans (addK_len _ _) (Nat.succ_le_succ ha)) hb (Wk.frame _ s' _ _ hst' (Nat.le_succ _) fun b hb' o e => ?_) hS2 fun s'' hm'' hS'' => ?_⟩
    · rw [hsb.2 b (fun h : b = S => hSf (by rw [← h]; exact hb'))]
      exact e
    · have ed : l.drop i = kk :: l.drop (i + 1) := by
        obtain ⟨hl, he⟩ := List.getElem?_eq_some_iff.mp hkk
        rw [List.drop_eq_getElem_cons hl, he]
      rw [ed] at hR
      refine hR s'' (Moved.trans Wk.gtrans ((hm.mono hsub).then_heap (Nat.le_succ _) fun b o hb' e => ?_) hm'') hS''
      rw [hsb.2 b (fun h : b = S => hb' (by rw [h]; exact List.mem_cons_self))]
      exact e
end
theorem code_set1 (x : Value) {Q₁ : Value → Shared → Prop}
    (h : Q₁ (.ref s.heap.objs.size) { s with heap := s.heap.push { cls := .type "set", dict := none, data := .set #[] 0 (.fresh 0 0 (!w.params.followText "set-order")) } }) :
    codeAny (model P w) A (.call (.builtin "set.__new__") ⟨[.type "set", x], []⟩) (wants Q₁ E) s := by
  refine codeAny_of_tree (show wpAny _ A.in1 (do checkBuiltinCall "set.__new__" ⟨[.type "set", x], []⟩; again (.builtin "set.__new__" ⟨[.type "set", x], []⟩)) _ _ s from ?_)
  refine wpAny_bind (wpAny_of_eq (F.newCall_set_1 x) (wpAny_pure ⟨plainId_quiet F.plain_set_new _, codeAny_builtin F.entry_set_new ?_⟩))
  rw [Around.under_plainId F.plain_set_new _]
  unfold Builtin.«set.__new__» Builtin.Frozenset.newClass
  have hsub := sub_set_self
  obtain ⟨hp, g, d, tk, os⟩ := s
  dsimp only
  wp_walk
  refine wpAny_askSetting (wpAny_pure ?_)
  dsimp only
  simp only [newObj]
  exact wpAny_bind (wpAny_alloc (wpAny_pure (wpAny_pure h)))
theorem setQ_fresh {h : Heap} : SetQ P w (h.push { cls := .type "set", dict := none, data := .set #[] 0 (.fresh 0 0 (!w.params.followText "set-order")) }) h.objs.size [] := by
  refine ⟨_, #[], 0, _, [], Heap.get?_push_size _ rfl, ⟨rfl, rfl, rfl⟩, rfl, .nil, List.Perm.refl _, List.nodup_nil, by decide, by rfl, List.Pairwise.nil, ?_⟩
  show _ ∨ (!w.params.followText "set-order") = true
  cases w.params.followText "set-order"
  · exact .inr rfl
  · exact .inl rfl
end
end CO

/-! CoO: set(list), sorted(set) as rules. -/
namespace CO
open PySem PySem.Spec PyProof.Rows L2
section
variable {P : Program} {w : World} {A : Around} {E : Value → Shared → Prop} {s : Shared}
set_option maxHeartbeats 8000000 in
theorem set1_call {l : Addr} {items : Array Value} {ks : List Key} {Q : Value → Shared → Prop} (hh : A.handled = none) (hl : s.heap.IsList l items) (hi : Vals (ks.map kV) items.toList) (hb : items.size + 1 < scanBound)
    (h : ∀ (h' : Heap) (tk : Nat), SetQ P w h' s.heap.objs.size (dedupK ks []) → (∀ b o, b < s.heap.objs.size → s.heap.get? b = some o → h'.get? b = some o) → Q (.ref s.heap.objs.size) { s with heap := h', toks := tk }) :
    wpAny (model P w) A (call (.type "set") [.ref l]) Q E s := by
  obtain ⟨c0, tl0, hmro0⟩ := F.called_set.mro
  have made := F.called_set.made
  have sub0 := F.called_set.sub
  refine wpAny_call (codeAny_of_tree (show wpAny _ _ (callAny (.type "set") _) _ _ _ from wpAny_pure ⟨Code.quiet_builtin _ (by decide +kernel), codeAny_builtin F.entry_type_call ?_⟩))
  rw [Around.under_plain (weight_type_call_type "set" [.ref l] []) rfl]
  have g1 := F.called_set.notType
  have g2 := F.called_set.canCreate
  have g3 := F.typeCall_set_1 (.ref l)
  repeat (any_goals (first | assumption | wp_step))
  generalize hfr : ({ cls := .type "set", dict := none, data := .set #[] 0 (.fresh 0 0 (!w.params.followText "set-order")) } : Obj) = fr
  refine codeAny_mono (code_set1 (.ref l) (E := E) (Q₁ := fun obj s₁ => obj = .ref s.heap.objs.size ∧ s₁ = { s with heap := s.heap.push fr }) ⟨rfl, by rw [← hfr]⟩) fun r s₁ hr => ?_
  cases r with
  | error e => exact hr
  | ok fl =>
    cases fl with
    | ret obj =>
      obtain ⟨rfl, rfl⟩ := hr
      have nf : fr.isFreed = false := by rw [← hfr]; rfl
      have hS : (s.heap.push fr).get? s.heap.objs.size = some fr := Heap.get?_push_size _ nf
      have hT : Shared.TypeIs { s with heap := s.heap.push fr } (.ref s.heap.objs.size) "set" := ⟨_, hS, by rw [← hfr]⟩
      have li := F.called_set.init.lookup
      have bi := F.called_set.init.bind (.ref s.heap.objs.size)
      repeat (any_goals (first | assumption | wp_step))
      refine codeAny_mono (codeAny_call_builtin (R := wants (fun r s₂ => r = .none ∧ ∃ h' tk, s₂ = { s with heap := h', toks := tk } ∧ SetQ P w h' s.heap.objs.size (dedupK ks []) ∧
          (∀ b o, b < s.heap.objs.size → s.heap.get? b = some o → h'.get? b = some o)) E) F.called_set.init.plain F.entry_set_init (check_set_init_1 hT ?_)) fun r₂ s₂ hr₂ => ?_
      · subst hfr
        obtain ⟨⟨oc, od, odt, osl⟩, hol, hcl, nl, hdl⟩ := hl
        simp only at hcl hdl
        subst hcl hdl
        have hol' : (s.heap.push { cls := .type "set", dict := none, data := .set #[] 0 (.fresh 0 0 (!w.params.followText "set-order")) }).get? l = some { cls := .type "list", dict := od, data := .seq items nl, slots := osl } := Heap.get?_push_of_some _ hol
        have q1 := F.sub_list_set
        have q2 := F.sub_list_frozenset
        have q3 : (Value.type "list" == Value.type "dict") = false := by decide
        have hl1 : (s.heap.push { cls := .type "set", dict := none, data := .set #[] 0 (.fresh 0 0 (!w.params.followText "set-order")) }).IsList l items := ⟨_, hol', rfl, nl, rfl⟩
        unfold Builtin.«set.__init__» noKeywords Builtin.Frozenset.updateFrom
        generalize hPI : pyIter = PI
        wp_walk
        subst hPI
        refine wpAny_pyIter_list (hl1) ?_
        refine (wpAny_bind (wpAny_runValue ?_))
        have hlS : l < s.heap.objs.size := Heap.lt_size hol
        have h3 : A.in1.in1.in1.handled = none := by simp [hh]
        have neI : l ≠ (s.heap.push { cls := .type "set", dict := none, data := .set #[] 0 (.fresh 0 0 (!w.params.followText "set-order")) }).objs.size := by
          rw [Heap.size_push]
          exact Nat.ne_of_lt (Nat.lt_succ_of_lt hlS)
        have hSf : s.heap.objs.size ∉ [(s.heap.push { cls := .type "set", dict := none, data := .set #[] 0 (.fresh 0 0 (!w.params.followText "set-order")) }).objs.size, l] := by
          rw [Heap.size_push]
          simp only [List.mem_cons, List.mem_singleton, List.not_mem_nil, or_false, not_or]
          exact ⟨Nat.ne_of_lt (Nat.lt_succ_self _), Nat.ne_of_gt hlS⟩
        have hlen : ks.length = items.size := by
          have := hi.length
          simpa using this
        have hval : ∀ (i : Nat) (v : Value), items[i]? = some v → ∃ k, ks[i]? = some k ∧ RelV (kV k) v := fun i v hv => by
          have hv' : items.toList[i]? = some v := by rw [Array.getElem?_toList]; exact hv
          have hik : i < ks.length := by
            rw [hlen]
            exact (Array.getElem?_eq_some_iff.mp hv).1
          obtain ⟨u, hu, ru⟩ := hi.get (i := i) (x := kV ks[i]) (by rw [List.getElem?_map, List.getElem?_eq_getElem hik]; rfl)
          rw [hv'] at hu
          cases hu
          exact ⟨ks[i], List.getElem?_eq_getElem hik, ru⟩
        refine setQ_loop ((Walks.list h3 _ l neI items).toS) s.heap.objs.size hSf ks hlen hval (items.size - 0) 0 _ [] (by omega) (Nat.zero_le _) (Nat.zero_le _) hb ⟨⟨_, Heap.get?_push_size _ rfl, rfl, rfl⟩, hl1.push _⟩ ?hS0 ?hR
        case hS0 =>
          refine SetQ.keep (h := s.heap.push { cls := .type "set", dict := none, data := .set #[] 0 (.fresh 0 0 (!w.params.followText "set-order")) }) ?_ fun o q => Heap.get?_push_of_some _ q
          exact setQ_fresh
        case hR =>
          intro s' hm hS'
          obtain ⟨h', g', d', tk', os'⟩ := s'
          obtain rfl : g' = s.gens := hm.gens
          obtain rfl : d' = s.drawn := hm.drawn
          obtain rfl : os' = s.os := hm.os
          show wpAny _ _ _ _ _ _
          refine wpAny_pure (show wpAny _ _ (ret Value.none) _ _ _ from wpAny_pure ⟨rfl, h', tk', rfl, hS', fun b o hb e => ?_⟩)
          have n1 : b ≠ s.heap.objs.size := Nat.ne_of_lt hb
          have n2 : b ≠ (s.heap.push { cls := .type "set", dict := none, data := .set #[] 0 (.fresh 0 0 (!w.params.followText "set-order")) }).objs.size := by
            rw [Heap.size_push]
            exact Nat.ne_of_lt (Nat.lt_succ_of_lt hb)
          exact hm.heap b o (by simp only [List.mem_cons, List.mem_singleton, List.not_mem_nil, or_false, not_or]; exact ⟨n1, n2⟩) (Heap.get?_push_of_some _ (Heap.get?_push_of_some _ e))
      · cases r₂ with
        | error e => exact hr₂
        | ok fl₂ =>
          cases fl₂ with
          | ret r =>
            obtain ⟨rfl, h', tk, rfl, hS', hk'⟩ := hr₂
            repeat (any_goals (first | assumption | wp_step))
            exact h _ _ hS' hk'
          | _ => exact hr₂.elim
    | _ => exact hr.elim
end
end CO

/-! CoP: sorted(set(..)) over the data layer. -/
namespace CO
def keyD : L2.Key → D
  | .inl i => .int i
  | .inr x => .str x
end CO
namespace CoSort
open PySem PySem.SeqAt PySem.W PyProof.Rows
section
variable {P : Program} {w : World} {A : Around} {E : Value → Shared → Prop} {s : Shared}
/-- u is the key k, told as d -/
def KeyIsD (u : Value) (d : PyData) : Prop := ∃ k : L2.Key, L2.RelV (L2.kV k) u ∧ d = CO.keyD k
theorem keyIsD_reads {h : Heap} {u : Value} {d : PyData} (z : KeyIsD u d) : ∃ as, Reads h u d as := by
  obtain ⟨k, r, rfl⟩ := z
  cases k with
  | inl i =>
    obtain ⟨t, rfl⟩ := r
    exact ⟨[], .int i t⟩
  | inr x =>
    obtain ⟨t, rfl⟩ := r
    exact ⟨[], .str x t⟩
theorem each_keyD : ∀ {es : List (Int × Value)} {qs : List L2.Key}, PySem.Paired (CO.KeyE P w) es qs → EachIs KeyIsD (es.map (·.2)) (qs.map CO.keyD)
  | _, _, .nil => .nil
  | _, _, .cons r t => .cons ⟨_, r.1, rfl⟩ (each_keyD t)
theorem each_perm {R : Value → PyData → Prop} {l l' : List Value} (p : l.Perm l') : ∀ {ds : List PyData}, EachIs R l ds → ∃ ds', EachIs R l' ds' ∧ ds'.Perm ds := by
  induction p with
  | nil => exact fun h => ⟨_, h, List.Perm.refl _⟩
  | cons x p ih =>
    intro ds h
    cases h with
    | cons r t =>
      obtain ⟨ds', h1, h2⟩ := ih t
      exact ⟨_ :: ds', .cons r h1, h2.cons _⟩
  | swap x y l =>
    intro ds h
    cases h with
    | cons r t =>
      cases t with
      | cons r' t => exact ⟨_, .cons r' (.cons r t), List.Perm.swap _ _ _⟩
  | trans p q ih1 ih2 =>
    intro ds h
    obtain ⟨d1, h1, h2⟩ := ih1 h
    obtain ⟨d2, h3, h4⟩ := ih2 h1
    exact ⟨d2, h3, h4.trans h2⟩
theorem sorted_setQ {a : Addr} {ks : List L2.Key} {Q : Value → Shared → Prop} (hS : CO.SetQ P w s.heap a ks) (hh : A.handled = none) (hal : AllAlike (ks.map CO.keyD)) (hu : A.units + 4 < cLine)
    (hQ : ∀ s' p (out : List Value) (c : Nat) (ds : List PyData), (∀ b o, s.heap.get? b = some o → s'.heap.get? b = some o) → s'.gens = s.gens → s'.os = s.os → s.heap.objs.size ≤ p → s'.heap.get? p = some (seqObj "list" out.toArray c) →
      ds.Perm (ks.map CO.keyD) → EachIs KeyIsD out (ds.mergeSort (dataLe false id)) → Q (.ref p) s') : wpAny (model P w) A (call (.builtin "sorted") [.ref a]) Q E s := by
  obtain ⟨o, es, ep, t, qs, ho, hex, hd, pq, pm0, nd, hb, hf, hr, hl⟩ := hS
  refine Calls.call_function_entry kind_sorted plain_sorted entry_sorted (args_sorted1 _) ?_
  unfold Builtin.«sorted»
  refine wpAny_bind (m := checkCount "sorted" 1 1 _) (wpAny_pure (wpAny_bind (L2.collect_set (A := A.in1) hh ⟨o, ho, hex.1, hd⟩ hf hb hr hl fun s1 vs k1 hz g1 o1 pm => ?_)))
  obtain ⟨ds, e1, p1⟩ := each_perm pm.symm (each_keyD pq)
  have pd : ds.Perm (ks.map CO.keyD) := p1.trans (pm0.map _)
  have hal' : AllAlike ds := fun d hd' d' hd'' => hal d (pd.mem_iff.mp hd') d' (pd.mem_iff.mp hd'')
  have hlen : vs.length = ds.length := e1.length
  have hsz : vs.length ≤ sizeLine := by
    rw [pm.length_eq, List.length_map, Array.length_toList]
    exact fits_of_scanBound hb
  refine wpAny_bind (wpAny_newList ?_ hsz)
  have hoL : (s1.heap.push (seqObj "list" vs.toArray 0)).get? s1.heap.objs.size = some (seqObj "list" vs.toArray 0) := Heap.get?_push_size _ rfl
  have flat : ∀ d ∈ ds, d ≠ PyData.none ∧ (∀ xs, d ≠ .tuple xs) ∧ d.depth = 0 := fun d hd' => by
    obtain ⟨k, _, rfl⟩ := List.mem_map.mp (pd.mem_iff.mp hd')
    cases k with
    | inl i => exact ⟨(fun z => nomatch z), (fun xs z => nomatch z), rfl⟩
    | inr x => exact ⟨(fun z => nomatch z), (fun xs z => nomatch z), rfl⟩
  have er : ∀ h : Heap, EachIs (fun v d => ∃ as, Reads h v d as) vs ds := fun h => e1.mono fun _ _ z => keyIsD_reads z
  have S : ∀ A' : Around, A'.units + 0 < cLine → SortsAt P w A' { s1 with heap := sortingHeap (s1.heap.push (seqObj "list" vs.toArray 0)) s1.heap.objs.size vs } (dataKind (sortingHeap (s1.heap.push (seqObj "list" vs.toArray 0)) s1.heap.objs.size vs) ds) vs := fun A' hA =>
    SortsAt.data (s := { s1 with heap := sortingHeap (s1.heap.push (seqObj "list" vs.toArray 0)) s1.heap.objs.size vs }) (er _) hal' (.inr fun d hd' => ⟨(flat d hd').1, (flat d hd').2.1⟩) fun d hd' => by rw [(flat d hd').2.2]; exact hA
  have e3 : EachIs KeyIsD (sortVals (dataKind (sortingHeap (s1.heap.push (seqObj "list" vs.toArray 0)) s1.heap.objs.size vs) ds) false vs vs) (ds.mergeSort (dataLe false id)) := by
    have q := sortVals_data (h' := sortingHeap (s1.heap.push (seqObj "list" vs.toArray 0)) s1.heap.objs.size vs) (R := KeyIsD) (enc := id) (bs := ds) (vs := vs) false e1 (er _) (by rw [List.map_id]; exact hal')
    rw [List.map_id] at q
    exact q
  refine wpAny_bind (wpAny_holding (wpAny_call_entry slot_list_sort ⟨_, hoL, rfl⟩ entry_list_sort (list_sort_vals (s := { s1 with heap := s1.heap.push (seqObj "list" vs.toArray 0) }) hoL (S _ ?_) hsz ⟨_, rfl, ?_⟩) (args_list_sort _)))
  · show A.units + 1 + 1 + 0 < cLine
    omega
  · obtain ⟨c, hc⟩ := sortedHeap_at (vs := vs) (out := (sortVals (dataKind (sortingHeap (s1.heap.push (seqObj "list" vs.toArray 0)) s1.heap.objs.size vs) ds) false vs vs).toArray) hoL
    refine wpAny_pure ⟨_, rfl, hQ _ s1.heap.objs.size _ c ds (fun b u e => ?_) g1 o1 hz hc pd e3⟩
    have q := k1 b u e
    have hlt := Heap.lt_size q
    show (sortedHeap (s1.heap.push (seqObj "list" vs.toArray 0)) s1.heap.objs.size vs _).get? b = some u
    rw [sortedHeap_old (Nat.ne_of_lt hlt) (by rw [size_push']; exact Nat.lt_succ_of_lt hlt)]
    exact Heap.get?_push_of_some _ q
end
end CoSort
namespace CO
open PySem PySem.Spec PyProof.Rows L2
/-- keys from data -/
def asKeys : List D → Option (List Key)
  | [] => some []
  | .int i :: r => (asKeys r).map (.inl i :: ·)
  | .str x :: r => (asKeys r).map (.inr x :: ·)
  | _ :: _ => none
theorem asKeys_eq : ∀ {ds : List D} {ks : List Key}, asKeys ds = some ks → ds = ks.map keyD
  | [], _, h => by cases h; rfl
  | .int i :: r, ks, h => by
    have h' : (asKeys r).map (.inl i :: ·) = some ks := h
    cases e : asKeys r with
    | none => rw [e] at h'; cases h'
    | some es =>
      rw [e] at h'
      cases h'
      rw [asKeys_eq e]; rfl
  | .str x :: r, ks, h => by
    have h' : (asKeys r).map (.inr x :: ·) = some ks := h
    cases e : asKeys r with
    | none => rw [e] at h'; cases h'
    | some es =>
      rw [e] at h'
      cases h'
      rw [asKeys_eq e]; rfl
  | .none :: _, _, h => by cases h
  | .bool _ :: _, _, h => by cases h
  | .list _ :: _, _, h => by cases h
  | .tuple _ :: _, _, h => by cases h
  | .dict _ :: _, _, h => by cases h
theorem dpa_keys {G : Hp} : ∀ {ks : List Key} {vs : List V}, DqAll G vs (ks.map keyD) → vs = ks.map kV
  | [], _, h => by cases h; rfl
  | .inl i :: ks, _, h => by
    cases h with
    | cons q t => rw [dpa_keys t, dp_int q]; rfl
  | .inr x :: ks, _, h => by
    cases h with
    | cons q t => rw [dpa_keys t, dp_str q]; rfl
def SetHO (P : Program) (w : World) (a : Addr) (ks : List Key) : HO := .ext fun h => SetQ P w h a ks
section
variable {X : Cx} {κ : Kx} {W : WX}
theorem setHO_new {P : Program} {w : World} {H : Hp} {h : Heap} {a : Addr} {ks : List Key} (R : SetQ P w h a ks) : ObjOk P w H h a (SetHO P w a ks) := by
  have ⟨o, _, _, _, _, ho, _⟩ := R
  exact ⟨R, ⟨o, ho⟩, fun h1 h2 p k => p.keep k⟩
def rSetQ (P : Program) (w : World) : List V → Hp → VK → Prop := fun vs H Q => ∃ (a : Addr) (ks : List Key), vs = [V.ref a] ∧ H a = some (.lst (ks.map kV)) ∧ ks.length < 1000 ∧ ∀ p, H p = none → Q (.ref p) (upd H p (SetHO P w p (dedupK ks [])))
theorem call_setQ (hc : X.calm = true) : CallR X (.type "set") (rSetQ X.prog X.w) := by
  intro pins s σ H vs us Q I r h
  obtain ⟨a, ks, rfl, ha, hl, q⟩ := h
  obtain ⟨its, rv, p, hz⟩ := I.list (SqL.of ha)
  rw [Vals.ref1 r]
  have hlen : its.length = ks.length := by
    have := rv.length
    simpa using this.symm
  refine set1_call (I.ok.hd hc) p.isList (ks := ks) (by simpa using rv) (by simp [hlen]; unfold scanBound; omega) fun h' tk hS hk => ?_
  exact ⟨.ref _, upd H s.heap.objs.size (SetHO X.prog X.w s.heap.objs.size (dedupK ks [])), I.laid (t' := tk) (fun b o e => hk b o (Heap.lt_size e) e) (Nat.le_refl _) (setHO_new hS), rfl, q _ (I.hok.fresh (Nat.le_refl _))⟩
def rSortQ (P : Program) (w : World) : List V → Hp → VK → Prop := fun vs H Q => ∃ (a : Addr) (ks : List Key), vs = [V.ref a] ∧ H a = some (SetHO P w a ks) ∧ PySem.W.AllAlike (ks.map keyD) ∧ ∀ (ds : List D) (qs : List Key) (p : Addr), ds.Perm (ks.map keyD) → qs.map keyD = sortDs ds → H p = none → Q (.ref p) (upd H p (.lst (qs.map kV)))
theorem each_keys2 : ∀ {us : List Value} {ds : List D}, PySem.W.EachIs CoSort.KeyIsD us ds → ∃ qs : List Key, Vals (qs.map kV) us ∧ qs.map keyD = ds
  | _, _, .nil => ⟨[], .nil, rfl⟩
  | _, _, .cons ⟨k, r, e⟩ t => by
    obtain ⟨qs, h1, h2⟩ := each_keys2 t
    exact ⟨k :: qs, .cons r h1, by rw [List.map_cons, h2, e]⟩
theorem call_sortQ (hc : X.calm = true) (hu : X.A.units + 100 < cLine) : CallR X (.builtin "sorted") (rSortQ X.prog X.w) := by
  intro pins s σ H vs us Q I r h
  obtain ⟨a, ks, rfl, ha, hal, q⟩ := h
  have R : SetQ X.prog X.w s.heap a ks := (I.hok a _ ha).1
  rw [Vals.ref1 r]
  refine CoSort.sorted_setQ R (I.ok.hd hc) hal (by omega) fun s' p out c ds k g o hp hg pd eo => ?_
  obtain ⟨qs, q1, q2⟩ := each_keys2 eo
  have hn : H p = none := I.hok.fresh hp
  have hlen : (qs.map kV).length ≤ sizeLine := by
    have e1 : qs.length = ks.length := by
      have := congrArg List.length q2
      rw [List.length_map, List.length_mergeSort, pd.length_eq, List.length_map] at this
      exact this
    rw [List.length_map, e1]
    exact fits_of_scanBound (setQ_len R)
  have J : Inv X pins σ (upd H p (.lst (qs.map kV))) { s with heap := s'.heap, gens := s'.gens, drawn := s'.drawn, toks := s'.toks } :=
    I.call (ch := []) (Un.laid k hp hn) (I.hok.laid k hp ⟨hlen, out, c, q1, hg⟩) (by rw [g]; exact I.bare) (fun _ z => nomatch z)
  have e : s' = { s with heap := s'.heap, gens := s'.gens, drawn := s'.drawn, toks := s'.toks } := by
    cases s'
    cases s
    cases o
    rfl
  rw [e]
  exact ⟨.ref p, _, J, rfl, q ds qs p pd q2 hn⟩
theorem sortDs_perm {ds es : List D} (p : ds.Perm es) (h1 : ∀ a ∈ es, ∀ b ∈ es, leD a b = true ∨ leD b a = true) (h2 : ∀ a ∈ es, ∀ b ∈ es, leD a b = true → leD b a = true → a = b) (h3 : ∀ a ∈ es, ∀ b ∈ es, ∀ c ∈ es, leD a b = true → leD b c = true → leD a c = true) : True := trivial
end
end CO

/-! CoR: the one sorted list; sorted(set(..)) over the data layer. -/
namespace CO
open PySem PySem.Spec PyProof.Rows L2
theorem sorted_uniq {α : Type} {le : α → α → Prop} (anti : ∀ a b, le a b → le b a → a = b) : ∀ {l l' : List α}, l.Pairwise le → l'.Pairwise le → l.Perm l' → l = l'
  | [], l', _, _, p => (List.nil_perm.mp p).symm
  | a :: t, [], _, _, p => by simp at p
  | a :: t, b :: t', h1, h2, p => by
    obtain ⟨a1, a2⟩ := List.pairwise_cons.mp h1
    obtain ⟨b1, b2⟩ := List.pairwise_cons.mp h2
    have e : a = b := by
      have m1 : a ∈ b :: t' := p.mem_iff.mp List.mem_cons_self
      have m2 : b ∈ a :: t := p.mem_iff.mpr List.mem_cons_self
      rcases List.mem_cons.mp m1 with z | z
      · exact z
      · rcases List.mem_cons.mp m2 with y | y
        · exact y.symm
        · exact anti a b (a1 b y) (b1 a z)
    subst e
    rw [sorted_uniq anti a2 b2 (List.Perm.cons_inv p)]
def leI (a b : Int) : Bool := decide (a ≤ b)
def leS (x y : Str) : Bool := decide (x.cps.toList ≤ y.cps.toList)
def sortI (ns : List Int) : List Int := ns.mergeSort leI
def sortS (xs : List Str) : List Str := xs.mergeSort leS
theorem leD_int (a b : Int) : leD (.int a) (.int b) = leI a b := by
  have h := congrFun (congrFun (PySem.W.dataLe_int (β := Int) id) a) b
  exact h
theorem leD_str (a b : Str) : leD (.str a) (.str b) = leS a b := by
  have h := congrFun (congrFun (PySem.W.dataLe_str (β := Str) id) a) b
  exact h
theorem sortDs_ints (ns : List Int) : sortDs (ns.map .int) = (sortI ns).map .int := by
  unfold sortDs sortI
  exact (List.map_mergeSort fun a _ b _ => (leD_int a b).symm).symm
theorem sortDs_strs (xs : List Str) : sortDs (xs.map .str) = (sortS xs).map .str := by
  unfold sortDs sortS
  exact (List.map_mergeSort fun a _ b _ => (leD_str a b).symm).symm
theorem sortI_pw (ns : List Int) : (sortI ns).Pairwise (· ≤ ·) := by
  have h := List.pairwise_mergeSort (le := leI) (fun a b c => by unfold leI; simp only [decide_eq_true_eq]; exact fun h1 h2 => Int.le_trans h1 h2) (fun a b => by unfold leI; simp only [Bool.or_eq_true, decide_eq_true_eq]; exact Int.le_total a b) ns
  exact h.imp fun q => of_decide_eq_true q
theorem sortS_pw (xs : List Str) : (sortS xs).Pairwise (fun a b => a.cps.toList ≤ b.cps.toList) := by
  have h := List.pairwise_mergeSort (le := leS) (fun a b c => by unfold leS; simp only [decide_eq_true_eq]; exact fun h1 h2 => List.le_trans h1 h2) (fun a b => by unfold leS; simp only [Bool.or_eq_true, decide_eq_true_eq]; exact List.le_total _ _) xs
  exact h.imp fun q => of_decide_eq_true q
theorem sortI_perm {a b : List Int} (p : a.Perm b) : sortI a = sortI b :=
  sorted_uniq (fun _ _ h1 h2 => Int.le_antisymm h1 h2) (sortI_pw a) (sortI_pw b) (((List.mergeSort_perm a leI).trans p).trans (List.mergeSort_perm b leI).symm)
theorem sortS_perm {a b : List Str} (p : a.Perm b) : sortS a = sortS b :=
  sorted_uniq (fun _ _ h1 h2 => PySem.W.str_of_cps (List.le_antisymm h1 h2)) (sortS_pw a) (sortS_pw b) (((List.mergeSort_perm a leS).trans p).trans (List.mergeSort_perm b leS).symm)
/-- each once -/
def nubI : List Int → List Int
  | [] => []
  | x :: r => if x ∈ r then nubI r else x :: nubI r
def nubS : List Str → List Str
  | [] => []
  | x :: r => if x ∈ r then nubS r else x :: nubS r
theorem mem_nubI {x : Int} : ∀ {l : List Int}, x ∈ nubI l ↔ x ∈ l
  | [] => by simp [nubI]
  | y :: r => by
    unfold nubI
    split
    · rename_i h
      rw [mem_nubI, List.mem_cons]
      exact ⟨.inr, fun z => z.elim (fun e => e ▸ h) id⟩
    · rw [List.mem_cons, List.mem_cons, mem_nubI]
theorem mem_nubS {x : Str} : ∀ {l : List Str}, x ∈ nubS l ↔ x ∈ l
  | [] => by simp [nubS]
  | y :: r => by
    unfold nubS
    split
    · rename_i h
      rw [mem_nubS, List.mem_cons]
      exact ⟨.inr, fun z => z.elim (fun e => e ▸ h) id⟩
    · rw [List.mem_cons, List.mem_cons, mem_nubS]
theorem nodup_nubI : ∀ l : List Int, (nubI l).Nodup
  | [] => List.nodup_nil
  | y :: r => by
    unfold nubI
    split
    · exact nodup_nubI r
    · rename_i h
      exact List.nodup_cons.mpr ⟨fun z => h (mem_nubI.mp z), nodup_nubI r⟩
theorem nodup_nubS : ∀ l : List Str, (nubS l).Nodup
  | [] => List.nodup_nil
  | y :: r => by
    unfold nubS
    split
    · exact nodup_nubS r
    · rename_i h
      exact List.nodup_cons.mpr ⟨fun z => h (mem_nubS.mp z), nodup_nubS r⟩
theorem mem_addK {x k : Key} {l : List Key} : x ∈ addK k l ↔ x = k ∨ x ∈ l := by
  unfold addK
  split
  · rename_i h
    exact ⟨.inr, fun z => z.elim (fun e => e ▸ hasK_iff.mp h) id⟩
  · exact List.mem_cons
theorem mem_dedupK {x : Key} : ∀ {l acc : List Key}, x ∈ dedupK l acc ↔ x ∈ l ∨ x ∈ acc
  | [], acc => by simp [dedupK]
  | k :: l, acc => by
    unfold dedupK
    rw [mem_dedupK, mem_addK, List.mem_cons]
    constructor
    · rintro (h | h | h)
      · exact .inl (.inr h)
      · exact .inl (.inl h)
      · exact .inr h
    · rintro ((h | h) | h)
      · exact .inr (.inl h)
      · exact .inl h
      · exact .inr (.inr h)
theorem nodup_dedupK : ∀ {l acc : List Key}, acc.Nodup → (dedupK l acc).Nodup
  | [], acc, h => h
  | k :: l, acc, h => by
    unfold dedupK
    refine nodup_dedupK ?_
    unfold addK
    split
    · exact h
    · rename_i z
      exact List.nodup_cons.mpr ⟨fun y => z (hasK_iff.mpr y), h⟩
theorem dedup_ints (ns : List Int) : (dedupK (ns.map .inl) []).Perm ((nubI ns).map .inl) := by
  refine (List.perm_ext_iff_of_nodup (nodup_dedupK List.nodup_nil) ?_).mpr fun k => ?_
  · exact List.Nodup.map_inj_of (nodup_nubI ns)
  · rw [mem_dedupK]
    simp [mem_nubI]
where List.Nodup.map_inj_of {l : List Int} (h : l.Nodup) : (l.map (Sum.inl : Int → Key)).Nodup := by
        refine List.pairwise_map.mpr (h.imp fun q z => q ?_)
        injection z
theorem dedup_strs (xs : List Str) : (dedupK (xs.map .inr) []).Perm ((nubS xs).map .inr) := by
  refine (List.perm_ext_iff_of_nodup (nodup_dedupK List.nodup_nil) ?_).mpr fun k => ?_
  · refine List.pairwise_map.mpr ((nodup_nubS xs).imp fun q z => q ?_)
    injection z
  · rw [mem_dedupK]
    simp [mem_nubS]
def sortSetD (ds : List D) : Option (List D) := if ds.length < 1000 then match asInts ds with
  | some ns => some ((sortI (nubI ns)).map .int)
  | none => match asStrs ds with
    | some xs => some ((sortS (nubS xs)).map .str)
    | none => none
  else none
def eSortSet (m : En → R Ent) (en : En) : R Ent := (dv m en).bind fun d e => match d with
  | .list ds => match sortSetD ds with | some es => .ok (.ow es) e | none => .st
  | _ => .st
section
variable {X : Cx} {κ : Kx} {W : WX}
theorem sortSet_keys {ds es : List D} (h : sortSetD ds = some es) : ∃ ks : List Key, ds = ks.map keyD ∧ ks.length < 1000 ∧ PySem.W.AllAlike ((dedupK ks []).map keyD) ∧ ∀ ds' : List D, ds'.Perm ((dedupK ks []).map keyD) → sortDs ds' = es := by
  unfold sortSetD at h
  by_cases hl : ds.length < 1000
  · rw [if_pos hl] at h
    cases e : asInts ds with
    | some ns =>
      rw [e] at h
      cases h
      have := asInts_eq e
      subst this
      rw [List.length_map] at hl
      refine ⟨ns.map .inl, by rw [List.map_map]; rfl, by rw [List.length_map]; exact hl, ?_, fun ds' p => ?_⟩
      · intro a ha b hb
        obtain ⟨k, hk, rfl⟩ := List.mem_map.mp ha
        obtain ⟨k', hk', rfl⟩ := List.mem_map.mp hb
        have m1 := (dedup_ints ns).mem_iff.mp hk
        have m2 := (dedup_ints ns).mem_iff.mp hk'
        obtain ⟨i, _, rfl⟩ := List.mem_map.mp m1
        obtain ⟨j, _, rfl⟩ := List.mem_map.mp m2
        rfl
      · have p2 : ds'.Perm ((nubI ns).map .int) := by
          refine p.trans ?_
          have := (dedup_ints ns).map keyD
          rw [List.map_map] at this
          exact this
        obtain ⟨qs, e1, e2⟩ : ∃ qs : List Int, qs.Perm (nubI ns) ∧ ds' = qs.map .int := by
          have all : ∀ (l : List D), (∀ d ∈ l, ∃ i, d = .int i) → ∃ qs : List Int, l = qs.map .int := by
            intro l
            induction l with
            | nil => exact fun _ => ⟨[], rfl⟩
            | cons d l ih =>
              intro h
              obtain ⟨i, rfl⟩ := h d List.mem_cons_self
              obtain ⟨qs, rfl⟩ := ih fun d hd => h d (List.mem_cons_of_mem _ hd)
              exact ⟨i :: qs, rfl⟩
          obtain ⟨qs, rfl⟩ := all ds' fun d hd => by
            obtain ⟨i, _, e⟩ := List.mem_map.mp (p2.mem_iff.mp hd)
            exact ⟨i, e.symm⟩
          refine ⟨qs, ?_, rfl⟩
          have q := p2.filterMap (fun d : D => match d with | .int i => some i | _ => none)
          simpa [List.filterMap_map, Function.comp_def] using q
        subst e2
        rw [sortDs_ints, sortI_perm e1]
    | none =>
      rw [e] at h
      cases e' : asStrs ds with
      | none => rw [e'] at h; cases h
      | some xs =>
        rw [e'] at h
        cases h
        have := asStrs_eq e'
        subst this
        rw [List.length_map] at hl
        refine ⟨xs.map .inr, by rw [List.map_map]; rfl, by rw [List.length_map]; exact hl, ?_, fun ds' p => ?_⟩
        · intro a ha b hb
          obtain ⟨k, hk, rfl⟩ := List.mem_map.mp ha
          obtain ⟨k', hk', rfl⟩ := List.mem_map.mp hb
          have m1 := (dedup_strs xs).mem_iff.mp hk
          have m2 := (dedup_strs xs).mem_iff.mp hk'
          obtain ⟨i, _, rfl⟩ := List.mem_map.mp m1
          obtain ⟨j, _, rfl⟩ := List.mem_map.mp m2
          rfl
        · have p2 : ds'.Perm ((nubS xs).map .str) := by
            refine p.trans ?_
            have := (dedup_strs xs).map keyD
            rw [List.map_map] at this
            exact this
          obtain ⟨qs, e1, e2⟩ : ∃ qs : List Str, qs.Perm (nubS xs) ∧ ds' = qs.map .str := by
            have all : ∀ (l : List D), (∀ d ∈ l, ∃ i, d = .str i) → ∃ qs : List Str, l = qs.map .str := by
              intro l
              induction l with
              | nil => exact fun _ => ⟨[], rfl⟩
              | cons d l ih =>
                intro h
                obtain ⟨i, rfl⟩ := h d List.mem_cons_self
                obtain ⟨qs, rfl⟩ := ih fun d hd => h d (List.mem_cons_of_mem _ hd)
                exact ⟨i :: qs, rfl⟩
            obtain ⟨qs, rfl⟩ := all ds' fun d hd => by
              obtain ⟨i, _, e⟩ := List.mem_map.mp (p2.mem_iff.mp hd)
              exact ⟨i, e.symm⟩
            refine ⟨qs, ?_, rfl⟩
            have q := p2.filterMap (fun d : D => match d with | .str i => some i | _ => none)
            simpa [List.filterMap_map, Function.comp_def] using q
          subst e2
          rw [sortDs_strs, sortS_perm e1]
  · rw [if_neg hl] at h
    cases h
theorem de_sortSet {e : Expr} {m : En → R Ent} {p p2 pos pos2 : Pos} (hc : X.calm = true) (hu : X.A.units + 100 < cLine) (hm : X.mg "sorted" = none) (hm2 : X.mg "set" = none) (he : PE X e (tOf κ W m)) (hg : Gl X "sorted" := by rfl) (hg2 : Gl X "set" := by rfl)
    (hs : starEach [e] X.env = (false, eval e X.env) :: starEach [] X.env := by rfl) (hs2 : starEach [.Call (.Name "set" p2) [e] [] pos2] X.env = (false, eval (.Call (.Name "set" p2) [e] [] pos2) X.env) :: starEach [] X.env := by rfl)
    (hpl : (backTo pos2 (starEach [] X.env)).any (·.1) = false := by rfl) (hpl2 : (backTo pos (starEach [] X.env)).any (·.1) = false := by rfl) :
    PE X (.Call (.Name "sorted" p) [.Call (.Name "set" p2) [e] [] pos2] [] pos) (tOf κ W (eSortSet m)) :=
  pe_imp (pe_callB (call_sortQ hc hu) hg hm (by decide +kernel) (pa_cons (pe_callTy (call_setQ hc) hg2 hm2 (by decide +kernel) (pa_cons he pa_nil hs) (by decide) (by decide) hs hpl) pa_nil hs2) (by decide) (by decide) hs2 hpl2) fun σ H Q ⟨w, en, hw, s, po⟩ => by
    subst hw
    refine goD s po fun d e1 v w1 n1 s1 d1 p1 => ?_
    cases d with
    | list ds =>
      obtain ⟨a, xs, rfl, h1, h2⟩ := dp_list d1
      dsimp only at p1
      cases q : sortSetD ds with
      | none => rw [q] at p1; exact False.elim p1
      | some es =>
        rw [q] at p1
        obtain ⟨ks, e1', e2, e3, e4⟩ := sortSet_keys q
        subst e1'
        have := dpa_keys h2
        subst this
        refine ⟨a, ks, rfl, s1.wo.su _ _ h1, e2, fun b hb => ⟨b, dedupK ks [], rfl, upd_same, e3, fun ds' qs c pd eq hc' => ?_⟩⟩
        have s2 := s1.grow (o := SetHO X.prog X.w b (dedupK ks [])) hb
        have n2 := grow_nx (o := SetHO X.prog X.w b (dedupK ks [])) s1.wo.su hb
        have p2 := Po.mono (x := R.ok (Ent.ow es) e1) p1 n2
        have e5 : qs.map keyD = es := eq.trans (e4 ds' pd)
        subst e5
        refine fin_ow s2 p2 ?_ hc'
        have all : ∀ (G : Hp) (qs : List Key), DqAll G (qs.map kV) (qs.map keyD) := by
          intro G qs
          induction qs with
          | nil => exact .nil
          | cons k qs ih =>
            cases k with
            | inl i => exact .cons (.int i) ih
            | inr x => exact .cons (.str x) ih
        exact all _ qs
    | _ => exact False.elim p1
end
end CO

/-! CoS: which error: a def asked within an except suite. -/
namespace CO
open PySem PySem.Spec PyProof.Rows L2

/-! ### isinstance of the error at hand; list.count over data -/
section
variable {X : Cx}
theorem call_isP {a C : Addr} {oe : Obj} (hC : ExcC X.K C) (hz : Zc (.ref C) none oe) (hf : ∃ vs, oe.data = .fields vs) (hp : (a, oe) ∈ X.pn) : CallR X (.builtin "isinstance") (rIsE X.K C a) := by
  intro pins s σ H xs us Q I r h
  obtain ⟨c, cv, b, rfl, hcv, e, q⟩ := h
  cases r with
  | cons rx rr =>
    cases rr with
    | cons rt rr =>
      cases rr
      cases rx
      have ec := hcv _ rt
      subst ec
      obtain ⟨hget, _⟩ := I.pin (a, oe) (List.mem_append.mpr (.inl hp))
      obtain ⟨vs, hv⟩ := hf
      have J : PySem.W.InstAt s.heap a oe C none := by
        obtain ⟨oc, od, oda, osl⟩ := oe
        obtain ⟨h1, h2⟩ := hz
        dsimp only at h1 h2 hv
        subst h1 h2 hv
        exact ⟨hget, rfl, rfl, trivial⟩
      exact PySem.W.kia_one (PySem.W.handS_kitx_exc hC.hg hC.hk hC.hs hC.hd hC.ha hC.hn hC.ht hC.hm) I.kIn J e (fun z => nomatch z) fun tk => ⟨.bl b, H, I.kept (t' := tk) fun _ _ z => z, rfl, q⟩
def rCntD (K : PySem.W.Frag) : V → List V → Hp → VK → Prop := fun x xs H Q => ∃ (a : Addr) (y : V) (d : D) (ds : List D), x = V.ref a ∧ xs = [y] ∧ Dp K H (V.ref a) (.list ds) ∧ Dp K H y d ∧ SeqAt.shaped (.list ds) = true ∧ SeqAt.shaped d = true ∧
  Q (.int (ds.countP fun z => PyData.eqv z d : Nat)) H
theorem mt_countD (hu : X.A.units + 65 < cLine) : MtR X "list.count" (rCntD X.K) := by
  intro pins s σ H x xs v us Q I rx rxs h
  obtain ⟨a, y, d, ds, rfl, rfl, hl, hy, sl, sd, q⟩ := h
  cases rx
  cases rxs with
  | cons ry rt =>
    rename_i uy ut
    cases rt
    obtain ⟨bs, r1⟩ := Dp.reads I d y uy hy ry
    have hxs : PyData.canLayAll0 ds = true := SeqAt.canLay_of_shaped sl
    have hroom : X.A.units + 1 + min (PyData.depthAll ds) d.depth < cLine := room_in_shaped sd hu
    cases hl with
    | lst hs ha =>
      obtain ⟨its, rv, ⟨⟨cls, dd, data, sls⟩, n, ho, hc, hdn, hdt⟩, hlen⟩ := I.list hs
      simp only at hc hdt
      subst hc hdt
      obtain ⟨as, h4⟩ := Dp.readsAll I ds _ its ha rv
      have hmap : its.map (SeqAt.readOf s.heap) = ds := SeqAt.readsAll_map ds its as hxs h4
      refine call_meets PySem.F.slot_list_count ⟨_, ho, rfl⟩ PySem.F.entry_list_count (PySem.F.args_list_count_2 _ _) (SeqAt.list_countAt a its.toArray n dd sls uy (fun u => PyData.eqv (SeqAt.readOf s.heap u) d))
        ⟨ho, SeqAt.items_eqAt (vs := its.toArray) (show ReadsAll s.heap its.toArray.toList ds as from h4) r1 hxs (SeqAt.canLay_of_shaped sd) hroom, ?_⟩
      have e : its.toArray.toList.countP (fun u => PyData.eqv (SeqAt.readOf s.heap u) d) = ds.countP fun z => PyData.eqv z d := by
        rw [← hmap, List.countP_map]
        rfl
      refine ⟨.int (ds.countP fun z => PyData.eqv z d : Nat), H, I.tok _, ⟨s.toks, ?_⟩, q⟩
      show Value.int ((its.toArray.toList.countP (fun u => PyData.eqv (SeqAt.readOf s.heap u) d) : Nat) : Int) s.toks = _
      rw [e]
end

/-! ### a def asked with the pinned error -/
structure FnW (P : Program) (w : World) (K : PySem.W.Frag) (mg : Str → Option Value) (base : Heap) (k : Nat) (f : Addr) (fd : FuncData) (ps : List Str) (p : Addr × Obj) (sp : Sp) : Prop where
  len : ∀ vs H Q E, sp vs H Q E → vs.length = ps.length
  run : ∀ (A : Around) (outer : List Env) (s : Shared) (H : Hp) (args : Args) (us : List Value) (vs : List V) (Q : VK) (E : XK), L2H.RoomH k A → L2H.PinOk outer H s p → Env0 P w K mg base A outer s H → BindsTo s fd args (ps.zip us) → Vals vs us → sp vs H Q E →
    codeAny (model P w) A (.call (.ref f) args) (CR (L2.CX P w) outer P w H s Q E) s
theorem fnW_of {P : Program} {w : World} {K : PySem.W.Frag} {mg : Str → Option Value} {base : Heap} {k : Nat} {x : Str} {st : Stmt} {f : Addr} {fd : FuncData} {N ps : List Str} {p : Addr × Obj} {sp : Sp} (Ff : Fun K x x st f fd) (S : FnScope N ps (defScope st)) (len : ∀ vs H Q E, sp vs H Q E → vs.length = ps.length)
    (hbody : ∀ (cdv : Value) (A : Around) (outer : List Env) (s : Shared) (H : Hp) (vs : List V) (Q : VK) (E : XK), L2H.RoomH k (A.deeper (envOfC x (defScope st) s.heap.objs.size f cdv)) → sp vs H Q E →
      ∃ t, PSs (L2H.cxH (L2.CX P w) P w K mg base N x (defScope st) f cdv A outer s H E p) (defBody st) t ∧ t { nx := fun _ H' => Q .non H', rt := Q } (L2.start N vs) H) : FnW P w K mg base (k + 1) f fd ps p sp := by
  obtain ⟨oc, od, kV, doc, pm, an, cdv, ct, osl, rfl, lk, hcd⟩ := Ff.ex
  refine ⟨len, fun A outer s H args us vs Q E hr hpin e0 hb r hsp => ?_⟩
  have hl := len _ _ _ _ hsp
  have KX : K.In s.heap := e0.mod.kin.keeps fun b o e => (e0.bs b o e).1
  have lim : s.heap.NoLimit := e0.mod.nolimit.keeps fun b o e => (e0.bs b o e).1
  have kinds : ∀ y ∈ ps.zip us, (defScope st).names.lookup y.1 = some .local ∨ ((defScope st).names.lookup y.1 = some .cell ∧ ((cellsFrom (s.heap.objs.size + 1) (defScope st).names []).lookup y.1).isSome = true) := fun y hy => by
    obtain ⟨n, v⟩ := y
    rcases S.par n (List.of_mem_zip hy).1 with q | q
    · exact .inl q
    · exact .inr ⟨q, PySem.W.cellsFrom_some _ _ _ (.inl q)⟩
  refine codeAny_call_function hr.depth (KX _ _ lk) rfl S.co S.gen rfl (PySem.W.codeRec_of KX hcd) (hb _ _ _ _ (wpAny_newFunctionEnv_cells S.kind kinds fun env he s1 x => ?_))
  subst he
  refine ⟨lim.keeps x.toInCall.keep, codeAny_func ?_⟩
  obtain ⟨t, ht, hq⟩ := hbody cdv A outer s H vs Q E (hr.deeper _) hsp
  have I := L2H.inv_startH (CX := L2.CX P w) (E := E) S hpin e0 hl r x
  refine wpAny_mono (ht.run [] s1 (L2.start N vs) H _ I hq) (fun fl s' hs => ?_) fun e s' hs => hs
  cases fl with
  | ret u =>
    obtain ⟨v, σ', H', J, rv, q⟩ := hs
    exact ⟨v, H', J.os, J.bare, J.base, J.hok, rv, q⟩
  | next =>
    obtain ⟨σ', H', J, q⟩ := hs
    exact ⟨.non, H', J.os, J.bare, J.base, J.hok, rfl, q⟩
  | brk =>
    obtain ⟨_, _, _, q⟩ := hs
    exact False.elim q
  | cont =>
    obtain ⟨_, _, _, q⟩ := hs
    exact False.elim q
section
variable {X : Cx} {k : Nat} {f : Addr} {fd : FuncData} {ps : List Str} {sp : Sp} {x : Str} {q pos : Pos} {e : Expr} {t : TA} {pn : Addr × Obj}
theorem pe_callW (F : FnW X.prog X.w X.K X.mg X.base k f fd ps pn sp) (hr : L2H.RoomH k X.A) (hp : pn ∈ X.pn) (hm : X.mg x = some (.ref f)) (hk : PySem.W.keepIn X.K (.ref f) = true) (hb : Binds X.K fd ps []) (ha : PA X (e :: []) t) (hg : Gl X x := by rfl)
    (hdb : (x == ("__debug__" : Str)) = false := by decide) (he : starEach (e :: []) X.env = (false, eval e X.env) :: starEach [] X.env := by rfl) (hpl : (backTo pos (starEach [] X.env)).any (·.1) = false := by rfl) :
    PE X (.Call (.Name x q) (e :: []) [] pos) (fun σ H Q => t σ H fun vs H1 => sp vs H1 Q E0) := by
  refine ⟨fun pins s σ H Q I h => wpAny_Call_Name_kw (ld_glob I hg hm ?_ hdb)⟩
  refine PySem.W.callWith_K (h₀ := X.base) I.ok.mod.kin hk (thn (ha.run pos pins s σ H _ I h) fun us s1 ⟨vs, H1, I1, r, q⟩ => ⟨I1.kIn, ?_⟩) he hpl
  have hl : us.length = ps.length := by
    rw [← r.length]
    exact F.len _ _ _ _ q
  have b := hb s1 us I1.kIn (by rw [List.append_nil]; exact hl)
  rw [List.append_nil] at b
  have P1 := I1.pin pn (List.mem_append_left _ hp)
  have hpin : L2H.PinOk X.stack H1 s1 pn := ⟨P1.1, P1.2.1, fun hm => (List.mem_cons.mp (I1.stkSub pn.1 hm)).elim P1.2.2.1 P1.2.2.2.1, P1.2.2.2.2⟩
  refine wpAny_call (codeAny_mono (F.run X.A X.stack s1 H1 ⟨us, []⟩ us vs Q E0 hr hpin I1.env0 b r q) fun r s' hq => ?_)
  cases r with
  | error e =>
    obtain ⟨_, _, _, _, _, _, _, _, _, _, _, _, z⟩ := hq
    exact z.elim
  | ok fl =>
    cases fl with
    | ret u => exact I1.after hq
    | next => exact False.elim hq
    | brk => exact False.elim hq
    | cont => exact False.elim hq
end

/-! ### which -/
/-- what the top says of the error c and of the classes asked for -/
structure WhichF (K : PySem.W.Frag) (mg : Str → Option Value) (κ : Kx) (c : Nat) : Prop where
  lt : c < 10
  hK : κ.K = K
  isi : mg "isinstance" = none
  ve : mg "ValueError" = none
  g0 : mg "InvalidGame" = some (.ref (κ.ec 0))
  g1 : mg "InvalidRow" = some (.ref (κ.ec 1))
  g2 : mg "InvalidShape" = some (.ref (κ.ec 2))
  g3 : mg "InvalidMove" = some (.ref (κ.ec 3))
  g4 : mg "OutOfReach" = some (.ref (κ.ec 4))
  g5 : mg "OnRing" = some (.ref (κ.ec 5))
  g6 : mg "SeveralShapes" = some (.ref (κ.ec 6))
  g7 : mg "TooLong" = some (.ref (κ.ec 7))
  g8 : mg "NothingToUndo" = some (.ref (κ.ec 8))
  g9 : mg "ParseError" = some (.ref (κ.ec 9))
  kit : ∀ j, j < 10 → PySem.W.kitOne K (.ref (κ.ec c)) (.ref (κ.ec j)) = some (decide (c = j))
  kv : PySem.W.kitOne K (.ref (κ.ec c)) (.type "ValueError") = some true
  cls : ExcC K (κ.ec c)
/-- the answer: ('raised', c) -/
def ansD (c : Nat) : D := .tuple [.str (PySem.Str.ofString "raised"), .int c]
def spWhich (a : Addr) (c : Nat) : Sp := fun vs H Q _ => vs = [.ref a] ∧ ∀ H' p, Same H H' → H' p = none → Q (.ref p) (upd H' p (.tup [.str (PySem.Str.ofString "raised"), .int c]))
def tIs (K : PySem.W.Frag) (C a : Addr) (v : V) : TE := tCB (rIsE K C a) (tCons (tVar 0) (tCons (tC v) tNil))
theorem tIs_ok {K : PySem.W.Frag} {C a : Addr} {v : V} {cv : Value} {b : Bool} {σ : St} {H : Hp} {Q : VK} (h0 : σ[0]? = some (some (.ref a))) (hv : ∀ u, RelV v u → u = cv) (hk : PySem.W.kitOne K (.ref C) cv = some b) (q : Q (.bl b) H) : tIs K C a v σ H Q :=
  ⟨_, h0, v, cv, b, rfl, hv, hk, q⟩
theorem ref_only {C : Addr} : ∀ u, RelV (.ref C) u → u = .ref C := fun _ h => h
def tWhich (K : PySem.W.Frag) (κ : Kx) (C a : Addr) : TS :=
  let is := fun j => tIs K C a (.ref (κ.ec j))
  tSeq (tAsg (tLst (tCons (is 0) (tCons (is 1) (tCons (is 2) tNil)))) (gName 1)) (tSeq (tDrop (tBM K "list" rExtend (tVar 1) (tCons (tLst (tCons (is 3) (tCons (is 4) (tCons (is 5) tNil)))) tNil)))
    (tSeq (tDrop (tBM K "list" rExtend (tVar 1) (tCons (tLst (tCons (is 6) (tCons (is 7) (tCons (is 8) tNil)))) tNil))) (tSeq (tDrop (tBM K "list" rAppend (tVar 1) (tCons (is 9) tNil)))
      (tSeq (tIfS (tOr (tTest (tOp rNe (tBM K "list" (rCntD K) (tVar 1) (tCons (tC (.bl true)) tNil)) (tC (.int 1)))) (tNot (tTest (tIs K C a (.ty "ValueError"))))) (tRet (tTup (tCons (tC (.str "raised")) (tCons (tUn (rU fun i => .int (-i)) (tC (.int 1))) tNil)))) tNext)
        (tRet (tTup (tCons (tC (.str "raised")) (tCons (tBM K "list" (rIndexD K) (tVar 1) (tCons (tC (.bl true)) tNil)) tNil))))))))
theorem same_upd {H H1 : Hp} {p : Addr} {o : HO} (h : Same H H1) (hp : H p = none) : Same H (upd H1 p o) := fun b x e => by
  rw [upd_ne (ne_of_none e hp)]
  exact h b x e
theorem bools_shaped : ∀ bs : List Bool, SeqAt.shaped (.list (bs.map .bool)) = true := by
  intro bs
  have h : ∀ bs : List Bool, PyData.canLayAll0 (bs.map .bool) = true ∧ PyData.depthAll (bs.map .bool) = 0 := by
    intro bs
    induction bs with
    | nil => exact ⟨by simp [PyData.canLayAll0], by simp [PyData.depthAll]⟩
    | cons b bs ih => exact ⟨by simp [PyData.canLayAll0, PyData.canLay0, ih.1], by simp [PyData.depthAll, PyData.depth, ih.2]⟩
  unfold SeqAt.shaped
  simp [PyData.canLay0, PyData.depth, (h bs).1, (h bs).2]
theorem bools_dp {K : PySem.W.Frag} {H : Hp} : ∀ bs : List Bool, DpAll K H (bs.map V.bl) (bs.map .bool)
  | [] => .nil
  | b :: bs => .cons (.bl b) (bools_dp bs)
def whichBs (c : Nat) : List Bool := [decide (c = 0), decide (c = 1), decide (c = 2)] ++ [decide (c = 3), decide (c = 4), decide (c = 5)] ++ [decide (c = 6), decide (c = 7), decide (c = 8)] ++ [decide (c = 9)]
theorem which_count {c : Nat} (h : c < 10) : ((whichBs c).map PyData.bool).countP (fun z => PyData.eqv z (.bool true)) = 1 := by
  have : c = 0 ∨ c = 1 ∨ c = 2 ∨ c = 3 ∨ c = 4 ∨ c = 5 ∨ c = 6 ∨ c = 7 ∨ c = 8 ∨ c = 9 := by omega
  rcases this with rfl | rfl | rfl | rfl | rfl | rfl | rfl | rfl | rfl | rfl <;> decide
theorem which_at {c : Nat} (h : c < 10) : ((whichBs c).map PyData.bool)[c]? = some (.bool true) ∧ ∀ (m : Nat) (z : D), m < c → ((whichBs c).map PyData.bool)[m]? = some z → PyData.eqv z (.bool true) = false := by
  have k1 : ∀ c, c < 10 → (whichBs c)[c]? = some true := by decide
  have k2 : ∀ c, c < 10 → ∀ m, m < c → (whichBs c)[m]? = some false := by decide
  refine ⟨by rw [List.getElem?_map, k1 c h]; rfl, fun m z hm hz => ?_⟩
  rw [List.getElem?_map, k2 c h m hm] at hz
  cases hz
  simp [PyData.eqv]
section
variable {P : Program} {w : World} {K : PySem.W.Frag} {mg : Str → Option Value} {base : Heap} {κ : Kx} {c : Nat} {a : Addr}
theorem pure_which (Fw : WhichF K mg κ c) (vs : List V) (H : Hp) (Q : VK) (E : XK) (h : spWhich a c vs H Q E) : tWhich K κ (κ.ec c) a { nx := fun _ H' => Q .non H', rt := Q } (L2.start ["_law_e", "_law_own"] vs) H := by
  obtain ⟨rfl, k⟩ := h
  have is : ∀ {j : Nat} {σ : St} {H : Hp} {Q : VK}, j < 10 → σ[0]? = some (some (.ref a)) → Q (.bl (decide (c = j))) H → tIs K (κ.ec c) a (.ref (κ.ec j)) σ H Q := fun hj h0 q => tIs_ok h0 ref_only (Fw.kit _ hj) q
  refine is (by decide) rfl (is (by decide) rfl (is (by decide) rfl ⟨by show 3 ≤ sizeLine; decide, fun l hl => ?_⟩))
  have s1 : Same H (upd H l (.lst [.bl (decide (c = 0)), .bl (decide (c = 1)), .bl (decide (c = 2))])) := same_upd (Same.refl H) hl
  refine ⟨_, rfl, .inl ⟨rfl, _, SqL.of upd_same⟩, is (by decide) rfl (is (by decide) rfl (is (by decide) rfl ⟨by show 3 ≤ sizeLine; decide, fun l2 hl2 => ?_⟩))⟩
  have n2 : l2 ≠ l := fun z => by
    rw [z, upd_same] at hl2
    cases hl2
  have s2 := same_upd (o := .lst [.bl (decide (c = 3)), .bl (decide (c = 4)), .bl (decide (c = 5))]) s1 (s1.free hl2)
  refine ⟨l, l2, _, _, rfl, rfl, (upd_ne (Ne.symm n2)).trans upd_same, upd_same, by show 6 ≤ sizeLine; decide, ?_⟩
  have s3 := same_upd (p := l) (o := .lst ([.bl (decide (c = 0)), .bl (decide (c = 1)), .bl (decide (c = 2))] ++ [.bl (decide (c = 3)), .bl (decide (c = 4)), .bl (decide (c = 5))])) s2 hl
  refine ⟨_, rfl, .inl ⟨rfl, _, SqL.of upd_same⟩, is (by decide) rfl (is (by decide) rfl (is (by decide) rfl ⟨by show 3 ≤ sizeLine; decide, fun l3 hl3 => ?_⟩))⟩
  have n3 : l3 ≠ l := fun z => by
    rw [z, upd_same] at hl3
    cases hl3
  have s4 := same_upd (o := .lst [.bl (decide (c = 6)), .bl (decide (c = 7)), .bl (decide (c = 8))]) s3 (s3.free hl3)
  refine ⟨l, l3, _, _, rfl, rfl, (upd_ne (Ne.symm n3)).trans upd_same, upd_same, by show 9 ≤ sizeLine; decide, ?_⟩
  have s5 := same_upd (p := l) (o := .lst ([.bl (decide (c = 0)), .bl (decide (c = 1)), .bl (decide (c = 2))] ++ [.bl (decide (c = 3)), .bl (decide (c = 4)), .bl (decide (c = 5))] ++ [.bl (decide (c = 6)), .bl (decide (c = 7)), .bl (decide (c = 8))])) s4 hl
  refine ⟨_, rfl, .inl ⟨rfl, _, SqL.of upd_same⟩, is (by decide) rfl ⟨l, _, _, rfl, rfl, upd_same, by show 9 < sizeLine; decide, ?_⟩⟩
  have s6 := same_upd (p := l) (o := .lst ((whichBs c).map V.bl)) s5 hl
  have dl : Dp K (upd (upd (upd (upd (upd (upd H l (.lst [.bl (decide (c = 0)), .bl (decide (c = 1)), .bl (decide (c = 2))])) l2 (.lst [.bl (decide (c = 3)), .bl (decide (c = 4)), .bl (decide (c = 5))])) l (.lst ([.bl (decide (c = 0)), .bl (decide (c = 1)), .bl (decide (c = 2))] ++ [.bl (decide (c = 3)), .bl (decide (c = 4)), .bl (decide (c = 5))]))) l3 (.lst [.bl (decide (c = 6)), .bl (decide (c = 7)), .bl (decide (c = 8))]))
    l (.lst ([.bl (decide (c = 0)), .bl (decide (c = 1)), .bl (decide (c = 2))] ++ [.bl (decide (c = 3)), .bl (decide (c = 4)), .bl (decide (c = 5))] ++ [.bl (decide (c = 6)), .bl (decide (c = 7)), .bl (decide (c = 8))]))) l (.lst ((whichBs c).map V.bl))) (.ref l) (.list ((whichBs c).map .bool)) := .lst (SqL.of upd_same) (bools_dp _)
  refine ⟨_, rfl, .inl ⟨rfl, _, SqL.of upd_same⟩, l, .bl true, .bool true, (whichBs c).map .bool, rfl, rfl, dl, .bl true, bools_shaped _, by decide, ?_⟩
  rw [which_count Fw.lt]
  refine ⟨rfl, _, rfl, ?_⟩
  refine iteF (tIs_ok (b := true) rfl (cv := .type "ValueError") (fun u h => h) Fw.kv ⟨true, rfl, iteF ⟨_, rfl, .inl ⟨rfl, _, SqL.of upd_same⟩, l, .bl true, .bool true, (whichBs c).map .bool, c, .bool true, rfl, rfl, dl, .bl true, bools_shaped _, by decide, (which_at Fw.lt).1, rfl, (which_at Fw.lt).2, ?_⟩⟩)
  exact ⟨by show 2 ≤ sizeLine; decide, fun p hp => k _ p s6 hp⟩
end
end CO

/-! CoT: try: .. except CoinError as e: return which(e). -/
namespace CO
open PySem PySem.Spec PyProof.Rows L2
section
variable {κ : Kx} {w : Sn} {σ : St} {en : En}
theorem StR.sameH {H' : Hp} (s : StR κ w σ en) (h : Same w.H H') : StR κ { w with H := H' } σ en := by
  refine ⟨⟨s.wo.fr, s.wo.su.trans h, s.wo.wl, fun j ob q e1 e2 => ?_⟩, s.ln, fun i => ?_⟩
  · have x := s.wo.wd j ob q e1 e2
    cases ob with
    | tn k => exact ⟨x.1, h _ _ x.2⟩
    | tb g rows kept =>
      obtain ⟨dx, l, vg, rs, a1, a2, a3, a4, a5, a6, a7, a8⟩ := x
      exact ⟨dx, l, vg, rs, a1, a2, a3, h _ _ a4, h _ _ a5, h _ _ a6, a7, a8⟩
  · rcases s.sl i with q | ⟨v, q1, q2⟩
    · exact .inl q
    · refine .inr ⟨v, q1, ?_⟩
      show EntR κ { w with H := H' } (.s i) v (en.get i)
      cases hg : en.get i with
      | no => trivial
      | sh d => rw [hg] at q2; exact q2
      | ow ds =>
        rw [hg] at q2
        obtain ⟨p, xs, e1, e2, e3, e4⟩ := q2
        exact ⟨p, xs, e1, e2, h _ _ e3, e4⟩
      | dk kvs =>
        rw [hg] at q2
        obtain ⟨p, xs, e1, e2, e3, e4⟩ := q2
        exact ⟨p, xs, e1, e2, h _ _ e3, e4⟩
      | wr j => rw [hg] at q2; exact q2
      | sc => rw [hg] at q2; exact q2
      | fz kvs => rw [hg] at q2; exact q2
theorem sameH_nx {H' : Hp} (h : Same w.H H') : Nx w { w with H := H' } := ⟨List.prefix_refl _, Same.refl _, fun x o h1 h2 => ⟨h _ _ h1, rfl, h2⟩⟩
end
def sTry (i : Nat) (cs : List Nat) (ms : En → R Fl) (en : En) : R Fl := match ms en with
  | .ok f e => .ok f e
  | .ex c e => if cs.contains c = true ∧ i < e.sl.length then .ok (.rt (.sh (ansD c))) e else .st
  | .st => .st
/-- what the suite's call gives -/
def tAsk (i : Nat) (a : Addr) (c : Nat) : TE := fun σ H Q => σ[i]? = some (some (.ref a)) ∧ ∀ H' p, Same H H' → H' p = none → Q (.ref p) (upd H' p (.tup [.str (PySem.Str.ofString "raised"), .int c]))
section
variable {X : Cx} {κ : Kx} {W : WX}
theorem ds_tryW (i : Nat) (cs : List Nat) {ce : Addr} {x n : Str} {body : List Stmt} {call : Expr} {np pos pos' rp : Pos} {ms : En → R Fl} (hN : X.N.Nodup) (hc : Names X x (.ref ce)) (hW : ∀ c, cs.contains c = true → PySem.W.exmOne X.K (.ref (κ.ec c)) (.ref ce) = some true)
    (hb : ∀ (W' : WX) (pn : List (Addr × Obj)) (xe : Value → Shared → Prop), Takes (X.tr pn xe) W' → PassesOwn (model X.prog X.w) X.A X.env xe → PSs (X.tr pn xe) body (tSOf κ W' ms))
    (hsu : ∀ c, cs.contains c = true → ∀ (a : Addr) (oe : Obj) (pn : List (Addr × Obj)), Zc (.ref (κ.ec c)) none oe → (∃ vs, oe.data = .fields vs) → PE (X.suite a ((a, oe) :: pn)) call (tAsk i a c))
    (hs : X.stack = X.env :: X.outer := by rfl) (hf : X.env.frame = some X.env.locals := by rfl) (hi : X.N[i]? = some n := by rfl) (hln : X.env.kindOf n = some .local := by rfl) :
    PS X (.Try body [.ExceptHandler (some (.Name x np)) (some n) [.Return (some call) rp] pos'] [] [] pos) (tSOf κ W (sTry i cs ms)) := by
  have base := ps_try_as (X := X) (pos := pos) (np := np) (pos' := pos') (i := i) (tb := fun W' => tSOf κ W' ms) (ts := fun a cls d D σ H => ∃ c, cs.contains c = true ∧ cls = .ref (κ.ec c) ∧ d = none ∧ tRet (tAsk i a c) D σ H) (Wout := NoW) (b₀ := .Return (some call) rp) (suite := []) hs hf hN hi hln hc takes0 hb
    (fun a oe cls d pn hz hfl => ⟨fun pins s σ H D I h => by
      obtain ⟨c, h1, rfl, rfl, h4⟩ := h
      exact (pss_one (ps_ret (hsu c h1 a oe pn hz hfl))).run pins s σ H D I h4⟩)
  refine ps_imp base fun D σ H ⟨w, en, hw, s, p⟩ => ?_
  subst hw
  refine ⟨w, en, rfl, s, ?_⟩
  unfold sTry at p
  cases e : ms en with
  | ok f e1 =>
    rw [e] at p
    exact p
  | ex c e1 =>
    rw [e] at p
    intro σ' w' n' s'
    dsimp only at p
    by_cases hcs : cs.contains c = true ∧ i < e1.sl.length
    · rw [if_pos hcs] at p
      refine ⟨true, hW c hcs.1, fun _ a ha => ⟨c, hcs.1, rfl, rfl, ?_, fun H' q hS hq => ?_⟩, fun z => nomatch z⟩
      · rw [List.getElem?_set_self (by rw [← s'.ln]; exact hcs.2)]
      · have s2 := s'.sameH hS
        have n2 := n'.trans (sameH_nx hS)
        have s3 : StR κ (grow { w' with H := H' } q (.tup [.str (PySem.Str.ofString "raised"), .int c])) σ' e1 := s2.grow hq
        have n3 := n2.trans (grow_nx (w := { w' with H := H' }) (o := .tup [.str (PySem.Str.ofString "raised"), .int c]) s2.wo.su hq)
        exact p (grow { w' with H := H' } q (.tup [.str (PySem.Str.ofString "raised"), .int c])) n3 (.ref q) σ' s3 (.tup upd_same (.cons (.str _) (.cons (.int _) .nil)))
    · rw [if_neg hcs] at p
      exact False.elim p
  | st =>
    rw [e] at p
    exact p
/-- the call in the suite -/
theorem de_ask {k i c : Nat} {f : Addr} {fd : FuncData} {a : Addr} {oe : Obj} {x y : Str} {q py pos : Pos} (Fw : FnW X.prog X.w X.K X.mg X.base k f fd ["_law_e"] (a, oe) (spWhich a c)) (hr : L2H.RoomH k X.A) (hp : (a, oe) ∈ X.pn) (hm : X.mg x = some (.ref f)) (hk : PySem.W.keepIn X.K (.ref f) = true) (hb : Binds X.K fd ["_law_e"] [])
    (hN : X.N[i]? = some y := by rfl) (hv : Vis X.env.scope y := by first | exact Or.inl rfl | exact Or.inr (Or.inl rfl) | exact Or.inr (Or.inr rfl)) (hd : (y == ("__debug__" : Str)) = false := by decide) (hcd : (y == ("__classdict__" : Str)) = false := by decide) (hg : Gl X x := by rfl)
    (hdb : (x == ("__debug__" : Str)) = false := by decide) (he : starEach (.Name y py :: []) X.env = (false, eval (.Name y py) X.env) :: starEach [] X.env := by rfl) (hpl : (backTo pos (starEach [] X.env)).any (·.1) = false := by rfl) :
    PE X (.Call (.Name x q) [.Name y py] [] pos) (tAsk i a c) :=
  pe_imp (pe_callW Fw hr hp hm hk hb (pa_cons (pv i hN hv hd hcd) pa_nil he) hg hdb he hpl) fun σ H Q ⟨h1, h2⟩ => ⟨_, h1, rfl, h2⟩
end
end CO

/-! CoU: the law's town, the law's end. -/
namespace CO
open PySem PySem.Spec PyProof.Rows L2
def sTown (i : Nat) (en : En) : R Fl := .ok .nx (En.set { en with wd := en.wd ++ [Ob.tn 0] } i (.wr en.wd.length))
section
variable {κ : Kx} {w : Sn} {σ : St} {en : En}
/-- a new world object at p -/
def newW (w : Sn) (p : Addr) (o : HO) (j : Nat) : Sn := { w with ad := w.ad ++ [p], H := upd w.H p o, O := fun b => if b = p then some (.w j) else w.O b }
theorem newW_nx {p : Addr} {o : HO} {j : Nat} (hp : w.H p = none) : Nx w (newW w p o j) :=
  ⟨List.prefix_append _ _, Same.refl _, fun x u h1 h2 => by
    have ne : x ≠ p := ne_of_none h1 hp
    exact ⟨(upd_ne ne).trans h1, rfl, (if_neg ne).trans h2⟩⟩
theorem ObR.newW {p q : Addr} {o : HO} {ix : Ix} {ob : Ob} {j : Nat} (hp : w.H p = none) (h : ObR κ w ix q ob) : ObR κ (newW w p o j) ix q ob := by
  have ne : ∀ {q : Addr} {u : HO}, w.H q = some u → q ≠ p := fun e => ne_of_none e hp
  have up : ∀ {q : Addr} {u : HO} {kx : Option Ix}, w.H q = some u → w.O q = kx → (if q = p then some (Ix.w j) else w.O q) = kx := fun e1 e2 => (if_neg (ne e1)).trans e2
  cases ob with
  | tn k => exact ⟨up h.2 h.1, (upd_ne (ne h.2)).trans h.2⟩
  | tb g rows kept =>
    obtain ⟨dx, l, vg, rs, a1, a2, a3, a4, a5, a6, a7, a8⟩ := h
    exact ⟨dx, l, vg, rs, up a4 a1, up a5 a2, up a6 a3, (upd_ne (ne a4)).trans a4, (upd_ne (ne a5)).trans a5, (upd_ne (ne a6)).trans a6, a7, a8⟩
theorem StR.newW {p : Addr} {o : HO} {ob : Ob} (s : StR κ w σ en) (hp : w.H p = none) (hr : ObR κ (CO.newW w p o en.wd.length) (.w en.wd.length) p ob) : StR κ (CO.newW w p o en.wd.length) σ { en with wd := en.wd ++ [ob] } := by
  refine ⟨⟨fun q i e => ?_, fun b u e => ?_, ?_, fun j ob' q e1 e2 => ?_⟩, s.ln, fun i => ?_⟩
  · by_cases z : q = p
    · rw [z]; exact s.wo.su.free hp
    · have e' : (if q = p then some (Ix.w en.wd.length) else w.O q) = some i := e
      rw [if_neg z] at e'
      exact s.wo.fr q i e'
  · have q := s.wo.su b u e
    exact (upd_ne (ne_of_none q hp)).trans q
  · show (w.ad ++ [p]).length = (en.wd ++ [ob]).length
    rw [List.length_append, List.length_append, s.wo.wl]; rfl
  · have e1' : (en.wd ++ [ob])[j]? = some ob' := e1
    have e2' : (w.ad ++ [p])[j]? = some q := e2
    by_cases hj : j < en.wd.length
    · rw [List.getElem?_append_left hj] at e1'
      rw [List.getElem?_append_left (by rw [s.wo.wl]; exact hj)] at e2'
      exact (s.wo.wd j ob' q e1' e2').newW hp
    · have ej : j = en.wd.length := by
        have := (List.getElem?_eq_some_iff.mp e1').1
        rw [List.length_append, List.length_singleton] at this
        omega
      subst ej
      rw [List.getElem?_append_right (Nat.le_refl _), Nat.sub_self] at e1'
      rw [List.getElem?_append_right (by rw [s.wo.wl]; exact Nat.le_refl _), s.wo.wl, Nat.sub_self] at e2'
      cases e1'
      cases e2'
      exact hr
  · rcases s.sl i with q | ⟨v, q1, q2⟩
    · exact .inl q
    · refine .inr ⟨v, q1, ?_⟩
      show EntR κ (CO.newW w p o en.wd.length) (.s i) v (en.get i)
      have ne : ∀ {q : Addr} {u : HO}, w.H q = some u → q ≠ p := fun e => ne_of_none e hp
      cases hg : en.get i with
      | no => trivial
      | sh d => rw [hg] at q2; exact q2
      | ow ds =>
        rw [hg] at q2
        obtain ⟨q, ys, e1, e2, e3, e4⟩ := q2
        exact ⟨q, ys, e1, (if_neg (ne e3)).trans e2, (upd_ne (ne e3)).trans e3, e4⟩
      | dk kvs =>
        rw [hg] at q2
        obtain ⟨q, ys, e1, e2, e3, e4⟩ := q2
        exact ⟨q, ys, e1, (if_neg (ne e3)).trans e2, (upd_ne (ne e3)).trans e3, e4⟩
      | wr j =>
        rw [hg] at q2
        obtain ⟨q, e1, e2⟩ := q2
        exact ⟨q, e1, (newW_nx (o := o) (j := en.wd.length) hp).ad e2⟩
      | sc => rw [hg] at q2; exact q2
      | fz kvs => rw [hg] at q2; exact q2
end
section
variable {X : Cx} {κ : Kx} {W : WX}
theorem ds_town (i : Nat) {x : Str} {pe pos' pos : Pos} (hN : X.N.Nodup) (hi : X.N[i]? = some x := by rfl) (hx : Loc X.env.scope x := by first | exact Or.inl rfl | exact Or.inr rfl) (hs : swapsWith (.List [] pe) (some (.Name x pos')) pos.line X.env = pure false := by rfl)
    (hf : X.fn x = true ∨ X.env.scope.names.lookup x = some .local := by first | exact .inl rfl | exact .inr rfl) : PS X (.Assign [.Name x pos'] (.List [] pe) pos) (tSOf κ W (sTown i)) :=
  ps_imp (ps_set hN hi hx (pe_lst pa_nil) hs hf) fun Dn σ H ⟨w, en, hw, s, p⟩ => by
    subst hw
    refine ⟨by decide, fun q hq => ?_⟩
    have s1 : StR κ (newW w q (.lst []) en.wd.length) σ { en with wd := en.wd ++ [.tn 0] } := s.newW hq ⟨if_pos rfl, upd_same⟩
    have ha : (newW w q (.lst []) en.wd.length).ad[en.wd.length]? = some q := by
      show (w.ad ++ [q])[en.wd.length]? = some q
      rw [← s.wo.wl, List.getElem?_append_right (Nat.le_refl _), Nat.sub_self]; rfl
    have s2 := s1.sto (i := i) (v := .ref q) (r := .wr en.wd.length) ⟨q, rfl, ha⟩
    have n1 := newW_nx (w := w) (p := q) (o := .lst []) (j := en.wd.length) hq
    have n2 : Nx w { newW w q (.lst []) en.wd.length with O := stoO (newW w q (.lst []) en.wd.length).O i (own? (.wr en.wd.length) (.ref q)) } := sto_nx n1 fun p e => by cases e
    exact p _ n2 _ s2
end
/-- as fnD_of, the def's own object in sight -/
theorem fnOk_of {P : Program} {w : World} {K : PySem.W.Frag} {mg : Str → Option Value} {base : Heap} {κ : Kx} {x : Str} {st : Stmt} {f : Addr} {fd : FuncData} {N ps : List Str} {k : Nat} (Ff : Fun K x x st f fd) (S : FnScope N ps (defScope st)) (ms : En → R Fl)
    (hbody : ∀ (cdv : Value) (A : Around) (outer : List Env) (s : Shared) (H : Hp) (E : XK), Room k (A.deeper (envOfC x (defScope st) s.heap.objs.size f cdv)) →
      PSs (cxOf (L2.CX P w) P w K mg base N x (defScope st) f cdv A outer s H E) (defBody st) (tSOf κ (fun cls d _ H => E cls d H) ms)) : FnOk P w K mg base (L2.CX P w) (k + 1) f fd ps (spOf κ ps.length (finM N.length ms)) := by
  refine Ff.okX S (fun vs H Q E h => h.1) (fun cdv A outer s H vs Q E hr h => ⟨_, hbody cdv A outer s H E hr, ?_⟩)
  obtain ⟨_, w0, es, wd, hH, hw, hO, ha, p⟩ := h
  refine ⟨w0, _, hH, start_ok hw ha, ?_⟩
  unfold finM at p
  cases hm : ms ⟨es ++ List.replicate (N.length - es.length) .no, wd⟩ with
  | ok fl e =>
    rw [hm] at p
    intro w' n
    cases fl with
    | nx => exact fun σ' s' => p .non w' n s'.wo .non
    | rt r => exact fun v σ' s' er => p v w' n s'.wo er
    | bk => exact False.elim p
    | ct => exact False.elim p
  | ex c e =>
    rw [hm] at p
    exact fun σ' w' n s' => p w' n s'.wo
  | st =>
    rw [hm] at p
    exact p
/-- the law's start -/
theorem law_start {κ : Kx} {K : PySem.W.Frag} {m : List Ent → List Ob → R Ent} {H : Hp} {a : Addr} {ns : List Int} (hK : κ.K = K) (hS : SqL K H a (ns.map V.int)) (h : ∃ e, m [.sc ns] [] = .ok (.sh (.bool true)) e) : spOf κ 1 m [.ref a] H (fun v _ => v = .bl true) fun _ _ _ => False := by
  obtain ⟨e, he⟩ := h
  refine ⟨rfl, ⟨[], fun _ => none, H, H⟩, [.sc ns], [], rfl, ⟨(fun p i z => nomatch z), Same.refl _, rfl, (fun j ob p z => by simp at z)⟩, (fun p ix z => nomatch z), .cons ⟨a, rfl, by rw [hK]; exact hS⟩ .nil, ?_⟩
  rw [he]
  exact fun v w' n hw er => dp_bool er
theorem cx_false {P : Program} {w : World} {H : Hp} {s : Shared} {e : Value} {s' : Shared} (h : L2.CX P w [] H s (fun _ _ _ => False) e s') : False := by
  obtain ⟨_, _, _, _, _, _, _, _, _, _, _, _, z⟩ := h
  exact z
/-! ### what K says by names -/
def adr (K : PySem.W.Frag) (x : Str) : Addr := match PySem.W.nsIn K mainGlobals x with
  | some (some (.ref a)) => a
  | _ => 0
theorem adr_of {K : PySem.W.Frag} {x : Str} {a : Addr} (h : PySem.W.nsIn K mainGlobals x = some (some (.ref a))) : adr K x = a := by
  unfold adr
  rw [h]
def excNm : Nat → Str
  | 0 => "InvalidGame" | 1 => "InvalidRow" | 2 => "InvalidShape" | 3 => "InvalidMove" | 4 => "OutOfReach"
  | 5 => "OnRing" | 6 => "SeveralShapes" | 7 => "TooLong" | 8 => "NothingToUndo" | 9 => "ParseError" | _ => "CoinError"
def kOf (K : PySem.W.Frag) : Kx := ⟨K, adr K "Table", fun j => adr K (excNm j)⟩
theorem exn_mk {K : PySem.W.Frag} {h : Heap} {mg : Str → Option Value} {C : Addr} (c : Nat) (X : K.In h) (G : h.Ns mainGlobals mg) (a : PySem.W.nsIn K mainGlobals (excNm c) = some (some (.ref C))) (k : PySem.W.keepIn K (.ref C) = true)
    (e : PySem.W.excIn K C [.type "ValueError", .type "Exception", .type "BaseException", .type "object"] "ValueError.__new__" = true) (s : PySem.W.subIn K (.ref C) (.type "BaseException") = some true) (t : PySem.W.typeIn K (.ref C) = some (.type "type")) : ExnOk K mg (kOf K) c (excNm c) := by
  have z : (kOf K).ec c = C := adr_of a
  refine ⟨?_, ?_, ?_, ?_, ?_⟩ <;> rw [z]
  · exact PySem.W.mg_of X G a
  · exact k
  · exact e
  · exact s
  · exact t
theorem fun_ok {K : PySem.W.Frag} {h : Heap} {mg : Str → Option Value} {x : Str} {st : Stmt} {f : Addr} {ps : List Str} {oc : Value} {od an : Option Addr} {osl : Array (Option Value)} {kV doc pm cdv ct : Value} (X : K.In h) (G : h.Ns mainGlobals mg) (a : PySem.W.nsIn K mainGlobals x = some (some (.ref f)))
    (l : K.lookup f = some ⟨oc, od, .func (PySem.W.fnOf x x (defArgs st) (defBody st) (defScope st) .none kV doc pm an cdv ct), osl⟩) (c : PySem.W.codeIn K cdv x = true) (k : PySem.W.keepIn K (.ref f) = true)
    (b : ∀ (kV doc pm : Value) (an : Option Addr) (cdv ct : Value) (us : List Value), us.length = ps.length → bindArgs (PySem.W.fnOf x x (defArgs st) (defBody st) (defScope st) .none kV doc pm an cdv ct) ⟨us, []⟩ = pure (ps.zip us)) : FunOk K mg x st ps :=
  ⟨f, _, fun_mk l c k, PySem.W.mg_of X G a, (fun_mk l c k).binds b⟩
end CO

/-! CoV: running the data functions. -/
namespace CO
open PySem PySem.Spec PyProof.Rows L2

theorem bind_ok {α β : Type} (a : α) (e : En) (f : α → En → R β) : (R.ok a e).bind f = f a e := rfl
theorem bind_ex {α β : Type} (c : Nat) (e : En) (f : α → En → R β) : (R.ex c e : R α).bind f = .ex c e := rfl
theorem bind_st {α β : Type} (f : α → En → R β) : (R.st : R α).bind f = .st := rfl
theorem bind_eq {α β : Type} {x : R α} {a : α} {e : En} {f : α → En → R β} (h : x = .ok a e) : x.bind f = f a e := by rw [h]; rfl
theorem get_mk (l : List Ent) (wd : List Ob) (i : Nat) : En.get ⟨l, wd⟩ i = l.getD i .no := rfl
theorem set_mk (l : List Ent) (wd : List Ob) (i : Nat) (e : Ent) : En.set ⟨l, wd⟩ i e = ⟨l.set i e, wd⟩ := rfl

/-! ### a def's run -/
/-- m gives r and leaves the world wd' -/
def Run (m : List Ent → List Ob → R Ent) (es : List Ent) (wd : List Ob) (r : Ent) (wd' : List Ob) : Prop := ∃ sl, m es wd = .ok r ⟨sl, wd'⟩
def RunX (m : List Ent → List Ob → R Ent) (es : List Ent) (wd : List Ob) (c : Nat) (wd' : List Ob) : Prop := ∃ sl, m es wd = .ex c ⟨sl, wd'⟩
theorem Run.ret {nN : Nat} {f : En → R Fl} {es : List Ent} {wd wd' : List Ob} {r : Ent} {sl : List Ent} (h : f ⟨es ++ List.replicate (nN - es.length) .no, wd⟩ = .ok (.rt r) ⟨sl, wd'⟩) : Run (finM nN f) es wd r wd' := ⟨sl, by unfold finM; rw [h]; rfl⟩
theorem Run.none {nN : Nat} {f : En → R Fl} {es : List Ent} {wd wd' : List Ob} {sl : List Ent} (h : f ⟨es ++ List.replicate (nN - es.length) .no, wd⟩ = .ok .nx ⟨sl, wd'⟩) : Run (finM nN f) es wd (.sh .none) wd' := ⟨sl, by unfold finM; rw [h]; rfl⟩
theorem RunX.of {nN : Nat} {f : En → R Fl} {es : List Ent} {wd wd' : List Ob} {c : Nat} {sl : List Ent} (h : f ⟨es ++ List.replicate (nN - es.length) .no, wd⟩ = .ex c ⟨sl, wd'⟩) : RunX (finM nN f) es wd c wd' := ⟨sl, by unfold finM; rw [h]; rfl⟩
theorem call_run {n : Nat} {m : List Ent → List Ob → R Ent} {ms : En → R (List Ent)} {en : En} {es : List Ent} {sl : List Ent} {wd wd' : List Ob} {r : Ent} (ha : ms en = .ok es ⟨sl, wd⟩) (hl : es.length = n) (h : Run m es wd r wd') : eCallF n m ms en = .ok r ⟨sl, wd'⟩ := by
  obtain ⟨sl', h⟩ := h
  unfold eCallF
  rw [ha, bind_ok, if_pos hl]
  show (match m es wd with | .ok r e' => R.ok r { sl := sl, wd := e'.wd } | .ex c e' => .ex c { sl := sl, wd := e'.wd } | .st => .st) = _
  rw [h]
theorem call_runX {n : Nat} {m : List Ent → List Ob → R Ent} {ms : En → R (List Ent)} {en : En} {es : List Ent} {sl : List Ent} {wd wd' : List Ob} {c : Nat} (ha : ms en = .ok es ⟨sl, wd⟩) (hl : es.length = n) (h : RunX m es wd c wd') : eCallF n m ms en = .ex c ⟨sl, wd'⟩ := by
  obtain ⟨sl', h⟩ := h
  unfold eCallF
  rw [ha, bind_ok, if_pos hl]
  show (match m es wd with | .ok r e' => R.ok r { sl := sl, wd := e'.wd } | .ex c e' => .ex c { sl := sl, wd := e'.wd } | .st => .st) = _
  rw [h]

/-! ### loops -/
def stepS (g : Ent → En → R Unit) (b : En → R Fl) (d : D) (e : En) : R Fl := (g (.sh d) e).bind fun _ e1 => b e1
theorem for_run {S : Type} {g : Ent → En → R Unit} {b : En → R Fl} (E : S → En → Prop) (step : S → D → S) : ∀ (ds : List D) (s : S) (e : En), E s e → (∀ d ∈ ds, ∀ s e, E s e → ∃ e', stepS g b d e = .ok .nx e' ∧ E (step s d) e') → ∃ e', forGo g b ds e = .ok .nx e' ∧ E (ds.foldl step s) e'
  | [], s, e, h, _ => ⟨e, rfl, h⟩
  | d :: ds, s, e, h, k => by
    obtain ⟨e1, h1, h2⟩ := k d List.mem_cons_self s e h
    obtain ⟨e2, h3, h4⟩ := for_run E step ds _ e1 h2 fun d m => k d (List.mem_cons_of_mem _ m)
    refine ⟨e2, ?_, h4⟩
    unfold forGo
    unfold stepS at h1
    cases hg : g (.sh d) e with
    | ok u e3 => rw [hg, bind_ok] at h1; rw [bind_ok, h1, bind_ok]; exact h3
    | ex c e3 => rw [hg] at h1; cases h1
    | st => rw [hg] at h1; cases h1
theorem for_cons {g : Ent → En → R Unit} {b : En → R Fl} {d : D} {ds : List D} {e e1 : En} (h : stepS g b d e = .ok .nx e1) : forGo g b (d :: ds) e = forGo g b ds e1 := by
  conv => lhs; unfold forGo
  unfold stepS at h
  cases hg : g (.sh d) e with
  | ok u e3 => rw [hg, bind_ok] at h; rw [bind_ok, h, bind_ok]
  | ex c e3 => rw [hg] at h; cases h
  | st => rw [hg] at h; cases h
/-- one turn of a comprehension -/
def itemG (g : Ent → En → R Unit) (t : En → R Bool) (m : En → R Ent) (vs : List Nat) (d : D) (e : En) : R (Option D) := (noEx (g (.sh d) (wipeE e vs))).bind fun _ e1 => (noEx (t e1)).bind fun b e2 =>
      if b = true then (noEx (dv m e2)).bind fun x e3 => .ok (some x) e3 else .ok none e2
theorem comp_step {g : Ent → En → R Unit} {t : En → R Bool} {m : En → R Ent} {vs : List Nat} {d : D} {ds : List D} {e e' : En} {acc : List D} {o : Option D} (hl : acc.length < lim) (h : itemG g t m vs d e = .ok o e') :
    compGo g t m vs (d :: ds) e acc = compGo g t m vs ds e' (acc ++ o.toList) := by
  conv => lhs; unfold compGo
  rw [if_pos hl]
  unfold itemG at h
  cases h1 : noEx (g (.sh d) (wipeE e vs)) with
  | ok u e1 =>
    rw [h1, bind_ok] at h
    rw [bind_ok]
    cases h2 : noEx (t e1) with
    | ok b e2 =>
      rw [h2, bind_ok] at h
      rw [bind_ok]
      cases b with
      | false =>
        rw [if_neg (by decide)] at h ⊢
        cases h
        rw [Option.toList_none, List.append_nil]
      | true =>
        rw [if_pos rfl] at h ⊢
        cases h3 : noEx (dv m e2) with
        | ok x e3 =>
          rw [h3, bind_ok] at h
          rw [bind_ok]
          cases h
          rfl
        | ex c e3 => rw [h3] at h; cases h
        | st => rw [h3] at h; cases h
    | ex c e2 => rw [h2] at h; cases h
    | st => rw [h2] at h; cases h
  | ex c e1 => rw [h1] at h; cases h
  | st => rw [h1] at h; cases h
theorem comp_pure {g : Ent → En → R Unit} {t : En → R Bool} {m : En → R Ent} {vs : List Nat} (E : En → Prop) (F : D → Option D) : ∀ (ds : List D) (e : En) (acc : List D), E e → acc.length + ds.length ≤ lim → (∀ d ∈ ds, ∀ e, E e → ∃ e', itemG g t m vs d e = .ok (F d) e' ∧ E e') →
    ∃ e', compGo g t m vs ds e acc = .ok (acc ++ ds.filterMap F) e' ∧ E e'
  | [], e, acc, h, _, _ => ⟨e, by simp [compGo], h⟩
  | d :: ds, e, acc, h, hl, k => by
    have hl' : acc.length + (ds.length + 1) ≤ lim := hl
    obtain ⟨e1, h1, h2⟩ := k d List.mem_cons_self e h
    have ho : (F d).toList.length ≤ 1 := by cases F d <;> simp
    obtain ⟨e2, h3, h4⟩ := comp_pure E F ds e1 (acc ++ (F d).toList) h2 (by rw [List.length_append]; omega) fun d m => k d (List.mem_cons_of_mem _ m)
    refine ⟨e2, ?_, h4⟩
    rw [comp_step (by omega) h1, h3]
    congr 1
    cases hF : F d with
    | none => simp [List.filterMap_cons, hF]
    | some x => simp [List.filterMap_cons, hF]
/-- each item something, the state going on -/
theorem comp_some {S : Type} {g : Ent → En → R Unit} {t : En → R Bool} {m : En → R Ent} {vs : List Nat} (E : Nat → En → Prop) (Pd : D → Prop) : ∀ (ds : List D) (k : Nat) (e : En) (acc : List D), E k e → acc.length + ds.length ≤ lim → (∀ d ∈ acc, Pd d) → (∀ d ∈ ds, ∀ j e, k ≤ j → j < k + ds.length → E j e → ∃ x e', itemG g t m vs d e = .ok (some x) e' ∧ Pd x ∧ E (j + 1) e') →
    ∃ xs e', compGo g t m vs ds e acc = .ok xs e' ∧ xs.length = acc.length + ds.length ∧ (∀ d ∈ xs, Pd d) ∧ E (k + ds.length) e'
  | [], k, e, acc, h, _, ha, _ => ⟨acc, e, rfl, rfl, ha, h⟩
  | d :: ds, k, e, acc, h, hl, ha, st => by
    have hl' : acc.length + (ds.length + 1) ≤ lim := hl
    obtain ⟨x, e1, h1, hx, h2⟩ := st d List.mem_cons_self k e (Nat.le_refl _) (by simp) h
    obtain ⟨xs, e2, h3, h4, h5, h6⟩ := comp_some (S := S) E Pd ds (k + 1) e1 (acc ++ [x]) h2 (by rw [List.length_append]; simp; omega) (by
      intro d hd
      rcases List.mem_append.mp hd with q | q
      · exact ha d q
      · rw [List.mem_singleton.mp q]; exact hx) fun d m j e a b => st d (List.mem_cons_of_mem _ m) j e (by omega) (by simp; omega)
    refine ⟨xs, e2, ?_, ?_, h5, ?_⟩
    · rw [comp_step (by omega) h1]
      exact h3
    · rw [h4, List.length_append]; simp; omega
    · rw [show k + (d :: ds).length = k + 1 + ds.length by simp; omega]; exact h6
theorem lc_run {mi : En → R (List D)} {g : Ent → En → R Unit} {t : En → R Bool} {m : En → R Ent} {vs : List Nat} {en e e' : En} {ds xs : List D} (h : mi en = .ok ds e) (hc : compGo g t m vs ds e [] = .ok xs e') : eLc mi g t m vs en = .ok (.ow xs) (restE (wipeE e' vs) e vs) := by
  unfold eLc
  rw [h, bind_ok, hc, bind_ok]
theorem noEx_ok {α : Type} (a : α) (e : En) : noEx (R.ok a e) = .ok a e := rfl
theorem isT_int_none : isT "int" (.none) = false := rfl
theorem isT_int_bool (b : Bool) : isT "int" (.bool b) = true := rfl
theorem isT_int_int (i : Int) : isT "int" (.int i) = true := rfl
theorem isT_int_str (s : Str) : isT "int" (.str s) = false := rfl
theorem isT_int_list (l : List D) : isT "int" (.list l) = false := rfl
theorem isT_int_tuple (l : List D) : isT "int" (.tuple l) = false := rfl
theorem isT_bool_none : isT "bool" (.none) = false := rfl
theorem isT_bool_bool (b : Bool) : isT "bool" (.bool b) = true := rfl
theorem isT_bool_int (i : Int) : isT "bool" (.int i) = false := rfl
theorem isT_bool_str (s : Str) : isT "bool" (.str s) = false := rfl
theorem isT_bool_list (l : List D) : isT "bool" (.list l) = false := rfl
theorem isT_bool_tuple (l : List D) : isT "bool" (.tuple l) = false := rfl
theorem isT_str_none : isT "str" (.none) = false := rfl
theorem isT_str_bool (b : Bool) : isT "str" (.bool b) = false := rfl
theorem isT_str_int (i : Int) : isT "str" (.int i) = false := rfl
theorem isT_str_str (s : Str) : isT "str" (.str s) = true := rfl
theorem isT_str_list (l : List D) : isT "str" (.list l) = false := rfl
theorem isT_str_tuple (l : List D) : isT "str" (.tuple l) = false := rfl
theorem isT_tuple_none : isT "tuple" (.none) = false := rfl
theorem isT_tuple_bool (b : Bool) : isT "tuple" (.bool b) = false := rfl
theorem isT_tuple_int (i : Int) : isT "tuple" (.int i) = false := rfl
theorem isT_tuple_str (s : Str) : isT "tuple" (.str s) = false := rfl
theorem isT_tuple_list (l : List D) : isT "tuple" (.list l) = false := rfl
theorem isT_tuple_tuple (l : List D) : isT "tuple" (.tuple l) = true := rfl
theorem isT_list_none : isT "list" (.none) = false := rfl
theorem isT_list_bool (b : Bool) : isT "list" (.bool b) = false := rfl
theorem isT_list_int (i : Int) : isT "list" (.int i) = false := rfl
theorem isT_list_str (s : Str) : isT "list" (.str s) = false := rfl
theorem isT_list_list (l : List D) : isT "list" (.list l) = true := rfl
theorem isT_list_tuple (l : List D) : isT "list" (.tuple l) = false := rfl
theorem lenL_0 {α : Type}  : (([] : List α).length ≤ lim) = True := eq_true (by show 0 ≤ lim; decide)
theorem lenL_1 {α : Type} (a0 : α) : (([a0] : List α).length ≤ lim) = True := eq_true (by show 1 ≤ lim; decide)
theorem lenL_2 {α : Type} (a0 a1 : α) : (([a0, a1] : List α).length ≤ lim) = True := eq_true (by show 2 ≤ lim; decide)
theorem lenL_3 {α : Type} (a0 a1 a2 : α) : (([a0, a1, a2] : List α).length ≤ lim) = True := eq_true (by show 3 ≤ lim; decide)
theorem lenL_4 {α : Type} (a0 a1 a2 a3 : α) : (([a0, a1, a2, a3] : List α).length ≤ lim) = True := eq_true (by show 4 ≤ lim; decide)
theorem lenL_5 {α : Type} (a0 a1 a2 a3 a4 : α) : (([a0, a1, a2, a3, a4] : List α).length ≤ lim) = True := eq_true (by show 5 ≤ lim; decide)
theorem lenL_6 {α : Type} (a0 a1 a2 a3 a4 a5 : α) : (([a0, a1, a2, a3, a4, a5] : List α).length ≤ lim) = True := eq_true (by show 6 ≤ lim; decide)
theorem lenL_7 {α : Type} (a0 a1 a2 a3 a4 a5 a6 : α) : (([a0, a1, a2, a3, a4, a5, a6] : List α).length ≤ lim) = True := eq_true (by show 7 ≤ lim; decide)
theorem lenL_8 {α : Type} (a0 a1 a2 a3 a4 a5 a6 a7 : α) : (([a0, a1, a2, a3, a4, a5, a6, a7] : List α).length ≤ lim) = True := eq_true (by show 8 ≤ lim; decide)
theorem lenL_9 {α : Type} (a0 a1 a2 a3 a4 a5 a6 a7 a8 : α) : (([a0, a1, a2, a3, a4, a5, a6, a7, a8] : List α).length ≤ lim) = True := eq_true (by show 9 ≤ lim; decide)
theorem lenL_10 {α : Type} (a0 a1 a2 a3 a4 a5 a6 a7 a8 a9 : α) : (([a0, a1, a2, a3, a4, a5, a6, a7, a8, a9] : List α).length ≤ lim) = True := eq_true (by show 10 ≤ lim; decide)
theorem lenL_11 {α : Type} (a0 a1 a2 a3 a4 a5 a6 a7 a8 a9 a10 : α) : (([a0, a1, a2, a3, a4, a5, a6, a7, a8, a9, a10] : List α).length ≤ lim) = True := eq_true (by show 11 ≤ lim; decide)
theorem lenL_12 {α : Type} (a0 a1 a2 a3 a4 a5 a6 a7 a8 a9 a10 a11 : α) : (([a0, a1, a2, a3, a4, a5, a6, a7, a8, a9, a10, a11] : List α).length ≤ lim) = True := eq_true (by show 12 ≤ lim; decide)
end CO

/-! CoW: dicts. -/
namespace CO
open PySem PySem.Spec PyProof.Rows L2

/-! ### {'a': 'b', ..}[e] -/
def lkKv (ps : List (Str × Str)) : List (Key × V) := ps.map fun p => (Sum.inr p.1, V.str p.2)
def lkS (ps : List (Str × Str)) (s : Str) : Option Str := match valV (mergeK [] (lkKv ps)) (Sum.inr s) with | some (.str t) => some t | _ => none
def eLk (ps : List (Str × Str)) (m : En → R Ent) (en : En) : R Ent := (dv m en).bind fun d e => match d with
  | .str s => (match lkS ps s with | some t => .ok (.sh (.str t)) e | none => .st)
  | _ => .st
def lkT (ps : List (Str × Str)) : List (TE × TE) := ps.map fun p => (tC (.str p.1), tC (.str p.2))
theorem tPairs_lk : ∀ (ps : List (Str × Str)) (σ : St) (H : Hp) (Q : List (V × V) → Hp → Prop), Q (ps.map fun p => (V.str p.1, V.str p.2)) H → tPairs (lkT ps) σ H Q
  | [], _, _, _, h => h
  | p :: ps, σ, H, Q, h => tPairs_lk ps σ H (fun qs H3 => Q ((V.str p.1, V.str p.2) :: qs) H3) h
section
variable {X : Cx} {κ : Kx} {W : WX}
theorem de_lk {ps : List (Str × Str)} {keys : List (Option Expr)} {values : List Expr} {i : Expr} {m : En → R Ent} {p1 pos : Pos} (hu : X.A.units + 1 < cLine) (h : PPs X p1 keys values (lkT ps)) (hall : keys.all (·.isSome) = true) (hl : keys.length = values.length) (h0 : keys ≠ []) (h15 : keys.length ≤ 15) (hps : ps.length ≤ 15) (hi : PE X i (tOf κ W m)) (hs : NoSl i) :
    PE X (.Subscript (.Dict keys values p1) i pos) (tOf κ W (eLk ps m)) :=
  pe_imp (pe_dget hu (pe_disp h hall hl h0 h15) hi hs) fun σ H Q ⟨w, en, hw, s, p⟩ => by
    subst hw
    intro q hq
    refine tPairs_lk ps σ _ _ ⟨upd_same, lkKv ps, ?_, by simpa [lkKv] using hps, ?_⟩
    · unfold lkKv
      rw [List.map_map]
      rfl
    · have s1 := s.grow (o := .dK (mergeK [] (lkKv ps))) hq
      have e : upd (upd w.H q (.dK [])) q (.dK (mergeK [] (lkKv ps))) = (grow w q (.dK (mergeK [] (lkKv ps)))).H := by
        funext b
        show upd (upd w.H q (.dK [])) q _ b = upd w.H q _ b
        by_cases z : b = q
        · subst z; rw [upd_same, upd_same]
        · rw [upd_ne z, upd_ne z, upd_ne z]
      rw [e]
      have n1 := grow_nx (o := .dK (mergeK [] (lkKv ps))) s.wo.su hq
      refine goD s1 (p.mono n1) fun d e1 v w2 n2 s2 d2 p2 => ?_
      have hk : w2.H q = some (.dK (mergeK [] (lkKv ps))) := (n2.f q _ upd_same (by show letO w.O q q = none; exact letO_same)).1
      cases d2 with
      | str x =>
        cases hv : valV (mergeK [] (lkKv ps)) (Sum.inr x) with
        | none =>
          have p' : Po κ W w2 (match lkS ps x with | some t => R.ok (Ent.sh (.str t)) e1 | none => .st) (Qe κ σ Q) := p2
          unfold lkS at p'
          rw [hv] at p'
          exact p'.elim
        | some u =>
          have p' : Po κ W w2 (match lkS ps x with | some t => R.ok (Ent.sh (.str t)) e1 | none => .st) (Qe κ σ Q) := p2
          unfold lkS at p'
          rw [hv] at p'
          cases u with
          | str t => exact ⟨q, .str t, rfl, .inl ⟨_, Sum.inr x, .inl hk, rfl, hv.symm⟩, fin_sh s2 p' (.str t)⟩
          | _ => exact p'.elim
      | _ => exact p2.elim
end
end CO

/-! CoX: dicts of numbers and texts. -/
namespace CO
open PySem PySem.Spec PyProof.Rows L2

def keyOf : D → Option Key
  | .int i => some (.inl i)
  | .str x => some (.inr x)
  | _ => none
theorem keyOf_v {G : Hp} {v : V} {d : D} {k : Key} (h : Dq G v d) (e : keyOf d = some k) : v = kV k := by
  cases h with
  | int i => cases e; rfl
  | str x => cases e; rfl
  | _ => cases e
def valD : List (Key × D) → Key → Option D
  | [], _ => none
  | p :: r, k => if p.1 = k then some p.2 else valD r k
def putD (kvs : List (Key × D)) (k : Key) (d : D) : List (Key × D) :=
  if (valD kvs k).isSome = true then kvs.map (fun p => if p.1 = k then (p.1, d) else p) else kvs ++ [(k, d)]
theorem dpkv_val {G : Hp} {k : Key} : ∀ {ks : List (Key × V)} {kvs : List (Key × D)}, DpKv G ks kvs → (valV ks k = none ∧ valD kvs k = none) ∨ ∃ v d, valV ks k = some v ∧ valD kvs k = some d ∧ Dq G v d
  | [], [], .nil => .inl ⟨rfl, rfl⟩
  | p :: ks, q :: kvs, .cons ⟨e, h⟩ t => by
    by_cases c : p.1 = k
    · right
      refine ⟨p.2, q.2, valV_pos c, ?_, h⟩
      show (if q.1 = k then some q.2 else valD kvs k) = _
      rw [if_pos (e ▸ c)]
    · rw [valV_neg c]
      show _ ∨ ∃ v d, _ ∧ (if q.1 = k then some q.2 else valD kvs k) = _ ∧ _
      rw [show valD (q :: kvs) k = valD kvs k from if_neg (fun z => c (e.trans z)), if_neg (fun z => c (e.trans z))]
      exact dpkv_val t
theorem dpkv_some {G : Hp} {k : Key} {ks : List (Key × V)} {kvs : List (Key × D)} (h : DpKv G ks kvs) : (valV ks k).isSome = (valD kvs k).isSome := by
  rcases dpkv_val (k := k) h with ⟨a, b⟩ | ⟨v, d, a, b, _⟩ <;> simp [a, b]
theorem dpkv_map {G : Hp} {k : Key} {v : V} {d : D} (hv : Dq G v d) : ∀ {ks : List (Key × V)} {kvs : List (Key × D)}, DpKv G ks kvs → DpKv G (ks.map fun kv => if kv.1 = k then (kv.1, v) else kv) (kvs.map fun p => if p.1 = k then (p.1, d) else p)
  | [], [], .nil => .nil
  | p :: ks, q :: kvs, .cons ⟨e, h⟩ t => by
    refine .cons ?_ (dpkv_map hv t)
    dsimp only
    by_cases c : p.1 = k
    · rw [if_pos c, if_pos (e ▸ c)]; exact ⟨e, hv⟩
    · rw [if_neg c, if_neg (fun z => c (e.trans z))]; exact ⟨e, h⟩
theorem dpkv_app {G : Hp} : ∀ {ks ls : List (Key × V)} {kvs lvs : List (Key × D)}, DpKv G ks kvs → DpKv G ls lvs → DpKv G (ks ++ ls) (kvs ++ lvs)
  | [], _, [], _, .nil, h => h
  | _ :: _, _, _ :: _, _, .cons e t, h => .cons e (dpkv_app t h)
theorem dpkv_len {G : Hp} {ks : List (Key × V)} {kvs : List (Key × D)} (h : DpKv G ks kvs) : ks.length = kvs.length := Paired.length h
theorem dpkv_put {G : Hp} {k : Key} {v : V} {d : D} {ks : List (Key × V)} {kvs : List (Key × D)} (h : DpKv G ks kvs) (hv : Dq G v d) : DpKv G (putK ks k v) (putD kvs k d) := by
  unfold putK putD
  rw [valV_any, dpkv_some h]
  split
  · exact dpkv_map hv h
  · exact dpkv_app h (.cons ⟨rfl, hv⟩ .nil)
theorem dpkv_keys {G : Hp} : ∀ {ks : List (Key × V)} {kvs : List (Key × D)}, DpKv G ks kvs → ks.map (·.1) = kvs.map (·.1)
  | [], [], .nil => rfl
  | p :: ks, q :: kvs, .cons ⟨e, h⟩ t => by rw [List.map_cons, List.map_cons, e, dpkv_keys t]
/-- what a dict's entry holds -/
def dkOf : Ent → Option (List (Key × D))
  | .dk kvs => some kvs
  | .fz kvs => some kvs
  | _ => none
section
variable {X : Cx} {κ : Kx} {W : WX} {w : Sn} {σ : St} {en : En} {m mi mk mv mx : En → R Ent} {e i : Expr} {px apos cpos pos : Pos}
theorem dk_at {j : Nat} {kvs : List (Key × D)} (s : StR κ w σ en) (h : dkOf (en.get j) = some kvs) : ∃ p ks, σ[j]? = some (some (.ref p)) ∧ Rd w.H p (.dK ks) ∧ DpKv w.G ks kvs := by
  cases hg : en.get j with
  | dk kv =>
    rw [hg] at h
    cases h
    obtain ⟨v, e1, e2⟩ := s.at (i := j) (by rw [hg]; intro z; cases z)
    rw [hg] at e2
    obtain ⟨p, ks, rfl, _, h2, h3⟩ := e2
    exact ⟨p, ks, e1, .inl h2, h3⟩
  | fz kv =>
    rw [hg] at h
    cases h
    obtain ⟨v, e1, e2⟩ := s.at (i := j) (by rw [hg]; intro z; cases z)
    rw [hg] at e2
    obtain ⟨p, od, ks, rfl, h2, h3⟩ := e2
    exact ⟨p, ks, e1, .inr ⟨od, s.wo.su _ _ h2⟩, h3⟩
  | no => rw [hg] at h; cases h
  | sh d => rw [hg] at h; cases h
  | ow ds => rw [hg] at h; cases h
  | wr j => rw [hg] at h; cases h
  | sc ns => rw [hg] at h; cases h
theorem own_dk {j : Nat} {kvs : List (Key × D)} (s : StR κ w σ en) (h : en.get j = .dk kvs) : ∃ p ks, σ[j]? = some (some (.ref p)) ∧ w.O p = some (.s j) ∧ w.H p = some (.dK ks) ∧ DpKv w.G ks kvs := by
  obtain ⟨v, e1, e2⟩ := s.at (i := j) (by rw [h]; intro z; cases z)
  rw [h] at e2
  obtain ⟨p, ks, rfl, q⟩ := e2
  exact ⟨p, ks, e1, q⟩
theorem dget_rd {H : Hp} {a : Addr} {ks : List (Key × V)} {k : Key} (h : Rd H a (.dK ks)) : DGet H a (kV k) (valV ks k) := .inl ⟨ks, k, h, rfl, rfl⟩

/-! ### {} and {k: v} -/
def eDic0 (en : En) : R Ent := .ok (.dk []) en
theorem de_dic0 : PE X (.Dict [] [] pos) (tOf κ W eDic0) :=
  pe_imp pe_dnewK fun σ H Q ⟨w, en, hw, s, p⟩ => by
    subst hw
    intro q hq
    exact p (newR w q (.dK [])) (newR_nx hq) (.ref q) (s.newR hq) ⟨q, [], rfl, newR_Op, upd_same, .nil⟩
def eDic1 (mk mv : En → R Ent) (en : En) : R Ent := (dv mk en).bind fun d e1 => (dv mv e1).bind fun v e2 => match keyOf d with
  | some k => .ok (.dk [(k, v)]) e2
  | none => .st
theorem de_dic1 {k v : Expr} (hk : PE X k (tOf κ W mk)) (hv : PE X v (tOf κ W mv)) : PE X (.Dict [some k] [v] pos) (tOf κ W (eDic1 mk mv)) :=
  pe_imp (pe_disp (pps_cons hk hv pps_nil) rfl rfl (by intro z; cases z) (by show 1 ≤ 15; decide)) fun σ H Q ⟨w, en, hw, s, p⟩ => by
    subst hw
    intro q hq
    have hG : w.G q = none := s.wo.su.free hq
    let wN : Sn := { w with H := upd w.H q (.dK []), O := letO w.O q }
    have nN : Nx w wN := ⟨List.prefix_refl _, Same.refl _, fun x u h1 h2 => by
      have ne : x ≠ q := ne_of_none h1 hq
      exact ⟨(upd_ne ne).trans h1, rfl, (letO_ne ne).trans h2⟩⟩
    have sN : StR κ wN σ en := by
      have s2 := (s.newR (o := .dK []) hq).letR (p := q) newR_Op
      have e : ({ newR w q (.dK []) with O := letO (newR w q (.dK [])).O q } : Sn) = wN := by
        show ({ newR w q (.dK []) with O := letO (newR w q (.dK [])).O q } : Sn) = { w with H := upd w.H q (.dK []), O := letO w.O q }
        have : letO (newR w q (.dK [])).O q = letO w.O q := by
          funext b
          unfold letO
          by_cases hb : b = q
          · rw [if_pos hb, if_pos hb]
          · rw [if_neg hb, if_neg hb]
            exact newR_O hb
        rw [this]; rfl
      rw [e] at s2
      exact s2
    show tOf κ W mk σ (upd w.H q (.dK [])) _
    refine goX nN sN p fun d e1 y w1 _ n1 s1 d1 p1 => ?_
    refine goX (nN.trans n1) s1 p1 fun v e2 z w2 _ n2 s2 d2 p2 => ?_
    have n12 := n1.trans n2
    obtain ⟨f1, f2, f3⟩ := n12.f q _ upd_same (by show letO w.O q q = none; exact letO_same)
    cases hkk : keyOf d with
    | none => rw [hkk] at p2; exact p2.elim
    | some k =>
      rw [hkk] at p2
      have ey := keyOf_v d1 hkk
      subst ey
      refine ⟨f1, [(k, z)], rfl, by show 1 ≤ 15; decide, ?_⟩
      have em : mergeK [] [(k, z)] = [(k, z)] := rfl
      rw [em]
      have hG2 : w2.G q = none := f2.trans hG
      have s3 : StR κ { w2 with H := upd w2.H q (.dK [(k, z)]) } σ e2 := s2.updFree f3 hG2
      have s4 := s3.own (jx := .r) (p := q) f3 hG2
      refine p2 { w2 with H := upd w2.H q (.dK [(k, z)]), O := fun b => if b = q then some .r else w2.O b } ?_ (.ref q) s4 ⟨q, [(k, z)], rfl, if_pos rfl, upd_same, .cons ⟨rfl, d2⟩ .nil⟩
      have n02 := nN.trans n12
      exact ⟨n02.p, n02.g, fun x u h1 h2 => by
        have ne : x ≠ q := ne_of_none h1 hq
        obtain ⟨a1, a2, a3⟩ := n02.f x u h1 h2
        exact ⟨(upd_ne ne).trans a1, a2, (if_neg ne).trans a3⟩⟩

/-! ### looking -/
def eDin (i : Nat) (m : En → R Ent) (en : En) : R Ent := (dv m en).bind fun d e => match dkOf (e.get i), keyOf d with
  | some kvs, some k => .ok (.sh (.bool (valD kvs k).isSome)) e
  | _, _ => .st
def eDnotin (i : Nat) (m : En → R Ent) (en : En) : R Ent := (dv m en).bind fun d e => match dkOf (e.get i), keyOf d with
  | some kvs, some k => .ok (.sh (.bool (!(valD kvs k).isSome))) e
  | _, _ => .st
theorem tDin_of {j : Nat} {H : Hp} {Q : VK} (q : tOf κ W (eDin j m) σ H Q) : tDIn (tOf κ W m) (tVar j) σ H Q := by
  obtain ⟨w, en, hw, s, p⟩ := q
  subst hw
  refine goD s p fun d e1 y w1 n1 s1 d1 p1 => ?_
  cases hd : dkOf (e1.get j) with
  | none => rw [hd] at p1; exact p1.elim
  | some kvs =>
    cases hk : keyOf d with
    | none => rw [hd, hk] at p1; exact p1.elim
    | some k =>
      rw [hd, hk] at p1
      obtain ⟨q, ks, ev, rd, kv⟩ := dk_at s1 hd
      have := keyOf_v d1 hk
      subst this
      refine ⟨_, ev, q, _, rfl, dget_rd rd, ?_⟩
      rw [dpkv_some kv]
      exact fin_sh s1 p1 (.bl _)
theorem tDnotin_of {j : Nat} {H : Hp} {Q : VK} (q : tOf κ W (eDnotin j m) σ H Q) : tDNotIn (tOf κ W m) (tVar j) σ H Q := by
  obtain ⟨w, en, hw, s, p⟩ := q
  subst hw
  refine goD s p fun d e1 y w1 n1 s1 d1 p1 => ?_
  cases hd : dkOf (e1.get j) with
  | none => rw [hd] at p1; exact p1.elim
  | some kvs =>
    cases hk : keyOf d with
    | none => rw [hd, hk] at p1; exact p1.elim
    | some k =>
      rw [hd, hk] at p1
      obtain ⟨q, ks, ev, rd, kv⟩ := dk_at s1 hd
      have := keyOf_v d1 hk
      subst this
      refine ⟨_, ev, q, _, rfl, dget_rd rd, ?_⟩
      rw [dpkv_some kv]
      exact fin_sh s1 p1 (.bl _)
theorem de_din (j : Nat) {x : Str} (hu : X.A.units + 1 < cLine) (he : PE X e (tOf κ W m)) (hN : X.N[j]? = some x := by rfl)
    (hv : Vis X.env.scope x := by first | exact Or.inl rfl | exact Or.inr (Or.inl rfl) | exact Or.inr (Or.inr rfl)) (hd : (x == ("__debug__" : Str)) = false := by decide) (hcd : (x == ("__classdict__" : Str)) = false := by decide) :
    PE X (.Compare e [.In] [.Name x px] pos) (tOf κ W (eDin j m)) := pe_imp (pe_cmp (pc_din hu he (pv j hN hv hd hcd))) fun σ H Q q => tDin_of q
theorem de_dnotin (j : Nat) {x : Str} (hu : X.A.units + 1 < cLine) (he : PE X e (tOf κ W m)) (hN : X.N[j]? = some x := by rfl)
    (hv : Vis X.env.scope x := by first | exact Or.inl rfl | exact Or.inr (Or.inl rfl) | exact Or.inr (Or.inr rfl)) (hd : (x == ("__debug__" : Str)) = false := by decide) (hcd : (x == ("__classdict__" : Str)) = false := by decide) :
    PE X (.Compare e [.NotIn] [.Name x px] pos) (tOf κ W (eDnotin j m)) := pe_imp (pe_cmp (pc_dnotin hu he (pv j hN hv hd hcd))) fun σ H Q q => tDnotin_of q
theorem dt_din (j : Nat) {x : Str} (hu : X.A.units + 1 < cLine) (he : PE X e (tOf κ W m)) (hN : X.N[j]? = some x := by rfl)
    (hv : Vis X.env.scope x := by first | exact Or.inl rfl | exact Or.inr (Or.inl rfl) | exact Or.inr (Or.inr rfl)) (hd : (x == ("__debug__" : Str)) = false := by decide) (hcd : (x == ("__classdict__" : Str)) = false := by decide) :
    PT X (.Compare e [.In] [.Name x px] pos) (tTOf κ W (tst (eDin j m))) := pt_imp (pt_cmp (pc_din hu he (pv j hN hv hd hcd))) fun σ H Q q => tTest_of (fun σ H Q z => tDin_of z) q
theorem dt_dnotin (j : Nat) {x : Str} (hu : X.A.units + 1 < cLine) (he : PE X e (tOf κ W m)) (hN : X.N[j]? = some x := by rfl)
    (hv : Vis X.env.scope x := by first | exact Or.inl rfl | exact Or.inr (Or.inl rfl) | exact Or.inr (Or.inr rfl)) (hd : (x == ("__debug__" : Str)) = false := by decide) (hcd : (x == ("__classdict__" : Str)) = false := by decide) :
    PT X (.Compare e [.NotIn] [.Name x px] pos) (tTOf κ W (tst (eDnotin j m))) := pt_imp (pt_cmp (pc_dnotin hu he (pv j hN hv hd hcd))) fun σ H Q q => tTest_of (fun σ H Q z => tDnotin_of z) q
/-- d[e], d a name -/
def eDget (i : Nat) (m : En → R Ent) (en : En) : R Ent := match dkOf (en.get i) with
  | none => .st
  | some _ => (dv m en).bind fun d e => match dkOf (e.get i), keyOf d with
    | some kvs, some k => (match valD kvs k with | some x => .ok (.sh x) e | none => .st)
    | _, _ => .st
theorem de_dget (j : Nat) {x : Str} (hu : X.A.units + 1 < cLine) (he : PE X i (tOf κ W m)) (hN : X.N[j]? = some x := by rfl)
    (hv : Vis X.env.scope x := by first | exact Or.inl rfl | exact Or.inr (Or.inl rfl) | exact Or.inr (Or.inr rfl)) (hd : (x == ("__debug__" : Str)) = false := by decide) (hcd : (x == ("__classdict__" : Str)) = false := by decide) (hs : NoSl i := by exact fun _ _ => rfl) :
    PE X (.Subscript (.Name x px) i pos) (tOf κ W (eDget j m)) :=
  pe_imp (pe_dget hu (pv j hN hv hd hcd) he hs) fun σ H Q ⟨w, en, hw, s, p⟩ => by
    subst hw
    unfold eDget at p
    cases hd0 : dkOf (en.get j) with
    | none => rw [hd0] at p; exact p.elim
    | some kvs0 =>
      rw [hd0] at p
      obtain ⟨q0, _, ev0, _, _⟩ := dk_at s hd0
      refine ⟨_, ev0, ?_⟩
      refine goD s p fun d e1 y w1 n1 s1 d1 p1 => ?_
      cases hd : dkOf (e1.get j) with
      | none => rw [hd] at p1; exact p1.elim
      | some kvs =>
        cases hk : keyOf d with
        | none => rw [hd, hk] at p1; exact p1.elim
        | some k =>
          rw [hd, hk] at p1
          obtain ⟨q, ks, ev, rd, kv⟩ := dk_at s1 hd
          rw [ev0] at ev
          cases ev
          have := keyOf_v d1 hk
          subst this
          rcases dpkv_val (k := k) kv with ⟨a, b⟩ | ⟨v, d', a, b, dq⟩
          · dsimp only at p1
            rw [b] at p1
            exact p1.elim
          · dsimp only at p1
            rw [b] at p1
            exact ⟨q0, v, rfl, a ▸ dget_rd rd, fin_sh s1 p1 dq⟩
/-- d.get(e, f), d a name -/
def eDgetD (i : Nat) (m mx : En → R Ent) (en : En) : R Ent := match dkOf (en.get i) with
  | none => .st
  | some _ => (dv m en).bind fun d e1 => (dv mx e1).bind fun x e => match dkOf (e.get i), keyOf d with
    | some kvs, some k => .ok (.sh ((valD kvs k).getD x)) e
    | _, _ => .st
theorem isD_rd {H : Hp} {a : Addr} {ks : List (Key × V)} (h : Rd H a (.dK ks)) : IsD H a := .inl ⟨ks, h⟩
theorem de_dgetD (j : Nat) {x : Str} {f : Expr} (hu : X.A.units + 1 < cLine) (he : PE X e (tOf κ W m)) (hf : PE X f (tOf κ W mx)) (hN : X.N[j]? = some x := by rfl)
    (hv : Vis X.env.scope x := by first | exact Or.inl rfl | exact Or.inr (Or.inl rfl) | exact Or.inr (Or.inr rfl)) (hd : (x == ("__debug__" : Str)) = false := by decide) (hcd : (x == ("__classdict__" : Str)) = false := by decide)
    (m2 : M2 X (.Name x px) "get" apos e f cpos := by exact ⟨rfl, rfl, rfl, rfl⟩) :
    PE X (.Call (.Attribute (.Name x px) "get" apos) [e, f] [] cpos) (tOf κ W (eDgetD j m mx)) :=
  pe_imp (pe_dget2 hu (pv j hN hv hd hcd) he hf m2) fun σ H Q ⟨w, en, hw, s, p⟩ => by
    subst hw
    unfold eDgetD at p
    cases hd0 : dkOf (en.get j) with
    | none => rw [hd0] at p; exact p.elim
    | some kvs0 =>
      rw [hd0] at p
      obtain ⟨q0, _, ev0, rd0, _⟩ := dk_at s hd0
      refine ⟨_, ev0, q0, rfl, isD_rd rd0, ?_⟩
      refine goD s p fun d e1 y w1 n1 s1 d1 p1 => ?_
      refine goD s1 p1 fun u e2 z w2 n2 s2 d2 p2 => ?_
      cases hd : dkOf (e2.get j) with
      | none => rw [hd] at p2; exact p2.elim
      | some kvs =>
        cases hk : keyOf d with
        | none => rw [hd, hk] at p2; exact p2.elim
        | some k =>
          rw [hd, hk] at p2
          obtain ⟨q, ks, ev, rd, kv⟩ := dk_at s2 hd
          rw [ev0] at ev
          cases ev
          have := keyOf_v d1 hk
          subst this
          refine ⟨_, dget_rd rd, ?_⟩
          rcases dpkv_val (k := k) kv with ⟨a, b⟩ | ⟨v, d', a, b, dq⟩
          · rw [a]
            dsimp only at p2
            rw [b] at p2
            exact fin_sh s2 p2 d2
          · rw [a]
            dsimp only at p2
            rw [b] at p2
            exact fin_sh s2 p2 dq
/-- a call's dict[e] -/
def eDgetR (m mi : En → R Ent) (en : En) : R Ent := (m en).bind fun r e1 => match r with
  | .dk kvs => (dv mi e1).bind fun d e2 => (match (keyOf d).bind (valD kvs) with | some x => .ok (.sh x) e2 | none => .st)
  | _ => .st
theorem de_dgetR (hu : X.A.units + 1 < cLine) (he : PE X e (tOf κ W m)) (hi : PE X i (tOf κ W mi)) (hs : NoSl i := by exact fun _ _ => rfl) : PE X (.Subscript e i pos) (tOf κ W (eDgetR m mi)) :=
  pe_imp (pe_dget hu he hi hs) fun σ H Q ⟨w, en, hw, s, p⟩ => by
    subst hw
    refine go s p fun r e1 v w1 n1 s1 er p1 => ?_
    cases r with
    | dk kvs =>
      obtain ⟨q, ks, rfl, hO, hH, kv⟩ := er
      have s2 := s1.letR hO
      have n2 := let_nx (w := w1) hO
      have hG := s1.wo.fr q _ hO
      refine goD (w := { w1 with O := letO w1.O q }) s2 (p1.mono n2) fun d e2 y w3 n3 s3 d3 p3 => ?_
      obtain ⟨f1, f2, f3⟩ := n3.f q _ hH letO_same
      cases hk : keyOf d with
      | none => rw [hk] at p3; exact p3.elim
      | some k =>
        rw [hk] at p3
        have := keyOf_v d3 hk
        subst this
        rcases dpkv_val (k := k) (dpkv_mono n3.g kv) with ⟨a, b⟩ | ⟨v, d', a, b, dq⟩
        · have p4 : Po κ W w3 (match valD kvs k with | some x => R.ok (Ent.sh x) e2 | none => .st) (Qe κ σ Q) := p3
          rw [b] at p4
          exact p4.elim
        · have p4 : Po κ W w3 (match valD kvs k with | some x => R.ok (Ent.sh x) e2 | none => .st) (Qe κ σ Q) := p3
          rw [b] at p4
          exact ⟨q, v, rfl, a ▸ dget_rd (.inl f1), fin_sh s3 p4 dq⟩
    | _ => exact p1.elim
/-- a call's dict.get(e) -/
def eDgetG (m mi : En → R Ent) (en : En) : R Ent := (m en).bind fun r e1 => match r with
  | .dk kvs => (dv mi e1).bind fun d e2 => (match keyOf d with | some k => .ok (.sh ((valD kvs k).getD .none)) e2 | none => .st)
  | _ => .st
theorem de_dgetG (hu : X.A.units + 1 < cLine) {o : Expr} (he : PE X o (tOf κ W m)) (hi : PE X e (tOf κ W mi)) (m1 : M1 X o "get" apos e cpos := by exact ⟨rfl, rfl, rfl, rfl⟩) : PE X (.Call (.Attribute o "get" apos) [e] [] cpos) (tOf κ W (eDgetG m mi)) :=
  pe_imp (pe_dget1 hu he hi m1) fun σ H Q ⟨w, en, hw, s, p⟩ => by
    subst hw
    refine go s p fun r e1 v w1 n1 s1 er p1 => ?_
    cases r with
    | dk kvs =>
      obtain ⟨q, ks, rfl, hO, hH, kv⟩ := er
      have s2 := s1.letR hO
      have n2 := let_nx (w := w1) hO
      refine ⟨q, rfl, isD_rd (.inl hH), ?_⟩
      refine goD (w := { w1 with O := letO w1.O q }) s2 (p1.mono n2) fun d e2 y w3 n3 s3 d3 p3 => ?_
      obtain ⟨f1, f2, f3⟩ := n3.f q _ hH letO_same
      cases hk : keyOf d with
      | none => rw [hk] at p3; exact p3.elim
      | some k =>
        rw [hk] at p3
        have := keyOf_v d3 hk
        subst this
        have p4 : Po κ W w3 (R.ok (Ent.sh ((valD kvs k).getD .none)) e2) (Qe κ σ Q) := p3
        refine ⟨_, dget_rd (.inl f1), ?_⟩
        rcases dpkv_val (k := k) (dpkv_mono n3.g kv) with ⟨a, b⟩ | ⟨v, d', a, b, dq⟩
        · rw [a]
          rw [b] at p4
          exact fin_sh s3 p4 .non
        · rw [a]
          rw [b] at p4
          exact fin_sh s3 p4 dq
    | _ => exact p1.elim

/-! ### storing -/
def sDput (i : Nat) (mk mv : En → R Ent) (en : En) : R Fl := (dv mv en).bind fun v e1 => match e1.get i with
  | .dk _ => (dv mk e1).bind fun d e2 => match e2.get i, keyOf d with
    | .dk kvs, some k => if kvs.length < lim then .ok .nx (e2.set i (.dk (putD kvs k v))) else .st
    | _, _ => .st
  | _ => .st
theorem ds_dput (j : Nat) {x : Str} {value : Expr} {pos' : Pos} (hu : X.A.units + 1 < cLine) (hi : PE X i (tOf κ W mk)) (hv : PE X value (tOf κ W mv)) (hN : X.N[j]? = some x := by rfl)
    (hvi : Vis X.env.scope x := by first | exact Or.inl rfl | exact Or.inr (Or.inl rfl) | exact Or.inr (Or.inr rfl)) (hd : (x == ("__debug__" : Str)) = false := by decide) (hcd : (x == ("__classdict__" : Str)) = false := by decide)
    (hs : swapsWith value (some (.Subscript (.Name x px) i pos')) pos.line X.env = pure false := by rfl) : PS X (.Assign [.Subscript (.Name x px) i pos'] value pos) (tSOf κ W (sDput j mk mv)) :=
  ps_imp (ps_dput hu (pv j hN hvi hd hcd) hi hv hs) fun Dn σ H ⟨w, en, hw, s, p⟩ => by
    subst hw
    refine goD s p fun v e1 y w1 n1 s1 d1 p1 => ?_
    cases hd0 : e1.get j with
    | dk kvs0 =>
      rw [hd0] at p1
      obtain ⟨q0, _, ev0, _, _, _⟩ := own_dk s1 hd0
      refine ⟨_, ev0, ?_⟩
      refine goD s1 p1 fun d e2 z w2 n2 s2 d2 p2 => ?_
      cases hd : e2.get j with
      | dk kvs =>
        cases hk : keyOf d with
        | none => rw [hd, hk] at p2; exact p2.elim
        | some k =>
          rw [hd, hk] at p2
          dsimp only at p2
          obtain ⟨q, ks, ev, hO, hH, kv⟩ := own_dk s2 hd
          have hq : q = q0 := by
            rw [ev0] at ev
            cases ev; rfl
          subst hq
          have := keyOf_v d2 hk
          subst this
          by_cases hl : kvs.length < lim
          · rw [if_pos hl] at p2
            refine ⟨q, _, rfl, DPut.k hH (lim_lt (by rw [dpkv_len kv]; exact hl)), ?_⟩
            refine p2 { w2 with H := upd w2.H q (.dK (putK ks k y)) } (upd_nx hO) _ ?_
            exact s2.updS (slot_get ev) hO ⟨q, _, rfl, hO, upd_same, dpkv_put kv (dp_mono n2.g _ _ d1)⟩
          · rw [if_neg hl] at p2
            exact p2.elim
      | _ => rw [hd] at p2; exact p2.elim
    | _ => rw [hd0] at p1; exact p1.elim

/-! ### len, sorted -/
def eDlen (i : Nat) (en : En) : R Ent := match dkOf (en.get i) with | some kvs => .ok (.sh (.int kvs.length)) en | none => .st
theorem call_lenK : CallR X (.builtin "len") (fun xs H Q => ∃ a ks, xs = [V.ref a] ∧ Rd H a (.dK ks) ∧ Q (.int ks.length) H) := by
  intro pins s σ H vs us Q I r h
  obtain ⟨a, ks, rfl, rd, q⟩ := h
  rw [Vals.ref1 r]
  exact d_len I rd fun t s' I' => ⟨.int ks.length, H, I', ⟨t, rfl⟩, q⟩
theorem de_dlen (j : Nat) {x : Str} {p : Pos} (hm : X.mg "len" = none) (hg : Gl X "len" := by rfl) (hN : X.N[j]? = some x := by rfl)
    (hv : Vis X.env.scope x := by first | exact Or.inl rfl | exact Or.inr (Or.inl rfl) | exact Or.inr (Or.inr rfl)) (hd : (x == ("__debug__" : Str)) = false := by decide) (hcd : (x == ("__classdict__" : Str)) = false := by decide)
    (he : starEach [.Name x px] X.env = (false, eval (.Name x px) X.env) :: starEach [] X.env := by rfl) (hpl : (backTo pos (starEach [] X.env)).any (·.1) = false := by rfl) :
    PE X (.Call (.Name "len" p) [.Name x px] [] pos) (tOf κ W (eDlen j)) :=
  pe_imp (pe_callB call_lenK hg hm PySem.boot_len (pa_cons (pv j hN hv hd hcd) pa_nil he) (by decide) (by decide) he hpl) fun σ H Q ⟨w, en, hw, s, p⟩ => by
    subst hw
    unfold eDlen at p
    cases hd0 : dkOf (en.get j) with
    | none => rw [hd0] at p; exact p.elim
    | some kvs =>
      rw [hd0] at p
      obtain ⟨q, ks, ev, rd, kv⟩ := dk_at s hd0
      exact ⟨_, ev, q, ks, rfl, rd, fin_sh s p (by rw [dpkv_len kv]; exact .int _)⟩
/-- keys as data -/
def keysD (kvs : List (Key × D)) : List D := kvs.map fun p => keyD p.1
def canSortK (ds : List D) : Bool := decide (ds.length ≤ lim) && ds.all (fun a => ds.all fun b => PySem.W.alike a b)
def rSortK : List V → Hp → VK → Prop := fun vs H Q => ∃ (a : Addr) (kvs : List (Key × V)) (ks : List Key), vs = [V.ref a] ∧ Rd H a (.dK kvs) ∧ ks = kvs.map (·.1) ∧ ks.length ≤ lim ∧ PySem.W.AllAlike (ks.map keyD) ∧
  ∀ (qs : List Key) (p : Addr), qs.map keyD = sortDs (ks.map keyD) → H p = none → Q (.ref p) (upd H p (.lst (qs.map kV)))
end
end CO
namespace CoSort
open PySem PySem.SeqAt PySem.W PyProof.Rows
section
variable {P : Program} {w : World} {A : Around} {E : Value → Shared → Prop} {s : Shared}
theorem sorted_keys {a : Addr} {ep : Nat} {vs : List (L2.Key × Value)} {Q : Value → Shared → Prop} (lo : (a == sysModules) = false) (hat : s.heap.DictAt (L2.mixKind P w) a vs ep) (hz : vs.length ≤ sizeLine) (hh : A.handled = none) (hal : AllAlike (vs.map fun p => CO.keyD p.1)) (hu : A.units + 4 < cLine)
    (hQ : ∀ (h' : Heap) (tk : Nat) (s' : Shared) (p : Addr) (out : List Value) (c : Nat), (∀ b o, s.heap.get? b = some o → h'.get? b = some o) → (∀ b o, h'.get? b = some o → s'.heap.get? b = some o) → s'.gens = s.gens → s'.os = s.os → h'.objs.size ≤ p → s'.heap.get? p = some (seqObj "list" out.toArray c) →
      EachIs KeyIsD out ((vs.map fun p => CO.keyD p.1).mergeSort (dataLe false id)) → Q (.ref p) s') : wpAny (model P w) A (call (.builtin "sorted") [.ref a]) Q E s := by
  refine Calls.call_function_entry kind_sorted plain_sorted entry_sorted (args_sorted1 _) ?_
  unfold Builtin.«sorted»
  refine wpAny_bind (m := checkCount "sorted" 1 1 _) (wpAny_pure ?_)
  refine wpAny_bind (PySem.W.kdu_collect (A := A.in1) (PySem.W.kdl_dict (knd := L2.mixKind P w) (kvs := vs) (ep := ep) lo) hh hat hz fun h' tk acc hk hacc => ?_)
  have hal2 : acc.toList.length = vs.length := by rw [Array.length_toList, hacc.1]
  have e1 : EachIs KeyIsD acc.toList (vs.map fun p => CO.keyD p.1) := by
    have gen : ∀ (l : List Value) (ps : List (L2.Key × Value)), l.length = ps.length → (∀ (j : Nat) (v : Value), l[j]? = some v → ∃ k x, ps[j]? = some (k, x) ∧ (L2.mixKind P w).is k v = true) → EachIs KeyIsD l (ps.map fun p => CO.keyD p.1) := by
      intro l
      induction l with
      | nil =>
        intro ps h1 _
        cases ps with
        | nil => exact .nil
        | cons _ _ => cases h1
      | cons v l ih =>
        intro ps h1 h2
        cases ps with
        | nil => cases h1
        | cons p ps =>
          refine .cons ?_ (ih ps (by simpa using h1) fun j u e => by simpa using h2 (j + 1) u (by simpa using e))
          obtain ⟨k, x, e3, e4⟩ := h2 0 v rfl
          have e5 : p = (k, x) := by simpa using e3
          subst e5
          refine ⟨k, ?_, rfl⟩
          rcases L2.keyIs_shape (show L2.keyIs k v = true from e4) with ⟨i, t, ek, ev⟩ | ⟨z, t, ek, ev⟩
          · subst ek
            exact ⟨t, ev⟩
          · subst ek
            exact ⟨t, ev⟩
    exact gen _ _ hal2 fun j v e => hacc.2 j v (by rw [← Array.getElem?_toList]; exact e)
  revert e1 hal2
  generalize acc.toList = us
  intro hal2 e1
  have hsz : us.length ≤ sizeLine := by rw [hal2]; exact hz
  refine wpAny_bind (wpAny_newList ?_ hsz)
  show wpAny _ _ _ _ _ { s with heap := h'.push (seqObj "list" us.toArray 0), toks := tk }
  have hoL : (h'.push (seqObj "list" us.toArray 0)).get? h'.objs.size = some (seqObj "list" us.toArray 0) := Heap.get?_push_size _ rfl
  have flat : ∀ d ∈ vs.map (fun p => CO.keyD p.1), d ≠ PyData.none ∧ (∀ xs, d ≠ .tuple xs) ∧ d.depth = 0 := fun d hd' => by
    obtain ⟨p, _, rfl⟩ := List.mem_map.mp hd'
    cases p.1 with
    | inl i => exact ⟨(fun z => nomatch z), (fun xs z => nomatch z), rfl⟩
    | inr x => exact ⟨(fun z => nomatch z), (fun xs z => nomatch z), rfl⟩
  have er : ∀ h : Heap, EachIs (fun v d => ∃ as, Reads h v d as) us (vs.map fun p => CO.keyD p.1) := fun h => e1.mono fun _ _ z => keyIsD_reads z
  have S : ∀ A' : Around, A'.units + 0 < cLine → SortsAt P w A' { s with heap := sortingHeap (h'.push (seqObj "list" us.toArray 0)) h'.objs.size us, toks := tk } (dataKind (sortingHeap (h'.push (seqObj "list" us.toArray 0)) h'.objs.size us) (vs.map fun p => CO.keyD p.1)) us := fun A' hA =>
    SortsAt.data (s := { s with heap := sortingHeap (h'.push (seqObj "list" us.toArray 0)) h'.objs.size us, toks := tk }) (er _) hal (.inr fun d hd' => ⟨(flat d hd').1, (flat d hd').2.1⟩) fun d hd' => by rw [(flat d hd').2.2]; exact hA
  have e3 : EachIs KeyIsD (sortVals (dataKind (sortingHeap (h'.push (seqObj "list" us.toArray 0)) h'.objs.size us) (vs.map fun p => CO.keyD p.1)) false us us) ((vs.map fun p => CO.keyD p.1).mergeSort (dataLe false id)) := by
    have q := sortVals_data (h' := sortingHeap (h'.push (seqObj "list" us.toArray 0)) h'.objs.size us) (R := KeyIsD) (enc := id) (bs := vs.map fun p => CO.keyD p.1) (vs := us) false e1 (er _) (by rw [List.map_id]; exact hal)
    rw [List.map_id] at q
    exact q
  refine wpAny_bind (wpAny_holding (wpAny_call_entry slot_list_sort ⟨_, hoL, rfl⟩ entry_list_sort (list_sort_vals (s := { s with heap := h'.push (seqObj "list" us.toArray 0), toks := tk }) hoL (S _ ?_) hsz ⟨_, rfl, ?_⟩) (args_list_sort _)))
  · show A.units + 1 + 1 + 0 < cLine
    omega
  · obtain ⟨c, hc⟩ := sortedHeap_at (vs := us) (out := (sortVals (dataKind (sortingHeap (h'.push (seqObj "list" us.toArray 0)) h'.objs.size us) (vs.map fun p => CO.keyD p.1)) false us us).toArray) hoL
    refine wpAny_pure ⟨_, rfl, hQ h' tk _ h'.objs.size _ c hk (fun b u q => ?_) rfl rfl (Nat.le_refl _) hc e3⟩
    have hlt := Heap.lt_size q
    show (sortedHeap (h'.push (seqObj "list" us.toArray 0)) h'.objs.size us _).get? b = some u
    rw [sortedHeap_old (Nat.ne_of_lt hlt) (by rw [size_push']; exact Nat.lt_succ_of_lt hlt)]
    exact Heap.get?_push_of_some _ q
end
end CoSort
namespace CO
open PySem PySem.Spec PyProof.Rows L2
section
variable {X : Cx} {κ : Kx} {W : WX} {w : Sn} {σ : St} {en : En} {m mi mk mv mx : En → R Ent} {e i : Expr} {px apos cpos pos : Pos}
theorem call_sortK (hc : X.calm = true) (hu : X.A.units + 100 < cLine) : CallR X (.builtin "sorted") rSortK := by
  intro pins s σ H vs us Q I r h
  obtain ⟨a, kvs, ks, rfl, rd, ek, hl, hal, q⟩ := h
  rw [Vals.ref1 r]
  obtain ⟨z, lo, xs, rel, dd⟩ := dk_rd I.hok rd
  obtain ⟨ep, hat⟩ := dd.dictAt
  have e1 : xs.map (·.1) = ks := by rw [ek]; exact rel.keys.symm
  have e2 : (xs.map fun p => keyD p.1) = ks.map keyD := by rw [← e1, List.map_map]; rfl
  refine CoSort.sorted_keys lo hat (by rw [← rel.length]; exact z) (I.ok.hd hc) (by rw [e2]; exact hal) (by omega) fun h' tk s' p out c k1 k2 g o hp hg eo => ?_
  obtain ⟨qs, q1, q2⟩ := each_keys2 eo
  have I1 : Inv X pins σ H { s with heap := h', toks := tk } := I.kept k1
  have hn : H p = none := I1.hok.fresh hp
  have hlen : (qs.map kV).length ≤ sizeLine := by
    have e3 : qs.length = ks.length := by
      have := congrArg List.length q2
      rw [List.length_map, List.length_mergeSort, e2, List.length_map] at this
      exact this
    rw [List.length_map, e3]
    exact lim_ok hl
  have J : Inv X pins σ (upd H p (.lst (qs.map kV))) { ({ s with heap := h', toks := tk } : Shared) with heap := s'.heap, gens := s'.gens, drawn := s'.drawn, toks := s'.toks } :=
    I1.call (ch := []) (Un.laid k2 hp hn) (I1.hok.laid k2 hp ⟨hlen, out, c, q1, hg⟩) (by rw [g]; exact I.bare) (fun _ z => nomatch z)
  have e : s' = { s with heap := s'.heap, gens := s'.gens, drawn := s'.drawn, toks := s'.toks } := by
    cases s'
    cases s
    cases o
    rfl
  rw [e]
  refine ⟨.ref p, _, J, rfl, q qs p ?_ hn⟩
  rw [q2, e2]; rfl

def eSortDic (i : Nat) (en : En) : R Ent := match dkOf (en.get i) with
  | some kvs => if canSortK (keysD kvs) = true then .ok (.ow (sortDs (keysD kvs))) en else .st
  | none => .st
theorem canSortK_ok {ds : List D} (h : canSortK ds = true) : ds.length ≤ lim ∧ PySem.W.AllAlike ds := by
  unfold canSortK at h
  rw [Bool.and_eq_true, decide_eq_true_eq] at h
  exact ⟨h.1, fun a ha b hb => List.all_eq_true.mp (List.all_eq_true.mp h.2 a ha) b hb⟩
theorem dpkv_keysD {G : Hp} {ks : List (Key × V)} {kvs : List (Key × D)} (h : DpKv G ks kvs) : (ks.map (·.1)).map keyD = keysD kvs := by
  rw [dpkv_keys h]
  unfold keysD
  rw [List.map_map]; rfl
theorem dqa_of_keys {G : Hp} : ∀ qs : List Key, DqAll G (qs.map kV) (qs.map keyD)
  | [] => .nil
  | .inl i :: qs => .cons (.int i) (dqa_of_keys qs)
  | .inr x :: qs => .cons (.str x) (dqa_of_keys qs)
theorem de_sortDic (j : Nat) {x : Str} {p : Pos} (hc : X.calm = true) (hu : X.A.units + 100 < cLine) (hm : X.mg "sorted" = none) (hg : Gl X "sorted" := by rfl) (hN : X.N[j]? = some x := by rfl)
    (hv : Vis X.env.scope x := by first | exact Or.inl rfl | exact Or.inr (Or.inl rfl) | exact Or.inr (Or.inr rfl)) (hd : (x == ("__debug__" : Str)) = false := by decide) (hcd : (x == ("__classdict__" : Str)) = false := by decide)
    (hb : bootBuiltins "sorted" = some (.builtin "sorted") := by decide +kernel)
    (he : starEach [.Name x px] X.env = (false, eval (.Name x px) X.env) :: starEach [] X.env := by rfl) (hpl : (backTo pos (starEach [] X.env)).any (·.1) = false := by rfl) :
    PE X (.Call (.Name "sorted" p) [.Name x px] [] pos) (tOf κ W (eSortDic j)) :=
  pe_imp (pe_callB (call_sortK hc hu) hg hm hb (pa_cons (pv j hN hv hd hcd) pa_nil he) (by decide) (by decide) he hpl) fun σ H Q ⟨w, en, hw, s, p⟩ => by
    subst hw
    unfold eSortDic at p
    cases hd0 : dkOf (en.get j) with
    | none => rw [hd0] at p; exact p.elim
    | some kvs =>
      rw [hd0] at p
      dsimp only at p
      obtain ⟨q, ks, ev, rd, kv⟩ := dk_at s hd0
      by_cases hk : canSortK (keysD kvs) = true
      · rw [if_pos hk] at p
        obtain ⟨k1, k2⟩ := canSortK_ok hk
        refine ⟨_, ev, q, ks, _, rfl, rd, rfl, ?_, by rw [dpkv_keysD kv]; exact k2, fun qs p' hq hn => ?_⟩
        · rw [List.length_map, dpkv_len kv]
          unfold keysD at k1
          rw [List.length_map] at k1
          exact k1
        · rw [dpkv_keysD kv] at hq
          rw [← hq] at p
          exact fin_ow s p (dqa_of_keys qs) hn
      · rw [if_neg hk] at p
        exact p.elim
def eSortDicR (m : En → R Ent) (en : En) : R Ent := (m en).bind fun r e => match r with
  | .dk kvs => if canSortK (keysD kvs) = true then .ok (.ow (sortDs (keysD kvs))) e else .st
  | _ => .st
theorem de_sortDicR {p : Pos} (hc : X.calm = true) (hu : X.A.units + 100 < cLine) (hm : X.mg "sorted" = none) (he : PE X e (tOf κ W m)) (hg : Gl X "sorted" := by rfl)
    (hb : bootBuiltins "sorted" = some (.builtin "sorted") := by decide +kernel)
    (hst : starEach [e] X.env = (false, eval e X.env) :: starEach [] X.env := by rfl) (hpl : (backTo pos (starEach [] X.env)).any (·.1) = false := by rfl) :
    PE X (.Call (.Name "sorted" p) [e] [] pos) (tOf κ W (eSortDicR m)) :=
  pe_imp (pe_callB (call_sortK hc hu) hg hm hb (pa_cons he pa_nil hst) (by decide) (by decide) hst hpl) fun σ H Q ⟨w, en, hw, s, p⟩ => by
    subst hw
    refine go s p fun r e1 v w1 n1 s1 er p1 => ?_
    cases r with
    | dk kvs =>
      obtain ⟨q, ks, rfl, hO, hH, kv⟩ := er
      dsimp only at p1
      by_cases hk : canSortK (keysD kvs) = true
      · rw [if_pos hk] at p1
        obtain ⟨k1, k2⟩ := canSortK_ok hk
        refine ⟨q, ks, _, rfl, .inl hH, rfl, ?_, by rw [dpkv_keysD kv]; exact k2, fun qs p' hq hn => ?_⟩
        · rw [List.length_map, dpkv_len kv]
          unfold keysD at k1
          rw [List.length_map] at k1
          exact k1
        · rw [dpkv_keysD kv] at hq
          rw [← hq] at p1
          exact fin_ow s1 p1 (dqa_of_keys qs) hn
      · rw [if_neg hk] at p1
        exact p1.elim
    | _ => exact p1.elim

/-! ### list(d.values()) -/
def valsO (p a : Addr) : HO := .ext fun h => h.IsValuesView p a
def tVals (td : TE) : TE := fun σ H Q => td σ H fun x H1 => ∃ a ks, x = .ref a ∧ Rd H1 a (.dK ks) ∧ ∀ p, H1 p = none → Q (.ref p) (upd H1 p (valsO p a))
theorem pe_values {o : Expr} {td : TE} (hd : PE X o td) (hbase : attributeBase o "values" X.env (eval o X.env) = eval o X.env := by rfl) (hline : (apos.endLine == cpos.line) = true := by rfl) :
    PE X (.Call (.Attribute o "values" apos) [] [] cpos) (tVals td) := by
  refine ⟨fun pins s σ H Q I h => ?_⟩
  refine wpAny_Call_method (T := "dict") (id := "dict.values") hbase rfl hline PySem.F.plainAttrs_dict PySem.F.slot_dict_values PySem.F.type_dict_values (thn (hd.run pins s σ H _ I h) fun u s1 ⟨x, H1, I1, rx, a, ks, ex, rd, q⟩ => ?_)
  subst ex
  obtain rfl : u = Value.ref a := rx
  obtain ⟨z, lo, vs, rel, dd⟩ := dk_rd I1.hok rd
  obtain ⟨t1, t2, _⟩ := isD_at I1 (isD_rd rd)
  have hp : (s1.heap.push { cls := .type "dict_values", data := .fields #[.ref a] }).get? s1.heap.objs.size = some { cls := .type "dict_values", data := .fields #[.ref a] } := Heap.get?_push_size _ rfl
  refine ⟨t1, t2, Calls.callWith_builtin rfl (PySem.evalArgs_none ?_)⟩
  refine call_meetsIn PySem.F.slot_dict_values t1 PySem.F.entry_dict_values (PySem.F.args_dict_values_1 _) (meets_dict_values (mixKind X.prog X.w) a lo) ⟨⟨vs, dd⟩, ?_⟩
  have hn : H1 s1.heap.objs.size = none := I1.hok.fresh (Nat.le_refl _)
  have hob : ObjOk X.prog X.w (upd H1 s1.heap.objs.size (valsO s1.heap.objs.size a)) (s1.heap.push { cls := .type "dict_values", data := .fields #[.ref a] }) s1.heap.objs.size (valsO s1.heap.objs.size a) :=
    ⟨⟨_, hp, rfl, rfl⟩, ⟨_, hp⟩, fun h1 h2 ⟨o, e1, e2⟩ k => ⟨o, k _ e1, e2⟩⟩
  exact ⟨.ref s1.heap.objs.size, _, I1.laid (t' := s1.toks) (fun b o e => Heap.get?_push_of_some _ e) (Nat.le_refl _) hob, rfl, q _ hn⟩
def rListVals : List V → Hp → VK → Prop := fun vs H Q => ∃ (p a : Addr) (ks : List (Key × V)), vs = [.ref p] ∧ H p = some (valsO p a) ∧ Rd H a (.dK ks) ∧ ∀ q, H q = none → Q (.ref q) (upd H q (.lst (ks.map (·.2))))
theorem call_listVals (hc : X.calm = true) : CallR X (.type "list") rListVals := by
  intro pins s σ H xs us Q I r h
  obtain ⟨p, a, kvs, rfl, hp, rd, q⟩ := h
  rw [Vals.ref1 r]
  obtain ⟨z, lo, vs, rel, dd⟩ := dk_rd I.hok rd
  obtain ⟨ep, hat⟩ := dd.dictAt
  have hv0 : s.heap.IsValuesView p a := (I.hok p _ hp).1
  refine PySem.W.kdl_call (PySem.W.kdl_values (knd := mixKind X.prog X.w) (kvs := vs) (ep := ep) (r := p) (d := a)) (I.ok.hd hc) ⟨hv0, hat⟩ (by rw [← rel.length]; exact z) fun h' tk acc c' hk hD hacc => ?_
  have hv : Vals (kvs.map (·.2)) acc.toList := by
    have gen : ∀ (l : List Value) (ps : List (Key × Value)) (qs : List (Key × V)), KV qs ps → l.length = ps.length → (∀ (j : Nat) (v : Value), l[j]? = some v → ∃ k, ps[j]? = some (k, v)) → Vals (qs.map (·.2)) l := by
      intro l
      induction l with
      | nil =>
        intro ps qs hr h1 _
        cases hr with
        | nil => exact .nil
        | cons _ _ => cases h1
      | cons v l ih =>
        intro ps qs hr h1 h2
        cases hr with
        | nil => cases h1
        | cons e t =>
          refine .cons ?_ (ih _ _ t (by simpa using h1) fun j u e => by simpa using h2 (j + 1) u (by simpa using e))
          obtain ⟨k, e3⟩ := h2 0 v rfl
          have e4 := Option.some.inj e3
          have := e.2
          rw [e4] at this
          exact this
    exact gen _ _ _ rel (by rw [Array.length_toList]; exact hacc.1) fun j v e => hacc.2 j v (by rw [← Array.getElem?_toList]; exact e)
  refine ⟨.ref s.heap.objs.size, upd H s.heap.objs.size (.lst (kvs.map (·.2))), I.laid (t' := tk) hk (Nat.le_refl _)
    (show ObjOk X.prog X.w _ _ _ (.lst (kvs.map (·.2))) from ⟨by rw [List.length_map]; exact z, acc.toList, c', hv, by rw [Array.toArray_toList]; exact hD⟩), rfl, q _ (I.hok.fresh (Nat.le_refl _))⟩
def eDvals (i : Nat) (en : En) : R Ent := match dkOf (en.get i) with | some kvs => .ok (.ow (kvs.map (·.2))) en | none => .st
theorem dpkv_vals {G : Hp} : ∀ {ks : List (Key × V)} {kvs : List (Key × D)}, DpKv G ks kvs → DqAll G (ks.map (·.2)) (kvs.map (·.2))
  | [], [], .nil => .nil
  | p :: ks, q :: kvs, .cons ⟨e, h⟩ t => .cons h (dpkv_vals t)
theorem rd_upd {H : Hp} {a p : Addr} {u o : HO} (h : Rd H a u) (hp : H p = none) : Rd (upd H p o) a u := by
  rcases h with h | ⟨ob, h⟩
  · exact .inl ((upd_ne (ne_of_none h hp)).trans h)
  · exact .inr ⟨ob, (upd_ne (ne_of_none h hp)).trans h⟩
theorem de_dvals (j : Nat) {x : Str} {p : Pos} (hc : X.calm = true) (hm : X.mg "list" = none) (hg : Gl X "list" := by rfl) (hN : X.N[j]? = some x := by rfl)
    (hv : Vis X.env.scope x := by first | exact Or.inl rfl | exact Or.inr (Or.inl rfl) | exact Or.inr (Or.inr rfl)) (hd : (x == ("__debug__" : Str)) = false := by decide) (hcd : (x == ("__classdict__" : Str)) = false := by decide)
    (hb : bootBuiltins "list" = some (.type "list") := by decide +kernel) (hbase : attributeBase (.Name x px) "values" X.env (eval (.Name x px) X.env) = eval (.Name x px) X.env := by rfl) (hline : (apos.endLine == cpos.line) = true := by rfl)
    (he : starEach [.Call (.Attribute (.Name x px) "values" apos) [] [] cpos] X.env = (false, eval (.Call (.Attribute (.Name x px) "values" apos) [] [] cpos) X.env) :: starEach [] X.env := by rfl) (hpl : (backTo pos (starEach [] X.env)).any (·.1) = false := by rfl) :
    PE X (.Call (.Name "list" p) [.Call (.Attribute (.Name x px) "values" apos) [] [] cpos] [] pos) (tOf κ W (eDvals j)) :=
  pe_imp (pe_callTy (call_listVals hc) hg hm hb (pa_cons (pe_values (pv j hN hv hd hcd) hbase hline) pa_nil he) (by decide) (by decide) he hpl) fun σ H Q ⟨w, en, hw, s, p⟩ => by
    subst hw
    unfold eDvals at p
    cases hd0 : dkOf (en.get j) with
    | none => rw [hd0] at p; exact p.elim
    | some kvs =>
      rw [hd0] at p
      obtain ⟨q, ks, ev, rd, kv⟩ := dk_at s hd0
      refine ⟨_, ev, q, ks, rfl, rd, fun p1 hp1 => ?_⟩
      refine ⟨p1, q, ks, rfl, upd_same, rd_upd rd hp1, fun p2 hp2 => ?_⟩
      -- the view stays, owned by nobody
      let wN : Sn := { w with H := upd w.H p1 (valsO p1 q), O := letO w.O p1 }
      have nN : Nx w wN := ⟨List.prefix_refl _, Same.refl _, fun x u h1 h2 => by
        have ne : x ≠ p1 := ne_of_none h1 hp1
        exact ⟨(upd_ne ne).trans h1, rfl, (letO_ne ne).trans h2⟩⟩
      have sN : StR κ wN σ en := by
        have s2 := (s.newR (o := valsO p1 q) hp1).letR (p := p1) newR_Op
        have e : ({ newR w p1 (valsO p1 q) with O := letO (newR w p1 (valsO p1 q)).O p1 } : Sn) = wN := by
          show ({ newR w p1 (valsO p1 q) with O := letO (newR w p1 (valsO p1 q)).O p1 } : Sn) = { w with H := upd w.H p1 (valsO p1 q), O := letO w.O p1 }
          have : letO (newR w p1 (valsO p1 q)).O p1 = letO w.O p1 := by
            funext b
            unfold letO
            by_cases hb : b = p1
            · rw [if_pos hb, if_pos hb]
            · rw [if_neg hb, if_neg hb]
              exact newR_O hb
          rw [this]; rfl
        rw [e] at s2
        exact s2
      exact fin_ow (w := wN) sN (p.mono nN) (dpkv_vals kv) hp2
end
end CO

/-! CoY: a dict is locked while it is walked. -/
namespace CO
open PySem PySem.Spec PyProof.Rows L2

def isFz : Ent → Bool
  | .fz _ => true
  | _ => false
/-- the heap that stays without a -/
def offG (G : Hp) (a : Addr) : Hp := fun b => if b = a then none else G b
theorem offG_ne {G : Hp} {a b : Addr} (h : b ≠ a) : offG G a b = G b := if_neg h
section
variable {G : Hp} {a : Addr} {od : Obj} {ks : List (Key × V)}
mutual
theorem dq_off (h : G a = some (.frz od (.dK ks))) : ∀ (d : D) (v : V), Dq G v d → Dq (offG G a) v d
  | .none, _, q => by cases q; exact .non
  | .bool b, _, q => by cases q; exact .bl b
  | .int i, _, q => by cases q; exact .int i
  | .str x, _, q => by cases q; exact .str x
  | .list ds, _, q => by
    cases q with
    | lst hs ha => exact .lst (by rw [offG_ne (fun z => by rw [z, h] at hs; cases hs)]; exact hs) (dqa_off h ds _ ha)
  | .tuple ds, _, q => by
    cases q with
    | tup hs ha => exact .tup (by rw [offG_ne (fun z => by rw [z, h] at hs; cases hs)]; exact hs) (dqa_off h ds _ ha)
  | .dict _, _, q => by cases q
theorem dqa_off (h : G a = some (.frz od (.dK ks))) : ∀ (ds : List D) (vs : List V), DqAll G vs ds → DqAll (offG G a) vs ds
  | [], _, q => by cases q; exact .nil
  | d :: ds, _, q => by
    cases q with
    | cons q1 q2 => exact .cons (dq_off h d _ q1) (dqa_off h ds _ q2)
end
theorem dpkv_off (h : G a = some (.frz od (.dK ks))) {kv : List (Key × V)} {kvs : List (Key × D)} (q : DpKv G kv kvs) : DpKv (offG G a) kv kvs :=
  Paired.mapP q fun _ _ z => ⟨z.1, dq_off h _ _ z.2⟩
theorem sql_off {K : PySem.W.Frag} {b : Addr} {xs : List V} (h : G a = some (.frz od (.dK ks))) (q : SqL K G b xs) : SqL K (offG G a) b xs := by
  rcases q with (q | ⟨o, q⟩) | q
  · exact .inl (.inl (by rw [offG_ne (fun z => by rw [z, h] at q; cases q)]; exact q))
  · exact .inl (.inr ⟨o, by rw [offG_ne (fun z => by rw [z, h] at q; cases q)]; exact q⟩)
  · exact .inr q
end
section
variable {X : Cx} {κ : Kx} {W : WX} {w w' : Sn} {σ : St} {en : En} {e : Expr} {m : En → R Ent}
theorem EntR.gup {p : Addr} {o : HO} {ix : Ix} {v : V} {r : Ent} (hG : w.G p = none) (h : EntR κ w ix v r) : EntR κ { w with G := upd w.G p o } ix v r := by
  cases r with
  | no => trivial
  | sh d => exact dp_mono (upG hG) _ _ h
  | ow ds =>
    obtain ⟨q, ys, e1, e2, e3, e4⟩ := h
    exact ⟨q, ys, e1, e2, e3, dpa_mono (upG hG) _ _ e4⟩
  | dk kvs =>
    obtain ⟨q, ys, e1, e2, e3, e4⟩ := h
    exact ⟨q, ys, e1, e2, e3, dpkv_mono (upG hG) e4⟩
  | wr j => exact h
  | sc =>
    obtain ⟨a, h1, h2⟩ := h
    exact ⟨a, h1, (upG hG).seq h2⟩
  | fz kvs =>
    obtain ⟨q, od, ks, h1, h2, h3⟩ := h
    exact ⟨q, od, ks, h1, upG hG _ _ h2, dpkv_mono (upG hG) h3⟩
theorem StR.gup {p : Addr} {o : HO} (s : StR κ w σ en) (hO : w.O p = none) (hG : w.G p = none) (hH : w.H p = some o) : StR κ { w with G := upd w.G p o } σ en := by
  refine ⟨⟨fun q i e => ?_, fun b u e => ?_, s.wo.wl, fun j ob q e1 e2 => ?_⟩, s.ln, fun i => ?_⟩
  · have ne : q ≠ p := fun z => by
      have e' : w.O q = some i := e
      rw [z, hO] at e'; cases e'
    exact (upd_ne ne).trans (s.wo.fr q i e)
  · by_cases z : b = p
    · subst z
      have e' : upd w.G b o b = some u := e
      rw [upd_same] at e'
      cases e'
      exact hH
    · have e' : upd w.G p o b = some u := e
      rw [upd_ne z] at e'
      exact s.wo.su b u e'
  · have x := s.wo.wd j ob q e1 e2
    cases ob with
    | tn k => exact x
    | tb g rows kept =>
      obtain ⟨dx, l, vg, rs, a1, a2, a3, a4, a5, a6, a7, a8⟩ := x
      exact ⟨dx, l, vg, rs, a1, a2, a3, a4, a5, a6, dp_mono (upG hG) _ _ a7, dpa_mono (upG hG) _ _ a8⟩
  · rcases s.sl i with q | ⟨v, q1, q2⟩
    · exact .inl q
    · exact .inr ⟨v, q1, q2.gup hG⟩
theorem StR.reslot {j : Nat} {v : V} {r : Ent} (s : StR κ w σ en) (hv : σ.getD j none = some v) (hr : EntR κ w (.s j) v r) : StR κ w σ (en.set j r) := by
  refine ⟨s.wo, by show (en.sl.set j r).length = _; rw [List.length_set]; exact s.ln, fun k => ?_⟩
  by_cases hk : j = k
  · subst hk
    rcases get_set_same (en := en) (i := j) (e := r) with q | q
    · rw [q]; exact .inr ⟨v, hv, hr⟩
    · exact .inl q
  · rw [get_set_ne hk]
    exact s.sl k
theorem set_set {j : Nat} {r r' : Ent} : (en.set j r).set j r' = en.set j r' := by
  unfold En.set
  simp
/-- a slot's dict is locked -/
theorem lock {j : Nat} {a : Addr} {ks : List (Key × V)} {kvs : List (Key × D)} (od : Obj) (s : StR κ w σ en) (hv : σ[j]? = some (some (.ref a))) (hO : w.O a = some (.s j)) (hH : w.H a = some (.dK ks)) (hk : DpKv w.G ks kvs) :
    ∃ wL, wL.H = upd w.H a (.frz od (.dK ks)) ∧ wL.G a = some (.frz od (.dK ks)) ∧ wL.O a = none ∧ Nx w wL ∧ StR κ wL σ (en.set j (.fz kvs)) := by
  have hG : w.G a = none := s.wo.fr a _ hO
  have s1 := (s.mvS hO).letR (p := a) (if_pos rfl)
  have hO1 : letO (mvO w a .r).O a a = none := letO_same
  have s2 := s1.updFree (p := a) (o := .frz od (.dK ks)) hO1 hG
  have s3 := s2.gup (p := a) (o := .frz od (.dK ks)) hO1 hG upd_same
  have s4 := s3.reslot (j := j) (v := .ref a) (r := .fz kvs) (slot_get hv) ⟨a, od, ks, rfl, upd_same, dpkv_mono (upG hG) hk⟩
  rw [set_set] at s4
  refine ⟨{ ad := w.ad, O := letO (mvO w a .r).O a, G := upd w.G a (.frz od (.dK ks)), H := upd w.H a (.frz od (.dK ks)) }, rfl, upd_same, hO1, ⟨List.prefix_refl _, upG hG, fun x o h1 h2 => ?_⟩, s4⟩
  have ne : x ≠ a := fun z => by rw [z, hO] at h2; cases h2
  exact ⟨(upd_ne ne).trans h1, upd_ne ne, (letO_ne ne).trans ((if_neg ne).trans h2)⟩
theorem EntR.off {a : Addr} {od : Obj} {ks : List (Key × V)} {ix : Ix} {v : V} {r : Ent} {O' : Addr → Option Ix} {H' : Hp} (hG : w.G a = some (.frz od (.dK ks))) (hO : w.O a = none) (hr : isFz r = false) (kO : ∀ b, b ≠ a → O' b = w.O b) (kH : ∀ b, b ≠ a → H' b = w.H b)
    (h : EntR κ w ix v r) : EntR κ { w with G := offG w.G a, H := H', O := O' } ix v r := by
  have ne : ∀ {q : Addr} {jx : Ix}, w.O q = some jx → q ≠ a := fun e z => by rw [z, hO] at e; cases e
  cases r with
  | no => trivial
  | sh d => exact dq_off hG _ _ h
  | ow ds =>
    obtain ⟨q, ys, e1, e2, e3, e4⟩ := h
    exact ⟨q, ys, e1, (kO _ (ne e2)).trans e2, (kH _ (ne e2)).trans e3, dqa_off hG _ _ e4⟩
  | dk kvs =>
    obtain ⟨q, ys, e1, e2, e3, e4⟩ := h
    exact ⟨q, ys, e1, (kO _ (ne e2)).trans e2, (kH _ (ne e2)).trans e3, dpkv_off hG e4⟩
  | wr j => exact h
  | sc =>
    obtain ⟨b, h1, h2⟩ := h
    exact ⟨b, h1, sql_off hG h2⟩
  | fz kvs => cases hr
theorem all_get {l : List Ent} {i : Nat} (h : l.all (fun r => !isFz r) = true) : isFz (l.getD i .no) = false := by
  rw [List.getD_eq_getElem?_getD]
  cases e : l[i]? with
  | none => rfl
  | some r =>
    have := List.all_eq_true.mp h r (List.mem_of_getElem? e)
    simpa using this
/-- .. and unlocked -/
theorem unlock {w0 wL w' : Sn} {j : Nat} {a : Addr} {ks : List (Key × V)} {kvs : List (Key × D)} {od : Obj} {r : Ent} {v : V} (s : StR κ w' σ en) (hv : σ[j]? = some (some (.ref a))) (hO0 : w0.O a = some (.s j)) (hG0 : w0.G a = none) (hG : wL.G a = some (.frz od (.dK ks))) (hH : wL.H a = some (.frz od (.dK ks))) (hO : wL.O a = none)
    (n1 : Nx w0 wL) (n2 : Nx wL w') (hf : en.get j = .fz kvs) (hall : (en.set j (.dk kvs)).sl.all (fun r => !isFz r) = true) (hr : isFz r = false) (er : EntR κ w' .r v r) :
    w'.H a = some (.frz od (.dK ks)) ∧ ∃ w2, w2.H = upd w'.H a (.dK ks) ∧ Nx w0 w2 ∧ StR κ w2 σ (en.set j (.dk kvs)) ∧ EntR κ w2 .r v r := by
  obtain ⟨f1, f2, f3⟩ := n2.f a _ hH hO
  have g1 : w'.G a = some (.frz od (.dK ks)) := f2.trans hG
  obtain ⟨u, e1, e2⟩ := s.at (i := j) (by rw [hf]; intro z; cases z)
  rw [hf] at e2
  rw [hv] at e1
  obtain ⟨a', od', ks', rfl, h2, h3⟩ := e2
  cases e1
  rw [g1] at h2
  cases h2
  have n02 := n1.trans n2
  let w2 : Sn := { w' with G := offG w'.G a, H := upd w'.H a (.dK ks), O := fun b => if b = a then some (.s j) else w'.O b }
  have kO : ∀ b, b ≠ a → (fun b => if b = a then some (Ix.s j) else w'.O b) b = w'.O b := fun b h => if_neg h
  have kH : ∀ b, b ≠ a → upd w'.H a (.dK ks) b = w'.H b := fun b h => upd_ne h
  have ne : ∀ {q : Addr} {jx : Ix}, w'.O q = some jx → q ≠ a := fun e z => by rw [z, f3] at e; cases e
  refine ⟨f1, w2, rfl, ⟨n02.p, fun b o e => ?_, fun x o q1 q2 => ?_⟩, ⟨⟨fun q i e => ?_, fun b o e => ?_, s.wo.wl, fun j' ob q e1 e2 => ?_⟩, ?_, fun k => ?_⟩, er.off g1 f3 hr kO kH⟩
  · have nb : b ≠ a := fun z => by rw [z, hG0] at e; cases e
    exact (offG_ne nb).trans (n02.g b o e)
  · have nb : x ≠ a := fun z => by rw [z, hO0] at q2; cases q2
    obtain ⟨c1, c2, c3⟩ := n02.f x o q1 q2
    exact ⟨(upd_ne nb).trans c1, (offG_ne nb).trans c2, (if_neg nb).trans c3⟩
  · by_cases z : q = a
    · rw [z]; exact if_pos rfl
    · have e' : (if q = a then some (Ix.s j) else w'.O q) = some i := e
      rw [if_neg z] at e'
      exact (offG_ne z).trans (s.wo.fr q i e')
  · have nb : b ≠ a := fun z => by
      have e' : offG w'.G a b = some o := e
      rw [z] at e'
      have : offG w'.G a a = none := if_pos rfl
      rw [this] at e'; cases e'
    have e' : offG w'.G a b = some o := e
    rw [offG_ne nb] at e'
    exact (upd_ne nb).trans (s.wo.su b o e')
  · have x := s.wo.wd j' ob q e1 e2
    cases ob with
    | tn k => exact ⟨(if_neg (ne x.1)).trans x.1, (upd_ne (ne x.1)).trans x.2⟩
    | tb g rows kept =>
      obtain ⟨dx, l, vg, rs, a1, a2, a3, a4, a5, a6, a7, a8⟩ := x
      exact ⟨dx, l, vg, rs, (if_neg (ne a1)).trans a1, (if_neg (ne a2)).trans a2, (if_neg (ne a3)).trans a3, (upd_ne (ne a1)).trans a4, (upd_ne (ne a2)).trans a5, (upd_ne (ne a3)).trans a6, dq_off g1 _ _ a7, dqa_off g1 _ _ a8⟩
  · show (en.sl.set j _).length = _
    rw [List.length_set]
    exact s.ln
  · by_cases hk : j = k
    · subst hk
      rcases get_set_same (en := en) (i := j) (e := .dk kvs) with q | q
      · rw [q]
        exact .inr ⟨.ref a, slot_get hv, a, ks, rfl, if_pos rfl, upd_same, dpkv_off g1 h3⟩
      · exact .inl q
    · have hz := all_get (i := k) hall
      have hz' : isFz ((en.set j (.dk kvs)).get k) = false := hz
      rw [get_set_ne hk] at hz' ⊢
      rcases s.sl k with q | ⟨u, q1, q2⟩
      · exact .inl q
      · exact .inr ⟨u, q1, q2.off g1 f3 hz' kO kH⟩
def eLock (j : Nat) (m : En → R Ent) (en : En) : R Ent := match en.get j with
  | .dk kvs => (m (en.set j (.fz kvs))).bind fun r e => match e.get j with
    | .fz kvs' => if (e.set j (.dk kvs')).sl.all (fun r => !isFz r) = true ∧ isFz r = false then .ok r (e.set j (.dk kvs')) else .st
    | _ => .st
  | _ => .st
theorem de_lock (j : Nat) (h : PE X e (tOf κ W m)) : PE X e (tOf κ W (eLock j m)) :=
  pe_imp (pe_lock h) fun σ H Q ⟨w, en, hw, s, p⟩ => by
    subst hw
    unfold eLock at p
    cases hd : en.get j with
    | dk kvs =>
      rw [hd] at p
      obtain ⟨a, ks, hv, hO, hH, hk⟩ := own_dk s hd
      have hG := s.wo.fr a _ hO
      refine ⟨a, .dK ks, hH, True.intro, fun od => ?_⟩
      obtain ⟨wL, l1, l2, l3, nL, sL⟩ := lock od s hv hO hH hk
      rw [← l1]
      refine ⟨wL, _, rfl, sL, ?_⟩
      dsimp only at p
      cases hm : m (en.set j (.fz kvs)) with
      | ok r e1 =>
        rw [hm] at p
        intro w' n2 v s1 er
        have p1 : Po κ W w (match e1.get j with
          | .fz kvs' => if (e1.set j (.dk kvs')).sl.all (fun r => !isFz r) = true ∧ isFz r = false then R.ok r (e1.set j (.dk kvs')) else .st
          | _ => .st) (Qe κ σ Q) := p
        cases hz : e1.get j with
        | fz kvs' =>
          rw [hz] at p1
          dsimp only at p1
          by_cases hc : (e1.set j (.dk kvs')).sl.all (fun r => !isFz r) = true ∧ isFz r = false
          · rw [if_pos hc] at p1
            obtain ⟨u1, w2, u2, u3, u4, u5⟩ := unlock s1 hv hO hG l2 (by rw [l1]; exact upd_same) l3 nL n2 hz hc.1 hc.2 er
            refine ⟨u1, ?_⟩
            rw [← u2]
            exact p1 w2 u3 v u4 u5
          · rw [if_neg hc] at p1
            exact p1.elim
        | _ => rw [hz] at p1; exact p1.elim
      | ex c e1 =>
        rw [hm] at p
        exact fun σ' w' n' s' => p σ' w' (nL.trans n') s'
      | st =>
        rw [hm] at p
        exact p
    | _ => rw [hd] at p; exact p.elim
/-- walking a locked dict -/
def iFz (j : Nat) (en : En) : R (List D) := match en.get j with | .fz kvs => .ok (keysD kvs) en | _ => .st
theorem di_fz (j : Nat) {tg : Expr} {x : Str} {px : Pos} (hN : X.N[j]? = some x := by rfl)
    (hv : Vis X.env.scope x := by first | exact Or.inl rfl | exact Or.inr (Or.inl rfl) | exact Or.inr (Or.inr rfl)) (hd : (x == ("__debug__" : Str)) = false := by decide) (hcd : (x == ("__classdict__" : Str)) = false := by decide) :
    PI X tg (.Name x px) (tIOf κ W (iFz j)) :=
  pi_imp (pi_keys (pv j hN hv hd hcd)) fun σ H Rj ⟨w, en, hw, s, p⟩ => by
    subst hw
    unfold iFz at p
    cases hf : en.get j with
    | fz kvs =>
      rw [hf] at p
      obtain ⟨v, e1, e2⟩ := s.at (i := j) (by rw [hf]; intro z; cases z)
      rw [hf] at e2
      obtain ⟨a, od, ks, rfl, h2, h3⟩ := e2
      refine ⟨_, e1, a, od, rfl, .inl ⟨ks, s.wo.su _ _ h2, ?_⟩⟩
      refine p w (Nx.refl _) (Itk a od ks) (fun w2 n2 su => ?_) s
      have hH : w2.H a = some (.frz od (.dK ks)) := su _ _ (n2.g _ _ h2)
      have hl : ks.length = (keysD kvs).length := by unfold keysD; rw [List.length_map]; exact dpkv_len h3
      refine ⟨fun i d e => ⟨⟨hH, ?_⟩, fun x H' y => ?_⟩, hH, by rw [hl]; exact Nat.le_refl _⟩
      · rw [hl]; exact (List.getElem?_eq_some_iff.mp e).1
      · obtain ⟨rfl, k, u, y1, rfl⟩ := y
        refine ⟨w2, Nx.refl _, rfl, fun _ _ z => z, ?_⟩
        have e3 : (ks.map (·.1)).map keyD = keysD kvs := dpkv_keysD h3
        rw [← e3, List.getElem?_map, List.getElem?_map, y1] at e
        cases e
        cases k with
        | inl i => exact .int i
        | inr x => exact .str x
    | _ => rw [hf] at p; exact p.elim
end
end CO

/-! CoZ: calls as equations; comprehensions and loops by what they compute. -/
namespace CO
open PySem PySem.Spec PyProof.Rows L2

section
variable {X : Cx} {κ : Kx} {W : WX} {w w' : Sn} {σ : St} {en : En} {e : Expr} {m : En → R Ent}
theorem tLock_of {j : Nat} {H : Hp} {Q : VK} (q : tOf κ W (eLock j m) σ H Q) : tLockE (tOf κ W m) σ H Q := by
  obtain ⟨w, en, hw, s, p⟩ := q
  subst hw
  unfold eLock at p
  cases hd : en.get j with
  | dk kvs =>
    rw [hd] at p
    obtain ⟨a, ks, hv, hO, hH, hk⟩ := own_dk s hd
    have hG := s.wo.fr a _ hO
    refine ⟨a, .dK ks, hH, True.intro, fun od => ?_⟩
    obtain ⟨wL, l1, l2, l3, nL, sL⟩ := lock od s hv hO hH hk
    rw [← l1]
    refine ⟨wL, _, rfl, sL, ?_⟩
    dsimp only at p
    cases hm : m (en.set j (.fz kvs)) with
    | ok r e1 =>
      rw [hm] at p
      intro w' n2 v s1 er
      have p1 : Po κ W w (match e1.get j with
        | .fz kvs' => if (e1.set j (.dk kvs')).sl.all (fun r => !isFz r) = true ∧ isFz r = false then R.ok r (e1.set j (.dk kvs')) else .st
        | _ => .st) (Qe κ σ Q) := p
      cases hz : e1.get j with
      | fz kvs' =>
        rw [hz] at p1
        dsimp only at p1
        by_cases hc : (e1.set j (.dk kvs')).sl.all (fun r => !isFz r) = true ∧ isFz r = false
        · rw [if_pos hc] at p1
          obtain ⟨u1, w2, u2, u3, u4, u5⟩ := unlock s1 hv hO hG l2 (by rw [l1]; exact upd_same) l3 nL n2 hz hc.1 hc.2 er
          refine ⟨u1, ?_⟩
          rw [← u2]
          exact p1 w2 u3 v u4 u5
        · rw [if_neg hc] at p1
          exact p1.elim
      | _ => rw [hz] at p1; exact p1.elim
    | ex c e1 =>
      rw [hm] at p
      exact fun σ' w' n' s' => p σ' w' (nL.trans n') s'
    | st =>
      rw [hm] at p
      exact p
  | _ => rw [hd] at p; exact p.elim
/-- name = [.. for x in a dict] on one line -/
theorem ds_setLcD (i j : Nat) {t : En → R Bool} {y : Str} {py : Pos} {elt tg iter : Expr} {ifs : List Expr} {scope : Scope} {own : List (Str × Nat)} {pos spos : Pos} {mi : En → R (List D)} {g : Ent → En → R Unit} {is : List Nat} (hc : X.calm = true) (hN : X.N.Nodup) (hi : PI X tg iter (tIOf κ W mi)) (ok : blkC X.N X.env.scope scope own = true)
    (hg : ∀ (s : Shared) (H : Hp) (C : Addr) (cl : List (Str × Addr)) (fp : List Addr), PG (X.blk s H scope (compEnvC scope cl C X.env) fp) tg (tGv κ NoW g is)) (ht : ∀ (s : Shared) (H : Hp) (C : Addr) (cl : List (Str × Addr)) (fp : List Addr), PTs (X.blk s H scope (compEnvC scope cl C X.env) fp) ifs (tTOf κ NoW t))
    (he : ∀ (s : Shared) (H : Hp) (C : Addr) (cl : List (Str × Addr)) (fp : List Addr), PE (X.blk s H scope (compEnvC scope cl C X.env) fp) elt (tOf κ NoW m)) (hv : (is.all fun i => (own.map (·.2)).contains i) = true := by rfl) (hy : X.N[i]? = some y := by rfl) (hyl : X.env.scope.names.lookup y = some .local := by rfl)
    (hsw : swapsWith (.ListComp elt [⟨tg, iter, ifs, 0⟩] scope pos) (some (.Name y py)) spos.line X.env = pure true := by exact sw_true rfl rfl rfl rfl) (hs : ∀ x, foldedSetIterable iter X.env x = pure x := by intro _; rfl) :
    PS X (.Assign [.Name y py] (.ListComp elt [⟨tg, iter, ifs, 0⟩] scope pos) spos) (tSOf κ W (sSet i (eLock j (eLc mi g t m (own.map (·.2)))))) :=
  ps_imp (ps_lock (ps_setLc hc hN hy hyl hsw hi (blkOk_by ok) hg ht he hs)) fun Dn σ H q => by
    have q2 : tOf κ W (eLock j (eLc mi g t m (own.map (·.2)))) σ H (fun v H1 => gName i v σ H1 Dn.nx) := tSet_of q
    obtain ⟨d, u, h1, h2, h3⟩ := tLock_of q2
    exact ⟨d, u, h1, h2, fun od => tLc_of (fun i hi => by
      have := List.all_eq_true.mp hv i hi
      simpa using this) (h3 od)⟩
end

/-! ### calls -/
inductive Cl where
  | ok (r : Ent) (wd : List Ob) | ex (c : Nat) (wd : List Ob) | st
def call (m : List Ent → List Ob → R Ent) (es : List Ent) (wd : List Ob) : Cl := match m es wd with
  | .ok r e => .ok r e.wd
  | .ex c e => .ex c e.wd
  | .st => .st
def Cl.put (c : Cl) (sl : List Ent) : R Ent := match c with
  | .ok r wd => .ok r ⟨sl, wd⟩
  | .ex c wd => .ex c ⟨sl, wd⟩
  | .st => .st
theorem put_ok (r : Ent) (wd : List Ob) (sl : List Ent) : (Cl.ok r wd).put sl = .ok r ⟨sl, wd⟩ := rfl
theorem put_ex (c : Nat) (wd : List Ob) (sl : List Ent) : (Cl.ex c wd).put sl = .ex c ⟨sl, wd⟩ := rfl
def finC (x : R Fl) : Cl := match x with
  | .ok .nx e => .ok (.sh .none) e.wd
  | .ok (.rt r) e => .ok r e.wd
  | .ok _ _ => .st
  | .ex c e => .ex c e.wd
  | .st => .st
theorem finC_nx (e : En) : finC (.ok .nx e) = .ok (.sh .none) e.wd := rfl
theorem finC_rt (r : Ent) (e : En) : finC (.ok (.rt r) e) = .ok r e.wd := rfl
theorem finC_ex (c : Nat) (e : En) : finC (.ex c e) = .ex c e.wd := rfl
theorem eCallF_eq (n : Nat) (m : List Ent → List Ob → R Ent) (ms : En → R (List Ent)) (en : En) : eCallF n m ms en = (ms en).bind fun es e => if es.length = n then (call m es e.wd).put e.sl else .st := by
  unfold eCallF
  congr 1
  funext es e
  by_cases h : es.length = n
  · rw [if_pos h, if_pos h]
    unfold call Cl.put
    cases m es e.wd <;> rfl
  · rw [if_neg h, if_neg h]
theorem call_fin (nN : Nat) (f : En → R Fl) (es : List Ent) (wd : List Ob) : call (finM nN f) es wd = finC (f ⟨es ++ List.replicate (nN - es.length) .no, wd⟩) := by
  unfold call finM
  cases f ⟨es ++ List.replicate (nN - es.length) .no, wd⟩ with
  | ok fl e => cases fl <;> rfl
  | ex c e => rfl
  | st => rfl
theorem Run.call {m : List Ent → List Ob → R Ent} {es : List Ent} {wd wd' : List Ob} {r : Ent} (h : Run m es wd r wd') : call m es wd = .ok r wd' := by
  obtain ⟨sl, h⟩ := h
  unfold CO.call
  rw [h]
theorem RunX.call {m : List Ent → List Ob → R Ent} {es : List Ent} {wd wd' : List Ob} {c : Nat} (h : RunX m es wd c wd') : call m es wd = .ex c wd' := by
  obtain ⟨sl, h⟩ := h
  unfold CO.call
  rw [h]
theorem Run.of_call {m : List Ent → List Ob → R Ent} {es : List Ent} {wd wd' : List Ob} {r : Ent} (h : CO.call m es wd = .ok r wd') : Run m es wd r wd' := by
  unfold CO.call at h
  cases e : m es wd with
  | ok r' e' =>
    rw [e] at h
    cases h
    exact ⟨e'.sl, e⟩
  | ex c e' => rw [e] at h; cases h
  | st => rw [e] at h; cases h
theorem law_of {m : List Ent → List Ob → R Ent} {es : List Ent} {wd : List Ob} {r : Ent} (h : ∃ wd', CO.call m es wd = .ok r wd') : ∃ e, m es wd = .ok r e := by
  obtain ⟨wd', h⟩ := h
  obtain ⟨sl, h⟩ := Run.of_call h
  exact ⟨_, h⟩

/-! ### comprehensions -/
def item2 (g : Ent → En → R Unit) (t : En → R Bool) (m : En → R Ent) (d : D) (e : En) : R (Option D) := (noEx (g (.sh d) e)).bind fun _ e1 => (noEx (t e1)).bind fun b e2 =>
      if b = true then (noEx (dv m e2)).bind fun x e3 => .ok (some x) e3 else .ok none e2
/-- a turn gives a and leaves all but its own names -/
def Outc (vs : List Nat) (e0 : En) (a : Option D) (x : R (Option D)) : Prop := match x with
  | .ok b e => b = a ∧ wipeE e vs = wipeE e0 vs
  | _ => False
theorem wipeE_set {e : En} {v : Nat} {r : Ent} : ∀ {vs : List Nat}, v ∈ vs → wipeE (e.set v r) vs = wipeE e vs := by
  intro vs
  have comm : ∀ (e : En) (i j : Nat) (a b : Ent), i ≠ j → (e.set i a).set j b = (e.set j b).set i a := fun e i j a b h => by
    unfold En.set
    dsimp only
    rw [List.set_comm _ _ h]
  have out : ∀ (us : List Nat) (e : En), v ∉ us → wipeE (e.set v r) us = (wipeE e us).set v r := by
    intro us
    induction us with
    | nil => intro e _; rfl
    | cons u us ih =>
      intro e h
      have h1 : v ≠ u := fun z => h (z ▸ List.mem_cons_self)
      show (wipeE (e.set v r) us).set u .no = ((wipeE e us).set u .no).set v r
      rw [ih e (fun z => h (List.mem_cons_of_mem _ z)), comm _ _ _ _ _ h1]
  induction vs with
  | nil => intro h; cases h
  | cons u us ih =>
    intro h
    show (wipeE (e.set v r) us).set u .no = (wipeE e us).set u .no
    by_cases hu : v ∈ us
    · rw [ih hu]
    · have e1 : v = u := (List.mem_cons.mp h).resolve_right hu
      subst e1
      rw [out us e hu]
      exact set_set
theorem wipe_twice {e : En} : ∀ {vs : List Nat}, wipeE (wipeE e vs) vs = wipeE e vs := by
  intro vs
  have gen : ∀ us : List Nat, (∀ u ∈ us, u ∈ vs) → wipeE (wipeE e us) vs = wipeE e vs := by
    intro us
    induction us with
    | nil => intro _; rfl
    | cons u us ih =>
      intro h
      show wipeE ((wipeE e us).set u .no) vs = _
      rw [wipeE_set (h u List.mem_cons_self)]
      exact ih fun x hx => h x (List.mem_cons_of_mem _ hx)
  exact gen vs fun _ h => h
theorem compV {g : Ent → En → R Unit} {t : En → R Bool} {m : En → R Ent} {vs : List Nat} {e0 : En} (F : D → Option D) : ∀ (ds : List D) (e : En) (acc : List D), wipeE e vs = wipeE e0 vs → acc.length + ds.length ≤ lim → (∀ d ∈ ds, Outc vs e0 (F d) (item2 g t m d (wipeE e0 vs))) →
    ∃ e', compGo g t m vs ds e acc = .ok (acc ++ ds.filterMap F) e' ∧ wipeE e' vs = wipeE e0 vs := by
  intro ds e acc h hl k
  refine comp_pure (fun e => wipeE e vs = wipeE e0 vs) F ds e acc h hl fun d hd e he => ?_
  have := k d hd
  have e1 : itemG g t m vs d e = item2 g t m d (wipeE e0 vs) := by unfold itemG item2; rw [he]
  rw [e1]
  unfold Outc at this
  cases hx : item2 g t m d (wipeE e0 vs) with
  | ok b e' =>
    rw [hx] at this
    exact ⟨e', by rw [this.1], this.2⟩
  | ex c e' => rw [hx] at this; exact this.elim
  | st => rw [hx] at this; exact this.elim
theorem lcV {mi : En → R (List D)} {g : Ent → En → R Unit} {t : En → R Bool} {m : En → R Ent} {vs : List Nat} {en e0 : En} {ds : List D} (F : D → Option D) (h : mi en = .ok ds e0) (hl : ds.length ≤ lim) (k : ∀ d ∈ ds, Outc vs e0 (F d) (item2 g t m d (wipeE e0 vs))) :
    eLc mi g t m vs en = .ok (.ow (ds.filterMap F)) (restE (wipeE e0 vs) e0 vs) := by
  obtain ⟨e', h1, h2⟩ := compV (g := g) (t := t) (m := m) F ds e0 [] rfl (by simpa using hl) k
  rw [List.nil_append] at h1
  rw [lc_run h h1, h2]
theorem filterMap_some {α β : Type} (f : α → β) (l : List α) : l.filterMap (fun a => some (f a)) = l.map f := by
  induction l with
  | nil => rfl
  | cons a l ih => simp [List.filterMap_cons]
/-- .. each item gives something -/
theorem lcM {mi : En → R (List D)} {g : Ent → En → R Unit} {t : En → R Bool} {m : En → R Ent} {vs : List Nat} {en e0 : En} {ds : List D} (F : D → D) (h : mi en = .ok ds e0) (hl : ds.length ≤ lim) (k : ∀ d ∈ ds, Outc vs e0 (some (F d)) (item2 g t m d (wipeE e0 vs))) :
    eLc mi g t m vs en = .ok (.ow (ds.map F)) (restE (wipeE e0 vs) e0 vs) := by
  rw [lcV (fun d => some (F d)) h hl k, filterMap_some]
/-- .. over things told by α -/
theorem lcA {α : Type} {mi : En → R (List D)} {g : Ent → En → R Unit} {t : En → R Bool} {m : En → R Ent} {vs : List Nat} {en e0 : En} (f : α → D) (l : List α) (F : α → D) (h : mi en = .ok (l.map f) e0) (hl : l.length ≤ lim) (k : ∀ a ∈ l, Outc vs e0 (some (F a)) (item2 g t m (f a) (wipeE e0 vs))) :
    eLc mi g t m vs en = .ok (.ow (l.map F)) (restE (wipeE e0 vs) e0 vs) := by
  have gen : ∀ (l : List α) (e : En) (acc : List D), wipeE e vs = wipeE e0 vs → acc.length + l.length ≤ lim → (∀ a ∈ l, Outc vs e0 (some (F a)) (item2 g t m (f a) (wipeE e0 vs))) → ∃ e', compGo g t m vs (l.map f) e acc = .ok (acc ++ l.map F) e' ∧ wipeE e' vs = wipeE e0 vs := by
    intro l
    induction l with
    | nil => intro e acc he _ _; exact ⟨e, by simp [compGo], he⟩
    | cons a l ih =>
      intro e acc he hl k
      have hl' : acc.length + (l.length + 1) ≤ lim := hl
      have ka := k a List.mem_cons_self
      have e1 : itemG g t m vs (f a) e = item2 g t m (f a) (wipeE e0 vs) := by unfold itemG item2; rw [he]
      unfold Outc at ka
      cases hx : item2 g t m (f a) (wipeE e0 vs) with
      | ok b e' =>
        rw [hx] at ka
        obtain ⟨e2, h1, h2⟩ := ih e' (acc ++ [F a]) ka.2 (by rw [List.length_append]; simp; omega) fun a m => k a (List.mem_cons_of_mem _ m)
        refine ⟨e2, ?_, h2⟩
        rw [List.map_cons, comp_step (by omega) (e1.trans hx), ka.1]
        show compGo g t m vs (l.map f) e' (acc ++ [F a]) = _
        rw [h1, List.append_assoc]
        rfl
      | ex c e' => rw [hx] at ka; exact ka.elim
      | st => rw [hx] at ka; exact ka.elim
  obtain ⟨e', h1, h2⟩ := gen l e0 [] rfl (by simpa using hl) k
  rw [List.nil_append] at h1
  rw [lc_run h h1, h2]
/-- .. with a test -/
theorem lcF {α : Type} {mi : En → R (List D)} {g : Ent → En → R Unit} {t : En → R Bool} {m : En → R Ent} {vs : List Nat} {en e0 : En} (f : α → D) (l : List α) (p : α → Bool) (F : α → D) (h : mi en = .ok (l.map f) e0) (hl : l.length ≤ lim) (k : ∀ a ∈ l, Outc vs e0 (if p a = true then some (F a) else none) (item2 g t m (f a) (wipeE e0 vs))) :
    eLc mi g t m vs en = .ok (.ow ((l.filter p).map F)) (restE (wipeE e0 vs) e0 vs) := by
  have gen : ∀ (l : List α) (e : En) (acc : List D), wipeE e vs = wipeE e0 vs → acc.length + l.length ≤ lim → (∀ a ∈ l, Outc vs e0 (if p a = true then some (F a) else none) (item2 g t m (f a) (wipeE e0 vs))) → ∃ e', compGo g t m vs (l.map f) e acc = .ok (acc ++ (l.filter p).map F) e' ∧ wipeE e' vs = wipeE e0 vs := by
    intro l
    induction l with
    | nil => intro e acc he _ _; exact ⟨e, by simp [compGo], he⟩
    | cons a l ih =>
      intro e acc he hl k
      have hl' : acc.length + (l.length + 1) ≤ lim := hl
      have ka := k a List.mem_cons_self
      have e1 : itemG g t m vs (f a) e = item2 g t m (f a) (wipeE e0 vs) := by unfold itemG item2; rw [he]
      unfold Outc at ka
      cases hx : item2 g t m (f a) (wipeE e0 vs) with
      | ok b e' =>
        rw [hx] at ka
        have ho : (if p a = true then some (F a) else none : Option D).toList.length ≤ 1 := by split <;> simp
        obtain ⟨e2, h1, h2⟩ := ih e' (acc ++ (if p a = true then some (F a) else none : Option D).toList) ka.2 (by rw [List.length_append]; omega) fun a m => k a (List.mem_cons_of_mem _ m)
        refine ⟨e2, ?_, h2⟩
        rw [List.map_cons, comp_step (by omega) (e1.trans hx), ka.1, h1, List.append_assoc]
        congr 2
        by_cases hp : p a = true
        · simp [hp]
        · simp [hp]
      | ex c e' => rw [hx] at ka; exact ka.elim
      | st => rw [hx] at ka; exact ka.elim
  obtain ⟨e', h1, h2⟩ := gen l e0 [] rfl (by simpa using hl) k
  rw [List.nil_append] at h1
  rw [lc_run h h1, h2]

/-! ### loops -/
/-- a loop over things told by α; the state told by S -/
theorem forA {α S : Type} {g : Ent → En → R Unit} {b : En → R Fl} (f : α → D) (env : S → En) (step : S → α → S) (I : Nat → S → Prop) : ∀ (l : List α) (k : Nat) (s : S), I k s → (∀ j a s, a ∈ l → k ≤ j → j < k + l.length → I j s → stepS g b (f a) (env s) = .ok .nx (env (step s a)) ∧ I (j + 1) (step s a)) →
    forGo g b (l.map f) (env s) = .ok .nx (env (l.foldl step s)) ∧ I (k + l.length) (l.foldl step s)
  | [], k, s, h, _ => ⟨rfl, h⟩
  | a :: l, k, s, h, st => by
    obtain ⟨h1, h2⟩ := st k a s List.mem_cons_self (Nat.le_refl _) (by simp) h
    obtain ⟨h3, h4⟩ := forA f env step I l (k + 1) (step s a) h2 fun j a' s' m q1 q2 => st j a' s' (List.mem_cons_of_mem _ m) (by omega) (by simp; omega)
    refine ⟨?_, ?_⟩
    · rw [List.map_cons, for_cons h1, h3]
      rfl
    · rw [show k + (a :: l).length = k + 1 + l.length by simp; omega]
      exact h4
/-- .. as soon as one returns -/
theorem for_rt {g : Ent → En → R Unit} {b : En → R Fl} {d : D} {ds : List D} {e e1 : En} {r : Ent} (h : stepS g b d e = .ok (.rt r) e1) : forGo g b (d :: ds) e = .ok (.rt r) e1 := by
  conv => lhs; unfold forGo
  unfold stepS at h
  cases hg : g (.sh d) e with
  | ok u e3 => rw [hg, bind_ok] at h; rw [bind_ok, h, bind_ok]
  | ex c e3 => rw [hg] at h; cases h
  | st => rw [hg] at h; cases h
theorem while_step {t : En → R Bool} {b : En → R Fl} {n : Nat} {e e1 e2 : En} (h1 : t e = .ok true e1) (h2 : b e1 = .ok .nx e2) : whileGo t b (n + 1) e = whileGo t b n e2 := by
  show ((t e).bind fun k e1 => if k = true then (b e1).bind fun f e2 => match f with
    | .nx => whileGo t b n e2
    | .ct => whileGo t b n e2
    | .bk => .ok .nx e2
    | .rt r => .ok (.rt r) e2
    else .ok .nx e1) = _
  rw [h1, bind_ok, if_pos rfl, h2, bind_ok]
theorem while_end {t : En → R Bool} {b : En → R Fl} {n : Nat} {e e1 : En} (h1 : t e = .ok false e1) : whileGo t b (n + 1) e = .ok .nx e1 := by
  show ((t e).bind fun k e1 => if k = true then (b e1).bind fun f e2 => match f with
    | .nx => whileGo t b n e2
    | .ct => whileGo t b n e2
    | .bk => .ok .nx e2
    | .rt r => .ok (.rt r) e2
    else .ok .nx e1) = _
  rw [h1, bind_ok, if_neg (by decide)]
/-- a loop by its turns -/
theorem whileK {t : En → R Bool} {b : En → R Fl} {env : Nat → En} {env' : Nat → En} {k : Nat} {ee : En} (h : ∀ j, j < k → t (env j) = .ok true (env' j) ∧ b (env' j) = .ok .nx (env (j + 1))) (he : t (env k) = .ok false ee) : ∀ (n j : Nat), j ≤ k → k < j + n → whileGo t b n (env j) = .ok .nx ee
  | 0, j, h1, h2 => by omega
  | n + 1, j, h1, h2 => by
    by_cases c : j = k
    · subst c; exact while_end he
    · obtain ⟨a, b⟩ := h j (by omega)
      rw [while_step a b]
      exact whileK h he n (j + 1) (by omega) (by omega)
theorem litL_0 : (0 ≤ lim) = True := eq_true (by decide)
theorem litL_1 : (1 ≤ lim) = True := eq_true (by decide)
theorem litL_2 : (2 ≤ lim) = True := eq_true (by decide)
theorem litL_3 : (3 ≤ lim) = True := eq_true (by decide)
theorem litL_4 : (4 ≤ lim) = True := eq_true (by decide)
theorem litL_5 : (5 ≤ lim) = True := eq_true (by decide)
theorem litL_6 : (6 ≤ lim) = True := eq_true (by decide)
theorem litL_7 : (7 ≤ lim) = True := eq_true (by decide)
theorem litL_8 : (8 ≤ lim) = True := eq_true (by decide)
theorem litL_9 : (9 ≤ lim) = True := eq_true (by decide)
theorem litL_10 : (10 ≤ lim) = True := eq_true (by decide)
theorem litL_11 : (11 ≤ lim) = True := eq_true (by decide)
theorem litL_12 : (12 ≤ lim) = True := eq_true (by decide)
theorem litL_13 : (13 ≤ lim) = True := eq_true (by decide)
theorem litL_14 : (14 ≤ lim) = True := eq_true (by decide)
theorem litL_15 : (15 ≤ lim) = True := eq_true (by decide)
theorem litL_16 : (16 ≤ lim) = True := eq_true (by decide)
theorem litL_17 : (17 ≤ lim) = True := eq_true (by decide)
theorem litL_18 : (18 ≤ lim) = True := eq_true (by decide)
theorem litL_19 : (19 ≤ lim) = True := eq_true (by decide)
theorem litL_20 : (20 ≤ lim) = True := eq_true (by decide)
theorem litL_21 : (21 ≤ lim) = True := eq_true (by decide)
theorem litL_22 : (22 ≤ lim) = True := eq_true (by decide)
theorem litL_23 : (23 ≤ lim) = True := eq_true (by decide)
theorem litL_24 : (24 ≤ lim) = True := eq_true (by decide)
theorem litL_25 : (25 ≤ lim) = True := eq_true (by decide)
theorem litL_26 : (26 ≤ lim) = True := eq_true (by decide)
theorem litL_27 : (27 ≤ lim) = True := eq_true (by decide)
theorem litL_28 : (28 ≤ lim) = True := eq_true (by decide)
theorem litL_29 : (29 ≤ lim) = True := eq_true (by decide)
theorem litL_30 : (30 ≤ lim) = True := eq_true (by decide)
theorem litL_31 : (31 ≤ lim) = True := eq_true (by decide)
theorem litL_32 : (32 ≤ lim) = True := eq_true (by decide)
end CO

/-! CoZb: list(text); a function out of a list; len(set(..)); ranges as lists. -/
namespace CO
open PySem PySem.Spec PyProof.Rows L2

section
variable {X : Cx} {κ : Kx} {W : WX} {w : Sn} {σ : St} {en : En} {m mi : En → R Ent} {e i : Expr} {px apos cpos pos p : Pos}
/-! ### list(x), x a text too -/
def rListS : List V → Hp → VK → Prop := fun vs H Q => ∃ x : Str, vs = [V.str x] ∧ x.length ≤ sizeLine ∧ ∀ p, H p = none → Q (.ref p) (upd H p (.lst (x.cps.toList.map fun c => V.str ⟨#[c]⟩)))
theorem call_listS (hc : X.calm = true) : CallR X (.type "list") rListS := by
  intro pins s σ H vs us Q I r h
  obtain ⟨x, rfl, hz, q⟩ := h
  obtain ⟨u, rfl, r1⟩ := vals1 r
  obtain ⟨t, rfl⟩ := (show ∃ t, u = Value.str x t from r1)
  refine call_list_str (I.ok.hd hc) x t (fun h' tk acc c' hk hS hacc => ?_) hz
  have hlen : (x.cps.toList.map fun c => V.str ⟨#[c]⟩).length ≤ sizeLine := by rw [List.length_map]; exact hz
  refine ⟨.ref s.heap.objs.size, upd H s.heap.objs.size (.lst (x.cps.toList.map fun c => V.str ⟨#[c]⟩)), I.laid (t' := tk) hk (Nat.le_refl _) ⟨hlen, acc.toList, c', ?_, by rw [Array.toArray_toList]; exact hS⟩, rfl, q _ (I.hok.fresh (Nat.le_refl _))⟩
  refine vals_of_idx _ _ (by rw [List.length_map, Array.length_toList, hacc.1, Array.length_toList]) fun j u hj => ?_
  obtain ⟨c, t', hc', rfl⟩ := hacc.2 j u (by rw [← Array.getElem?_toList]; exact hj)
  refine ⟨.str ⟨#[c]⟩, ?_, ⟨_, rfl⟩⟩
  rw [List.getElem?_map, Array.getElem?_toList, hc']
  rfl
def gListT : List D → En → R Ent
  | [.str x], e => if x.length ≤ lim then .ok (.ow (x.cps.toList.map fun c => .str ⟨#[c]⟩)) e else .st
  | _, _ => .st
theorem dqa_chars {G : Hp} : ∀ l : List Nat, DqAll G (l.map fun c => V.str ⟨#[c]⟩) (l.map fun c => .str ⟨#[c]⟩)
  | [] => .nil
  | c :: l => .cons (.str _) (dqa_chars l)
theorem cd_listT (hc : X.calm = true) : CallD X κ (.type "list") gListT := by
  refine ⟨_, call_listS hc, fun W w σ en vs ds Q s h p => ?_⟩
  cases h with
  | nil => exact False.elim p
  | cons h t =>
    cases t with
    | cons _ _ => cases h <;> exact False.elim p
    | nil =>
      cases h with
      | str x =>
        have p' : Po κ W w (if x.length ≤ lim then R.ok (Ent.ow (x.cps.toList.map fun c => PyData.str ⟨#[c]⟩)) en else .st) (Qe κ σ Q) := p
        by_cases hl : x.length ≤ lim
        · rw [if_pos hl] at p'
          exact ⟨x, rfl, lim_ok hl, fun b hb => fin_ow s p' (dqa_chars _) hb⟩
        · rw [if_neg hl] at p'
          exact p'.elim
      | _ => exact False.elim p

/-! ### [f, g, ..][i](..) -/
theorem pe_callV {CX : CXT} {E : St → XK} {func : Expr} {es : List Expr} {tf : TE} {t : TA} (hf : PE X func tf) (ha : PA X (e :: es) t) (hx : ∀ σ, PassesAt CX X σ (E σ))
    (heq : eval (.Call func (e :: es) [] pos) X.env = (do callWith pos (← eval func X.env) [] (backTo pos (starEach (e :: es) X.env)) (backToKw pos (keywordEach [] X.env))))
    (he : starEach (e :: es) X.env = (false, eval e X.env) :: starEach es X.env) (hpl : (backTo pos (starEach es X.env)).any (·.1) = false) :
    PE X (.Call func (e :: es) [] pos) (fun σ H Q => tf σ H fun x H1 => ∃ k f fd ps sp, x = .ref f ∧ FnOk X.prog X.w X.K X.mg X.base CX k f fd ps sp ∧ Room k X.A ∧ PySem.W.keepIn X.K (.ref f) = true ∧ Binds X.K fd ps [] ∧ t σ H1 fun vs H2 => sp vs H2 Q (E σ)) := by
  refine ⟨fun pins s σ H Q I h => ?_⟩
  rw [heq]
  refine wpAny_bind (thn (hf.run pins s σ H _ I h) fun u s1 ⟨x, H1, I1, rx, k, f, fd, ps, sp, ex, F, hr, hk, hb, q⟩ => ?_)
  subst ex
  obtain rfl : u = Value.ref f := rx
  refine PySem.W.callWith_K (h₀ := X.base) I1.ok.mod.kin hk (thn (ha.run pos pins s1 σ H1 _ I1 q) fun us s2 ⟨vs, H2, I2, r, q⟩ => ⟨I2.kIn, ?_⟩) he hpl
  exact run_fnS F hr hb (hx σ) I2 r q
def tCs (vs : List V) : TA := fun _ H Q => Q vs H
structure FL (X : Cx) (κ : Kx) (n : Nat) (es : List Expr) (ms : List (List Ent → List Ob → R Ent)) : Prop where
  ex : ∃ vs : List V, PA X es (tCs vs) ∧ vs.length = ms.length ∧ ∀ (j : Nat) m, ms[j]? = some m → ∃ k f fd ps, vs[j]? = some (.ref f) ∧ FnOk X.prog X.w X.K X.mg X.base (L2.CX X.prog X.w) k f fd ps (spOf κ n m) ∧ Room k X.A ∧ PySem.W.keepIn X.K (.ref f) = true ∧ Binds X.K fd ps []
theorem df_nil {n : Nat} : FL X κ n [] [] := ⟨[], ⟨fun pos pins s σ H Q I h => (pa_nil (X := X)).run pos pins s σ H Q I h⟩, rfl, fun j m h => by simp at h⟩
theorem df_cons {n k : Nat} {x : Str} {es : List Expr} {m : List Ent → List Ob → R Ent} {ms : List (List Ent → List Ob → R Ent)} (F : FnD X.prog X.w X.K X.mg X.base κ x k n m) (hr : Room k X.A) (t : FL X κ n es ms) (hg : Gl X x := by rfl) (hdb : (x == ("__debug__" : Str)) = false := by decide)
    (he : starEach (.Name x p :: es) X.env = (false, eval (.Name x p) X.env) :: starEach es X.env := by rfl) : FL X κ n (.Name x p :: es) (m :: ms) := by
  obtain ⟨f, fd, ps, hF, hm, hk, hb⟩ := F
  obtain ⟨vs, h1, h2, h3⟩ := t
  have pe : PE X (.Name x p) (tC (.ref f)) := pe_glob hg hm rfl hdb
  refine ⟨.ref f :: vs, ⟨fun pos pins s σ H Q I h => (pa_cons pe h1 he).run pos pins s σ H Q I h⟩, by simp [h2], fun j m' hj => ?_⟩
  cases j with
  | zero =>
    cases hj
    exact ⟨k, f, fd, ps, rfl, hF, hr, hk, hb⟩
  | succ j => exact h3 j m' hj
def eCallI (n : Nat) (ms : List (List Ent → List Ob → R Ent)) (mi : En → R Ent) (mas : En → R (List Ent)) (en : En) : R Ent := (dv mi en).bind fun d e => match d with
  | .int k => if 0 ≤ k then (match ms[k.toNat]? with | some m => eCallF n m mas e | none => .st) else .st
  | _ => .st
theorem de_callI {n : Nat} {ms : List (List Ent → List Ob → R Ent)} {fes es : List Expr} {lp sp : Pos} {mas : En → R (List Ent)} (hfs : FL X κ n fes ms) (hl : ms.length ≤ 100) (hi : PE X i (tOf κ W mi)) (tk : Takes X W) (ha : PA X (e :: es) (tAOf κ W mas)) (hs : PlainIx i := by exact fun _ _ => rfl)
    (he : starEach (e :: es) X.env = (false, eval e X.env) :: starEach es X.env := by rfl) (hpl : (backTo pos (starEach es X.env)).any (·.1) = false := by rfl) :
    PE X (.Call (.Subscript (.List fes lp) i sp) (e :: es) [] pos) (tOf κ W (eCallI n ms mi mas)) := by
  obtain ⟨vs, h1, h2, h3⟩ := hfs
  refine pe_imp (pe_callV (pe_ix ix_seq (pe_lst h1) hi hs) ha (fun σ => passAt tk σ) rfl he hpl) fun σ H Q ⟨w, en, hw, s, p⟩ => ?_
  subst hw
  refine ⟨by rw [h2]; exact Nat.le_trans hl (by rw [sizeLine_eq]; decide), fun q hq => ?_⟩
  let wN : Sn := { w with H := upd w.H q (.lst vs), O := letO w.O q }
  have nN : Nx w wN := ⟨List.prefix_refl _, Same.refl _, fun x u h1 h2 => by
    have ne : x ≠ q := ne_of_none h1 hq
    exact ⟨(upd_ne ne).trans h1, rfl, (letO_ne ne).trans h2⟩⟩
  have sN : StR κ wN σ en := by
    have s2 := (s.newR (o := .lst vs) hq).letR (p := q) newR_Op
    have e : ({ newR w q (.lst vs) with O := letO (newR w q (.lst vs)).O q } : Sn) = wN := by
      show ({ newR w q (.lst vs) with O := letO (newR w q (.lst vs)).O q } : Sn) = { w with H := upd w.H q (.lst vs), O := letO w.O q }
      have : letO (newR w q (.lst vs)).O q = letO w.O q := by
        funext b
        unfold letO
        by_cases hb : b = q
        · rw [if_pos hb, if_pos hb]
        · rw [if_neg hb, if_neg hb]
          exact newR_O hb
      rw [this]; rfl
    rw [e] at s2
    exact s2
  show tOf κ W mi σ wN.H _
  refine goD sN (p.mono nN) fun d e1 y w1 n1 s1 d1 p1 => ?_
  cases d with
  | int k =>
    have := dp_int d1
    subst this
    dsimp only at p1
    by_cases hk : 0 ≤ k
    · rw [if_pos hk] at p1
      cases hm : ms[k.toNat]? with
      | none => rw [hm] at p1; exact p1.elim
      | some mf =>
        rw [hm] at p1
        dsimp only at p1
        obtain ⟨kk, f, fd, ps, hv, hF, hr, hkp, hb⟩ := h3 _ _ hm
        have hH : w1.H q = some (.lst vs) := (n1.f q _ upd_same (by show letO w.O q q = none; exact letO_same)).1
        refine .inl ⟨q, vs, k, .ref f, rfl, rfl, SqL.of hH, ?_, kk, f, fd, ps, _, rfl, hF, hr, hkp, hb, ?_⟩
        · unfold atI ixN
          rw [if_pos hk]
          have hlt : k.toNat < vs.length := (List.getElem?_eq_some_iff.mp hv).1
          rw [if_pos (by omega)]
          exact hv
        · refine goA s1 p1 fun rs en2 us w2 n2 s2 a2 p2 => ?_
          by_cases hn : rs.length = n
          · rw [if_pos hn] at p2
            exact sp_of s2 a2 hn p2
          · rw [if_neg hn] at p2
            exact p2.elim
    · rw [if_neg hk] at p1
      exact p1.elim
  | _ => exact p1.elim
end
end CO

/-! CoZc: len(set(..)). -/
namespace CO
open PySem PySem.Spec PyProof.Rows L2

section
variable {X : Cx} {κ : Kx} {W : WX} {w : Sn} {σ : St} {en : En} {m mi : En → R Ent} {a i : Expr} {ta : TE} {p p2 q pos : Pos}
def tLenSetQ (ta : TE) : TE := fun σ H Q => ta σ H fun x H1 => ∃ (l : Addr) (ks : List Key), x = V.ref l ∧ Rd H1 l (.lst (ks.map kV)) ∧ ks.length < 1000 ∧ Q (.int (dedupK ks []).length) H1
theorem pe_lenSetQ (hc : X.calm = true) (hm : X.mg "len" = none) (hm2 : X.mg "set" = none) (ha : PE X a ta) (hg : Gl X "len" := by rfl) (hg2 : Gl X "set" := by rfl)
    (na : starEach [a] X.env = (false, eval a X.env) :: starEach [] X.env := by rfl) : PE X (.Call (.Name "len" p) [.Call (.Name "set" p2) [a] [] q] [] pos) (tLenSetQ ta) := by
  refine ⟨fun pins s σ H Q I h => ?_⟩
  refine Call_ (ld_blt I hg hm PySem.boot_len ?_)
  refine PyProof.Rows.callWith_builtin1 (PyProof.Rows.args_cons ?_ rfl) rfl rfl
  refine Call_ (ld_blt I hg2 hm2 PyProof.Rows.boot_set ?_)
  refine PyProof.Rows.callWith_type1 (PyProof.Rows.args_cons (thn (ha.run pins s σ H _ I h) fun v s1 ⟨x, H1, I1, r1, q1⟩ => PyProof.Rows.args_nil ?_) na) na rfl
  obtain ⟨l, ks, rfl, hq, h1, q1⟩ := q1
  cases r1
  obtain ⟨its, r, pl, hz⟩ := I1.list (.inl hq)
  have hlen : its.length = ks.length := by
    have := r.length
    simpa using this.symm
  refine set1_call (I1.ok.hd hc) pl.isList (ks := ks) (by simpa using r) (by simp [hlen]; unfold scanBound; omega) fun h' tk hS hk => ?_
  refine PyProof.Rows.args_nil ?_
  obtain ⟨o, es, ep, t, qs, ho, hex, hd, pq, pm, nd, hb, hf, hr, hl⟩ := hS
  have I2 : Inv X pins σ H1 { s1 with heap := h', toks := tk } := I1.kept fun b o e => hk b o (Heap.lt_size e) e
  have hsz : es.size = (dedupK ks []).length := by
    have e1 := Paired.length pq
    rw [Array.length_toList] at e1
    rw [e1, pm.length_eq]
  refine call_len_set ho hex hd hf (by unfold scanBound at hb; omega) ⟨.int (dedupK ks []).length, H1, I2.tok _, ⟨_, by rw [hsz]⟩, q1⟩
def eLenSet (m : En → R Ent) (en : En) : R Ent := (dv m en).bind fun d e => match d with
  | .list ds => (match asKeys ds with | some ks => if ks.length < 1000 then .ok (.sh (.int (dedupK ks []).length)) e else .st | none => .st)
  | _ => .st
theorem de_lenSet (hc : X.calm = true) (hm : X.mg "len" = none) (hm2 : X.mg "set" = none) (ha : PE X a (tOf κ W m)) (hg : Gl X "len" := by rfl) (hg2 : Gl X "set" := by rfl)
    (na : starEach [a] X.env = (false, eval a X.env) :: starEach [] X.env := by rfl) : PE X (.Call (.Name "len" p) [.Call (.Name "set" p2) [a] [] q] [] pos) (tOf κ W (eLenSet m)) :=
  pe_imp (pe_lenSetQ hc hm hm2 ha hg hg2 na) fun σ H Q ⟨w, en, hw, s, p⟩ => by
    subst hw
    refine goD s p fun d e1 y w1 n1 s1 d1 p1 => ?_
    cases d with
    | list ds =>
      obtain ⟨b, xs, rfl, hb, hx⟩ := dp_list d1
      dsimp only at p1
      cases hk : asKeys ds with
      | none => rw [hk] at p1; exact p1.elim
      | some ks =>
        rw [hk] at p1
        dsimp only at p1
        have e := asKeys_eq hk
        subst e
        have ex := dpa_keys hx
        subst ex
        by_cases hl : ks.length < 1000
        · rw [if_pos hl] at p1
          exact ⟨b, ks, rfl, .inl (s1.wo.su _ _ hb), hl, fin_sh s1 p1 (.int _)⟩
        · rw [if_neg hl] at p1
          exact p1.elim
    | _ => exact p1.elim
end
end CO

/-! a, b = x, y where a name is looked into by a block: stored from the left. -/
namespace CO
open PySem PySem.Spec PyProof.Rows L2

section
variable {X : Cx} {κ : Kx} {W : WX} {pos : Pos}
theorem ps_parC {i j : Nat} {x y : Str} {a b : Expr} {ta : TA} {px py pt : Pos} {kt k2 pt2} (hc : X.calm = true) (hN : X.N.Nodup) (hi : X.N[i]? = some x) (hj : X.N[j]? = some y)
    (hx : Loc X.env.scope x) (hy : Loc X.env.scope y) (hfx : X.fn x = true ∨ X.env.scope.names.lookup x = some .local) (hfy : X.fn y = true ∨ X.env.scope.names.lookup y = some .local) (ha : PA X [a, b] ta)
    (hw : swappedStores [.Tuple [.Name x px, .Name y py] kt pt] (.Tuple [a, b] k2 pt2) X.env = pure none)
    (hs : swapsWithSole [.Tuple [.Name x px, .Name y py] kt pt] (.Tuple [a, b] k2 pt2) pos.line X.env = pure false)
    (hst : (assignEach [.Name x px, .Name y py] X.env).findIdx? (·.1) = none)
    (g1 : (assignEach [.Name x px, .Name y py] X.env).map (·.2) = assign (.Name x px) X.env :: (assignEach [.Name y py] X.env).map (·.2))
    (g2 : (assignEach [.Name y py] X.env).map (·.2) = assign (.Name y py) X.env :: (assignEach [] X.env).map (·.2)) :
    PS X (.Assign [.Tuple [.Name x px, .Name y py] kt pt] (.Tuple [a, b] k2 pt2) pos) (tPar i j ta) := by
  refine ⟨fun pins s σ H D I h => ?_⟩
  rw [exec_Assign_arm]
  refine wpAny_bind (wpAny_standAt ?_)
  rw [hs]
  refine wpAny_bind (wpAny_pure ?_)
  rw [if_neg (by decide)]
  refine wpAny_bind (Tuple_ (thn (ha.run _ pins s σ H _ I h) fun us s1 ⟨vs, H1, I1, r1, q1⟩ => ?_))
  obtain ⟨v, w, e1, q1⟩ := q1
  subst e1
  obtain ⟨u1, u2, rfl, rv, rw'⟩ : ∃ u1 u2, us = [u1, u2] ∧ RelV v u1 ∧ RelV w u2 := by
    cases r1 with
    | cons p q =>
      cases q with
      | cons p' q' =>
        cases q'
        exact ⟨_, _, rfl, p, p'⟩
  refine wpAny_newObj_type ?_ (by show 2 ≤ sizeLine; decide)
  have I2 : Inv X pins σ H1 { s1 with heap := s1.heap.push { cls := .type "tuple", data := .seq [u1, u2].toArray } } := I1.kept (t' := s1.toks) fun b o e => Heap.get?_push_of_some _ e
  rw [hw]
  refine wpAny_bind (wpAny_pure ?_)
  show wpAny (model X.prog X.w) X.A (do assignAll (.ref s1.heap.objs.size) [assign (.Tuple [.Name x px, .Name y py] kt pt) X.env]; pure Flow.next) _ _ _
  refine wpAny_bind ?_
  show wpAny (model X.prog X.w) X.A (assign (.Tuple [.Name x px, .Name y py] kt pt) X.env (.ref s1.heap.objs.size)) _ _ _
  have hlen : (assignEach [.Name x px, .Name y py] X.env).length = 2 := by
    have := congrArg List.length g1
    rw [List.length_map, List.length_cons, g2, List.length_cons] at this
    exact this
  refine assign_Tuple_tuple (items := #[u1, u2]) (I.ok.hd hc) (IsTup.new s1.heap _) (by rw [hlen]; rfl) hst fun h' hx' => ?_
  have I3 := I2.kept (h' := h') (t' := s1.toks) fun b o e => hx' b o (Nat.ne_of_lt (Heap.lt_size e)) e
  have g := pgs_cons (pg_name (pos := px) hN hi hx hfx) (pgs_cons (pg_name (pos := py) hN hj hy hfy) pgs_nil g2) g1
  exact thn (g.run pins _ σ H1 [v, w] [u1, u2] (fun σ' H' => D.nx σ' H') I3 (.cons rv (.cons rw' .nil)) ⟨v, _, rfl, w, _, rfl, rfl, q1⟩) fun _ s3 ⟨σ', H', I', q'⟩ => wpAny_pure ⟨σ', H', I', q'⟩
theorem ds_par2C (i j : Nat) {x y : Str} {a b : Expr} {m1 m2 : En → R Ent} {px py pt : Pos} {kt k2 pt2} (hc : X.calm = true) (hN : X.N.Nodup) (ha : PE X a (tOf κ W m1)) (hb : PE X b (tOf κ W m2)) (hi : X.N[i]? = some x := by rfl) (hj : X.N[j]? = some y := by rfl) (hij : i ≠ j := by decide)
    (hx : Loc X.env.scope x := by first | exact Or.inl rfl | exact Or.inr rfl) (hy : Loc X.env.scope y := by first | exact Or.inl rfl | exact Or.inr rfl)
    (hfx : X.fn x = true ∨ X.env.scope.names.lookup x = some .local := by first | exact .inl rfl | exact .inr rfl) (hfy : X.fn y = true ∨ X.env.scope.names.lookup y = some .local := by first | exact .inl rfl | exact .inr rfl)
    (hw : swappedStores [.Tuple [.Name x px, .Name y py] kt pt] (.Tuple [a, b] k2 pt2) X.env = pure none := by rfl)
    (hs : swapsWithSole [.Tuple [.Name x px, .Name y py] kt pt] (.Tuple [a, b] k2 pt2) pos.line X.env = pure false := by rfl)
    (hst : (assignEach [.Name x px, .Name y py] X.env).findIdx? (·.1) = none := by rfl)
    (g1 : (assignEach [.Name x px, .Name y py] X.env).map (·.2) = assign (.Name x px) X.env :: (assignEach [.Name y py] X.env).map (·.2) := by rfl)
    (g2 : (assignEach [.Name y py] X.env).map (·.2) = assign (.Name y py) X.env :: (assignEach [] X.env).map (·.2) := by rfl)
    (h1 : starEach [a, b] X.env = (false, eval a X.env) :: starEach [b] X.env := by rfl) (h2 : starEach [b] X.env = (false, eval b X.env) :: starEach [] X.env := by rfl) :
    PS X (.Assign [.Tuple [.Name x px, .Name y py] kt pt] (.Tuple [a, b] k2 pt2) pos) (tSOf κ W (sPar2 i j m1 m2)) :=
  ps_imp (ps_parC hc hN hi hj hx hy hfx hfy (pa_cons ha (pa_cons hb pa_nil h2) h1) hw hs hst g1 g2) fun Dn σ H ⟨w, en, hw', s, p⟩ => by
    subst hw'
    refine goQ (Q1 := fun v1 H1 => tOf κ W m2 σ H1 fun v2 H2 => ∃ v w, [v1, v2] = [v, w] ∧ Dn.nx ((σ.set i (some v)).set j (some w)) H2) (Nx.refl w) s p fun r1 e1 v1 w1 q1 n1 s1 er1 p1 => ?_
    by_cases hr1 : r1 = .no
    · subst hr1
      exact ⟨w1, e1, rfl, s1, ((Po.bind_of p1).mono n1).imp fun r2 e2 w2 n2 p2 => False.elim p2⟩
    obtain ⟨w1h, nh, hH, hG, had, s1h, raw1, hO1⟩ := hide s1 er1 hr1
    rw [← hH]
    refine goQ (n1.trans nh) s1h p1 fun r2 e2 v2 w2 q2 n2 s2 er2 p2 => ⟨v1, v2, rfl, ?_⟩
    by_cases hr2 : r2 = .no
    · subst hr2
      cases r1 <;> exact False.elim p2
    have raw1' := raw1.mono n2
    obtain ⟨w2h, nh2, hH2, hG2, had2, s2h, raw2, hO2⟩ := hide s2 er2 hr2
    have raw1'' := raw1'.mono nh2
    have hne : ∀ q, own? r2 v2 = some q → own? r1 v1 ≠ some q := fun q e e' => by
      have z1 := (own_raw raw1' e').1
      rw [own_ent er2 e] at z1
      cases z1
    have st3 := s2h.sto (i := i) raw1''
    have raw3 := raw2.sto (i := i) (r' := r1) (v' := v1) hne
    have st4 := st3.sto (i := j) raw3
    have nAll : Nx w w2h := ((n1.trans nh).trans n2).trans nh2
    have n3 : Nx w { w2h with O := stoO w2h.O i (own? r1 v1) } := sto_nx nAll (apart_of n1 er1)
    have n4 : Nx w { w2h with O := stoO (stoO w2h.O i (own? r1 v1)) j (own? r2 v2) } := sto_nx (w := { w2h with O := stoO w2h.O i (own? r1 v1) }) n3 (apart_of ((n1.trans nh).trans n2) er2)
    have fin : Po κ W w (R.ok Fl.nx ((e2.set i r1).set j r2)) (endS κ Dn) := by
      cases r1 <;> first | exact absurd rfl hr1 | (cases r2 <;> first | exact absurd rfl hr2 | exact p2)
    have q := fin _ n4 _ st4
    rw [← hH2]
    exact q
end
end CO

/-! sorted(set(xs)), xs an ascending list of pairs of small numbers. -/
namespace CO
open PySem PySem.Spec PyProof.Rows L2

def pairD (p : Int × Int) : D := .tuple [.int p.1, .int p.2]
def prL (p : Int × Int) : List Int := [p.1, p.2]
def asPairs : List D → Option (List (Int × Int))
  | [] => some []
  | d :: r => match d with
    | .tuple [.int a, .int b] => (asPairs r).map fun l => (a, b) :: l
    | _ => none
theorem asPairs_eq : ∀ {ds : List D} {ps : List (Int × Int)}, asPairs ds = some ps → ds = ps.map pairD
  | [], ps, h => by cases h; rfl
  | d :: r, ps, h => by
    unfold asPairs at h
    split at h
    · rename_i a b
      cases e : asPairs r with
      | none => rw [e] at h; cases h
      | some l =>
        rw [e] at h
        cases h
        rw [asPairs_eq e]; rfl
    · cases h
def okP (ps : List (Int × Int)) : Prop := ps.length < 64 ∧ (∀ p ∈ ps, (0 ≤ p.1 ∧ p.1 < 64) ∧ (0 ≤ p.2 ∧ p.2 < 64)) ∧ ps.Pairwise fun p q => p.1 * 64 + p.2 < q.1 * 64 + q.2
noncomputable def eSortSetP (m : En → R Ent) (en : En) : R Ent := (dv m en).bind fun d e => match d with
  | .list ds => match asPairs ds with | some ps => cIf (okP ps) (.ok (.ow ds) e) .st | none => .st
  | _ => .st
theorem pairs_of {G : Hp} : ∀ {ps : List (Int × Int)} {xs : List V}, DqAll G xs (ps.map pairD) → ∃ ks : List (Addr × List Int), xs = ks.map (fun p => V.ref p.1) ∧ ks.map (·.2) = ps.map prL ∧ ∀ q ∈ ks, G q.1 = some (.tup (q.2.map V.int))
  | [], xs, h => by cases h; exact ⟨[], rfl, rfl, fun q h => nomatch h⟩
  | p :: ps, xs, h => by
    cases h with
    | cons h1 h2 =>
      obtain ⟨ks, e1, e2, e3⟩ := pairs_of h2
      obtain ⟨a, vs, rfl, g1, g2⟩ := dp_tuple h1
      have : vs = (prL p).map V.int := by
        cases g2 with
        | cons q1 q2 =>
          cases q2 with
          | cons q3 q4 =>
            cases q4
            rw [dp_int q1, dp_int q3]; rfl
      subst this
      refine ⟨(a, prL p) :: ks, by rw [e1]; rfl, by rw [List.map_cons, List.map_cons, e2], fun q hq => ?_⟩
      rcases List.mem_cons.mp hq with rfl | hq
      · exact g1
      · exact e3 q hq
theorem dq_pairs {G : Hp} : ∀ {ps : List (Int × Int)} {ks : List (Addr × List Int)}, ks.map (·.2) = ps.map prL → (∀ q ∈ ks, G q.1 = some (.tup (q.2.map V.int))) → DqAll G (ks.map fun p => V.ref p.1) (ps.map pairD)
  | [], ks, h, _ => by
    rw [List.map_eq_nil_iff.mp (show ks.map (·.2) = [] from h)]
    exact .nil
  | p :: ps, [], h, _ => by cases h
  | p :: ps, q :: ks, h, g => by
    have h' : q.2 :: ks.map (·.2) = prL p :: ps.map prL := h
    injection h' with h1 h2
    refine .cons (.tup (g q List.mem_cons_self) ?_) (dq_pairs h2 fun z hz => g z (List.mem_cons_of_mem _ hz))
    rw [h1]
    exact .cons (.int _) (.cons (.int _) .nil)
def cdP (p : Int × Int) : Int := p.1 * 64 + p.2
theorem pairs_same {A : List (List Int)} {ps : List (Int × Int)} (hp : okP ps) (hm : ∀ x, x ∈ A ↔ x ∈ ps.map prL) (nd : A.Nodup) (pw : A.Pairwise fun x y => TS.code 64 x ≤ TS.code 64 y) : A = ps.map prL := by
  obtain ⟨h1, h2, h3⟩ := hp
  have nb : (ps.map prL).Nodup := List.pairwise_map.mpr (h3.imp fun {a b} q e => by
    injection e with e1 e2
    injection e2 with e2 _
    rw [e1, e2] at q
    exact absurd q (Int.lt_irrefl _))
  have pe : A.Perm (ps.map prL) := (List.perm_ext_iff_of_nodup nd nb).mpr hm
  have e : A.map (TS.code 64) = (ps.map prL).map (TS.code 64) := by
    refine sorted_uniq (le := fun a b : Int => a ≤ b) (fun _ _ q r => Int.le_antisymm q r) (List.pairwise_map.mpr pw) ?_ (pe.map _)
    rw [List.map_map]
    refine List.pairwise_map.mpr (h3.imp fun {a b} q => ?_)
    show TS.code 64 [a.1, a.2] ≤ TS.code 64 [b.1, b.2]
    rw [code_pair, code_pair]
    omega
  have inj : ∀ x y, x ∈ ps.map prL → y ∈ ps.map prL → TS.code 64 x = TS.code 64 y → x = y := by
    intro x y hx hy hxy
    obtain ⟨a, ha, rfl⟩ := List.mem_map.mp hx
    obtain ⟨b, hb, rfl⟩ := List.mem_map.mp hy
    have ba := h2 a ha
    have bb := h2 b hb
    have hxy' : TS.code 64 [a.1, a.2] = TS.code 64 [b.1, b.2] := hxy
    rw [code_pair, code_pair] at hxy'
    have g1 : a.1 = b.1 := by omega
    have g2 : a.2 = b.2 := by omega
    unfold prL
    rw [g1, g2]
  have gen : ∀ (l l' : List (List Int)), l.map (TS.code 64) = l'.map (TS.code 64) → (∀ x ∈ l, x ∈ ps.map prL) → (∀ x ∈ l', x ∈ ps.map prL) → l = l' := by
    intro l
    induction l with
    | nil => intro l' h _ _; exact (List.map_eq_nil_iff.mp h.symm).symm
    | cons a l ih =>
      intro l' h ga gb
      cases l' with
      | nil => cases h
      | cons b l' =>
        rw [List.map_cons, List.map_cons] at h
        injection h with q1 q2
        rw [inj a b (ga a List.mem_cons_self) (gb b List.mem_cons_self) q1, ih l' q2 (fun x hx => ga x (List.mem_cons_of_mem _ hx)) (fun x hx => gb x (List.mem_cons_of_mem _ hx))]
  exact gen _ _ e (fun x hx => (hm x).mp hx) (fun x hx => hx)
section
variable {X : Cx} {κ : Kx} {W : WX}
theorem de_sortSetP {e : Expr} {m : En → R Ent} {p p2 pos pos2 : Pos} (hc : X.calm = true) (hu : X.A.units + 100 < cLine) (hm : X.mg "sorted" = none) (hm2 : X.mg "set" = none) (he : PE X e (tOf κ W m)) (hg : Gl X "sorted" := by rfl) (hg2 : Gl X "set" := by rfl)
    (hs : starEach [e] X.env = (false, eval e X.env) :: starEach [] X.env := by rfl) (hs2 : starEach [.Call (.Name "set" p2) [e] [] pos2] X.env = (false, eval (.Call (.Name "set" p2) [e] [] pos2) X.env) :: starEach [] X.env := by rfl)
    (hpl : (backTo pos2 (starEach [] X.env)).any (·.1) = false := by rfl) (hpl2 : (backTo pos (starEach [] X.env)).any (·.1) = false := by rfl) :
    PE X (.Call (.Name "sorted" p) [.Call (.Name "set" p2) [e] [] pos2] [] pos) (tOf κ W (eSortSetP m)) :=
  pe_imp (pe_callB (cr_sortedT hc) hg hm (by decide +kernel) (pa_cons (pe_callTy (cr_setOfT hc (by omega)) hg2 hm2 (by decide +kernel) (pa_cons he pa_nil hs) (by decide) (by decide) hs hpl) pa_nil hs2) (by decide) (by decide) hs2 hpl2) fun σ H Q ⟨w, en, hw, s, po⟩ => by
    subst hw
    refine goD s po fun d e1 v w1 n1 s1 d1 p1 => ?_
    cases d with
    | list ds =>
      obtain ⟨a, xs, rfl, h1, h2⟩ := dp_list d1
      dsimp only at p1
      cases q : asPairs ds with
      | none => rw [q] at p1; exact False.elim p1
      | some ps =>
        rw [q] at p1
        dsimp only at p1
        by_cases hp : okP ps
        · rw [cIf_pos hp] at p1
          have hds := asPairs_eq q
          rw [hds] at h2
          obtain ⟨ks, rfl, e2, e3⟩ := pairs_of h2
          have hlen : ks.length = ps.length := by
            have := congrArg List.length e2
            rwa [List.length_map, List.length_map] at this
          have kin : ∀ q ∈ ks, ∃ p ∈ ps, q.2 = prL p := fun q hq => by
            have : q.2 ∈ ps.map prL := by rw [← e2]; exact List.mem_map.mpr ⟨q, hq, rfl⟩
            obtain ⟨p, h1, h2⟩ := List.mem_map.mp this
            exact ⟨p, h1, h2.symm⟩
          refine ⟨a, ks, rfl, SqL.of (s1.wo.su _ _ h1), fun p hp => SqT.of (s1.wo.su _ _ (e3 p hp)), by rw [hlen]; exact hp.1, fun b L hb hL1 hL2 => ⟨b, L, 2, 64, rfl, upd_same, fun p hp => SqT.of ?_, by decide, fun p hp' => ?_, fun L' c pm nd hl pw hn => ?_⟩⟩
          · have hH := s1.wo.su _ _ (e3 p (hL1 p hp))
            exact (upd_ne (ne_of_none hH hb)).trans hH
          · obtain ⟨z, hz, e⟩ := kin p (hL1 p hp')
            have hb := hp.2.1 z hz
            rw [e]
            refine ⟨rfl, ?_⟩
            exact fun i hi => by
              rcases List.mem_cons.mp hi with rfl | hi
              · exact hb.1
              · rw [List.mem_singleton.mp hi]; exact hb.2
          · have s2 := s1.grow (o := SetTO X.prog X.w b L) hb
            have n2 := grow_nx (o := SetTO X.prog X.w b L) s1.wo.su hb
            have p2 := Po.mono (x := R.ok (Ent.ow ds) e1) p1 n2
            have hA : L'.map (·.2) = ps.map prL := by
              refine pairs_same hp (fun x => ?_) nd (List.pairwise_map.mpr pw)
              rw [(pm.map (·.2)).mem_iff, ← e2]
              constructor
              · intro h
                obtain ⟨q, hq, rfl⟩ := List.mem_map.mp h
                exact List.mem_map.mpr ⟨q, hL1 q hq, rfl⟩
              · intro h
                obtain ⟨q, hq, rfl⟩ := List.mem_map.mp h
                exact hL2 q hq
            have hd : DqAll w1.G (L'.map fun q => V.ref q.1) ds := by
              rw [hds]
              exact dq_pairs hA fun q hq => e3 q (hL1 q (pm.mem_iff.mp hq))
            exact fin_ow s2 p2 (dpa_mono n2.g _ _ hd) hn
        · rw [cIf_neg hp] at p1
          exact False.elim p1
    | _ => exact False.elim p1
end
end CO

namespace CO
open PySem PySem.Spec PyProof.Rows L2
noncomputable section
def f_is_integer : En → R Fl :=
  sRet (eAnd (eIsi "int" (eN 0)) (eAnd (eNot (eIsi "bool" (eN 0))) (eChain gLe gLe (eN 1) (eN 0) (eN 2))))
def m_is_integer := finM 3 f_is_integer
def f_is_shape : En → R Fl :=
  sSeq (sIf (tOrM (tNotM (tst (eIsi "str" (eN 0)))) (tOrM (tNotM (tst (eChain gLe gLe (eC (.int 1)) (eLenN 0) (eC (.int 8))))) (tNotM (tst (eCall gAll (aCons (eLc (iAll (eN 0)) (gN 1) (tYesM) (eBin gIn (eN 1) (eC (.str (PySem.Str.ofString "x.")))) [1]) (aNil))))))) (sRet (eC (.bool false))) (sPass)) (sRet (eAnd (eBin gEq (eIxN 0 (eC (.int 0))) (eC (.str (PySem.Str.ofString "x")))) (eBin gEq (eIxN 0 (eNeg (eC (.int 1)))) (eC (.str (PySem.Str.ofString "x"))))))
def m_is_shape := finM 2 f_is_shape
def f_is_game : En → R Fl :=
  sSeq (sIf (tOrM (tNotM (tst (eIsi "tuple" (eN 0)))) (tst (eBin gNe (eLenN 0) (eC (.int 3))))) (sRet (eC (.bool false))) (sPass)) (sSeq (sAsg (gT [1, 2, 3]) (eN 0)) (sSeq (sIf (tOrM (tNotM (tst (eCallF 3 m_is_integer (aCons (eN 1) (aCons (eC (.int 1)) (aCons (eC (.int 8)) (aNil))))))) (tNotM (tst (eIsi "bool" (eN 3))))) (sRet (eC (.bool false))) (sPass)) (sSeq (sIf (tOrM (tNotM (tst (eIsi "tuple" (eN 2)))) (tOrM (tNotM (tst (eChain gLe gLe (eC (.int 1)) (eLenN 2) (eC (.int 3))))) (tNotM (tst (eCall gAll (aCons (eLc (iAll (eN 2)) (gN 4) (tYesM) (eCallF 1 m_is_shape (aCons (eN 4) (aNil))) [4]) (aNil))))))) (sRet (eC (.bool false))) (sPass)) (sRet (eAnd (eBin gLe (eCall gMax (aCons (eLc (iAll (eN 2)) (gN 4) (tYesM) (eLenN 4) [4]) (aNil))) (eN 1)) (eCall gAll (aCons (eLc (iZp (eN 2) (eSl (eN 2) (pSo (eC (.int 1))) (pNo))) (gT [4, 5]) (tYesM) (eBin gLt (eN 4) (eN 5)) [4, 5]) (aNil))))))))
def m_is_game := finM 6 f_is_game
def f_check_game : En → R Fl :=
  sIf (tNotM (tst (eCallF 1 m_is_game (aCons (eN 0) (aNil))))) (sEx_ 0) (sPass)
def m_check_game := finM 1 f_check_game
def f_lies : En → R Fl :=
  sRet (eAnd (eIsi "str" (eN 1)) (eAnd (eBin gEq (eLenN 1) (eIxN 0 (eC (.int 0)))) (eCall gAll (aCons (eLc (iAll (eN 1)) (gN 2) (tYesM) (eBin gIn (eN 2) (eC (.str (PySem.Str.ofString "ht")))) [2]) (aNil)))))
def m_lies := finM 3 f_lies
def f_check_row : En → R Fl :=
  sIf (tNotM (tst (eCallF 2 m_lies (aCons (eN 0) (aCons (eN 1) (aNil)))))) (sEx_ 1) (sPass)
def m_check_row := finM 2 f_check_row
def f_check_rows : En → R Fl :=
  sSeq (sEx (eCallF 1 m_check_game (aCons (eN 0) (aNil)))) (sSeq (sEx (eCallF 2 m_check_row (aCons (eN 0) (aCons (eN 1) (aNil))))) (sEx (eCallF 2 m_check_row (aCons (eN 0) (aCons (eN 2) (aNil))))))
def m_check_rows := finM 3 f_check_rows
def f_move_list : En → R Fl :=
  sSeq (sAsg (gT [1, 2, 3]) (eN 0)) (sSeq (sSet 4 (eLst (aNil))) (sSeq (sFor (iEn (eN 2)) (gT [5, 6]) (sSeq (sSet 7 (eIf (tst (eN 3)) (eN 1) (eBin gAdd (eBin gSub (eN 1) (eLenN 6)) (eC (.int 1))))) (sEx (eExt 4 (eLc (iR1 (eN 7)) (gN 8) (tYesM) (eTup (aCons (eN 5) (aCons (eN 8) (aNil)))) [8]))))) (sRet (eMv 4))))
def m_move_list := finM 9 f_move_list
def f_turned_places : En → R Fl :=
  sSeq (sAsg (gT [2, 3]) (eN 1)) (sRet (eCall gSort (aCons (eLc (iEn (eIx (eIxN 0 (eC (.int 1))) (eN 2))) (gT [4, 5]) (tst (eBin gEq (eN 5) (eC (.str (PySem.Str.ofString "x"))))) (eBin gMod (eBin gAdd (eN 3) (eN 4)) (eIxN 0 (eC (.int 0)))) [4, 5]) (aNil))))
def m_turned_places := finM 6 f_turned_places
def f_turned : En → R Fl :=
  sSeq (sSet 2 (eLst (aNil))) (sSeq (sFor (iEn (eN 0)) (gT [3, 4]) (sSeq (sIf (tst (eBin gIn (eN 3) (eN 1))) (sSet 4 (eIf (tst (eBin gEq (eN 4) (eC (.str (PySem.Str.ofString "h"))))) (eC (.str (PySem.Str.ofString "t"))) (eC (.str (PySem.Str.ofString "h"))))) (sPass)) (sEx (eApp 2 (eN 4))))) (sRet (eMt "str" gJoin (eC (.str (PySem.Str.ofString ""))) (aCons (eN 2) (aNil)))))
def m_turned := finM 5 f_turned
def f_is_move : En → R Fl :=
  sSeq (sIf (tOrM (tNotM (tst (eIsi "tuple" (eN 1)))) (tOrM (tst (eBin gNe (eLenN 1) (eC (.int 2)))) (tNotM (tst (eCall gAll (aCons (eLc (iAll (eN 1)) (gN 2) (tYesM) (eCallF 3 m_is_integer (aCons (eN 2) (aCons (eC (.int 0)) (aCons (eC (.int 8)) (aNil))))) [2]) (aNil))))))) (sRet (eC (.bool false))) (sPass)) (sRet (eBin gIn (eN 1) (eCallF 1 m_move_list (aCons (eN 0) (aNil)))))
def m_is_move := finM 3 f_is_move
def f_play : En → R Fl :=
  sSeq (sEx (eCallF 1 m_check_game (aCons (eN 0) (aNil)))) (sSeq (sEx (eCallF 2 m_check_row (aCons (eN 0) (aCons (eN 1) (aNil))))) (sSeq (sIf (tNotM (tst (eCallF 2 m_is_move (aCons (eN 0) (aCons (eN 2) (aNil)))))) (sEx_ 3) (sPass)) (sRet (eCallF 2 m_turned (aCons (eN 1) (aCons (eCallF 2 m_turned_places (aCons (eN 0) (aCons (eN 2) (aNil)))) (aNil)))))))
def m_play := finM 3 f_play
def lc_steps_from_0 : En → R Ent :=
  eLc (iAll (eCallF 1 m_move_list (aCons (eN 0) (aNil)))) (gN 3) (tYesM) (eCallF 2 m_turned_places (aCons (eN 0) (aCons (eN 3) (aNil)))) [3]
def lb_steps_from_0 : En → R Fl :=
  sSeq (sSet 9 (eCallF 2 m_turned (aCons (eN 7) (aCons (eN 8) (aNil))))) (sIf (tst (eDnotin 4 (eN 9))) (sSeq (sDput 4 (eN 9) (eBin gAdd (eDget 4 (eN 7)) (eC (.int 1)))) (sEx (eApp 6 (eN 9)))) (sPass))
def lp_steps_from_0 : En → R Fl :=
  sFor (iAll (eN 2)) (gN 8) (lb_steps_from_0)
def lb_steps_from_1 : En → R Fl :=
  lp_steps_from_0
def lp_steps_from_1 : En → R Fl :=
  sFor (iAll (eN 5)) (gN 7) (lb_steps_from_1)
def lb_steps_from_2 : En → R Fl :=
  sSeq (sSet 6 (eLst (aNil))) (sSeq (lp_steps_from_1) (sSet 5 (eN 6)))
def lp_steps_from_2 : En → R Fl :=
  sWhile (tst (eBin gNe (eN 5) (eLst (aNil)))) (lb_steps_from_2)
def f_steps_from : En → R Fl :=
  sSeq (sSet 2 (lc_steps_from_0)) (sSeq (sPar2 4 5 (eDic1 (eN 1) (eC (.int 0))) (eLst (aCons (eN 1) (aNil)))) (sSeq (lp_steps_from_2) (sRet (eMv 4))))
def m_steps_from := finM 10 f_steps_from
def f_in_reach : En → R Fl :=
  sSeq (sEx (eCallF 1 m_check_game (aCons (eN 0) (aNil)))) (sSeq (sEx (eCallF 2 m_check_row (aCons (eN 0) (aCons (eN 1) (aNil))))) (sRet (eSortDicR (eCallF 2 m_steps_from (aCons (eN 0) (aCons (eN 1) (aNil)))))))
def m_in_reach := finM 2 f_in_reach
def f_steps_between : En → R Fl :=
  sSeq (sEx (eCallF 3 m_check_rows (aCons (eN 0) (aCons (eN 1) (aCons (eN 2) (aNil)))))) (sSeq (sSet 3 (eCallF 2 m_steps_from (aCons (eN 0) (aCons (eN 2) (aNil))))) (sSeq (sIf (tst (eDnotin 3 (eN 1))) (sEx_ 4) (sPass)) (sRet (eMv 3))))
def m_steps_between := finM 4 f_steps_between
def f_distance : En → R Fl :=
  sRet (eDgetR (eCallF 3 m_steps_between (aCons (eN 0) (aCons (eN 1) (aCons (eN 2) (aNil))))) (eN 1))
def m_distance := finM 3 f_distance
def lb_solve_0 : En → R Fl :=
  sSeq (sSet 6 (eCallF 2 m_turned (aCons (eN 1) (aCons (eCallF 2 m_turned_places (aCons (eN 0) (aCons (eN 5) (aNil)))) (aNil))))) (sIf (tst (eBin gLt (eDget 3 (eN 6)) (eDget 3 (eN 1)))) (sSeq (sEx (eApp 4 (eN 5))) (sSeq (sSet 1 (eN 6)) (sBk))) (sPass))
def lp_solve_0 : En → R Fl :=
  sFor (iAll (eCallF 1 m_move_list (aCons (eN 0) (aNil)))) (gN 5) (lb_solve_0)
def lb_solve_1 : En → R Fl :=
  lp_solve_0
def lp_solve_1 : En → R Fl :=
  sWhile (tst (eBin gNe (eN 1) (eN 2))) (lb_solve_1)
def f_solve : En → R Fl :=
  sSeq (sPar2 3 4 (eCallF 3 m_steps_between (aCons (eN 0) (aCons (eN 1) (aCons (eN 2) (aNil))))) (eLst (aNil))) (sSeq (lp_solve_1) (sRet (eMv 4)))
def m_solve := finM 7 f_solve
def lb_sweep_0 : En → R Fl :=
  sIf (tst (eBin gNe (eIxN 1 (eIxN 4 (eC (.int 1)))) (eIxN 2 (eIxN 4 (eC (.int 1)))))) (sSeq (sSet 1 (eCallF 2 m_turned (aCons (eN 1) (aCons (eCallF 2 m_turned_places (aCons (eN 0) (aCons (eN 4) (aNil)))) (aNil))))) (sEx (eApp 3 (eN 4)))) (sPass)
def lp_sweep_0 : En → R Fl :=
  sFor (iAll (eCallF 1 m_move_list (aCons (eN 0) (aNil)))) (gN 4) (lb_sweep_0)
def f_sweep : En → R Fl :=
  sSeq (sEx (eCallF 1 m_check_game (aCons (eN 0) (aNil)))) (sSeq (sIf (tst (eIxN 0 (eC (.int 2)))) (sEx_ 5) (sPass)) (sSeq (sIf (tst (eBin gGt (eCall gLen (aCons (eIxN 0 (eC (.int 1))) (aNil))) (eC (.int 1)))) (sEx_ 6) (sPass)) (sSeq (sEx (eCallF 2 m_check_row (aCons (eN 0) (aCons (eN 1) (aNil))))) (sSeq (sEx (eCallF 2 m_check_row (aCons (eN 0) (aCons (eN 2) (aNil))))) (sSeq (sSet 3 (eLst (aNil))) (sSeq (lp_sweep_0) (sSeq (sIf (tst (eBin gNe (eN 1) (eN 2))) (sEx_ 4) (sPass)) (sRet (eMv 3)))))))))
def m_sweep := finM 5 f_sweep
def lc_farthest_0 : En → R Ent :=
  eLc (iFz 2) (gN 4) (tst (eBin gEq (eDget 2 (eN 4)) (eN 3))) (eN 4) [4]
def f_farthest : En → R Fl :=
  sSeq (sEx (eCallF 1 m_check_game (aCons (eN 0) (aNil)))) (sSeq (sEx (eCallF 2 m_check_row (aCons (eN 0) (aCons (eN 1) (aNil))))) (sSeq (sSet 2 (eCallF 2 m_steps_from (aCons (eN 0) (aCons (eN 1) (aNil))))) (sSeq (sSet 3 (eCall gMax (aCons (eDvals 2) (aNil)))) (sRet (eCall gSort (aCons (eLock 2 lc_farthest_0) (aNil)))))))
def m_farthest := finM 5 f_farthest
def f__law_cell_at : En → R Fl :=
  sSeq (sIf (tst (eBin gLt (eN 1) (eLenSc 0))) (sRet (eIxSc 0 (eN 1))) (sPass)) (sSeq (sIf (tst (eScNil 0)) (sRet (eC (.int 0))) (sPass)) (sSeq (sSet 2 (eIxSc 0 (eBin gMod (eN 1) (eLenSc 0)))) (sSeq (sFor (iR1 (eCall gMin (aCons (eBin gDiv (eN 1) (eLenSc 0)) (aCons (eC (.int 60)) (aNil))))) (gN 3) (sSet 2 (eBin gDiv (eN 2) (eC (.int 1000003))))) (sRet (eBin gAdd (eBin gAdd (eBin gMul (eIxSc 0 (eBin gMod (eN 1) (eLenSc 0))) (eC (.int 31))) (eN 1)) (eBin gMul (eN 2) (eC (.int 101))))))))
def m__law_cell_at := finM 4 f__law_cell_at
def f__law_mixed : En → R Fl :=
  sSeq (sSet 3 (eBin gMod (eBin gAdd (eBin gAdd (eBin gMul (eCallF 2 m__law_cell_at (aCons (eN 0) (aCons (eN 1) (aNil)))) (eC (.int 1103515245))) (eBin gMul (eC (.int 7919)) (eN 1))) (eC (.int 12345))) (eC (.int 2147483647)))) (sRet (eBin gMod (eBin gMod (eBin gMod (eBin gPow (eN 3) (eC (.int 5))) (eC (.int 2147483647))) (eC (.int 999983))) (eN 2)))
def m__law_mixed := finM 4 f__law_mixed
def f__law_draw : En → R Fl :=
  sSeq (sEx (eAppTn 1)) (sRet (eCallF 3 m__law_mixed (aCons (eN 0) (aCons (eLenN 1) (aCons (eN 2) (aNil))))))
def m__law_draw := finM 3 f__law_draw
def f__law_pick : En → R Fl :=
  sRet (eIxN 2 (eCallF 3 m__law_draw (aCons (eN 0) (aCons (eN 1) (aCons (eLenN 2) (aNil))))))
def m__law_pick := finM 3 f__law_pick
def f__law_some_shape : En → R Fl :=
  sSeq (sSet 3 (eBin gAdd (eC (.int 1)) (eCallF 3 m__law_draw (aCons (eN 0) (aCons (eN 1) (aCons (eN 2) (aNil))))))) (sSeq (sIf (tst (eBin gEq (eN 3) (eC (.int 1)))) (sRet (eC (.str (PySem.Str.ofString "x")))) (sPass)) (sRet (eBin gAdd (eBin gAdd (eC (.str (PySem.Str.ofString "x"))) (eMt "str" gJoin (eC (.str (PySem.Str.ofString ""))) (aCons (eLc (iR1 (eBin gSub (eN 3) (eC (.int 2)))) (gN 4) (tYesM) (eCallF 3 m__law_pick (aCons (eN 0) (aCons (eN 1) (aCons (eLst (aCons (eC (.str (PySem.Str.ofString "."))) (aCons (eC (.str (PySem.Str.ofString "x"))) (aNil)))) (aNil))))) [4]) (aNil)))) (eC (.str (PySem.Str.ofString "x"))))))
def m__law_some_shape := finM 5 f__law_some_shape
def f__law_some_coins : En → R Fl :=
  sRet (eMt "str" gJoin (eC (.str (PySem.Str.ofString ""))) (aCons (eLc (iR1 (eIxN 2 (eC (.int 0)))) (gN 3) (tYesM) (eCallF 3 m__law_pick (aCons (eN 0) (aCons (eN 1) (aCons (eLst (aCons (eC (.str (PySem.Str.ofString "h"))) (aCons (eC (.str (PySem.Str.ofString "t"))) (aNil)))) (aNil))))) [3]) (aNil)))
def m__law_some_coins := finM 4 f__law_some_coins
def lb_law_0 : En → R Fl :=
  sSet 10 (eCallF 3 m_play (aCons (eN 3) (aCons (eN 10) (aCons (eN 11) (aNil)))))
def lp_law_0 : En → R Fl :=
  sFor (iAll (eRev (eN 8))) (gN 11) (lb_law_0)
def lc_law_0 : En → R Ent :=
  eLc (iAll (eN 8)) (gN 11) (tst (eBin gNotIn (eN 11) (eN 9))) (eN 11) [11]
def lc_law_1 : En → R Ent :=
  eLc (iAll (eN 9)) (gN 11) (tst (eBin gNotIn (eN 11) (eN 8))) (eN 11) [11]
def f_law : En → R Fl :=
  sSeq (sTown 1) (sSeq (sSet 2 (eBin gAdd (eC (.int 1)) (eCallF 3 m__law_draw (aCons (eN 0) (aCons (eN 1) (aCons (eC (.int 7)) (aNil))))))) (sSeq (sSet 3 (eTup (aCons (eN 2) (aCons (eTup (aCons (eCallF 3 m__law_some_shape (aCons (eN 0) (aCons (eN 1) (aCons (eN 2) (aNil))))) (aNil))) (aCons (eC (.bool false)) (aNil)))))) (sSeq (sSet 4 (eCallF 3 m__law_some_coins (aCons (eN 0) (aCons (eN 1) (aCons (eN 3) (aNil)))))) (sSeq (sSet 5 (eCallF 2 m_in_reach (aCons (eN 3) (aCons (eN 4) (aNil))))) (sSeq (sPar2 6 7 (eCallF 3 m__law_pick (aCons (eN 0) (aCons (eN 1) (aCons (eN 5) (aNil))))) (eCallF 3 m__law_pick (aCons (eN 0) (aCons (eN 1) (aCons (eN 5) (aNil)))))) (sSeq (sPar2 8 9 (eCallF 3 m_sweep (aCons (eN 3) (aCons (eN 4) (aCons (eN 6) (aNil))))) (eCallF 3 m_sweep (aCons (eN 3) (aCons (eN 6) (aCons (eN 7) (aNil)))))) (sSeq (sSet 10 (eN 4)) (sSeq (lp_law_0) (sSeq (sIf (tOrM (tst (eBin gNe (eN 10) (eN 6))) (tOrM (tst (eBin gNe (eN 8) (eSortSetP (eN 8)))) (tst (eBin gNe (eLenN 8) (eCallF 3 m_distance (aCons (eN 3) (aCons (eN 4) (aCons (eN 6) (aNil))))))))) (sRet (eC (.bool false))) (sPass)) (sSeq (sIf (tst (eBin gNe (eCallF 3 m_sweep (aCons (eN 3) (aCons (eN 6) (aCons (eN 4) (aNil))))) (eN 8))) (sRet (eC (.bool false))) (sPass)) (sSeq (sIf (tOrM (tst (eBin gNe (eCallF 3 m_solve (aCons (eN 3) (aCons (eN 4) (aCons (eN 6) (aNil))))) (eN 8))) (tst (eBin gNe (eCallF 3 m_sweep (aCons (eN 3) (aCons (eN 4) (aCons (eN 4) (aNil))))) (eLst (aNil))))) (sRet (eC (.bool false))) (sPass)) (sSeq (sSet 12 (eCall gSort (aCons (eBin gAdd (lc_law_0) (lc_law_1)) (aNil)))) (sSeq (sIf (tst (eBin gNe (eCallF 3 m_sweep (aCons (eN 3) (aCons (eN 4) (aCons (eN 7) (aNil))))) (eN 12))) (sRet (eC (.bool false))) (sPass)) (sSeq (sSet 13 (eCallF 2 m_farthest (aCons (eN 3) (aCons (eN 4) (aNil))))) (sRet (eAnd (eBin gEq (eLenN 13) (eC (.int 1))) (eBin gEq (eCall gLen (aCons (eCallF 3 m_sweep (aCons (eN 3) (aCons (eN 4) (aCons (eIxN 13 (eC (.int 0))) (aNil))))) (aNil))) (eBin gAdd (eBin gSub (eN 2) (eCall gLen (aCons (eIx (eIxN 3 (eC (.int 1))) (eC (.int 0))) (aNil)))) (eC (.int 1))))))))))))))))))))
def m_law := finM 14 f_law
end
def top (i : Nat) : Stmt := PySem.Challenge.pw_coinshapes_k20_whole_sweeps.main.body.getD i (.Pass ⟨0, 0, 0, 0⟩)
abbrev s_is_integer : Stmt := top 10
abbrev s_is_shape : Stmt := top 11
abbrev s_is_game : Stmt := top 12
abbrev s_check_game : Stmt := top 13
abbrev s_lies : Stmt := top 14
abbrev s_check_row : Stmt := top 15
abbrev s_check_rows : Stmt := top 16
abbrev s_move_list : Stmt := top 17
abbrev s_turned_places : Stmt := top 18
abbrev s_turned : Stmt := top 19
abbrev s_is_move : Stmt := top 20
abbrev s_play : Stmt := top 21
abbrev s_steps_from : Stmt := top 23
abbrev s_in_reach : Stmt := top 24
abbrev s_steps_between : Stmt := top 26
abbrev s_distance : Stmt := top 27
abbrev s_solve : Stmt := top 28
abbrev s_sweep : Stmt := top 29
abbrev s_farthest : Stmt := top 30
abbrev s__law_cell_at : Stmt := top 32
abbrev s__law_mixed : Stmt := top 33
abbrev s__law_draw : Stmt := top 34
abbrev s__law_pick : Stmt := top 35
abbrev s__law_some_shape : Stmt := top 36
abbrev s__law_some_coins : Stmt := top 37
abbrev s_law : Stmt := top 38
structure Tx (K : PySem.W.Frag) (mg : Str → Option Value) (κ : Kx) : Prop where
  hK : κ.K = K
  b_all : mg "all" = none
  b_bool : mg "bool" = none
  b_enumerate : mg "enumerate" = none
  b_int : mg "int" = none
  b_isinstance : mg "isinstance" = none
  b_len : mg "len" = none
  b_list : mg "list" = none
  b_max : mg "max" = none
  b_min : mg "min" = none
  b_range : mg "range" = none
  b_set : mg "set" = none
  b_sorted : mg "sorted" = none
  b_str : mg "str" = none
  b_tuple : mg "tuple" = none
  b_zip : mg "zip" = none
  c_MOST : ∃ t, mg "MOST" = some (.int 8 t)
  x_InvalidGame : ExnOk K mg κ 0 "InvalidGame"
  x_InvalidRow : ExnOk K mg κ 1 "InvalidRow"
  x_InvalidMove : ExnOk K mg κ 3 "InvalidMove"
  x_OutOfReach : ExnOk K mg κ 4 "OutOfReach"
  x_OnRing : ExnOk K mg κ 5 "OnRing"
  x_SeveralShapes : ExnOk K mg κ 6 "SeveralShapes"
  f_is_integer : FunOk K mg "is_integer" s_is_integer ["value", "low", "high"]
  f_is_shape : FunOk K mg "is_shape" s_is_shape ["value"]
  f_is_game : FunOk K mg "is_game" s_is_game ["value"]
  f_check_game : FunOk K mg "check_game" s_check_game ["game"]
  f_lies : FunOk K mg "lies" s_lies ["game", "value"]
  f_check_row : FunOk K mg "check_row" s_check_row ["game", "row"]
  f_check_rows : FunOk K mg "check_rows" s_check_rows ["game", "one", "other"]
  f_move_list : FunOk K mg "move_list" s_move_list ["game"]
  f_turned_places : FunOk K mg "turned_places" s_turned_places ["game", "move"]
  f_turned : FunOk K mg "turned" s_turned ["row", "some"]
  f_is_move : FunOk K mg "is_move" s_is_move ["game", "value"]
  f_play : FunOk K mg "play" s_play ["game", "row", "move"]
  f_steps_from : FunOk K mg "steps_from" s_steps_from ["game", "row"]
  f_in_reach : FunOk K mg "in_reach" s_in_reach ["game", "row"]
  f_steps_between : FunOk K mg "steps_between" s_steps_between ["game", "one", "other"]
  f_distance : FunOk K mg "distance" s_distance ["game", "one", "other"]
  f_solve : FunOk K mg "solve" s_solve ["game", "one", "other"]
  f_sweep : FunOk K mg "sweep" s_sweep ["game", "one", "other"]
  f_farthest : FunOk K mg "farthest" s_farthest ["game", "row"]
  f__law_cell_at : FunOk K mg "_law_cell_at" s__law_cell_at ["_law_script", "_law_k"]
  f__law_mixed : FunOk K mg "_law_mixed" s__law_mixed ["_law_script", "_law_k", "_law_many"]
  f__law_draw : FunOk K mg "_law_draw" s__law_draw ["_law_script", "_law_town", "_law_many"]
  f__law_pick : FunOk K mg "_law_pick" s__law_pick ["_law_script", "_law_town", "_law_some"]
  f__law_some_shape : FunOk K mg "_law_some_shape" s__law_some_shape ["_law_script", "_law_town", "_law_most"]
  f__law_some_coins : FunOk K mg "_law_some_coins" s__law_some_coins ["_law_script", "_law_town", "_law_own"]
section
variable {P : Program} {w : World} {K : PySem.W.Frag} {mg : Str → Option Value} {base : Heap} {κ : Kx}
theorem d_is_integer (hT : Tx K mg κ) : FnD P w K mg base κ "is_integer" 1 3 m_is_integer := by
  obtain ⟨f, fd, Ff, gx, hb⟩ := hT.f_is_integer
  have nd : (["value", "low", "high"] : List Str).Nodup := by decide +kernel
  refine fnD_of (N := ["value", "low", "high"]) (ps := ["value", "low", "high"]) Ff ⟨rfl, rfl, rfl, nd, rfl, by decide +kernel, by decide +kernel⟩ gx hb f_is_integer fun cdv A outer s H E hr => ?_
  have tkf : Takes (cxOf (L2.CX P w) P w K mg base ["value", "low", "high"] "is_integer" (defScope s_is_integer) f cdv A outer s H E) (fun cls d _ H => E cls d H) := takes_of rfl rfl rfl rfl
  exact dss_one (ds_ret (de_and (de_isi kitAll_int hT.b_isinstance hT.b_int (de_name 0)) (de_and (de_not (de_isi kitAll_bool hT.b_isinstance hT.b_bool (de_name 0))) (de_one (de_chain od_le od_le (de_name 1) (de_name 0) (de_name 2))))))
theorem d_is_shape (hT : Tx K mg κ) : FnD P w K mg base κ "is_shape" 1 1 m_is_shape := by
  obtain ⟨f, fd, Ff, gx, hb⟩ := hT.f_is_shape
  have nd : (["value", "sign"] : List Str).Nodup := by decide +kernel
  refine fnD_of (N := ["value", "sign"]) (ps := ["value"]) Ff ⟨rfl, rfl, rfl, nd, rfl, by decide +kernel, by decide +kernel⟩ gx hb f_is_shape fun cdv A outer s H E hr => ?_
  have tkf : Takes (cxOf (L2.CX P w) P w K mg base ["value", "sign"] "is_shape" (defScope s_is_shape) f cdv A outer s H E) (fun cls d _ H => E cls d H) := takes_of rfl rfl rfl rfl
  exact dss_cons (ds_if ((dw_or (dt_not (dt_val (de_isi kitAll_str hT.b_isinstance hT.b_str (de_name 0)))) (dw_or (dt_not (dt_chain od_le od_le (de_int) (de_lenN 0 hT.b_len) (de_globI hT.c_MOST.choose_spec))) (dw_or1 (dt_not (dt_val (de_callB (cd_all rfl) hT.b_all (da_cons (de_lc (own := [((PySem.Str.ofString "sign"), 1)]) rfl nd (di_seq hT.hK.symm (de_name 0)) (by rfl) (fun _ _ _ _ _ => dg_name 1 nd) (fun _ _ _ _ _ => dpts_nil) (fun _ _ _ _ _ => de_cmp (od_in (u65 hr)) (de_name 1) (de_str))) (da_nil)))))))).pt) (dss_one (ds_ret (de_bl))) (dss_nil)) (dss_one (ds_ret (de_and (de_cmp (od_eq (u64 hr)) (de_ixN 0 (de_int)) (de_str)) (de_one (de_cmp (od_eq (u64 hr)) (de_ixN 0 (de_neg (de_int))) (de_str))))))
theorem d_is_game (hT : Tx K mg κ) : FnD P w K mg base κ "is_game" 2 1 m_is_game := by
  obtain ⟨f, fd, Ff, gx, hb⟩ := hT.f_is_game
  have nd : (["value", "length", "shapes", "ring", "one", "other"] : List Str).Nodup := by decide +kernel
  refine fnD_of (N := ["value", "length", "shapes", "ring", "one", "other"]) (ps := ["value"]) Ff ⟨rfl, rfl, rfl, nd, rfl, by decide +kernel, by decide +kernel⟩ gx hb f_is_game fun cdv A outer s H E hr => ?_
  have tkf : Takes (cxOf (L2.CX P w) P w K mg base ["value", "length", "shapes", "ring", "one", "other"] "is_game" (defScope s_is_game) f cdv A outer s H E) (fun cls d _ H => E cls d H) := takes_of rfl rfl rfl rfl
  exact dss_cons (ds_if ((dw_or (dt_not (dt_val (de_isi kitAll_tuple hT.b_isinstance hT.b_tuple (de_name 0)))) (dw_or1 (dt_cmp (od_ne (u64 hr)) (de_lenN 0 hT.b_len) (de_int)))).pt) (dss_one (ds_ret (de_bl))) (dss_nil)) (dss_cons (ds_asg (de_name 0) (dg_tup rfl (dgs_name 1 nd (dgs_name 2 nd (dgs_name 3 nd (dgs_nil)))))) (dss_cons (ds_if ((dw_or (dt_not (dt_val (de_call (d_is_integer hT) (hr.mono (by decide)) tkf (da_cons (de_name 1) (da_cons (de_int) (da_cons (de_globI hT.c_MOST.choose_spec) (da_nil))))))) (dw_or1 (dt_not (dt_val (de_isi kitAll_bool hT.b_isinstance hT.b_bool (de_name 3)))))).pt) (dss_one (ds_ret (de_bl))) (dss_nil)) (dss_cons (ds_if ((dw_or (dt_not (dt_val (de_isi kitAll_tuple hT.b_isinstance hT.b_tuple (de_name 2)))) (dw_or (dt_not (dt_chain od_le od_le (de_int) (de_lenN 2 hT.b_len) (de_int))) (dw_or1 (dt_not (dt_val (de_callB (cd_all rfl) hT.b_all (da_cons (de_lc (own := [((PySem.Str.ofString "one"), 4)]) rfl nd (di_seq hT.hK.symm (de_name 2)) (by rfl) (fun _ _ _ _ _ => dg_name 4 nd) (fun _ _ _ _ _ => dpts_nil) (fun _ _ _ _ _ => de_call (d_is_shape hT) (hr.mono (by decide)) takes0 (da_cons (de_name 4) (da_nil)))) (da_nil)))))))).pt) (dss_one (ds_ret (de_bl))) (dss_nil)) (dss_one (ds_ret (de_and (de_cmp od_le (de_callB (cd_max rfl) hT.b_max (da_cons (de_lc (own := [((PySem.Str.ofString "one"), 4)]) rfl nd (di_seq hT.hK.symm (de_name 2)) (by rfl) (fun _ _ _ _ _ => dg_name 4 nd) (fun _ _ _ _ _ => dpts_nil) (fun _ _ _ _ _ => de_lenN 4 hT.b_len)) (da_nil))) (de_name 1)) (de_one (de_callB (cd_all rfl) hT.b_all (da_cons (de_lc (own := [((PySem.Str.ofString "one"), 4), ((PySem.Str.ofString "other"), 5)]) rfl nd (di_zip hT.hK.symm hT.b_zip (de_name 2) (de_slice (de_name 2) (dp_so (de_int)) (dp_no))) (by rfl) (fun _ _ _ _ _ => dg_tup rfl (dgs_name 4 nd (dgs_name 5 nd (dgs_nil)))) (fun _ _ _ _ _ => dpts_nil) (fun _ _ _ _ _ => de_cmp od_lt (de_name 4) (de_name 5))) (da_nil))))))))))
theorem d_check_game (hT : Tx K mg κ) : FnD P w K mg base κ "check_game" 3 1 m_check_game := by
  obtain ⟨f, fd, Ff, gx, hb⟩ := hT.f_check_game
  have nd : (["game"] : List Str).Nodup := by decide +kernel
  refine fnD_of (N := ["game"]) (ps := ["game"]) Ff ⟨rfl, rfl, rfl, nd, rfl, by decide +kernel, by decide +kernel⟩ gx hb f_check_game fun cdv A outer s H E hr => ?_
  have tkf : Takes (cxOf (L2.CX P w) P w K mg base ["game"] "check_game" (defScope s_check_game) f cdv A outer s H E) (fun cls d _ H => E cls d H) := takes_of rfl rfl rfl rfl
  exact dss_one (ds_if (dt_not (dt_val (de_call (d_is_game hT) (hr.mono (by decide)) tkf (da_cons (de_name 0) (da_nil))))) (dss_one (ds_raiseX 0 rfl tkf hT.x_InvalidGame)) (dss_nil))
theorem d_lies (hT : Tx K mg κ) : FnD P w K mg base κ "lies" 1 2 m_lies := by
  obtain ⟨f, fd, Ff, gx, hb⟩ := hT.f_lies
  have nd : (["game", "value", "sign"] : List Str).Nodup := by decide +kernel
  refine fnD_of (N := ["game", "value", "sign"]) (ps := ["game", "value"]) Ff ⟨rfl, rfl, rfl, nd, rfl, by decide +kernel, by decide +kernel⟩ gx hb f_lies fun cdv A outer s H E hr => ?_
  have tkf : Takes (cxOf (L2.CX P w) P w K mg base ["game", "value", "sign"] "lies" (defScope s_lies) f cdv A outer s H E) (fun cls d _ H => E cls d H) := takes_of rfl rfl rfl rfl
  exact dss_one (ds_ret (de_and (de_isi kitAll_str hT.b_isinstance hT.b_str (de_name 1)) (de_and (de_cmp (od_eq (u64 hr)) (de_lenN 1 hT.b_len) (de_ixN 0 (de_int))) (de_one (de_callB (cd_all rfl) hT.b_all (da_cons (de_lc (own := [((PySem.Str.ofString "sign"), 2)]) rfl nd (di_seq hT.hK.symm (de_name 1)) (by rfl) (fun _ _ _ _ _ => dg_name 2 nd) (fun _ _ _ _ _ => dpts_nil) (fun _ _ _ _ _ => de_cmp (od_in (u65 hr)) (de_name 2) (de_str))) (da_nil)))))))
theorem d_check_row (hT : Tx K mg κ) : FnD P w K mg base κ "check_row" 2 2 m_check_row := by
  obtain ⟨f, fd, Ff, gx, hb⟩ := hT.f_check_row
  have nd : (["game", "row"] : List Str).Nodup := by decide +kernel
  refine fnD_of (N := ["game", "row"]) (ps := ["game", "row"]) Ff ⟨rfl, rfl, rfl, nd, rfl, by decide +kernel, by decide +kernel⟩ gx hb f_check_row fun cdv A outer s H E hr => ?_
  have tkf : Takes (cxOf (L2.CX P w) P w K mg base ["game", "row"] "check_row" (defScope s_check_row) f cdv A outer s H E) (fun cls d _ H => E cls d H) := takes_of rfl rfl rfl rfl
  exact dss_one (ds_if (dt_not (dt_val (de_call (d_lies hT) (hr.mono (by decide)) tkf (da_cons (de_name 0) (da_cons (de_name 1) (da_nil)))))) (dss_one (ds_raiseX 1 rfl tkf hT.x_InvalidRow)) (dss_nil))
theorem d_check_rows (hT : Tx K mg κ) : FnD P w K mg base κ "check_rows" 4 3 m_check_rows := by
  obtain ⟨f, fd, Ff, gx, hb⟩ := hT.f_check_rows
  have nd : (["game", "one", "other"] : List Str).Nodup := by decide +kernel
  refine fnD_of (N := ["game", "one", "other"]) (ps := ["game", "one", "other"]) Ff ⟨rfl, rfl, rfl, nd, rfl, by decide +kernel, by decide +kernel⟩ gx hb f_check_rows fun cdv A outer s H E hr => ?_
  have tkf : Takes (cxOf (L2.CX P w) P w K mg base ["game", "one", "other"] "check_rows" (defScope s_check_rows) f cdv A outer s H E) (fun cls d _ H => E cls d H) := takes_of rfl rfl rfl rfl
  exact dss_cons (ds_expr (de_call (d_check_game hT) (hr.mono (by decide)) tkf (da_cons (de_name 0) (da_nil)))) (dss_cons (ds_expr (de_call (d_check_row hT) (hr.mono (by decide)) tkf (da_cons (de_name 0) (da_cons (de_name 1) (da_nil))))) (dss_one (ds_expr (de_call (d_check_row hT) (hr.mono (by decide)) tkf (da_cons (de_name 0) (da_cons (de_name 2) (da_nil)))))))
theorem d_move_list (hT : Tx K mg κ) : FnD P w K mg base κ "move_list" 1 1 m_move_list := by
  obtain ⟨f, fd, Ff, gx, hb⟩ := hT.f_move_list
  have nd : (["game", "length", "shapes", "ring", "found", "number", "shape", "places", "place"] : List Str).Nodup := by decide +kernel
  refine fnD_of (N := ["game", "length", "shapes", "ring", "found", "number", "shape", "places", "place"]) (ps := ["game"]) Ff ⟨rfl, rfl, rfl, nd, rfl, by decide +kernel, by decide +kernel⟩ gx hb f_move_list fun cdv A outer s H E hr => ?_
  have tkf : Takes (cxOf (L2.CX P w) P w K mg base ["game", "length", "shapes", "ring", "found", "number", "shape", "places", "place"] "move_list" (defScope s_move_list) f cdv A outer s H E) (fun cls d _ H => E cls d H) := takes_of rfl rfl rfl rfl
  exact dss_cons (ds_asg (de_name 0) (dg_tup rfl (dgs_name 1 nd (dgs_name 2 nd (dgs_name 3 nd (dgs_nil)))))) (dss_cons (ds_set 4 nd (de_lst (da_nil))) (dss_cons (ds_for (passes_of rfl) rfl (di_enum hT.hK.symm hT.b_enumerate (de_name 2)) (dg_tup rfl (dgs_name 5 nd (dgs_name 6 nd (dgs_nil)))) (dss_cons (ds_set 7 nd (de_if (dt_val (de_name 3)) (de_name 1) (de_bin od_add (de_bin od_sub (de_name 1) (de_lenN 6 hT.b_len)) (de_int)))) (dss_one (ds_expr (de_ext 4 (de_lc (own := [((PySem.Str.ofString "place"), 8)]) rfl nd (di_range1 hT.b_range (de_name 7)) (by rfl) (fun _ _ _ _ _ => dg_name 8 nd) (fun _ _ _ _ _ => dpts_nil) (fun _ _ _ _ _ => de_tup (da_cons (de_name 5) (da_cons (de_name 8) (da_nil)))))))))) (dss_one (ds_ret (de_move 4)))))
theorem d_turned_places (hT : Tx K mg κ) : FnD P w K mg base κ "turned_places" 1 2 m_turned_places := by
  obtain ⟨f, fd, Ff, gx, hb⟩ := hT.f_turned_places
  have nd : (["game", "move", "number", "place", "i", "sign"] : List Str).Nodup := by decide +kernel
  refine fnD_of (N := ["game", "move", "number", "place", "i", "sign"]) (ps := ["game", "move"]) Ff ⟨rfl, rfl, rfl, nd, rfl, by decide +kernel, by decide +kernel⟩ gx hb f_turned_places fun cdv A outer s H E hr => ?_
  have tkf : Takes (cxOf (L2.CX P w) P w K mg base ["game", "move", "number", "place", "i", "sign"] "turned_places" (defScope s_turned_places) f cdv A outer s H E) (fun cls d _ H => E cls d H) := takes_of rfl rfl rfl rfl
  exact dss_cons (ds_asg (de_name 1) (dg_tup rfl (dgs_name 2 nd (dgs_name 3 nd (dgs_nil))))) (dss_one (ds_ret (de_callB (cd_sort (u100 hr)) hT.b_sorted (da_cons (de_lc (own := [((PySem.Str.ofString "i"), 4), ((PySem.Str.ofString "sign"), 5)]) rfl nd (di_enum hT.hK.symm hT.b_enumerate (de_ix (de_ixN 0 (de_int)) (de_name 2))) (by rfl) (fun _ _ _ _ _ => dg_tup rfl (dgs_name 4 nd (dgs_name 5 nd (dgs_nil)))) (fun _ _ _ _ _ => dpts_one (dt_cmp (od_eq (u64 hr)) (de_name 5) (de_str))) (fun _ _ _ _ _ => de_bin od_mod (de_bin od_add (de_name 3) (de_name 4)) (de_ixN 0 (de_int)))) (da_nil)))))
theorem d_turned (hT : Tx K mg κ) : FnD P w K mg base κ "turned" 1 2 m_turned := by
  obtain ⟨f, fd, Ff, gx, hb⟩ := hT.f_turned
  have nd : (["row", "some", "signs", "place", "sign"] : List Str).Nodup := by decide +kernel
  refine fnD_of (N := ["row", "some", "signs", "place", "sign"]) (ps := ["row", "some"]) Ff ⟨rfl, rfl, rfl, nd, rfl, by decide +kernel, by decide +kernel⟩ gx hb f_turned fun cdv A outer s H E hr => ?_
  have tkf : Takes (cxOf (L2.CX P w) P w K mg base ["row", "some", "signs", "place", "sign"] "turned" (defScope s_turned) f cdv A outer s H E) (fun cls d _ H => E cls d H) := takes_of rfl rfl rfl rfl
  exact dss_cons (ds_set 2 nd (de_lst (da_nil))) (dss_cons (ds_for (passes_of rfl) rfl (di_enum hT.hK.symm hT.b_enumerate (de_name 0)) (dg_tup rfl (dgs_name 3 nd (dgs_name 4 nd (dgs_nil)))) (dss_cons (ds_if (dt_cmp (od_in (u65 hr)) (de_name 3) (de_name 1)) (dss_one (ds_set 4 nd (de_if (dt_cmp (od_eq (u64 hr)) (de_name 4) (de_str)) (de_str) (de_str)))) (dss_nil)) (dss_one (ds_expr (de_app 2 (de_name 4)))))) (dss_one (ds_ret (de_mt md_join PySem.F.plainAttrs_str PySem.F.slot_str_join PySem.F.type_str_join (de_str) (da_cons (de_name 2) (da_nil))))))
theorem d_is_move (hT : Tx K mg κ) : FnD P w K mg base κ "is_move" 2 2 m_is_move := by
  obtain ⟨f, fd, Ff, gx, hb⟩ := hT.f_is_move
  have nd : (["game", "value", "one"] : List Str).Nodup := by decide +kernel
  refine fnD_of (N := ["game", "value", "one"]) (ps := ["game", "value"]) Ff ⟨rfl, rfl, rfl, nd, rfl, by decide +kernel, by decide +kernel⟩ gx hb f_is_move fun cdv A outer s H E hr => ?_
  have tkf : Takes (cxOf (L2.CX P w) P w K mg base ["game", "value", "one"] "is_move" (defScope s_is_move) f cdv A outer s H E) (fun cls d _ H => E cls d H) := takes_of rfl rfl rfl rfl
  exact dss_cons (ds_if ((dw_or (dt_not (dt_val (de_isi kitAll_tuple hT.b_isinstance hT.b_tuple (de_name 1)))) (dw_or (dt_cmp (od_ne (u64 hr)) (de_lenN 1 hT.b_len) (de_int)) (dw_or1 (dt_not (dt_val (de_callB (cd_all rfl) hT.b_all (da_cons (de_lc (own := [((PySem.Str.ofString "one"), 2)]) rfl nd (di_seq hT.hK.symm (de_name 1)) (by rfl) (fun _ _ _ _ _ => dg_name 2 nd) (fun _ _ _ _ _ => dpts_nil) (fun _ _ _ _ _ => de_call (d_is_integer hT) (hr.mono (by decide)) takes0 (da_cons (de_name 2) (da_cons (de_int) (da_cons (de_globI hT.c_MOST.choose_spec) (da_nil)))))) (da_nil)))))))).pt) (dss_one (ds_ret (de_bl))) (dss_nil)) (dss_one (ds_ret (de_cmp (od_in (u65 hr)) (de_name 1) (de_call (d_move_list hT) (hr.mono (by decide)) tkf (da_cons (de_name 0) (da_nil))))))
theorem d_play (hT : Tx K mg κ) : FnD P w K mg base κ "play" 4 3 m_play := by
  obtain ⟨f, fd, Ff, gx, hb⟩ := hT.f_play
  have nd : (["game", "row", "move"] : List Str).Nodup := by decide +kernel
  refine fnD_of (N := ["game", "row", "move"]) (ps := ["game", "row", "move"]) Ff ⟨rfl, rfl, rfl, nd, rfl, by decide +kernel, by decide +kernel⟩ gx hb f_play fun cdv A outer s H E hr => ?_
  have tkf : Takes (cxOf (L2.CX P w) P w K mg base ["game", "row", "move"] "play" (defScope s_play) f cdv A outer s H E) (fun cls d _ H => E cls d H) := takes_of rfl rfl rfl rfl
  exact dss_cons (ds_expr (de_call (d_check_game hT) (hr.mono (by decide)) tkf (da_cons (de_name 0) (da_nil)))) (dss_cons (ds_expr (de_call (d_check_row hT) (hr.mono (by decide)) tkf (da_cons (de_name 0) (da_cons (de_name 1) (da_nil))))) (dss_cons (ds_if (dt_not (dt_val (de_call (d_is_move hT) (hr.mono (by decide)) tkf (da_cons (de_name 0) (da_cons (de_name 2) (da_nil)))))) (dss_one (ds_raiseX 3 rfl tkf hT.x_InvalidMove)) (dss_nil)) (dss_one (ds_ret (de_call (d_turned hT) (hr.mono (by decide)) tkf (da_cons (de_name 1) (da_cons (de_call (d_turned_places hT) (hr.mono (by decide)) tkf (da_cons (de_name 0) (da_cons (de_name 2) (da_nil)))) (da_nil))))))))
theorem d_steps_from (hT : Tx K mg κ) : FnD P w K mg base κ "steps_from" 2 2 m_steps_from := by
  obtain ⟨f, fd, Ff, gx, hb⟩ := hT.f_steps_from
  have nd : (["game", "row", "effects", "move", "steps", "line", "later", "here", "some", "after"] : List Str).Nodup := by decide +kernel
  refine fnD_of (N := ["game", "row", "effects", "move", "steps", "line", "later", "here", "some", "after"]) (ps := ["game", "row"]) Ff ⟨rfl, rfl, rfl, nd, rfl, by decide +kernel, by decide +kernel⟩ gx hb f_steps_from fun cdv A outer s H E hr => ?_
  have tkf : Takes (cxOf (L2.CX P w) P w K mg base ["game", "row", "effects", "move", "steps", "line", "later", "here", "some", "after"] "steps_from" (defScope s_steps_from) f cdv A outer s H E) (fun cls d _ H => E cls d H) := takes_of rfl rfl rfl rfl
  exact dss_cons (ds_setLc 2 (own := [((PySem.Str.ofString "move"), 3)]) rfl nd (di_seq hT.hK.symm (de_call (d_move_list hT) (hr.mono (by decide)) tkf (da_cons (de_name 0) (da_nil)))) (by rfl) (fun _ _ _ _ _ => dg_name 3 nd) (fun _ _ _ _ _ => dpts_nil) (fun _ _ _ _ _ => de_call (d_turned_places hT) (hr.mono (by decide)) takes0 (da_cons (de_name 0) (da_cons (de_name 3) (da_nil))))) (dss_cons (ds_par2 4 5 rfl nd (de_dic1 (de_name 1) (de_int)) (de_lst (da_cons (de_name 1) (da_nil)))) (dss_cons (ds_while (passes_of rfl) (dt_cmp (od_ne (u64 hr)) (de_name 5) (de_lst (da_nil))) (dss_cons (ds_set 6 nd (de_lst (da_nil))) (dss_cons (ds_for (passes_of rfl) rfl (di_seq hT.hK.symm (de_name 5)) (dg_name 7 nd) (dss_one (ds_for (passes_of rfl) rfl (di_seq hT.hK.symm (de_name 2)) (dg_name 8 nd) (dss_cons (ds_set 9 nd (de_call (d_turned hT) (hr.mono (by decide)) tkf (da_cons (de_name 7) (da_cons (de_name 8) (da_nil))))) (dss_one (ds_if (dt_dnotin 4 (u1 hr) (de_name 9)) (dss_cons (ds_dput 4 (u1 hr) (de_name 9) (de_bin od_add (de_dget 4 (u1 hr) (de_name 7)) (de_int))) (dss_one (ds_expr (de_app 6 (de_name 9))))) (dss_nil))))))) (dss_one (ds_set 5 nd (de_name 6)))))) (dss_one (ds_ret (de_move 4)))))
theorem d_in_reach (hT : Tx K mg κ) : FnD P w K mg base κ "in_reach" 4 2 m_in_reach := by
  obtain ⟨f, fd, Ff, gx, hb⟩ := hT.f_in_reach
  have nd : (["game", "row"] : List Str).Nodup := by decide +kernel
  refine fnD_of (N := ["game", "row"]) (ps := ["game", "row"]) Ff ⟨rfl, rfl, rfl, nd, rfl, by decide +kernel, by decide +kernel⟩ gx hb f_in_reach fun cdv A outer s H E hr => ?_
  have tkf : Takes (cxOf (L2.CX P w) P w K mg base ["game", "row"] "in_reach" (defScope s_in_reach) f cdv A outer s H E) (fun cls d _ H => E cls d H) := takes_of rfl rfl rfl rfl
  exact dss_cons (ds_expr (de_call (d_check_game hT) (hr.mono (by decide)) tkf (da_cons (de_name 0) (da_nil)))) (dss_cons (ds_expr (de_call (d_check_row hT) (hr.mono (by decide)) tkf (da_cons (de_name 0) (da_cons (de_name 1) (da_nil))))) (dss_one (ds_ret (de_sortDicR rfl (u100 hr) hT.b_sorted (de_call (d_steps_from hT) (hr.mono (by decide)) tkf (da_cons (de_name 0) (da_cons (de_name 1) (da_nil))))))))
theorem d_steps_between (hT : Tx K mg κ) : FnD P w K mg base κ "steps_between" 5 3 m_steps_between := by
  obtain ⟨f, fd, Ff, gx, hb⟩ := hT.f_steps_between
  have nd : (["game", "one", "other", "steps"] : List Str).Nodup := by decide +kernel
  refine fnD_of (N := ["game", "one", "other", "steps"]) (ps := ["game", "one", "other"]) Ff ⟨rfl, rfl, rfl, nd, rfl, by decide +kernel, by decide +kernel⟩ gx hb f_steps_between fun cdv A outer s H E hr => ?_
  have tkf : Takes (cxOf (L2.CX P w) P w K mg base ["game", "one", "other", "steps"] "steps_between" (defScope s_steps_between) f cdv A outer s H E) (fun cls d _ H => E cls d H) := takes_of rfl rfl rfl rfl
  exact dss_cons (ds_expr (de_call (d_check_rows hT) (hr.mono (by decide)) tkf (da_cons (de_name 0) (da_cons (de_name 1) (da_cons (de_name 2) (da_nil)))))) (dss_cons (ds_set 3 nd (de_call (d_steps_from hT) (hr.mono (by decide)) tkf (da_cons (de_name 0) (da_cons (de_name 2) (da_nil))))) (dss_cons (ds_if (dt_dnotin 3 (u1 hr) (de_name 1)) (dss_one (ds_raiseX 4 rfl tkf hT.x_OutOfReach)) (dss_nil)) (dss_one (ds_ret (de_move 3)))))
theorem d_distance (hT : Tx K mg κ) : FnD P w K mg base κ "distance" 6 3 m_distance := by
  obtain ⟨f, fd, Ff, gx, hb⟩ := hT.f_distance
  have nd : (["game", "one", "other"] : List Str).Nodup := by decide +kernel
  refine fnD_of (N := ["game", "one", "other"]) (ps := ["game", "one", "other"]) Ff ⟨rfl, rfl, rfl, nd, rfl, by decide +kernel, by decide +kernel⟩ gx hb f_distance fun cdv A outer s H E hr => ?_
  have tkf : Takes (cxOf (L2.CX P w) P w K mg base ["game", "one", "other"] "distance" (defScope s_distance) f cdv A outer s H E) (fun cls d _ H => E cls d H) := takes_of rfl rfl rfl rfl
  exact dss_one (ds_ret (de_dgetR (u1 hr) (de_call (d_steps_between hT) (hr.mono (by decide)) tkf (da_cons (de_name 0) (da_cons (de_name 1) (da_cons (de_name 2) (da_nil))))) (de_name 1)))
theorem d_solve (hT : Tx K mg κ) : FnD P w K mg base κ "solve" 6 3 m_solve := by
  obtain ⟨f, fd, Ff, gx, hb⟩ := hT.f_solve
  have nd : (["game", "one", "other", "steps", "found", "move", "after"] : List Str).Nodup := by decide +kernel
  refine fnD_of (N := ["game", "one", "other", "steps", "found", "move", "after"]) (ps := ["game", "one", "other"]) Ff ⟨rfl, rfl, rfl, nd, rfl, by decide +kernel, by decide +kernel⟩ gx hb f_solve fun cdv A outer s H E hr => ?_
  have tkf : Takes (cxOf (L2.CX P w) P w K mg base ["game", "one", "other", "steps", "found", "move", "after"] "solve" (defScope s_solve) f cdv A outer s H E) (fun cls d _ H => E cls d H) := takes_of rfl rfl rfl rfl
  exact dss_cons (ds_par2 3 4 rfl nd (de_call (d_steps_between hT) (hr.mono (by decide)) tkf (da_cons (de_name 0) (da_cons (de_name 1) (da_cons (de_name 2) (da_nil))))) (de_lst (da_nil))) (dss_cons (ds_while (passes_of rfl) (dt_cmp (od_ne (u64 hr)) (de_name 1) (de_name 2)) (dss_one (ds_for (passes_of rfl) rfl (di_seq hT.hK.symm (de_call (d_move_list hT) (hr.mono (by decide)) tkf (da_cons (de_name 0) (da_nil)))) (dg_name 5 nd) (dss_cons (ds_set 6 nd (de_call (d_turned hT) (hr.mono (by decide)) tkf (da_cons (de_name 1) (da_cons (de_call (d_turned_places hT) (hr.mono (by decide)) tkf (da_cons (de_name 0) (da_cons (de_name 5) (da_nil)))) (da_nil))))) (dss_one (ds_if (dt_cmp od_lt (de_dget 3 (u1 hr) (de_name 6)) (de_dget 3 (u1 hr) (de_name 1))) (dss_cons (ds_expr (de_app 4 (de_name 5))) (dss_cons (ds_set 1 nd (de_name 6)) (dss_one (ds_break)))) (dss_nil))))))) (dss_one (ds_ret (de_move 4))))
theorem d_sweep (hT : Tx K mg κ) : FnD P w K mg base κ "sweep" 4 3 m_sweep := by
  obtain ⟨f, fd, Ff, gx, hb⟩ := hT.f_sweep
  have nd : (["game", "one", "other", "found", "move"] : List Str).Nodup := by decide +kernel
  refine fnD_of (N := ["game", "one", "other", "found", "move"]) (ps := ["game", "one", "other"]) Ff ⟨rfl, rfl, rfl, nd, rfl, by decide +kernel, by decide +kernel⟩ gx hb f_sweep fun cdv A outer s H E hr => ?_
  have tkf : Takes (cxOf (L2.CX P w) P w K mg base ["game", "one", "other", "found", "move"] "sweep" (defScope s_sweep) f cdv A outer s H E) (fun cls d _ H => E cls d H) := takes_of rfl rfl rfl rfl
  exact dss_cons (ds_expr (de_call (d_check_game hT) (hr.mono (by decide)) tkf (da_cons (de_name 0) (da_nil)))) (dss_cons (ds_if (dt_val (de_ixN 0 (de_int))) (dss_one (ds_raiseX 5 rfl tkf hT.x_OnRing)) (dss_nil)) (dss_cons (ds_if (dt_cmp od_gt (de_callB cd_len hT.b_len (da_cons (de_ixN 0 (de_int)) (da_nil))) (de_int)) (dss_one (ds_raiseX 6 rfl tkf hT.x_SeveralShapes)) (dss_nil)) (dss_cons (ds_expr (de_call (d_check_row hT) (hr.mono (by decide)) tkf (da_cons (de_name 0) (da_cons (de_name 1) (da_nil))))) (dss_cons (ds_expr (de_call (d_check_row hT) (hr.mono (by decide)) tkf (da_cons (de_name 0) (da_cons (de_name 2) (da_nil))))) (dss_cons (ds_set 3 nd (de_lst (da_nil))) (dss_cons (ds_for (passes_of rfl) rfl (di_seq hT.hK.symm (de_call (d_move_list hT) (hr.mono (by decide)) tkf (da_cons (de_name 0) (da_nil)))) (dg_name 4 nd) (dss_one (ds_if (dt_cmp (od_ne (u64 hr)) (de_ixN 1 (de_ixN 4 (de_int))) (de_ixN 2 (de_ixN 4 (de_int)))) (dss_cons (ds_set 1 nd (de_call (d_turned hT) (hr.mono (by decide)) tkf (da_cons (de_name 1) (da_cons (de_call (d_turned_places hT) (hr.mono (by decide)) tkf (da_cons (de_name 0) (da_cons (de_name 4) (da_nil)))) (da_nil))))) (dss_one (ds_expr (de_app 3 (de_name 4))))) (dss_nil)))) (dss_cons (ds_if (dt_cmp (od_ne (u64 hr)) (de_name 1) (de_name 2)) (dss_one (ds_raiseX 4 rfl tkf hT.x_OutOfReach)) (dss_nil)) (dss_one (ds_ret (de_move 3))))))))))
theorem d_farthest (hT : Tx K mg κ) : FnD P w K mg base κ "farthest" 4 2 m_farthest := by
  obtain ⟨f, fd, Ff, gx, hb⟩ := hT.f_farthest
  have nd : (["game", "row", "steps", "most", "other"] : List Str).Nodup := by decide +kernel
  refine fnD_of (N := ["game", "row", "steps", "most", "other"]) (ps := ["game", "row"]) Ff ⟨rfl, rfl, rfl, nd, rfl, by decide +kernel, by decide +kernel⟩ gx hb f_farthest fun cdv A outer s H E hr => ?_
  have tkf : Takes (cxOf (L2.CX P w) P w K mg base ["game", "row", "steps", "most", "other"] "farthest" (defScope s_farthest) f cdv A outer s H E) (fun cls d _ H => E cls d H) := takes_of rfl rfl rfl rfl
  exact dss_cons (ds_expr (de_call (d_check_game hT) (hr.mono (by decide)) tkf (da_cons (de_name 0) (da_nil)))) (dss_cons (ds_expr (de_call (d_check_row hT) (hr.mono (by decide)) tkf (da_cons (de_name 0) (da_cons (de_name 1) (da_nil))))) (dss_cons (ds_set 2 nd (de_call (d_steps_from hT) (hr.mono (by decide)) tkf (da_cons (de_name 0) (da_cons (de_name 1) (da_nil))))) (dss_cons (ds_set 3 nd (de_callB (cd_max rfl) hT.b_max (da_cons (de_dvals 2 rfl hT.b_list) (da_nil)))) (dss_one (ds_ret (de_callB (cd_sort (u100 hr)) hT.b_sorted (da_cons (de_lock 2 (de_lc (own := [((PySem.Str.ofString "other"), 4)]) rfl nd (di_fz 2) (by rfl) (fun _ _ _ _ _ => dg_name 4 nd) (fun _ _ _ _ _ => dpts_one (dt_cmp (od_eq (u64 hr)) (de_dget 2 (u1 hr) (de_name 4)) (de_name 3))) (fun _ _ _ _ _ => de_name 4))) (da_nil))))))))
theorem d__law_cell_at (hT : Tx K mg κ) : FnD P w K mg base κ "_law_cell_at" 1 2 m__law_cell_at := by
  obtain ⟨f, fd, Ff, gx, hb⟩ := hT.f__law_cell_at
  have nd : (["_law_script", "_law_k", "_law_spare", "_law_again"] : List Str).Nodup := by decide +kernel
  refine fnD_of (N := ["_law_script", "_law_k", "_law_spare", "_law_again"]) (ps := ["_law_script", "_law_k"]) Ff ⟨rfl, rfl, rfl, nd, rfl, by decide +kernel, by decide +kernel⟩ gx hb f__law_cell_at fun cdv A outer s H E hr => ?_
  have tkf : Takes (cxOf (L2.CX P w) P w K mg base ["_law_script", "_law_k", "_law_spare", "_law_again"] "_law_cell_at" (defScope s__law_cell_at) f cdv A outer s H E) (fun cls d _ H => E cls d H) := takes_of rfl rfl rfl rfl
  exact dss_cons (ds_if (dt_cmp od_lt (de_name 1) (de_lenSc 0 hT.hK.symm hT.b_len)) (dss_one (ds_ret (de_ixSc 0 hT.hK.symm (de_name 1)))) (dss_nil)) (dss_cons (ds_if (dt_scNil 0 hT.hK.symm (u64 hr)) (dss_one (ds_ret (de_int))) (dss_nil)) (dss_cons (ds_set 2 nd (de_ixSc 0 hT.hK.symm (de_bin od_mod (de_name 1) (de_lenSc 0 hT.hK.symm hT.b_len)))) (dss_cons (ds_for (passes_of rfl) rfl (di_range1 hT.b_range (de_callB (cd_min rfl) hT.b_min (da_cons (de_bin od_div (de_name 1) (de_lenSc 0 hT.hK.symm hT.b_len)) (da_cons (de_int) (da_nil))))) (dg_name 3 nd) (dss_one (ds_set 2 nd (de_bin od_div (de_name 2) (de_int))))) (dss_one (ds_ret (de_bin od_add (de_bin od_add (de_bin od_mul (de_ixSc 0 hT.hK.symm (de_bin od_mod (de_name 1) (de_lenSc 0 hT.hK.symm hT.b_len))) (de_int)) (de_name 1)) (de_bin od_mul (de_name 2) (de_int))))))))
theorem d__law_mixed (hT : Tx K mg κ) : FnD P w K mg base κ "_law_mixed" 2 3 m__law_mixed := by
  obtain ⟨f, fd, Ff, gx, hb⟩ := hT.f__law_mixed
  have nd : (["_law_script", "_law_k", "_law_many", "_law_spun"] : List Str).Nodup := by decide +kernel
  refine fnD_of (N := ["_law_script", "_law_k", "_law_many", "_law_spun"]) (ps := ["_law_script", "_law_k", "_law_many"]) Ff ⟨rfl, rfl, rfl, nd, rfl, by decide +kernel, by decide +kernel⟩ gx hb f__law_mixed fun cdv A outer s H E hr => ?_
  have tkf : Takes (cxOf (L2.CX P w) P w K mg base ["_law_script", "_law_k", "_law_many", "_law_spun"] "_law_mixed" (defScope s__law_mixed) f cdv A outer s H E) (fun cls d _ H => E cls d H) := takes_of rfl rfl rfl rfl
  exact dss_cons (ds_set 3 nd (de_bin od_mod (de_bin od_add (de_bin od_add (de_bin od_mul (de_call (d__law_cell_at hT) (hr.mono (by decide)) tkf (da_cons (de_name 0) (da_cons (de_name 1) (da_nil)))) (de_int)) (de_bin od_mul (de_int) (de_name 1))) (de_int)) (de_int))) (dss_one (ds_ret (de_bin od_mod (de_bin od_mod (de_bin od_mod (de_bin od_pow (de_name 3) (de_int)) (de_int)) (de_int)) (de_name 2))))
theorem d__law_draw (hT : Tx K mg κ) : FnD P w K mg base κ "_law_draw" 3 3 m__law_draw := by
  obtain ⟨f, fd, Ff, gx, hb⟩ := hT.f__law_draw
  have nd : (["_law_script", "_law_town", "_law_many"] : List Str).Nodup := by decide +kernel
  refine fnD_of (N := ["_law_script", "_law_town", "_law_many"]) (ps := ["_law_script", "_law_town", "_law_many"]) Ff ⟨rfl, rfl, rfl, nd, rfl, by decide +kernel, by decide +kernel⟩ gx hb f__law_draw fun cdv A outer s H E hr => ?_
  have tkf : Takes (cxOf (L2.CX P w) P w K mg base ["_law_script", "_law_town", "_law_many"] "_law_draw" (defScope s__law_draw) f cdv A outer s H E) (fun cls d _ H => E cls d H) := takes_of rfl rfl rfl rfl
  exact dss_cons (ds_expr (de_appTn 1)) (dss_one (ds_ret (de_call (d__law_mixed hT) (hr.mono (by decide)) tkf (da_cons (de_name 0) (da_cons (de_lenN 1 hT.b_len) (da_cons (de_name 2) (da_nil)))))))
theorem d__law_pick (hT : Tx K mg κ) : FnD P w K mg base κ "_law_pick" 4 3 m__law_pick := by
  obtain ⟨f, fd, Ff, gx, hb⟩ := hT.f__law_pick
  have nd : (["_law_script", "_law_town", "_law_some"] : List Str).Nodup := by decide +kernel
  refine fnD_of (N := ["_law_script", "_law_town", "_law_some"]) (ps := ["_law_script", "_law_town", "_law_some"]) Ff ⟨rfl, rfl, rfl, nd, rfl, by decide +kernel, by decide +kernel⟩ gx hb f__law_pick fun cdv A outer s H E hr => ?_
  have tkf : Takes (cxOf (L2.CX P w) P w K mg base ["_law_script", "_law_town", "_law_some"] "_law_pick" (defScope s__law_pick) f cdv A outer s H E) (fun cls d _ H => E cls d H) := takes_of rfl rfl rfl rfl
  exact dss_one (ds_ret (de_ixN 2 (de_call (d__law_draw hT) (hr.mono (by decide)) tkf (da_cons (de_name 0) (da_cons (de_name 1) (da_cons (de_lenN 2 hT.b_len) (da_nil)))))))
theorem d__law_some_shape (hT : Tx K mg κ) : FnD P w K mg base κ "_law_some_shape" 5 3 m__law_some_shape := by
  obtain ⟨f, fd, Ff, gx, hb⟩ := hT.f__law_some_shape
  have nd : (["_law_script", "_law_town", "_law_most", "_law_size", "_law_again"] : List Str).Nodup := by decide +kernel
  refine fnD_of (N := ["_law_script", "_law_town", "_law_most", "_law_size", "_law_again"]) (ps := ["_law_script", "_law_town", "_law_most"]) Ff ⟨rfl, rfl, rfl, nd, rfl, by decide +kernel, by decide +kernel⟩ gx hb f__law_some_shape fun cdv A outer s H E hr => ?_
  have tkf : Takes (cxOf (L2.CX P w) P w K mg base ["_law_script", "_law_town", "_law_most", "_law_size", "_law_again"] "_law_some_shape" (defScope s__law_some_shape) f cdv A outer s H E) (fun cls d _ H => E cls d H) := takes_of rfl rfl rfl rfl
  exact dss_cons (ds_set 3 nd (de_bin od_add (de_int) (de_call (d__law_draw hT) (hr.mono (by decide)) tkf (da_cons (de_name 0) (da_cons (de_name 1) (da_cons (de_name 2) (da_nil))))))) (dss_cons (ds_if (dt_cmp (od_eq (u64 hr)) (de_name 3) (de_int)) (dss_one (ds_ret (de_str))) (dss_nil)) (dss_one (ds_ret (de_bin od_add (de_bin od_add (de_str) (de_mt md_join PySem.F.plainAttrs_str PySem.F.slot_str_join PySem.F.type_str_join (de_str) (da_cons (de_lc (own := [((PySem.Str.ofString "_law_again"), 4)]) rfl nd (di_range1 hT.b_range (de_bin od_sub (de_name 3) (de_int))) (by rfl) (fun _ _ _ _ _ => dg_name 4 nd) (fun _ _ _ _ _ => dpts_nil) (fun _ _ _ _ _ => de_call (d__law_pick hT) (hr.mono (by decide)) takes0 (da_cons (de_name 0) (da_cons (de_name 1) (da_cons (de_lst (da_cons (de_str) (da_cons (de_str) (da_nil)))) (da_nil)))))) (da_nil)))) (de_str)))))
theorem d__law_some_coins (hT : Tx K mg κ) : FnD P w K mg base κ "_law_some_coins" 5 3 m__law_some_coins := by
  obtain ⟨f, fd, Ff, gx, hb⟩ := hT.f__law_some_coins
  have nd : (["_law_script", "_law_town", "_law_own", "_law_again"] : List Str).Nodup := by decide +kernel
  refine fnD_of (N := ["_law_script", "_law_town", "_law_own", "_law_again"]) (ps := ["_law_script", "_law_town", "_law_own"]) Ff ⟨rfl, rfl, rfl, nd, rfl, by decide +kernel, by decide +kernel⟩ gx hb f__law_some_coins fun cdv A outer s H E hr => ?_
  have tkf : Takes (cxOf (L2.CX P w) P w K mg base ["_law_script", "_law_town", "_law_own", "_law_again"] "_law_some_coins" (defScope s__law_some_coins) f cdv A outer s H E) (fun cls d _ H => E cls d H) := takes_of rfl rfl rfl rfl
  exact dss_one (ds_ret (de_mt md_join PySem.F.plainAttrs_str PySem.F.slot_str_join PySem.F.type_str_join (de_str) (da_cons (de_lc (own := [((PySem.Str.ofString "_law_again"), 3)]) rfl nd (di_range1 hT.b_range (de_ixN 2 (de_int))) (by rfl) (fun _ _ _ _ _ => dg_name 3 nd) (fun _ _ _ _ _ => dpts_nil) (fun _ _ _ _ _ => de_call (d__law_pick hT) (hr.mono (by decide)) takes0 (da_cons (de_name 0) (da_cons (de_name 1) (da_cons (de_lst (da_cons (de_str) (da_cons (de_str) (da_nil)))) (da_nil)))))) (da_nil))))
theorem d_law (hT : Tx K mg κ) {f : Addr} {fd : FuncData} (Ff : Fun K "law" "law" s_law f fd) : FnOk P w K mg base (L2.CX P w) 7 f fd ["_law_script"] (spOf κ 1 m_law) := by
  have nd : (["_law_script", "_law_town", "_law_length", "_law_own", "_law_one", "_law_some", "_law_other", "_law_third", "_law_first", "_law_second", "_law_here", "_law_move", "_law_both", "_law_far"] : List Str).Nodup := by decide +kernel
  refine fnOk_of (N := ["_law_script", "_law_town", "_law_length", "_law_own", "_law_one", "_law_some", "_law_other", "_law_third", "_law_first", "_law_second", "_law_here", "_law_move", "_law_both", "_law_far"]) (ps := ["_law_script"]) Ff ⟨rfl, rfl, rfl, nd, rfl, by decide +kernel, by decide +kernel⟩ f_law fun cdv A outer s H E hr => ?_
  have tkf : Takes (cxOf (L2.CX P w) P w K mg base ["_law_script", "_law_town", "_law_length", "_law_own", "_law_one", "_law_some", "_law_other", "_law_third", "_law_first", "_law_second", "_law_here", "_law_move", "_law_both", "_law_far"] "law" (defScope s_law) f cdv A outer s H E) (fun cls d _ H => E cls d H) := takes_of rfl rfl rfl rfl
  exact dss_cons (ds_town 1 nd) (dss_cons (ds_set 2 nd (de_bin od_add (de_int) (de_call (d__law_draw hT) (hr.mono (by decide)) tkf (da_cons (de_name 0) (da_cons (de_name 1) (da_cons (de_int) (da_nil))))))) (dss_cons (ds_set 3 nd (de_tup (da_cons (de_name 2) (da_cons (de_tup (da_cons (de_call (d__law_some_shape hT) (hr.mono (by decide)) tkf (da_cons (de_name 0) (da_cons (de_name 1) (da_cons (de_name 2) (da_nil))))) (da_nil))) (da_cons (de_bl) (da_nil)))))) (dss_cons (ds_set 4 nd (de_call (d__law_some_coins hT) (hr.mono (by decide)) tkf (da_cons (de_name 0) (da_cons (de_name 1) (da_cons (de_name 3) (da_nil)))))) (dss_cons (ds_set 5 nd (de_call (d_in_reach hT) (hr.mono (by decide)) tkf (da_cons (de_name 3) (da_cons (de_name 4) (da_nil))))) (dss_cons (ds_par2 6 7 rfl nd (de_call (d__law_pick hT) (hr.mono (by decide)) tkf (da_cons (de_name 0) (da_cons (de_name 1) (da_cons (de_name 5) (da_nil))))) (de_call (d__law_pick hT) (hr.mono (by decide)) tkf (da_cons (de_name 0) (da_cons (de_name 1) (da_cons (de_name 5) (da_nil)))))) (dss_cons (ds_par2C 8 9 rfl nd (de_call (d_sweep hT) (hr.mono (by decide)) tkf (da_cons (de_name 3) (da_cons (de_name 4) (da_cons (de_name 6) (da_nil))))) (de_call (d_sweep hT) (hr.mono (by decide)) tkf (da_cons (de_name 3) (da_cons (de_name 6) (da_cons (de_name 7) (da_nil)))))) (dss_cons (ds_set 10 nd (de_name 4)) (dss_cons (ds_for (passes_of rfl) rfl (di_seq hT.hK.symm (de_rev (de_name 8))) (dg_name 11 nd) (dss_one (ds_set 10 nd (de_call (d_play hT) (hr.mono (by decide)) tkf (da_cons (de_name 3) (da_cons (de_name 10) (da_cons (de_name 11) (da_nil)))))))) (dss_cons (ds_if ((dw_or (dt_cmp (od_ne (u64 hr)) (de_name 10) (de_name 6)) (dw_or (dt_cmp (od_ne (u64 hr)) (de_name 8) (de_sortSetP rfl (u100 hr) hT.b_sorted hT.b_set (de_name 8))) (dw_or1 (dt_cmp (od_ne (u64 hr)) (de_lenN 8 hT.b_len) (de_call (d_distance hT) (hr.mono (by decide)) tkf (da_cons (de_name 3) (da_cons (de_name 4) (da_cons (de_name 6) (da_nil))))))))).pt) (dss_one (ds_ret (de_bl))) (dss_nil)) (dss_cons (ds_if (dt_cmp (od_ne (u64 hr)) (de_call (d_sweep hT) (hr.mono (by decide)) tkf (da_cons (de_name 3) (da_cons (de_name 6) (da_cons (de_name 4) (da_nil))))) (de_name 8)) (dss_one (ds_ret (de_bl))) (dss_nil)) (dss_cons (ds_if ((dw_or (dt_cmp (od_ne (u64 hr)) (de_call (d_solve hT) (hr.mono (by decide)) tkf (da_cons (de_name 3) (da_cons (de_name 4) (da_cons (de_name 6) (da_nil))))) (de_name 8)) (dw_or1 (dt_cmp (od_ne (u64 hr)) (de_call (d_sweep hT) (hr.mono (by decide)) tkf (da_cons (de_name 3) (da_cons (de_name 4) (da_cons (de_name 4) (da_nil))))) (de_lst (da_nil))))).pt) (dss_one (ds_ret (de_bl))) (dss_nil)) (dss_cons (ds_set 12 nd (de_callB (cd_sort (u100 hr)) hT.b_sorted (da_cons (de_bin od_add (de_lc (own := [((PySem.Str.ofString "_law_move"), 11)]) rfl nd (di_seq hT.hK.symm (de_name 8)) (by rfl) (fun _ _ _ _ _ => dg_name 11 nd) (fun _ _ _ _ _ => dpts_one (dt_cmp (od_notIn (u65 hr)) (de_name 11) (de_name 9))) (fun _ _ _ _ _ => de_name 11)) (de_lc (own := [((PySem.Str.ofString "_law_move"), 11)]) rfl nd (di_seq hT.hK.symm (de_name 9)) (by rfl) (fun _ _ _ _ _ => dg_name 11 nd) (fun _ _ _ _ _ => dpts_one (dt_cmp (od_notIn (u65 hr)) (de_name 11) (de_name 8))) (fun _ _ _ _ _ => de_name 11))) (da_nil)))) (dss_cons (ds_if (dt_cmp (od_ne (u64 hr)) (de_call (d_sweep hT) (hr.mono (by decide)) tkf (da_cons (de_name 3) (da_cons (de_name 4) (da_cons (de_name 7) (da_nil))))) (de_name 12)) (dss_one (ds_ret (de_bl))) (dss_nil)) (dss_cons (ds_set 13 nd (de_call (d_farthest hT) (hr.mono (by decide)) tkf (da_cons (de_name 3) (da_cons (de_name 4) (da_nil))))) (dss_one (ds_ret (de_and (de_cmp (od_eq (u64 hr)) (de_lenN 13 hT.b_len) (de_int)) (de_one (de_cmp (od_eq (u64 hr)) (de_callB cd_len hT.b_len (da_cons (de_call (d_sweep hT) (hr.mono (by decide)) tkf (da_cons (de_name 3) (da_cons (de_name 4) (da_cons (de_ixN 13 (de_int)) (da_nil))))) (da_nil))) (de_bin od_add (de_bin od_sub (de_name 2) (de_callB cd_len hT.b_len (da_cons (de_ix (de_ixN 3 (de_int)) (de_int)) (da_nil)))) (de_int)))))))))))))))))))))
end
theorem ec_mg {K : PySem.W.Frag} {h : Heap} {mg : Str → Option Value} {C : Addr} (c : Nat) (X : K.In h) (G : h.Ns mainGlobals mg) (a : PySem.W.nsIn K mainGlobals (excNm c) = some (some (.ref C))) : mg (excNm c) = some (.ref ((kOf K).ec c)) := by
  rw [show (kOf K).ec c = C from adr_of a]
  exact PySem.W.mg_of X G a
theorem tx_mk {K : PySem.W.Frag} {h : Heap} {mg : Str → Option Value} {C0 C1 C3 C4 C5 C6 f10 f11 f12 f13 f14 f15 f16 f17 f18 f19 f20 f21 f23 f24 f26 f27 f28 f29 f30 f32 f33 f34 f35 f36 f37 f38 : Addr} {tM : Tok} {oc10 kV10 dc10 pm10 cd10 ct10 oc11 kV11 dc11 pm11 cd11 ct11 oc12 kV12 dc12 pm12 cd12 ct12 oc13 kV13 dc13 pm13 cd13 ct13 oc14 kV14 dc14 pm14 cd14 ct14 oc15 kV15 dc15 pm15 cd15 ct15 oc16 kV16 dc16 pm16 cd16 ct16 oc17 kV17 dc17 pm17 cd17 ct17 oc18 kV18 dc18 pm18 cd18 ct18 oc19 kV19 dc19 pm19 cd19 ct19 oc20 kV20 dc20 pm20 cd20 ct20 oc21 kV21 dc21 pm21 cd21 ct21 oc23 kV23 dc23 pm23 cd23 ct23 oc24 kV24 dc24 pm24 cd24 ct24 oc26 kV26 dc26 pm26 cd26 ct26 oc27 kV27 dc27 pm27 cd27 ct27 oc28 kV28 dc28 pm28 cd28 ct28 oc29 kV29 dc29 pm29 cd29 ct29 oc30 kV30 dc30 pm30 cd30 ct30 oc32 kV32 dc32 pm32 cd32 ct32 oc33 kV33 dc33 pm33 cd33 ct33 oc34 kV34 dc34 pm34 cd34 ct34 oc35 kV35 dc35 pm35 cd35 ct35 oc36 kV36 dc36 pm36 cd36 ct36 oc37 kV37 dc37 pm37 cd37 ct37 oc38 kV38 dc38 pm38 cd38 ct38 : Value} {od10 an10 od11 an11 od12 an12 od13 an13 od14 an14 od15 an15 od16 an16 od17 an17 od18 an18 od19 an19 od20 an20 od21 an21 od23 an23 od24 an24 od26 an26 od27 an27 od28 an28 od29 an29 od30 an30 od32 an32 od33 an33 od34 an34 od35 an35 od36 an36 od37 an37 od38 an38 : Option Addr} {sl10 sl11 sl12 sl13 sl14 sl15 sl16 sl17 sl18 sl19 sl20 sl21 sl23 sl24 sl26 sl27 sl28 sl29 sl30 sl32 sl33 sl34 sl35 sl36 sl37 sl38 : Array (Option Value)} (X : K.In h) (G : h.Ns mainGlobals mg)
    (z_all : PySem.W.nsIn K mainGlobals "all" = some none)
    (z_bool : PySem.W.nsIn K mainGlobals "bool" = some none)
    (z_enumerate : PySem.W.nsIn K mainGlobals "enumerate" = some none)
    (z_int : PySem.W.nsIn K mainGlobals "int" = some none)
    (z_isinstance : PySem.W.nsIn K mainGlobals "isinstance" = some none)
    (z_len : PySem.W.nsIn K mainGlobals "len" = some none)
    (z_list : PySem.W.nsIn K mainGlobals "list" = some none)
    (z_max : PySem.W.nsIn K mainGlobals "max" = some none)
    (z_min : PySem.W.nsIn K mainGlobals "min" = some none)
    (z_range : PySem.W.nsIn K mainGlobals "range" = some none)
    (z_set : PySem.W.nsIn K mainGlobals "set" = some none)
    (z_sorted : PySem.W.nsIn K mainGlobals "sorted" = some none)
    (z_str : PySem.W.nsIn K mainGlobals "str" = some none)
    (z_tuple : PySem.W.nsIn K mainGlobals "tuple" = some none)
    (z_zip : PySem.W.nsIn K mainGlobals "zip" = some none)
    (z_MOST : PySem.W.nsIn K mainGlobals "MOST" = some (some (.int 8 tM)))
    (n_0 : PySem.W.nsIn K mainGlobals "InvalidGame" = some (some (.ref C0)))
    (k_0 : PySem.W.keepIn K (.ref C0) = true)
    (e_0 : PySem.W.excIn K C0 [.type "ValueError", .type "Exception", .type "BaseException", .type "object"] "ValueError.__new__" = true)
    (s_0 : PySem.W.subIn K (.ref C0) (.type "BaseException") = some true)
    (t_0 : PySem.W.typeIn K (.ref C0) = some (.type "type"))
    (n_1 : PySem.W.nsIn K mainGlobals "InvalidRow" = some (some (.ref C1)))
    (k_1 : PySem.W.keepIn K (.ref C1) = true)
    (e_1 : PySem.W.excIn K C1 [.type "ValueError", .type "Exception", .type "BaseException", .type "object"] "ValueError.__new__" = true)
    (s_1 : PySem.W.subIn K (.ref C1) (.type "BaseException") = some true)
    (t_1 : PySem.W.typeIn K (.ref C1) = some (.type "type"))
    (n_3 : PySem.W.nsIn K mainGlobals "InvalidMove" = some (some (.ref C3)))
    (k_3 : PySem.W.keepIn K (.ref C3) = true)
    (e_3 : PySem.W.excIn K C3 [.type "ValueError", .type "Exception", .type "BaseException", .type "object"] "ValueError.__new__" = true)
    (s_3 : PySem.W.subIn K (.ref C3) (.type "BaseException") = some true)
    (t_3 : PySem.W.typeIn K (.ref C3) = some (.type "type"))
    (n_4 : PySem.W.nsIn K mainGlobals "OutOfReach" = some (some (.ref C4)))
    (k_4 : PySem.W.keepIn K (.ref C4) = true)
    (e_4 : PySem.W.excIn K C4 [.type "ValueError", .type "Exception", .type "BaseException", .type "object"] "ValueError.__new__" = true)
    (s_4 : PySem.W.subIn K (.ref C4) (.type "BaseException") = some true)
    (t_4 : PySem.W.typeIn K (.ref C4) = some (.type "type"))
    (n_5 : PySem.W.nsIn K mainGlobals "OnRing" = some (some (.ref C5)))
    (k_5 : PySem.W.keepIn K (.ref C5) = true)
    (e_5 : PySem.W.excIn K C5 [.type "ValueError", .type "Exception", .type "BaseException", .type "object"] "ValueError.__new__" = true)
    (s_5 : PySem.W.subIn K (.ref C5) (.type "BaseException") = some true)
    (t_5 : PySem.W.typeIn K (.ref C5) = some (.type "type"))
    (n_6 : PySem.W.nsIn K mainGlobals "SeveralShapes" = some (some (.ref C6)))
    (k_6 : PySem.W.keepIn K (.ref C6) = true)
    (e_6 : PySem.W.excIn K C6 [.type "ValueError", .type "Exception", .type "BaseException", .type "object"] "ValueError.__new__" = true)
    (s_6 : PySem.W.subIn K (.ref C6) (.type "BaseException") = some true)
    (t_6 : PySem.W.typeIn K (.ref C6) = some (.type "type"))
    (a_10 : PySem.W.nsIn K mainGlobals "is_integer" = some (some (.ref f10)))
    (l_10 : K.lookup f10 = some ⟨oc10, od10, .func (PySem.W.fnOf "is_integer" "is_integer" (defArgs s_is_integer) (defBody s_is_integer) (defScope s_is_integer) .none kV10 dc10 pm10 an10 cd10 ct10), sl10⟩)
    (d_10 : PySem.W.codeIn K cd10 "is_integer" = true)
    (q_10 : PySem.W.keepIn K (.ref f10) = true)
    (a_11 : PySem.W.nsIn K mainGlobals "is_shape" = some (some (.ref f11)))
    (l_11 : K.lookup f11 = some ⟨oc11, od11, .func (PySem.W.fnOf "is_shape" "is_shape" (defArgs s_is_shape) (defBody s_is_shape) (defScope s_is_shape) .none kV11 dc11 pm11 an11 cd11 ct11), sl11⟩)
    (d_11 : PySem.W.codeIn K cd11 "is_shape" = true)
    (q_11 : PySem.W.keepIn K (.ref f11) = true)
    (a_12 : PySem.W.nsIn K mainGlobals "is_game" = some (some (.ref f12)))
    (l_12 : K.lookup f12 = some ⟨oc12, od12, .func (PySem.W.fnOf "is_game" "is_game" (defArgs s_is_game) (defBody s_is_game) (defScope s_is_game) .none kV12 dc12 pm12 an12 cd12 ct12), sl12⟩)
    (d_12 : PySem.W.codeIn K cd12 "is_game" = true)
    (q_12 : PySem.W.keepIn K (.ref f12) = true)
    (a_13 : PySem.W.nsIn K mainGlobals "check_game" = some (some (.ref f13)))
    (l_13 : K.lookup f13 = some ⟨oc13, od13, .func (PySem.W.fnOf "check_game" "check_game" (defArgs s_check_game) (defBody s_check_game) (defScope s_check_game) .none kV13 dc13 pm13 an13 cd13 ct13), sl13⟩)
    (d_13 : PySem.W.codeIn K cd13 "check_game" = true)
    (q_13 : PySem.W.keepIn K (.ref f13) = true)
    (a_14 : PySem.W.nsIn K mainGlobals "lies" = some (some (.ref f14)))
    (l_14 : K.lookup f14 = some ⟨oc14, od14, .func (PySem.W.fnOf "lies" "lies" (defArgs s_lies) (defBody s_lies) (defScope s_lies) .none kV14 dc14 pm14 an14 cd14 ct14), sl14⟩)
    (d_14 : PySem.W.codeIn K cd14 "lies" = true)
    (q_14 : PySem.W.keepIn K (.ref f14) = true)
    (a_15 : PySem.W.nsIn K mainGlobals "check_row" = some (some (.ref f15)))
    (l_15 : K.lookup f15 = some ⟨oc15, od15, .func (PySem.W.fnOf "check_row" "check_row" (defArgs s_check_row) (defBody s_check_row) (defScope s_check_row) .none kV15 dc15 pm15 an15 cd15 ct15), sl15⟩)
    (d_15 : PySem.W.codeIn K cd15 "check_row" = true)
    (q_15 : PySem.W.keepIn K (.ref f15) = true)
    (a_16 : PySem.W.nsIn K mainGlobals "check_rows" = some (some (.ref f16)))
    (l_16 : K.lookup f16 = some ⟨oc16, od16, .func (PySem.W.fnOf "check_rows" "check_rows" (defArgs s_check_rows) (defBody s_check_rows) (defScope s_check_rows) .none kV16 dc16 pm16 an16 cd16 ct16), sl16⟩)
    (d_16 : PySem.W.codeIn K cd16 "check_rows" = true)
    (q_16 : PySem.W.keepIn K (.ref f16) = true)
    (a_17 : PySem.W.nsIn K mainGlobals "move_list" = some (some (.ref f17)))
    (l_17 : K.lookup f17 = some ⟨oc17, od17, .func (PySem.W.fnOf "move_list" "move_list" (defArgs s_move_list) (defBody s_move_list) (defScope s_move_list) .none kV17 dc17 pm17 an17 cd17 ct17), sl17⟩)
    (d_17 : PySem.W.codeIn K cd17 "move_list" = true)
    (q_17 : PySem.W.keepIn K (.ref f17) = true)
    (a_18 : PySem.W.nsIn K mainGlobals "turned_places" = some (some (.ref f18)))
    (l_18 : K.lookup f18 = some ⟨oc18, od18, .func (PySem.W.fnOf "turned_places" "turned_places" (defArgs s_turned_places) (defBody s_turned_places) (defScope s_turned_places) .none kV18 dc18 pm18 an18 cd18 ct18), sl18⟩)
    (d_18 : PySem.W.codeIn K cd18 "turned_places" = true)
    (q_18 : PySem.W.keepIn K (.ref f18) = true)
    (a_19 : PySem.W.nsIn K mainGlobals "turned" = some (some (.ref f19)))
    (l_19 : K.lookup f19 = some ⟨oc19, od19, .func (PySem.W.fnOf "turned" "turned" (defArgs s_turned) (defBody s_turned) (defScope s_turned) .none kV19 dc19 pm19 an19 cd19 ct19), sl19⟩)
    (d_19 : PySem.W.codeIn K cd19 "turned" = true)
    (q_19 : PySem.W.keepIn K (.ref f19) = true)
    (a_20 : PySem.W.nsIn K mainGlobals "is_move" = some (some (.ref f20)))
    (l_20 : K.lookup f20 = some ⟨oc20, od20, .func (PySem.W.fnOf "is_move" "is_move" (defArgs s_is_move) (defBody s_is_move) (defScope s_is_move) .none kV20 dc20 pm20 an20 cd20 ct20), sl20⟩)
    (d_20 : PySem.W.codeIn K cd20 "is_move" = true)
    (q_20 : PySem.W.keepIn K (.ref f20) = true)
    (a_21 : PySem.W.nsIn K mainGlobals "play" = some (some (.ref f21)))
    (l_21 : K.lookup f21 = some ⟨oc21, od21, .func (PySem.W.fnOf "play" "play" (defArgs s_play) (defBody s_play) (defScope s_play) .none kV21 dc21 pm21 an21 cd21 ct21), sl21⟩)
    (d_21 : PySem.W.codeIn K cd21 "play" = true)
    (q_21 : PySem.W.keepIn K (.ref f21) = true)
    (a_23 : PySem.W.nsIn K mainGlobals "steps_from" = some (some (.ref f23)))
    (l_23 : K.lookup f23 = some ⟨oc23, od23, .func (PySem.W.fnOf "steps_from" "steps_from" (defArgs s_steps_from) (defBody s_steps_from) (defScope s_steps_from) .none kV23 dc23 pm23 an23 cd23 ct23), sl23⟩)
    (d_23 : PySem.W.codeIn K cd23 "steps_from" = true)
    (q_23 : PySem.W.keepIn K (.ref f23) = true)
    (a_24 : PySem.W.nsIn K mainGlobals "in_reach" = some (some (.ref f24)))
    (l_24 : K.lookup f24 = some ⟨oc24, od24, .func (PySem.W.fnOf "in_reach" "in_reach" (defArgs s_in_reach) (defBody s_in_reach) (defScope s_in_reach) .none kV24 dc24 pm24 an24 cd24 ct24), sl24⟩)
    (d_24 : PySem.W.codeIn K cd24 "in_reach" = true)
    (q_24 : PySem.W.keepIn K (.ref f24) = true)
    (a_26 : PySem.W.nsIn K mainGlobals "steps_between" = some (some (.ref f26)))
    (l_26 : K.lookup f26 = some ⟨oc26, od26, .func (PySem.W.fnOf "steps_between" "steps_between" (defArgs s_steps_between) (defBody s_steps_between) (defScope s_steps_between) .none kV26 dc26 pm26 an26 cd26 ct26), sl26⟩)
    (d_26 : PySem.W.codeIn K cd26 "steps_between" = true)
    (q_26 : PySem.W.keepIn K (.ref f26) = true)
    (a_27 : PySem.W.nsIn K mainGlobals "distance" = some (some (.ref f27)))
    (l_27 : K.lookup f27 = some ⟨oc27, od27, .func (PySem.W.fnOf "distance" "distance" (defArgs s_distance) (defBody s_distance) (defScope s_distance) .none kV27 dc27 pm27 an27 cd27 ct27), sl27⟩)
    (d_27 : PySem.W.codeIn K cd27 "distance" = true)
    (q_27 : PySem.W.keepIn K (.ref f27) = true)
    (a_28 : PySem.W.nsIn K mainGlobals "solve" = some (some (.ref f28)))
    (l_28 : K.lookup f28 = some ⟨oc28, od28, .func (PySem.W.fnOf "solve" "solve" (defArgs s_solve) (defBody s_solve) (defScope s_solve) .none kV28 dc28 pm28 an28 cd28 ct28), sl28⟩)
    (d_28 : PySem.W.codeIn K cd28 "solve" = true)
    (q_28 : PySem.W.keepIn K (.ref f28) = true)
    (a_29 : PySem.W.nsIn K mainGlobals "sweep" = some (some (.ref f29)))
    (l_29 : K.lookup f29 = some ⟨oc29, od29, .func (PySem.W.fnOf "sweep" "sweep" (defArgs s_sweep) (defBody s_sweep) (defScope s_sweep) .none kV29 dc29 pm29 an29 cd29 ct29), sl29⟩)
    (d_29 : PySem.W.codeIn K cd29 "sweep" = true)
    (q_29 : PySem.W.keepIn K (.ref f29) = true)
    (a_30 : PySem.W.nsIn K mainGlobals "farthest" = some (some (.ref f30)))
    (l_30 : K.lookup f30 = some ⟨oc30, od30, .func (PySem.W.fnOf "farthest" "farthest" (defArgs s_farthest) (defBody s_farthest) (defScope s_farthest) .none kV30 dc30 pm30 an30 cd30 ct30), sl30⟩)
    (d_30 : PySem.W.codeIn K cd30 "farthest" = true)
    (q_30 : PySem.W.keepIn K (.ref f30) = true)
    (a_32 : PySem.W.nsIn K mainGlobals "_law_cell_at" = some (some (.ref f32)))
    (l_32 : K.lookup f32 = some ⟨oc32, od32, .func (PySem.W.fnOf "_law_cell_at" "_law_cell_at" (defArgs s__law_cell_at) (defBody s__law_cell_at) (defScope s__law_cell_at) .none kV32 dc32 pm32 an32 cd32 ct32), sl32⟩)
    (d_32 : PySem.W.codeIn K cd32 "_law_cell_at" = true)
    (q_32 : PySem.W.keepIn K (.ref f32) = true)
    (a_33 : PySem.W.nsIn K mainGlobals "_law_mixed" = some (some (.ref f33)))
    (l_33 : K.lookup f33 = some ⟨oc33, od33, .func (PySem.W.fnOf "_law_mixed" "_law_mixed" (defArgs s__law_mixed) (defBody s__law_mixed) (defScope s__law_mixed) .none kV33 dc33 pm33 an33 cd33 ct33), sl33⟩)
    (d_33 : PySem.W.codeIn K cd33 "_law_mixed" = true)
    (q_33 : PySem.W.keepIn K (.ref f33) = true)
    (a_34 : PySem.W.nsIn K mainGlobals "_law_draw" = some (some (.ref f34)))
    (l_34 : K.lookup f34 = some ⟨oc34, od34, .func (PySem.W.fnOf "_law_draw" "_law_draw" (defArgs s__law_draw) (defBody s__law_draw) (defScope s__law_draw) .none kV34 dc34 pm34 an34 cd34 ct34), sl34⟩)
    (d_34 : PySem.W.codeIn K cd34 "_law_draw" = true)
    (q_34 : PySem.W.keepIn K (.ref f34) = true)
    (a_35 : PySem.W.nsIn K mainGlobals "_law_pick" = some (some (.ref f35)))
    (l_35 : K.lookup f35 = some ⟨oc35, od35, .func (PySem.W.fnOf "_law_pick" "_law_pick" (defArgs s__law_pick) (defBody s__law_pick) (defScope s__law_pick) .none kV35 dc35 pm35 an35 cd35 ct35), sl35⟩)
    (d_35 : PySem.W.codeIn K cd35 "_law_pick" = true)
    (q_35 : PySem.W.keepIn K (.ref f35) = true)
    (a_36 : PySem.W.nsIn K mainGlobals "_law_some_shape" = some (some (.ref f36)))
    (l_36 : K.lookup f36 = some ⟨oc36, od36, .func (PySem.W.fnOf "_law_some_shape" "_law_some_shape" (defArgs s__law_some_shape) (defBody s__law_some_shape) (defScope s__law_some_shape) .none kV36 dc36 pm36 an36 cd36 ct36), sl36⟩)
    (d_36 : PySem.W.codeIn K cd36 "_law_some_shape" = true)
    (q_36 : PySem.W.keepIn K (.ref f36) = true)
    (a_37 : PySem.W.nsIn K mainGlobals "_law_some_coins" = some (some (.ref f37)))
    (l_37 : K.lookup f37 = some ⟨oc37, od37, .func (PySem.W.fnOf "_law_some_coins" "_law_some_coins" (defArgs s__law_some_coins) (defBody s__law_some_coins) (defScope s__law_some_coins) .none kV37 dc37 pm37 an37 cd37 ct37), sl37⟩)
    (d_37 : PySem.W.codeIn K cd37 "_law_some_coins" = true)
    (q_37 : PySem.W.keepIn K (.ref f37) = true)
    (a_38 : PySem.W.nsIn K mainGlobals "law" = some (some (.ref f38)))
    (l_38 : K.lookup f38 = some ⟨oc38, od38, .func (PySem.W.fnOf "law" "law" (defArgs s_law) (defBody s_law) (defScope s_law) .none kV38 dc38 pm38 an38 cd38 ct38), sl38⟩)
    (d_38 : PySem.W.codeIn K cd38 "law" = true)
    (q_38 : PySem.W.keepIn K (.ref f38) = true) : Tx K mg (kOf K) where
  hK := rfl
  b_all := PySem.W.mg_none_of X G z_all
  b_bool := PySem.W.mg_none_of X G z_bool
  b_enumerate := PySem.W.mg_none_of X G z_enumerate
  b_int := PySem.W.mg_none_of X G z_int
  b_isinstance := PySem.W.mg_none_of X G z_isinstance
  b_len := PySem.W.mg_none_of X G z_len
  b_list := PySem.W.mg_none_of X G z_list
  b_max := PySem.W.mg_none_of X G z_max
  b_min := PySem.W.mg_none_of X G z_min
  b_range := PySem.W.mg_none_of X G z_range
  b_set := PySem.W.mg_none_of X G z_set
  b_sorted := PySem.W.mg_none_of X G z_sorted
  b_str := PySem.W.mg_none_of X G z_str
  b_tuple := PySem.W.mg_none_of X G z_tuple
  b_zip := PySem.W.mg_none_of X G z_zip
  c_MOST := ⟨_, PySem.W.mg_of X G z_MOST⟩
  x_InvalidGame := exn_mk 0 X G n_0 k_0 e_0 s_0 t_0
  x_InvalidRow := exn_mk 1 X G n_1 k_1 e_1 s_1 t_1
  x_InvalidMove := exn_mk 3 X G n_3 k_3 e_3 s_3 t_3
  x_OutOfReach := exn_mk 4 X G n_4 k_4 e_4 s_4 t_4
  x_OnRing := exn_mk 5 X G n_5 k_5 e_5 s_5 t_5
  x_SeveralShapes := exn_mk 6 X G n_6 k_6 e_6 s_6 t_6
  f_is_integer := fun_ok X G a_10 l_10 d_10 q_10 fun _ _ _ _ _ _ us hl => match us, hl with | [_, _, _], _ => rfl
  f_is_shape := fun_ok X G a_11 l_11 d_11 q_11 fun _ _ _ _ _ _ us hl => match us, hl with | [_], _ => rfl
  f_is_game := fun_ok X G a_12 l_12 d_12 q_12 fun _ _ _ _ _ _ us hl => match us, hl with | [_], _ => rfl
  f_check_game := fun_ok X G a_13 l_13 d_13 q_13 fun _ _ _ _ _ _ us hl => match us, hl with | [_], _ => rfl
  f_lies := fun_ok X G a_14 l_14 d_14 q_14 fun _ _ _ _ _ _ us hl => match us, hl with | [_, _], _ => rfl
  f_check_row := fun_ok X G a_15 l_15 d_15 q_15 fun _ _ _ _ _ _ us hl => match us, hl with | [_, _], _ => rfl
  f_check_rows := fun_ok X G a_16 l_16 d_16 q_16 fun _ _ _ _ _ _ us hl => match us, hl with | [_, _, _], _ => rfl
  f_move_list := fun_ok X G a_17 l_17 d_17 q_17 fun _ _ _ _ _ _ us hl => match us, hl with | [_], _ => rfl
  f_turned_places := fun_ok X G a_18 l_18 d_18 q_18 fun _ _ _ _ _ _ us hl => match us, hl with | [_, _], _ => rfl
  f_turned := fun_ok X G a_19 l_19 d_19 q_19 fun _ _ _ _ _ _ us hl => match us, hl with | [_, _], _ => rfl
  f_is_move := fun_ok X G a_20 l_20 d_20 q_20 fun _ _ _ _ _ _ us hl => match us, hl with | [_, _], _ => rfl
  f_play := fun_ok X G a_21 l_21 d_21 q_21 fun _ _ _ _ _ _ us hl => match us, hl with | [_, _, _], _ => rfl
  f_steps_from := fun_ok X G a_23 l_23 d_23 q_23 fun _ _ _ _ _ _ us hl => match us, hl with | [_, _], _ => rfl
  f_in_reach := fun_ok X G a_24 l_24 d_24 q_24 fun _ _ _ _ _ _ us hl => match us, hl with | [_, _], _ => rfl
  f_steps_between := fun_ok X G a_26 l_26 d_26 q_26 fun _ _ _ _ _ _ us hl => match us, hl with | [_, _, _], _ => rfl
  f_distance := fun_ok X G a_27 l_27 d_27 q_27 fun _ _ _ _ _ _ us hl => match us, hl with | [_, _, _], _ => rfl
  f_solve := fun_ok X G a_28 l_28 d_28 q_28 fun _ _ _ _ _ _ us hl => match us, hl with | [_, _, _], _ => rfl
  f_sweep := fun_ok X G a_29 l_29 d_29 q_29 fun _ _ _ _ _ _ us hl => match us, hl with | [_, _, _], _ => rfl
  f_farthest := fun_ok X G a_30 l_30 d_30 q_30 fun _ _ _ _ _ _ us hl => match us, hl with | [_, _], _ => rfl
  f__law_cell_at := fun_ok X G a_32 l_32 d_32 q_32 fun _ _ _ _ _ _ us hl => match us, hl with | [_, _], _ => rfl
  f__law_mixed := fun_ok X G a_33 l_33 d_33 q_33 fun _ _ _ _ _ _ us hl => match us, hl with | [_, _, _], _ => rfl
  f__law_draw := fun_ok X G a_34 l_34 d_34 q_34 fun _ _ _ _ _ _ us hl => match us, hl with | [_, _, _], _ => rfl
  f__law_pick := fun_ok X G a_35 l_35 d_35 q_35 fun _ _ _ _ _ _ us hl => match us, hl with | [_, _, _], _ => rfl
  f__law_some_shape := fun_ok X G a_36 l_36 d_36 q_36 fun _ _ _ _ _ _ us hl => match us, hl with | [_, _, _], _ => rfl
  f__law_some_coins := fun_ok X G a_37 l_37 d_37 q_37 fun _ _ _ _ _ _ us hl => match us, hl with | [_, _, _], _ => rfl
theorem all_mk {P : Program} {w : World} {K : PySem.W.Frag} {h : Heap} {mg : Str → Option Value} {fa : Addr} {C0 C1 C3 C4 C5 C6 f10 f11 f12 f13 f14 f15 f16 f17 f18 f19 f20 f21 f23 f24 f26 f27 f28 f29 f30 f32 f33 f34 f35 f36 f37 f38 : Addr} {tM : Tok} {oc10 kV10 dc10 pm10 cd10 ct10 oc11 kV11 dc11 pm11 cd11 ct11 oc12 kV12 dc12 pm12 cd12 ct12 oc13 kV13 dc13 pm13 cd13 ct13 oc14 kV14 dc14 pm14 cd14 ct14 oc15 kV15 dc15 pm15 cd15 ct15 oc16 kV16 dc16 pm16 cd16 ct16 oc17 kV17 dc17 pm17 cd17 ct17 oc18 kV18 dc18 pm18 cd18 ct18 oc19 kV19 dc19 pm19 cd19 ct19 oc20 kV20 dc20 pm20 cd20 ct20 oc21 kV21 dc21 pm21 cd21 ct21 oc23 kV23 dc23 pm23 cd23 ct23 oc24 kV24 dc24 pm24 cd24 ct24 oc26 kV26 dc26 pm26 cd26 ct26 oc27 kV27 dc27 pm27 cd27 ct27 oc28 kV28 dc28 pm28 cd28 ct28 oc29 kV29 dc29 pm29 cd29 ct29 oc30 kV30 dc30 pm30 cd30 ct30 oc32 kV32 dc32 pm32 cd32 ct32 oc33 kV33 dc33 pm33 cd33 ct33 oc34 kV34 dc34 pm34 cd34 ct34 oc35 kV35 dc35 pm35 cd35 ct35 oc36 kV36 dc36 pm36 cd36 ct36 oc37 kV37 dc37 pm37 cd37 ct37 oc38 kV38 dc38 pm38 cd38 ct38 : Value} {od10 an10 od11 an11 od12 an12 od13 an13 od14 an14 od15 an15 od16 an16 od17 an17 od18 an18 od19 an19 od20 an20 od21 an21 od23 an23 od24 an24 od26 an26 od27 an27 od28 an28 od29 an29 od30 an30 od32 an32 od33 an33 od34 an34 od35 an35 od36 an36 od37 an37 od38 an38 : Option Addr} {sl10 sl11 sl12 sl13 sl14 sl15 sl16 sl17 sl18 sl19 sl20 sl21 sl23 sl24 sl26 sl27 sl28 sl29 sl30 sl32 sl33 sl34 sl35 sl36 sl37 sl38 : Array (Option Value)} (X : K.In h) (G : h.Ns mainGlobals mg) (hfa : mg "law" = some (.ref fa))
    (z_all : PySem.W.nsIn K mainGlobals "all" = some none)
    (z_bool : PySem.W.nsIn K mainGlobals "bool" = some none)
    (z_enumerate : PySem.W.nsIn K mainGlobals "enumerate" = some none)
    (z_int : PySem.W.nsIn K mainGlobals "int" = some none)
    (z_isinstance : PySem.W.nsIn K mainGlobals "isinstance" = some none)
    (z_len : PySem.W.nsIn K mainGlobals "len" = some none)
    (z_list : PySem.W.nsIn K mainGlobals "list" = some none)
    (z_max : PySem.W.nsIn K mainGlobals "max" = some none)
    (z_min : PySem.W.nsIn K mainGlobals "min" = some none)
    (z_range : PySem.W.nsIn K mainGlobals "range" = some none)
    (z_set : PySem.W.nsIn K mainGlobals "set" = some none)
    (z_sorted : PySem.W.nsIn K mainGlobals "sorted" = some none)
    (z_str : PySem.W.nsIn K mainGlobals "str" = some none)
    (z_tuple : PySem.W.nsIn K mainGlobals "tuple" = some none)
    (z_zip : PySem.W.nsIn K mainGlobals "zip" = some none)
    (z_MOST : PySem.W.nsIn K mainGlobals "MOST" = some (some (.int 8 tM)))
    (n_0 : PySem.W.nsIn K mainGlobals "InvalidGame" = some (some (.ref C0)))
    (k_0 : PySem.W.keepIn K (.ref C0) = true)
    (e_0 : PySem.W.excIn K C0 [.type "ValueError", .type "Exception", .type "BaseException", .type "object"] "ValueError.__new__" = true)
    (s_0 : PySem.W.subIn K (.ref C0) (.type "BaseException") = some true)
    (t_0 : PySem.W.typeIn K (.ref C0) = some (.type "type"))
    (n_1 : PySem.W.nsIn K mainGlobals "InvalidRow" = some (some (.ref C1)))
    (k_1 : PySem.W.keepIn K (.ref C1) = true)
    (e_1 : PySem.W.excIn K C1 [.type "ValueError", .type "Exception", .type "BaseException", .type "object"] "ValueError.__new__" = true)
    (s_1 : PySem.W.subIn K (.ref C1) (.type "BaseException") = some true)
    (t_1 : PySem.W.typeIn K (.ref C1) = some (.type "type"))
    (n_3 : PySem.W.nsIn K mainGlobals "InvalidMove" = some (some (.ref C3)))
    (k_3 : PySem.W.keepIn K (.ref C3) = true)
    (e_3 : PySem.W.excIn K C3 [.type "ValueError", .type "Exception", .type "BaseException", .type "object"] "ValueError.__new__" = true)
    (s_3 : PySem.W.subIn K (.ref C3) (.type "BaseException") = some true)
    (t_3 : PySem.W.typeIn K (.ref C3) = some (.type "type"))
    (n_4 : PySem.W.nsIn K mainGlobals "OutOfReach" = some (some (.ref C4)))
    (k_4 : PySem.W.keepIn K (.ref C4) = true)
    (e_4 : PySem.W.excIn K C4 [.type "ValueError", .type "Exception", .type "BaseException", .type "object"] "ValueError.__new__" = true)
    (s_4 : PySem.W.subIn K (.ref C4) (.type "BaseException") = some true)
    (t_4 : PySem.W.typeIn K (.ref C4) = some (.type "type"))
    (n_5 : PySem.W.nsIn K mainGlobals "OnRing" = some (some (.ref C5)))
    (k_5 : PySem.W.keepIn K (.ref C5) = true)
    (e_5 : PySem.W.excIn K C5 [.type "ValueError", .type "Exception", .type "BaseException", .type "object"] "ValueError.__new__" = true)
    (s_5 : PySem.W.subIn K (.ref C5) (.type "BaseException") = some true)
    (t_5 : PySem.W.typeIn K (.ref C5) = some (.type "type"))
    (n_6 : PySem.W.nsIn K mainGlobals "SeveralShapes" = some (some (.ref C6)))
    (k_6 : PySem.W.keepIn K (.ref C6) = true)
    (e_6 : PySem.W.excIn K C6 [.type "ValueError", .type "Exception", .type "BaseException", .type "object"] "ValueError.__new__" = true)
    (s_6 : PySem.W.subIn K (.ref C6) (.type "BaseException") = some true)
    (t_6 : PySem.W.typeIn K (.ref C6) = some (.type "type"))
    (a_10 : PySem.W.nsIn K mainGlobals "is_integer" = some (some (.ref f10)))
    (l_10 : K.lookup f10 = some ⟨oc10, od10, .func (PySem.W.fnOf "is_integer" "is_integer" (defArgs s_is_integer) (defBody s_is_integer) (defScope s_is_integer) .none kV10 dc10 pm10 an10 cd10 ct10), sl10⟩)
    (d_10 : PySem.W.codeIn K cd10 "is_integer" = true)
    (q_10 : PySem.W.keepIn K (.ref f10) = true)
    (a_11 : PySem.W.nsIn K mainGlobals "is_shape" = some (some (.ref f11)))
    (l_11 : K.lookup f11 = some ⟨oc11, od11, .func (PySem.W.fnOf "is_shape" "is_shape" (defArgs s_is_shape) (defBody s_is_shape) (defScope s_is_shape) .none kV11 dc11 pm11 an11 cd11 ct11), sl11⟩)
    (d_11 : PySem.W.codeIn K cd11 "is_shape" = true)
    (q_11 : PySem.W.keepIn K (.ref f11) = true)
    (a_12 : PySem.W.nsIn K mainGlobals "is_game" = some (some (.ref f12)))
    (l_12 : K.lookup f12 = some ⟨oc12, od12, .func (PySem.W.fnOf "is_game" "is_game" (defArgs s_is_game) (defBody s_is_game) (defScope s_is_game) .none kV12 dc12 pm12 an12 cd12 ct12), sl12⟩)
    (d_12 : PySem.W.codeIn K cd12 "is_game" = true)
    (q_12 : PySem.W.keepIn K (.ref f12) = true)
    (a_13 : PySem.W.nsIn K mainGlobals "check_game" = some (some (.ref f13)))
    (l_13 : K.lookup f13 = some ⟨oc13, od13, .func (PySem.W.fnOf "check_game" "check_game" (defArgs s_check_game) (defBody s_check_game) (defScope s_check_game) .none kV13 dc13 pm13 an13 cd13 ct13), sl13⟩)
    (d_13 : PySem.W.codeIn K cd13 "check_game" = true)
    (q_13 : PySem.W.keepIn K (.ref f13) = true)
    (a_14 : PySem.W.nsIn K mainGlobals "lies" = some (some (.ref f14)))
    (l_14 : K.lookup f14 = some ⟨oc14, od14, .func (PySem.W.fnOf "lies" "lies" (defArgs s_lies) (defBody s_lies) (defScope s_lies) .none kV14 dc14 pm14 an14 cd14 ct14), sl14⟩)
    (d_14 : PySem.W.codeIn K cd14 "lies" = true)
    (q_14 : PySem.W.keepIn K (.ref f14) = true)
    (a_15 : PySem.W.nsIn K mainGlobals "check_row" = some (some (.ref f15)))
    (l_15 : K.lookup f15 = some ⟨oc15, od15, .func (PySem.W.fnOf "check_row" "check_row" (defArgs s_check_row) (defBody s_check_row) (defScope s_check_row) .none kV15 dc15 pm15 an15 cd15 ct15), sl15⟩)
    (d_15 : PySem.W.codeIn K cd15 "check_row" = true)
    (q_15 : PySem.W.keepIn K (.ref f15) = true)
    (a_16 : PySem.W.nsIn K mainGlobals "check_rows" = some (some (.ref f16)))
    (l_16 : K.lookup f16 = some ⟨oc16, od16, .func (PySem.W.fnOf "check_rows" "check_rows" (defArgs s_check_rows) (defBody s_check_rows) (defScope s_check_rows) .none kV16 dc16 pm16 an16 cd16 ct16), sl16⟩)
    (d_16 : PySem.W.codeIn K cd16 "check_rows" = true)
    (q_16 : PySem.W.keepIn K (.ref f16) = true)
    (a_17 : PySem.W.nsIn K mainGlobals "move_list" = some (some (.ref f17)))
    (l_17 : K.lookup f17 = some ⟨oc17, od17, .func (PySem.W.fnOf "move_list" "move_list" (defArgs s_move_list) (defBody s_move_list) (defScope s_move_list) .none kV17 dc17 pm17 an17 cd17 ct17), sl17⟩)
    (d_17 : PySem.W.codeIn K cd17 "move_list" = true)
    (q_17 : PySem.W.keepIn K (.ref f17) = true)
    (a_18 : PySem.W.nsIn K mainGlobals "turned_places" = some (some (.ref f18)))
    (l_18 : K.lookup f18 = some ⟨oc18, od18, .func (PySem.W.fnOf "turned_places" "turned_places" (defArgs s_turned_places) (defBody s_turned_places) (defScope s_turned_places) .none kV18 dc18 pm18 an18 cd18 ct18), sl18⟩)
    (d_18 : PySem.W.codeIn K cd18 "turned_places" = true)
    (q_18 : PySem.W.keepIn K (.ref f18) = true)
    (a_19 : PySem.W.nsIn K mainGlobals "turned" = some (some (.ref f19)))
    (l_19 : K.lookup f19 = some ⟨oc19, od19, .func (PySem.W.fnOf "turned" "turned" (defArgs s_turned) (defBody s_turned) (defScope s_turned) .none kV19 dc19 pm19 an19 cd19 ct19), sl19⟩)
    (d_19 : PySem.W.codeIn K cd19 "turned" = true)
    (q_19 : PySem.W.keepIn K (.ref f19) = true)
    (a_20 : PySem.W.nsIn K mainGlobals "is_move" = some (some (.ref f20)))
    (l_20 : K.lookup f20 = some ⟨oc20, od20, .func (PySem.W.fnOf "is_move" "is_move" (defArgs s_is_move) (defBody s_is_move) (defScope s_is_move) .none kV20 dc20 pm20 an20 cd20 ct20), sl20⟩)
    (d_20 : PySem.W.codeIn K cd20 "is_move" = true)
    (q_20 : PySem.W.keepIn K (.ref f20) = true)
    (a_21 : PySem.W.nsIn K mainGlobals "play" = some (some (.ref f21)))
    (l_21 : K.lookup f21 = some ⟨oc21, od21, .func (PySem.W.fnOf "play" "play" (defArgs s_play) (defBody s_play) (defScope s_play) .none kV21 dc21 pm21 an21 cd21 ct21), sl21⟩)
    (d_21 : PySem.W.codeIn K cd21 "play" = true)
    (q_21 : PySem.W.keepIn K (.ref f21) = true)
    (a_23 : PySem.W.nsIn K mainGlobals "steps_from" = some (some (.ref f23)))
    (l_23 : K.lookup f23 = some ⟨oc23, od23, .func (PySem.W.fnOf "steps_from" "steps_from" (defArgs s_steps_from) (defBody s_steps_from) (defScope s_steps_from) .none kV23 dc23 pm23 an23 cd23 ct23), sl23⟩)
    (d_23 : PySem.W.codeIn K cd23 "steps_from" = true)
    (q_23 : PySem.W.keepIn K (.ref f23) = true)
    (a_24 : PySem.W.nsIn K mainGlobals "in_reach" = some (some (.ref f24)))
    (l_24 : K.lookup f24 = some ⟨oc24, od24, .func (PySem.W.fnOf "in_reach" "in_reach" (defArgs s_in_reach) (defBody s_in_reach) (defScope s_in_reach) .none kV24 dc24 pm24 an24 cd24 ct24), sl24⟩)
    (d_24 : PySem.W.codeIn K cd24 "in_reach" = true)
    (q_24 : PySem.W.keepIn K (.ref f24) = true)
    (a_26 : PySem.W.nsIn K mainGlobals "steps_between" = some (some (.ref f26)))
    (l_26 : K.lookup f26 = some ⟨oc26, od26, .func (PySem.W.fnOf "steps_between" "steps_between" (defArgs s_steps_between) (defBody s_steps_between) (defScope s_steps_between) .none kV26 dc26 pm26 an26 cd26 ct26), sl26⟩)
    (d_26 : PySem.W.codeIn K cd26 "steps_between" = true)
    (q_26 : PySem.W.keepIn K (.ref f26) = true)
    (a_27 : PySem.W.nsIn K mainGlobals "distance" = some (some (.ref f27)))
    (l_27 : K.lookup f27 = some ⟨oc27, od27, .func (PySem.W.fnOf "distance" "distance" (defArgs s_distance) (defBody s_distance) (defScope s_distance) .none kV27 dc27 pm27 an27 cd27 ct27), sl27⟩)
    (d_27 : PySem.W.codeIn K cd27 "distance" = true)
    (q_27 : PySem.W.keepIn K (.ref f27) = true)
    (a_28 : PySem.W.nsIn K mainGlobals "solve" = some (some (.ref f28)))
    (l_28 : K.lookup f28 = some ⟨oc28, od28, .func (PySem.W.fnOf "solve" "solve" (defArgs s_solve) (defBody s_solve) (defScope s_solve) .none kV28 dc28 pm28 an28 cd28 ct28), sl28⟩)
    (d_28 : PySem.W.codeIn K cd28 "solve" = true)
    (q_28 : PySem.W.keepIn K (.ref f28) = true)
    (a_29 : PySem.W.nsIn K mainGlobals "sweep" = some (some (.ref f29)))
    (l_29 : K.lookup f29 = some ⟨oc29, od29, .func (PySem.W.fnOf "sweep" "sweep" (defArgs s_sweep) (defBody s_sweep) (defScope s_sweep) .none kV29 dc29 pm29 an29 cd29 ct29), sl29⟩)
    (d_29 : PySem.W.codeIn K cd29 "sweep" = true)
    (q_29 : PySem.W.keepIn K (.ref f29) = true)
    (a_30 : PySem.W.nsIn K mainGlobals "farthest" = some (some (.ref f30)))
    (l_30 : K.lookup f30 = some ⟨oc30, od30, .func (PySem.W.fnOf "farthest" "farthest" (defArgs s_farthest) (defBody s_farthest) (defScope s_farthest) .none kV30 dc30 pm30 an30 cd30 ct30), sl30⟩)
    (d_30 : PySem.W.codeIn K cd30 "farthest" = true)
    (q_30 : PySem.W.keepIn K (.ref f30) = true)
    (a_32 : PySem.W.nsIn K mainGlobals "_law_cell_at" = some (some (.ref f32)))
    (l_32 : K.lookup f32 = some ⟨oc32, od32, .func (PySem.W.fnOf "_law_cell_at" "_law_cell_at" (defArgs s__law_cell_at) (defBody s__law_cell_at) (defScope s__law_cell_at) .none kV32 dc32 pm32 an32 cd32 ct32), sl32⟩)
    (d_32 : PySem.W.codeIn K cd32 "_law_cell_at" = true)
    (q_32 : PySem.W.keepIn K (.ref f32) = true)
    (a_33 : PySem.W.nsIn K mainGlobals "_law_mixed" = some (some (.ref f33)))
    (l_33 : K.lookup f33 = some ⟨oc33, od33, .func (PySem.W.fnOf "_law_mixed" "_law_mixed" (defArgs s__law_mixed) (defBody s__law_mixed) (defScope s__law_mixed) .none kV33 dc33 pm33 an33 cd33 ct33), sl33⟩)
    (d_33 : PySem.W.codeIn K cd33 "_law_mixed" = true)
    (q_33 : PySem.W.keepIn K (.ref f33) = true)
    (a_34 : PySem.W.nsIn K mainGlobals "_law_draw" = some (some (.ref f34)))
    (l_34 : K.lookup f34 = some ⟨oc34, od34, .func (PySem.W.fnOf "_law_draw" "_law_draw" (defArgs s__law_draw) (defBody s__law_draw) (defScope s__law_draw) .none kV34 dc34 pm34 an34 cd34 ct34), sl34⟩)
    (d_34 : PySem.W.codeIn K cd34 "_law_draw" = true)
    (q_34 : PySem.W.keepIn K (.ref f34) = true)
    (a_35 : PySem.W.nsIn K mainGlobals "_law_pick" = some (some (.ref f35)))
    (l_35 : K.lookup f35 = some ⟨oc35, od35, .func (PySem.W.fnOf "_law_pick" "_law_pick" (defArgs s__law_pick) (defBody s__law_pick) (defScope s__law_pick) .none kV35 dc35 pm35 an35 cd35 ct35), sl35⟩)
    (d_35 : PySem.W.codeIn K cd35 "_law_pick" = true)
    (q_35 : PySem.W.keepIn K (.ref f35) = true)
    (a_36 : PySem.W.nsIn K mainGlobals "_law_some_shape" = some (some (.ref f36)))
    (l_36 : K.lookup f36 = some ⟨oc36, od36, .func (PySem.W.fnOf "_law_some_shape" "_law_some_shape" (defArgs s__law_some_shape) (defBody s__law_some_shape) (defScope s__law_some_shape) .none kV36 dc36 pm36 an36 cd36 ct36), sl36⟩)
    (d_36 : PySem.W.codeIn K cd36 "_law_some_shape" = true)
    (q_36 : PySem.W.keepIn K (.ref f36) = true)
    (a_37 : PySem.W.nsIn K mainGlobals "_law_some_coins" = some (some (.ref f37)))
    (l_37 : K.lookup f37 = some ⟨oc37, od37, .func (PySem.W.fnOf "_law_some_coins" "_law_some_coins" (defArgs s__law_some_coins) (defBody s__law_some_coins) (defScope s__law_some_coins) .none kV37 dc37 pm37 an37 cd37 ct37), sl37⟩)
    (d_37 : PySem.W.codeIn K cd37 "_law_some_coins" = true)
    (q_37 : PySem.W.keepIn K (.ref f37) = true)
    (a_38 : PySem.W.nsIn K mainGlobals "law" = some (some (.ref f38)))
    (l_38 : K.lookup f38 = some ⟨oc38, od38, .func (PySem.W.fnOf "law" "law" (defArgs s_law) (defBody s_law) (defScope s_law) .none kV38 dc38 pm38 an38 cd38 ct38), sl38⟩)
    (d_38 : PySem.W.codeIn K cd38 "law" = true)
    (q_38 : PySem.W.keepIn K (.ref f38) = true) :
    ∃ fd : FuncData, (∀ (s : Shared) (v : Value), BindsTo s fd ⟨[v], []⟩ [("_law_script", v)]) ∧ ∀ base : Heap, K.In base → base.Ns mainGlobals mg → FnOk P w K mg base (L2.CX P w) 7 fa fd ["_law_script"] (spOf (kOf K) 1 m_law) := by
  have e := hfa.symm.trans (PySem.W.mg_of X G a_38)
  cases e
  have Ff := fun_mk (st := s_law) l_38 d_38 q_38
  exact ⟨_, fun s v => .of_eq rfl, fun base _ _ => d_law (tx_mk X G z_all z_bool z_enumerate z_int z_isinstance z_len z_list z_max z_min z_range z_set z_sorted z_str z_tuple z_zip z_MOST n_0 k_0 e_0 s_0 t_0 n_1 k_1 e_1 s_1 t_1 n_3 k_3 e_3 s_3 t_3 n_4 k_4 e_4 s_4 t_4 n_5 k_5 e_5 s_5 t_5 n_6 k_6 e_6 s_6 t_6 a_10 l_10 d_10 q_10 a_11 l_11 d_11 q_11 a_12 l_12 d_12 q_12 a_13 l_13 d_13 q_13 a_14 l_14 d_14 q_14 a_15 l_15 d_15 q_15 a_16 l_16 d_16 q_16 a_17 l_17 d_17 q_17 a_18 l_18 d_18 q_18 a_19 l_19 d_19 q_19 a_20 l_20 d_20 q_20 a_21 l_21 d_21 q_21 a_23 l_23 d_23 q_23 a_24 l_24 d_24 q_24 a_26 l_26 d_26 q_26 a_27 l_27 d_27 q_27 a_28 l_28 d_28 q_28 a_29 l_29 d_29 q_29 a_30 l_30 d_30 q_30 a_32 l_32 d_32 q_32 a_33 l_33 d_33 q_33 a_34 l_34 d_34 q_34 a_35 l_35 d_35 q_35 a_36 l_36 d_36 q_36 a_37 l_37 d_37 q_37 a_38 l_38 d_38 q_38) Ff⟩
end CO
/-! CmA: masks, parities, spans: rows as sums without carry. -/
namespace CM
/-- the places of x below n -/
def pl (n x : Nat) : List Nat := (List.range n).filter x.testBit
def cnt (n x : Nat) : Nat := (pl n x).length
theorem cnt_succ (n x : Nat) : cnt (n + 1) x = cnt n x + (if x.testBit n then 1 else 0) := by
  unfold cnt pl
  rw [List.range_succ, List.filter_append, List.length_append]
  congr 1
  by_cases h : x.testBit n <;> simp [h]
theorem xor_cancel (x y : Nat) : x ^^^ y ^^^ y = x := by rw [Nat.xor_assoc, Nat.xor_self, Nat.xor_zero]
theorem xor_cancel' (x y : Nat) : x ^^^ (x ^^^ y) = y := by rw [← Nat.xor_assoc, Nat.xor_self, Nat.zero_xor]
theorem xor_eq0 {x y : Nat} (h : x ^^^ y = 0) : x = y := by
  have := xor_cancel x y
  rw [h, Nat.zero_xor] at this
  exact this.symm

/-! ### spans -/
def spanL : List Nat → List Nat
  | [] => [0]
  | e :: E => spanL E ++ (spanL E).map (· ^^^ e)
def Sp (E : List Nat) (x : Nat) : Prop := x ∈ spanL E
instance (E : List Nat) (x : Nat) : Decidable (Sp E x) := inferInstanceAs (Decidable (x ∈ spanL E))
theorem sp_nil {x : Nat} : Sp [] x ↔ x = 0 := by unfold Sp spanL; simp
theorem sp_cons {e x : Nat} {E : List Nat} : Sp (e :: E) x ↔ Sp E x ∨ Sp E (x ^^^ e) := by
  unfold Sp
  rw [spanL, List.mem_append, List.mem_map]
  constructor
  · rintro (h | ⟨y, h, rfl⟩)
    · exact .inl h
    · right; rw [xor_cancel]; exact h
  · rintro (h | h)
    · exact .inl h
    · exact .inr ⟨_, h, xor_cancel _ _⟩
theorem sp_zero : ∀ E : List Nat, Sp E 0
  | [] => sp_nil.mpr rfl
  | _ :: E => sp_cons.mpr (.inl (sp_zero E))
theorem sp_xor : ∀ {E : List Nat} {x y : Nat}, Sp E x → Sp E y → Sp E (x ^^^ y)
  | [], x, y, h, k => by
    rw [sp_nil] at h k
    subst h k
    exact sp_nil.mpr rfl
  | e :: E, x, y, h, k => by
    rw [sp_cons] at h k ⊢
    rcases h with h | h <;> rcases k with k | k
    · exact .inl (sp_xor h k)
    · right; rw [Nat.xor_assoc]; exact sp_xor h k
    · right
      have := sp_xor h k
      rwa [Nat.xor_assoc, Nat.xor_comm e y, ← Nat.xor_assoc] at this
    · left
      have := sp_xor h k
      rw [Nat.xor_comm y e, ← Nat.xor_assoc, xor_cancel] at this
      exact this
theorem sp_mem : ∀ {E : List Nat} {e : Nat}, e ∈ E → Sp E e
  | f :: E, e, h => by
    rw [sp_cons]
    rcases List.mem_cons.mp h with rfl | h
    · right; rw [Nat.xor_self]; exact sp_zero E
    · exact .inl (sp_mem h)
theorem sp_lt {n : Nat} : ∀ {E : List Nat} {x : Nat}, (∀ e ∈ E, e < 2 ^ n) → Sp E x → x < 2 ^ n
  | [], x, _, h => by
    rw [sp_nil] at h
    subst h
    exact Nat.two_pow_pos n
  | e :: E, x, hE, h => by
    rw [sp_cons] at h
    rcases h with h | h
    · exact sp_lt (fun e' m => hE e' (List.mem_cons_of_mem _ m)) h
    · have := sp_lt (fun e' m => hE e' (List.mem_cons_of_mem _ m)) h
      have := Nat.xor_lt_two_pow this (hE e List.mem_cons_self)
      rwa [xor_cancel] at this
end CM

/-! CmB: going on and on from a row: distances. -/
namespace CM
def ks (s : List (Nat × Nat)) : List Nat := s.map (·.1)
/-- the value at a key -/
def vl : List (Nat × Nat) → Nat → Nat
  | [], _ => 0
  | p :: s, x => if p.1 = x then p.2 else vl s x
def visit (h : Nat) (st : List (Nat × Nat) × List Nat) (e : Nat) : List (Nat × Nat) × List Nat :=
  if (h ^^^ e) ∈ ks st.1 then st else (st.1 ++ [(h ^^^ e, vl st.1 h + 1)], st.2 ++ [h ^^^ e])
def layer (E : List Nat) (s : List (Nat × Nat)) (l : List Nat) : List (Nat × Nat) × List Nat := l.foldl (fun st h => E.foldl (visit h) st) (s, [])
/-- the state behind k turns -/
def bfsSt (E : List Nat) (x : Nat) : Nat → List (Nat × Nat) × List Nat
  | 0 => ([(x, 0)], [x])
  | k + 1 => layer E (bfsSt E x k).1 (bfsSt E x k).2
theorem vl_app {s t : List (Nat × Nat)} {x : Nat} (h : x ∈ ks s) : vl (s ++ t) x = vl s x := by
  induction s with
  | nil => simp [ks] at h
  | cons p s ih =>
    show (if p.1 = x then p.2 else vl (s ++ t) x) = if p.1 = x then p.2 else vl s x
    by_cases e : p.1 = x
    · rw [if_pos e, if_pos e]
    · rw [if_neg e, if_neg e]
      refine ih ?_
      rcases List.mem_cons.mp (show x ∈ p.1 :: ks s from h) with q | q
      · exact absurd q.symm e
      · exact q
theorem vl_appr {s t : List (Nat × Nat)} {x : Nat} (h : x ∉ ks s) : vl (s ++ t) x = vl t x := by
  induction s with
  | nil => rfl
  | cons p s ih =>
    show (if p.1 = x then p.2 else vl (s ++ t) x) = vl t x
    have h' : x ≠ p.1 ∧ x ∉ ks s := by simpa [ks] using h
    rw [if_neg (fun e => h'.1 e.symm)]
    exact ih h'.2
theorem vl_const {c x : Nat} : ∀ {l : List Nat}, x ∈ l → vl (l.map fun y => (y, c)) x = c
  | y :: l, h => by
    show (if y = x then c else vl (l.map fun y => (y, c)) x) = c
    by_cases e : y = x
    · rw [if_pos e]
    · rw [if_neg e]
      exact vl_const ((List.mem_cons.mp h).resolve_left fun q => e q.symm)
theorem ks_const {c : Nat} {l : List Nat} : ks (l.map fun y => (y, c)) = l := by
  unfold ks
  rw [List.map_map]
  exact List.map_id' l
theorem ks_app {s t : List (Nat × Nat)} : ks (s ++ t) = ks s ++ ks t := by unfold ks; rw [List.map_append]
/-- at most k moves -/
def Wk (E : List Nat) : Nat → Nat → Prop
  | 0, z => z = 0
  | k + 1, z => Wk E k z ∨ ∃ e ∈ E, Wk E k (z ^^^ e)
theorem wk_mono {E : List Nat} {z : Nat} : ∀ {k j : Nat}, k ≤ j → Wk E k z → Wk E j z
  | k, j, h, w => by
    induction j with
    | zero => have : k = 0 := by omega
              subst this; exact w
    | succ j ih =>
      by_cases e : k = j + 1
      · subst e; exact w
      · exact .inl (ih (by omega))
theorem wk_sp {E : List Nat} : ∀ {k z : Nat}, Wk E k z → Sp E z
  | 0, z, h => by rw [show z = 0 from h]; exact sp_zero E
  | k + 1, z, h => by
    rcases h with h | ⟨e, m, h⟩
    · exact wk_sp h
    · have := sp_xor (wk_sp h) (sp_mem m)
      rwa [xor_cancel] at this
theorem sp_wk : ∀ {E F : List Nat} {z : Nat}, (∀ e ∈ E, e ∈ F) → Sp E z → ∃ k, k ≤ E.length ∧ Wk F k z
  | [], F, z, _, h => ⟨0, Nat.le_refl _, sp_nil.mp h⟩
  | e :: E, F, z, hE, h => by
    have k : ∀ e ∈ E, e ∈ F := fun e m => hE e (List.mem_cons_of_mem _ m)
    rcases sp_cons.mp h with h | h
    · obtain ⟨j, hj, w⟩ := sp_wk k h
      exact ⟨j, Nat.le_succ_of_le hj, w⟩
    · obtain ⟨j, hj, w⟩ := sp_wk k h
      exact ⟨j + 1, Nat.succ_le_succ hj, .inr ⟨e, hE e List.mem_cons_self, w⟩⟩
/-- what a layer adds -/
structure Lay (E : List Nat) (k : Nat) (s : List (Nat × Nat)) (done : List (Nat × Nat)) (st : List (Nat × Nat) × List Nat) : Prop where
  eq : st.1 = s ++ st.2.map fun y => (y, k + 1)
  nd : (ks s ++ st.2).Nodup
  fr : ∀ y ∈ st.2, ∃ q ∈ done, y = q.1 ^^^ q.2
  al : ∀ q ∈ done, (q.1 ^^^ q.2) ∈ ks s ++ st.2
theorem lay_visit {E : List Nat} {k h e : Nat} {s done : List (Nat × Nat)} {st : List (Nat × Nat) × List Nat} (H : Lay E k s done st) (hs : h ∈ ks s) (hv : vl s h = k) : Lay E k s (done ++ [(h, e)]) (visit h st e) := by
  have hk : ks st.1 = ks s ++ st.2 := by rw [H.eq, ks_app, ks_const]
  unfold visit
  rw [hk]
  by_cases c : (h ^^^ e) ∈ ks s ++ st.2
  · rw [if_pos c]
    refine ⟨H.eq, H.nd, fun y m => ?_, fun q m => ?_⟩
    · obtain ⟨q, m1, e1⟩ := H.fr y m
      exact ⟨q, List.mem_append_left _ m1, e1⟩
    · rcases List.mem_append.mp m with m | m
      · exact H.al q m
      · rw [List.mem_singleton.mp m]; exact c
  · rw [if_neg c]
    have hvl : vl st.1 h = k := by rw [H.eq, vl_app hs]; exact hv
    refine ⟨?_, ?_, fun y m => ?_, fun q m => ?_⟩
    · show st.1 ++ [(h ^^^ e, vl st.1 h + 1)] = s ++ (st.2 ++ [h ^^^ e]).map fun y => (y, k + 1)
      rw [hvl, H.eq, List.map_append, ← List.append_assoc]
      rfl
    · show (ks s ++ (st.2 ++ [h ^^^ e])).Nodup
      rw [← List.append_assoc, List.nodup_append]
      refine ⟨H.nd, by simp, fun a ha b hb => ?_⟩
      rw [List.mem_singleton.mp hb]
      exact fun q => c (q ▸ ha)
    · rcases List.mem_append.mp (show y ∈ st.2 ++ [h ^^^ e] from m) with m | m
      · obtain ⟨q, m1, e1⟩ := H.fr y m
        exact ⟨q, List.mem_append_left _ m1, e1⟩
      · exact ⟨(h, e), List.mem_append_right _ List.mem_cons_self, List.mem_singleton.mp m⟩
    · show (q.1 ^^^ q.2) ∈ ks s ++ (st.2 ++ [h ^^^ e])
      rw [← List.append_assoc]
      rcases List.mem_append.mp m with m | m
      · exact List.mem_append_left _ (H.al q m)
      · rw [List.mem_singleton.mp m]; exact List.mem_append_right _ List.mem_cons_self
theorem lay_row {E : List Nat} {k h : Nat} {s : List (Nat × Nat)} (hs : h ∈ ks s) (hv : vl s h = k) : ∀ (es : List Nat) {done : List (Nat × Nat)} {st : List (Nat × Nat) × List Nat}, Lay E k s done st → Lay E k s (done ++ es.map fun e => (h, e)) (es.foldl (visit h) st)
  | [], done, st, H => by simpa using H
  | e :: es, done, st, H => by
    have := lay_row hs hv es (lay_visit (e := e) H hs hv)
    rw [List.append_assoc] at this
    exact this
theorem lay_all {E : List Nat} {k : Nat} {s : List (Nat × Nat)} : ∀ (l : List Nat) {done : List (Nat × Nat)} {st : List (Nat × Nat) × List Nat}, (∀ h ∈ l, h ∈ ks s ∧ vl s h = k) → Lay E k s done st →
    Lay E k s (done ++ l.flatMap fun h => E.map fun e => (h, e)) (l.foldl (fun st h => E.foldl (visit h) st) st)
  | [], done, st, _, H => by simpa using H
  | h :: l, done, st, hl, H => by
    have h1 := hl h List.mem_cons_self
    have := lay_all l (fun h m => hl h (List.mem_cons_of_mem _ m)) (lay_row h1.1 h1.2 E H)
    rw [List.append_assoc] at this
    exact this
/-- the state behind k turns: all that at most k moves reach -/
structure Bk (E : List Nat) (x k : Nat) (st : List (Nat × Nat) × List Nat) : Prop where
  nd : (ks st.1).Nodup
  mem : ∀ y, y ∈ ks st.1 ↔ Wk E k (x ^^^ y)
  val : ∀ y ∈ ks st.1, ∀ j, Wk E j (x ^^^ y) ↔ vl st.1 y ≤ j
  ln : ∀ y, y ∈ st.2 ↔ y ∈ ks st.1 ∧ vl st.1 y = k
theorem bk_next {E : List Nat} {x k : Nat} {st : List (Nat × Nat) × List Nat} (B : Bk E x k st) : Bk E x (k + 1) (layer E st.1 st.2) ∧ Lay E k st.1 (st.2.flatMap fun h => E.map fun e => (h, e)) (layer E st.1 st.2) := by
  have L : Lay E k st.1 ([] ++ st.2.flatMap fun h => E.map fun e => (h, e)) (layer E st.1 st.2) := lay_all st.2 (fun h m => (B.ln h).mp m) ⟨by simp, by simpa using B.nd, fun y m => by simp at m, fun q m => by simp at m⟩
  rw [List.nil_append] at L
  refine ⟨?_, L⟩
  have hk : ks (layer E st.1 st.2).1 = ks st.1 ++ (layer E st.1 st.2).2 := by rw [L.eq, ks_app, ks_const]
  have hnew : ∀ y ∈ (layer E st.1 st.2).2, y ∉ ks st.1 := fun y m q => (List.nodup_append.mp L.nd).2.2 y q y m rfl
  have hmem : ∀ y, y ∈ ks (layer E st.1 st.2).1 ↔ Wk E (k + 1) (x ^^^ y) := fun y => by
    rw [hk, List.mem_append]
    constructor
    · rintro (h | h)
      · exact .inl ((B.mem y).mp h)
      · obtain ⟨q, m, rfl⟩ := L.fr y h
        obtain ⟨h', m1, m2⟩ := List.mem_flatMap.mp m
        obtain ⟨e, m3, rfl⟩ := List.mem_map.mp m2
        have w := (B.mem h').mp ((B.ln h').mp m1).1
        exact .inr ⟨e, m3, by rw [Nat.xor_assoc, Nat.xor_assoc, Nat.xor_self, Nat.xor_zero]; exact w⟩
    · rintro (h | ⟨e, m, h⟩)
      · exact .inl ((B.mem y).mpr h)
      · rw [Nat.xor_assoc] at h
        have hm := (B.mem (y ^^^ e)).mpr h
        have hle := (B.val _ hm k).mp h
        by_cases c : vl st.1 (y ^^^ e) = k
        · have := L.al (y ^^^ e, e) (List.mem_flatMap.mpr ⟨y ^^^ e, (B.ln _).mpr ⟨hm, c⟩, List.mem_map.mpr ⟨e, m, rfl⟩⟩)
          rw [show (y ^^^ e) ^^^ e = y from xor_cancel y e] at this
          exact List.mem_append.mp this
        · left
          refine (B.mem y).mpr ?_
          have w : Wk E (k - 1) (x ^^^ (y ^^^ e)) := (B.val _ hm (k - 1)).mpr (by omega)
          have : Wk E (k - 1 + 1) (x ^^^ y) := .inr ⟨e, m, by rw [Nat.xor_assoc]; exact w⟩
          exact wk_mono (by omega) this
  have hv1 : ∀ y ∈ ks st.1, vl (layer E st.1 st.2).1 y = vl st.1 y := fun y m => by rw [L.eq, vl_app m]
  have hv2 : ∀ y ∈ (layer E st.1 st.2).2, vl (layer E st.1 st.2).1 y = k + 1 := fun y m => by rw [L.eq, vl_appr (hnew y m), vl_const m]
  refine ⟨by rw [hk]; exact L.nd, hmem, fun y m j => ?_, fun y => ?_⟩
  · rw [hk, List.mem_append] at m
    rcases m with m | m
    · rw [hv1 y m]; exact B.val y m j
    · rw [hv2 y m]
      constructor
      · intro w
        refine Decidable.byContradiction fun c => hnew y m ((B.mem y).mpr (wk_mono (by omega) w))
      · intro c
        exact wk_mono c ((hmem y).mp (by rw [hk]; exact List.mem_append_right _ m))
  · rw [hk]
    constructor
    · intro m
      exact ⟨List.mem_append_right _ m, hv2 y m⟩
    · rintro ⟨m, c⟩
      rcases List.mem_append.mp m with m | m
      · rw [hv1 y m] at c
        have := (B.val y m k).mp ((B.mem y).mp m)
        omega
      · exact m
theorem bk_all {E : List Nat} {x : Nat} : ∀ k, Bk E x k (bfsSt E x k)
  | 0 => by
    refine ⟨by simp [bfsSt, ks], fun y => ?_, fun y m j => ?_, fun y => ?_⟩
    · show y ∈ [x] ↔ x ^^^ y = 0
      rw [List.mem_singleton]
      constructor
      · rintro rfl; exact Nat.xor_self _
      · intro h; exact (xor_eq0 h).symm
    · have hy : y = x := List.mem_singleton.mp (show y ∈ [x] from m)
      subst hy
      rw [Nat.xor_self]
      have : vl (bfsSt E y 0).1 y = 0 := by simp [bfsSt, vl]
      rw [this]
      exact ⟨fun _ => Nat.zero_le _, fun _ => wk_mono (Nat.zero_le _) (show Wk E 0 0 from rfl)⟩
    · show y ∈ [x] ↔ y ∈ [x] ∧ vl [(x, 0)] y = 0
      rw [List.mem_singleton]
      exact ⟨fun h => ⟨h, by subst h; simp [vl]⟩, fun h => h.1⟩
  | k + 1 => (bk_next (bk_all k)).1
theorem bk_lt {E : List Nat} {x n k y : Nat} (hE : ∀ e ∈ E, e < 2 ^ n) (hx : x < 2 ^ n) (h : y ∈ ks (bfsSt E x k).1) : y < 2 ^ n := by
  have w := wk_sp (((bk_all k).mem y).mp h)
  have := Nat.xor_lt_two_pow hx (sp_lt hE w)
  rwa [xor_cancel'] at this
theorem bk_len {E : List Nat} {x n : Nat} (hE : ∀ e ∈ E, e < 2 ^ n) (hx : x < 2 ^ n) (k : Nat) : (bfsSt E x k).1.length ≤ 2 ^ n := by
  have h := List.Nodup.length_le_of_subset (bk_all (E := E) (x := x) k).nd (l₂ := List.range (2 ^ n)) fun y m => List.mem_range.mpr (bk_lt hE hx m)
  simpa [ks] using h
theorem least {p : Nat → Prop} : ∀ m, (∃ k, k ≤ m ∧ p k) → ∃ k, k ≤ m ∧ p k ∧ ∀ j, j < k → ¬ p j
  | 0, ⟨k, h, w⟩ => ⟨k, h, w, fun j hj => by omega⟩
  | m + 1, ⟨k, h, w⟩ => by
    by_cases c : ∃ k, k ≤ m ∧ p k
    · obtain ⟨k, h1, h2, h3⟩ := least m c
      exact ⟨k, by omega, h2, h3⟩
    · exact ⟨k, h, w, fun j hj q => c ⟨j, by omega, q⟩⟩
theorem bk_grow {E : List Nat} {x : Nat} (k : Nat) : (bfsSt E x (k + 1)).1.length = (bfsSt E x k).1.length + (bfsSt E x (k + 1)).2.length := by
  have L := (bk_next (bk_all (E := E) (x := x) k)).2
  show (layer E (bfsSt E x k).1 (bfsSt E x k).2).1.length = _ + (layer E (bfsSt E x k).1 (bfsSt E x k).2).2.length
  rw [L.eq, List.length_append, List.length_map]
theorem bk_ends {E : List Nat} {x n : Nat} (hE : ∀ e ∈ E, e < 2 ^ n) (hx : x < 2 ^ n) : ∃ k, k ≤ 2 ^ n ∧ (bfsSt E x k).2 = [] ∧ ∀ j, j < k → (bfsSt E x j).2 ≠ [] := by
  have grow : ∀ m, (∀ j, j ≤ m → (bfsSt E x j).2 ≠ []) → m + 1 ≤ (bfsSt E x m).1.length := by
    intro m
    induction m with
    | zero => intro _; exact Nat.le_refl _
    | succ m ih =>
      intro h
      have h1 := ih fun j hj => h j (by omega)
      have h2 := List.length_pos_iff.mpr (h (m + 1) (Nat.le_refl _))
      rw [bk_grow]
      omega
  refine least (p := fun k => (bfsSt E x k).2 = []) (2 ^ n) (Decidable.byContradiction fun c => ?_)
  have h1 := grow (2 ^ n) fun j hj e => c ⟨j, hj, e⟩
  have h2 := bk_len hE hx (2 ^ n)
  omega
/-- the end -/
structure Fin (E : List Nat) (x : Nat) (s : List (Nat × Nat)) : Prop where
  nd : (ks s).Nodup
  mem : ∀ y, y ∈ ks s ↔ Sp E (x ^^^ y)
  val : ∀ y ∈ ks s, ∀ j, Wk E j (x ^^^ y) ↔ vl s y ≤ j
theorem bk_fin {E : List Nat} {x k : Nat} (h : (bfsSt E x k).2 = []) : Fin E x (bfsSt E x k).1 := by
  have B := bk_all (E := E) (x := x) k
  have stop : ∀ j z, Wk E j (x ^^^ z) → Wk E k (x ^^^ z) := by
    intro j
    induction j with
    | zero => exact fun z w => wk_mono (Nat.zero_le _) w
    | succ j ih =>
      rintro z (w | ⟨e, m, w⟩)
      · exact ih z w
      · rw [Nat.xor_assoc] at w
        have hm := (B.mem (z ^^^ e)).mpr (ih _ w)
        have hle := (B.val _ hm k).mp ((B.mem _).mp hm)
        have hne : vl (bfsSt E x k).1 (z ^^^ e) ≠ k := fun c => by
          have := (B.ln (z ^^^ e)).mpr ⟨hm, c⟩
          rw [h] at this
          simp at this
        have w' : Wk E (k - 1) (x ^^^ (z ^^^ e)) := (B.val _ hm (k - 1)).mpr (by omega)
        have : Wk E (k - 1 + 1) (x ^^^ z) := .inr ⟨e, m, by rw [Nat.xor_assoc]; exact w'⟩
        exact wk_mono (by omega) this
  refine ⟨B.nd, fun y => ?_, B.val⟩
  rw [B.mem]
  constructor
  · exact wk_sp
  · intro s
    obtain ⟨j, _, w⟩ := sp_wk (fun _ m => m) s
    exact stop j y w
/-- how many turns -/
def bfsK (E : List Nat) (x : Nat) : Nat → Nat → Nat
  | 0, k => k
  | f + 1, k => if (bfsSt E x k).2 = [] then k else bfsK E x f (k + 1)
def bfs (E : List Nat) (x : Nat) : List (Nat × Nat) := (bfsSt E x (bfsK E x 1000 0)).1
theorem bfsK_eq {E : List Nat} {x k : Nat} (h : (bfsSt E x k).2 = []) : ∀ (f i : Nat), i ≤ k → k < i + f → (∀ j, j < k → (bfsSt E x j).2 ≠ []) → bfsK E x f i = k
  | 0, i, h1, h2, _ => by omega
  | f + 1, i, h1, h2, h3 => by
    unfold bfsK
    by_cases c : i = k
    · subst c; rw [if_pos h]
    · rw [if_neg (h3 i (by omega))]
      exact bfsK_eq h f (i + 1) (by omega) (by omega) h3
theorem bfs_ends {E : List Nat} {x n : Nat} (hn : n ≤ 8) (hE : ∀ e ∈ E, e < 2 ^ n) (hx : x < 2 ^ n) : ∃ k, k ≤ 256 ∧ bfs E x = (bfsSt E x k).1 ∧ (bfsSt E x k).2 = [] ∧ ∀ j, j < k → (bfsSt E x j).2 ≠ [] := by
  obtain ⟨k, h1, h2, h3⟩ := bk_ends hE hx
  have : 2 ^ n ≤ 2 ^ 8 := Nat.pow_le_pow_right (by decide) hn
  refine ⟨k, by omega, ?_, h2, h3⟩
  unfold bfs
  rw [bfsK_eq h2 1000 0 (by omega) (by omega) h3]
theorem bfs_fin {E : List Nat} {x n : Nat} (hn : n ≤ 8) (hE : ∀ e ∈ E, e < 2 ^ n) (hx : x < 2 ^ n) : Fin E x (bfs E x) := by
  obtain ⟨k, _, h1, h2, _⟩ := bfs_ends hn hE hx
  rw [h1]
  exact bk_fin h2
end CM

/-! families of numbers whose lowest bits differ: each sum is made in one way. -/
namespace CM
/-- the sum of the e p where t has bit p, p < m -/
def comb (e : Nat → Nat) : Nat → Nat → Nat
  | 0, _ => 0
  | m + 1, t => comb e m t ^^^ (if t.testBit m = true then e m else 0)
def Ech (e : Nat → Nat) (m : Nat) : Prop := ∀ p, p < m → (∀ i, i < p → (e p).testBit i = false) ∧ (e p).testBit p = true
section
variable {e : Nat → Nat} {m : Nat}
theorem comb_zero : ∀ m, comb e m 0 = 0
  | 0 => rfl
  | m + 1 => by
    show comb e m 0 ^^^ _ = 0
    rw [comb_zero m, Nat.zero_testBit, if_neg Bool.false_ne_true, Nat.xor_zero]
theorem comb_xor (t u : Nat) : ∀ m, comb e m (t ^^^ u) = comb e m t ^^^ comb e m u
  | 0 => (Nat.xor_self 0).symm
  | m + 1 => by
    show comb e m (t ^^^ u) ^^^ _ = (comb e m t ^^^ _) ^^^ (comb e m u ^^^ _)
    rw [comb_xor t u m, Nat.testBit_xor]
    have sw : ∀ a b c d : Nat, (a ^^^ b) ^^^ (c ^^^ d) = (a ^^^ c) ^^^ (b ^^^ d) := fun a b c d => by
      rw [Nat.xor_assoc, Nat.xor_assoc, ← Nat.xor_assoc b c d, Nat.xor_comm b c, Nat.xor_assoc c b d]
    rw [sw]
    congr 1
    cases t.testBit m <;> cases u.testBit m <;> simp
theorem comb_congr {t u : Nat} : ∀ {m : Nat}, (∀ i, i < m → t.testBit i = u.testBit i) → comb e m t = comb e m u
  | 0, _ => rfl
  | m + 1, h => by
    show comb e m t ^^^ _ = comb e m u ^^^ _
    rw [comb_congr fun i hi => h i (by omega), h m (by omega)]
theorem comb_none {t : Nat} : ∀ {k : Nat}, (∀ i, i < k → t.testBit i = false) → comb e k t = 0
  | k, h => by
    have := comb_congr (e := e) (u := 0) fun i hi => by rw [h i hi, Nat.zero_testBit]
    rw [this, comb_zero]
theorem comb_at (H : Ech e m) {t j : Nat} (ht : ∀ i, i < j → t.testBit i = false) : ∀ k, k ≤ m → j < k → (comb e k t).testBit j = t.testBit j
  | 0, _, h => by omega
  | k + 1, hk, hj => by
    show (comb e k t ^^^ _).testBit j = _
    rw [Nat.testBit_xor]
    by_cases hjk : j = k
    · subst hjk
      rw [comb_none ht, Nat.zero_testBit]
      by_cases hb : t.testBit j = true
      · rw [if_pos hb, (H j (by omega)).2, hb]; rfl
      · rw [if_neg hb, Nat.zero_testBit]
        simp at hb
        rw [hb]; rfl
    · rw [comb_at H ht k (by omega) (by omega)]
      by_cases hb : t.testBit k = true
      · rw [if_pos hb, (H k (by omega)).1 j (by omega), Bool.xor_false]
      · rw [if_neg hb, Nat.zero_testBit, Bool.xor_false]
theorem comb_inj0 (H : Ech e m) {t : Nat} (h : comb e m t = 0) : ∀ i, i < m → t.testBit i = false := by
  intro i
  induction i using Nat.strongRecOn with
  | ind i ih =>
    intro hi
    have := comb_at H (t := t) (j := i) (fun j hj => ih j hj (by omega)) m (Nat.le_refl _) hi
    rw [h, Nat.zero_testBit] at this
    exact this.symm
theorem comb_pow {p : Nat} : ∀ {m : Nat}, p < m → comb e m (2 ^ p) = e p
  | 0, h => by omega
  | m + 1, h => by
    show comb e m (2 ^ p) ^^^ _ = _
    by_cases hp : p = m
    · subst hp
      rw [comb_none (fun i hi => by rw [Nat.testBit_two_pow]; exact decide_eq_false (by omega)), Nat.testBit_two_pow_self, if_pos rfl, Nat.zero_xor]
    · rw [comb_pow (by omega), Nat.testBit_two_pow, if_neg (by simp; omega), Nat.xor_zero]
theorem span_in {P : Nat → Prop} (h0 : P 0) (hx : ∀ a b, P a → P b → P (a ^^^ b)) : ∀ {E : List Nat} {x : Nat}, (∀ e ∈ E, P e) → Sp E x → P x
  | [], x, _, h => by rw [sp_nil.mp h]; exact h0
  | a :: E, x, hE, h => by
    rcases sp_cons.mp h with h | h
    · exact span_in h0 hx (fun e m => hE e (List.mem_cons_of_mem _ m)) h
    · have := hx _ _ (span_in h0 hx (fun e m => hE e (List.mem_cons_of_mem _ m)) h) (hE a List.mem_cons_self)
      rwa [xor_cancel] at this
theorem comb_sp (t : Nat) : ∀ k, k ≤ m → Sp ((List.range m).map e) (comb e k t)
  | 0, _ => sp_zero _
  | k + 1, h => by
    show Sp _ (comb e k t ^^^ _)
    refine sp_xor (comb_sp t k (by omega)) ?_
    split
    · exact sp_mem (List.mem_map.mpr ⟨k, List.mem_range.mpr (by omega), rfl⟩)
    · exact sp_zero _
theorem sp_comb {z : Nat} : Sp ((List.range m).map e) z ↔ ∃ t, t < 2 ^ m ∧ comb e m t = z := by
  constructor
  · intro h
    refine span_in (P := fun z => ∃ t, t < 2 ^ m ∧ comb e m t = z) ⟨0, Nat.two_pow_pos m, comb_zero m⟩ ?_ ?_ h
    · rintro a b ⟨t, ht, rfl⟩ ⟨u, hu, rfl⟩
      exact ⟨t ^^^ u, Nat.xor_lt_two_pow ht hu, comb_xor t u m⟩
    · intro a ha
      obtain ⟨p, hp, rfl⟩ := List.mem_map.mp ha
      have := List.mem_range.mp hp
      exact ⟨2 ^ p, Nat.pow_lt_pow_right (by decide) this, comb_pow this⟩
  · rintro ⟨t, _, rfl⟩
    exact comb_sp t m (Nat.le_refl _)
theorem cnt_flip {m p t : Nat} (hp : p < m) : cnt m t ≤ cnt m (t ^^^ 2 ^ p) + 1 := by
  induction m with
  | zero => omega
  | succ m ih =>
    rw [cnt_succ, cnt_succ]
    by_cases h : p = m
    · subst h
      have : cnt p (t ^^^ 2 ^ p) = cnt p t := by
        unfold cnt pl
        congr 1
        refine List.filter_congr fun i hi => ?_
        rw [Nat.testBit_xor, Nat.testBit_two_pow, decide_eq_false (by have := List.mem_range.mp hi; omega), Bool.xor_false]
      rw [this]
      split <;> omega
    · have := ih (by omega)
      have hb : (t ^^^ 2 ^ p).testBit m = t.testBit m := by
        rw [Nat.testBit_xor, Nat.testBit_two_pow, decide_eq_false (by omega), Bool.xor_false]
      rw [hb]
      omega
theorem wk_comb (H : Ech e m) : ∀ {k t : Nat}, Wk ((List.range m).map e) k (comb e m t) → cnt m t ≤ k
  | 0, t, h => by
    have h0 := comb_inj0 H (show comb e m t = 0 from h)
    have : pl m t = [] := List.filter_eq_nil_iff.mpr fun i hi => by rw [h0 i (List.mem_range.mp hi)]; exact Bool.false_ne_true
    unfold cnt
    rw [this]; exact Nat.le_refl _
  | k + 1, t, h => by
    rcases h with h | ⟨a, ha, h⟩
    · exact Nat.le_succ_of_le (wk_comb H h)
    · obtain ⟨p, hp, rfl⟩ := List.mem_map.mp ha
      have hp' := List.mem_range.mp hp
      rw [← comb_pow (e := e) hp', ← comb_xor] at h
      have := wk_comb H h
      have := cnt_flip (t := t) hp'
      omega
theorem comb_wk (t : Nat) : ∀ k, k ≤ m → Wk ((List.range m).map e) (cnt k t) (comb e k t)
  | 0, _ => rfl
  | k + 1, h => by
    have ih := comb_wk t k (by omega)
    rw [cnt_succ]
    show Wk _ _ (comb e k t ^^^ _)
    split
    · refine .inr ⟨e k, List.mem_map.mpr ⟨k, List.mem_range.mpr (by omega), rfl⟩, ?_⟩
      rw [xor_cancel]
      exact ih
    · rw [Nat.xor_zero]; exact ih
end
end CM

/-! Ma: the law's draws. -/
namespace CO
open PySem PySem.Spec PyProof.Rows L2

theorem atI_in {α : Type} {xs : List α} {i : Nat} (h : i < xs.length) : atI xs (i : Int) = some xs[i] := by
  unfold atI ixN
  simp [h]
theorem cell_at {ns : List Int} (k : Nat) (wd : List Ob) (hl : ns.length ≤ 63) : ∃ c : Int, Run m__law_cell_at [.sc ns, .sh (.int k)] wd (.sh (.int c)) wd := by
  by_cases h1 : k < ns.length
  · refine ⟨ns[k], Run.ret (sl := [.sc ns, .sh (.int k), .no, .no]) ?_⟩
    show f__law_cell_at ⟨[.sc ns, .sh (.int k), .no, .no], wd⟩ = _
    have h1' : (k : Int) < (ns.length : Int) := by omega
    unfold f__law_cell_at
    simp only [cIf_t, bind_ok, bind_ex, bind_st, get_mk, set_mk, sSeq, sEx, sRet, sIf, sSet, sPass, sEx_, sBk, sAsg, sPar2, sPar3, thenS, dv, toD, eC, eN, eMv, eP, eBin, tst, eChain, tAndM, tOrM, tNotM, eAnd, eOr, eNot, eIf, toA, aNil, aCons, asDs, dvs, eTup, eLst, eCall, eIx, eIxN, itemE, eSl, pNo, pSo, cutD, gLen, eLenN, lenD, gList, gTuple, gN, gT, setAll, eMt, tyD, eIsi, gAdd, gSub, gDiv, gMod, gMul, gPow, gLt, gLe, gGt, gGe, gStr, gMin, gIn, gNotIn, gIs, gIsNot, isD, eLenSc, eIxSc, eScNil, eAppTn, sTown, tYesM, noEx_ok, itemG, stepS, iAll, itemsOf, iR1, iR2, wipeE, restE, keepE, sAug, gIadd, gImul, eApp, eExt, eNeg, List.getD_cons_zero, List.getD_cons_succ, List.set_cons_zero, List.set_cons_succ, List.getElem?_cons_zero, List.getElem?_cons_succ, Option.map_some, Option.map_none, Bool.not_true, Bool.not_false, beq_self_eq_true, if_true, if_false, ite_true, ite_false, Bool.false_eq_true, reduceIte, reduceCtorEq, lenL_0, lenL_1, lenL_2, lenL_3, lenL_4, lenL_5, lenL_6, lenL_7, lenL_8, lenL_9, lenL_10, lenL_11, lenL_12, h1', decide_true, atI_in h1]
  · by_cases h2 : ns = []
    · subst h2
      refine ⟨0, Run.ret (sl := [.sc [], .sh (.int k), .no, .no]) ?_⟩
      show f__law_cell_at ⟨[.sc [], .sh (.int k), .no, .no], wd⟩ = _
      have h1' : ¬ (k : Int) < 0 := by omega
      unfold f__law_cell_at
      simp [cIf_t, bind_ok, bind_ex, bind_st, get_mk, set_mk, sSeq, sEx, sRet, sIf, sSet, sPass, sEx_, sBk, sAsg, sPar2, sPar3, thenS, dv, toD, eC, eN, eMv, eP, eBin, tst, eChain, tAndM, tOrM, tNotM, eAnd, eOr, eNot, eIf, toA, aNil, aCons, asDs, dvs, eTup, eLst, eCall, eIx, eIxN, itemE, eSl, pNo, pSo, cutD, gLen, eLenN, lenD, gList, gTuple, gN, gT, setAll, eMt, tyD, eIsi, gAdd, gSub, gDiv, gMod, gMul, gPow, gLt, gLe, gGt, gGe, gStr, gMin, gIn, gNotIn, gIs, gIsNot, isD, eLenSc, eIxSc, eScNil, eAppTn, sTown, tYesM, noEx_ok, itemG, stepS, iAll, itemsOf, iR1, iR2, wipeE, restE, keepE, sAug, gIadd, gImul, eApp, eExt, eNeg, List.getD_cons_zero, List.getD_cons_succ, List.set_cons_zero, List.set_cons_succ, List.getElem?_cons_zero, List.getElem?_cons_succ, Option.map_some, Option.map_none, Bool.not_true, Bool.not_false, beq_self_eq_true, if_true, if_false, ite_true, ite_false, Bool.false_eq_true, reduceIte, reduceCtorEq, lenL_0, lenL_1, lenL_2, lenL_3, lenL_4, lenL_5, lenL_6, lenL_7, lenL_8, lenL_9, lenL_10, lenL_11, lenL_12, h1']
    · have hp : 0 < ns.length := List.length_pos_iff.mpr h2
      have h1' : ¬ (k : Int) < (ns.length : Int) := by omega
      have hm : k % ns.length < ns.length := Nat.mod_lt _ hp
      have hm' : ((k : Int) % (ns.length : Int)) = ((k % ns.length : Nat) : Int) := by simp
      have he : ns.isEmpty = false := by cases ns; exact absurd rfl h2; rfl
      have hp' : (0 : Int) < (ns.length : Int) := by omega
      have hp2 : (0 : Int) < (ns.length : Int) ∧ (ns.length : Int) < 1073741824 := by omega
      have hr : ∀ n : Nat, ∃ c : Int, ∃ e, forGo (gN 3) (sSet 2 (eBin gDiv (eN 2) (eC (.int 1000003)))) (rangeL 0 n) ⟨[.sc ns, .sh (.int k), .sh (.int ns[k % ns.length]), .no], wd⟩ = .ok .nx ⟨[.sc ns, .sh (.int k), .sh (.int c), e], wd⟩ := by
        intro n
        obtain ⟨e', h3, z, x, h4⟩ := for_run (S := Unit) (g := gN 3) (b := sSet 2 (eBin gDiv (eN 2) (eC (.int 1000003)))) (fun _ e => ∃ (c : Int) (x : Ent), e = ⟨[.sc ns, .sh (.int k), .sh (.int c), x], wd⟩) (fun s _ => s) (rangeL 0 n) () _ ⟨_, _, rfl⟩ (by
          rintro d hd s e ⟨c, x, rfl⟩
          refine ⟨_, ?_, c / 1000003, .sh d, rfl⟩
          simp [cIf_t, bind_ok, bind_ex, bind_st, get_mk, set_mk, sSeq, sEx, sRet, sIf, sSet, sPass, sEx_, sBk, sAsg, sPar2, sPar3, thenS, dv, toD, eC, eN, eMv, eP, eBin, tst, eChain, tAndM, tOrM, tNotM, eAnd, eOr, eNot, eIf, toA, aNil, aCons, asDs, dvs, eTup, eLst, eCall, eIx, eIxN, itemE, eSl, pNo, pSo, cutD, gLen, eLenN, lenD, gList, gTuple, gN, gT, setAll, eMt, tyD, eIsi, gAdd, gSub, gDiv, gMod, gMul, gPow, gLt, gLe, gGt, gGe, gStr, gMin, gIn, gNotIn, gIs, gIsNot, isD, eLenSc, eIxSc, eScNil, eAppTn, sTown, tYesM, noEx_ok, itemG, stepS, iAll, itemsOf, iR1, iR2, wipeE, restE, keepE, sAug, gIadd, gImul, eApp, eExt, eNeg, List.getD_cons_zero, List.getD_cons_succ, List.set_cons_zero, List.set_cons_succ, List.getElem?_cons_zero, List.getElem?_cons_succ, Option.map_some, Option.map_none, Bool.not_true, Bool.not_false, beq_self_eq_true, if_true, if_false, ite_true, ite_false, Bool.false_eq_true, reduceIte, reduceCtorEq, lenL_0, lenL_1, lenL_2, lenL_3, lenL_4, lenL_5, lenL_6, lenL_7, lenL_8, lenL_9, lenL_10, lenL_11, lenL_12])
        subst h4
        exact ⟨z, x, h3⟩
      obtain ⟨c, e, hc⟩ := hr (if (60 : Int) < (k : Int) / (ns.length : Int) then (60 : Int) else (k : Int) / (ns.length : Int)).toNat
      have hb : ∀ q : Int, 0 ≤ q → ((if (60 : Int) < q then (60 : Int) else q) ≤ 100000 ∧ -100000 ≤ (if (60 : Int) < q then (60 : Int) else q)) := by
        intro q hq
        split <;> omega
      have hb2 := hb ((k : Int) / (ns.length : Int)) (Int.ediv_nonneg (by omega) (by omega))
      refine ⟨ns[k % ns.length] * 31 + k + c * 101, Run.ret (sl := [.sc ns, .sh (.int k), .sh (.int c), e]) ?_⟩
      show f__law_cell_at ⟨[.sc ns, .sh (.int k), .no, .no], wd⟩ = _
      unfold f__law_cell_at
      simp only [cIf_t, bind_ok, bind_ex, bind_st, get_mk, set_mk, sSeq, sEx, sRet, sIf, sSet, sPass, sEx_, sBk, sAsg, sPar2, sPar3, thenS, dv, toD, eC, eN, eMv, eP, eBin, tst, eChain, tAndM, tOrM, tNotM, eAnd, eOr, eNot, eIf, toA, aNil, aCons, asDs, dvs, eTup, eLst, eCall, eIx, eIxN, itemE, eSl, pNo, pSo, cutD, gLen, eLenN, lenD, gList, gTuple, gN, gT, setAll, eMt, tyD, eIsi, gAdd, gSub, gDiv, gMod, gMul, gPow, gLt, gLe, gGt, gGe, gStr, gMin, gIn, gNotIn, gIs, gIsNot, isD, eLenSc, eIxSc, eScNil, eAppTn, sTown, tYesM, noEx_ok, itemG, stepS, iAll, itemsOf, iR1, iR2, wipeE, restE, keepE, sAug, gIadd, gImul, eApp, eExt, eNeg, List.getD_cons_zero, List.getD_cons_succ, List.set_cons_zero, List.set_cons_succ, List.getElem?_cons_zero, List.getElem?_cons_succ, Option.map_some, Option.map_none, Bool.not_true, Bool.not_false, beq_self_eq_true, if_true, if_false, ite_true, ite_false, Bool.false_eq_true, reduceIte, reduceCtorEq, lenL_0, lenL_1, lenL_2, lenL_3, lenL_4, lenL_5, lenL_6, lenL_7, lenL_8, lenL_9, lenL_10, lenL_11, lenL_12, h1', decide_false, he, hp', hm', atI_in hm, sFor, hp2, and_self, cIf_t, hb2, hc]
      simp [cIf_t, bind_ok, bind_ex, bind_st, get_mk, set_mk, sSeq, sEx, sRet, sIf, sSet, sPass, sEx_, sBk, sAsg, sPar2, sPar3, thenS, dv, toD, eC, eN, eMv, eP, eBin, tst, eChain, tAndM, tOrM, tNotM, eAnd, eOr, eNot, eIf, toA, aNil, aCons, asDs, dvs, eTup, eLst, eCall, eIx, eIxN, itemE, eSl, pNo, pSo, cutD, gLen, eLenN, lenD, gList, gTuple, gN, gT, setAll, eMt, tyD, eIsi, gAdd, gSub, gDiv, gMod, gMul, gPow, gLt, gLe, gGt, gGe, gStr, gMin, gIn, gNotIn, gIs, gIsNot, isD, eLenSc, eIxSc, eScNil, eAppTn, sTown, tYesM, noEx_ok, itemG, stepS, iAll, itemsOf, iR1, iR2, wipeE, restE, keepE, sAug, gIadd, gImul, eApp, eExt, eNeg, List.getD_cons_zero, List.getD_cons_succ, List.set_cons_zero, List.set_cons_succ, List.getElem?_cons_zero, List.getElem?_cons_succ, Option.map_some, Option.map_none, Bool.not_true, Bool.not_false, beq_self_eq_true, if_true, if_false, ite_true, ite_false, Bool.false_eq_true, reduceIte, reduceCtorEq, lenL_0, lenL_1, lenL_2, lenL_3, lenL_4, lenL_5, lenL_6, lenL_7, lenL_8, lenL_9, lenL_10, lenL_11, lenL_12]
theorem mixed {ns : List Int} (k : Nat) {many : Nat} (wd : List Ob) (hl : ns.length ≤ 63) (hm : 0 < many) : ∃ v : Nat, v < many ∧ Run m__law_mixed [.sc ns, .sh (.int k), .sh (.int many)] wd (.sh (.int v)) wd := by
  obtain ⟨c, hc⟩ := cell_at k wd hl
  have hm' : (0 : Int) < (many : Int) := by omega
  have hcall := call_run (n := 2) (ms := aCons (eN 0) (aCons (eN 1) aNil)) (en := ⟨[.sc ns, .sh (.int k), .sh (.int many), .no], wd⟩) (sl := [.sc ns, .sh (.int k), .sh (.int many), .no]) (by simp only [cIf_t, bind_ok, bind_ex, bind_st, get_mk, set_mk, sSeq, sEx, sRet, sIf, sSet, sPass, sEx_, sBk, sAsg, sPar2, sPar3, thenS, dv, toD, eC, eN, eMv, eP, eBin, tst, eChain, tAndM, tOrM, tNotM, eAnd, eOr, eNot, eIf, toA, aNil, aCons, asDs, dvs, eTup, eLst, eCall, eIx, eIxN, itemE, eSl, pNo, pSo, cutD, gLen, eLenN, lenD, gList, gTuple, gN, gT, setAll, eMt, tyD, eIsi, gAdd, gSub, gDiv, gMod, gMul, gPow, gLt, gLe, gGt, gGe, gStr, gMin, gIn, gNotIn, gIs, gIsNot, isD, eLenSc, eIxSc, eScNil, eAppTn, sTown, tYesM, noEx_ok, itemG, stepS, iAll, itemsOf, iR1, iR2, wipeE, restE, keepE, sAug, gIadd, gImul, eApp, eExt, eNeg, List.getD_cons_zero, List.getD_cons_succ, List.set_cons_zero, List.set_cons_succ, List.getElem?_cons_zero, List.getElem?_cons_succ, Option.map_some, Option.map_none, Bool.not_true, Bool.not_false, beq_self_eq_true, if_true, if_false, ite_true, ite_false, Bool.false_eq_true, reduceIte, reduceCtorEq, lenL_0, lenL_1, lenL_2, lenL_3, lenL_4, lenL_5, lenL_6, lenL_7, lenL_8, lenL_9, lenL_10, lenL_11, lenL_12]) rfl hc
  let x := (c * 1103515245 + 7919 * (k : Int) + 12345) % 2147483647
  have hx : 0 ≤ x ∧ x < 2147483647 := ⟨Int.emod_nonneg _ (by decide), Int.emod_lt_of_pos _ (by decide)⟩
  have hx2 : x.natAbs < 2 ^ 64 := by
    have : x.natAbs < 2147483647 := by omega
    omega
  let v := x ^ 5 % 2147483647 % 999983 % (many : Int)
  have hv : 0 ≤ v ∧ v < many := ⟨Int.emod_nonneg _ (by omega), Int.emod_lt_of_pos _ hm'⟩
  refine ⟨v.toNat, by omega, Run.ret (sl := [.sc ns, .sh (.int k), .sh (.int many), .sh (.int x)]) ?_⟩
  show f__law_mixed ⟨[.sc ns, .sh (.int k), .sh (.int many), .no], wd⟩ = _
  have e : ((v.toNat : Nat) : Int) = v := Int.toNat_of_nonneg hv.1
  rw [e]
  unfold f__law_mixed
  have g1 : (-(2 ^ 64 : Int) < 1103515245 ∧ (1103515245 : Int) < 2 ^ 64) := by decide
  have g2 : (-(2 ^ 64 : Int) < 7919 ∧ (7919 : Int) < 2 ^ 64) := by decide
  have g3 : (0 : Int) < 2147483647 := by decide
  have g4 : (0 : Int) < 999983 := by decide
  have g5 : (0 : Int) ≤ 5 ∧ (5 : Int) ≤ 1000000 := by decide
  simp only [sSeq, sSet, eBin, dv, hcall]
  simp only [cIf_t, bind_ok, bind_ex, bind_st, get_mk, set_mk, sSeq, sEx, sRet, sIf, sSet, sPass, sEx_, sBk, sAsg, sPar2, sPar3, thenS, dv, toD, eC, eN, eMv, eP, eBin, tst, eChain, tAndM, tOrM, tNotM, eAnd, eOr, eNot, eIf, toA, aNil, aCons, asDs, dvs, eTup, eLst, eCall, eIx, eIxN, itemE, eSl, pNo, pSo, cutD, gLen, eLenN, lenD, gList, gTuple, gN, gT, setAll, eMt, tyD, eIsi, gAdd, gSub, gDiv, gMod, gMul, gPow, gLt, gLe, gGt, gGe, gStr, gMin, gIn, gNotIn, gIs, gIsNot, isD, eLenSc, eIxSc, eScNil, eAppTn, sTown, tYesM, noEx_ok, itemG, stepS, iAll, itemsOf, iR1, iR2, wipeE, restE, keepE, sAug, gIadd, gImul, eApp, eExt, eNeg, List.getD_cons_zero, List.getD_cons_succ, List.set_cons_zero, List.set_cons_succ, List.getElem?_cons_zero, List.getElem?_cons_succ, Option.map_some, Option.map_none, Bool.not_true, Bool.not_false, beq_self_eq_true, if_true, if_false, ite_true, ite_false, Bool.false_eq_true, reduceIte, reduceCtorEq, lenL_0, lenL_1, lenL_2, lenL_3, lenL_4, lenL_5, lenL_6, lenL_7, lenL_8, lenL_9, lenL_10, lenL_11, lenL_12, g1, g2, g3, g4, or_true, true_or, and_self, cIf_t]
  have g6 : (0 : Int) ≤ 5 ∧ (5 : Int) ≤ 1000000 ∧ ((c * 1103515245 + 7919 * (k : Int) + 12345) % 2147483647).natAbs < 2 ^ 64 := ⟨by decide, by decide, hx2⟩
  simp only [g3, g4, g6, hm', and_self, cIf_t, cIf_t, bind_ok, bind_ex, bind_st, get_mk, set_mk, sSeq, sEx, sRet, sIf, sSet, sPass, sEx_, sBk, sAsg, sPar2, sPar3, thenS, dv, toD, eC, eN, eMv, eP, eBin, tst, eChain, tAndM, tOrM, tNotM, eAnd, eOr, eNot, eIf, toA, aNil, aCons, asDs, dvs, eTup, eLst, eCall, eIx, eIxN, itemE, eSl, pNo, pSo, cutD, gLen, eLenN, lenD, gList, gTuple, gN, gT, setAll, eMt, tyD, eIsi, gAdd, gSub, gDiv, gMod, gMul, gPow, gLt, gLe, gGt, gGe, gStr, gMin, gIn, gNotIn, gIs, gIsNot, isD, eLenSc, eIxSc, eScNil, eAppTn, sTown, tYesM, noEx_ok, itemG, stepS, iAll, itemsOf, iR1, iR2, wipeE, restE, keepE, sAug, gIadd, gImul, eApp, eExt, eNeg, List.getD_cons_zero, List.getD_cons_succ, List.set_cons_zero, List.set_cons_succ, List.getElem?_cons_zero, List.getElem?_cons_succ, Option.map_some, Option.map_none, Bool.not_true, Bool.not_false, beq_self_eq_true, if_true, if_false, ite_true, ite_false, Bool.false_eq_true, reduceIte, reduceCtorEq, lenL_0, lenL_1, lenL_2, lenL_3, lenL_4, lenL_5, lenL_6, lenL_7, lenL_8, lenL_9, lenL_10, lenL_11, lenL_12]
  rfl
def Tn (k : Nat) (wd : List Ob) : Prop := ∃ j, j ≤ k ∧ wd = [.tn j]
theorem draw {ns : List Int} {k : Nat} {many : Nat} {wd : List Ob} (hl : ns.length ≤ 63) (hm : 0 < many) (hw : Tn k wd) (hk : k < lim) : ∃ v : Nat, v < many ∧ ∃ wd', Tn (k + 1) wd' ∧ Run m__law_draw [.sc ns, .wr 0, .sh (.int many)] wd (.sh (.int v)) wd' := by
  obtain ⟨j, hj, rfl⟩ := hw
  obtain ⟨v, hv, h⟩ := mixed (j + 1) [.tn (j + 1)] hl hm
  refine ⟨v, hv, [.tn (j + 1)], ⟨j + 1, by omega, rfl⟩, Run.ret (sl := [.sc ns, .wr 0, .sh (.int many)]) ?_⟩
  show f__law_draw ⟨[.sc ns, .wr 0, .sh (.int many)], [.tn j]⟩ = _
  have hj' : j < lim := by omega
  have hcall := call_run (n := 3) (ms := aCons (eN 0) (aCons (eLenN 1) (aCons (eN 2) aNil))) (en := ⟨[.sc ns, .wr 0, .sh (.int many)], [.tn (j + 1)]⟩) (sl := [.sc ns, .wr 0, .sh (.int many)]) (by simp only [cIf_t, bind_ok, bind_ex, bind_st, get_mk, set_mk, sSeq, sEx, sRet, sIf, sSet, sPass, sEx_, sBk, sAsg, sPar2, sPar3, thenS, dv, toD, eC, eN, eMv, eP, eBin, tst, eChain, tAndM, tOrM, tNotM, eAnd, eOr, eNot, eIf, toA, aNil, aCons, asDs, dvs, eTup, eLst, eCall, eIx, eIxN, itemE, eSl, pNo, pSo, cutD, gLen, eLenN, lenD, gList, gTuple, gN, gT, setAll, eMt, tyD, eIsi, gAdd, gSub, gDiv, gMod, gMul, gPow, gLt, gLe, gGt, gGe, gStr, gMin, gIn, gNotIn, gIs, gIsNot, isD, eLenSc, eIxSc, eScNil, eAppTn, sTown, tYesM, noEx_ok, itemG, stepS, iAll, itemsOf, iR1, iR2, wipeE, restE, keepE, sAug, gIadd, gImul, eApp, eExt, eNeg, List.getD_cons_zero, List.getD_cons_succ, List.set_cons_zero, List.set_cons_succ, List.getElem?_cons_zero, List.getElem?_cons_succ, Option.map_some, Option.map_none, Bool.not_true, Bool.not_false, beq_self_eq_true, if_true, if_false, ite_true, ite_false, Bool.false_eq_true, reduceIte, reduceCtorEq, lenL_0, lenL_1, lenL_2, lenL_3, lenL_4, lenL_5, lenL_6, lenL_7, lenL_8, lenL_9, lenL_10, lenL_11, lenL_12]) rfl h
  unfold f__law_draw
  simp only [cIf_t, bind_ok, bind_ex, bind_st, get_mk, set_mk, sSeq, sEx, sRet, sIf, sSet, sPass, sEx_, sBk, sAsg, sPar2, sPar3, thenS, dv, toD, eC, eN, eMv, eP, eBin, tst, eChain, tAndM, tOrM, tNotM, eAnd, eOr, eNot, eIf, toA, aNil, aCons, asDs, dvs, eTup, eLst, eCall, eIx, eIxN, itemE, eSl, pNo, pSo, cutD, gLen, eLenN, lenD, gList, gTuple, gN, gT, setAll, eMt, tyD, eIsi, gAdd, gSub, gDiv, gMod, gMul, gPow, gLt, gLe, gGt, gGe, gStr, gMin, gIn, gNotIn, gIs, gIsNot, isD, eLenSc, eIxSc, eScNil, eAppTn, sTown, tYesM, noEx_ok, itemG, stepS, iAll, itemsOf, iR1, iR2, wipeE, restE, keepE, sAug, gIadd, gImul, eApp, eExt, eNeg, List.getD_cons_zero, List.getD_cons_succ, List.set_cons_zero, List.set_cons_succ, List.getElem?_cons_zero, List.getElem?_cons_succ, Option.map_some, Option.map_none, Bool.not_true, Bool.not_false, beq_self_eq_true, if_true, if_false, ite_true, ite_false, Bool.false_eq_true, reduceIte, reduceCtorEq, lenL_0, lenL_1, lenL_2, lenL_3, lenL_4, lenL_5, lenL_6, lenL_7, lenL_8, lenL_9, lenL_10, lenL_11, lenL_12, hj', hcall]
end CO

/-! Mb: texts, shapes, picks. -/
namespace CO
open PySem PySem.Spec PyProof.Rows L2

/-! ### texts by their signs -/
def tx (cs : List Nat) : Str := ⟨cs.toArray⟩
theorem tx_len (cs : List Nat) : (tx cs).length = cs.length := List.size_toArray
theorem tx_cps (cs : List Nat) : (tx cs).cps.toList = cs := rfl
theorem tx_app (a b : List Nat) : tx a ++ tx b = tx (a ++ b) := by
  show (⟨(a.toArray ++ b.toArray)⟩ : Str) = ⟨(a ++ b).toArray⟩
  rw [List.append_toArray]
theorem tx_inj {a b : List Nat} (h : tx a = tx b) : a = b := by
  have := congrArg (fun s : Str => s.cps.toList) h
  exact this
theorem inS_one (c : Nat) (y : Str) : inS ⟨#[c]⟩ y = decide (c ∈ y.cps.toList) := PySem.StrLaws.found_one y c
theorem atI_neg1 {α : Type} {xs : List α} (h : xs ≠ []) : atI xs (-1) = some (xs.getLast h) := by
  have hl : 0 < xs.length := List.length_pos_iff.mpr h
  unfold atI ixN
  rw [if_neg (by decide), if_pos (by omega)]
  have e : (-1 + (xs.length : Int)).toNat = xs.length - 1 := by omega
  show xs[(-1 + (xs.length : Int)).toNat]? = _
  rw [e, List.getLast_eq_getElem, List.getElem?_eq_getElem (by omega)]
theorem atI_0 {α : Type} {x : α} {xs : List α} : atI (x :: xs) 0 = some x := by
  have := atI_in (xs := x :: xs) (i := 0) (by simp)
  exact this
theorem comp_map {g : Ent → En → R Unit} {t : En → R Bool} {m : En → R Ent} {vs : List Nat} (E : En → Prop) (F : D → D) (ds : List D) (e : En) (h : E e) (hl : ds.length ≤ lim) (k : ∀ d ∈ ds, ∀ e, E e → ∃ e', itemG g t m vs d e = .ok (some (F d)) e' ∧ E e') :
    ∃ e', compGo g t m vs ds e [] = .ok (ds.map F) e' ∧ E e' := by
  obtain ⟨e', h1, h2⟩ := comp_pure E (fun d => some (F d)) ds e [] h (by simpa using hl) k
  refine ⟨e', ?_, h2⟩
  rw [h1]
  congr 1
  rw [List.nil_append]
  induction ds with
  | nil => rfl
  | cons d ds ih => simp [List.filterMap_cons]

/-! ### is_shape -/
def shpL (cs : List Nat) : Bool := decide (1 ≤ cs.length) && decide (cs.length ≤ 8) && cs.all (fun c => decide (c ∈ [120, 46])) && cs.head? == some 120 && cs.getLast? == some 120
def shpD : D → Bool
  | .str s => shpL s.cps.toList
  | _ => false
def txtOk : D → Bool
  | .str s => decide (s.length ≤ lim)
  | _ => true
theorem xdot : (PySem.Str.ofString "x.") = tx [120, 46] := by decide +kernel
theorem ofx : (PySem.Str.ofString "x") = tx [120] := by decide +kernel
theorem ofdot : (PySem.Str.ofString ".") = tx [46] := by decide +kernel
theorem ofnil : (PySem.Str.ofString "") = tx [] := by decide +kernel
theorem all_map_bool {α : Type} (l : List α) (f : α → Bool) : (l.map f).all id = l.all f := by
  induction l with
  | nil => rfl
  | cons a l ih => simp [ih]
/-- all(.. for x in l) over bools -/
theorem gAll_map {ds : List D} {f : D → Bool} (e : En) : gAll [.list (ds.map fun d => .bool (f d))] e = .ok (.sh (.bool (ds.all f))) e := by
  have : ds.map (fun d => PyData.bool (f d)) = (ds.map f).map .bool := by rw [List.map_map]; rfl
  rw [this]
  show (match asBools ((ds.map f).map .bool) with | some ns => R.ok (Ent.sh (.bool (ns.all id))) e | none => R.st) = _
  rw [asBools_map]
  show R.ok (Ent.sh (PyData.bool ((ds.map f).all id))) e = _
  rw [all_map_bool]
theorem isD_beq_str (s t : Str) : PyData.eqv (.str s) (.str t) = (s == t) := by unfold PyData.eqv; rfl
theorem shaped_str {s : Str} (h : PyData.strOk s = true) : SeqAt.shaped (.str s) = true := by unfold SeqAt.shaped; simp [PyData.canLay0, PyData.depth, h]
theorem gEq_str {s t : Str} (hs : PyData.strOk s = true) (ht : PyData.strOk t = true) (e : En) : gEq (.str s) (.str t) e = .ok (.sh (.bool (s == t))) e := by
  unfold gEq
  rw [if_pos ⟨shaped_str hs, shaped_str ht⟩, isD_beq_str]
theorem strOk_tx {cs : List Nat} (h : ∀ c ∈ cs, c < 1114112) : PyData.strOk (tx cs) = true := by
  unfold PyData.strOk tx
  simpa using h
theorem is_shape_no {d : D} {wd : List Ob} (h : isT "str" d = false) : Run m_is_shape [.sh d] wd (.sh (.bool false)) wd := by
  refine Run.ret (sl := [.sh d, .no]) ?_
  show f_is_shape ⟨[.sh d, .no], wd⟩ = _
  unfold f_is_shape
  simp only [cIf_t, bind_ok, bind_ex, bind_st, get_mk, set_mk, sSeq, sEx, sRet, sIf, sSet, sPass, sEx_, sBk, sAsg, sPar2, sPar3, thenS, dv, toD, eC, eN, eMv, eP, eBin, tst, eChain, tAndM, tOrM, tNotM, eAnd, eOr, eNot, eIf, toA, aNil, aCons, asDs, dvs, eTup, eLst, eCall, eIx, eIxN, itemE, eSl, pNo, pSo, cutD, gLen, eLenN, lenD, gList, gTuple, gN, gT, setAll, eMt, tyD, eIsi, gAdd, gSub, gDiv, gMod, gMul, gPow, gLt, gLe, gGt, gGe, gStr, gMin, gIn, gNotIn, gIs, gIsNot, isD, eLenSc, eIxSc, eScNil, eAppTn, sTown, tYesM, noEx_ok, itemG, stepS, iAll, itemsOf, iR1, iR2, wipeE, restE, keepE, sAug, gIadd, gImul, eApp, eExt, eNeg, List.getD_cons_zero, List.getD_cons_succ, List.set_cons_zero, List.set_cons_succ, List.getElem?_cons_zero, List.getElem?_cons_succ, Option.map_some, Option.map_none, Bool.not_true, Bool.not_false, beq_self_eq_true, if_true, if_false, ite_true, ite_false, Bool.false_eq_true, reduceIte, reduceCtorEq, lenL_0, lenL_1, lenL_2, lenL_3, lenL_4, lenL_5, lenL_6, lenL_7, lenL_8, lenL_9, lenL_10, lenL_11, lenL_12, h]
theorem is_shape_run {d : D} {wd : List Ob} (h : txtOk d = true) : Run m_is_shape [.sh d] wd (.sh (.bool (shpD d))) wd := by
  cases d with
  | str s =>
    have hs : s.length ≤ lim := of_decide_eq_true h
    have hall : ∀ x, ∃ x', eLc (iAll (eN 0)) (gN 1) tYesM (eBin gIn (eN 1) (eC (.str (PySem.Str.ofString "x.")))) [1] ⟨[.sh (.str s), x], wd⟩ = .ok (.ow ((s.cps.toList.map fun c => PyData.str ⟨#[c]⟩).map fun d => PyData.bool (match d with | .str y => inS y (PySem.Str.ofString "x.") | _ => false))) ⟨[.sh (.str s), x'], wd⟩ := by
      intro x
      obtain ⟨e', h1, x', h2⟩ := comp_map (g := gN 1) (t := tYesM) (m := eBin gIn (eN 1) (eC (.str (PySem.Str.ofString "x.")))) (vs := [1]) (fun e => ∃ x, e = ⟨[.sh (.str s), x], wd⟩) (fun d => PyData.bool (match d with | .str y => inS y (PySem.Str.ofString "x.") | _ => false)) (s.cps.toList.map fun c => PyData.str ⟨#[c]⟩) ⟨[.sh (.str s), x], wd⟩ ⟨x, rfl⟩ (by rw [List.length_map]; exact hs) (by
        rintro d hd e ⟨x, rfl⟩
        obtain ⟨c, _, rfl⟩ := List.mem_map.mp hd
        refine ⟨⟨[.sh (.str s), .sh (.str ⟨#[c]⟩)], wd⟩, ?_, _, rfl⟩
        simp only [cIf_t, bind_ok, bind_ex, bind_st, get_mk, set_mk, sSeq, sEx, sRet, sIf, sSet, sPass, sEx_, sBk, sAsg, sPar2, sPar3, thenS, dv, toD, eC, eN, eMv, eP, eBin, tst, eChain, tAndM, tOrM, tNotM, eAnd, eOr, eNot, eIf, toA, aNil, aCons, asDs, dvs, eTup, eLst, eCall, eIx, eIxN, itemE, eSl, pNo, pSo, cutD, gLen, eLenN, lenD, gList, gTuple, gN, gT, setAll, eMt, tyD, eIsi, gAdd, gSub, gDiv, gMod, gMul, gPow, gLt, gLe, gGt, gGe, gStr, gMin, gIn, gNotIn, gIs, gIsNot, isD, eLenSc, eIxSc, eScNil, eAppTn, sTown, tYesM, noEx_ok, itemG, stepS, iAll, itemsOf, iR1, iR2, wipeE, restE, keepE, sAug, gIadd, gImul, eApp, eExt, eNeg, List.getD_cons_zero, List.getD_cons_succ, List.set_cons_zero, List.set_cons_succ, List.getElem?_cons_zero, List.getElem?_cons_succ, Option.map_some, Option.map_none, Bool.not_true, Bool.not_false, beq_self_eq_true, if_true, if_false, ite_true, ite_false, Bool.false_eq_true, reduceIte, reduceCtorEq, lenL_0, lenL_1, lenL_2, lenL_3, lenL_4, lenL_5, lenL_6, lenL_7, lenL_8, lenL_9, lenL_10, lenL_11, lenL_12, gInB])
      subst h2
      exact ⟨_, lc_run (by simp only [cIf_t, bind_ok, bind_ex, bind_st, get_mk, set_mk, sSeq, sEx, sRet, sIf, sSet, sPass, sEx_, sBk, sAsg, sPar2, sPar3, thenS, dv, toD, eC, eN, eMv, eP, eBin, tst, eChain, tAndM, tOrM, tNotM, eAnd, eOr, eNot, eIf, toA, aNil, aCons, asDs, dvs, eTup, eLst, eCall, eIx, eIxN, itemE, eSl, pNo, pSo, cutD, gLen, eLenN, lenD, gList, gTuple, gN, gT, setAll, eMt, tyD, eIsi, gAdd, gSub, gDiv, gMod, gMul, gPow, gLt, gLe, gGt, gGe, gStr, gMin, gIn, gNotIn, gIs, gIsNot, isD, eLenSc, eIxSc, eScNil, eAppTn, sTown, tYesM, noEx_ok, itemG, stepS, iAll, itemsOf, iR1, iR2, wipeE, restE, keepE, sAug, gIadd, gImul, eApp, eExt, eNeg, List.getD_cons_zero, List.getD_cons_succ, List.set_cons_zero, List.set_cons_succ, List.getElem?_cons_zero, List.getElem?_cons_succ, Option.map_some, Option.map_none, Bool.not_true, Bool.not_false, beq_self_eq_true, if_true, if_false, ite_true, ite_false, Bool.false_eq_true, reduceIte, reduceCtorEq, lenL_0, lenL_1, lenL_2, lenL_3, lenL_4, lenL_5, lenL_6, lenL_7, lenL_8, lenL_9, lenL_10, lenL_11, lenL_12]) h1⟩
    obtain ⟨x', hlc⟩ := hall .no
    have hl : s.length = s.cps.toList.length := rfl
    have hc : ∀ c, (match PyData.str ⟨#[c]⟩ with | .str y => inS y (PySem.Str.ofString "x.") | _ => false) = decide (c ∈ [120, 46]) := fun c => by
      show inS ⟨#[c]⟩ (PySem.Str.ofString "x.") = _
      rw [inS_one, xdot, tx_cps]
    have ha : ∀ e, gAll [.list ((s.cps.toList.map fun c => PyData.str ⟨#[c]⟩).map fun d => PyData.bool (match d with | .str y => inS y (PySem.Str.ofString "x.") | _ => false))] e = .ok (.sh (.bool (s.cps.toList.all fun c => decide (c ∈ [120, 46])))) e := fun e => by
      rw [gAll_map, List.all_map]
      congr 3
      exact List.all_congr rfl fun c => hc c
    have hi0 : ∀ (k : Int) (c : Nat) (e : En), atI s.cps.toList k = some c → itemE (.sh (.str s)) k e = .ok (.sh (.str ⟨#[c]⟩)) e := fun k c e h => by
      show (if s.length ≤ lim then match atI s.cps.toList k with | some c => R.ok (Ent.sh (.str ⟨#[c]⟩)) e | none => R.st else .st) = _
      rw [if_pos hs, h]
    have hsh : shpD (.str s) = shpL s.cps.toList := rfl
    rw [hsh]
    have hs' : s.cps.toList.length ≤ lim := hs
    generalize hcs : s.cps.toList = cs at *
    by_cases h1 : 1 ≤ cs.length
    · have h1' : (1 : Int) ≤ (cs.length : Int) := by omega
      by_cases h2 : cs.length ≤ 8
      · have h2' : (cs.length : Int) ≤ 8 := by omega
        cases h3 : cs.all fun c => decide (c ∈ [120, 46])
        · refine Run.ret (sl := [.sh (.str s), x']) ?_
          show f_is_shape ⟨[.sh (.str s), .no], wd⟩ = _
          have e : shpL cs = false := by unfold shpL; rw [h3]; simp
          rw [e]
          unfold f_is_shape
          simp only [cIf_t, bind_ok, bind_ex, bind_st, get_mk, set_mk, sSeq, sEx, sRet, sIf, sSet, sPass, sEx_, sBk, sAsg, sPar2, sPar3, thenS, dv, toD, eC, eN, eMv, eP, eBin, tst, eChain, tAndM, tOrM, tNotM, eAnd, eOr, eNot, eIf, toA, aNil, aCons, asDs, dvs, eTup, eLst, eCall, eIx, eIxN, itemE, eSl, pNo, pSo, cutD, gLen, eLenN, lenD, gList, gTuple, gN, gT, setAll, eMt, tyD, eIsi, gAdd, gSub, gDiv, gMod, gMul, gPow, gLt, gLe, gGt, gGe, gStr, gMin, gIn, gNotIn, gIs, gIsNot, isD, eLenSc, eIxSc, eScNil, eAppTn, sTown, tYesM, noEx_ok, itemG, stepS, iAll, itemsOf, iR1, iR2, wipeE, restE, keepE, sAug, gIadd, gImul, eApp, eExt, eNeg, List.getD_cons_zero, List.getD_cons_succ, List.set_cons_zero, List.set_cons_succ, List.getElem?_cons_zero, List.getElem?_cons_succ, Option.map_some, Option.map_none, Bool.not_true, Bool.not_false, beq_self_eq_true, if_true, if_false, ite_true, ite_false, Bool.false_eq_true, reduceIte, reduceCtorEq, lenL_0, lenL_1, lenL_2, lenL_3, lenL_4, lenL_5, lenL_6, lenL_7, lenL_8, lenL_9, lenL_10, lenL_11, lenL_12, isT, hs', hl, h1', h2', decide_true, hlc, ha, h3, beq_self_eq_true]
        · refine Run.ret (sl := [.sh (.str s), x']) ?_
          show f_is_shape ⟨[.sh (.str s), .no], wd⟩ = _
          have hne : cs ≠ [] := by intro e; rw [e] at h1; simp at h1
          have hok : ∀ c ∈ cs, PyData.strOk ⟨#[c]⟩ = true := fun c hc => by
            have := List.all_eq_true.mp h3 c hc
            have h := of_decide_eq_true this
            simp at h
            exact strOk_tx (cs := [c]) (by intro z hz; rw [List.mem_singleton.mp hz]; omega)
          have hx : PyData.strOk (PySem.Str.ofString "x") = true := by rw [ofx]; exact strOk_tx (by intro z hz; rw [List.mem_singleton.mp hz]; omega)
          obtain ⟨c, cs', hc'⟩ := List.exists_cons_of_ne_nil hne
          have a0 : atI cs 0 = some c := by rw [hc']; exact atI_0
          have a1 := atI_neg1 hne
          have n1 : (-(1 : Int)) = -1 := rfl
          have b0 : ∀ c, ((⟨#[c]⟩ : Str) == PySem.Str.ofString "x") = (c == 120) := fun c => by
            rw [ofx]
            show decide ((⟨#[c]⟩ : Str) = tx [120]) = _
            by_cases hh : c = 120
            · subst hh; rfl
            · rw [decide_eq_false (fun e => hh (by have := tx_inj (a := [c]) e; simpa using this))]
              simp [hh]
          have e : shpL cs = ((c == 120) && (cs.getLast hne == 120)) := by
            unfold shpL
            rw [decide_eq_true h1, decide_eq_true h2, h3, List.getLast?_eq_some_getLast hne, show cs.head? = some c by rw [hc']; rfl]
            simp
          rw [e]
          unfold f_is_shape
          simp only [cIf_t, bind_ok, bind_ex, bind_st, get_mk, set_mk, sSeq, sEx, sRet, sIf, sSet, sPass, sEx_, sBk, sAsg, sPar2, sPar3, thenS, dv, toD, eC, eN, eMv, eP, eBin, tst, eChain, tAndM, tOrM, tNotM, eAnd, eOr, eNot, eIf, toA, aNil, aCons, asDs, dvs, eTup, eLst, eCall, eIx, eIxN, itemE, eSl, pNo, pSo, cutD, gLen, eLenN, lenD, gList, gTuple, gN, gT, setAll, eMt, tyD, eIsi, gAdd, gSub, gDiv, gMod, gMul, gPow, gLt, gLe, gGt, gGe, gStr, gMin, gIn, gNotIn, gIs, gIsNot, isD, eLenSc, eIxSc, eScNil, eAppTn, sTown, tYesM, noEx_ok, itemG, stepS, iAll, itemsOf, iR1, iR2, wipeE, restE, keepE, sAug, gIadd, gImul, eApp, eExt, eNeg, List.getD_cons_zero, List.getD_cons_succ, List.set_cons_zero, List.set_cons_succ, List.getElem?_cons_zero, List.getElem?_cons_succ, Option.map_some, Option.map_none, Bool.not_true, Bool.not_false, beq_self_eq_true, if_true, if_false, ite_true, ite_false, Bool.false_eq_true, reduceIte, reduceCtorEq, lenL_0, lenL_1, lenL_2, lenL_3, lenL_4, lenL_5, lenL_6, lenL_7, lenL_8, lenL_9, lenL_10, lenL_11, lenL_12, isT, hs', hl, h1', h2', decide_true, hlc, ha, h3, beq_self_eq_true, hs, hcs, a0, n1, a1, gEq_str (hok _ (List.getLast_mem hne)) hx, gEq_str (hok c (by rw [hc']; simp)) hx, b0]
          cases c == 120 <;> simp only [cIf_t, bind_ok, bind_ex, bind_st, get_mk, set_mk, sSeq, sEx, sRet, sIf, sSet, sPass, sEx_, sBk, sAsg, sPar2, sPar3, thenS, dv, toD, eC, eN, eMv, eP, eBin, tst, eChain, tAndM, tOrM, tNotM, eAnd, eOr, eNot, eIf, toA, aNil, aCons, asDs, dvs, eTup, eLst, eCall, eIx, eIxN, itemE, eSl, pNo, pSo, cutD, gLen, eLenN, lenD, gList, gTuple, gN, gT, setAll, eMt, tyD, eIsi, gAdd, gSub, gDiv, gMod, gMul, gPow, gLt, gLe, gGt, gGe, gStr, gMin, gIn, gNotIn, gIs, gIsNot, isD, eLenSc, eIxSc, eScNil, eAppTn, sTown, tYesM, noEx_ok, itemG, stepS, iAll, itemsOf, iR1, iR2, wipeE, restE, keepE, sAug, gIadd, gImul, eApp, eExt, eNeg, List.getD_cons_zero, List.getD_cons_succ, List.set_cons_zero, List.set_cons_succ, List.getElem?_cons_zero, List.getElem?_cons_succ, Option.map_some, Option.map_none, Bool.not_true, Bool.not_false, beq_self_eq_true, if_true, if_false, ite_true, ite_false, Bool.false_eq_true, reduceIte, reduceCtorEq, lenL_0, lenL_1, lenL_2, lenL_3, lenL_4, lenL_5, lenL_6, lenL_7, lenL_8, lenL_9, lenL_10, lenL_11, lenL_12, Bool.true_and, Bool.false_and, hs, hcs, a0, n1, a1, gEq_str (hok _ (List.getLast_mem hne)) hx, b0]
      · refine Run.ret (sl := [.sh (.str s), .no]) ?_
        show f_is_shape ⟨[.sh (.str s), .no], wd⟩ = _
        have h2' : ¬ (cs.length : Int) ≤ 8 := by omega
        have e : shpL cs = false := by unfold shpL; rw [decide_eq_false h2]; simp
        rw [e]
        unfold f_is_shape
        simp only [cIf_t, bind_ok, bind_ex, bind_st, get_mk, set_mk, sSeq, sEx, sRet, sIf, sSet, sPass, sEx_, sBk, sAsg, sPar2, sPar3, thenS, dv, toD, eC, eN, eMv, eP, eBin, tst, eChain, tAndM, tOrM, tNotM, eAnd, eOr, eNot, eIf, toA, aNil, aCons, asDs, dvs, eTup, eLst, eCall, eIx, eIxN, itemE, eSl, pNo, pSo, cutD, gLen, eLenN, lenD, gList, gTuple, gN, gT, setAll, eMt, tyD, eIsi, gAdd, gSub, gDiv, gMod, gMul, gPow, gLt, gLe, gGt, gGe, gStr, gMin, gIn, gNotIn, gIs, gIsNot, isD, eLenSc, eIxSc, eScNil, eAppTn, sTown, tYesM, noEx_ok, itemG, stepS, iAll, itemsOf, iR1, iR2, wipeE, restE, keepE, sAug, gIadd, gImul, eApp, eExt, eNeg, List.getD_cons_zero, List.getD_cons_succ, List.set_cons_zero, List.set_cons_succ, List.getElem?_cons_zero, List.getElem?_cons_succ, Option.map_some, Option.map_none, Bool.not_true, Bool.not_false, beq_self_eq_true, if_true, if_false, ite_true, ite_false, Bool.false_eq_true, reduceIte, reduceCtorEq, lenL_0, lenL_1, lenL_2, lenL_3, lenL_4, lenL_5, lenL_6, lenL_7, lenL_8, lenL_9, lenL_10, lenL_11, lenL_12, isT, hs', hl, h1', h2', decide_true, decide_false, beq_self_eq_true]
    · refine Run.ret (sl := [.sh (.str s), .no]) ?_
      show f_is_shape ⟨[.sh (.str s), .no], wd⟩ = _
      have h1' : ¬ (1 : Int) ≤ (cs.length : Int) := by omega
      have e : shpL cs = false := by unfold shpL; rw [decide_eq_false h1]; simp
      rw [e]
      unfold f_is_shape
      simp only [cIf_t, bind_ok, bind_ex, bind_st, get_mk, set_mk, sSeq, sEx, sRet, sIf, sSet, sPass, sEx_, sBk, sAsg, sPar2, sPar3, thenS, dv, toD, eC, eN, eMv, eP, eBin, tst, eChain, tAndM, tOrM, tNotM, eAnd, eOr, eNot, eIf, toA, aNil, aCons, asDs, dvs, eTup, eLst, eCall, eIx, eIxN, itemE, eSl, pNo, pSo, cutD, gLen, eLenN, lenD, gList, gTuple, gN, gT, setAll, eMt, tyD, eIsi, gAdd, gSub, gDiv, gMod, gMul, gPow, gLt, gLe, gGt, gGe, gStr, gMin, gIn, gNotIn, gIs, gIsNot, isD, eLenSc, eIxSc, eScNil, eAppTn, sTown, tYesM, noEx_ok, itemG, stepS, iAll, itemsOf, iR1, iR2, wipeE, restE, keepE, sAug, gIadd, gImul, eApp, eExt, eNeg, List.getD_cons_zero, List.getD_cons_succ, List.set_cons_zero, List.set_cons_succ, List.getElem?_cons_zero, List.getElem?_cons_succ, Option.map_some, Option.map_none, Bool.not_true, Bool.not_false, beq_self_eq_true, if_true, if_false, ite_true, ite_false, Bool.false_eq_true, reduceIte, reduceCtorEq, lenL_0, lenL_1, lenL_2, lenL_3, lenL_4, lenL_5, lenL_6, lenL_7, lenL_8, lenL_9, lenL_10, lenL_11, lenL_12, isT, hs', hl, h1', decide_true, decide_false, beq_self_eq_true]
  | none => exact is_shape_no rfl
  | bool b => exact is_shape_no rfl
  | int b => exact is_shape_no rfl
  | list b => exact is_shape_no rfl
  | tuple b => exact is_shape_no rfl
  | dict b => exact is_shape_no rfl
end CO

/-! Mc: picks, some shape. -/
namespace CO
open PySem PySem.Spec PyProof.Rows L2

theorem gEq_int (i j : Int) (e : En) : gEq (.int i) (.int j) e = .ok (.sh (.bool (i == j))) e := by
  unfold gEq
  rw [if_pos ⟨rfl, rfl⟩]
  unfold PyData.eqv; rfl
theorem gNe_int (i j : Int) (e : En) : gNe (.int i) (.int j) e = .ok (.sh (.bool (!(i == j)))) e := by
  unfold gNe
  rw [if_pos ⟨rfl, rfl⟩]
  unfold PyData.eqv; rfl
theorem pick {ns : List Int} {k : Nat} {ds : List D} {wd : List Ob} (hl : ns.length ≤ 63) (hne : ds ≠ []) (hw : Tn k wd) (hk : k < lim) : ∃ d, d ∈ ds ∧ ∃ wd', Tn (k + 1) wd' ∧ Run m__law_pick [.sc ns, .wr 0, .sh (.list ds)] wd (.sh d) wd' := by
  obtain ⟨v, hv, wd', hw', h⟩ := draw (many := ds.length) hl (List.length_pos_iff.mpr hne) hw hk
  refine ⟨ds[v], List.getElem_mem hv, wd', hw', Run.ret (sl := [.sc ns, .wr 0, .sh (.list ds)]) ?_⟩
  show f__law_pick ⟨[.sc ns, .wr 0, .sh (.list ds)], wd⟩ = _
  have hcall := call_run (n := 3) (ms := aCons (eN 0) (aCons (eN 1) (aCons (eLenN 2) aNil))) (en := ⟨[.sc ns, .wr 0, .sh (.list ds)], wd⟩) (sl := [.sc ns, .wr 0, .sh (.list ds)]) (by simp only [cIf_t, bind_ok, bind_ex, bind_st, get_mk, set_mk, sSeq, sEx, sRet, sIf, sSet, sPass, sEx_, sBk, sAsg, sPar2, sPar3, thenS, dv, toD, eC, eN, eMv, eP, eBin, tst, eChain, tAndM, tOrM, tNotM, eAnd, eOr, eNot, eIf, toA, aNil, aCons, asDs, dvs, eTup, eLst, eCall, eIx, eIxN, itemE, eSl, pNo, pSo, cutD, gLen, eLenN, lenD, gList, gTuple, gN, gT, setAll, eMt, tyD, eIsi, gAdd, gSub, gDiv, gMod, gMul, gPow, gLt, gLe, gGt, gGe, gStr, gMin, gIn, gNotIn, gIs, gIsNot, isD, eLenSc, eIxSc, eScNil, eAppTn, sTown, tYesM, noEx_ok, itemG, stepS, iAll, itemsOf, iR1, iR2, wipeE, restE, keepE, sAug, gIadd, gImul, eApp, eExt, eNeg, List.getD_cons_zero, List.getD_cons_succ, List.set_cons_zero, List.set_cons_succ, List.getElem?_cons_zero, List.getElem?_cons_succ, Option.map_some, Option.map_none, Bool.not_true, Bool.not_false, beq_self_eq_true, if_true, if_false, ite_true, ite_false, Bool.false_eq_true, reduceIte, reduceCtorEq, lenL_0, lenL_1, lenL_2, lenL_3, lenL_4, lenL_5, lenL_6, lenL_7, lenL_8, lenL_9, lenL_10, lenL_11, lenL_12]) rfl h
  unfold f__law_pick
  simp only [cIf_t, bind_ok, bind_ex, bind_st, get_mk, set_mk, sSeq, sEx, sRet, sIf, sSet, sPass, sEx_, sBk, sAsg, sPar2, sPar3, thenS, dv, toD, eC, eN, eMv, eP, eBin, tst, eChain, tAndM, tOrM, tNotM, eAnd, eOr, eNot, eIf, toA, aNil, aCons, asDs, dvs, eTup, eLst, eCall, eIx, eIxN, itemE, eSl, pNo, pSo, cutD, gLen, eLenN, lenD, gList, gTuple, gN, gT, setAll, eMt, tyD, eIsi, gAdd, gSub, gDiv, gMod, gMul, gPow, gLt, gLe, gGt, gGe, gStr, gMin, gIn, gNotIn, gIs, gIsNot, isD, eLenSc, eIxSc, eScNil, eAppTn, sTown, tYesM, noEx_ok, itemG, stepS, iAll, itemsOf, iR1, iR2, wipeE, restE, keepE, sAug, gIadd, gImul, eApp, eExt, eNeg, List.getD_cons_zero, List.getD_cons_succ, List.set_cons_zero, List.set_cons_succ, List.getElem?_cons_zero, List.getElem?_cons_succ, Option.map_some, Option.map_none, Bool.not_true, Bool.not_false, beq_self_eq_true, if_true, if_false, ite_true, ite_false, Bool.false_eq_true, reduceIte, reduceCtorEq, lenL_0, lenL_1, lenL_2, lenL_3, lenL_4, lenL_5, lenL_6, lenL_7, lenL_8, lenL_9, lenL_10, lenL_11, lenL_12, hcall, atI_in hv]
theorem join_none (cs : List Nat) : Txt.join (tx []) (cs.map fun c => tx [c]) = tx cs := by
  rw [show Txt.join (tx []) (cs.map fun c => tx [c]) = Str.join (tx []) (cs.map fun c => tx [c]) from PySem.StrLaws.glued_eq_join _ _]
  induction cs with
  | nil => rfl
  | cons c cs ih =>
    cases cs with
    | nil => rfl
    | cons c2 cs2 =>
      show tx [c] ++ tx [] ++ Str.join (tx []) ((c2 :: cs2).map fun c => tx [c]) = _
      rw [ih, tx_app, tx_app]
      rfl
theorem signs_of {a b : Nat} : ∀ (xs : List D), (∀ d ∈ xs, d = .str (tx [a]) ∨ d = .str (tx [b])) → ∃ cs : List Nat, xs = cs.map (fun c => .str (tx [c])) ∧ ∀ c ∈ cs, c = a ∨ c = b
  | [], _ => ⟨[], rfl, fun c h => nomatch h⟩
  | d :: xs, h => by
    obtain ⟨cs, h1, h2⟩ := signs_of xs fun d m => h d (List.mem_cons_of_mem _ m)
    rcases h d List.mem_cons_self with rfl | rfl
    · exact ⟨a :: cs, by rw [h1]; rfl, fun c m => (List.mem_cons.mp m).elim .inl (h2 c)⟩
    · exact ⟨b :: cs, by rw [h1]; rfl, fun c m => (List.mem_cons.mp m).elim .inr (h2 c)⟩
theorem gJoin_ones {cs : List Nat} (h : cs.length ≤ lim) (e : En) : gJoin (.str (tx [])) [.list (cs.map fun c => PyData.str (tx [c]))] e = .ok (.sh (.str (tx cs))) e := by
  have e2 : ((cs.map fun c => tx [c]).map (fun s : Str => s.length)).sum = cs.length := by
    rw [List.map_map]
    show (cs.map fun c => (tx [c]).length).sum = _
    induction cs with
    | nil => rfl
    | cons c cs ih =>
      rw [List.map_cons, List.sum_cons, ih (Nat.le_of_succ_le h), tx_len, List.length_cons, List.length_cons, List.length_nil]
      omega
  have e1 : (cs.map fun c => PyData.str (tx [c])) = (cs.map fun c => tx [c]).map .str := by rw [List.map_map]; rfl
  rw [e1]
  show (match asStrs ((cs.map fun c => tx [c]).map .str) with | some ys => if (ys.map (fun s : Str => s.length)).sum + ys.length * (tx []).length ≤ lim then R.ok (Ent.sh (.str (Txt.join (tx []) ys))) e else .st | none => .st) = _
  rw [asStrs_map]
  show (if ((cs.map fun c => tx [c]).map (fun s : Str => s.length)).sum + (cs.map fun c => tx [c]).length * (tx []).length ≤ lim then R.ok (Ent.sh (.str (Txt.join (tx []) (cs.map fun c => tx [c])))) e else .st) = _
  rw [if_pos (by rw [e2, tx_len]; simpa using h), join_none]
theorem gAdd_tx {a b : List Nat} (h : a.length + b.length ≤ lim) (e : En) : gAdd (.str (tx a)) (.str (tx b)) e = .ok (.sh (.str (tx (a ++ b)))) e := by
  show (if (tx a).length + (tx b).length ≤ lim then R.ok (Ent.sh (.str (tx a ++ tx b))) e else .st) = _
  rw [tx_len, tx_len, if_pos h, tx_app]
theorem some_shape {ns : List Int} {k most : Nat} {wd : List Ob} (hl : ns.length ≤ 63) (hm : 1 ≤ most ∧ most ≤ 8) (hw : Tn k wd) (hk : k + 8 < lim) : ∃ cs, shpL cs = true ∧ cs.length ≤ most ∧ ∃ wd', Tn (k + 8) wd' ∧ Run m__law_some_shape [.sc ns, .wr 0, .sh (.int most)] wd (.sh (.str (tx cs))) wd' := by
  obtain ⟨v, hv, wd1, hw1, h1⟩ := draw (many := most) hl (by omega) hw (by omega)
  have hcall := call_run (n := 3) (ms := aCons (eN 0) (aCons (eN 1) (aCons (eN 2) aNil))) (en := ⟨[.sc ns, .wr 0, .sh (.int most), .no, .no], wd⟩) (sl := [.sc ns, .wr 0, .sh (.int most), .no, .no]) (by simp only [cIf_t, bind_ok, bind_ex, bind_st, get_mk, set_mk, sSeq, sEx, sRet, sIf, sSet, sPass, sEx_, sBk, sAsg, sPar2, sPar3, thenS, dv, toD, eC, eN, eMv, eP, eBin, tst, eChain, tAndM, tOrM, tNotM, eAnd, eOr, eNot, eIf, toA, aNil, aCons, asDs, dvs, eTup, eLst, eCall, eIx, eIxN, itemE, eSl, pNo, pSo, cutD, gLen, eLenN, lenD, gList, gTuple, gN, gT, setAll, eMt, tyD, eIsi, gAdd, gSub, gDiv, gMod, gMul, gPow, gLt, gLe, gGt, gGe, gStr, gMin, gIn, gNotIn, gIs, gIsNot, isD, eLenSc, eIxSc, eScNil, eAppTn, sTown, tYesM, noEx_ok, itemG, stepS, iAll, itemsOf, iR1, iR2, wipeE, restE, keepE, sAug, gIadd, gImul, eApp, eExt, eNeg, List.getD_cons_zero, List.getD_cons_succ, List.set_cons_zero, List.set_cons_succ, List.getElem?_cons_zero, List.getElem?_cons_succ, Option.map_some, Option.map_none, Bool.not_true, Bool.not_false, beq_self_eq_true, if_true, if_false, ite_true, ite_false, Bool.false_eq_true, reduceIte, reduceCtorEq, lenL_0, lenL_1, lenL_2, lenL_3, lenL_4, lenL_5, lenL_6, lenL_7, lenL_8, lenL_9, lenL_10, lenL_11, lenL_12]) rfl h1
  by_cases hz : v = 0
  · subst hz
    refine ⟨[120], by decide, by simp; omega, wd1, ?_, Run.ret (sl := [.sc ns, .wr 0, .sh (.int most), .sh (.int (1 + (0 : Nat))), .no]) ?_⟩
    · obtain ⟨j, h, e⟩ := hw1
      exact ⟨j, by omega, e⟩
    · show f__law_some_shape ⟨[.sc ns, .wr 0, .sh (.int most), .no, .no], wd⟩ = _
      unfold f__law_some_shape
      have h0 : (1 + ((0 : Nat) : Int) == 1) = true := by decide
      simp only [cIf_t, bind_ok, bind_ex, bind_st, get_mk, set_mk, sSeq, sEx, sRet, sIf, sSet, sPass, sEx_, sBk, sAsg, sPar2, sPar3, thenS, dv, toD, eC, eN, eMv, eP, eBin, tst, eChain, tAndM, tOrM, tNotM, eAnd, eOr, eNot, eIf, toA, aNil, aCons, asDs, dvs, eTup, eLst, eCall, eIx, eIxN, itemE, eSl, pNo, pSo, cutD, gLen, eLenN, lenD, gList, gTuple, gN, gT, setAll, eMt, tyD, eIsi, gAdd, gSub, gDiv, gMod, gMul, gPow, gLt, gLe, gGt, gGe, gStr, gMin, gIn, gNotIn, gIs, gIsNot, isD, eLenSc, eIxSc, eScNil, eAppTn, sTown, tYesM, noEx_ok, itemG, stepS, iAll, itemsOf, iR1, iR2, wipeE, restE, keepE, sAug, gIadd, gImul, eApp, eExt, eNeg, List.getD_cons_zero, List.getD_cons_succ, List.set_cons_zero, List.set_cons_succ, List.getElem?_cons_zero, List.getElem?_cons_succ, Option.map_some, Option.map_none, Bool.not_true, Bool.not_false, beq_self_eq_true, if_true, if_false, ite_true, ite_false, Bool.false_eq_true, reduceIte, reduceCtorEq, lenL_0, lenL_1, lenL_2, lenL_3, lenL_4, lenL_5, lenL_6, lenL_7, lenL_8, lenL_9, lenL_10, lenL_11, lenL_12, hcall, gEq_int, h0, ofx]
  · have hn : ((1 + (v : Int)) - 2) = ((v - 1 : Nat) : Int) := by omega
    have h0 : (1 + (v : Int) == 1) = false := by simp; omega
    have hr : ((v - 1 : Nat) : Int) ≤ 100000 ∧ -100000 ≤ ((v - 1 : Nat) : Int) := by omega
    have hlim : lim = 100000 := rfl
    obtain ⟨xs, e', h3, h4, h5, x, wd2, h6, h7⟩ := comp_some (S := Unit) (g := gN 4) (t := tYesM) (m := eCallF 3 m__law_pick (aCons (eN 0) (aCons (eN 1) (aCons (eLst (aCons (eC (.str (PySem.Str.ofString "."))) (aCons (eC (.str (PySem.Str.ofString "x"))) (aNil)))) (aNil))))) (vs := [4])
      (fun j e => ∃ (x : Ent) (wd2 : List Ob), Tn j wd2 ∧ e = ⟨[.sc ns, .wr 0, .sh (.int most), .sh (.int (1 + (v : Int))), x], wd2⟩) (fun d => d = .str (tx [46]) ∨ d = .str (tx [120])) (rangeL 0 (v - 1)) (k + 1) ⟨[.sc ns, .wr 0, .sh (.int most), .sh (.int (1 + (v : Int))), .no], wd1⟩ [] ⟨.no, wd1, hw1, rfl⟩ (by simp [rangeL]; omega) (fun d h => nomatch h) (by
        rintro d hd j e hj1 hj2 ⟨x, wd2, hw2, rfl⟩
        have hj3 : j < k + 1 + (v - 1) := by simpa [rangeL] using hj2
        obtain ⟨y, hy, wd3, hw3, hp⟩ := pick (ds := [.str (tx [46]), .str (tx [120])]) hl (by simp) hw2 (by omega)
        have hc2 := call_run (n := 3) (ms := aCons (eN 0) (aCons (eN 1) (aCons (eLst (aCons (eC (.str (PySem.Str.ofString "."))) (aCons (eC (.str (PySem.Str.ofString "x"))) (aNil)))) (aNil)))) (en := ⟨[.sc ns, .wr 0, .sh (.int most), .sh (.int (1 + (v : Int))), .sh d], wd2⟩) (sl := [.sc ns, .wr 0, .sh (.int most), .sh (.int (1 + (v : Int))), .sh d]) (by simp only [cIf_t, bind_ok, bind_ex, bind_st, get_mk, set_mk, sSeq, sEx, sRet, sIf, sSet, sPass, sEx_, sBk, sAsg, sPar2, sPar3, thenS, dv, toD, eC, eN, eMv, eP, eBin, tst, eChain, tAndM, tOrM, tNotM, eAnd, eOr, eNot, eIf, toA, aNil, aCons, asDs, dvs, eTup, eLst, eCall, eIx, eIxN, itemE, eSl, pNo, pSo, cutD, gLen, eLenN, lenD, gList, gTuple, gN, gT, setAll, eMt, tyD, eIsi, gAdd, gSub, gDiv, gMod, gMul, gPow, gLt, gLe, gGt, gGe, gStr, gMin, gIn, gNotIn, gIs, gIsNot, isD, eLenSc, eIxSc, eScNil, eAppTn, sTown, tYesM, noEx_ok, itemG, stepS, iAll, itemsOf, iR1, iR2, wipeE, restE, keepE, sAug, gIadd, gImul, eApp, eExt, eNeg, List.getD_cons_zero, List.getD_cons_succ, List.set_cons_zero, List.set_cons_succ, List.getElem?_cons_zero, List.getElem?_cons_succ, Option.map_some, Option.map_none, Bool.not_true, Bool.not_false, beq_self_eq_true, if_true, if_false, ite_true, ite_false, Bool.false_eq_true, reduceIte, reduceCtorEq, lenL_0, lenL_1, lenL_2, lenL_3, lenL_4, lenL_5, lenL_6, lenL_7, lenL_8, lenL_9, lenL_10, lenL_11, lenL_12, ofx, ofdot]) rfl hp
        refine ⟨y, ⟨[.sc ns, .wr 0, .sh (.int most), .sh (.int (1 + (v : Int))), .sh d], wd3⟩, ?_, by simpa using hy, .sh d, wd3, hw3, rfl⟩
        simp only [cIf_t, bind_ok, bind_ex, bind_st, get_mk, set_mk, sSeq, sEx, sRet, sIf, sSet, sPass, sEx_, sBk, sAsg, sPar2, sPar3, thenS, dv, toD, eC, eN, eMv, eP, eBin, tst, eChain, tAndM, tOrM, tNotM, eAnd, eOr, eNot, eIf, toA, aNil, aCons, asDs, dvs, eTup, eLst, eCall, eIx, eIxN, itemE, eSl, pNo, pSo, cutD, gLen, eLenN, lenD, gList, gTuple, gN, gT, setAll, eMt, tyD, eIsi, gAdd, gSub, gDiv, gMod, gMul, gPow, gLt, gLe, gGt, gGe, gStr, gMin, gIn, gNotIn, gIs, gIsNot, isD, eLenSc, eIxSc, eScNil, eAppTn, sTown, tYesM, noEx_ok, itemG, stepS, iAll, itemsOf, iR1, iR2, wipeE, restE, keepE, sAug, gIadd, gImul, eApp, eExt, eNeg, List.getD_cons_zero, List.getD_cons_succ, List.set_cons_zero, List.set_cons_succ, List.getElem?_cons_zero, List.getElem?_cons_succ, Option.map_some, Option.map_none, Bool.not_true, Bool.not_false, beq_self_eq_true, if_true, if_false, ite_true, ite_false, Bool.false_eq_true, reduceIte, reduceCtorEq, lenL_0, lenL_1, lenL_2, lenL_3, lenL_4, lenL_5, lenL_6, lenL_7, lenL_8, lenL_9, lenL_10, lenL_11, lenL_12, hc2])
    subst h7
    obtain ⟨cs, rfl, hcs⟩ := signs_of xs h5
    have hlen : cs.length = v - 1 := by simpa [rangeL] using h4
    refine ⟨120 :: cs ++ [120], ?_, by simp; omega, wd2, ?_, Run.ret (sl := [.sc ns, .wr 0, .sh (.int most), .sh (.int (1 + (v : Int))), .no]) ?_⟩
    · unfold shpL
      have q : (120 :: cs ++ [120]).getLast? = some 120 := by rw [List.getLast?_append]; rfl
      rw [q]
      simp
      refine ⟨by omega, fun c hc => ?_⟩
      rcases hcs c hc with h | h
      · exact .inr h
      · exact .inl h
    · obtain ⟨j, h, e⟩ := h6
      exact ⟨j, by have : (rangeL 0 (v - 1)).length = v - 1 := by simp [rangeL]
                   omega, e⟩
    · show f__law_some_shape ⟨[.sc ns, .wr 0, .sh (.int most), .no, .no], wd⟩ = _
      unfold f__law_some_shape
      have hlc := lc_run (mi := iR1 (eBin gSub (eN 3) (eC (.int 2)))) (en := ⟨[.sc ns, .wr 0, .sh (.int most), .sh (.int (1 + (v : Int))), .no], wd1⟩) (e := ⟨[.sc ns, .wr 0, .sh (.int most), .sh (.int (1 + (v : Int))), .no], wd1⟩) (by simp only [cIf_t, bind_ok, bind_ex, bind_st, get_mk, set_mk, sSeq, sEx, sRet, sIf, sSet, sPass, sEx_, sBk, sAsg, sPar2, sPar3, thenS, dv, toD, eC, eN, eMv, eP, eBin, tst, eChain, tAndM, tOrM, tNotM, eAnd, eOr, eNot, eIf, toA, aNil, aCons, asDs, dvs, eTup, eLst, eCall, eIx, eIxN, itemE, eSl, pNo, pSo, cutD, gLen, eLenN, lenD, gList, gTuple, gN, gT, setAll, eMt, tyD, eIsi, gAdd, gSub, gDiv, gMod, gMul, gPow, gLt, gLe, gGt, gGe, gStr, gMin, gIn, gNotIn, gIs, gIsNot, isD, eLenSc, eIxSc, eScNil, eAppTn, sTown, tYesM, noEx_ok, itemG, stepS, iAll, itemsOf, iR1, iR2, wipeE, restE, keepE, sAug, gIadd, gImul, eApp, eExt, eNeg, List.getD_cons_zero, List.getD_cons_succ, List.set_cons_zero, List.set_cons_succ, List.getElem?_cons_zero, List.getElem?_cons_succ, Option.map_some, Option.map_none, Bool.not_true, Bool.not_false, beq_self_eq_true, if_true, if_false, ite_true, ite_false, Bool.false_eq_true, reduceIte, reduceCtorEq, lenL_0, lenL_1, lenL_2, lenL_3, lenL_4, lenL_5, lenL_6, lenL_7, lenL_8, lenL_9, lenL_10, lenL_11, lenL_12, hn, hr, and_self, Int.toNat_natCast]) h3
      simp only [ofx] at hlc
      have g1 : (tx [120]).length + (tx cs).length ≤ lim := by rw [tx_len, tx_len]; simp; omega
      have g2 : (tx ([120] ++ cs)).length + (tx [120]).length ≤ lim := by rw [tx_len, tx_len]; simp; omega
      simp only [cIf_t, bind_ok, bind_ex, bind_st, get_mk, set_mk, sSeq, sEx, sRet, sIf, sSet, sPass, sEx_, sBk, sAsg, sPar2, sPar3, thenS, dv, toD, eC, eN, eMv, eP, eBin, tst, eChain, tAndM, tOrM, tNotM, eAnd, eOr, eNot, eIf, toA, aNil, aCons, asDs, dvs, eTup, eLst, eCall, eIx, eIxN, itemE, eSl, pNo, pSo, cutD, gLen, eLenN, lenD, gList, gTuple, gN, gT, setAll, eMt, tyD, eIsi, gAdd, gSub, gDiv, gMod, gMul, gPow, gLt, gLe, gGt, gGe, gStr, gMin, gIn, gNotIn, gIs, gIsNot, isD, eLenSc, eIxSc, eScNil, eAppTn, sTown, tYesM, noEx_ok, itemG, stepS, iAll, itemsOf, iR1, iR2, wipeE, restE, keepE, sAug, gIadd, gImul, eApp, eExt, eNeg, List.getD_cons_zero, List.getD_cons_succ, List.set_cons_zero, List.set_cons_succ, List.getElem?_cons_zero, List.getElem?_cons_succ, Option.map_some, Option.map_none, Bool.not_true, Bool.not_false, beq_self_eq_true, if_true, if_false, ite_true, ite_false, Bool.false_eq_true, reduceIte, reduceCtorEq, lenL_0, lenL_1, lenL_2, lenL_3, lenL_4, lenL_5, lenL_6, lenL_7, lenL_8, lenL_9, lenL_10, lenL_11, lenL_12, hcall, gEq_int, h0, ofx, ofnil, hlc, gJoin_ones (show cs.length ≤ lim by omega), gAdd_tx (a := [120]) (b := cs) (show 1 + cs.length ≤ lim by omega), beq_self_eq_true]
      simp only [cIf_t, bind_ok, bind_ex, bind_st, get_mk, set_mk, sSeq, sEx, sRet, sIf, sSet, sPass, sEx_, sBk, sAsg, sPar2, sPar3, thenS, dv, toD, eC, eN, eMv, eP, eBin, tst, eChain, tAndM, tOrM, tNotM, eAnd, eOr, eNot, eIf, toA, aNil, aCons, asDs, dvs, eTup, eLst, eCall, eIx, eIxN, itemE, eSl, pNo, pSo, cutD, gLen, eLenN, lenD, gList, gTuple, gN, gT, setAll, eMt, tyD, eIsi, gAdd, gSub, gDiv, gMod, gMul, gPow, gLt, gLe, gGt, gGe, gStr, gMin, gIn, gNotIn, gIs, gIsNot, isD, eLenSc, eIxSc, eScNil, eAppTn, sTown, tYesM, noEx_ok, itemG, stepS, iAll, itemsOf, iR1, iR2, wipeE, restE, keepE, sAug, gIadd, gImul, eApp, eExt, eNeg, List.getD_cons_zero, List.getD_cons_succ, List.set_cons_zero, List.set_cons_succ, List.getElem?_cons_zero, List.getElem?_cons_succ, Option.map_some, Option.map_none, Bool.not_true, Bool.not_false, beq_self_eq_true, if_true, if_false, ite_true, ite_false, Bool.false_eq_true, reduceIte, reduceCtorEq, lenL_0, lenL_1, lenL_2, lenL_3, lenL_4, lenL_5, lenL_6, lenL_7, lenL_8, lenL_9, lenL_10, lenL_11, lenL_12, g1, g2, tx_app]
      rfl
end CO

/-! Md: is_integer, is_game. -/
namespace CO
open PySem PySem.Spec PyProof.Rows L2

def intIn (d : D) (lo hi : Int) : Bool := match d with | .int i => decide (lo ≤ i) && decide (i ≤ hi) | _ => false
theorem is_integer_run {d : D} {lo hi : Int} {wd : List Ob} : Run m_is_integer [.sh d, .sh (.int lo), .sh (.int hi)] wd (.sh (.bool (intIn d lo hi))) wd := by
  refine Run.ret (sl := [.sh d, .sh (.int lo), .sh (.int hi)]) ?_
  show f_is_integer ⟨[.sh d, .sh (.int lo), .sh (.int hi)], wd⟩ = _
  unfold f_is_integer
  cases d with
  | int i =>
    by_cases h : lo ≤ i
    · simp only [cIf_t, bind_ok, bind_ex, bind_st, get_mk, set_mk, sSeq, sEx, sRet, sIf, sSet, sPass, sEx_, sBk, sAsg, sPar2, sPar3, thenS, dv, toD, eC, eN, eMv, eP, eBin, tst, eChain, tAndM, tOrM, tNotM, eAnd, eOr, eNot, eIf, toA, aNil, aCons, asDs, dvs, eTup, eLst, eCall, eIx, eIxN, itemE, eSl, pNo, pSo, cutD, gLen, eLenN, lenD, gList, gTuple, gN, gT, setAll, eMt, tyD, eIsi, gAdd, gSub, gDiv, gMod, gMul, gPow, gLt, gLe, gGt, gGe, gStr, gMin, gIn, gNotIn, gIs, gIsNot, isD, eLenSc, eIxSc, eScNil, eAppTn, sTown, tYesM, noEx_ok, itemG, stepS, iAll, itemsOf, iR1, iR2, wipeE, restE, keepE, sAug, gIadd, gImul, eApp, eExt, eNeg, List.getD_cons_zero, List.getD_cons_succ, List.set_cons_zero, List.set_cons_succ, List.getElem?_cons_zero, List.getElem?_cons_succ, Option.map_some, Option.map_none, Bool.not_true, Bool.not_false, beq_self_eq_true, if_true, if_false, ite_true, ite_false, Bool.false_eq_true, reduceIte, reduceCtorEq, lenL_0, lenL_1, lenL_2, lenL_3, lenL_4, lenL_5, lenL_6, lenL_7, lenL_8, lenL_9, lenL_10, lenL_11, lenL_12, isT_int_none, isT_int_bool, isT_int_int, isT_int_str, isT_int_list, isT_int_tuple, isT_bool_none, isT_bool_bool, isT_bool_int, isT_bool_str, isT_bool_list, isT_bool_tuple, isT_str_none, isT_str_bool, isT_str_int, isT_str_str, isT_str_list, isT_str_tuple, isT_tuple_none, isT_tuple_bool, isT_tuple_int, isT_tuple_str, isT_tuple_list, isT_tuple_tuple, isT_list_none, isT_list_bool, isT_list_int, isT_list_str, isT_list_list, isT_list_tuple, h, decide_true, intIn, Bool.true_and]
    · simp only [cIf_t, bind_ok, bind_ex, bind_st, get_mk, set_mk, sSeq, sEx, sRet, sIf, sSet, sPass, sEx_, sBk, sAsg, sPar2, sPar3, thenS, dv, toD, eC, eN, eMv, eP, eBin, tst, eChain, tAndM, tOrM, tNotM, eAnd, eOr, eNot, eIf, toA, aNil, aCons, asDs, dvs, eTup, eLst, eCall, eIx, eIxN, itemE, eSl, pNo, pSo, cutD, gLen, eLenN, lenD, gList, gTuple, gN, gT, setAll, eMt, tyD, eIsi, gAdd, gSub, gDiv, gMod, gMul, gPow, gLt, gLe, gGt, gGe, gStr, gMin, gIn, gNotIn, gIs, gIsNot, isD, eLenSc, eIxSc, eScNil, eAppTn, sTown, tYesM, noEx_ok, itemG, stepS, iAll, itemsOf, iR1, iR2, wipeE, restE, keepE, sAug, gIadd, gImul, eApp, eExt, eNeg, List.getD_cons_zero, List.getD_cons_succ, List.set_cons_zero, List.set_cons_succ, List.getElem?_cons_zero, List.getElem?_cons_succ, Option.map_some, Option.map_none, Bool.not_true, Bool.not_false, beq_self_eq_true, if_true, if_false, ite_true, ite_false, Bool.false_eq_true, reduceIte, reduceCtorEq, lenL_0, lenL_1, lenL_2, lenL_3, lenL_4, lenL_5, lenL_6, lenL_7, lenL_8, lenL_9, lenL_10, lenL_11, lenL_12, isT_int_none, isT_int_bool, isT_int_int, isT_int_str, isT_int_list, isT_int_tuple, isT_bool_none, isT_bool_bool, isT_bool_int, isT_bool_str, isT_bool_list, isT_bool_tuple, isT_str_none, isT_str_bool, isT_str_int, isT_str_str, isT_str_list, isT_str_tuple, isT_tuple_none, isT_tuple_bool, isT_tuple_int, isT_tuple_str, isT_tuple_list, isT_tuple_tuple, isT_list_none, isT_list_bool, isT_list_int, isT_list_str, isT_list_list, isT_list_tuple, h, decide_false, intIn, Bool.false_and]
  | dict s => simp only [cIf_t, bind_ok, bind_ex, bind_st, get_mk, set_mk, sSeq, sEx, sRet, sIf, sSet, sPass, sEx_, sBk, sAsg, sPar2, sPar3, thenS, dv, toD, eC, eN, eMv, eP, eBin, tst, eChain, tAndM, tOrM, tNotM, eAnd, eOr, eNot, eIf, toA, aNil, aCons, asDs, dvs, eTup, eLst, eCall, eIx, eIxN, itemE, eSl, pNo, pSo, cutD, gLen, eLenN, lenD, gList, gTuple, gN, gT, setAll, eMt, tyD, eIsi, gAdd, gSub, gDiv, gMod, gMul, gPow, gLt, gLe, gGt, gGe, gStr, gMin, gIn, gNotIn, gIs, gIsNot, isD, eLenSc, eIxSc, eScNil, eAppTn, sTown, tYesM, noEx_ok, itemG, stepS, iAll, itemsOf, iR1, iR2, wipeE, restE, keepE, sAug, gIadd, gImul, eApp, eExt, eNeg, List.getD_cons_zero, List.getD_cons_succ, List.set_cons_zero, List.set_cons_succ, List.getElem?_cons_zero, List.getElem?_cons_succ, Option.map_some, Option.map_none, Bool.not_true, Bool.not_false, beq_self_eq_true, if_true, if_false, ite_true, ite_false, Bool.false_eq_true, reduceIte, reduceCtorEq, lenL_0, lenL_1, lenL_2, lenL_3, lenL_4, lenL_5, lenL_6, lenL_7, lenL_8, lenL_9, lenL_10, lenL_11, lenL_12, isT, intIn]
  | _ => simp only [cIf_t, bind_ok, bind_ex, bind_st, get_mk, set_mk, sSeq, sEx, sRet, sIf, sSet, sPass, sEx_, sBk, sAsg, sPar2, sPar3, thenS, dv, toD, eC, eN, eMv, eP, eBin, tst, eChain, tAndM, tOrM, tNotM, eAnd, eOr, eNot, eIf, toA, aNil, aCons, asDs, dvs, eTup, eLst, eCall, eIx, eIxN, itemE, eSl, pNo, pSo, cutD, gLen, eLenN, lenD, gList, gTuple, gN, gT, setAll, eMt, tyD, eIsi, gAdd, gSub, gDiv, gMod, gMul, gPow, gLt, gLe, gGt, gGe, gStr, gMin, gIn, gNotIn, gIs, gIsNot, isD, eLenSc, eIxSc, eScNil, eAppTn, sTown, tYesM, noEx_ok, itemG, stepS, iAll, itemsOf, iR1, iR2, wipeE, restE, keepE, sAug, gIadd, gImul, eApp, eExt, eNeg, List.getD_cons_zero, List.getD_cons_succ, List.set_cons_zero, List.set_cons_succ, List.getElem?_cons_zero, List.getElem?_cons_succ, Option.map_some, Option.map_none, Bool.not_true, Bool.not_false, beq_self_eq_true, if_true, if_false, ite_true, ite_false, Bool.false_eq_true, reduceIte, reduceCtorEq, lenL_0, lenL_1, lenL_2, lenL_3, lenL_4, lenL_5, lenL_6, lenL_7, lenL_8, lenL_9, lenL_10, lenL_11, lenL_12, isT_int_none, isT_int_bool, isT_int_int, isT_int_str, isT_int_list, isT_int_tuple, isT_bool_none, isT_bool_bool, isT_bool_int, isT_bool_str, isT_bool_list, isT_bool_tuple, isT_str_none, isT_str_bool, isT_str_int, isT_str_str, isT_str_list, isT_str_tuple, isT_tuple_none, isT_tuple_bool, isT_tuple_int, isT_tuple_str, isT_tuple_list, isT_tuple_tuple, isT_list_none, isT_list_bool, isT_list_int, isT_list_str, isT_list_list, isT_list_tuple, intIn]
def asc : List (List Nat) → Bool
  | a :: b :: r => decide (a < b) && asc (b :: r)
  | _ => true
def strD (cs : List Nat) : D := .str (tx cs)
def lenOf : D → Int
  | .str s => s.length
  | _ => 0
def cpsOf : D → List Nat
  | .str s => s.cps.toList
  | _ => []
def intOf : D → Int
  | .int i => i
  | _ => 0
def shapesD : D → Int → Bool
  | .tuple ss, n => decide (1 ≤ ss.length) && decide (ss.length ≤ 3) && ss.all shpD && decide (maxI (ss.map lenOf) ≤ n) && asc (ss.map cpsOf)
  | _, _ => false
def gameD : D → Bool
  | .tuple [a, b, c] => intIn a 1 8 && isT "bool" c && shapesD b (intOf a)
  | _ => false
/-- all texts within a tuple are of a fair length -/
def gOk : D → Bool
  | .tuple [_, .tuple ss, _] => decide (ss.length ≤ lim) && ss.all txtOk
  | _ => true
theorem shp_strs : ∀ (ss : List D), ss.all shpD = true → ∃ css : List (List Nat), ss = css.map strD ∧ ∀ cs ∈ css, shpL cs = true
  | [], _ => ⟨[], rfl, fun c h => nomatch h⟩
  | d :: ss, h => by
    rw [List.all_cons, Bool.and_eq_true] at h
    obtain ⟨css, h1, h2⟩ := shp_strs ss h.2
    cases d with
    | str s => exact ⟨s.cps.toList :: css, by rw [h1]; rfl, fun c m => (List.mem_cons.mp m).elim (fun e => e ▸ h.1) (h2 c)⟩
    | _ => exact absurd h.1 Bool.false_ne_true
theorem cut1 {α : Type} (xs : List α) (h : 1 ≤ xs.length) : cutL xs (some 1) none = xs.drop 1 := by
  unfold cutL
  rw [show HT.sIx xs.length 0 (some 1) = 1 from by have := HT.sIx_nat xs.length 0 1; rw [show ((1 : Nat) : Int) = 1 from rfl] at this; rw [this]; omega, HT.sIx_none]
  exact List.take_of_length_le (by simp)
theorem zip_asc : ∀ (css : List (List Nat)), (zipL (css.map strD) ((css.map strD).drop 1)).all (fun d => match d with | .tuple [.str a, .str b] => decide (a.cps.toList < b.cps.toList) | _ => false) = asc css
  | [] => rfl
  | [a] => rfl
  | a :: b :: r => by
    have ih := zip_asc (b :: r)
    exact congrArg (fun z => decide (a < b) && z) ih
theorem max_le {ns : List Int} {n : Int} (h : ns ≠ []) : (maxI ns ≤ n) ↔ ∀ y ∈ ns, y ≤ n :=
  ⟨fun q y hy => Int.le_trans (maxI_ge ns y hy) q, fun q => q _ (maxI_mem ns h)⟩
theorem zip_mem : ∀ {xs ys : List D} {d : D}, d ∈ zipL xs ys → ∃ a b, a ∈ xs ∧ b ∈ ys ∧ d = .tuple [a, b]
  | [], _, _, h => by unfold zipL at h; cases h
  | _ :: _, [], _, h => by unfold zipL at h; cases h
  | x :: xs, y :: ys, d, h => by
    unfold zipL at h
    rcases List.mem_cons.mp h with e | h
    · exact ⟨x, y, List.mem_cons_self, List.mem_cons_self, e⟩
    · obtain ⟨a, b, h1, h2, h3⟩ := zip_mem h
      exact ⟨a, b, List.mem_cons_of_mem _ h1, List.mem_cons_of_mem _ h2, h3⟩
def ltD (d : D) : Bool := match d with | .tuple [.str a, .str b] => decide (a.cps.toList < b.cps.toList) | _ => false
theorem zipL_le : ∀ (xs ys : List D), (zipL xs ys).length ≤ xs.length
  | [], _ => by unfold zipL; exact Nat.le_refl _
  | _ :: _, [] => by unfold zipL; exact Nat.zero_le _
  | x :: xs, y :: ys => by unfold zipL; simp; exact zipL_le xs ys
theorem gMax_map {ds : List D} {f : D → Int} (h : ds ≠ []) (e : En) : gMax [.list (ds.map fun d => .int (f d))] e = .ok (.sh (.int (maxI (ds.map f)))) e := by
  have e1 : ds.map (fun d => PyData.int (f d)) = (ds.map f).map .int := by rw [List.map_map]; rfl
  rw [e1]
  show (match asInts ((ds.map f).map .int) with | some ns => if ns = [] then R.st else R.ok (Ent.sh (.int (maxI ns))) e | none => .st) = _
  rw [asInts_map]
  show (if ds.map f = [] then R.st else R.ok (Ent.sh (.int (maxI (ds.map f)))) e) = _
  rw [if_neg (by simpa using h)]
theorem is_game_run {d : D} {wd : List Ob} (hok : gOk d = true) : Run m_is_game [.sh d] wd (.sh (.bool (gameD d))) wd := by
  have no : ∀ (d : D), isT "tuple" d = false → Run m_is_game [.sh d] wd (.sh (.bool false)) wd := fun d h => by
    refine Run.ret (sl := [.sh d, .no, .no, .no, .no, .no]) ?_
    show f_is_game ⟨[.sh d, .no, .no, .no, .no, .no], wd⟩ = _
    unfold f_is_game
    simp only [cIf_t, bind_ok, bind_ex, bind_st, get_mk, set_mk, sSeq, sEx, sRet, sIf, sSet, sPass, sEx_, sBk, sAsg, sPar2, sPar3, thenS, dv, toD, eC, eN, eMv, eP, eBin, tst, eChain, tAndM, tOrM, tNotM, eAnd, eOr, eNot, eIf, toA, aNil, aCons, asDs, dvs, eTup, eLst, eCall, eIx, eIxN, itemE, eSl, pNo, pSo, cutD, gLen, eLenN, lenD, gList, gTuple, gN, gT, setAll, eMt, tyD, eIsi, gAdd, gSub, gDiv, gMod, gMul, gPow, gLt, gLe, gGt, gGe, gStr, gMin, gIn, gNotIn, gIs, gIsNot, isD, eLenSc, eIxSc, eScNil, eAppTn, sTown, tYesM, noEx_ok, itemG, stepS, iAll, itemsOf, iR1, iR2, wipeE, restE, keepE, sAug, gIadd, gImul, eApp, eExt, eNeg, List.getD_cons_zero, List.getD_cons_succ, List.set_cons_zero, List.set_cons_succ, List.getElem?_cons_zero, List.getElem?_cons_succ, Option.map_some, Option.map_none, Bool.not_true, Bool.not_false, beq_self_eq_true, if_true, if_false, ite_true, ite_false, Bool.false_eq_true, reduceIte, reduceCtorEq, lenL_0, lenL_1, lenL_2, lenL_3, lenL_4, lenL_5, lenL_6, lenL_7, lenL_8, lenL_9, lenL_10, lenL_11, lenL_12, h]
  have no3 : ∀ (ds : List D), ds.length ≠ 3 → Run m_is_game [.sh (.tuple ds)] wd (.sh (.bool false)) wd := fun ds h => by
    refine Run.ret (sl := [.sh (.tuple ds), .no, .no, .no, .no, .no]) ?_
    show f_is_game ⟨[.sh (.tuple ds), .no, .no, .no, .no, .no], wd⟩ = _
    have h3 : ((ds.length : Int) == 3) = false := by simp; omega
    unfold f_is_game
    simp only [cIf_t, bind_ok, bind_ex, bind_st, get_mk, set_mk, sSeq, sEx, sRet, sIf, sSet, sPass, sEx_, sBk, sAsg, sPar2, sPar3, thenS, dv, toD, eC, eN, eMv, eP, eBin, tst, eChain, tAndM, tOrM, tNotM, eAnd, eOr, eNot, eIf, toA, aNil, aCons, asDs, dvs, eTup, eLst, eCall, eIx, eIxN, itemE, eSl, pNo, pSo, cutD, gLen, eLenN, lenD, gList, gTuple, gN, gT, setAll, eMt, tyD, eIsi, gAdd, gSub, gDiv, gMod, gMul, gPow, gLt, gLe, gGt, gGe, gStr, gMin, gIn, gNotIn, gIs, gIsNot, isD, eLenSc, eIxSc, eScNil, eAppTn, sTown, tYesM, noEx_ok, itemG, stepS, iAll, itemsOf, iR1, iR2, wipeE, restE, keepE, sAug, gIadd, gImul, eApp, eExt, eNeg, List.getD_cons_zero, List.getD_cons_succ, List.set_cons_zero, List.set_cons_succ, List.getElem?_cons_zero, List.getElem?_cons_succ, Option.map_some, Option.map_none, Bool.not_true, Bool.not_false, beq_self_eq_true, if_true, if_false, ite_true, ite_false, Bool.false_eq_true, reduceIte, reduceCtorEq, lenL_0, lenL_1, lenL_2, lenL_3, lenL_4, lenL_5, lenL_6, lenL_7, lenL_8, lenL_9, lenL_10, lenL_11, lenL_12, isT, beq_self_eq_true, gNe_int, h3]
  cases d with
  | none => exact no _ rfl
  | bool b => exact no _ rfl
  | int b => exact no _ rfl
  | str b => exact no _ rfl
  | list b => exact no _ rfl
  | dict b => exact no _ rfl
  | tuple ds =>
    match ds, hok with
    | [], _ => exact no3 [] (by simp)
    | [x], _ => exact no3 [x] (by simp)
    | [x, y], _ => exact no3 [x, y] (by simp)
    | x :: y :: z :: u :: r, _ => exact no3 (x :: y :: z :: u :: r) (by simp)
    | [a, b, c], hok =>
      have h3 : (((0 + 1 + 1 + 1 : Nat) : Int) == 3) = true := by decide
      have st : ∀ (x4 x5 : Ent) , eCallF 3 m_is_integer (aCons (eN 1) (aCons (eC (.int 1)) (aCons (eC (.int 8)) aNil))) ⟨[.sh (.tuple [a, b, c]), .sh a, .sh b, .sh c, x4, x5], wd⟩ = .ok (.sh (.bool (intIn a 1 8))) ⟨[.sh (.tuple [a, b, c]), .sh a, .sh b, .sh c, x4, x5], wd⟩ := fun x4 x5 =>
        call_run (sl := [.sh (.tuple [a, b, c]), .sh a, .sh b, .sh c, x4, x5]) (by simp only [cIf_t, bind_ok, bind_ex, bind_st, get_mk, set_mk, sSeq, sEx, sRet, sIf, sSet, sPass, sEx_, sBk, sAsg, sPar2, sPar3, thenS, dv, toD, eC, eN, eMv, eP, eBin, tst, eChain, tAndM, tOrM, tNotM, eAnd, eOr, eNot, eIf, toA, aNil, aCons, asDs, dvs, eTup, eLst, eCall, eIx, eIxN, itemE, eSl, pNo, pSo, cutD, gLen, eLenN, lenD, gList, gTuple, gN, gT, setAll, eMt, tyD, eIsi, gAdd, gSub, gDiv, gMod, gMul, gPow, gLt, gLe, gGt, gGe, gStr, gMin, gIn, gNotIn, gIs, gIsNot, isD, eLenSc, eIxSc, eScNil, eAppTn, sTown, tYesM, noEx_ok, itemG, stepS, iAll, itemsOf, iR1, iR2, wipeE, restE, keepE, sAug, gIadd, gImul, eApp, eExt, eNeg, List.getD_cons_zero, List.getD_cons_succ, List.set_cons_zero, List.set_cons_succ, List.getElem?_cons_zero, List.getElem?_cons_succ, Option.map_some, Option.map_none, Bool.not_true, Bool.not_false, beq_self_eq_true, if_true, if_false, ite_true, ite_false, Bool.false_eq_true, reduceIte, reduceCtorEq, lenL_0, lenL_1, lenL_2, lenL_3, lenL_4, lenL_5, lenL_6, lenL_7, lenL_8, lenL_9, lenL_10, lenL_11, lenL_12]) rfl is_integer_run
      have run0 : ∀ v, f_is_game ⟨[.sh (.tuple [a, b, c]), .no, .no, .no, .no, .no], wd⟩ = .ok (.rt (.sh (.bool v))) ⟨[.sh (.tuple [a, b, c]), .sh a, .sh b, .sh c, .no, .no], wd⟩ → Run m_is_game [.sh (.tuple [a, b, c])] wd (.sh (.bool v)) wd := fun v h => Run.ret (sl := [.sh (.tuple [a, b, c]), .sh a, .sh b, .sh c, .no, .no]) h
      show Run m_is_game [.sh (.tuple [a, b, c])] wd (.sh (.bool (intIn a 1 8 && isT "bool" c && shapesD b (intOf a)))) wd
      cases h1 : intIn a 1 8
      · refine run0 _ ?_
        unfold f_is_game
        simp only [cIf_t, bind_ok, bind_ex, bind_st, get_mk, set_mk, sSeq, sEx, sRet, sIf, sSet, sPass, sEx_, sBk, sAsg, sPar2, sPar3, thenS, dv, toD, eC, eN, eMv, eP, eBin, tst, eChain, tAndM, tOrM, tNotM, eAnd, eOr, eNot, eIf, toA, aNil, aCons, asDs, dvs, eTup, eLst, eCall, eIx, eIxN, itemE, eSl, pNo, pSo, cutD, gLen, eLenN, lenD, gList, gTuple, gN, gT, setAll, eMt, tyD, eIsi, gAdd, gSub, gDiv, gMod, gMul, gPow, gLt, gLe, gGt, gGe, gStr, gMin, gIn, gNotIn, gIs, gIsNot, isD, eLenSc, eIxSc, eScNil, eAppTn, sTown, tYesM, noEx_ok, itemG, stepS, iAll, itemsOf, iR1, iR2, wipeE, restE, keepE, sAug, gIadd, gImul, eApp, eExt, eNeg, List.getD_cons_zero, List.getD_cons_succ, List.set_cons_zero, List.set_cons_succ, List.getElem?_cons_zero, List.getElem?_cons_succ, Option.map_some, Option.map_none, Bool.not_true, Bool.not_false, beq_self_eq_true, if_true, if_false, ite_true, ite_false, Bool.false_eq_true, reduceIte, reduceCtorEq, lenL_0, lenL_1, lenL_2, lenL_3, lenL_4, lenL_5, lenL_6, lenL_7, lenL_8, lenL_9, lenL_10, lenL_11, lenL_12, isT_int_none, isT_int_bool, isT_int_int, isT_int_str, isT_int_list, isT_int_tuple, isT_bool_none, isT_bool_bool, isT_bool_int, isT_bool_str, isT_bool_list, isT_bool_tuple, isT_str_none, isT_str_bool, isT_str_int, isT_str_str, isT_str_list, isT_str_tuple, isT_tuple_none, isT_tuple_bool, isT_tuple_int, isT_tuple_str, isT_tuple_list, isT_tuple_tuple, isT_list_none, isT_list_bool, isT_list_int, isT_list_str, isT_list_list, isT_list_tuple, gNe_int, h3, st, h1, List.length_cons, List.length_nil, Bool.false_and]
      · cases h2 : isT "bool" c
        · refine run0 _ ?_
          unfold f_is_game
          simp only [cIf_t, bind_ok, bind_ex, bind_st, get_mk, set_mk, sSeq, sEx, sRet, sIf, sSet, sPass, sEx_, sBk, sAsg, sPar2, sPar3, thenS, dv, toD, eC, eN, eMv, eP, eBin, tst, eChain, tAndM, tOrM, tNotM, eAnd, eOr, eNot, eIf, toA, aNil, aCons, asDs, dvs, eTup, eLst, eCall, eIx, eIxN, itemE, eSl, pNo, pSo, cutD, gLen, eLenN, lenD, gList, gTuple, gN, gT, setAll, eMt, tyD, eIsi, gAdd, gSub, gDiv, gMod, gMul, gPow, gLt, gLe, gGt, gGe, gStr, gMin, gIn, gNotIn, gIs, gIsNot, isD, eLenSc, eIxSc, eScNil, eAppTn, sTown, tYesM, noEx_ok, itemG, stepS, iAll, itemsOf, iR1, iR2, wipeE, restE, keepE, sAug, gIadd, gImul, eApp, eExt, eNeg, List.getD_cons_zero, List.getD_cons_succ, List.set_cons_zero, List.set_cons_succ, List.getElem?_cons_zero, List.getElem?_cons_succ, Option.map_some, Option.map_none, Bool.not_true, Bool.not_false, beq_self_eq_true, if_true, if_false, ite_true, ite_false, Bool.false_eq_true, reduceIte, reduceCtorEq, lenL_0, lenL_1, lenL_2, lenL_3, lenL_4, lenL_5, lenL_6, lenL_7, lenL_8, lenL_9, lenL_10, lenL_11, lenL_12, isT_int_none, isT_int_bool, isT_int_int, isT_int_str, isT_int_list, isT_int_tuple, isT_bool_none, isT_bool_bool, isT_bool_int, isT_bool_str, isT_bool_list, isT_bool_tuple, isT_str_none, isT_str_bool, isT_str_int, isT_str_str, isT_str_list, isT_str_tuple, isT_tuple_none, isT_tuple_bool, isT_tuple_int, isT_tuple_str, isT_tuple_list, isT_tuple_tuple, isT_list_none, isT_list_bool, isT_list_int, isT_list_str, isT_list_list, isT_list_tuple, gNe_int, h3, st, h1, h2, List.length_cons, List.length_nil, Bool.false_and, Bool.and_false]
        · cases hb : isT "tuple" b
          · refine run0 _ ?_
            have e : shapesD b (intOf a) = false := by
              cases b with
              | tuple ss => cases hb
              | _ => rfl
            rw [e]
            unfold f_is_game
            simp only [cIf_t, bind_ok, bind_ex, bind_st, get_mk, set_mk, sSeq, sEx, sRet, sIf, sSet, sPass, sEx_, sBk, sAsg, sPar2, sPar3, thenS, dv, toD, eC, eN, eMv, eP, eBin, tst, eChain, tAndM, tOrM, tNotM, eAnd, eOr, eNot, eIf, toA, aNil, aCons, asDs, dvs, eTup, eLst, eCall, eIx, eIxN, itemE, eSl, pNo, pSo, cutD, gLen, eLenN, lenD, gList, gTuple, gN, gT, setAll, eMt, tyD, eIsi, gAdd, gSub, gDiv, gMod, gMul, gPow, gLt, gLe, gGt, gGe, gStr, gMin, gIn, gNotIn, gIs, gIsNot, isD, eLenSc, eIxSc, eScNil, eAppTn, sTown, tYesM, noEx_ok, itemG, stepS, iAll, itemsOf, iR1, iR2, wipeE, restE, keepE, sAug, gIadd, gImul, eApp, eExt, eNeg, List.getD_cons_zero, List.getD_cons_succ, List.set_cons_zero, List.set_cons_succ, List.getElem?_cons_zero, List.getElem?_cons_succ, Option.map_some, Option.map_none, Bool.not_true, Bool.not_false, beq_self_eq_true, if_true, if_false, ite_true, ite_false, Bool.false_eq_true, reduceIte, reduceCtorEq, lenL_0, lenL_1, lenL_2, lenL_3, lenL_4, lenL_5, lenL_6, lenL_7, lenL_8, lenL_9, lenL_10, lenL_11, lenL_12, isT_int_none, isT_int_bool, isT_int_int, isT_int_str, isT_int_list, isT_int_tuple, isT_bool_none, isT_bool_bool, isT_bool_int, isT_bool_str, isT_bool_list, isT_bool_tuple, isT_str_none, isT_str_bool, isT_str_int, isT_str_str, isT_str_list, isT_str_tuple, isT_tuple_none, isT_tuple_bool, isT_tuple_int, isT_tuple_str, isT_tuple_list, isT_tuple_tuple, isT_list_none, isT_list_bool, isT_list_int, isT_list_str, isT_list_list, isT_list_tuple, gNe_int, h3, st, h1, h2, hb, List.length_cons, List.length_nil, Bool.false_and, Bool.and_false]
          · cases b with
            | tuple ss =>
              have hok1 : ss.length ≤ lim ∧ ss.all txtOk = true := by
                have h : (decide (ss.length ≤ lim) && ss.all txtOk) = true := hok
                rw [Bool.and_eq_true] at h
                exact ⟨of_decide_eq_true h.1, h.2⟩
              have hlc : eLc (iAll (eN 2)) (gN 4) tYesM (eCallF 1 m_is_shape (aCons (eN 4) aNil)) [4] ⟨[.sh (.tuple [a, .tuple ss, c]), .sh a, .sh (.tuple ss), .sh c, .no, .no], wd⟩ = .ok (.ow (ss.map fun d => .bool (shpD d))) ⟨[.sh (.tuple [a, .tuple ss, c]), .sh a, .sh (.tuple ss), .sh c, .no, .no], wd⟩ := by
                obtain ⟨e', h1, x', h2⟩ := comp_map (g := gN 4) (t := tYesM) (m := eCallF 1 m_is_shape (aCons (eN 4) aNil)) (vs := [4]) (fun e => ∃ x, e = ⟨[.sh (.tuple [a, .tuple ss, c]), .sh a, .sh (.tuple ss), .sh c, x, .no], wd⟩) (fun d => .bool (shpD d)) ss ⟨[.sh (.tuple [a, .tuple ss, c]), .sh a, .sh (.tuple ss), .sh c, .no, .no], wd⟩ ⟨.no, rfl⟩ hok1.1 (by
                  rintro d hd e ⟨x, rfl⟩
                  have hc := call_run (n := 1) (ms := aCons (eN 4) aNil) (en := ⟨[.sh (.tuple [a, .tuple ss, c]), .sh a, .sh (.tuple ss), .sh c, .sh d, .no], wd⟩) (sl := [.sh (.tuple [a, .tuple ss, c]), .sh a, .sh (.tuple ss), .sh c, .sh d, .no]) (by simp only [cIf_t, bind_ok, bind_ex, bind_st, get_mk, set_mk, sSeq, sEx, sRet, sIf, sSet, sPass, sEx_, sBk, sAsg, sPar2, sPar3, thenS, dv, toD, eC, eN, eMv, eP, eBin, tst, eChain, tAndM, tOrM, tNotM, eAnd, eOr, eNot, eIf, toA, aNil, aCons, asDs, dvs, eTup, eLst, eCall, eIx, eIxN, itemE, eSl, pNo, pSo, cutD, gLen, eLenN, lenD, gList, gTuple, gN, gT, setAll, eMt, tyD, eIsi, gAdd, gSub, gDiv, gMod, gMul, gPow, gLt, gLe, gGt, gGe, gStr, gMin, gIn, gNotIn, gIs, gIsNot, isD, eLenSc, eIxSc, eScNil, eAppTn, sTown, tYesM, noEx_ok, itemG, stepS, iAll, itemsOf, iR1, iR2, wipeE, restE, keepE, sAug, gIadd, gImul, eApp, eExt, eNeg, List.getD_cons_zero, List.getD_cons_succ, List.set_cons_zero, List.set_cons_succ, List.getElem?_cons_zero, List.getElem?_cons_succ, Option.map_some, Option.map_none, Bool.not_true, Bool.not_false, beq_self_eq_true, if_true, if_false, ite_true, ite_false, Bool.false_eq_true, reduceIte, reduceCtorEq, lenL_0, lenL_1, lenL_2, lenL_3, lenL_4, lenL_5, lenL_6, lenL_7, lenL_8, lenL_9, lenL_10, lenL_11, lenL_12]) rfl (is_shape_run (wd := wd) (List.all_eq_true.mp hok1.2 d hd))
                  exact ⟨⟨[.sh (.tuple [a, .tuple ss, c]), .sh a, .sh (.tuple ss), .sh c, .sh d, .no], wd⟩, by simp only [cIf_t, bind_ok, bind_ex, bind_st, get_mk, set_mk, sSeq, sEx, sRet, sIf, sSet, sPass, sEx_, sBk, sAsg, sPar2, sPar3, thenS, dv, toD, eC, eN, eMv, eP, eBin, tst, eChain, tAndM, tOrM, tNotM, eAnd, eOr, eNot, eIf, toA, aNil, aCons, asDs, dvs, eTup, eLst, eCall, eIx, eIxN, itemE, eSl, pNo, pSo, cutD, gLen, eLenN, lenD, gList, gTuple, gN, gT, setAll, eMt, tyD, eIsi, gAdd, gSub, gDiv, gMod, gMul, gPow, gLt, gLe, gGt, gGe, gStr, gMin, gIn, gNotIn, gIs, gIsNot, isD, eLenSc, eIxSc, eScNil, eAppTn, sTown, tYesM, noEx_ok, itemG, stepS, iAll, itemsOf, iR1, iR2, wipeE, restE, keepE, sAug, gIadd, gImul, eApp, eExt, eNeg, List.getD_cons_zero, List.getD_cons_succ, List.set_cons_zero, List.set_cons_succ, List.getElem?_cons_zero, List.getElem?_cons_succ, Option.map_some, Option.map_none, Bool.not_true, Bool.not_false, beq_self_eq_true, if_true, if_false, ite_true, ite_false, Bool.false_eq_true, reduceIte, reduceCtorEq, lenL_0, lenL_1, lenL_2, lenL_3, lenL_4, lenL_5, lenL_6, lenL_7, lenL_8, lenL_9, lenL_10, lenL_11, lenL_12, hc], .sh d, rfl⟩)
                subst h2
                refine (lc_run (e := ⟨[.sh (.tuple [a, .tuple ss, c]), .sh a, .sh (.tuple ss), .sh c, .no, .no], wd⟩) (by simp only [cIf_t, bind_ok, bind_ex, bind_st, get_mk, set_mk, sSeq, sEx, sRet, sIf, sSet, sPass, sEx_, sBk, sAsg, sPar2, sPar3, thenS, dv, toD, eC, eN, eMv, eP, eBin, tst, eChain, tAndM, tOrM, tNotM, eAnd, eOr, eNot, eIf, toA, aNil, aCons, asDs, dvs, eTup, eLst, eCall, eIx, eIxN, itemE, eSl, pNo, pSo, cutD, gLen, eLenN, lenD, gList, gTuple, gN, gT, setAll, eMt, tyD, eIsi, gAdd, gSub, gDiv, gMod, gMul, gPow, gLt, gLe, gGt, gGe, gStr, gMin, gIn, gNotIn, gIs, gIsNot, isD, eLenSc, eIxSc, eScNil, eAppTn, sTown, tYesM, noEx_ok, itemG, stepS, iAll, itemsOf, iR1, iR2, wipeE, restE, keepE, sAug, gIadd, gImul, eApp, eExt, eNeg, List.getD_cons_zero, List.getD_cons_succ, List.set_cons_zero, List.set_cons_succ, List.getElem?_cons_zero, List.getElem?_cons_succ, Option.map_some, Option.map_none, Bool.not_true, Bool.not_false, beq_self_eq_true, if_true, if_false, ite_true, ite_false, Bool.false_eq_true, reduceIte, reduceCtorEq, lenL_0, lenL_1, lenL_2, lenL_3, lenL_4, lenL_5, lenL_6, lenL_7, lenL_8, lenL_9, lenL_10, lenL_11, lenL_12]) h1).trans ?_
                simp only [cIf_t, bind_ok, bind_ex, bind_st, get_mk, set_mk, sSeq, sEx, sRet, sIf, sSet, sPass, sEx_, sBk, sAsg, sPar2, sPar3, thenS, dv, toD, eC, eN, eMv, eP, eBin, tst, eChain, tAndM, tOrM, tNotM, eAnd, eOr, eNot, eIf, toA, aNil, aCons, asDs, dvs, eTup, eLst, eCall, eIx, eIxN, itemE, eSl, pNo, pSo, cutD, gLen, eLenN, lenD, gList, gTuple, gN, gT, setAll, eMt, tyD, eIsi, gAdd, gSub, gDiv, gMod, gMul, gPow, gLt, gLe, gGt, gGe, gStr, gMin, gIn, gNotIn, gIs, gIsNot, isD, eLenSc, eIxSc, eScNil, eAppTn, sTown, tYesM, noEx_ok, itemG, stepS, iAll, itemsOf, iR1, iR2, wipeE, restE, keepE, sAug, gIadd, gImul, eApp, eExt, eNeg, List.getD_cons_zero, List.getD_cons_succ, List.set_cons_zero, List.set_cons_succ, List.getElem?_cons_zero, List.getElem?_cons_succ, Option.map_some, Option.map_none, Bool.not_true, Bool.not_false, beq_self_eq_true, if_true, if_false, ite_true, ite_false, Bool.false_eq_true, reduceIte, reduceCtorEq, lenL_0, lenL_1, lenL_2, lenL_3, lenL_4, lenL_5, lenL_6, lenL_7, lenL_8, lenL_9, lenL_10, lenL_11, lenL_12]
              by_cases h4 : 1 ≤ ss.length
              · have h4' : (1 : Int) ≤ (ss.length : Int) := by omega
                by_cases h5 : ss.length ≤ 3
                · have h5' : (ss.length : Int) ≤ 3 := by omega
                  cases h6 : ss.all shpD
                  · refine run0 _ ?_
                    have e : shapesD (.tuple ss) (intOf a) = false := by
                      show (decide _ && decide _ && ss.all shpD && _ && _) = false
                      rw [h6]; simp
                    rw [e]
                    unfold f_is_game
                    simp only [cIf_t, bind_ok, bind_ex, bind_st, get_mk, set_mk, sSeq, sEx, sRet, sIf, sSet, sPass, sEx_, sBk, sAsg, sPar2, sPar3, thenS, dv, toD, eC, eN, eMv, eP, eBin, tst, eChain, tAndM, tOrM, tNotM, eAnd, eOr, eNot, eIf, toA, aNil, aCons, asDs, dvs, eTup, eLst, eCall, eIx, eIxN, itemE, eSl, pNo, pSo, cutD, gLen, eLenN, lenD, gList, gTuple, gN, gT, setAll, eMt, tyD, eIsi, gAdd, gSub, gDiv, gMod, gMul, gPow, gLt, gLe, gGt, gGe, gStr, gMin, gIn, gNotIn, gIs, gIsNot, isD, eLenSc, eIxSc, eScNil, eAppTn, sTown, tYesM, noEx_ok, itemG, stepS, iAll, itemsOf, iR1, iR2, wipeE, restE, keepE, sAug, gIadd, gImul, eApp, eExt, eNeg, List.getD_cons_zero, List.getD_cons_succ, List.set_cons_zero, List.set_cons_succ, List.getElem?_cons_zero, List.getElem?_cons_succ, Option.map_some, Option.map_none, Bool.not_true, Bool.not_false, beq_self_eq_true, if_true, if_false, ite_true, ite_false, Bool.false_eq_true, reduceIte, reduceCtorEq, lenL_0, lenL_1, lenL_2, lenL_3, lenL_4, lenL_5, lenL_6, lenL_7, lenL_8, lenL_9, lenL_10, lenL_11, lenL_12, isT_int_none, isT_int_bool, isT_int_int, isT_int_str, isT_int_list, isT_int_tuple, isT_bool_none, isT_bool_bool, isT_bool_int, isT_bool_str, isT_bool_list, isT_bool_tuple, isT_str_none, isT_str_bool, isT_str_int, isT_str_str, isT_str_list, isT_str_tuple, isT_tuple_none, isT_tuple_bool, isT_tuple_int, isT_tuple_str, isT_tuple_list, isT_tuple_tuple, isT_list_none, isT_list_bool, isT_list_int, isT_list_str, isT_list_list, isT_list_tuple, gNe_int, h3, st, h1, h2, hb, List.length_cons, List.length_nil, Bool.false_and, Bool.and_false, h4', h5', decide_true, hlc, gAll_map, h6]
                  · cases a with
                    | int n =>
                      obtain ⟨css, hss, hall⟩ := shp_strs ss h6
                      have hlen : ∀ cs ∈ css, cs.length ≤ 8 := fun cs hc => by
                        have := hall cs hc
                        unfold shpL at this
                        simp only [Bool.and_eq_true, decide_eq_true_eq] at this
                        exact this.1.1.1.2
                      have hlim : lim = 100000 := rfl
                      have hmx : eLc (iAll (eN 2)) (gN 4) tYesM (eLenN 4) [4] ⟨[.sh (.tuple [.int n, .tuple ss, c]), .sh (.int n), .sh (.tuple ss), .sh c, .no, .no], wd⟩ = .ok (.ow (ss.map fun d => .int (lenOf d))) ⟨[.sh (.tuple [.int n, .tuple ss, c]), .sh (.int n), .sh (.tuple ss), .sh c, .no, .no], wd⟩ := by
                        obtain ⟨e', h1, x', h2⟩ := comp_map (g := gN 4) (t := tYesM) (m := eLenN 4) (vs := [4]) (fun e => ∃ x, e = ⟨[.sh (.tuple [.int n, .tuple ss, c]), .sh (.int n), .sh (.tuple ss), .sh c, x, .no], wd⟩) (fun d => .int (lenOf d)) ss ⟨[.sh (.tuple [.int n, .tuple ss, c]), .sh (.int n), .sh (.tuple ss), .sh c, .no, .no], wd⟩ ⟨.no, rfl⟩ hok1.1 (by
                          rintro d hd e ⟨x, rfl⟩
                          rw [hss] at hd
                          obtain ⟨cs, hcs, rfl⟩ := List.mem_map.mp hd
                          have hl : (tx cs).length ≤ lim := by rw [tx_len]; have := hlen cs hcs; omega
                          exact ⟨⟨[.sh (.tuple [.int n, .tuple ss, c]), .sh (.int n), .sh (.tuple ss), .sh c, .sh (strD cs), .no], wd⟩, by unfold strD; simp only [cIf_t, bind_ok, bind_ex, bind_st, get_mk, set_mk, sSeq, sEx, sRet, sIf, sSet, sPass, sEx_, sBk, sAsg, sPar2, sPar3, thenS, dv, toD, eC, eN, eMv, eP, eBin, tst, eChain, tAndM, tOrM, tNotM, eAnd, eOr, eNot, eIf, toA, aNil, aCons, asDs, dvs, eTup, eLst, eCall, eIx, eIxN, itemE, eSl, pNo, pSo, cutD, gLen, eLenN, lenD, gList, gTuple, gN, gT, setAll, eMt, tyD, eIsi, gAdd, gSub, gDiv, gMod, gMul, gPow, gLt, gLe, gGt, gGe, gStr, gMin, gIn, gNotIn, gIs, gIsNot, isD, eLenSc, eIxSc, eScNil, eAppTn, sTown, tYesM, noEx_ok, itemG, stepS, iAll, itemsOf, iR1, iR2, wipeE, restE, keepE, sAug, gIadd, gImul, eApp, eExt, eNeg, List.getD_cons_zero, List.getD_cons_succ, List.set_cons_zero, List.set_cons_succ, List.getElem?_cons_zero, List.getElem?_cons_succ, Option.map_some, Option.map_none, Bool.not_true, Bool.not_false, beq_self_eq_true, if_true, if_false, ite_true, ite_false, Bool.false_eq_true, reduceIte, reduceCtorEq, lenL_0, lenL_1, lenL_2, lenL_3, lenL_4, lenL_5, lenL_6, lenL_7, lenL_8, lenL_9, lenL_10, lenL_11, lenL_12, hl]; rfl, .sh (strD cs), rfl⟩)
                        subst h2
                        refine (lc_run (e := ⟨[.sh (.tuple [.int n, .tuple ss, c]), .sh (.int n), .sh (.tuple ss), .sh c, .no, .no], wd⟩) (by simp only [cIf_t, bind_ok, bind_ex, bind_st, get_mk, set_mk, sSeq, sEx, sRet, sIf, sSet, sPass, sEx_, sBk, sAsg, sPar2, sPar3, thenS, dv, toD, eC, eN, eMv, eP, eBin, tst, eChain, tAndM, tOrM, tNotM, eAnd, eOr, eNot, eIf, toA, aNil, aCons, asDs, dvs, eTup, eLst, eCall, eIx, eIxN, itemE, eSl, pNo, pSo, cutD, gLen, eLenN, lenD, gList, gTuple, gN, gT, setAll, eMt, tyD, eIsi, gAdd, gSub, gDiv, gMod, gMul, gPow, gLt, gLe, gGt, gGe, gStr, gMin, gIn, gNotIn, gIs, gIsNot, isD, eLenSc, eIxSc, eScNil, eAppTn, sTown, tYesM, noEx_ok, itemG, stepS, iAll, itemsOf, iR1, iR2, wipeE, restE, keepE, sAug, gIadd, gImul, eApp, eExt, eNeg, List.getD_cons_zero, List.getD_cons_succ, List.set_cons_zero, List.set_cons_succ, List.getElem?_cons_zero, List.getElem?_cons_succ, Option.map_some, Option.map_none, Bool.not_true, Bool.not_false, beq_self_eq_true, if_true, if_false, ite_true, ite_false, Bool.false_eq_true, reduceIte, reduceCtorEq, lenL_0, lenL_1, lenL_2, lenL_3, lenL_4, lenL_5, lenL_6, lenL_7, lenL_8, lenL_9, lenL_10, lenL_11, lenL_12]) h1).trans ?_
                        simp only [cIf_t, bind_ok, bind_ex, bind_st, get_mk, set_mk, sSeq, sEx, sRet, sIf, sSet, sPass, sEx_, sBk, sAsg, sPar2, sPar3, thenS, dv, toD, eC, eN, eMv, eP, eBin, tst, eChain, tAndM, tOrM, tNotM, eAnd, eOr, eNot, eIf, toA, aNil, aCons, asDs, dvs, eTup, eLst, eCall, eIx, eIxN, itemE, eSl, pNo, pSo, cutD, gLen, eLenN, lenD, gList, gTuple, gN, gT, setAll, eMt, tyD, eIsi, gAdd, gSub, gDiv, gMod, gMul, gPow, gLt, gLe, gGt, gGe, gStr, gMin, gIn, gNotIn, gIs, gIsNot, isD, eLenSc, eIxSc, eScNil, eAppTn, sTown, tYesM, noEx_ok, itemG, stepS, iAll, itemsOf, iR1, iR2, wipeE, restE, keepE, sAug, gIadd, gImul, eApp, eExt, eNeg, List.getD_cons_zero, List.getD_cons_succ, List.set_cons_zero, List.set_cons_succ, List.getElem?_cons_zero, List.getElem?_cons_succ, Option.map_some, Option.map_none, Bool.not_true, Bool.not_false, beq_self_eq_true, if_true, if_false, ite_true, ite_false, Bool.false_eq_true, reduceIte, reduceCtorEq, lenL_0, lenL_1, lenL_2, lenL_3, lenL_4, lenL_5, lenL_6, lenL_7, lenL_8, lenL_9, lenL_10, lenL_11, lenL_12]
                      have hzp : eLc (iZp (eN 2) (eSl (eN 2) (pSo (eC (.int 1))) pNo)) (gT [4, 5]) tYesM (eBin gLt (eN 4) (eN 5)) [4, 5] ⟨[.sh (.tuple [.int n, .tuple ss, c]), .sh (.int n), .sh (.tuple ss), .sh c, .no, .no], wd⟩ = .ok (.ow ((zipL ss (ss.drop 1)).map fun d => .bool (ltD d))) ⟨[.sh (.tuple [.int n, .tuple ss, c]), .sh (.int n), .sh (.tuple ss), .sh c, .no, .no], wd⟩ := by
                        obtain ⟨e', h1, x', y', h2⟩ := comp_map (g := gT [4, 5]) (t := tYesM) (m := eBin gLt (eN 4) (eN 5)) (vs := [4, 5]) (fun e => ∃ x y, e = ⟨[.sh (.tuple [.int n, .tuple ss, c]), .sh (.int n), .sh (.tuple ss), .sh c, x, y], wd⟩) (fun d => .bool (ltD d)) (zipL ss (ss.drop 1)) ⟨[.sh (.tuple [.int n, .tuple ss, c]), .sh (.int n), .sh (.tuple ss), .sh c, .no, .no], wd⟩ ⟨.no, .no, rfl⟩ (Nat.le_trans (zipL_le _ _) hok1.1) (by
                          rintro d hd e ⟨x, y, rfl⟩
                          obtain ⟨p, q, hp, hq, rfl⟩ := zip_mem hd
                          have hq' := List.mem_of_mem_drop hq
                          rw [hss] at hp hq'
                          obtain ⟨c1, _, rfl⟩ := List.mem_map.mp hp
                          obtain ⟨c2, _, rfl⟩ := List.mem_map.mp hq'
                          exact ⟨⟨[.sh (.tuple [.int n, .tuple ss, c]), .sh (.int n), .sh (.tuple ss), .sh c, .sh (strD c1), .sh (strD c2)], wd⟩, by unfold strD; simp only [cIf_t, bind_ok, bind_ex, bind_st, get_mk, set_mk, sSeq, sEx, sRet, sIf, sSet, sPass, sEx_, sBk, sAsg, sPar2, sPar3, thenS, dv, toD, eC, eN, eMv, eP, eBin, tst, eChain, tAndM, tOrM, tNotM, eAnd, eOr, eNot, eIf, toA, aNil, aCons, asDs, dvs, eTup, eLst, eCall, eIx, eIxN, itemE, eSl, pNo, pSo, cutD, gLen, eLenN, lenD, gList, gTuple, gN, gT, setAll, eMt, tyD, eIsi, gAdd, gSub, gDiv, gMod, gMul, gPow, gLt, gLe, gGt, gGe, gStr, gMin, gIn, gNotIn, gIs, gIsNot, isD, eLenSc, eIxSc, eScNil, eAppTn, sTown, tYesM, noEx_ok, itemG, stepS, iAll, itemsOf, iR1, iR2, wipeE, restE, keepE, sAug, gIadd, gImul, eApp, eExt, eNeg, List.getD_cons_zero, List.getD_cons_succ, List.set_cons_zero, List.set_cons_succ, List.getElem?_cons_zero, List.getElem?_cons_succ, Option.map_some, Option.map_none, Bool.not_true, Bool.not_false, beq_self_eq_true, if_true, if_false, ite_true, ite_false, Bool.false_eq_true, reduceIte, reduceCtorEq, lenL_0, lenL_1, lenL_2, lenL_3, lenL_4, lenL_5, lenL_6, lenL_7, lenL_8, lenL_9, lenL_10, lenL_11, lenL_12, ltD], .sh (strD c1), .sh (strD c2), rfl⟩)
                        subst h2
                        refine (lc_run (e := ⟨[.sh (.tuple [.int n, .tuple ss, c]), .sh (.int n), .sh (.tuple ss), .sh c, .no, .no], wd⟩) (by simp only [cIf_t, bind_ok, bind_ex, bind_st, get_mk, set_mk, sSeq, sEx, sRet, sIf, sSet, sPass, sEx_, sBk, sAsg, sPar2, sPar3, thenS, dv, toD, eC, eN, eMv, eP, eBin, tst, eChain, tAndM, tOrM, tNotM, eAnd, eOr, eNot, eIf, toA, aNil, aCons, asDs, dvs, eTup, eLst, eCall, eIx, eIxN, itemE, eSl, pNo, pSo, cutD, gLen, eLenN, lenD, gList, gTuple, gN, gT, setAll, eMt, tyD, eIsi, gAdd, gSub, gDiv, gMod, gMul, gPow, gLt, gLe, gGt, gGe, gStr, gMin, gIn, gNotIn, gIs, gIsNot, isD, eLenSc, eIxSc, eScNil, eAppTn, sTown, tYesM, noEx_ok, itemG, stepS, iAll, itemsOf, iR1, iR2, wipeE, restE, keepE, sAug, gIadd, gImul, eApp, eExt, eNeg, List.getD_cons_zero, List.getD_cons_succ, List.set_cons_zero, List.set_cons_succ, List.getElem?_cons_zero, List.getElem?_cons_succ, Option.map_some, Option.map_none, Bool.not_true, Bool.not_false, beq_self_eq_true, if_true, if_false, ite_true, ite_false, Bool.false_eq_true, reduceIte, reduceCtorEq, lenL_0, lenL_1, lenL_2, lenL_3, lenL_4, lenL_5, lenL_6, lenL_7, lenL_8, lenL_9, lenL_10, lenL_11, lenL_12, iZp, cut1 ss h4]) h1).trans ?_
                        simp only [cIf_t, bind_ok, bind_ex, bind_st, get_mk, set_mk, sSeq, sEx, sRet, sIf, sSet, sPass, sEx_, sBk, sAsg, sPar2, sPar3, thenS, dv, toD, eC, eN, eMv, eP, eBin, tst, eChain, tAndM, tOrM, tNotM, eAnd, eOr, eNot, eIf, toA, aNil, aCons, asDs, dvs, eTup, eLst, eCall, eIx, eIxN, itemE, eSl, pNo, pSo, cutD, gLen, eLenN, lenD, gList, gTuple, gN, gT, setAll, eMt, tyD, eIsi, gAdd, gSub, gDiv, gMod, gMul, gPow, gLt, gLe, gGt, gGe, gStr, gMin, gIn, gNotIn, gIs, gIsNot, isD, eLenSc, eIxSc, eScNil, eAppTn, sTown, tYesM, noEx_ok, itemG, stepS, iAll, itemsOf, iR1, iR2, wipeE, restE, keepE, sAug, gIadd, gImul, eApp, eExt, eNeg, List.getD_cons_zero, List.getD_cons_succ, List.set_cons_zero, List.set_cons_succ, List.getElem?_cons_zero, List.getElem?_cons_succ, Option.map_some, Option.map_none, Bool.not_true, Bool.not_false, beq_self_eq_true, if_true, if_false, ite_true, ite_false, Bool.false_eq_true, reduceIte, reduceCtorEq, lenL_0, lenL_1, lenL_2, lenL_3, lenL_4, lenL_5, lenL_6, lenL_7, lenL_8, lenL_9, lenL_10, lenL_11, lenL_12]
                      have hne : ss ≠ [] := by intro e; rw [e] at h4; simp at h4
                      refine run0 _ ?_
                      have ez : (zipL ss (ss.drop 1)).all ltD = asc (ss.map cpsOf) := by
                        rw [hss, List.map_map]
                        refine (zip_asc css).trans (congrArg asc ?_)
                        exact (List.map_id css).symm.trans (List.map_congr_left fun c _ => rfl)
                      have e : shapesD (.tuple ss) (intOf (.int n)) = (decide (maxI (ss.map lenOf) ≤ n) && (zipL ss (ss.drop 1)).all ltD) := by
                        rw [ez]
                        show (decide (1 ≤ ss.length) && decide (ss.length ≤ 3) && ss.all shpD && decide (maxI (ss.map lenOf) ≤ n) && asc (ss.map cpsOf)) = _
                        rw [decide_eq_true h4, decide_eq_true h5, h6]; rfl
                      rw [e]
                      unfold f_is_game
                      by_cases h7 : maxI (ss.map lenOf) ≤ n
                      · simp only [cIf_t, bind_ok, bind_ex, bind_st, get_mk, set_mk, sSeq, sEx, sRet, sIf, sSet, sPass, sEx_, sBk, sAsg, sPar2, sPar3, thenS, dv, toD, eC, eN, eMv, eP, eBin, tst, eChain, tAndM, tOrM, tNotM, eAnd, eOr, eNot, eIf, toA, aNil, aCons, asDs, dvs, eTup, eLst, eCall, eIx, eIxN, itemE, eSl, pNo, pSo, cutD, gLen, eLenN, lenD, gList, gTuple, gN, gT, setAll, eMt, tyD, eIsi, gAdd, gSub, gDiv, gMod, gMul, gPow, gLt, gLe, gGt, gGe, gStr, gMin, gIn, gNotIn, gIs, gIsNot, isD, eLenSc, eIxSc, eScNil, eAppTn, sTown, tYesM, noEx_ok, itemG, stepS, iAll, itemsOf, iR1, iR2, wipeE, restE, keepE, sAug, gIadd, gImul, eApp, eExt, eNeg, List.getD_cons_zero, List.getD_cons_succ, List.set_cons_zero, List.set_cons_succ, List.getElem?_cons_zero, List.getElem?_cons_succ, Option.map_some, Option.map_none, Bool.not_true, Bool.not_false, beq_self_eq_true, if_true, if_false, ite_true, ite_false, Bool.false_eq_true, reduceIte, reduceCtorEq, lenL_0, lenL_1, lenL_2, lenL_3, lenL_4, lenL_5, lenL_6, lenL_7, lenL_8, lenL_9, lenL_10, lenL_11, lenL_12, isT_int_none, isT_int_bool, isT_int_int, isT_int_str, isT_int_list, isT_int_tuple, isT_bool_none, isT_bool_bool, isT_bool_int, isT_bool_str, isT_bool_list, isT_bool_tuple, isT_str_none, isT_str_bool, isT_str_int, isT_str_str, isT_str_list, isT_str_tuple, isT_tuple_none, isT_tuple_bool, isT_tuple_int, isT_tuple_str, isT_tuple_list, isT_tuple_tuple, isT_list_none, isT_list_bool, isT_list_int, isT_list_str, isT_list_list, isT_list_tuple, gNe_int, h3, st, h1, h2, hb, List.length_cons, List.length_nil, Bool.true_and, h4', h5', decide_true, hlc, gAll_map, h6, hmx, gMax_map hne, h7, hzp]
                      · simp only [cIf_t, bind_ok, bind_ex, bind_st, get_mk, set_mk, sSeq, sEx, sRet, sIf, sSet, sPass, sEx_, sBk, sAsg, sPar2, sPar3, thenS, dv, toD, eC, eN, eMv, eP, eBin, tst, eChain, tAndM, tOrM, tNotM, eAnd, eOr, eNot, eIf, toA, aNil, aCons, asDs, dvs, eTup, eLst, eCall, eIx, eIxN, itemE, eSl, pNo, pSo, cutD, gLen, eLenN, lenD, gList, gTuple, gN, gT, setAll, eMt, tyD, eIsi, gAdd, gSub, gDiv, gMod, gMul, gPow, gLt, gLe, gGt, gGe, gStr, gMin, gIn, gNotIn, gIs, gIsNot, isD, eLenSc, eIxSc, eScNil, eAppTn, sTown, tYesM, noEx_ok, itemG, stepS, iAll, itemsOf, iR1, iR2, wipeE, restE, keepE, sAug, gIadd, gImul, eApp, eExt, eNeg, List.getD_cons_zero, List.getD_cons_succ, List.set_cons_zero, List.set_cons_succ, List.getElem?_cons_zero, List.getElem?_cons_succ, Option.map_some, Option.map_none, Bool.not_true, Bool.not_false, beq_self_eq_true, if_true, if_false, ite_true, ite_false, Bool.false_eq_true, reduceIte, reduceCtorEq, lenL_0, lenL_1, lenL_2, lenL_3, lenL_4, lenL_5, lenL_6, lenL_7, lenL_8, lenL_9, lenL_10, lenL_11, lenL_12, isT_int_none, isT_int_bool, isT_int_int, isT_int_str, isT_int_list, isT_int_tuple, isT_bool_none, isT_bool_bool, isT_bool_int, isT_bool_str, isT_bool_list, isT_bool_tuple, isT_str_none, isT_str_bool, isT_str_int, isT_str_str, isT_str_list, isT_str_tuple, isT_tuple_none, isT_tuple_bool, isT_tuple_int, isT_tuple_str, isT_tuple_list, isT_tuple_tuple, isT_list_none, isT_list_bool, isT_list_int, isT_list_str, isT_list_list, isT_list_tuple, gNe_int, h3, st, h1, h2, hb, List.length_cons, List.length_nil, Bool.true_and, Bool.false_and, h4', h5', decide_true, decide_false, hlc, gAll_map, h6, hmx, gMax_map hne, h7, hzp]
                    | _ => cases h1
                · refine run0 _ ?_
                  have h5' : ¬ (ss.length : Int) ≤ 3 := by omega
                  have e : shapesD (.tuple ss) (intOf a) = false := by
                    show (decide _ && decide (ss.length ≤ 3) && ss.all shpD && _ && _) = false
                    rw [decide_eq_false h5]; simp
                  rw [e]
                  unfold f_is_game
                  simp only [cIf_t, bind_ok, bind_ex, bind_st, get_mk, set_mk, sSeq, sEx, sRet, sIf, sSet, sPass, sEx_, sBk, sAsg, sPar2, sPar3, thenS, dv, toD, eC, eN, eMv, eP, eBin, tst, eChain, tAndM, tOrM, tNotM, eAnd, eOr, eNot, eIf, toA, aNil, aCons, asDs, dvs, eTup, eLst, eCall, eIx, eIxN, itemE, eSl, pNo, pSo, cutD, gLen, eLenN, lenD, gList, gTuple, gN, gT, setAll, eMt, tyD, eIsi, gAdd, gSub, gDiv, gMod, gMul, gPow, gLt, gLe, gGt, gGe, gStr, gMin, gIn, gNotIn, gIs, gIsNot, isD, eLenSc, eIxSc, eScNil, eAppTn, sTown, tYesM, noEx_ok, itemG, stepS, iAll, itemsOf, iR1, iR2, wipeE, restE, keepE, sAug, gIadd, gImul, eApp, eExt, eNeg, List.getD_cons_zero, List.getD_cons_succ, List.set_cons_zero, List.set_cons_succ, List.getElem?_cons_zero, List.getElem?_cons_succ, Option.map_some, Option.map_none, Bool.not_true, Bool.not_false, beq_self_eq_true, if_true, if_false, ite_true, ite_false, Bool.false_eq_true, reduceIte, reduceCtorEq, lenL_0, lenL_1, lenL_2, lenL_3, lenL_4, lenL_5, lenL_6, lenL_7, lenL_8, lenL_9, lenL_10, lenL_11, lenL_12, isT_int_none, isT_int_bool, isT_int_int, isT_int_str, isT_int_list, isT_int_tuple, isT_bool_none, isT_bool_bool, isT_bool_int, isT_bool_str, isT_bool_list, isT_bool_tuple, isT_str_none, isT_str_bool, isT_str_int, isT_str_str, isT_str_list, isT_str_tuple, isT_tuple_none, isT_tuple_bool, isT_tuple_int, isT_tuple_str, isT_tuple_list, isT_tuple_tuple, isT_list_none, isT_list_bool, isT_list_int, isT_list_str, isT_list_list, isT_list_tuple, gNe_int, h3, st, h1, h2, hb, List.length_cons, List.length_nil, Bool.false_and, Bool.and_false, h4', h5', decide_true, decide_false]
              · refine run0 _ ?_
                have h4' : ¬ (1 : Int) ≤ (ss.length : Int) := by omega
                have e : shapesD (.tuple ss) (intOf a) = false := by
                  show (decide (1 ≤ ss.length) && decide (ss.length ≤ 3) && ss.all shpD && _ && _) = false
                  rw [decide_eq_false h4]; simp
                rw [e]
                unfold f_is_game
                simp only [cIf_t, bind_ok, bind_ex, bind_st, get_mk, set_mk, sSeq, sEx, sRet, sIf, sSet, sPass, sEx_, sBk, sAsg, sPar2, sPar3, thenS, dv, toD, eC, eN, eMv, eP, eBin, tst, eChain, tAndM, tOrM, tNotM, eAnd, eOr, eNot, eIf, toA, aNil, aCons, asDs, dvs, eTup, eLst, eCall, eIx, eIxN, itemE, eSl, pNo, pSo, cutD, gLen, eLenN, lenD, gList, gTuple, gN, gT, setAll, eMt, tyD, eIsi, gAdd, gSub, gDiv, gMod, gMul, gPow, gLt, gLe, gGt, gGe, gStr, gMin, gIn, gNotIn, gIs, gIsNot, isD, eLenSc, eIxSc, eScNil, eAppTn, sTown, tYesM, noEx_ok, itemG, stepS, iAll, itemsOf, iR1, iR2, wipeE, restE, keepE, sAug, gIadd, gImul, eApp, eExt, eNeg, List.getD_cons_zero, List.getD_cons_succ, List.set_cons_zero, List.set_cons_succ, List.getElem?_cons_zero, List.getElem?_cons_succ, Option.map_some, Option.map_none, Bool.not_true, Bool.not_false, beq_self_eq_true, if_true, if_false, ite_true, ite_false, Bool.false_eq_true, reduceIte, reduceCtorEq, lenL_0, lenL_1, lenL_2, lenL_3, lenL_4, lenL_5, lenL_6, lenL_7, lenL_8, lenL_9, lenL_10, lenL_11, lenL_12, isT_int_none, isT_int_bool, isT_int_int, isT_int_str, isT_int_list, isT_int_tuple, isT_bool_none, isT_bool_bool, isT_bool_int, isT_bool_str, isT_bool_list, isT_bool_tuple, isT_str_none, isT_str_bool, isT_str_int, isT_str_str, isT_str_list, isT_str_tuple, isT_tuple_none, isT_tuple_bool, isT_tuple_int, isT_tuple_str, isT_tuple_list, isT_tuple_tuple, isT_list_none, isT_list_bool, isT_list_int, isT_list_str, isT_list_list, isT_list_tuple, gNe_int, h3, st, h1, h2, hb, List.length_cons, List.length_nil, Bool.false_and, Bool.and_false, h4', decide_true, decide_false]
            | _ => cases hb
end CO

/-! Me: some game. -/
namespace CO
open PySem PySem.Spec PyProof.Rows L2

/-- a game's data -/
def gmD (n : Nat) (css : List (List Nat)) (r : Bool) : D := .tuple [.int n, .tuple (css.map strD), .bool r]
structure Gm (n : Nat) (css : List (List Nat)) : Prop where
  n1 : 1 ≤ n
  n8 : n ≤ 8
  c1 : 1 ≤ css.length
  c3 : css.length ≤ 3
  sh : ∀ cs ∈ css, shpL cs = true
  le : ∀ cs ∈ css, cs.length ≤ n
  as : asc css = true
theorem Gm.is {n : Nat} {css : List (List Nat)} (h : Gm n css) (r : Bool) : gameD (gmD n css r) = true := by
  show (intIn (.int n) 1 8 && true && shapesD (.tuple (css.map strD)) n) = true
  have e1 : intIn (.int n) 1 8 = true := by
    show (decide ((1 : Int) ≤ n) && decide ((n : Int) ≤ 8)) = true
    have := h.n1; have := h.n8
    rw [decide_eq_true (by omega), decide_eq_true (by omega)]; rfl
  have e2 : (css.map strD).map cpsOf = css := by rw [List.map_map]; exact (List.map_congr_left fun c _ => rfl).trans (List.map_id css)
  have e3 : (css.map strD).all shpD = true := by
    rw [List.all_map, List.all_eq_true]
    exact fun c hc => h.sh c hc
  have e4 : maxI ((css.map strD).map lenOf) ≤ n := by
    refine (max_le ?_).mpr ?_
    · have hc := h.c1
      intro e
      have q := congrArg List.length e
      rw [List.length_map, List.length_map, List.length_nil] at q
      omega
    · intro y hy
      rw [List.map_map] at hy
      obtain ⟨c, hc, rfl⟩ := List.mem_map.mp hy
      show ((tx c).length : Int) ≤ n
      rw [tx_len]
      have := h.le c hc
      omega
  have e : shapesD (.tuple (css.map strD)) n = true := by
    show (decide (1 ≤ (css.map strD).length) && decide ((css.map strD).length ≤ 3) && (css.map strD).all shpD && decide (maxI ((css.map strD).map lenOf) ≤ n) && asc ((css.map strD).map cpsOf)) = true
    rw [List.length_map, decide_eq_true h.c1, decide_eq_true h.c3, e3, e2, h.as, decide_eq_true e4]; rfl
  rw [e1, e]; rfl
theorem Gm.ok {n : Nat} {css : List (List Nat)} (h : Gm n css) (r : Bool) : gOk (gmD n css r) = true := by
  show (decide ((css.map strD).length ≤ lim) && (css.map strD).all txtOk) = true
  have hlim : lim = 100000 := rfl
  have := h.c3
  rw [List.length_map, decide_eq_true (by omega), List.all_map, Bool.true_and, List.all_eq_true]
  intro c hc
  show decide ((tx c).length ≤ lim) = true
  have := h.le c hc
  have := h.n8
  rw [tx_len]
  exact decide_eq_true (by omega)
theorem check_game_run {n : Nat} {css : List (List Nat)} {wd : List Ob} (h : Gm n css) (r : Bool) : Run m_check_game [.sh (gmD n css r)] wd (.sh .none) wd := by
  refine Run.none (sl := [.sh (gmD n css r)]) ?_
  show f_check_game ⟨[.sh (gmD n css r)], wd⟩ = _
  have hg := call_run (n := 1) (ms := aCons (eN 0) aNil) (en := ⟨[.sh (gmD n css r)], wd⟩) (sl := [.sh (gmD n css r)]) (by simp only [cIf_t, bind_ok, bind_ex, bind_st, get_mk, set_mk, sSeq, sEx, sRet, sIf, sSet, sPass, sEx_, sBk, sAsg, sPar2, sPar3, thenS, dv, toD, eC, eN, eMv, eP, eBin, tst, eChain, tAndM, tOrM, tNotM, eAnd, eOr, eNot, eIf, toA, aNil, aCons, asDs, dvs, eTup, eLst, eCall, eIx, eIxN, itemE, eSl, pNo, pSo, cutD, gLen, eLenN, lenD, gList, gTuple, gN, gT, setAll, eMt, tyD, eIsi, gAdd, gSub, gDiv, gMod, gMul, gPow, gLt, gLe, gGt, gGe, gStr, gMin, gIn, gNotIn, gIs, gIsNot, isD, eLenSc, eIxSc, eScNil, eAppTn, sTown, tYesM, noEx_ok, itemG, stepS, iAll, itemsOf, iR1, iR2, wipeE, restE, keepE, sAug, gIadd, gImul, eApp, eExt, eNeg, List.getD_cons_zero, List.getD_cons_succ, List.set_cons_zero, List.set_cons_succ, List.getElem?_cons_zero, List.getElem?_cons_succ, Option.map_some, Option.map_none, Bool.not_true, Bool.not_false, beq_self_eq_true, if_true, if_false, ite_true, ite_false, Bool.false_eq_true, reduceIte, reduceCtorEq, lenL_0, lenL_1, lenL_2, lenL_3, lenL_4, lenL_5, lenL_6, lenL_7, lenL_8, lenL_9, lenL_10, lenL_11, lenL_12]) rfl (is_game_run (wd := wd) (h.ok r))
  rw [h.is r] at hg
  unfold f_check_game
  simp only [cIf_t, bind_ok, bind_ex, bind_st, get_mk, set_mk, sSeq, sEx, sRet, sIf, sSet, sPass, sEx_, sBk, sAsg, sPar2, sPar3, thenS, dv, toD, eC, eN, eMv, eP, eBin, tst, eChain, tAndM, tOrM, tNotM, eAnd, eOr, eNot, eIf, toA, aNil, aCons, asDs, dvs, eTup, eLst, eCall, eIx, eIxN, itemE, eSl, pNo, pSo, cutD, gLen, eLenN, lenD, gList, gTuple, gN, gT, setAll, eMt, tyD, eIsi, gAdd, gSub, gDiv, gMod, gMul, gPow, gLt, gLe, gGt, gGe, gStr, gMin, gIn, gNotIn, gIs, gIsNot, isD, eLenSc, eIxSc, eScNil, eAppTn, sTown, tYesM, noEx_ok, itemG, stepS, iAll, itemsOf, iR1, iR2, wipeE, restE, keepE, sAug, gIadd, gImul, eApp, eExt, eNeg, List.getD_cons_zero, List.getD_cons_succ, List.set_cons_zero, List.set_cons_succ, List.getElem?_cons_zero, List.getElem?_cons_succ, Option.map_some, Option.map_none, Bool.not_true, Bool.not_false, beq_self_eq_true, if_true, if_false, ite_true, ite_false, Bool.false_eq_true, reduceIte, reduceCtorEq, lenL_0, lenL_1, lenL_2, lenL_3, lenL_4, lenL_5, lenL_6, lenL_7, lenL_8, lenL_9, lenL_10, lenL_11, lenL_12, hg]
end CO

/-! Mf: written games. -/
namespace CO
open PySem PySem.Spec PyProof.Rows L2 PySem.StrLaws TL

end CO

/-! Mk: rows. -/
namespace CO
open PySem PySem.Spec PyProof.Rows L2

theorem ofht : PySem.Str.ofString "ht" = tx [104, 116] := by decide +kernel
theorem ofh : PySem.Str.ofString "h" = tx [104] := by decide +kernel
theorem oft : PySem.Str.ofString "t" = tx [116] := by decide +kernel
/-- a row's signs -/
def RowL (n : Nat) (cs : List Nat) : Prop := cs.length = n ∧ ∀ c ∈ cs, c = 104 ∨ c = 116
theorem some_coins {ns : List Int} {k n : Nat} {css : List (List Nat)} {r : Bool} {wd : List Ob} (hl : ns.length ≤ 63) (hn : n ≤ 8) (hw : Tn k wd) (hk : k + 8 < lim) : ∃ cs, RowL n cs ∧ ∃ wd', Tn (k + 8) wd' ∧ Run m__law_some_coins [.sc ns, .wr 0, .sh (gmD n css r)] wd (.sh (.str (tx cs))) wd' := by
  have hr : (n : Int) ≤ 100000 ∧ -100000 ≤ (n : Int) := by omega
  have hlim : lim = 100000 := rfl
  have i0 : atI [PyData.int n, .tuple (css.map strD), .bool r] 0 = some (.int n) := rfl
  obtain ⟨xs, e', h3, h4, h5, x, wd2, h6, h7⟩ := comp_some (S := Unit) (g := gN 3) (t := tYesM) (m := eCallF 3 m__law_pick (aCons (eN 0) (aCons (eN 1) (aCons (eLst (aCons (eC (.str (PySem.Str.ofString "h"))) (aCons (eC (.str (PySem.Str.ofString "t"))) (aNil)))) (aNil))))) (vs := [3])
      (fun j e => ∃ (x : Ent) (wd2 : List Ob), Tn j wd2 ∧ e = ⟨[.sc ns, .wr 0, .sh (gmD n css r), x], wd2⟩) (fun d => d = .str (tx [104]) ∨ d = .str (tx [116])) (rangeL 0 n) k ⟨[.sc ns, .wr 0, .sh (gmD n css r), .no], wd⟩ [] ⟨.no, wd, hw, rfl⟩ (by simp [rangeL]; omega) (fun d h => nomatch h) (by
        rintro d hd j e hj1 hj2 ⟨x, wd2, hw2, rfl⟩
        have hj3 : j < k + n := by simpa [rangeL] using hj2
        obtain ⟨y, hy, wd3, hw3, hp⟩ := pick (ds := [.str (tx [104]), .str (tx [116])]) hl (by simp) hw2 (by omega)
        have hc2 := call_run (n := 3) (ms := aCons (eN 0) (aCons (eN 1) (aCons (eLst (aCons (eC (.str (PySem.Str.ofString "h"))) (aCons (eC (.str (PySem.Str.ofString "t"))) (aNil)))) (aNil)))) (en := ⟨[.sc ns, .wr 0, .sh (gmD n css r), .sh d], wd2⟩) (sl := [.sc ns, .wr 0, .sh (gmD n css r), .sh d]) (by simp only [cIf_t, bind_ok, bind_ex, bind_st, get_mk, set_mk, sSeq, sEx, sRet, sIf, sSet, sPass, sEx_, sBk, sAsg, sPar2, sPar3, thenS, dv, toD, eC, eN, eMv, eP, eBin, tst, eChain, tAndM, tOrM, tNotM, eAnd, eOr, eNot, eIf, toA, aNil, aCons, asDs, dvs, eTup, eLst, eCall, eIx, eIxN, itemE, eSl, pNo, pSo, cutD, gLen, eLenN, lenD, gList, gTuple, gN, gT, setAll, eMt, tyD, eIsi, gAdd, gSub, gDiv, gMod, gMul, gPow, gLt, gLe, gGt, gGe, gStr, gMin, gIn, gNotIn, gIs, gIsNot, isD, eLenSc, eIxSc, eScNil, eAppTn, sTown, tYesM, noEx_ok, itemG, stepS, iAll, itemsOf, iR1, iR2, wipeE, restE, keepE, sAug, gIadd, gImul, eApp, eExt, eNeg, List.getD_cons_zero, List.getD_cons_succ, List.set_cons_zero, List.set_cons_succ, List.getElem?_cons_zero, List.getElem?_cons_succ, Option.map_some, Option.map_none, Bool.not_true, Bool.not_false, beq_self_eq_true, if_true, if_false, ite_true, ite_false, Bool.false_eq_true, reduceIte, reduceCtorEq, lenL_0, lenL_1, lenL_2, lenL_3, lenL_4, lenL_5, lenL_6, lenL_7, lenL_8, lenL_9, lenL_10, lenL_11, lenL_12, ofh, oft]) rfl hp
        refine ⟨y, ⟨[.sc ns, .wr 0, .sh (gmD n css r), .sh d], wd3⟩, ?_, by simpa using hy, .sh d, wd3, hw3, rfl⟩
        simp only [cIf_t, bind_ok, bind_ex, bind_st, get_mk, set_mk, sSeq, sEx, sRet, sIf, sSet, sPass, sEx_, sBk, sAsg, sPar2, sPar3, thenS, dv, toD, eC, eN, eMv, eP, eBin, tst, eChain, tAndM, tOrM, tNotM, eAnd, eOr, eNot, eIf, toA, aNil, aCons, asDs, dvs, eTup, eLst, eCall, eIx, eIxN, itemE, eSl, pNo, pSo, cutD, gLen, eLenN, lenD, gList, gTuple, gN, gT, setAll, eMt, tyD, eIsi, gAdd, gSub, gDiv, gMod, gMul, gPow, gLt, gLe, gGt, gGe, gStr, gMin, gIn, gNotIn, gIs, gIsNot, isD, eLenSc, eIxSc, eScNil, eAppTn, sTown, tYesM, noEx_ok, itemG, stepS, iAll, itemsOf, iR1, iR2, wipeE, restE, keepE, sAug, gIadd, gImul, eApp, eExt, eNeg, List.getD_cons_zero, List.getD_cons_succ, List.set_cons_zero, List.set_cons_succ, List.getElem?_cons_zero, List.getElem?_cons_succ, Option.map_some, Option.map_none, Bool.not_true, Bool.not_false, beq_self_eq_true, if_true, if_false, ite_true, ite_false, Bool.false_eq_true, reduceIte, reduceCtorEq, lenL_0, lenL_1, lenL_2, lenL_3, lenL_4, lenL_5, lenL_6, lenL_7, lenL_8, lenL_9, lenL_10, lenL_11, lenL_12, hc2])
  subst h7
  obtain ⟨cs, rfl, hcs⟩ := signs_of xs h5
  have hlen : cs.length = n := by simpa [rangeL] using h4
  refine ⟨cs, ⟨hlen, hcs⟩, wd2, ?_, Run.ret (sl := [.sc ns, .wr 0, .sh (gmD n css r), .no]) ?_⟩
  · obtain ⟨j, h, e⟩ := h6
    exact ⟨j, by have : (rangeL 0 n).length = n := by simp [rangeL]
                 omega, e⟩
  · show f__law_some_coins ⟨[.sc ns, .wr 0, .sh (gmD n css r), .no], wd⟩ = _
    unfold f__law_some_coins
    have hlc := lc_run (mi := iR1 (eIxN 2 (eC (.int 0)))) (en := ⟨[.sc ns, .wr 0, .sh (gmD n css r), .no], wd⟩) (e := ⟨[.sc ns, .wr 0, .sh (gmD n css r), .no], wd⟩) (by unfold gmD; simp only [cIf_t, bind_ok, bind_ex, bind_st, get_mk, set_mk, sSeq, sEx, sRet, sIf, sSet, sPass, sEx_, sBk, sAsg, sPar2, sPar3, thenS, dv, toD, eC, eN, eMv, eP, eBin, tst, eChain, tAndM, tOrM, tNotM, eAnd, eOr, eNot, eIf, toA, aNil, aCons, asDs, dvs, eTup, eLst, eCall, eIx, eIxN, itemE, eSl, pNo, pSo, cutD, gLen, eLenN, lenD, gList, gTuple, gN, gT, setAll, eMt, tyD, eIsi, gAdd, gSub, gDiv, gMod, gMul, gPow, gLt, gLe, gGt, gGe, gStr, gMin, gIn, gNotIn, gIs, gIsNot, isD, eLenSc, eIxSc, eScNil, eAppTn, sTown, tYesM, noEx_ok, itemG, stepS, iAll, itemsOf, iR1, iR2, wipeE, restE, keepE, sAug, gIadd, gImul, eApp, eExt, eNeg, List.getD_cons_zero, List.getD_cons_succ, List.set_cons_zero, List.set_cons_succ, List.getElem?_cons_zero, List.getElem?_cons_succ, Option.map_some, Option.map_none, Bool.not_true, Bool.not_false, beq_self_eq_true, if_true, if_false, ite_true, ite_false, Bool.false_eq_true, reduceIte, reduceCtorEq, lenL_0, lenL_1, lenL_2, lenL_3, lenL_4, lenL_5, lenL_6, lenL_7, lenL_8, lenL_9, lenL_10, lenL_11, lenL_12, i0, if_pos hr, Int.toNat_natCast]) h3
    simp only [cIf_t, bind_ok, bind_ex, bind_st, get_mk, set_mk, sSeq, sEx, sRet, sIf, sSet, sPass, sEx_, sBk, sAsg, sPar2, sPar3, thenS, dv, toD, eC, eN, eMv, eP, eBin, tst, eChain, tAndM, tOrM, tNotM, eAnd, eOr, eNot, eIf, toA, aNil, aCons, asDs, dvs, eTup, eLst, eCall, eIx, eIxN, itemE, eSl, pNo, pSo, cutD, gLen, eLenN, lenD, gList, gTuple, gN, gT, setAll, eMt, tyD, eIsi, gAdd, gSub, gDiv, gMod, gMul, gPow, gLt, gLe, gGt, gGe, gStr, gMin, gIn, gNotIn, gIs, gIsNot, isD, eLenSc, eIxSc, eScNil, eAppTn, sTown, tYesM, noEx_ok, itemG, stepS, iAll, itemsOf, iR1, iR2, wipeE, restE, keepE, sAug, gIadd, gImul, eApp, eExt, eNeg, List.getD_cons_zero, List.getD_cons_succ, List.set_cons_zero, List.set_cons_succ, List.getElem?_cons_zero, List.getElem?_cons_succ, Option.map_some, Option.map_none, Bool.not_true, Bool.not_false, beq_self_eq_true, if_true, if_false, ite_true, ite_false, Bool.false_eq_true, reduceIte, reduceCtorEq, lenL_0, lenL_1, lenL_2, lenL_3, lenL_4, lenL_5, lenL_6, lenL_7, lenL_8, lenL_9, lenL_10, lenL_11, lenL_12, ofnil, hlc, gJoin_ones (show cs.length ≤ lim by omega)]
def inD (y : Str) (d : D) : Bool := match d with | .str x => inS x y | _ => false
def rowB (n : Nat) (d : D) : Bool := match d with | .str s => decide (s.length = n) && s.cps.toList.all (fun c => decide (c ∈ [104, 116])) | _ => false
theorem lies_run {n : Nat} {css : List (List Nat)} {r : Bool} {d : D} {wd : List Ob} (h : txtOk d = true) : Run m_lies [.sh (gmD n css r), .sh d] wd (.sh (.bool (rowB n d))) wd := by
  have i0 : atI [PyData.int n, .tuple (css.map strD), .bool r] 0 = some (.int n) := rfl
  cases hd : isT "str" d
  · have e : rowB n d = false := by cases d with | str s => cases hd | _ => rfl
    rw [e]
    refine Run.ret (sl := [.sh (gmD n css r), .sh d, .no]) ?_
    show f_lies ⟨[.sh (gmD n css r), .sh d, .no], wd⟩ = _
    unfold f_lies
    simp only [cIf_t, bind_ok, bind_ex, bind_st, get_mk, set_mk, sSeq, sEx, sRet, sIf, sSet, sPass, sEx_, sBk, sAsg, sPar2, sPar3, thenS, dv, toD, eC, eN, eMv, eP, eBin, tst, eChain, tAndM, tOrM, tNotM, eAnd, eOr, eNot, eIf, toA, aNil, aCons, asDs, dvs, eTup, eLst, eCall, eIx, eIxN, itemE, eSl, pNo, pSo, cutD, gLen, eLenN, lenD, gList, gTuple, gN, gT, setAll, eMt, tyD, eIsi, gAdd, gSub, gDiv, gMod, gMul, gPow, gLt, gLe, gGt, gGe, gStr, gMin, gIn, gNotIn, gIs, gIsNot, isD, eLenSc, eIxSc, eScNil, eAppTn, sTown, tYesM, noEx_ok, itemG, stepS, iAll, itemsOf, iR1, iR2, wipeE, restE, keepE, sAug, gIadd, gImul, eApp, eExt, eNeg, List.getD_cons_zero, List.getD_cons_succ, List.set_cons_zero, List.set_cons_succ, List.getElem?_cons_zero, List.getElem?_cons_succ, Option.map_some, Option.map_none, Bool.not_true, Bool.not_false, beq_self_eq_true, if_true, if_false, ite_true, ite_false, Bool.false_eq_true, reduceIte, reduceCtorEq, lenL_0, lenL_1, lenL_2, lenL_3, lenL_4, lenL_5, lenL_6, lenL_7, lenL_8, lenL_9, lenL_10, lenL_11, lenL_12, hd]
  · cases d with
    | str s =>
      have hs : s.length ≤ lim := of_decide_eq_true h
      have hc : ∀ c, inD (PySem.Str.ofString "ht") (.str ⟨#[c]⟩) = decide (c ∈ [104, 116]) := fun c => by
        show inS ⟨#[c]⟩ (PySem.Str.ofString "ht") = _
        rw [inS_one, ofht, tx_cps]
      have ha : ∀ e, gAll [.list ((s.cps.toList.map fun c => PyData.str ⟨#[c]⟩).map fun d => PyData.bool (inD (PySem.Str.ofString "ht") d))] e = .ok (.sh (.bool (s.cps.toList.all fun c => decide (c ∈ [104, 116])))) e := fun e => by
        rw [gAll_map, List.all_map]
        congr 3
        exact List.all_congr rfl fun c => hc c
      obtain ⟨e', h1, x', h2⟩ := comp_map (g := gN 2) (t := tYesM) (m := eBin gIn (eN 2) (eC (.str (PySem.Str.ofString "ht")))) (vs := [2]) (fun e => ∃ x, e = ⟨[.sh (gmD n css r), .sh (.str s), x], wd⟩) (fun d => PyData.bool (inD (PySem.Str.ofString "ht") d)) (s.cps.toList.map fun c => PyData.str ⟨#[c]⟩) ⟨[.sh (gmD n css r), .sh (.str s), .no], wd⟩ ⟨.no, rfl⟩ (by rw [List.length_map]; exact hs) (by
        rintro d hd e ⟨x, rfl⟩
        obtain ⟨c, _, rfl⟩ := List.mem_map.mp hd
        refine ⟨⟨[.sh (gmD n css r), .sh (.str s), .sh (.str ⟨#[c]⟩)], wd⟩, ?_, _, rfl⟩
        simp only [cIf_t, bind_ok, bind_ex, bind_st, get_mk, set_mk, sSeq, sEx, sRet, sIf, sSet, sPass, sEx_, sBk, sAsg, sPar2, sPar3, thenS, dv, toD, eC, eN, eMv, eP, eBin, tst, eChain, tAndM, tOrM, tNotM, eAnd, eOr, eNot, eIf, toA, aNil, aCons, asDs, dvs, eTup, eLst, eCall, eIx, eIxN, itemE, eSl, pNo, pSo, cutD, gLen, eLenN, lenD, gList, gTuple, gN, gT, setAll, eMt, tyD, eIsi, gAdd, gSub, gDiv, gMod, gMul, gPow, gLt, gLe, gGt, gGe, gStr, gMin, gIn, gNotIn, gIs, gIsNot, isD, eLenSc, eIxSc, eScNil, eAppTn, sTown, tYesM, noEx_ok, itemG, stepS, iAll, itemsOf, iR1, iR2, wipeE, restE, keepE, sAug, gIadd, gImul, eApp, eExt, eNeg, List.getD_cons_zero, List.getD_cons_succ, List.set_cons_zero, List.set_cons_succ, List.getElem?_cons_zero, List.getElem?_cons_succ, Option.map_some, Option.map_none, Bool.not_true, Bool.not_false, beq_self_eq_true, if_true, if_false, ite_true, ite_false, Bool.false_eq_true, reduceIte, reduceCtorEq, lenL_0, lenL_1, lenL_2, lenL_3, lenL_4, lenL_5, lenL_6, lenL_7, lenL_8, lenL_9, lenL_10, lenL_11, lenL_12, gInB, inD])
      subst h2
      have hlc := (lc_run (mi := iAll (eN 1)) (en := ⟨[.sh (gmD n css r), .sh (.str s), .no], wd⟩) (e := ⟨[.sh (gmD n css r), .sh (.str s), .no], wd⟩) (by simp only [cIf_t, bind_ok, bind_ex, bind_st, get_mk, set_mk, sSeq, sEx, sRet, sIf, sSet, sPass, sEx_, sBk, sAsg, sPar2, sPar3, thenS, dv, toD, eC, eN, eMv, eP, eBin, tst, eChain, tAndM, tOrM, tNotM, eAnd, eOr, eNot, eIf, toA, aNil, aCons, asDs, dvs, eTup, eLst, eCall, eIx, eIxN, itemE, eSl, pNo, pSo, cutD, gLen, eLenN, lenD, gList, gTuple, gN, gT, setAll, eMt, tyD, eIsi, gAdd, gSub, gDiv, gMod, gMul, gPow, gLt, gLe, gGt, gGe, gStr, gMin, gIn, gNotIn, gIs, gIsNot, isD, eLenSc, eIxSc, eScNil, eAppTn, sTown, tYesM, noEx_ok, itemG, stepS, iAll, itemsOf, iR1, iR2, wipeE, restE, keepE, sAug, gIadd, gImul, eApp, eExt, eNeg, List.getD_cons_zero, List.getD_cons_succ, List.set_cons_zero, List.set_cons_succ, List.getElem?_cons_zero, List.getElem?_cons_succ, Option.map_some, Option.map_none, Bool.not_true, Bool.not_false, beq_self_eq_true, if_true, if_false, ite_true, ite_false, Bool.false_eq_true, reduceIte, reduceCtorEq, lenL_0, lenL_1, lenL_2, lenL_3, lenL_4, lenL_5, lenL_6, lenL_7, lenL_8, lenL_9, lenL_10, lenL_11, lenL_12]) h1)
      have hi : ((s.length : Int) == (n : Int)) = decide (s.length = n) := by
        by_cases q : s.length = n
        · rw [q]; simp
        · rw [decide_eq_false q]
          exact beq_false_of_ne (by omega)
      show Run m_lies [.sh (gmD n css r), .sh (.str s)] wd (.sh (.bool (decide (s.length = n) && s.cps.toList.all (fun c => decide (c ∈ [104, 116]))))) wd
      refine Run.ret (sl := [.sh (gmD n css r), .sh (.str s), .no]) ?_
      show f_lies ⟨[.sh (gmD n css r), .sh (.str s), .no], wd⟩ = _
      unfold f_lies
      unfold gmD at hlc ⊢
      cases q : decide (s.length = n)
      · simp only [cIf_t, bind_ok, bind_ex, bind_st, get_mk, set_mk, sSeq, sEx, sRet, sIf, sSet, sPass, sEx_, sBk, sAsg, sPar2, sPar3, thenS, dv, toD, eC, eN, eMv, eP, eBin, tst, eChain, tAndM, tOrM, tNotM, eAnd, eOr, eNot, eIf, toA, aNil, aCons, asDs, dvs, eTup, eLst, eCall, eIx, eIxN, itemE, eSl, pNo, pSo, cutD, gLen, eLenN, lenD, gList, gTuple, gN, gT, setAll, eMt, tyD, eIsi, gAdd, gSub, gDiv, gMod, gMul, gPow, gLt, gLe, gGt, gGe, gStr, gMin, gIn, gNotIn, gIs, gIsNot, isD, eLenSc, eIxSc, eScNil, eAppTn, sTown, tYesM, noEx_ok, itemG, stepS, iAll, itemsOf, iR1, iR2, wipeE, restE, keepE, sAug, gIadd, gImul, eApp, eExt, eNeg, List.getD_cons_zero, List.getD_cons_succ, List.set_cons_zero, List.set_cons_succ, List.getElem?_cons_zero, List.getElem?_cons_succ, Option.map_some, Option.map_none, Bool.not_true, Bool.not_false, beq_self_eq_true, if_true, if_false, ite_true, ite_false, Bool.false_eq_true, reduceIte, reduceCtorEq, lenL_0, lenL_1, lenL_2, lenL_3, lenL_4, lenL_5, lenL_6, lenL_7, lenL_8, lenL_9, lenL_10, lenL_11, lenL_12, isT_int_none, isT_int_bool, isT_int_int, isT_int_str, isT_int_list, isT_int_tuple, isT_bool_none, isT_bool_bool, isT_bool_int, isT_bool_str, isT_bool_list, isT_bool_tuple, isT_str_none, isT_str_bool, isT_str_int, isT_str_str, isT_str_list, isT_str_tuple, isT_tuple_none, isT_tuple_bool, isT_tuple_int, isT_tuple_str, isT_tuple_list, isT_tuple_tuple, isT_list_none, isT_list_bool, isT_list_int, isT_list_str, isT_list_list, isT_list_tuple, hs, i0, gEq_int, hi, q, Bool.false_and]
      · simp only [cIf_t, bind_ok, bind_ex, bind_st, get_mk, set_mk, sSeq, sEx, sRet, sIf, sSet, sPass, sEx_, sBk, sAsg, sPar2, sPar3, thenS, dv, toD, eC, eN, eMv, eP, eBin, tst, eChain, tAndM, tOrM, tNotM, eAnd, eOr, eNot, eIf, toA, aNil, aCons, asDs, dvs, eTup, eLst, eCall, eIx, eIxN, itemE, eSl, pNo, pSo, cutD, gLen, eLenN, lenD, gList, gTuple, gN, gT, setAll, eMt, tyD, eIsi, gAdd, gSub, gDiv, gMod, gMul, gPow, gLt, gLe, gGt, gGe, gStr, gMin, gIn, gNotIn, gIs, gIsNot, isD, eLenSc, eIxSc, eScNil, eAppTn, sTown, tYesM, noEx_ok, itemG, stepS, iAll, itemsOf, iR1, iR2, wipeE, restE, keepE, sAug, gIadd, gImul, eApp, eExt, eNeg, List.getD_cons_zero, List.getD_cons_succ, List.set_cons_zero, List.set_cons_succ, List.getElem?_cons_zero, List.getElem?_cons_succ, Option.map_some, Option.map_none, Bool.not_true, Bool.not_false, beq_self_eq_true, if_true, if_false, ite_true, ite_false, Bool.false_eq_true, reduceIte, reduceCtorEq, lenL_0, lenL_1, lenL_2, lenL_3, lenL_4, lenL_5, lenL_6, lenL_7, lenL_8, lenL_9, lenL_10, lenL_11, lenL_12, isT_int_none, isT_int_bool, isT_int_int, isT_int_str, isT_int_list, isT_int_tuple, isT_bool_none, isT_bool_bool, isT_bool_int, isT_bool_str, isT_bool_list, isT_bool_tuple, isT_str_none, isT_str_bool, isT_str_int, isT_str_str, isT_str_list, isT_str_tuple, isT_tuple_none, isT_tuple_bool, isT_tuple_int, isT_tuple_str, isT_tuple_list, isT_tuple_tuple, isT_list_none, isT_list_bool, isT_list_int, isT_list_str, isT_list_list, isT_list_tuple, hs, i0, gEq_int, hi, q, hlc, ha, Bool.true_and]
    | _ => cases hd
end CO

/-! Ml: moves. -/
namespace CO
open PySem PySem.Spec PyProof.Rows L2

theorem check_row_run {n : Nat} {css : List (List Nat)} {r : Bool} {d : D} {wd : List Ob} (h : txtOk d = true) (hb : rowB n d = true) : Run m_check_row [.sh (gmD n css r), .sh d] wd (.sh .none) wd := by
  refine Run.none (sl := [.sh (gmD n css r), .sh d]) ?_
  show f_check_row ⟨[.sh (gmD n css r), .sh d], wd⟩ = _
  have hg := call_run (n := 2) (ms := aCons (eN 0) (aCons (eN 1) aNil)) (en := ⟨[.sh (gmD n css r), .sh d], wd⟩) (sl := [.sh (gmD n css r), .sh d]) (by simp only [cIf_t, bind_ok, bind_ex, bind_st, get_mk, set_mk, sSeq, sEx, sRet, sIf, sSet, sPass, sEx_, sBk, sAsg, sPar2, sPar3, thenS, dv, toD, eC, eN, eMv, eP, eBin, tst, eChain, tAndM, tOrM, tNotM, eAnd, eOr, eNot, eIf, toA, aNil, aCons, asDs, dvs, eTup, eLst, eCall, eIx, eIxN, itemE, eSl, pNo, pSo, cutD, gLen, eLenN, lenD, gList, gTuple, gN, gT, setAll, eMt, tyD, eIsi, gAdd, gSub, gDiv, gMod, gMul, gPow, gLt, gLe, gGt, gGe, gStr, gMin, gIn, gNotIn, gIs, gIsNot, isD, eLenSc, eIxSc, eScNil, eAppTn, sTown, tYesM, noEx_ok, itemG, stepS, iAll, itemsOf, iR1, iR2, wipeE, restE, keepE, sAug, gIadd, gImul, eApp, eExt, eNeg, List.getD_cons_zero, List.getD_cons_succ, List.set_cons_zero, List.set_cons_succ, List.getElem?_cons_zero, List.getElem?_cons_succ, Option.map_some, Option.map_none, Bool.not_true, Bool.not_false, beq_self_eq_true, if_true, if_false, ite_true, ite_false, Bool.false_eq_true, reduceIte, reduceCtorEq, lenL_0, lenL_1, lenL_2, lenL_3, lenL_4, lenL_5, lenL_6, lenL_7, lenL_8, lenL_9, lenL_10, lenL_11, lenL_12]) rfl (lies_run (wd := wd) (css := css) (r := r) (n := n) h)
  rw [hb] at hg
  unfold f_check_row
  simp only [cIf_t, bind_ok, bind_ex, bind_st, get_mk, set_mk, sSeq, sEx, sRet, sIf, sSet, sPass, sEx_, sBk, sAsg, sPar2, sPar3, thenS, dv, toD, eC, eN, eMv, eP, eBin, tst, eChain, tAndM, tOrM, tNotM, eAnd, eOr, eNot, eIf, toA, aNil, aCons, asDs, dvs, eTup, eLst, eCall, eIx, eIxN, itemE, eSl, pNo, pSo, cutD, gLen, eLenN, lenD, gList, gTuple, gN, gT, setAll, eMt, tyD, eIsi, gAdd, gSub, gDiv, gMod, gMul, gPow, gLt, gLe, gGt, gGe, gStr, gMin, gIn, gNotIn, gIs, gIsNot, isD, eLenSc, eIxSc, eScNil, eAppTn, sTown, tYesM, noEx_ok, itemG, stepS, iAll, itemsOf, iR1, iR2, wipeE, restE, keepE, sAug, gIadd, gImul, eApp, eExt, eNeg, List.getD_cons_zero, List.getD_cons_succ, List.set_cons_zero, List.set_cons_succ, List.getElem?_cons_zero, List.getElem?_cons_succ, Option.map_some, Option.map_none, Bool.not_true, Bool.not_false, beq_self_eq_true, if_true, if_false, ite_true, ite_false, Bool.false_eq_true, reduceIte, reduceCtorEq, lenL_0, lenL_1, lenL_2, lenL_3, lenL_4, lenL_5, lenL_6, lenL_7, lenL_8, lenL_9, lenL_10, lenL_11, lenL_12, hg]
def mvD (i p : Nat) : D := .tuple [.int i, .int p]
def placesN (n : Nat) (r : Bool) (c : List Nat) : Nat := if r = true then n else n - c.length + 1
def mvL (n : Nat) (r : Bool) : Nat → List (List Nat) → List (Nat × Nat)
  | _, [] => []
  | i, c :: css => (List.range (placesN n r c)).map (fun p => (i, p)) ++ mvL n r (i + 1) css
def mvDs (l : List (Nat × Nat)) : List D := l.map fun q => mvD q.1 q.2
theorem move_loop {n : Nat} {r : Bool} {G S : D} {wd : List Ob} (hn : n ≤ 8) : ∀ (css : List (List Nat)) (i : Nat) (l : List (Nat × Nat)) (x5 x6 x7 : Ent), (∀ c ∈ css, c.length ≤ n) → l.length + 9 * css.length ≤ 1000 →
    ∃ y5 y6 y7, forGo (gT [5, 6]) (sSeq (sSet 7 (eIf (tst (eN 3)) (eN 1) (eBin gAdd (eBin gSub (eN 1) (eLenN 6)) (eC (.int 1))))) (sEx (eExt 4 (eLc (iR1 (eN 7)) (gN 8) (tYesM) (eTup (aCons (eN 5) (aCons (eN 8) (aNil)))) [8])))) (enumL i (css.map strD)) ⟨[.sh G, .sh (.int n), .sh S, .sh (.bool r), .ow (mvDs l), x5, x6, x7, .no], wd⟩
      = .ok .nx ⟨[.sh G, .sh (.int n), .sh S, .sh (.bool r), .ow (mvDs (l ++ mvL n r i css)), y5, y6, y7, .no], wd⟩
  | [], i, l, x5, x6, x7, _, _ => ⟨x5, x6, x7, by
      show R.ok Fl.nx _ = _
      rw [show mvL n r i [] = [] from rfl, List.append_nil]⟩
  | c :: css, i, l, x5, x6, x7, hc, hl => by
    have hc1 := hc c List.mem_cons_self
    have hlim : lim = 100000 := rfl
    have hp : placesN n r c ≤ 9 := by unfold placesN; split <;> omega
    obtain ⟨y5, y6, y7, e⟩ := move_loop hn css (i + 1) (l ++ (List.range (placesN n r c)).map (fun p => (i, p))) (.sh (.int i)) (.sh (strD c)) (.sh (.int (placesN n r c))) (fun d hd => hc d (List.mem_cons_of_mem _ hd)) (by simp at hl ⊢; omega)
    refine ⟨y5, y6, y7, ?_⟩
    rw [show mvL n r i (c :: css) = (List.range (placesN n r c)).map (fun p => (i, p)) ++ mvL n r (i + 1) css from rfl, ← List.append_assoc, ← e]
    refine for_cons ?_
    obtain ⟨e', h1, x8, h2⟩ := comp_map (g := gN 8) (t := tYesM) (m := eTup (aCons (eN 5) (aCons (eN 8) (aNil)))) (vs := [8]) (fun e => ∃ x, e = ⟨[.sh G, .sh (.int n), .sh S, .sh (.bool r), .ow (mvDs l), .sh (.int i), .sh (strD c), .sh (.int (placesN n r c)), x], wd⟩) (fun d => .tuple [.int i, d]) (rangeL 0 (placesN n r c)) ⟨[.sh G, .sh (.int n), .sh S, .sh (.bool r), .ow (mvDs l), .sh (.int i), .sh (strD c), .sh (.int (placesN n r c)), .no], wd⟩ ⟨.no, rfl⟩ (by simp [rangeL]; omega) (by
      rintro d hd e ⟨x, rfl⟩
      exact ⟨⟨[.sh G, .sh (.int n), .sh S, .sh (.bool r), .ow (mvDs l), .sh (.int i), .sh (strD c), .sh (.int (placesN n r c)), .sh d], wd⟩, by simp only [cIf_t, bind_ok, bind_ex, bind_st, get_mk, set_mk, sSeq, sEx, sRet, sIf, sSet, sPass, sEx_, sBk, sAsg, sPar2, sPar3, thenS, dv, toD, eC, eN, eMv, eP, eBin, tst, eChain, tAndM, tOrM, tNotM, eAnd, eOr, eNot, eIf, toA, aNil, aCons, asDs, dvs, eTup, eLst, eCall, eIx, eIxN, itemE, eSl, pNo, pSo, cutD, gLen, eLenN, lenD, gList, gTuple, gN, gT, setAll, eMt, tyD, eIsi, gAdd, gSub, gDiv, gMod, gMul, gPow, gLt, gLe, gGt, gGe, gStr, gMin, gIn, gNotIn, gIs, gIsNot, isD, eLenSc, eIxSc, eScNil, eAppTn, sTown, tYesM, noEx_ok, itemG, stepS, iAll, itemsOf, iR1, iR2, wipeE, restE, keepE, sAug, gIadd, gImul, eApp, eExt, eNeg, List.getD_cons_zero, List.getD_cons_succ, List.set_cons_zero, List.set_cons_succ, List.getElem?_cons_zero, List.getElem?_cons_succ, Option.map_some, Option.map_none, Bool.not_true, Bool.not_false, beq_self_eq_true, if_true, if_false, ite_true, ite_false, Bool.false_eq_true, reduceIte, reduceCtorEq, lenL_0, lenL_1, lenL_2, lenL_3, lenL_4, lenL_5, lenL_6, lenL_7, lenL_8, lenL_9, lenL_10, lenL_11, lenL_12], .sh d, rfl⟩)
    subst h2
    have hr : ((placesN n r c : Nat) : Int) ≤ 100000 ∧ -100000 ≤ ((placesN n r c : Nat) : Int) := by omega
    have hlc := lc_run (mi := iR1 (eN 7)) (en := ⟨[.sh G, .sh (.int n), .sh S, .sh (.bool r), .ow (mvDs l), .sh (.int i), .sh (strD c), .sh (.int (placesN n r c)), .no], wd⟩) (e := ⟨[.sh G, .sh (.int n), .sh S, .sh (.bool r), .ow (mvDs l), .sh (.int i), .sh (strD c), .sh (.int (placesN n r c)), .no], wd⟩) (by simp only [cIf_t, bind_ok, bind_ex, bind_st, get_mk, set_mk, sSeq, sEx, sRet, sIf, sSet, sPass, sEx_, sBk, sAsg, sPar2, sPar3, thenS, dv, toD, eC, eN, eMv, eP, eBin, tst, eChain, tAndM, tOrM, tNotM, eAnd, eOr, eNot, eIf, toA, aNil, aCons, asDs, dvs, eTup, eLst, eCall, eIx, eIxN, itemE, eSl, pNo, pSo, cutD, gLen, eLenN, lenD, gList, gTuple, gN, gT, setAll, eMt, tyD, eIsi, gAdd, gSub, gDiv, gMod, gMul, gPow, gLt, gLe, gGt, gGe, gStr, gMin, gIn, gNotIn, gIs, gIsNot, isD, eLenSc, eIxSc, eScNil, eAppTn, sTown, tYesM, noEx_ok, itemG, stepS, iAll, itemsOf, iR1, iR2, wipeE, restE, keepE, sAug, gIadd, gImul, eApp, eExt, eNeg, List.getD_cons_zero, List.getD_cons_succ, List.set_cons_zero, List.set_cons_succ, List.getElem?_cons_zero, List.getElem?_cons_succ, Option.map_some, Option.map_none, Bool.not_true, Bool.not_false, beq_self_eq_true, if_true, if_false, ite_true, ite_false, Bool.false_eq_true, reduceIte, reduceCtorEq, lenL_0, lenL_1, lenL_2, lenL_3, lenL_4, lenL_5, lenL_6, lenL_7, lenL_8, lenL_9, lenL_10, lenL_11, lenL_12, if_pos hr, Int.toNat_natCast]) h1
    have hm : (rangeL 0 (placesN n r c)).map (fun d => PyData.tuple [.int i, d]) = mvDs ((List.range (placesN n r c)).map (fun p => (i, p))) := by
      unfold rangeL mvDs mvD
      rw [List.map_map, List.map_map]
      exact List.map_congr_left fun p _ => by simp
    rw [hm] at hlc
    have hlen : (mvDs l).length + (mvDs ((List.range (placesN n r c)).map (fun p => (i, p)))).length ≤ lim := by
      unfold mvDs
      simp at hl ⊢
      omega
    have happ : mvDs l ++ mvDs ((List.range (placesN n r c)).map (fun p => (i, p))) = mvDs (l ++ (List.range (placesN n r c)).map (fun p => (i, p))) := by unfold mvDs; rw [List.map_append]
    have hcl : (tx c).length ≤ lim := by rw [tx_len]; omega
    have hq : (n : Int) - ((tx c).length : Nat) + 1 = ((n - c.length + 1 : Nat) : Int) := by rw [tx_len]; omega
    cases r
    · have hpl : placesN n false c = n - c.length + 1 := rfl
      rw [hpl] at hlc hlen happ ⊢
      unfold strD at hlc ⊢
      simp only [cIf_t, bind_ok, bind_ex, bind_st, get_mk, set_mk, sSeq, sEx, sRet, sIf, sSet, sPass, sEx_, sBk, sAsg, sPar2, sPar3, thenS, dv, toD, eC, eN, eMv, eP, eBin, tst, eChain, tAndM, tOrM, tNotM, eAnd, eOr, eNot, eIf, toA, aNil, aCons, asDs, dvs, eTup, eLst, eCall, eIx, eIxN, itemE, eSl, pNo, pSo, cutD, gLen, eLenN, lenD, gList, gTuple, gN, gT, setAll, eMt, tyD, eIsi, gAdd, gSub, gDiv, gMod, gMul, gPow, gLt, gLe, gGt, gGe, gStr, gMin, gIn, gNotIn, gIs, gIsNot, isD, eLenSc, eIxSc, eScNil, eAppTn, sTown, tYesM, noEx_ok, itemG, stepS, iAll, itemsOf, iR1, iR2, wipeE, restE, keepE, sAug, gIadd, gImul, eApp, eExt, eNeg, List.getD_cons_zero, List.getD_cons_succ, List.set_cons_zero, List.set_cons_succ, List.getElem?_cons_zero, List.getElem?_cons_succ, Option.map_some, Option.map_none, Bool.not_true, Bool.not_false, beq_self_eq_true, if_true, if_false, ite_true, ite_false, Bool.false_eq_true, reduceIte, reduceCtorEq, lenL_0, lenL_1, lenL_2, lenL_3, lenL_4, lenL_5, lenL_6, lenL_7, lenL_8, lenL_9, lenL_10, lenL_11, lenL_12, if_pos hcl, hq]
      simp only [cIf_t, bind_ok, bind_ex, bind_st, get_mk, set_mk, sSeq, sEx, sRet, sIf, sSet, sPass, sEx_, sBk, sAsg, sPar2, sPar3, thenS, dv, toD, eC, eN, eMv, eP, eBin, tst, eChain, tAndM, tOrM, tNotM, eAnd, eOr, eNot, eIf, toA, aNil, aCons, asDs, dvs, eTup, eLst, eCall, eIx, eIxN, itemE, eSl, pNo, pSo, cutD, gLen, eLenN, lenD, gList, gTuple, gN, gT, setAll, eMt, tyD, eIsi, gAdd, gSub, gDiv, gMod, gMul, gPow, gLt, gLe, gGt, gGe, gStr, gMin, gIn, gNotIn, gIs, gIsNot, isD, eLenSc, eIxSc, eScNil, eAppTn, sTown, tYesM, noEx_ok, itemG, stepS, iAll, itemsOf, iR1, iR2, wipeE, restE, keepE, sAug, gIadd, gImul, eApp, eExt, eNeg, List.getD_cons_zero, List.getD_cons_succ, List.set_cons_zero, List.set_cons_succ, List.getElem?_cons_zero, List.getElem?_cons_succ, Option.map_some, Option.map_none, Bool.not_true, Bool.not_false, beq_self_eq_true, if_true, if_false, ite_true, ite_false, Bool.false_eq_true, reduceIte, reduceCtorEq, lenL_0, lenL_1, lenL_2, lenL_3, lenL_4, lenL_5, lenL_6, lenL_7, lenL_8, lenL_9, lenL_10, lenL_11, lenL_12, hlc, if_pos hlen, happ]
    · have hpl : placesN n true c = n := rfl
      rw [hpl] at hlc hlen happ ⊢
      simp only [cIf_t, bind_ok, bind_ex, bind_st, get_mk, set_mk, sSeq, sEx, sRet, sIf, sSet, sPass, sEx_, sBk, sAsg, sPar2, sPar3, thenS, dv, toD, eC, eN, eMv, eP, eBin, tst, eChain, tAndM, tOrM, tNotM, eAnd, eOr, eNot, eIf, toA, aNil, aCons, asDs, dvs, eTup, eLst, eCall, eIx, eIxN, itemE, eSl, pNo, pSo, cutD, gLen, eLenN, lenD, gList, gTuple, gN, gT, setAll, eMt, tyD, eIsi, gAdd, gSub, gDiv, gMod, gMul, gPow, gLt, gLe, gGt, gGe, gStr, gMin, gIn, gNotIn, gIs, gIsNot, isD, eLenSc, eIxSc, eScNil, eAppTn, sTown, tYesM, noEx_ok, itemG, stepS, iAll, itemsOf, iR1, iR2, wipeE, restE, keepE, sAug, gIadd, gImul, eApp, eExt, eNeg, List.getD_cons_zero, List.getD_cons_succ, List.set_cons_zero, List.set_cons_succ, List.getElem?_cons_zero, List.getElem?_cons_succ, Option.map_some, Option.map_none, Bool.not_true, Bool.not_false, beq_self_eq_true, if_true, if_false, ite_true, ite_false, Bool.false_eq_true, reduceIte, reduceCtorEq, lenL_0, lenL_1, lenL_2, lenL_3, lenL_4, lenL_5, lenL_6, lenL_7, lenL_8, lenL_9, lenL_10, lenL_11, lenL_12, hlc, if_pos hlen, happ]
theorem move_list_run {n : Nat} {css : List (List Nat)} {wd : List Ob} (h : Gm n css) (r : Bool) : Run m_move_list [.sh (gmD n css r)] wd (.ow (mvDs (mvL n r 0 css))) wd := by
  have h8 := h.n8
  have h3 := h.c3
  obtain ⟨y5, y6, y7, e⟩ := move_loop (n := n) (r := r) (G := gmD n css r) (S := .tuple (css.map strD)) (wd := wd) h8 css 0 [] .no .no .no h.le (by simp; omega)
  refine Run.ret (sl := [.sh (gmD n css r), .sh (.int n), .sh (.tuple (css.map strD)), .sh (.bool r), .no, y5, y6, y7, .no]) ?_
  show f_move_list ⟨[.sh (gmD n css r), .no, .no, .no, .no, .no, .no, .no, .no], wd⟩ = _
  have e0 : mvDs [] = [] := rfl
  rw [e0, List.nil_append] at e
  unfold f_move_list
  unfold gmD at e ⊢
  simp only [cIf_t, bind_ok, bind_ex, bind_st, get_mk, set_mk, sSeq, sEx, sRet, sIf, sSet, sPass, sEx_, sBk, sAsg, sPar2, sPar3, thenS, dv, toD, eC, eN, eMv, eP, eBin, tst, eChain, tAndM, tOrM, tNotM, eAnd, eOr, eNot, eIf, toA, aNil, aCons, asDs, dvs, eTup, eLst, eCall, eIx, eIxN, itemE, eSl, pNo, pSo, cutD, gLen, eLenN, lenD, gList, gTuple, gN, gT, setAll, eMt, tyD, eIsi, gAdd, gSub, gDiv, gMod, gMul, gPow, gLt, gLe, gGt, gGe, gStr, gMin, gIn, gNotIn, gIs, gIsNot, isD, eLenSc, eIxSc, eScNil, eAppTn, sTown, tYesM, noEx_ok, itemG, stepS, iAll, itemsOf, iR1, iR2, wipeE, restE, keepE, sAug, gIadd, gImul, eApp, eExt, eNeg, List.getD_cons_zero, List.getD_cons_succ, List.set_cons_zero, List.set_cons_succ, List.getElem?_cons_zero, List.getElem?_cons_succ, Option.map_some, Option.map_none, Bool.not_true, Bool.not_false, beq_self_eq_true, if_true, if_false, ite_true, ite_false, Bool.false_eq_true, reduceIte, reduceCtorEq, lenL_0, lenL_1, lenL_2, lenL_3, lenL_4, lenL_5, lenL_6, lenL_7, lenL_8, lenL_9, lenL_10, lenL_11, lenL_12, sFor, iEn, e]
end CO

/-! Mm: turns. -/
namespace CO
open PySem PySem.Spec PyProof.Rows L2

theorem shp_of' {cs : List Nat} (h : shpL cs = true) : 1 ≤ cs.length ∧ cs.length ≤ 8 ∧ (∀ c ∈ cs, c = 120 ∨ c = 46) ∧ cs.head? = some 120 ∧ cs.getLast? = some 120 := by
  unfold shpL at h
  simp only [Bool.and_eq_true, decide_eq_true_eq, List.all_eq_true, beq_iff_eq] at h
  refine ⟨h.1.1.1.1, h.1.1.1.2, fun c hc => ?_, h.1.2, h.2⟩
  have := h.1.1.2 c hc
  simpa using this
theorem gSort_ints {ns : List Int} (h : ns.length ≤ lim) (e : En) : gSort [.list (ns.map .int)] e = .ok (.ow ((sortI ns).map .int)) e := by
  have hc : canSort (ns.map .int) = true := by
    unfold canSort
    rw [Bool.and_eq_true, Bool.and_eq_true, Bool.and_eq_true]
    refine ⟨⟨⟨decide_eq_true (by simpa using h), ?_⟩, ?_⟩, ?_⟩
    · rw [List.all_map, List.all_eq_true]; exact fun _ _ => rfl
    · rw [List.all_map, List.all_eq_true]
      intro a _
      show (ns.map PyData.int).all (fun b => PySem.W.alike (.int a) b) = true
      rw [List.all_map, List.all_eq_true]; exact fun _ _ => rfl
    · unfold sort3
      rw [Bool.or_eq_true, Bool.or_eq_true]
      refine .inl (.inr ?_)
      rw [List.all_map, List.all_eq_true]; exact fun _ _ => rfl
  show (if canSort (ns.map .int) = true then R.ok (Ent.ow (sortDs (ns.map .int))) e else .st) = _
  rw [if_pos hc, sortDs_ints]
/-- the places that a shape turns -/
def tpL (n p : Nat) : Nat → List Nat → List Int
  | _, [] => []
  | i, c :: cs => (if c = 120 then [(((p + i) % n : Nat) : Int)] else []) ++ tpL n p (i + 1) cs
theorem tpL_len (n p : Nat) : ∀ (i : Nat) (cs : List Nat), (tpL n p i cs).length ≤ cs.length
  | _, [] => Nat.le_refl _
  | i, c :: cs => by
    have := tpL_len n p (i + 1) cs
    unfold tpL
    split <;> simp <;> omega
def tpF (n p : Nat) (d : D) : Option D := match d with
  | .tuple [.int i, .str s] => if s = tx [120] then some (.int (((p : Int) + i) % (n : Int))) else none
  | _ => none
theorem tpF_map (n p : Nat) : ∀ (i : Nat) (cs : List Nat), (enumL i (cs.map fun c => PyData.str ⟨#[c]⟩)).filterMap (tpF n p) = (tpL n p i cs).map .int
  | _, [] => rfl
  | i, c :: cs => by
    have ih := tpF_map n p (i + 1) cs
    show (List.filterMap (tpF n p) (.tuple [.int i, .str ⟨#[c]⟩] :: enumL (i + 1) (cs.map fun c => PyData.str ⟨#[c]⟩))) = _
    have e1 : tpL n p i (c :: cs) = (if c = 120 then [(((p + i) % n : Nat) : Int)] else []) ++ tpL n p (i + 1) cs := rfl
    have e2 : tpF n p (.tuple [.int i, .str ⟨#[c]⟩]) = if c = 120 then some (.int (((p + i) % n : Nat) : Int)) else none := by
      show (if (⟨#[c]⟩ : Str) = tx [120] then some (PyData.int (((p : Int) + (i : Int)) % (n : Int))) else none) = _
      by_cases hc : c = 120
      · subst hc
        rw [if_pos (show (⟨#[120]⟩ : Str) = tx [120] from rfl)]
        simp
      · have : (⟨#[c]⟩ : Str) ≠ tx [120] := fun e => hc (by have := tx_inj (a := [c]) e; simpa using this)
        rw [if_neg this, if_neg hc]
    rw [e1, List.filterMap_cons, e2, ih]
    by_cases hc : c = 120
    · rw [if_pos hc, if_pos hc]; rfl
    · rw [if_neg hc, if_neg hc]; rfl
def tpS (n p : Nat) (cs : List Nat) : List Int := sortI (tpL n p 0 cs)
theorem enum_mem : ∀ (i : Nat) (ds : List D) (d : D), d ∈ enumL i ds → ∃ j z, z ∈ ds ∧ d = .tuple [.int ((j : Nat) : Int), z]
  | _, [], _, h => nomatch h
  | i, x :: ds, d, h => by
    rcases List.mem_cons.mp (show d ∈ .tuple [.int (i : Nat), x] :: enumL (i + 1) ds from h) with e | h
    · exact ⟨i, x, List.mem_cons_self, e⟩
    · obtain ⟨j, z, hz, e⟩ := enum_mem (i + 1) ds d h
      exact ⟨j, z, List.mem_cons_of_mem _ hz, e⟩
theorem turned_places_run {n : Nat} {css : List (List Nat)} {wd : List Ob} (h : Gm n css) (r : Bool) {i p : Nat} {c : List Nat} (hi : css[i]? = some c) : Run m_turned_places [.sh (gmD n css r), .sh (mvD i p)] wd (.ow ((tpS n p c).map .int)) wd := by
  have hlim : lim = 100000 := rfl
  have h8 := h.n8
  have h1 := h.n1
  have hmem := List.mem_of_getElem? hi
  have hsh := shp_of' (h.sh c hmem)
  have i0 : atI [PyData.int n, .tuple (css.map strD), .bool r] 0 = some (.int n) := rfl
  have i1 : atI [PyData.int n, .tuple (css.map strD), .bool r] 1 = some (.tuple (css.map strD)) := rfl
  have ii : atI (css.map strD) (i : Int) = some (strD c) := by
    obtain ⟨hlt, e⟩ := List.getElem?_eq_some_iff.mp hi
    rw [atI_in (by simpa using hlt), List.getElem_map, e]
  have hn : (0 : Int) < (n : Int) := by omega
  have hx2 : PyData.strOk (tx [120]) = true := strOk_tx (by decide)
  obtain ⟨e', h2, x4, x5, h3⟩ := comp_pure (g := gT [4, 5]) (t := tst (eBin gEq (eN 5) (eC (.str (PySem.Str.ofString "x"))))) (m := eBin gMod (eBin gAdd (eN 3) (eN 4)) (eIxN 0 (eC (.int 0)))) (vs := [4, 5]) (fun e => ∃ x y, e = ⟨[.sh (gmD n css r), .sh (mvD i p), .sh (.int i), .sh (.int p), x, y], wd⟩) (tpF n p) (enumL 0 (c.map fun c => PyData.str ⟨#[c]⟩)) ⟨[.sh (gmD n css r), .sh (mvD i p), .sh (.int i), .sh (.int p), .no, .no], wd⟩ [] ⟨.no, .no, rfl⟩ (by rw [enumL_len, List.length_map, List.length_nil]; have := hsh.2.1; omega) (by
    rintro d hd e ⟨x, y, rfl⟩
    obtain ⟨j, z, hz, rfl⟩ := enum_mem _ _ _ hd
    obtain ⟨a, ha, rfl⟩ := List.mem_map.mp hz
    refine ⟨⟨[.sh (gmD n css r), .sh (mvD i p), .sh (.int i), .sh (.int p), .sh (.int j), .sh (.str ⟨#[a]⟩)], wd⟩, ?_, _, _, rfl⟩
    have ho : PyData.strOk ⟨#[a]⟩ = true := strOk_tx (cs := [a]) (by intro z hz; rw [List.mem_singleton.mp hz]; rcases hsh.2.2.1 a ha with e | e <;> omega)
    have hb : ((⟨#[a]⟩ : Str) == tx [120]) = decide ((⟨#[a]⟩ : Str) = tx [120]) := rfl
    unfold gmD
    by_cases hq : (⟨#[a]⟩ : Str) = tx [120]
    · simp only [cIf_t, bind_ok, bind_ex, bind_st, get_mk, set_mk, sSeq, sEx, sRet, sIf, sSet, sPass, sEx_, sBk, sAsg, sPar2, sPar3, thenS, dv, toD, eC, eN, eMv, eP, eBin, tst, eChain, tAndM, tOrM, tNotM, eAnd, eOr, eNot, eIf, toA, aNil, aCons, asDs, dvs, eTup, eLst, eCall, eIx, eIxN, itemE, eSl, pNo, pSo, cutD, gLen, eLenN, lenD, gList, gTuple, gN, gT, setAll, eMt, tyD, eIsi, gAdd, gSub, gDiv, gMod, gMul, gPow, gLt, gLe, gGt, gGe, gStr, gMin, gIn, gNotIn, gIs, gIsNot, isD, eLenSc, eIxSc, eScNil, eAppTn, sTown, tYesM, noEx_ok, itemG, stepS, iAll, itemsOf, iR1, iR2, wipeE, restE, keepE, sAug, gIadd, gImul, eApp, eExt, eNeg, List.getD_cons_zero, List.getD_cons_succ, List.set_cons_zero, List.set_cons_succ, List.getElem?_cons_zero, List.getElem?_cons_succ, Option.map_some, Option.map_none, Bool.not_true, Bool.not_false, beq_self_eq_true, if_true, if_false, ite_true, ite_false, Bool.false_eq_true, reduceIte, reduceCtorEq, lenL_0, lenL_1, lenL_2, lenL_3, lenL_4, lenL_5, lenL_6, lenL_7, lenL_8, lenL_9, lenL_10, lenL_11, lenL_12, ofx, gEq_str ho hx2, hb, decide_eq_true hq, i0, if_pos hn, tpF, if_pos hq]
    · simp only [cIf_t, bind_ok, bind_ex, bind_st, get_mk, set_mk, sSeq, sEx, sRet, sIf, sSet, sPass, sEx_, sBk, sAsg, sPar2, sPar3, thenS, dv, toD, eC, eN, eMv, eP, eBin, tst, eChain, tAndM, tOrM, tNotM, eAnd, eOr, eNot, eIf, toA, aNil, aCons, asDs, dvs, eTup, eLst, eCall, eIx, eIxN, itemE, eSl, pNo, pSo, cutD, gLen, eLenN, lenD, gList, gTuple, gN, gT, setAll, eMt, tyD, eIsi, gAdd, gSub, gDiv, gMod, gMul, gPow, gLt, gLe, gGt, gGe, gStr, gMin, gIn, gNotIn, gIs, gIsNot, isD, eLenSc, eIxSc, eScNil, eAppTn, sTown, tYesM, noEx_ok, itemG, stepS, iAll, itemsOf, iR1, iR2, wipeE, restE, keepE, sAug, gIadd, gImul, eApp, eExt, eNeg, List.getD_cons_zero, List.getD_cons_succ, List.set_cons_zero, List.set_cons_succ, List.getElem?_cons_zero, List.getElem?_cons_succ, Option.map_some, Option.map_none, Bool.not_true, Bool.not_false, beq_self_eq_true, if_true, if_false, ite_true, ite_false, Bool.false_eq_true, reduceIte, reduceCtorEq, lenL_0, lenL_1, lenL_2, lenL_3, lenL_4, lenL_5, lenL_6, lenL_7, lenL_8, lenL_9, lenL_10, lenL_11, lenL_12, ofx, gEq_str ho hx2, hb, decide_eq_false hq, tpF, if_neg hq])
  subst h3
  rw [List.nil_append, tpF_map] at h2
  refine Run.ret (sl := [.sh (gmD n css r), .sh (mvD i p), .sh (.int i), .sh (.int p), .no, .no]) ?_
  show f_turned_places ⟨[.sh (gmD n css r), .sh (mvD i p), .no, .no, .no, .no], wd⟩ = _
  have hlc := lc_run (mi := iEn (eIx (eIxN 0 (eC (.int 1))) (eN 2))) (en := ⟨[.sh (gmD n css r), .sh (mvD i p), .sh (.int i), .sh (.int p), .no, .no], wd⟩) (e := ⟨[.sh (gmD n css r), .sh (mvD i p), .sh (.int i), .sh (.int p), .no, .no], wd⟩) (by
    unfold gmD
    simp only [cIf_t, bind_ok, bind_ex, bind_st, get_mk, set_mk, sSeq, sEx, sRet, sIf, sSet, sPass, sEx_, sBk, sAsg, sPar2, sPar3, thenS, dv, toD, eC, eN, eMv, eP, eBin, tst, eChain, tAndM, tOrM, tNotM, eAnd, eOr, eNot, eIf, toA, aNil, aCons, asDs, dvs, eTup, eLst, eCall, eIx, eIxN, itemE, eSl, pNo, pSo, cutD, gLen, eLenN, lenD, gList, gTuple, gN, gT, setAll, eMt, tyD, eIsi, gAdd, gSub, gDiv, gMod, gMul, gPow, gLt, gLe, gGt, gGe, gStr, gMin, gIn, gNotIn, gIs, gIsNot, isD, eLenSc, eIxSc, eScNil, eAppTn, sTown, tYesM, noEx_ok, itemG, stepS, iAll, itemsOf, iR1, iR2, wipeE, restE, keepE, sAug, gIadd, gImul, eApp, eExt, eNeg, List.getD_cons_zero, List.getD_cons_succ, List.set_cons_zero, List.set_cons_succ, List.getElem?_cons_zero, List.getElem?_cons_succ, Option.map_some, Option.map_none, Bool.not_true, Bool.not_false, beq_self_eq_true, if_true, if_false, ite_true, ite_false, Bool.false_eq_true, reduceIte, reduceCtorEq, lenL_0, lenL_1, lenL_2, lenL_3, lenL_4, lenL_5, lenL_6, lenL_7, lenL_8, lenL_9, lenL_10, lenL_11, lenL_12, iEn, i1, ii]
    unfold strD
    simp only [cIf_t, bind_ok, bind_ex, bind_st, get_mk, set_mk, sSeq, sEx, sRet, sIf, sSet, sPass, sEx_, sBk, sAsg, sPar2, sPar3, thenS, dv, toD, eC, eN, eMv, eP, eBin, tst, eChain, tAndM, tOrM, tNotM, eAnd, eOr, eNot, eIf, toA, aNil, aCons, asDs, dvs, eTup, eLst, eCall, eIx, eIxN, itemE, eSl, pNo, pSo, cutD, gLen, eLenN, lenD, gList, gTuple, gN, gT, setAll, eMt, tyD, eIsi, gAdd, gSub, gDiv, gMod, gMul, gPow, gLt, gLe, gGt, gGe, gStr, gMin, gIn, gNotIn, gIs, gIsNot, isD, eLenSc, eIxSc, eScNil, eAppTn, sTown, tYesM, noEx_ok, itemG, stepS, iAll, itemsOf, iR1, iR2, wipeE, restE, keepE, sAug, gIadd, gImul, eApp, eExt, eNeg, List.getD_cons_zero, List.getD_cons_succ, List.set_cons_zero, List.set_cons_succ, List.getElem?_cons_zero, List.getElem?_cons_succ, Option.map_some, Option.map_none, Bool.not_true, Bool.not_false, beq_self_eq_true, if_true, if_false, ite_true, ite_false, Bool.false_eq_true, reduceIte, reduceCtorEq, lenL_0, lenL_1, lenL_2, lenL_3, lenL_4, lenL_5, lenL_6, lenL_7, lenL_8, lenL_9, lenL_10, lenL_11, lenL_12]
    rfl) h2
  have hs : ∀ e, gSort [.list ((tpL n p 0 c).map .int)] e = .ok (.ow ((tpS n p c).map .int)) e := fun e => gSort_ints (by have := tpL_len n p 0 c; have := hsh.2.1; omega) e
  unfold f_turned_places
  unfold mvD at hlc ⊢
  simp only [cIf_t, bind_ok, bind_ex, bind_st, get_mk, set_mk, sSeq, sEx, sRet, sIf, sSet, sPass, sEx_, sBk, sAsg, sPar2, sPar3, thenS, dv, toD, eC, eN, eMv, eP, eBin, tst, eChain, tAndM, tOrM, tNotM, eAnd, eOr, eNot, eIf, toA, aNil, aCons, asDs, dvs, eTup, eLst, eCall, eIx, eIxN, itemE, eSl, pNo, pSo, cutD, gLen, eLenN, lenD, gList, gTuple, gN, gT, setAll, eMt, tyD, eIsi, gAdd, gSub, gDiv, gMod, gMul, gPow, gLt, gLe, gGt, gGe, gStr, gMin, gIn, gNotIn, gIs, gIsNot, isD, eLenSc, eIxSc, eScNil, eAppTn, sTown, tYesM, noEx_ok, itemG, stepS, iAll, itemsOf, iR1, iR2, wipeE, restE, keepE, sAug, gIadd, gImul, eApp, eExt, eNeg, List.getD_cons_zero, List.getD_cons_succ, List.set_cons_zero, List.set_cons_succ, List.getElem?_cons_zero, List.getElem?_cons_succ, Option.map_some, Option.map_none, Bool.not_true, Bool.not_false, beq_self_eq_true, if_true, if_false, ite_true, ite_false, Bool.false_eq_true, reduceIte, reduceCtorEq, lenL_0, lenL_1, lenL_2, lenL_3, lenL_4, lenL_5, lenL_6, lenL_7, lenL_8, lenL_9, lenL_10, lenL_11, lenL_12, hlc, hs]
end CO

/-! Mn: a row turned. -/
namespace CO
open PySem PySem.Spec PyProof.Rows L2

theorem tx_beq' (a b : List Nat) : (tx a == tx b) = decide (a = b) := by
  by_cases h : a = b
  · subst h; simp
  · rw [decide_eq_false h]
    exact beq_false_of_ne fun e => h (tx_inj e)
theorem gInB_ints (j : Int) (S : List Int) : gInB (.int j) (.list (S.map .int)) = some (decide (j ∈ S)) := by
  show (if SeqAt.shaped (.int j) = true ∧ SeqAt.shaped (.list (S.map .int)) = true then some ((S.map PyData.int).any fun z => PyData.eqv z (.int j)) else none) = _
  rw [if_pos ⟨rfl, shaped_ints S⟩, List.any_map]
  congr 1
  induction S with
  | nil => rfl
  | cons s S ih =>
    rw [List.any_cons, ih]
    have : ((fun z => PyData.eqv z (.int j)) ∘ PyData.int) s = decide (s = j) := by
      show PyData.eqv (.int s) (.int j) = _
      unfold PyData.eqv
      by_cases q : s = j
      · subst q; simp
      · rw [decide_eq_false q]; exact beq_false_of_ne q
    rw [this, ← Bool.decide_or]
    refine decide_eq_decide.mpr ?_
    rw [List.mem_cons]
    exact ⟨fun z => z.imp Eq.symm id, fun z => z.imp Eq.symm id⟩
def flipC (c : Nat) : Nat := if c = 104 then 116 else 104
def turnC (S : List Int) (i c : Nat) : Nat := if (i : Int) ∈ S then flipC c else c
def turnL (S : List Int) : Nat → List Nat → List Nat
  | _, [] => []
  | i, c :: cs => turnC S i c :: turnL S (i + 1) cs
def oneD (c : Nat) : D := .str (tx [c])
theorem turn_loop {Rw : D} {S : List Int} {wd : List Ob} : ∀ (cs : List Nat) (i : Nat) (out : List Nat) (x3 x4 : Ent), out.length + cs.length ≤ 1000 → (∀ c ∈ cs, c = 104 ∨ c = 116) →
    ∃ y3 y4, forGo (gT [3, 4]) (sSeq (sIf (tst (eBin gIn (eN 3) (eN 1))) (sSet 4 (eIf (tst (eBin gEq (eN 4) (eC (.str (PySem.Str.ofString "h"))))) (eC (.str (PySem.Str.ofString "t"))) (eC (.str (PySem.Str.ofString "h"))))) (sPass)) (sEx (eApp 2 (eN 4)))) (enumL i (cs.map fun c => PyData.str ⟨#[c]⟩)) ⟨[.sh Rw, .sh (.list (S.map .int)), .ow (out.map oneD), x3, x4], wd⟩
      = .ok .nx ⟨[.sh Rw, .sh (.list (S.map .int)), .ow ((out ++ turnL S i cs).map oneD), y3, y4], wd⟩
  | [], i, out, x3, x4, _, _ => ⟨x3, x4, by
      show (R.ok Fl.nx _ : R Fl) = _
      rw [show turnL S i [] = [] from rfl, List.append_nil]⟩
  | c :: cs, i, out, x3, x4, hl, hc => by
    have hlim : lim = 100000 := rfl
    obtain ⟨y3, y4, e⟩ := turn_loop cs (i + 1) (out ++ [turnC S i c]) (.sh (.int i)) (.sh (oneD (turnC S i c))) (by simp at hl ⊢; omega) fun d hd => hc d (List.mem_cons_of_mem _ hd)
    refine ⟨y3, y4, ?_⟩
    rw [show turnL S i (c :: cs) = [turnC S i c] ++ turnL S (i + 1) cs from rfl, ← List.append_assoc, ← e]
    refine for_cons ?_
    have ho : PyData.strOk ⟨#[c]⟩ = true := strOk_tx (cs := [c]) (by intro z hz; rw [List.mem_singleton.mp hz]; rcases hc c List.mem_cons_self with e | e <;> omega)
    have hh : PyData.strOk (tx [104]) = true := strOk_tx (by decide)
    have hb : ((⟨#[c]⟩ : Str) == tx [104]) = decide (c = 104) := by
      have := tx_beq' [c] [104]
      exact this.trans (decide_eq_decide.mpr (by simp))
    have hln : (out.map oneD).length < lim := by simp at hl ⊢; omega
    have happ : ∀ z, out.map oneD ++ [oneD z] = (out ++ [z]).map oneD := fun z => by rw [List.map_append]; rfl
    by_cases h1 : (i : Int) ∈ S
    · by_cases h2 : c = 104
      · have et : turnC S i c = 116 := by unfold turnC flipC; rw [if_pos h1, if_pos h2]
        rw [et, ← happ]
        unfold oneD at hln ⊢
        simp only [cIf_t, bind_ok, bind_ex, bind_st, get_mk, set_mk, sSeq, sEx, sRet, sIf, sSet, sPass, sEx_, sBk, sAsg, sPar2, sPar3, thenS, dv, toD, eC, eN, eMv, eP, eBin, tst, eChain, tAndM, tOrM, tNotM, eAnd, eOr, eNot, eIf, toA, aNil, aCons, asDs, dvs, eTup, eLst, eCall, eIx, eIxN, itemE, eSl, pNo, pSo, cutD, gLen, eLenN, lenD, gList, gTuple, gN, gT, setAll, eMt, tyD, eIsi, gAdd, gSub, gDiv, gMod, gMul, gPow, gLt, gLe, gGt, gGe, gStr, gMin, gIn, gNotIn, gIs, gIsNot, isD, eLenSc, eIxSc, eScNil, eAppTn, sTown, tYesM, noEx_ok, itemG, stepS, iAll, itemsOf, iR1, iR2, wipeE, restE, keepE, sAug, gIadd, gImul, eApp, eExt, eNeg, List.getD_cons_zero, List.getD_cons_succ, List.set_cons_zero, List.set_cons_succ, List.getElem?_cons_zero, List.getElem?_cons_succ, Option.map_some, Option.map_none, Bool.not_true, Bool.not_false, beq_self_eq_true, if_true, if_false, ite_true, ite_false, Bool.false_eq_true, reduceIte, reduceCtorEq, lenL_0, lenL_1, lenL_2, lenL_3, lenL_4, lenL_5, lenL_6, lenL_7, lenL_8, lenL_9, lenL_10, lenL_11, lenL_12, gInB_ints, decide_eq_true h1, ofh, oft, gEq_str ho hh, hb, decide_eq_true h2, if_pos hln]
      · have et : turnC S i c = 104 := by unfold turnC flipC; rw [if_pos h1, if_neg h2]
        rw [et, ← happ]
        unfold oneD at hln ⊢
        simp only [cIf_t, bind_ok, bind_ex, bind_st, get_mk, set_mk, sSeq, sEx, sRet, sIf, sSet, sPass, sEx_, sBk, sAsg, sPar2, sPar3, thenS, dv, toD, eC, eN, eMv, eP, eBin, tst, eChain, tAndM, tOrM, tNotM, eAnd, eOr, eNot, eIf, toA, aNil, aCons, asDs, dvs, eTup, eLst, eCall, eIx, eIxN, itemE, eSl, pNo, pSo, cutD, gLen, eLenN, lenD, gList, gTuple, gN, gT, setAll, eMt, tyD, eIsi, gAdd, gSub, gDiv, gMod, gMul, gPow, gLt, gLe, gGt, gGe, gStr, gMin, gIn, gNotIn, gIs, gIsNot, isD, eLenSc, eIxSc, eScNil, eAppTn, sTown, tYesM, noEx_ok, itemG, stepS, iAll, itemsOf, iR1, iR2, wipeE, restE, keepE, sAug, gIadd, gImul, eApp, eExt, eNeg, List.getD_cons_zero, List.getD_cons_succ, List.set_cons_zero, List.set_cons_succ, List.getElem?_cons_zero, List.getElem?_cons_succ, Option.map_some, Option.map_none, Bool.not_true, Bool.not_false, beq_self_eq_true, if_true, if_false, ite_true, ite_false, Bool.false_eq_true, reduceIte, reduceCtorEq, lenL_0, lenL_1, lenL_2, lenL_3, lenL_4, lenL_5, lenL_6, lenL_7, lenL_8, lenL_9, lenL_10, lenL_11, lenL_12, gInB_ints, decide_eq_true h1, ofh, oft, gEq_str ho hh, hb, decide_eq_false h2, if_pos hln]
    · have et : turnC S i c = c := by unfold turnC; rw [if_neg h1]
      rw [et, ← happ]
      unfold oneD at hln ⊢
      simp only [cIf_t, bind_ok, bind_ex, bind_st, get_mk, set_mk, sSeq, sEx, sRet, sIf, sSet, sPass, sEx_, sBk, sAsg, sPar2, sPar3, thenS, dv, toD, eC, eN, eMv, eP, eBin, tst, eChain, tAndM, tOrM, tNotM, eAnd, eOr, eNot, eIf, toA, aNil, aCons, asDs, dvs, eTup, eLst, eCall, eIx, eIxN, itemE, eSl, pNo, pSo, cutD, gLen, eLenN, lenD, gList, gTuple, gN, gT, setAll, eMt, tyD, eIsi, gAdd, gSub, gDiv, gMod, gMul, gPow, gLt, gLe, gGt, gGe, gStr, gMin, gIn, gNotIn, gIs, gIsNot, isD, eLenSc, eIxSc, eScNil, eAppTn, sTown, tYesM, noEx_ok, itemG, stepS, iAll, itemsOf, iR1, iR2, wipeE, restE, keepE, sAug, gIadd, gImul, eApp, eExt, eNeg, List.getD_cons_zero, List.getD_cons_succ, List.set_cons_zero, List.set_cons_succ, List.getElem?_cons_zero, List.getElem?_cons_succ, Option.map_some, Option.map_none, Bool.not_true, Bool.not_false, beq_self_eq_true, if_true, if_false, ite_true, ite_false, Bool.false_eq_true, reduceIte, reduceCtorEq, lenL_0, lenL_1, lenL_2, lenL_3, lenL_4, lenL_5, lenL_6, lenL_7, lenL_8, lenL_9, lenL_10, lenL_11, lenL_12, gInB_ints, decide_eq_false h1, if_pos hln]
      rfl
theorem turnL_len (S : List Int) : ∀ (i : Nat) (cs : List Nat), (turnL S i cs).length = cs.length
  | _, [] => rfl
  | i, _ :: cs => congrArg (· + 1) (turnL_len S (i + 1) cs)
theorem turned_run {cs : List Nat} {S : List Int} {wd : List Ob} (hl : cs.length ≤ 900) (hc : ∀ c ∈ cs, c = 104 ∨ c = 116) : Run m_turned [.sh (.str (tx cs)), .sh (.list (S.map .int))] wd (.sh (.str (tx (turnL S 0 cs)))) wd := by
  have hlim : lim = 100000 := rfl
  obtain ⟨y3, y4, e⟩ := turn_loop (Rw := .str (tx cs)) (S := S) (wd := wd) cs 0 [] .no .no (by simp; omega) hc
  refine Run.ret (sl := [.sh (.str (tx cs)), .sh (.list (S.map .int)), .sh (.list ((turnL S 0 cs).map oneD)), y3, y4]) ?_
  show f_turned ⟨[.sh (.str (tx cs)), .sh (.list (S.map .int)), .no, .no, .no], wd⟩ = _
  have hj : ∀ e, gJoin (.str (tx [])) [.list ((turnL S 0 cs).map oneD)] e = .ok (.sh (.str (tx (turnL S 0 cs)))) e := fun e => gJoin_ones (by rw [turnL_len]; omega) e
  have e0 : ([] : List Nat).map oneD = [] := rfl
  rw [e0, List.nil_append] at e
  have it : itemsOf (.str (tx cs)) = some (cs.map fun c => PyData.str ⟨#[c]⟩) := rfl
  unfold f_turned
  simp only [cIf_t, bind_ok, bind_ex, bind_st, get_mk, set_mk, sSeq, sEx, sRet, sIf, sSet, sPass, sEx_, sBk, sAsg, sPar2, sPar3, thenS, dv, toD, eC, eN, eMv, eP, eBin, tst, eChain, tAndM, tOrM, tNotM, eAnd, eOr, eNot, eIf, toA, aNil, aCons, asDs, dvs, eTup, eLst, eCall, eIx, eIxN, itemE, eSl, pNo, pSo, cutD, gLen, eLenN, lenD, gList, gTuple, gN, gT, setAll, eMt, tyD, eIsi, gAdd, gSub, gDiv, gMod, gMul, gPow, gLt, gLe, gGt, gGe, gStr, gMin, gIn, gNotIn, gIs, gIsNot, isD, eLenSc, eIxSc, eScNil, eAppTn, sTown, tYesM, noEx_ok, itemG, stepS, iAll, iR1, iR2, wipeE, restE, keepE, sAug, gIadd, gImul, eApp, eExt, eNeg, List.getD_cons_zero, List.getD_cons_succ, List.set_cons_zero, List.set_cons_succ, List.getElem?_cons_zero, List.getElem?_cons_succ, Option.map_some, Option.map_none, Bool.not_true, Bool.not_false, beq_self_eq_true, if_true, if_false, ite_true, ite_false, Bool.false_eq_true, reduceIte, reduceCtorEq, lenL_0, lenL_1, lenL_2, lenL_3, lenL_4, lenL_5, lenL_6, lenL_7, lenL_8, lenL_9, lenL_10, lenL_11, lenL_12, sFor, iEn, it, e, ofnil, hj]
end CO

/-! Mo: is_move, play. -/
namespace CO
open PySem PySem.Spec PyProof.Rows L2

theorem lay_mvs : ∀ l : List (Nat × Nat), PyData.canLayAll0 (mvDs l) = true ∧ PyData.depthAll (mvDs l) ≤ 1
  | [] => ⟨rfl, Nat.zero_le _⟩
  | q :: l => by
    obtain ⟨a, b⟩ := lay_mvs l
    exact ⟨by show (true && PyData.canLayAll0 (mvDs l)) = true; rw [a]; rfl, by show max 1 (PyData.depthAll (mvDs l)) ≤ 1; omega⟩
theorem shaped_mvs (l : List (Nat × Nat)) : SeqAt.shaped (.list (mvDs l)) = true := by
  obtain ⟨a, b⟩ := lay_mvs l
  show (PyData.canLayAll0 (mvDs l) && decide (PyData.depthAll (mvDs l) + 1 ≤ 64)) = true
  rw [a, decide_eq_true (by omega)]; rfl
theorem eqv_mv (i p : Nat) (a b : Int) : PyData.eqv (mvD i p) (.tuple [.int a, .int b]) = decide ((i : Int) = a ∧ (p : Int) = b) := by
  have : PyData.eqv (mvD i p) (.tuple [.int a, .int b]) = (((i : Int) == a) && (((p : Int) == b) && true)) := by
    unfold mvD
    simp [PyData.eqv, PyData.eqvAll]
  rw [this, Bool.and_true]
  by_cases h1 : (i : Int) = a
  · by_cases h2 : (p : Int) = b
    · simp [h1, h2]
    · simp [h1, h2]
  · simp [h1]
theorem inB_mvs (a b : Int) (l : List (Nat × Nat)) : gInB (.tuple [.int a, .int b]) (.list (mvDs l)) = some (decide (∃ q ∈ l, (q.1 : Int) = a ∧ (q.2 : Int) = b)) := by
  show (if SeqAt.shaped (.tuple [.int a, .int b]) = true ∧ SeqAt.shaped (.list (mvDs l)) = true then some ((mvDs l).any fun z => PyData.eqv z (.tuple [.int a, .int b])) else none) = _
  rw [if_pos ⟨rfl, shaped_mvs l⟩]
  congr 1
  rw [Bool.eq_iff_iff, decide_eq_true_eq, List.any_eq_true]
  constructor
  · rintro ⟨z, hz, e⟩
    obtain ⟨q, hq, rfl⟩ := List.mem_map.mp hz
    rw [eqv_mv] at e
    exact ⟨q, hq, of_decide_eq_true e⟩
  · rintro ⟨q, hq, e⟩
    exact ⟨mvD q.1 q.2, List.mem_map.mpr ⟨q, hq, rfl⟩, by rw [eqv_mv]; exact decide_eq_true e⟩
def moveB (n : Nat) (css : List (List Nat)) (r : Bool) (d : D) : Bool := match d with
  | .tuple [a, b] => intIn a 0 8 && intIn b 0 8 && decide (∃ q ∈ mvL n r 0 css, (q.1 : Int) = intOf a ∧ (q.2 : Int) = intOf b)
  | _ => false
theorem is_move_run {n : Nat} {css : List (List Nat)} {wd : List Ob} (h : Gm n css) (r : Bool) {d : D} : Run m_is_move [.sh (gmD n css r), .sh d] wd (.sh (.bool (moveB n css r d))) wd := by
  have no : ∀ (d : D), isT "tuple" d = false → Run m_is_move [.sh (gmD n css r), .sh d] wd (.sh (.bool false)) wd := fun d h => by
    refine Run.ret (sl := [.sh (gmD n css r), .sh d, .no]) ?_
    show f_is_move ⟨[.sh (gmD n css r), .sh d, .no], wd⟩ = _
    unfold f_is_move
    simp only [cIf_t, bind_ok, bind_ex, bind_st, get_mk, set_mk, sSeq, sEx, sRet, sIf, sSet, sPass, sEx_, sBk, sAsg, sPar2, sPar3, thenS, dv, toD, eC, eN, eMv, eP, eBin, tst, eChain, tAndM, tOrM, tNotM, eAnd, eOr, eNot, eIf, toA, aNil, aCons, asDs, dvs, eTup, eLst, eCall, eIx, eIxN, itemE, eSl, pNo, pSo, cutD, gLen, eLenN, lenD, gList, gTuple, gN, gT, setAll, eMt, tyD, eIsi, gAdd, gSub, gDiv, gMod, gMul, gPow, gLt, gLe, gGt, gGe, gStr, gMin, gIn, gNotIn, gIs, gIsNot, isD, eLenSc, eIxSc, eScNil, eAppTn, sTown, tYesM, noEx_ok, itemG, stepS, iAll, itemsOf, iR1, iR2, wipeE, restE, keepE, sAug, gIadd, gImul, eApp, eExt, eNeg, List.getD_cons_zero, List.getD_cons_succ, List.set_cons_zero, List.set_cons_succ, List.getElem?_cons_zero, List.getElem?_cons_succ, Option.map_some, Option.map_none, Bool.not_true, Bool.not_false, beq_self_eq_true, if_true, if_false, ite_true, ite_false, Bool.false_eq_true, reduceIte, reduceCtorEq, lenL_0, lenL_1, lenL_2, lenL_3, lenL_4, lenL_5, lenL_6, lenL_7, lenL_8, lenL_9, lenL_10, lenL_11, lenL_12, h]
  have no2 : ∀ (ds : List D), ds.length ≠ 2 → Run m_is_move [.sh (gmD n css r), .sh (.tuple ds)] wd (.sh (.bool false)) wd := fun ds h => by
    refine Run.ret (sl := [.sh (gmD n css r), .sh (.tuple ds), .no]) ?_
    show f_is_move ⟨[.sh (gmD n css r), .sh (.tuple ds), .no], wd⟩ = _
    have h3 : ((ds.length : Int) == 2) = false := beq_false_of_ne (by omega)
    unfold f_is_move
    simp only [cIf_t, bind_ok, bind_ex, bind_st, get_mk, set_mk, sSeq, sEx, sRet, sIf, sSet, sPass, sEx_, sBk, sAsg, sPar2, sPar3, thenS, dv, toD, eC, eN, eMv, eP, eBin, tst, eChain, tAndM, tOrM, tNotM, eAnd, eOr, eNot, eIf, toA, aNil, aCons, asDs, dvs, eTup, eLst, eCall, eIx, eIxN, itemE, eSl, pNo, pSo, cutD, gLen, eLenN, lenD, gList, gTuple, gN, gT, setAll, eMt, tyD, eIsi, gAdd, gSub, gDiv, gMod, gMul, gPow, gLt, gLe, gGt, gGe, gStr, gMin, gIn, gNotIn, gIs, gIsNot, isD, eLenSc, eIxSc, eScNil, eAppTn, sTown, tYesM, noEx_ok, itemG, stepS, iAll, itemsOf, iR1, iR2, wipeE, restE, keepE, sAug, gIadd, gImul, eApp, eExt, eNeg, List.getD_cons_zero, List.getD_cons_succ, List.set_cons_zero, List.set_cons_succ, List.getElem?_cons_zero, List.getElem?_cons_succ, Option.map_some, Option.map_none, Bool.not_true, Bool.not_false, beq_self_eq_true, if_true, if_false, ite_true, ite_false, Bool.false_eq_true, reduceIte, reduceCtorEq, lenL_0, lenL_1, lenL_2, lenL_3, lenL_4, lenL_5, lenL_6, lenL_7, lenL_8, lenL_9, lenL_10, lenL_11, lenL_12, isT_int_none, isT_int_bool, isT_int_int, isT_int_str, isT_int_list, isT_int_tuple, isT_bool_none, isT_bool_bool, isT_bool_int, isT_bool_str, isT_bool_list, isT_bool_tuple, isT_str_none, isT_str_bool, isT_str_int, isT_str_str, isT_str_list, isT_str_tuple, isT_tuple_none, isT_tuple_bool, isT_tuple_int, isT_tuple_str, isT_tuple_list, isT_tuple_tuple, isT_list_none, isT_list_bool, isT_list_int, isT_list_str, isT_list_list, isT_list_tuple, gNe_int, h3]
  cases d with
  | none => exact no _ rfl
  | bool b => exact no _ rfl
  | int b => exact no _ rfl
  | str b => exact no _ rfl
  | list b => exact no _ rfl
  | dict b => exact no _ rfl
  | tuple ds =>
    match ds with
    | [] => exact no2 [] (by simp)
    | [x] => exact no2 [x] (by simp)
    | x :: y :: z :: u => exact no2 (x :: y :: z :: u) (by simp)
    | [a, b] =>
      have h3 : ((([a, b] : List D).length : Int) == 2) = true := rfl
      obtain ⟨e', h1, x', h2⟩ := comp_map (g := gN 2) (t := tYesM) (m := eCallF 3 m_is_integer (aCons (eN 2) (aCons (eC (.int 0)) (aCons (eC (.int 8)) (aNil))))) (vs := [2]) (fun e => ∃ x, e = ⟨[.sh (gmD n css r), .sh (.tuple [a, b]), x], wd⟩) (fun d => PyData.bool (intIn d 0 8)) [a, b] ⟨[.sh (gmD n css r), .sh (.tuple [a, b]), .no], wd⟩ ⟨.no, rfl⟩ (show 2 ≤ lim by decide) (by
        rintro d hd e ⟨x, rfl⟩
        have hc := call_run (n := 3) (ms := aCons (eN 2) (aCons (eC (.int 0)) (aCons (eC (.int 8)) (aNil)))) (en := ⟨[.sh (gmD n css r), .sh (.tuple [a, b]), .sh d], wd⟩) (sl := [.sh (gmD n css r), .sh (.tuple [a, b]), .sh d]) (by simp only [cIf_t, bind_ok, bind_ex, bind_st, get_mk, set_mk, sSeq, sEx, sRet, sIf, sSet, sPass, sEx_, sBk, sAsg, sPar2, sPar3, thenS, dv, toD, eC, eN, eMv, eP, eBin, tst, eChain, tAndM, tOrM, tNotM, eAnd, eOr, eNot, eIf, toA, aNil, aCons, asDs, dvs, eTup, eLst, eCall, eIx, eIxN, itemE, eSl, pNo, pSo, cutD, gLen, eLenN, lenD, gList, gTuple, gN, gT, setAll, eMt, tyD, eIsi, gAdd, gSub, gDiv, gMod, gMul, gPow, gLt, gLe, gGt, gGe, gStr, gMin, gIn, gNotIn, gIs, gIsNot, isD, eLenSc, eIxSc, eScNil, eAppTn, sTown, tYesM, noEx_ok, itemG, stepS, iAll, itemsOf, iR1, iR2, wipeE, restE, keepE, sAug, gIadd, gImul, eApp, eExt, eNeg, List.getD_cons_zero, List.getD_cons_succ, List.set_cons_zero, List.set_cons_succ, List.getElem?_cons_zero, List.getElem?_cons_succ, Option.map_some, Option.map_none, Bool.not_true, Bool.not_false, beq_self_eq_true, if_true, if_false, ite_true, ite_false, Bool.false_eq_true, reduceIte, reduceCtorEq, lenL_0, lenL_1, lenL_2, lenL_3, lenL_4, lenL_5, lenL_6, lenL_7, lenL_8, lenL_9, lenL_10, lenL_11, lenL_12]) rfl (is_integer_run (d := d) (lo := 0) (hi := 8) (wd := wd))
        exact ⟨⟨[.sh (gmD n css r), .sh (.tuple [a, b]), .sh d], wd⟩, by simp only [cIf_t, bind_ok, bind_ex, bind_st, get_mk, set_mk, sSeq, sEx, sRet, sIf, sSet, sPass, sEx_, sBk, sAsg, sPar2, sPar3, thenS, dv, toD, eC, eN, eMv, eP, eBin, tst, eChain, tAndM, tOrM, tNotM, eAnd, eOr, eNot, eIf, toA, aNil, aCons, asDs, dvs, eTup, eLst, eCall, eIx, eIxN, itemE, eSl, pNo, pSo, cutD, gLen, eLenN, lenD, gList, gTuple, gN, gT, setAll, eMt, tyD, eIsi, gAdd, gSub, gDiv, gMod, gMul, gPow, gLt, gLe, gGt, gGe, gStr, gMin, gIn, gNotIn, gIs, gIsNot, isD, eLenSc, eIxSc, eScNil, eAppTn, sTown, tYesM, noEx_ok, itemG, stepS, iAll, itemsOf, iR1, iR2, wipeE, restE, keepE, sAug, gIadd, gImul, eApp, eExt, eNeg, List.getD_cons_zero, List.getD_cons_succ, List.set_cons_zero, List.set_cons_succ, List.getElem?_cons_zero, List.getElem?_cons_succ, Option.map_some, Option.map_none, Bool.not_true, Bool.not_false, beq_self_eq_true, if_true, if_false, ite_true, ite_false, Bool.false_eq_true, reduceIte, reduceCtorEq, lenL_0, lenL_1, lenL_2, lenL_3, lenL_4, lenL_5, lenL_6, lenL_7, lenL_8, lenL_9, lenL_10, lenL_11, lenL_12, hc], .sh d, rfl⟩)
      subst h2
      have hlc := lc_run (mi := iAll (eN 1)) (en := ⟨[.sh (gmD n css r), .sh (.tuple [a, b]), .no], wd⟩) (e := ⟨[.sh (gmD n css r), .sh (.tuple [a, b]), .no], wd⟩) (by simp only [cIf_t, bind_ok, bind_ex, bind_st, get_mk, set_mk, sSeq, sEx, sRet, sIf, sSet, sPass, sEx_, sBk, sAsg, sPar2, sPar3, thenS, dv, toD, eC, eN, eMv, eP, eBin, tst, eChain, tAndM, tOrM, tNotM, eAnd, eOr, eNot, eIf, toA, aNil, aCons, asDs, dvs, eTup, eLst, eCall, eIx, eIxN, itemE, eSl, pNo, pSo, cutD, gLen, eLenN, lenD, gList, gTuple, gN, gT, setAll, eMt, tyD, eIsi, gAdd, gSub, gDiv, gMod, gMul, gPow, gLt, gLe, gGt, gGe, gStr, gMin, gIn, gNotIn, gIs, gIsNot, isD, eLenSc, eIxSc, eScNil, eAppTn, sTown, tYesM, noEx_ok, itemG, stepS, iAll, itemsOf, iR1, iR2, wipeE, restE, keepE, sAug, gIadd, gImul, eApp, eExt, eNeg, List.getD_cons_zero, List.getD_cons_succ, List.set_cons_zero, List.set_cons_succ, List.getElem?_cons_zero, List.getElem?_cons_succ, Option.map_some, Option.map_none, Bool.not_true, Bool.not_false, beq_self_eq_true, if_true, if_false, ite_true, ite_false, Bool.false_eq_true, reduceIte, reduceCtorEq, lenL_0, lenL_1, lenL_2, lenL_3, lenL_4, lenL_5, lenL_6, lenL_7, lenL_8, lenL_9, lenL_10, lenL_11, lenL_12]) h1
      have hal : [a, b].all (fun d => intIn d 0 8) = (intIn a 0 8 && intIn b 0 8) := by simp
      have hml := call_run (n := 1) (ms := aCons (eN 0) aNil) (en := ⟨[.sh (gmD n css r), .sh (.tuple [a, b]), .no], wd⟩) (sl := [.sh (gmD n css r), .sh (.tuple [a, b]), .no]) (by simp only [cIf_t, bind_ok, bind_ex, bind_st, get_mk, set_mk, sSeq, sEx, sRet, sIf, sSet, sPass, sEx_, sBk, sAsg, sPar2, sPar3, thenS, dv, toD, eC, eN, eMv, eP, eBin, tst, eChain, tAndM, tOrM, tNotM, eAnd, eOr, eNot, eIf, toA, aNil, aCons, asDs, dvs, eTup, eLst, eCall, eIx, eIxN, itemE, eSl, pNo, pSo, cutD, gLen, eLenN, lenD, gList, gTuple, gN, gT, setAll, eMt, tyD, eIsi, gAdd, gSub, gDiv, gMod, gMul, gPow, gLt, gLe, gGt, gGe, gStr, gMin, gIn, gNotIn, gIs, gIsNot, isD, eLenSc, eIxSc, eScNil, eAppTn, sTown, tYesM, noEx_ok, itemG, stepS, iAll, itemsOf, iR1, iR2, wipeE, restE, keepE, sAug, gIadd, gImul, eApp, eExt, eNeg, List.getD_cons_zero, List.getD_cons_succ, List.set_cons_zero, List.set_cons_succ, List.getElem?_cons_zero, List.getElem?_cons_succ, Option.map_some, Option.map_none, Bool.not_true, Bool.not_false, beq_self_eq_true, if_true, if_false, ite_true, ite_false, Bool.false_eq_true, reduceIte, reduceCtorEq, lenL_0, lenL_1, lenL_2, lenL_3, lenL_4, lenL_5, lenL_6, lenL_7, lenL_8, lenL_9, lenL_10, lenL_11, lenL_12]) rfl (move_list_run (wd := wd) h r)
      show Run m_is_move [.sh (gmD n css r), .sh (.tuple [a, b])] wd (.sh (.bool (intIn a 0 8 && intIn b 0 8 && decide (∃ q ∈ mvL n r 0 css, (q.1 : Int) = intOf a ∧ (q.2 : Int) = intOf b)))) wd
      refine Run.ret (sl := [.sh (gmD n css r), .sh (.tuple [a, b]), .no]) ?_
      show f_is_move ⟨[.sh (gmD n css r), .sh (.tuple [a, b]), .no], wd⟩ = _
      unfold f_is_move
      cases hi : (intIn a 0 8 && intIn b 0 8)
      · simp only [cIf_t, bind_ok, bind_ex, bind_st, get_mk, set_mk, sSeq, sEx, sRet, sIf, sSet, sPass, sEx_, sBk, sAsg, sPar2, sPar3, thenS, dv, toD, eC, eN, eMv, eP, eBin, tst, eChain, tAndM, tOrM, tNotM, eAnd, eOr, eNot, eIf, toA, aNil, aCons, asDs, dvs, eTup, eLst, eCall, eIx, eIxN, itemE, eSl, pNo, pSo, cutD, gLen, eLenN, lenD, gList, gTuple, gN, gT, setAll, eMt, tyD, eIsi, gAdd, gSub, gDiv, gMod, gMul, gPow, gLt, gLe, gGt, gGe, gStr, gMin, gIn, gNotIn, gIs, gIsNot, isD, eLenSc, eIxSc, eScNil, eAppTn, sTown, tYesM, noEx_ok, itemG, stepS, iAll, itemsOf, iR1, iR2, wipeE, restE, keepE, sAug, gIadd, gImul, eApp, eExt, eNeg, List.getD_cons_zero, List.getD_cons_succ, List.set_cons_zero, List.set_cons_succ, List.getElem?_cons_zero, List.getElem?_cons_succ, Option.map_some, Option.map_none, Bool.not_true, Bool.not_false, beq_self_eq_true, if_true, if_false, ite_true, ite_false, Bool.false_eq_true, reduceIte, reduceCtorEq, lenL_0, lenL_1, lenL_2, lenL_3, lenL_4, lenL_5, lenL_6, lenL_7, lenL_8, lenL_9, lenL_10, lenL_11, lenL_12, isT_int_none, isT_int_bool, isT_int_int, isT_int_str, isT_int_list, isT_int_tuple, isT_bool_none, isT_bool_bool, isT_bool_int, isT_bool_str, isT_bool_list, isT_bool_tuple, isT_str_none, isT_str_bool, isT_str_int, isT_str_str, isT_str_list, isT_str_tuple, isT_tuple_none, isT_tuple_bool, isT_tuple_int, isT_tuple_str, isT_tuple_list, isT_tuple_tuple, isT_list_none, isT_list_bool, isT_list_int, isT_list_str, isT_list_list, isT_list_tuple, gNe_int, h3, hlc, gAll_map, hal, hi, Bool.false_and]
      · rw [Bool.and_eq_true] at hi
        cases a with
        | int a =>
          cases b with
          | int b => 
            have hi' : (intIn (.int a) 0 8 && intIn (.int b) 0 8) = true := by rw [hi.1, hi.2]; rfl
            have hin : gInB (.tuple [.int a, .int b]) (.list (mvDs (mvL n r 0 css))) = some (decide (∃ q ∈ mvL n r 0 css, (q.1 : Int) = intOf (.int a) ∧ (q.2 : Int) = intOf (.int b))) := inB_mvs a b _
            simp only [cIf_t, bind_ok, bind_ex, bind_st, get_mk, set_mk, sSeq, sEx, sRet, sIf, sSet, sPass, sEx_, sBk, sAsg, sPar2, sPar3, thenS, dv, toD, eC, eN, eMv, eP, eBin, tst, eChain, tAndM, tOrM, tNotM, eAnd, eOr, eNot, eIf, toA, aNil, aCons, asDs, dvs, eTup, eLst, eCall, eIx, eIxN, itemE, eSl, pNo, pSo, cutD, gLen, eLenN, lenD, gList, gTuple, gN, gT, setAll, eMt, tyD, eIsi, gAdd, gSub, gDiv, gMod, gMul, gPow, gLt, gLe, gGt, gGe, gStr, gMin, gIn, gNotIn, gIs, gIsNot, isD, eLenSc, eIxSc, eScNil, eAppTn, sTown, tYesM, noEx_ok, itemG, stepS, iAll, itemsOf, iR1, iR2, wipeE, restE, keepE, sAug, gIadd, gImul, eApp, eExt, eNeg, List.getD_cons_zero, List.getD_cons_succ, List.set_cons_zero, List.set_cons_succ, List.getElem?_cons_zero, List.getElem?_cons_succ, Option.map_some, Option.map_none, Bool.not_true, Bool.not_false, beq_self_eq_true, if_true, if_false, ite_true, ite_false, Bool.false_eq_true, reduceIte, reduceCtorEq, lenL_0, lenL_1, lenL_2, lenL_3, lenL_4, lenL_5, lenL_6, lenL_7, lenL_8, lenL_9, lenL_10, lenL_11, lenL_12, isT_int_none, isT_int_bool, isT_int_int, isT_int_str, isT_int_list, isT_int_tuple, isT_bool_none, isT_bool_bool, isT_bool_int, isT_bool_str, isT_bool_list, isT_bool_tuple, isT_str_none, isT_str_bool, isT_str_int, isT_str_str, isT_str_list, isT_str_tuple, isT_tuple_none, isT_tuple_bool, isT_tuple_int, isT_tuple_str, isT_tuple_list, isT_tuple_tuple, isT_list_none, isT_list_bool, isT_list_int, isT_list_str, isT_list_list, isT_list_tuple, gNe_int, h3, hlc, gAll_map, hal, hi', hml, hin, Bool.true_and]
          | _ => exact absurd hi.2 Bool.false_ne_true
        | _ => exact absurd hi.1 Bool.false_ne_true
end CO

/-! Mp: play. -/
namespace CO
open PySem PySem.Spec PyProof.Rows L2

theorem row_b {n : Nat} {cs : List Nat} (h : RowL n cs) : rowB n (.str (tx cs)) = true := by
  show (decide ((tx cs).length = n) && cs.all fun c => decide (c ∈ [104, 116])) = true
  rw [tx_len, decide_eq_true h.1, Bool.true_and, List.all_eq_true]
  intro c hc
  exact decide_eq_true (by rcases h.2 c hc with e | e <;> simp [e])
theorem row_ok {n : Nat} {cs : List Nat} (h : RowL n cs) (hn : n ≤ 8) : txtOk (.str (tx cs)) = true := by
  have hlim : lim = 100000 := rfl
  show decide ((tx cs).length ≤ lim) = true
  rw [tx_len, h.1]
  exact decide_eq_true (by omega)
theorem play_run {n : Nat} {css : List (List Nat)} {wd : List Ob} (h : Gm n css) (r : Bool) {cs : List Nat} (hr : RowL n cs) {i p : Nat} {c : List Nat} (hi : css[i]? = some c) (hm : moveB n css r (mvD i p) = true) :
    Run m_play [.sh (gmD n css r), .sh (.str (tx cs)), .sh (mvD i p)] wd (.sh (.str (tx (turnL (tpS n p c) 0 cs)))) wd := by
  have h8 := h.n8
  have hg := call_run (n := 1) (ms := aCons (eN 0) aNil) (en := ⟨[.sh (gmD n css r), .sh (.str (tx cs)), .sh (mvD i p)], wd⟩) (sl := [.sh (gmD n css r), .sh (.str (tx cs)), .sh (mvD i p)]) (by simp only [cIf_t, bind_ok, bind_ex, bind_st, get_mk, set_mk, sSeq, sEx, sRet, sIf, sSet, sPass, sEx_, sBk, sAsg, sPar2, sPar3, thenS, dv, toD, eC, eN, eMv, eP, eBin, tst, eChain, tAndM, tOrM, tNotM, eAnd, eOr, eNot, eIf, toA, aNil, aCons, asDs, dvs, eTup, eLst, eCall, eIx, eIxN, itemE, eSl, pNo, pSo, cutD, gLen, eLenN, lenD, gList, gTuple, gN, gT, setAll, eMt, tyD, eIsi, gAdd, gSub, gDiv, gMod, gMul, gPow, gLt, gLe, gGt, gGe, gStr, gMin, gIn, gNotIn, gIs, gIsNot, isD, eLenSc, eIxSc, eScNil, eAppTn, sTown, tYesM, noEx_ok, itemG, stepS, iAll, itemsOf, iR1, iR2, wipeE, restE, keepE, sAug, gIadd, gImul, eApp, eExt, eNeg, List.getD_cons_zero, List.getD_cons_succ, List.set_cons_zero, List.set_cons_succ, List.getElem?_cons_zero, List.getElem?_cons_succ, Option.map_some, Option.map_none, Bool.not_true, Bool.not_false, beq_self_eq_true, if_true, if_false, ite_true, ite_false, Bool.false_eq_true, reduceIte, reduceCtorEq, lenL_0, lenL_1, lenL_2, lenL_3, lenL_4, lenL_5, lenL_6, lenL_7, lenL_8, lenL_9, lenL_10, lenL_11, lenL_12]) rfl (check_game_run (wd := wd) h r)
  have hc := call_run (n := 2) (ms := aCons (eN 0) (aCons (eN 1) aNil)) (en := ⟨[.sh (gmD n css r), .sh (.str (tx cs)), .sh (mvD i p)], wd⟩) (sl := [.sh (gmD n css r), .sh (.str (tx cs)), .sh (mvD i p)]) (by simp only [cIf_t, bind_ok, bind_ex, bind_st, get_mk, set_mk, sSeq, sEx, sRet, sIf, sSet, sPass, sEx_, sBk, sAsg, sPar2, sPar3, thenS, dv, toD, eC, eN, eMv, eP, eBin, tst, eChain, tAndM, tOrM, tNotM, eAnd, eOr, eNot, eIf, toA, aNil, aCons, asDs, dvs, eTup, eLst, eCall, eIx, eIxN, itemE, eSl, pNo, pSo, cutD, gLen, eLenN, lenD, gList, gTuple, gN, gT, setAll, eMt, tyD, eIsi, gAdd, gSub, gDiv, gMod, gMul, gPow, gLt, gLe, gGt, gGe, gStr, gMin, gIn, gNotIn, gIs, gIsNot, isD, eLenSc, eIxSc, eScNil, eAppTn, sTown, tYesM, noEx_ok, itemG, stepS, iAll, itemsOf, iR1, iR2, wipeE, restE, keepE, sAug, gIadd, gImul, eApp, eExt, eNeg, List.getD_cons_zero, List.getD_cons_succ, List.set_cons_zero, List.set_cons_succ, List.getElem?_cons_zero, List.getElem?_cons_succ, Option.map_some, Option.map_none, Bool.not_true, Bool.not_false, beq_self_eq_true, if_true, if_false, ite_true, ite_false, Bool.false_eq_true, reduceIte, reduceCtorEq, lenL_0, lenL_1, lenL_2, lenL_3, lenL_4, lenL_5, lenL_6, lenL_7, lenL_8, lenL_9, lenL_10, lenL_11, lenL_12]) rfl (check_row_run (wd := wd) (css := css) (r := r) (row_ok hr h8) (row_b hr))
  have hv := call_run (n := 2) (ms := aCons (eN 0) (aCons (eN 2) aNil)) (en := ⟨[.sh (gmD n css r), .sh (.str (tx cs)), .sh (mvD i p)], wd⟩) (sl := [.sh (gmD n css r), .sh (.str (tx cs)), .sh (mvD i p)]) (by simp only [cIf_t, bind_ok, bind_ex, bind_st, get_mk, set_mk, sSeq, sEx, sRet, sIf, sSet, sPass, sEx_, sBk, sAsg, sPar2, sPar3, thenS, dv, toD, eC, eN, eMv, eP, eBin, tst, eChain, tAndM, tOrM, tNotM, eAnd, eOr, eNot, eIf, toA, aNil, aCons, asDs, dvs, eTup, eLst, eCall, eIx, eIxN, itemE, eSl, pNo, pSo, cutD, gLen, eLenN, lenD, gList, gTuple, gN, gT, setAll, eMt, tyD, eIsi, gAdd, gSub, gDiv, gMod, gMul, gPow, gLt, gLe, gGt, gGe, gStr, gMin, gIn, gNotIn, gIs, gIsNot, isD, eLenSc, eIxSc, eScNil, eAppTn, sTown, tYesM, noEx_ok, itemG, stepS, iAll, itemsOf, iR1, iR2, wipeE, restE, keepE, sAug, gIadd, gImul, eApp, eExt, eNeg, List.getD_cons_zero, List.getD_cons_succ, List.set_cons_zero, List.set_cons_succ, List.getElem?_cons_zero, List.getElem?_cons_succ, Option.map_some, Option.map_none, Bool.not_true, Bool.not_false, beq_self_eq_true, if_true, if_false, ite_true, ite_false, Bool.false_eq_true, reduceIte, reduceCtorEq, lenL_0, lenL_1, lenL_2, lenL_3, lenL_4, lenL_5, lenL_6, lenL_7, lenL_8, lenL_9, lenL_10, lenL_11, lenL_12]) rfl (is_move_run (wd := wd) h r (d := mvD i p))
  rw [hm] at hv
  have ht := call_run (n := 2) (ms := aCons (eN 0) (aCons (eN 2) aNil)) (en := ⟨[.sh (gmD n css r), .sh (.str (tx cs)), .sh (mvD i p)], wd⟩) (sl := [.sh (gmD n css r), .sh (.str (tx cs)), .sh (mvD i p)]) (by simp only [cIf_t, bind_ok, bind_ex, bind_st, get_mk, set_mk, sSeq, sEx, sRet, sIf, sSet, sPass, sEx_, sBk, sAsg, sPar2, sPar3, thenS, dv, toD, eC, eN, eMv, eP, eBin, tst, eChain, tAndM, tOrM, tNotM, eAnd, eOr, eNot, eIf, toA, aNil, aCons, asDs, dvs, eTup, eLst, eCall, eIx, eIxN, itemE, eSl, pNo, pSo, cutD, gLen, eLenN, lenD, gList, gTuple, gN, gT, setAll, eMt, tyD, eIsi, gAdd, gSub, gDiv, gMod, gMul, gPow, gLt, gLe, gGt, gGe, gStr, gMin, gIn, gNotIn, gIs, gIsNot, isD, eLenSc, eIxSc, eScNil, eAppTn, sTown, tYesM, noEx_ok, itemG, stepS, iAll, itemsOf, iR1, iR2, wipeE, restE, keepE, sAug, gIadd, gImul, eApp, eExt, eNeg, List.getD_cons_zero, List.getD_cons_succ, List.set_cons_zero, List.set_cons_succ, List.getElem?_cons_zero, List.getElem?_cons_succ, Option.map_some, Option.map_none, Bool.not_true, Bool.not_false, beq_self_eq_true, if_true, if_false, ite_true, ite_false, Bool.false_eq_true, reduceIte, reduceCtorEq, lenL_0, lenL_1, lenL_2, lenL_3, lenL_4, lenL_5, lenL_6, lenL_7, lenL_8, lenL_9, lenL_10, lenL_11, lenL_12]) rfl (turned_places_run (wd := wd) h r (p := p) hi)
  have hu := call_run (n := 2) (ms := aCons (eN 1) (aCons (eCallF 2 m_turned_places (aCons (eN 0) (aCons (eN 2) aNil))) aNil)) (en := ⟨[.sh (gmD n css r), .sh (.str (tx cs)), .sh (mvD i p)], wd⟩) (sl := [.sh (gmD n css r), .sh (.str (tx cs)), .sh (mvD i p)]) (by simp only [cIf_t, bind_ok, bind_ex, bind_st, get_mk, set_mk, sSeq, sEx, sRet, sIf, sSet, sPass, sEx_, sBk, sAsg, sPar2, sPar3, thenS, dv, toD, eC, eN, eMv, eP, eBin, tst, eChain, tAndM, tOrM, tNotM, eAnd, eOr, eNot, eIf, toA, aNil, aCons, asDs, dvs, eTup, eLst, eCall, eIx, eIxN, itemE, eSl, pNo, pSo, cutD, gLen, eLenN, lenD, gList, gTuple, gN, gT, setAll, eMt, tyD, eIsi, gAdd, gSub, gDiv, gMod, gMul, gPow, gLt, gLe, gGt, gGe, gStr, gMin, gIn, gNotIn, gIs, gIsNot, isD, eLenSc, eIxSc, eScNil, eAppTn, sTown, tYesM, noEx_ok, itemG, stepS, iAll, itemsOf, iR1, iR2, wipeE, restE, keepE, sAug, gIadd, gImul, eApp, eExt, eNeg, List.getD_cons_zero, List.getD_cons_succ, List.set_cons_zero, List.set_cons_succ, List.getElem?_cons_zero, List.getElem?_cons_succ, Option.map_some, Option.map_none, Bool.not_true, Bool.not_false, beq_self_eq_true, if_true, if_false, ite_true, ite_false, Bool.false_eq_true, reduceIte, reduceCtorEq, lenL_0, lenL_1, lenL_2, lenL_3, lenL_4, lenL_5, lenL_6, lenL_7, lenL_8, lenL_9, lenL_10, lenL_11, lenL_12, ht]) rfl (turned_run (wd := wd) (S := tpS n p c) (by rw [hr.1]; omega) hr.2)
  refine Run.ret (sl := [.sh (gmD n css r), .sh (.str (tx cs)), .sh (mvD i p)]) ?_
  show f_play ⟨[.sh (gmD n css r), .sh (.str (tx cs)), .sh (mvD i p)], wd⟩ = _
  unfold f_play
  simp only [cIf_t, bind_ok, bind_ex, bind_st, get_mk, set_mk, sSeq, sEx, sRet, sIf, sSet, sPass, sEx_, sBk, sAsg, sPar2, sPar3, thenS, dv, toD, eC, eN, eMv, eP, eBin, tst, eChain, tAndM, tOrM, tNotM, eAnd, eOr, eNot, eIf, toA, aNil, aCons, asDs, dvs, eTup, eLst, eCall, eIx, eIxN, itemE, eSl, pNo, pSo, cutD, gLen, eLenN, lenD, gList, gTuple, gN, gT, setAll, eMt, tyD, eIsi, gAdd, gSub, gDiv, gMod, gMul, gPow, gLt, gLe, gGt, gGe, gStr, gMin, gIn, gNotIn, gIs, gIsNot, isD, eLenSc, eIxSc, eScNil, eAppTn, sTown, tYesM, noEx_ok, itemG, stepS, iAll, itemsOf, iR1, iR2, wipeE, restE, keepE, sAug, gIadd, gImul, eApp, eExt, eNeg, List.getD_cons_zero, List.getD_cons_succ, List.set_cons_zero, List.set_cons_succ, List.getElem?_cons_zero, List.getElem?_cons_succ, Option.map_some, Option.map_none, Bool.not_true, Bool.not_false, beq_self_eq_true, if_true, if_false, ite_true, ite_false, Bool.false_eq_true, reduceIte, reduceCtorEq, lenL_0, lenL_1, lenL_2, lenL_3, lenL_4, lenL_5, lenL_6, lenL_7, lenL_8, lenL_9, lenL_10, lenL_11, lenL_12, hg, hc, hv, hu]
end CO

/-! Mq: the law's own flips; is_row; ask. -/
namespace CO
open PySem PySem.Spec PyProof.Rows L2

end CO

/-! Pa: rows as masks; what calls give. -/
namespace CO
open PySem PySem.Spec PyProof.Rows L2

/-! ### masks by their bits -/
def mk : Nat → (Nat → Bool) → Nat
  | 0, _ => 0
  | n + 1, p => mk n p + (if p n = true then 2 ^ n else 0)
theorem mk_lt (p : Nat → Bool) : ∀ n, mk n p < 2 ^ n
  | 0 => by simp [mk]
  | n + 1 => by
    have := mk_lt p n
    unfold mk
    rw [Nat.pow_succ]
    split <;> omega
theorem mk_bit (p : Nat → Bool) (i : Nat) : ∀ n, (mk n p).testBit i = (decide (i < n) && p i)
  | 0 => by simp [mk]
  | n + 1 => by
    have hl := mk_lt p n
    have ih := mk_bit p i n
    unfold mk
    by_cases hp : p n = true
    · rw [if_pos hp, Nat.add_comm, ← Nat.one_mul (2 ^ n), Nat.mul_comm 1 (2 ^ n)]
      rw [Nat.testBit_two_pow_mul_add 1 hl]
      by_cases h1 : i < n
      · rw [if_pos h1, ih]
        have : i < n + 1 := by omega
        simp [h1, this]
      · rw [if_neg h1]
        by_cases h2 : i = n
        · subst h2
          simp [hp]
        · have h3 : ¬ i < n + 1 := by omega
          have h4 : i - n ≠ 0 := by omega
          have : Nat.testBit 1 (i - n) = false := by
            cases hb : Nat.testBit 1 (i - n)
            · rfl
            · exact absurd (Nat.testBit_one_eq_true_iff_self_eq_zero.mp hb) h4
          rw [this]
          simp [h3]
    · rw [if_neg hp, Nat.add_zero, ih]
      by_cases h2 : i = n
      · subst h2
        simp [hp]
      · have : (i < n) ↔ (i < n + 1) := by omega
        simp [this]
theorem mk_of {n x : Nat} (h : x < 2 ^ n) : mk n x.testBit = x := by
  apply Nat.eq_of_testBit_eq
  intro i
  rw [mk_bit]
  by_cases hi : i < n
  · simp [hi]
  · have h2 : 2 ^ n ≤ 2 ^ i := Nat.pow_le_pow_right (by decide) (by omega)
    rw [decide_eq_false hi, Nat.testBit_lt_two_pow (Nat.lt_of_lt_of_le h h2)]
    rfl
theorem mk_congr {n : Nat} {p q : Nat → Bool} (h : ∀ i, i < n → p i = q i) : mk n p = mk n q := by
  apply Nat.eq_of_testBit_eq
  intro i
  rw [mk_bit, mk_bit]
  by_cases hi : i < n
  · rw [h i hi]
  · simp [hi]
theorem eq_bits {n x y : Nat} (hx : x < 2 ^ n) (hy : y < 2 ^ n) (h : ∀ i, i < n → x.testBit i = y.testBit i) : x = y := by
  rw [← mk_of hx, ← mk_of hy]
  exact mk_congr h

/-! ### rows -/
def rwC (n x : Nat) : List Nat := (List.range n).map fun i => if x.testBit i = true then 116 else 104
def rwD (n x : Nat) : D := .str (tx (rwC n x))
theorem rwC_len (n x : Nat) : (rwC n x).length = n := by unfold rwC; rw [List.length_map, List.length_range]
theorem rwC_get {n x i : Nat} (h : i < n) : (rwC n x)[i]? = some (if x.testBit i = true then 116 else 104) := by
  unfold rwC
  rw [List.getElem?_map, List.getElem?_range h]
  rfl
theorem rwC_ht {n x c : Nat} (h : c ∈ rwC n x) : c = 104 ∨ c = 116 := by
  obtain ⟨i, _, rfl⟩ := List.mem_map.mp h
  split
  · exact .inr rfl
  · exact .inl rfl
theorem rwC_row (n x : Nat) : RowL n (rwC n x) := ⟨rwC_len n x, fun c h => rwC_ht h⟩
theorem rwC_inj {n x y : Nat} (hx : x < 2 ^ n) (hy : y < 2 ^ n) (h : rwC n x = rwC n y) : x = y := by
  refine eq_bits hx hy fun i hi => ?_
  have := congrArg (fun l => l[i]?) h
  simp only [rwC_get hi] at this
  cases h1 : x.testBit i <;> cases h2 : y.testBit i <;> simp [h1, h2] at this ⊢
theorem row_of {n : Nat} {cs : List Nat} (h : RowL n cs) : ∃ x, x < 2 ^ n ∧ cs = rwC n x := by
  refine ⟨mk n fun i => decide (cs[i]? = some 116), mk_lt _ _, ?_⟩
  apply List.ext_getElem?
  intro i
  by_cases hi : i < n
  · rw [rwC_get hi, mk_bit]
    have hl : i < cs.length := by rw [h.1]; exact hi
    rw [List.getElem?_eq_getElem hl]
    rcases h.2 _ (List.getElem_mem hl) with e | e <;> simp [e, hi]
  · rw [List.getElem?_eq_none (by rw [h.1]; omega), List.getElem?_eq_none (by rw [rwC_len]; omega)]
/-- places as a mask -/
def smk (n : Nat) (S : List Int) : Nat := mk n fun i => decide ((i : Int) ∈ S)
theorem turnL_get (S : List Int) : ∀ (k : Nat) (cs : List Nat) (i : Nat), (turnL S k cs)[i]? = (cs[i]?).map (turnC S (k + i))
  | _, [], i => by simp [turnL]
  | k, c :: cs, 0 => by simp [turnL]
  | k, c :: cs, i + 1 => by
    show (turnC S k c :: turnL S (k + 1) cs)[i + 1]? = _
    rw [List.getElem?_cons_succ, List.getElem?_cons_succ, turnL_get S (k + 1) cs i, show k + 1 + i = k + (i + 1) by omega]
theorem turn_mask (S : List Int) (n x : Nat) : turnL S 0 (rwC n x) = rwC n (x ^^^ smk n S) := by
  apply List.ext_getElem?
  intro i
  rw [turnL_get]
  by_cases hi : i < n
  · rw [rwC_get hi, rwC_get hi]
    show some (turnC S (0 + i) _) = _
    unfold turnC flipC smk
    rw [Nat.testBit_xor, mk_bit, Nat.zero_add]
    by_cases hS : (i : Int) ∈ S
    · cases x.testBit i <;> simp [hS, hi]
    · cases x.testBit i <;> simp [hS, hi]
  · rw [List.getElem?_eq_none (by rw [rwC_len]; omega), List.getElem?_eq_none (by rw [rwC_len]; omega)]
    rfl
theorem smk_lt (n : Nat) (S : List Int) : smk n S < 2 ^ n := mk_lt _ _
theorem smk_sort (n : Nat) (S : List Int) : smk n (sortI S) = smk n S := by
  refine mk_congr fun i _ => decide_eq_decide.mpr ?_
  unfold sortI
  exact (List.mergeSort_perm S leI).mem_iff

/-! ### what a move turns -/
/-- places of a shape put at p -/
def effP (n p : Nat) (c : List Nat) : Nat := smk n (tpL n p 0 c)
theorem effP_lt (n p : Nat) (c : List Nat) : effP n p c < 2 ^ n := smk_lt _ _
def effQ (n : Nat) (css : List (List Nat)) (q : Nat × Nat) : Nat := effP n q.2 (css.getD q.1 [])
/-- the effects of all moves -/
def effs (n : Nat) (css : List (List Nat)) (r : Bool) : List Nat := (mvL n r 0 css).map (effQ n css)
theorem effs_lt {n : Nat} {css : List (List Nat)} {r : Bool} : ∀ e ∈ effs n css r, e < 2 ^ n := by
  intro e h
  obtain ⟨q, _, rfl⟩ := List.mem_map.mp h
  exact effP_lt _ _ _
theorem mvL_fst {n : Nat} {r : Bool} : ∀ (css : List (List Nat)) (i : Nat) (q : Nat × Nat), q ∈ mvL n r i css → i ≤ q.1 ∧ q.1 < i + css.length ∧ q.2 < placesN n r (css.getD (q.1 - i) [])
  | [], i, q, h => by cases h
  | c :: css, i, q, h => by
    rcases List.mem_append.mp (show q ∈ (List.range (placesN n r c)).map (fun p => (i, p)) ++ mvL n r (i + 1) css from h) with h | h
    · obtain ⟨p, hp, rfl⟩ := List.mem_map.mp h
      refine ⟨Nat.le_refl _, by simp, ?_⟩
      simp only [Nat.sub_self, List.getD_cons_zero]
      exact List.mem_range.mp hp
    · obtain ⟨h1, h2, h3⟩ := mvL_fst css (i + 1) q h
      refine ⟨by omega, by simp; omega, ?_⟩
      have : q.1 - i = (q.1 - (i + 1)) + 1 := by omega
      rw [this, List.getD_cons_succ]
      exact h3
theorem mvL_len {n : Nat} {r : Bool} : ∀ (css : List (List Nat)) (i : Nat), (mvL n r i css).length ≤ (n + 1) * css.length
  | [], i => by simp [mvL]
  | c :: css, i => by
    have := mvL_len (n := n) (r := r) css (i + 1)
    have hp : placesN n r c ≤ n + 1 := by unfold placesN; split <;> omega
    rw [show mvL n r i (c :: css) = (List.range (placesN n r c)).map (fun p => (i, p)) ++ mvL n r (i + 1) css from rfl, List.length_append, List.length_map, List.length_range, List.length_cons, Nat.mul_succ]
    omega

/-! ### the calls -/
section
variable {n : Nat} {css : List (List Nat)} {r : Bool} {wd : List Ob} {x : Nat}
theorem c_check_game (h : Gm n css) : call m_check_game [.sh (gmD n css r)] wd = .ok (.sh .none) wd := (check_game_run h r).call
theorem c_check_row (hn : n ≤ 8) : call m_check_row [.sh (gmD n css r), .sh (rwD n x)] wd = .ok (.sh .none) wd := (check_row_run (row_ok (rwC_row n x) hn) (row_b (rwC_row n x))).call
theorem c_check_rows (h : Gm n css) {y : Nat} : call m_check_rows [.sh (gmD n css r), .sh (rwD n x), .sh (rwD n y)] wd = .ok (.sh .none) wd := by
  have h8 := h.n8
  unfold m_check_rows
  rw [call_fin]
  unfold f_check_rows
  simp only [cIf_t, bind_ok, bind_ex, bind_st, get_mk, set_mk, sSeq, sEx, sRet, sIf, sSet, sPass, sEx_, sBk, sAsg, sPar2, sPar3, thenS, dv, toD, eC, eN, eMv, eP, eBin, tst, eChain, tAndM, tOrM, tNotM, eAnd, eOr, eNot, eIf, toA, aNil, aCons, asDs, dvs, eTup, eLst, eCall, eIx, eIxN, itemE, eSl, pNo, pSo, cutD, gLen, eLenN, lenD, gList, gTuple, gN, gT, setAll, eMt, tyD, eIsi, gAdd, gSub, gDiv, gMod, gMul, gPow, gLt, gLe, gGt, gGe, gStr, gMin, gIn, gNotIn, gIs, gIsNot, isD, eLenSc, eIxSc, eScNil, eAppTn, sTown, tYesM, noEx_ok, itemG, stepS, iAll, itemsOf, iR1, iR2, wipeE, restE, keepE, sAug, gIadd, gImul, eApp, eExt, eNeg, List.getD_cons_zero, List.getD_cons_succ, List.set_cons_zero, List.set_cons_succ, List.getElem?_cons_zero, List.getElem?_cons_succ, Option.map_some, Option.map_none, Bool.not_true, Bool.not_false, beq_self_eq_true, if_true, if_false, ite_true, ite_false, Bool.false_eq_true, reduceIte, reduceCtorEq, lenL_0, lenL_1, lenL_2, lenL_3, lenL_4, lenL_5, lenL_6, lenL_7, lenL_8, lenL_9, lenL_10, lenL_11, lenL_12, call_fin, eCallF_eq, put_ok, put_ex, finC_nx, finC_rt, finC_ex, List.length_cons, List.length_nil, Nat.reduceAdd, Nat.reduceSub, List.replicate_succ, List.replicate_zero, List.cons_append, List.nil_append, item2, Outc, wipeE, keepE, eDic0, eDic1, eDin, eDnotin, eDget, eDgetD, eDgetR, eDgetG, sDput, dkOf, eDlen, eSortDic, eSortDicR, eDvals, eLock, iFz, isFz, gSum, gMax, gCountS, eRev, and_self, and_true, true_and, decide_true, decide_false, Bool.and_self, Bool.and_true, Bool.true_and, litL_0, litL_1, litL_2, litL_3, litL_4, litL_5, litL_6, litL_7, litL_8, litL_9, litL_10, litL_11, litL_12, litL_13, litL_14, litL_15, litL_16, litL_17, litL_18, litL_19, litL_20, litL_21, litL_22, litL_23, litL_24, litL_25, litL_26, litL_27, litL_28, litL_29, litL_30, litL_31, litL_32, c_check_game h, c_check_row h8]
theorem c_move_list (h : Gm n css) : call m_move_list [.sh (gmD n css r)] wd = .ok (.ow (mvDs (mvL n r 0 css))) wd := (move_list_run h r).call
/-- the places of a move, ascending -/
def tpQ (n : Nat) (css : List (List Nat)) (q : Nat × Nat) : List Int := tpS n q.2 (css.getD q.1 [])
theorem tpQ_mask (q : Nat × Nat) : smk n (tpQ n css q) = effQ n css q := smk_sort _ _
theorem c_turned_places (h : Gm n css) {q : Nat × Nat} (hq : q.1 < css.length) : call m_turned_places [.sh (gmD n css r), .sh (mvD q.1 q.2)] wd = .ok (.ow ((tpQ n css q).map .int)) wd := by
  have hi : css[q.1]? = some (css.getD q.1 []) := by
    rw [List.getD_eq_getElem?_getD, List.getElem?_eq_getElem hq]; rfl
  exact (turned_places_run h r hi).call
theorem c_turned (hn : n ≤ 8) (S : List Int) : call m_turned [.sh (rwD n x), .sh (.list (S.map .int))] wd = .ok (.sh (rwD n (x ^^^ smk n S))) wd := by
  have := (turned_run (S := S) (wd := wd) (cs := rwC n x) (by rw [rwC_len]; omega) (fun c hc => rwC_ht hc)).call
  rw [turn_mask] at this
  exact this
theorem c_play (h : Gm n css) {q : Nat × Nat} (hq : q ∈ mvL n r 0 css) : call m_play [.sh (gmD n css r), .sh (rwD n x), .sh (mvD q.1 q.2)] wd = .ok (.sh (rwD n (x ^^^ effQ n css q))) wd := by
  obtain ⟨_, h2, _⟩ := mvL_fst css 0 q hq
  rw [Nat.zero_add] at h2
  have hi : css[q.1]? = some (css.getD q.1 []) := by
    rw [List.getD_eq_getElem?_getD, List.getElem?_eq_getElem h2]; rfl
  have hm : moveB n css r (mvD q.1 q.2) = true := by
    obtain ⟨_, _, h3⟩ := mvL_fst css 0 q hq
    have h8 := h.n8
    have hc3 := h.c3
    have hp : placesN n r (css.getD (q.1 - 0) []) ≤ n + 1 := by unfold placesN; split <;> omega
    have e1 : intIn (.int q.1) 0 8 = true := by
      show (decide ((0 : Int) ≤ q.1) && decide ((q.1 : Int) ≤ 8)) = true
      rw [decide_eq_true (by omega), decide_eq_true (by omega)]; rfl
    have e2 : intIn (.int q.2) 0 8 = true := by
      show (decide ((0 : Int) ≤ q.2) && decide ((q.2 : Int) ≤ 8)) = true
      rw [decide_eq_true (by omega), decide_eq_true (by omega)]; rfl
    show (intIn (.int q.1) 0 8 && intIn (.int q.2) 0 8 && decide (∃ z ∈ mvL n r 0 css, (z.1 : Int) = intOf (.int q.1) ∧ (z.2 : Int) = intOf (.int q.2))) = true
    rw [e1, e2, decide_eq_true ⟨q, hq, rfl, rfl⟩]; rfl
  have := (play_run (wd := wd) h r (rwC_row n x) hi hm).call
  rw [turn_mask, show smk n (tpS n q.2 (css.getD q.1 [])) = effQ n css q from tpQ_mask q] at this
  exact this
/-! ### draws -/
variable {ns : List Int} {k : Nat}
theorem c_draw (hl : ns.length ≤ 63) {many : Nat} (hm : 0 < many) (hk : k < 50000) : ∃ v : Nat, v < many ∧ ∃ k', k' ≤ k + 1 ∧ call m__law_draw [.sc ns, .wr 0, .sh (.int many)] [.tn k] = .ok (.sh (.int v)) [.tn k'] := by
  obtain ⟨v, hv, wd', ⟨j, hj, rfl⟩, hr⟩ := draw (wd := [.tn k]) (k := k) hl hm ⟨k, Nat.le_refl _, rfl⟩ (Nat.lt_trans hk (by decide))
  exact ⟨v, hv, j, hj, hr.call⟩
theorem c_pick (hl : ns.length ≤ 63) {ds : List D} (hne : ds ≠ []) (hk : k < 50000) : ∃ d, d ∈ ds ∧ ∃ k', k' ≤ k + 1 ∧ call m__law_pick [.sc ns, .wr 0, .sh (.list ds)] [.tn k] = .ok (.sh d) [.tn k'] := by
  obtain ⟨v, hv, wd', ⟨j, hj, rfl⟩, hr⟩ := pick (wd := [.tn k]) (k := k) hl hne ⟨k, Nat.le_refl _, rfl⟩ (Nat.lt_trans hk (by decide))
  exact ⟨v, hv, j, hj, hr.call⟩
theorem c_some_shape (hl : ns.length ≤ 63) {most : Nat} (hm : 1 ≤ most ∧ most ≤ 8) (hk : k < 50000) : ∃ cs, shpL cs = true ∧ cs.length ≤ most ∧ ∃ k', k' ≤ k + 8 ∧ call m__law_some_shape [.sc ns, .wr 0, .sh (.int most)] [.tn k] = .ok (.sh (.str (tx cs))) [.tn k'] := by
  obtain ⟨cs, h1, h2, wd', ⟨j, hj, rfl⟩, hr⟩ := some_shape (wd := [.tn k]) (k := k) hl hm ⟨k, Nat.le_refl _, rfl⟩ (Nat.lt_of_lt_of_le (Nat.add_lt_add_right hk 8) (by decide))
  exact ⟨cs, h1, h2, j, hj, hr.call⟩
theorem c_some_coins (hl : ns.length ≤ 63) (hn : n ≤ 8) (hk : k < 50000) : ∃ x, x < 2 ^ n ∧ ∃ k', k' ≤ k + 8 ∧ call m__law_some_coins [.sc ns, .wr 0, .sh (gmD n css r)] [.tn k] = .ok (.sh (rwD n x)) [.tn k'] := by
  obtain ⟨cs, h1, wd', ⟨j, hj, rfl⟩, hr⟩ := some_coins (wd := [.tn k]) (k := k) (css := css) (r := r) hl hn ⟨k, Nat.le_refl _, rfl⟩ (Nat.lt_of_lt_of_le (Nat.add_lt_add_right hk 8) (by decide))
  obtain ⟨x, hx, rfl⟩ := row_of h1
  exact ⟨x, hx, j, hj, hr.call⟩
end
end CO

/-! Pb: the law's own moves. -/
namespace CO
open PySem PySem.Spec PyProof.Rows L2

/-- a loop over things told by α, the state told by S, what else it leaves not told -/
theorem forE {α S : Type} {g : Ent → En → R Unit} {b : En → R Fl} (f : α → D) (E : Nat → S → En → Prop) (step : S → α → S) : ∀ (l : List α) (k : Nat) (s : S) (e : En), E k s e → (∀ j a s e, a ∈ l → k ≤ j → j < k + l.length → E j s e → ∃ e', stepS g b (f a) e = .ok .nx e' ∧ E (j + 1) (step s a) e') →
    ∃ e', forGo g b (l.map f) e = .ok .nx e' ∧ E (k + l.length) (l.foldl step s) e'
  | [], k, s, e, h, _ => ⟨e, rfl, h⟩
  | a :: l, k, s, e, h, st => by
    obtain ⟨e1, h1, h2⟩ := st k a s e List.mem_cons_self (Nat.le_refl _) (by simp) h
    obtain ⟨e2, h3, h4⟩ := forE f E step l (k + 1) (step s a) e1 h2 fun j a' s' e' m q1 q2 => st j a' s' e' (List.mem_cons_of_mem _ m) (by omega) (by simp; omega)
    refine ⟨e2, ?_, ?_⟩
    · rw [List.map_cons, for_cons h1, h3]
    · rw [show k + (a :: l).length = k + 1 + l.length by simp; omega]
      exact h4
def chD (c : Nat) : D := .str ⟨#[c]⟩
theorem strOk1 {c : Nat} (h : c < 1114112) : PyData.strOk ⟨#[c]⟩ = true := strOk_tx (cs := [c]) (by intro z hz; rw [List.mem_singleton.mp hz]; exact h)
theorem ch_eq (a b : Nat) : ((⟨#[a]⟩ : Str) == tx [b]) = (a == b) := by
  show decide ((⟨#[a]⟩ : Str) = tx [b]) = _
  by_cases h : a = b
  · subst h
    rw [decide_eq_true (show (⟨#[a]⟩ : Str) = tx [a] from rfl)]
    simp
  · rw [decide_eq_false (fun e => h (by have := tx_inj (a := [a]) e; simpa using this))]
    simp [h]
end CO

/-! Pc: going on and on: steps_from, the law's spread. -/
namespace CO
open PySem PySem.Spec PyProof.Rows L2
open CM

/-! ### dicts of rows -/
def rkey (n x : Nat) : Key := Sum.inr (tx (rwC n x))
def kvD (n : Nat) (s : List (Nat × Nat)) : List (Key × D) := s.map fun p => (rkey n p.1, .int (p.2 : Nat))
theorem rkey_inj {n x y : Nat} (hx : x < 2 ^ n) (hy : y < 2 ^ n) (h : rkey n x = rkey n y) : x = y := by
  have : tx (rwC n x) = tx (rwC n y) := by injection h
  exact rwC_inj hx hy (tx_inj this)
theorem keyOf_rw (n x : Nat) : keyOf (rwD n x) = some (rkey n x) := rfl
theorem kvD_val {n x : Nat} (hx : x < 2 ^ n) : ∀ {s : List (Nat × Nat)}, (∀ y ∈ ks s, y < 2 ^ n) → valD (kvD n s) (rkey n x) = if x ∈ ks s then some (.int (vl s x : Nat)) else none
  | [], _ => rfl
  | p :: s, h => by
    have ih := kvD_val hx (s := s) fun y m => h y (List.mem_cons_of_mem _ m)
    show (if rkey n p.1 = rkey n x then some (PyData.int (p.2 : Nat)) else valD (kvD n s) (rkey n x)) = if x ∈ p.1 :: ks s then some (.int ((if p.1 = x then p.2 else vl s x : Nat))) else none
    by_cases e : p.1 = x
    · rw [if_pos (by rw [e]), if_pos e, if_pos (by rw [e]; exact List.mem_cons_self)]
    · rw [if_neg (fun z => e (rkey_inj (h p.1 List.mem_cons_self) hx z)), if_neg e, ih]
      have : x ∈ p.1 :: ks s ↔ x ∈ ks s := by
        rw [List.mem_cons]
        exact ⟨fun q => q.resolve_left (fun z => e z.symm), .inr⟩
      simp only [this]
theorem kvD_put {n x v : Nat} {s : List (Nat × Nat)} (hx : x < 2 ^ n) (h : ∀ y ∈ ks s, y < 2 ^ n) (hn : x ∉ ks s) : putD (kvD n s) (rkey n x) (.int (v : Nat)) = kvD n (s ++ [(x, v)]) := by
  unfold putD
  rw [kvD_val hx h, if_neg hn]
  unfold kvD
  rw [List.map_append]
  rfl
theorem kvD_len (n : Nat) (s : List (Nat × Nat)) : (kvD n s).length = s.length := by unfold kvD; rw [List.length_map]
/-! ### lists of rows -/
theorem rw_ok (n x : Nat) : PyData.strOk (tx (rwC n x)) = true := strOk_tx fun c hc => by rcases rwC_ht hc with e | e <;> omega
theorem lay_rws (n : Nat) : ∀ l : List Nat, PyData.canLayAll0 (l.map (rwD n)) = true ∧ PyData.depthAll (l.map (rwD n)) = 0
  | [] => ⟨rfl, rfl⟩
  | x :: l => by
    obtain ⟨h1, h2⟩ := lay_rws n l
    refine ⟨?_, ?_⟩
    · simp [PyData.canLayAll0, rwD, PyData.canLay0, rw_ok, h1]
    · simp [PyData.depthAll, rwD, PyData.depth, h2]
theorem shaped_rws (n : Nat) (l : List Nat) : SeqAt.shaped (.list (l.map (rwD n))) = true := by
  obtain ⟨h1, h2⟩ := lay_rws n l
  unfold SeqAt.shaped
  simp [PyData.canLay0, PyData.depth, h1, h2]
theorem shaped_nil : SeqAt.shaped (.list []) = true := rfl
theorem eqv_nil (l : List D) : PyData.eqv (.list l) (.list []) = l.isEmpty := by
  cases l <;> simp [PyData.eqv, PyData.eqvAll]
theorem gNe_nil (n : Nat) (l : List Nat) (e : En) : gNe (.list (l.map (rwD n))) (.list []) e = .ok (.sh (.bool (!l.isEmpty))) e := by
  unfold gNe
  rw [if_pos ⟨shaped_rws n l, shaped_nil⟩, eqv_nil]
  cases l <;> rfl
/-- a loop whose turns are told by a relation -/
theorem whileE {t : En → R Bool} {b : En → R Fl} {k : Nat} (E : Nat → En → Prop) (F : En → Prop) (h : ∀ j, j < k → ∀ e, E j e → ∃ e1 e2, t e = .ok true e1 ∧ b e1 = .ok .nx e2 ∧ E (j + 1) e2) (he : ∀ e, E k e → ∃ e', t e = .ok false e' ∧ F e') :
    ∀ (n j : Nat) (e : En), j ≤ k → k < j + n → E j e → ∃ e', whileGo t b n e = .ok .nx e' ∧ F e'
  | 0, j, e, h1, h2, _ => by omega
  | n + 1, j, e, h1, h2, hE => by
    by_cases c : j = k
    · subst c
      obtain ⟨e', a, b⟩ := he e hE
      exact ⟨e', while_end a, b⟩
    · obtain ⟨e1, e2, a, b, q⟩ := h j (by omega) e hE
      rw [while_step a b]
      exact whileE E F h he n (j + 1) e2 (by omega) (by omega) q
/-! ### a row's visits -/
structure Okv (n k : Nat) (L : List Nat) (st : List (Nat × Nat) × List Nat) : Prop where
  nd : (ks st.1).Nodup
  lt : ∀ y ∈ ks st.1, y < 2 ^ n
  le : st.2.length ≤ st.1.length
  ln : ∀ y ∈ L, y ∈ ks st.1 ∧ vl st.1 y = k
theorem Okv.len {n k : Nat} {L : List Nat} {st : List (Nat × Nat) × List Nat} (h : Okv n k L st) (hn : n ≤ 8) : st.1.length ≤ 256 := by
  have h1 := List.Nodup.length_le_of_subset h.nd (l₂ := List.range (2 ^ n)) fun y m => List.mem_range.mpr (h.lt y m)
  have h2 : 2 ^ n ≤ 2 ^ 8 := Nat.pow_le_pow_right (by decide) hn
  unfold ks at h1
  rw [List.length_map, List.length_range] at h1
  omega
theorem Okv.visit {n k h e : Nat} {L : List Nat} {st : List (Nat × Nat) × List Nat} (H : Okv n k L st) (hh : h < 2 ^ n) (he : e < 2 ^ n) : Okv n k L (visit h st e) := by
  unfold CM.visit
  by_cases c : (h ^^^ e) ∈ ks st.1
  · rw [if_pos c]; exact H
  · rw [if_neg c]
    have hk : ks (st.1 ++ [(h ^^^ e, vl st.1 h + 1)]) = ks st.1 ++ [h ^^^ e] := ks_app
    refine ⟨?_, ?_, ?_, ?_⟩
    · rw [hk, List.nodup_append]
      refine ⟨H.nd, by simp, fun a ha b hb => ?_⟩
      rw [List.mem_singleton.mp hb]
      exact fun q => c (q ▸ ha)
    · intro y m
      rw [hk] at m
      rcases List.mem_append.mp m with m | m
      · exact H.lt y m
      · rw [List.mem_singleton.mp m]; exact Nat.xor_lt_two_pow hh he
    · have := H.le
      simp only [List.length_append, List.length_singleton]
      omega
    · intro y m
      obtain ⟨h1, h2⟩ := H.ln y m
      exact ⟨by rw [hk]; exact List.mem_append_left _ h1, by rw [vl_app h1]; exact h2⟩
theorem Okv.row {n k h : Nat} {L : List Nat} (hh : h < 2 ^ n) : ∀ (E : List Nat) {st : List (Nat × Nat) × List Nat}, (∀ e ∈ E, e < 2 ^ n) → Okv n k L st → Okv n k L (E.foldl (CM.visit h) st)
  | [], st, _, H => H
  | e :: E, st, hE, H => Okv.row hh E (fun e m => hE e (List.mem_cons_of_mem _ m)) (H.visit hh (hE e List.mem_cons_self))
theorem Okv.start {E : List Nat} {x n k : Nat} (hE : ∀ e ∈ E, e < 2 ^ n) (hx : x < 2 ^ n) : Okv n k (bfsSt E x k).2 ((bfsSt E x k).1, []) := by
  have B := bk_all (E := E) (x := x) k
  exact ⟨B.nd, fun y m => bk_lt hE hx m, Nat.zero_le _, fun y m => (B.ln y).mp m⟩
def IsL (a : Ent) (l : List D) : Prop := a = .ow l ∨ a = .sh (.list l)
/-- the effects as the program keeps them -/
def effD (n : Nat) (css : List (List Nat)) (r : Bool) : List D := (mvL n r 0 css).map fun q => .list ((tpQ n css q).map .int)
section
variable {n : Nat} {css : List (List Nat)} {r : Bool} {wd : List Ob} {x : Nat}
theorem sf_body {k h : Nat} {L : List Nat} {q : Nat × Nat} {st : List (Nat × Nat) × List Nat} {a0 a1 a2 a3 a5 a8 a9 : Ent} (hn : n ≤ 8) (H : Okv n k L st) (hh : h ∈ L) :
    ∃ b9, stepS (gN 8) lb_steps_from_0 (.list ((tpQ n css q).map .int)) ⟨[a0, a1, a2, a3, .dk (kvD n st.1), a5, .ow (st.2.map (rwD n)), .sh (rwD n h), a8, a9], wd⟩
      = .ok .nx ⟨[a0, a1, a2, a3, .dk (kvD n (visit h st (effQ n css q)).1), a5, .ow ((visit h st (effQ n css q)).2.map (rwD n)), .sh (rwD n h), .sh (.list ((tpQ n css q).map .int)), b9], wd⟩ := by
  obtain ⟨hk, hv⟩ := H.ln h hh
  have hlt := H.lt h hk
  have hat : h ^^^ effQ n css q < 2 ^ n := Nat.xor_lt_two_pow hlt (effP_lt _ _ _)
  have hl := H.len hn
  have hle := H.le
  have hlim : lim = 100000 := rfl
  have ht := c_turned (wd := wd) (x := h) hn (tpQ n css q)
  rw [tpQ_mask] at ht
  have v1 := kvD_val hat H.lt
  have v2 := kvD_val hlt H.lt
  rw [if_pos hk] at v2
  refine ⟨.sh (rwD n (h ^^^ effQ n css q)), ?_⟩
  have h1 : (kvD n st.1).length < lim := by rw [kvD_len]; omega
  have h2 : (st.2.map (rwD n)).length < lim := by rw [List.length_map]; omega
  unfold lb_steps_from_0 CM.visit
  by_cases c : (h ^^^ effQ n css q) ∈ ks st.1
  · rw [if_pos c] at v1 ⊢
    simp only [cIf_t, bind_ok, bind_ex, bind_st, get_mk, set_mk, sSeq, sEx, sRet, sIf, sSet, sPass, sEx_, sBk, sAsg, sPar2, sPar3, thenS, dv, toD, eC, eN, eMv, eP, eBin, tst, eChain, tAndM, tOrM, tNotM, eAnd, eOr, eNot, eIf, toA, aNil, aCons, asDs, dvs, eTup, eLst, eCall, eIx, eIxN, itemE, eSl, pNo, pSo, cutD, gLen, eLenN, lenD, gList, gTuple, gN, gT, setAll, eMt, tyD, eIsi, gAdd, gSub, gDiv, gMod, gMul, gPow, gLt, gLe, gGt, gGe, gStr, gMin, gIn, gNotIn, gIs, gIsNot, isD, eLenSc, eIxSc, eScNil, eAppTn, sTown, tYesM, noEx_ok, itemG, stepS, iAll, itemsOf, iR1, iR2, wipeE, restE, keepE, sAug, gIadd, gImul, eApp, eExt, eNeg, List.getD_cons_zero, List.getD_cons_succ, List.set_cons_zero, List.set_cons_succ, List.getElem?_cons_zero, List.getElem?_cons_succ, Option.map_some, Option.map_none, Bool.not_true, Bool.not_false, beq_self_eq_true, if_true, if_false, ite_true, ite_false, Bool.false_eq_true, reduceIte, reduceCtorEq, lenL_0, lenL_1, lenL_2, lenL_3, lenL_4, lenL_5, lenL_6, lenL_7, lenL_8, lenL_9, lenL_10, lenL_11, lenL_12, call_fin, eCallF_eq, put_ok, put_ex, finC_nx, finC_rt, finC_ex, List.length_cons, List.length_nil, Nat.reduceAdd, Nat.reduceSub, List.replicate_succ, List.replicate_zero, List.cons_append, List.nil_append, item2, Outc, wipeE, keepE, eDic0, eDic1, eDin, eDnotin, eDget, eDgetD, eDgetR, eDgetG, sDput, dkOf, eDlen, eSortDic, eSortDicR, eDvals, eLock, iFz, isFz, gSum, gMax, gCountS, eRev, and_self, and_true, true_and, decide_true, decide_false, Bool.and_self, Bool.and_true, Bool.true_and, litL_0, litL_1, litL_2, litL_3, litL_4, litL_5, litL_6, litL_7, litL_8, litL_9, litL_10, litL_11, litL_12, litL_13, litL_14, litL_15, litL_16, litL_17, litL_18, litL_19, litL_20, litL_21, litL_22, litL_23, litL_24, litL_25, litL_26, litL_27, litL_28, litL_29, litL_30, litL_31, litL_32, ht, keyOf_rw, v1, Option.isSome_some]
  · rw [if_neg c] at v1 ⊢
    have hp := kvD_put (v := vl st.1 h + 1) hat H.lt c
    have ei : ((vl st.1 h : Nat) : Int) + 1 = ((vl st.1 h + 1 : Nat) : Int) := by omega
    simp only [cIf_t, bind_ok, bind_ex, bind_st, get_mk, set_mk, sSeq, sEx, sRet, sIf, sSet, sPass, sEx_, sBk, sAsg, sPar2, sPar3, thenS, dv, toD, eC, eN, eMv, eP, eBin, tst, eChain, tAndM, tOrM, tNotM, eAnd, eOr, eNot, eIf, toA, aNil, aCons, asDs, dvs, eTup, eLst, eCall, eIx, eIxN, itemE, eSl, pNo, pSo, cutD, gLen, eLenN, lenD, gList, gTuple, gN, gT, setAll, eMt, tyD, eIsi, gAdd, gSub, gDiv, gMod, gMul, gPow, gLt, gLe, gGt, gGe, gStr, gMin, gIn, gNotIn, gIs, gIsNot, isD, eLenSc, eIxSc, eScNil, eAppTn, sTown, tYesM, noEx_ok, itemG, stepS, iAll, itemsOf, iR1, iR2, wipeE, restE, keepE, sAug, gIadd, gImul, eApp, eExt, eNeg, List.getD_cons_zero, List.getD_cons_succ, List.set_cons_zero, List.set_cons_succ, List.getElem?_cons_zero, List.getElem?_cons_succ, Option.map_some, Option.map_none, Bool.not_true, Bool.not_false, beq_self_eq_true, if_true, if_false, ite_true, ite_false, Bool.false_eq_true, reduceIte, reduceCtorEq, lenL_0, lenL_1, lenL_2, lenL_3, lenL_4, lenL_5, lenL_6, lenL_7, lenL_8, lenL_9, lenL_10, lenL_11, lenL_12, call_fin, eCallF_eq, put_ok, put_ex, finC_nx, finC_rt, finC_ex, List.length_cons, List.length_nil, Nat.reduceAdd, Nat.reduceSub, List.replicate_succ, List.replicate_zero, List.cons_append, List.nil_append, item2, Outc, wipeE, keepE, eDic0, eDic1, eDin, eDnotin, eDget, eDgetD, eDgetR, eDgetG, sDput, dkOf, eDlen, eSortDic, eSortDicR, eDvals, eLock, iFz, isFz, gSum, gMax, gCountS, eRev, and_self, and_true, true_and, decide_true, decide_false, Bool.and_self, Bool.and_true, Bool.true_and, litL_0, litL_1, litL_2, litL_3, litL_4, litL_5, litL_6, litL_7, litL_8, litL_9, litL_10, litL_11, litL_12, litL_13, litL_14, litL_15, litL_16, litL_17, litL_18, litL_19, litL_20, litL_21, litL_22, litL_23, litL_24, litL_25, litL_26, litL_27, litL_28, litL_29, litL_30, litL_31, litL_32, ht, keyOf_rw, v1, Option.isSome_none, v2, if_pos h1, if_pos h2, ei, hp, List.map_append, List.map_cons, List.map_nil]
theorem sf_row {k h : Nat} {L : List Nat} {st : List (Nat × Nat) × List Nat} {a0 a1 a2 a3 a5 a8 a9 : Ent} (h2 : IsL a2 (effD n css r)) (hn : n ≤ 8) (H : Okv n k L st) (hh : h ∈ L) :
    ∃ b8 b9, lp_steps_from_0 ⟨[a0, a1, a2, a3, .dk (kvD n st.1), a5, .ow (st.2.map (rwD n)), .sh (rwD n h), a8, a9], wd⟩
      = .ok .nx ⟨[a0, a1, .sh (.list (effD n css r)), a3, .dk (kvD n ((effs n css r).foldl (visit h) st).1), a5, .ow (((effs n css r).foldl (visit h) st).2.map (rwD n)), .sh (rwD n h), b8, b9], wd⟩ := by
  have hlt := H.lt h (H.ln h hh).1
  obtain ⟨e', h1, _, b8, b9, rfl⟩ := forE (g := gN 8) (b := lb_steps_from_0) (fun q : Nat × Nat => PyData.list ((tpQ n css q).map .int)) (fun j (s : List (Nat × Nat) × List Nat) e => Okv n k L s ∧ ∃ b8 b9, e = (⟨[a0, a1, .sh (.list (effD n css r)), a3, .dk (kvD n s.1), a5, .ow (s.2.map (rwD n)), .sh (rwD n h), b8, b9], wd⟩ : En))
    (fun s q => visit h s (effQ n css q)) (mvL n r 0 css) 0 st ⟨[a0, a1, .sh (.list (effD n css r)), a3, .dk (kvD n st.1), a5, .ow (st.2.map (rwD n)), .sh (rwD n h), a8, a9], wd⟩ ⟨H, a8, a9, rfl⟩ (by
      rintro j q s e hq _ _ ⟨hI, b8, b9, rfl⟩
      obtain ⟨c9, e1⟩ := sf_body (q := q) (css := css) (wd := wd) (a0 := a0) (a1 := a1) (a2 := .sh (.list (effD n css r))) (a3 := a3) (a5 := a5) (a8 := b8) (a9 := b9) hn hI hh
      exact ⟨_, e1, hI.visit hlt (effP_lt _ _ _), _, _, rfl⟩)
  refine ⟨b8, b9, ?_⟩
  have ef : (effs n css r).foldl (visit h) st = (mvL n r 0 css).foldl (fun s q => visit h s (effQ n css q)) st := by
    unfold effs
    rw [List.foldl_map]
  rw [ef]
  unfold lp_steps_from_0
  rcases h2 with rfl | rfl <;> simp only [sFor, cIf_t, bind_ok, bind_ex, bind_st, get_mk, set_mk, sSeq, sEx, sRet, sIf, sSet, sPass, sEx_, sBk, sAsg, sPar2, sPar3, thenS, dv, toD, eC, eN, eMv, eP, eBin, tst, eChain, tAndM, tOrM, tNotM, eAnd, eOr, eNot, eIf, toA, aNil, aCons, asDs, dvs, eTup, eLst, eCall, eIx, eIxN, itemE, eSl, pNo, pSo, cutD, gLen, eLenN, lenD, gList, gTuple, gN, gT, setAll, eMt, tyD, eIsi, gAdd, gSub, gDiv, gMod, gMul, gPow, gLt, gLe, gGt, gGe, gStr, gMin, gIn, gNotIn, gIs, gIsNot, isD, eLenSc, eIxSc, eScNil, eAppTn, sTown, tYesM, noEx_ok, itemG, stepS, iAll, itemsOf, iR1, iR2, wipeE, restE, keepE, sAug, gIadd, gImul, eApp, eExt, eNeg, List.getD_cons_zero, List.getD_cons_succ, List.set_cons_zero, List.set_cons_succ, List.getElem?_cons_zero, List.getElem?_cons_succ, Option.map_some, Option.map_none, Bool.not_true, Bool.not_false, beq_self_eq_true, if_true, if_false, ite_true, ite_false, Bool.false_eq_true, reduceIte, reduceCtorEq, lenL_0, lenL_1, lenL_2, lenL_3, lenL_4, lenL_5, lenL_6, lenL_7, lenL_8, lenL_9, lenL_10, lenL_11, lenL_12, call_fin, eCallF_eq, put_ok, put_ex, finC_nx, finC_rt, finC_ex, List.length_cons, List.length_nil, Nat.reduceAdd, Nat.reduceSub, List.replicate_succ, List.replicate_zero, List.cons_append, List.nil_append, item2, Outc, wipeE, keepE, eDic0, eDic1, eDin, eDnotin, eDget, eDgetD, eDgetR, eDgetG, sDput, dkOf, eDlen, eSortDic, eSortDicR, eDvals, eLock, iFz, isFz, gSum, gMax, gCountS, eRev, and_self, and_true, true_and, decide_true, decide_false, Bool.and_self, Bool.and_true, Bool.true_and, litL_0, litL_1, litL_2, litL_3, litL_4, litL_5, litL_6, litL_7, litL_8, litL_9, litL_10, litL_11, litL_12, litL_13, litL_14, litL_15, litL_16, litL_17, litL_18, litL_19, litL_20, litL_21, litL_22, litL_23, litL_24, litL_25, litL_26, litL_27, litL_28, litL_29, litL_30, litL_31, litL_32] <;> exact h1
theorem sf_layer {k : Nat} {L : List Nat} {s : List (Nat × Nat)} {a0 a1 a2 a3 a7 a8 a9 : Ent} (h2 : IsL a2 (effD n css r)) (hn : n ≤ 8) (H : Okv n k L (s, [])) :
    ∃ b2 b7 b8 b9, IsL b2 (effD n css r) ∧ lp_steps_from_1 ⟨[a0, a1, a2, a3, .dk (kvD n s), .sh (.list (L.map (rwD n))), .ow [], a7, a8, a9], wd⟩
      = .ok .nx ⟨[a0, a1, b2, a3, .dk (kvD n (layer (effs n css r) s L).1), .sh (.list (L.map (rwD n))), .ow ((layer (effs n css r) s L).2.map (rwD n)), b7, b8, b9], wd⟩ := by
  obtain ⟨e', h1, _, b2, b7, b8, b9, hb2, rfl⟩ := forE (g := gN 7) (b := lb_steps_from_1) (rwD n) (fun j (st : List (Nat × Nat) × List Nat) e => Okv n k L st ∧ ∃ b2 b7 b8 b9, IsL b2 (effD n css r) ∧ e = (⟨[a0, a1, b2, a3, .dk (kvD n st.1), .sh (.list (L.map (rwD n))), .ow (st.2.map (rwD n)), b7, b8, b9], wd⟩ : En))
    (fun st h => (effs n css r).foldl (visit h) st) L 0 (s, []) _ ⟨H, a2, a7, a8, a9, h2, rfl⟩ (by
      rintro j h st e hq _ _ ⟨hI, b2, b7, b8, b9, hb2, rfl⟩
      obtain ⟨c8, c9, e1⟩ := sf_row (css := css) (r := r) (wd := wd) (a0 := a0) (a1 := a1) (a3 := a3) (a5 := .sh (.list (L.map (rwD n)))) (a8 := b8) (a9 := b9) hb2 hn hI hq
      refine ⟨_, ?_, hI.row (hI.lt h (hI.ln h hq).1) _ effs_lt, .sh (.list (effD n css r)), .sh (rwD n h), c8, c9, .inr rfl, rfl⟩
      unfold stepS lb_steps_from_1
      simp only [gN, bind_ok, set_mk, List.set_cons_succ, List.set_cons_zero]
      exact e1)
  refine ⟨b2, b7, b8, b9, hb2, ?_⟩
  unfold lp_steps_from_1
  simp only [sFor, cIf_t, bind_ok, bind_ex, bind_st, get_mk, set_mk, sSeq, sEx, sRet, sIf, sSet, sPass, sEx_, sBk, sAsg, sPar2, sPar3, thenS, dv, toD, eC, eN, eMv, eP, eBin, tst, eChain, tAndM, tOrM, tNotM, eAnd, eOr, eNot, eIf, toA, aNil, aCons, asDs, dvs, eTup, eLst, eCall, eIx, eIxN, itemE, eSl, pNo, pSo, cutD, gLen, eLenN, lenD, gList, gTuple, gN, gT, setAll, eMt, tyD, eIsi, gAdd, gSub, gDiv, gMod, gMul, gPow, gLt, gLe, gGt, gGe, gStr, gMin, gIn, gNotIn, gIs, gIsNot, isD, eLenSc, eIxSc, eScNil, eAppTn, sTown, tYesM, noEx_ok, itemG, stepS, iAll, itemsOf, iR1, iR2, wipeE, restE, keepE, sAug, gIadd, gImul, eApp, eExt, eNeg, List.getD_cons_zero, List.getD_cons_succ, List.set_cons_zero, List.set_cons_succ, List.getElem?_cons_zero, List.getElem?_cons_succ, Option.map_some, Option.map_none, Bool.not_true, Bool.not_false, beq_self_eq_true, if_true, if_false, ite_true, ite_false, Bool.false_eq_true, reduceIte, reduceCtorEq, lenL_0, lenL_1, lenL_2, lenL_3, lenL_4, lenL_5, lenL_6, lenL_7, lenL_8, lenL_9, lenL_10, lenL_11, lenL_12, call_fin, eCallF_eq, put_ok, put_ex, finC_nx, finC_rt, finC_ex, List.length_cons, List.length_nil, Nat.reduceAdd, Nat.reduceSub, List.replicate_succ, List.replicate_zero, List.cons_append, List.nil_append, item2, Outc, wipeE, keepE, eDic0, eDic1, eDin, eDnotin, eDget, eDgetD, eDgetR, eDgetG, sDput, dkOf, eDlen, eSortDic, eSortDicR, eDvals, eLock, iFz, isFz, gSum, gMax, gCountS, eRev, and_self, and_true, true_and, decide_true, decide_false, Bool.and_self, Bool.and_true, Bool.true_and, litL_0, litL_1, litL_2, litL_3, litL_4, litL_5, litL_6, litL_7, litL_8, litL_9, litL_10, litL_11, litL_12, litL_13, litL_14, litL_15, litL_16, litL_17, litL_18, litL_19, litL_20, litL_21, litL_22, litL_23, litL_24, litL_25, litL_26, litL_27, litL_28, litL_29, litL_30, litL_31, litL_32]
  exact h1
theorem sf_while {a0 a1 a2 a3 a6 a7 a8 a9 : Ent} (h2 : IsL a2 (effD n css r)) (hn : n ≤ 8) (hx : x < 2 ^ n) : ∃ b2 b5 b6 b7 b8 b9, lp_steps_from_2 ⟨[a0, a1, a2, a3, .dk (kvD n [(x, 0)]), .ow [rwD n x], a6, a7, a8, a9], wd⟩
      = .ok .nx ⟨[a0, a1, b2, a3, .dk (kvD n (bfs (effs n css r) x)), b5, b6, b7, b8, b9], wd⟩ := by
  obtain ⟨k, hk, hb, hz, hne⟩ := bfs_ends hn (effs_lt (n := n) (css := css) (r := r)) hx
  have key := whileE (t := tst (eBin gNe (eN 5) (eLst (aNil)))) (b := lb_steps_from_2) (k := k)
    (fun j e => ∃ b2 b5 b6 b7 b8 b9, IsL b2 (effD n css r) ∧ IsL b5 ((bfsSt (effs n css r) x j).2.map (rwD n)) ∧ e = (⟨[a0, a1, b2, a3, .dk (kvD n (bfsSt (effs n css r) x j).1), b5, b6, b7, b8, b9], wd⟩ : En))
    (fun e => ∃ b2 b5 b6 b7 b8 b9, e = (⟨[a0, a1, b2, a3, .dk (kvD n (bfs (effs n css r) x)), b5, b6, b7, b8, b9], wd⟩ : En))
    (by
      rintro j hj e ⟨b2, b5, b6, b7, b8, b9, hb2, h5, rfl⟩
      have hem : (bfsSt (effs n css r) x j).2.isEmpty = false := by
        have := hne j hj
        cases hq : (bfsSt (effs n css r) x j).2 with
        | nil => exact absurd hq this
        | cons _ _ => rfl
      obtain ⟨c2, c7, c8, c9, hc2, e1⟩ := sf_layer (css := css) (r := r) (wd := wd) (a0 := a0) (a1 := a1) (a3 := a3) (a7 := b7) (a8 := b8) (a9 := b9) hb2 hn (Okv.start (k := j) (effs_lt (n := n) (css := css) (r := r)) hx)
      refine ⟨⟨[a0, a1, b2, a3, .dk (kvD n (bfsSt (effs n css r) x j).1), .sh (.list ((bfsSt (effs n css r) x j).2.map (rwD n))), b6, b7, b8, b9], wd⟩, _, ?_, ?_, c2, .sh (.list ((bfsSt (effs n css r) x (j + 1)).2.map (rwD n))), .sh (.list ((bfsSt (effs n css r) x (j + 1)).2.map (rwD n))), c7, c8, c9, hc2, .inr rfl, rfl⟩
      · rcases h5 with rfl | rfl <;> simp only [cIf_t, bind_ok, bind_ex, bind_st, get_mk, set_mk, sSeq, sEx, sRet, sIf, sSet, sPass, sEx_, sBk, sAsg, sPar2, sPar3, thenS, dv, toD, eC, eN, eMv, eP, eBin, tst, eChain, tAndM, tOrM, tNotM, eAnd, eOr, eNot, eIf, toA, aNil, aCons, asDs, dvs, eTup, eLst, eCall, eIx, eIxN, itemE, eSl, pNo, pSo, cutD, gLen, eLenN, lenD, gList, gTuple, gN, gT, setAll, eMt, tyD, eIsi, gAdd, gSub, gDiv, gMod, gMul, gPow, gLt, gLe, gGt, gGe, gStr, gMin, gIn, gNotIn, gIs, gIsNot, isD, eLenSc, eIxSc, eScNil, eAppTn, sTown, tYesM, noEx_ok, itemG, stepS, iAll, itemsOf, iR1, iR2, wipeE, restE, keepE, sAug, gIadd, gImul, eApp, eExt, eNeg, List.getD_cons_zero, List.getD_cons_succ, List.set_cons_zero, List.set_cons_succ, List.getElem?_cons_zero, List.getElem?_cons_succ, Option.map_some, Option.map_none, Bool.not_true, Bool.not_false, beq_self_eq_true, if_true, if_false, ite_true, ite_false, Bool.false_eq_true, reduceIte, reduceCtorEq, lenL_0, lenL_1, lenL_2, lenL_3, lenL_4, lenL_5, lenL_6, lenL_7, lenL_8, lenL_9, lenL_10, lenL_11, lenL_12, call_fin, eCallF_eq, put_ok, put_ex, finC_nx, finC_rt, finC_ex, List.length_cons, List.length_nil, Nat.reduceAdd, Nat.reduceSub, List.replicate_succ, List.replicate_zero, List.cons_append, List.nil_append, item2, Outc, wipeE, keepE, eDic0, eDic1, eDin, eDnotin, eDget, eDgetD, eDgetR, eDgetG, sDput, dkOf, eDlen, eSortDic, eSortDicR, eDvals, eLock, iFz, isFz, gSum, gMax, gCountS, eRev, and_self, and_true, true_and, decide_true, decide_false, Bool.and_self, Bool.and_true, Bool.true_and, litL_0, litL_1, litL_2, litL_3, litL_4, litL_5, litL_6, litL_7, litL_8, litL_9, litL_10, litL_11, litL_12, litL_13, litL_14, litL_15, litL_16, litL_17, litL_18, litL_19, litL_20, litL_21, litL_22, litL_23, litL_24, litL_25, litL_26, litL_27, litL_28, litL_29, litL_30, litL_31, litL_32, gNe_nil, hem]
      · unfold lb_steps_from_2
        simp only [cIf_t, bind_ok, bind_ex, bind_st, get_mk, set_mk, sSeq, sEx, sRet, sIf, sSet, sPass, sEx_, sBk, sAsg, sPar2, sPar3, thenS, dv, toD, eC, eN, eMv, eP, eBin, tst, eChain, tAndM, tOrM, tNotM, eAnd, eOr, eNot, eIf, toA, aNil, aCons, asDs, dvs, eTup, eLst, eCall, eIx, eIxN, itemE, eSl, pNo, pSo, cutD, gLen, eLenN, lenD, gList, gTuple, gN, gT, setAll, eMt, tyD, eIsi, gAdd, gSub, gDiv, gMod, gMul, gPow, gLt, gLe, gGt, gGe, gStr, gMin, gIn, gNotIn, gIs, gIsNot, isD, eLenSc, eIxSc, eScNil, eAppTn, sTown, tYesM, noEx_ok, itemG, stepS, iAll, itemsOf, iR1, iR2, wipeE, restE, keepE, sAug, gIadd, gImul, eApp, eExt, eNeg, List.getD_cons_zero, List.getD_cons_succ, List.set_cons_zero, List.set_cons_succ, List.getElem?_cons_zero, List.getElem?_cons_succ, Option.map_some, Option.map_none, Bool.not_true, Bool.not_false, beq_self_eq_true, if_true, if_false, ite_true, ite_false, Bool.false_eq_true, reduceIte, reduceCtorEq, lenL_0, lenL_1, lenL_2, lenL_3, lenL_4, lenL_5, lenL_6, lenL_7, lenL_8, lenL_9, lenL_10, lenL_11, lenL_12, call_fin, eCallF_eq, put_ok, put_ex, finC_nx, finC_rt, finC_ex, List.length_cons, List.length_nil, Nat.reduceAdd, Nat.reduceSub, List.replicate_succ, List.replicate_zero, List.cons_append, List.nil_append, item2, Outc, wipeE, keepE, eDic0, eDic1, eDin, eDnotin, eDget, eDgetD, eDgetR, eDgetG, sDput, dkOf, eDlen, eSortDic, eSortDicR, eDvals, eLock, iFz, isFz, gSum, gMax, gCountS, eRev, and_self, and_true, true_and, decide_true, decide_false, Bool.and_self, Bool.and_true, Bool.true_and, litL_0, litL_1, litL_2, litL_3, litL_4, litL_5, litL_6, litL_7, litL_8, litL_9, litL_10, litL_11, litL_12, litL_13, litL_14, litL_15, litL_16, litL_17, litL_18, litL_19, litL_20, litL_21, litL_22, litL_23, litL_24, litL_25, litL_26, litL_27, litL_28, litL_29, litL_30, litL_31, litL_32, e1]
        rfl)
    (by
      rintro e ⟨b2, b5, b6, b7, b8, b9, hb2, h5, rfl⟩
      rw [hz] at h5
      have hem : gNe (.list []) (.list []) = fun e => .ok (.sh (.bool false)) e := by funext e; exact gNe_nil n [] e
      refine ⟨_, ?_, b2, .sh (.list []), b6, b7, b8, b9, by rw [hb]⟩
      rcases h5 with rfl | rfl <;> simp only [cIf_t, bind_ok, bind_ex, bind_st, get_mk, set_mk, sSeq, sEx, sRet, sIf, sSet, sPass, sEx_, sBk, sAsg, sPar2, sPar3, thenS, dv, toD, eC, eN, eMv, eP, eBin, tst, eChain, tAndM, tOrM, tNotM, eAnd, eOr, eNot, eIf, toA, aNil, aCons, asDs, dvs, eTup, eLst, eCall, eIx, eIxN, itemE, eSl, pNo, pSo, cutD, gLen, eLenN, lenD, gList, gTuple, gN, gT, setAll, eMt, tyD, eIsi, gAdd, gSub, gDiv, gMod, gMul, gPow, gLt, gLe, gGt, gGe, gStr, gMin, gIn, gNotIn, gIs, gIsNot, isD, eLenSc, eIxSc, eScNil, eAppTn, sTown, tYesM, noEx_ok, itemG, stepS, iAll, itemsOf, iR1, iR2, wipeE, restE, keepE, sAug, gIadd, gImul, eApp, eExt, eNeg, List.getD_cons_zero, List.getD_cons_succ, List.set_cons_zero, List.set_cons_succ, List.getElem?_cons_zero, List.getElem?_cons_succ, Option.map_some, Option.map_none, Bool.not_true, Bool.not_false, beq_self_eq_true, if_true, if_false, ite_true, ite_false, Bool.false_eq_true, reduceIte, reduceCtorEq, lenL_0, lenL_1, lenL_2, lenL_3, lenL_4, lenL_5, lenL_6, lenL_7, lenL_8, lenL_9, lenL_10, lenL_11, lenL_12, call_fin, eCallF_eq, put_ok, put_ex, finC_nx, finC_rt, finC_ex, List.length_cons, List.length_nil, Nat.reduceAdd, Nat.reduceSub, List.replicate_succ, List.replicate_zero, List.cons_append, List.nil_append, item2, Outc, wipeE, keepE, eDic0, eDic1, eDin, eDnotin, eDget, eDgetD, eDgetR, eDgetG, sDput, dkOf, eDlen, eSortDic, eSortDicR, eDvals, eLock, iFz, isFz, gSum, gMax, gCountS, eRev, and_self, and_true, true_and, decide_true, decide_false, Bool.and_self, Bool.and_true, Bool.true_and, litL_0, litL_1, litL_2, litL_3, litL_4, litL_5, litL_6, litL_7, litL_8, litL_9, litL_10, litL_11, litL_12, litL_13, litL_14, litL_15, litL_16, litL_17, litL_18, litL_19, litL_20, litL_21, litL_22, litL_23, litL_24, litL_25, litL_26, litL_27, litL_28, litL_29, litL_30, litL_31, litL_32, List.map_nil, hem])
    100000 0 _ (Nat.zero_le _) (by omega) ⟨a2, .ow [rwD n x], a6, a7, a8, a9, h2, .inl rfl, rfl⟩
  obtain ⟨e', h1, b2, b5, b6, b7, b8, b9, rfl⟩ := key
  refine ⟨b2, b5, b6, b7, b8, b9, ?_⟩
  unfold lp_steps_from_2 sWhile
  exact h1
theorem c_steps_from (h : Gm n css) (hx : x < 2 ^ n) : call m_steps_from [.sh (gmD n css r), .sh (rwD n x)] wd = .ok (.dk (kvD n (bfs (effs n css r) x))) wd := by
  have hlim : lim = 100000 := rfl
  have hc3 := h.c3
  have h8 := h.n8
  have hml := mvL_len (n := n) (r := r) css 0
  have hl : (mvL n r 0 css).length ≤ 27 := Nat.le_trans hml (Nat.mul_le_mul (by omega : n + 1 ≤ 9) hc3)
  have l0 : lc_steps_from_0 ⟨[.sh (gmD n css r), .sh (rwD n x), .no, .no, .no, .no, .no, .no, .no, .no], wd⟩ = .ok (.ow ((mvL n r 0 css).map fun q => .list ((tpQ n css q).map .int))) ⟨[.sh (gmD n css r), .sh (rwD n x), .no, .no, .no, .no, .no, .no, .no, .no], wd⟩ := by
    unfold lc_steps_from_0
    refine (lcA (e0 := ⟨[.sh (gmD n css r), .sh (rwD n x), .no, .no, .no, .no, .no, .no, .no, .no], wd⟩) (fun q : Nat × Nat => mvD q.1 q.2) (mvL n r 0 css) (fun q => .list ((tpQ n css q).map .int)) ?_ (by omega) fun q hq => ?_).trans ?_
    · simp only [cIf_t, bind_ok, bind_ex, bind_st, get_mk, set_mk, sSeq, sEx, sRet, sIf, sSet, sPass, sEx_, sBk, sAsg, sPar2, sPar3, thenS, dv, toD, eC, eN, eMv, eP, eBin, tst, eChain, tAndM, tOrM, tNotM, eAnd, eOr, eNot, eIf, toA, aNil, aCons, asDs, dvs, eTup, eLst, eCall, eIx, eIxN, itemE, eSl, pNo, pSo, cutD, gLen, eLenN, lenD, gList, gTuple, gN, gT, setAll, eMt, tyD, eIsi, gAdd, gSub, gDiv, gMod, gMul, gPow, gLt, gLe, gGt, gGe, gStr, gMin, gIn, gNotIn, gIs, gIsNot, isD, eLenSc, eIxSc, eScNil, eAppTn, sTown, tYesM, noEx_ok, itemG, stepS, iAll, itemsOf, iR1, iR2, wipeE, restE, keepE, sAug, gIadd, gImul, eApp, eExt, eNeg, List.getD_cons_zero, List.getD_cons_succ, List.set_cons_zero, List.set_cons_succ, List.getElem?_cons_zero, List.getElem?_cons_succ, Option.map_some, Option.map_none, Bool.not_true, Bool.not_false, beq_self_eq_true, if_true, if_false, ite_true, ite_false, Bool.false_eq_true, reduceIte, reduceCtorEq, lenL_0, lenL_1, lenL_2, lenL_3, lenL_4, lenL_5, lenL_6, lenL_7, lenL_8, lenL_9, lenL_10, lenL_11, lenL_12, call_fin, eCallF_eq, put_ok, put_ex, finC_nx, finC_rt, finC_ex, List.length_cons, List.length_nil, Nat.reduceAdd, Nat.reduceSub, List.replicate_succ, List.replicate_zero, List.cons_append, List.nil_append, item2, Outc, wipeE, keepE, eDic0, eDic1, eDin, eDnotin, eDget, eDgetD, eDgetR, eDgetG, sDput, dkOf, eDlen, eSortDic, eSortDicR, eDvals, eLock, iFz, isFz, gSum, gMax, gCountS, eRev, and_self, and_true, true_and, decide_true, decide_false, Bool.and_self, Bool.and_true, Bool.true_and, litL_0, litL_1, litL_2, litL_3, litL_4, litL_5, litL_6, litL_7, litL_8, litL_9, litL_10, litL_11, litL_12, litL_13, litL_14, litL_15, litL_16, litL_17, litL_18, litL_19, litL_20, litL_21, litL_22, litL_23, litL_24, litL_25, litL_26, litL_27, litL_28, litL_29, litL_30, litL_31, litL_32, c_move_list h]
      rfl
    · obtain ⟨_, h2, _⟩ := mvL_fst css 0 q hq
      simp only [cIf_t, bind_ok, bind_ex, bind_st, get_mk, set_mk, sSeq, sEx, sRet, sIf, sSet, sPass, sEx_, sBk, sAsg, sPar2, sPar3, thenS, dv, toD, eC, eN, eMv, eP, eBin, tst, eChain, tAndM, tOrM, tNotM, eAnd, eOr, eNot, eIf, toA, aNil, aCons, asDs, dvs, eTup, eLst, eCall, eIx, eIxN, itemE, eSl, pNo, pSo, cutD, gLen, eLenN, lenD, gList, gTuple, gN, gT, setAll, eMt, tyD, eIsi, gAdd, gSub, gDiv, gMod, gMul, gPow, gLt, gLe, gGt, gGe, gStr, gMin, gIn, gNotIn, gIs, gIsNot, isD, eLenSc, eIxSc, eScNil, eAppTn, sTown, tYesM, noEx_ok, itemG, stepS, iAll, itemsOf, iR1, iR2, wipeE, restE, keepE, sAug, gIadd, gImul, eApp, eExt, eNeg, List.getD_cons_zero, List.getD_cons_succ, List.set_cons_zero, List.set_cons_succ, List.getElem?_cons_zero, List.getElem?_cons_succ, Option.map_some, Option.map_none, Bool.not_true, Bool.not_false, beq_self_eq_true, if_true, if_false, ite_true, ite_false, Bool.false_eq_true, reduceIte, reduceCtorEq, lenL_0, lenL_1, lenL_2, lenL_3, lenL_4, lenL_5, lenL_6, lenL_7, lenL_8, lenL_9, lenL_10, lenL_11, lenL_12, call_fin, eCallF_eq, put_ok, put_ex, finC_nx, finC_rt, finC_ex, List.length_cons, List.length_nil, Nat.reduceAdd, Nat.reduceSub, List.replicate_succ, List.replicate_zero, List.cons_append, List.nil_append, item2, Outc, wipeE, keepE, eDic0, eDic1, eDin, eDnotin, eDget, eDgetD, eDgetR, eDgetG, sDput, dkOf, eDlen, eSortDic, eSortDicR, eDvals, eLock, iFz, isFz, gSum, gMax, gCountS, eRev, and_self, and_true, true_and, decide_true, decide_false, Bool.and_self, Bool.and_true, Bool.true_and, litL_0, litL_1, litL_2, litL_3, litL_4, litL_5, litL_6, litL_7, litL_8, litL_9, litL_10, litL_11, litL_12, litL_13, litL_14, litL_15, litL_16, litL_17, litL_18, litL_19, litL_20, litL_21, litL_22, litL_23, litL_24, litL_25, litL_26, litL_27, litL_28, litL_29, litL_30, litL_31, litL_32, c_turned_places (r := r) h (show q.1 < css.length by omega)]
    · simp only [cIf_t, bind_ok, bind_ex, bind_st, get_mk, set_mk, sSeq, sEx, sRet, sIf, sSet, sPass, sEx_, sBk, sAsg, sPar2, sPar3, thenS, dv, toD, eC, eN, eMv, eP, eBin, tst, eChain, tAndM, tOrM, tNotM, eAnd, eOr, eNot, eIf, toA, aNil, aCons, asDs, dvs, eTup, eLst, eCall, eIx, eIxN, itemE, eSl, pNo, pSo, cutD, gLen, eLenN, lenD, gList, gTuple, gN, gT, setAll, eMt, tyD, eIsi, gAdd, gSub, gDiv, gMod, gMul, gPow, gLt, gLe, gGt, gGe, gStr, gMin, gIn, gNotIn, gIs, gIsNot, isD, eLenSc, eIxSc, eScNil, eAppTn, sTown, tYesM, noEx_ok, itemG, stepS, iAll, itemsOf, iR1, iR2, wipeE, restE, keepE, sAug, gIadd, gImul, eApp, eExt, eNeg, List.getD_cons_zero, List.getD_cons_succ, List.set_cons_zero, List.set_cons_succ, List.getElem?_cons_zero, List.getElem?_cons_succ, Option.map_some, Option.map_none, Bool.not_true, Bool.not_false, beq_self_eq_true, if_true, if_false, ite_true, ite_false, Bool.false_eq_true, reduceIte, reduceCtorEq, lenL_0, lenL_1, lenL_2, lenL_3, lenL_4, lenL_5, lenL_6, lenL_7, lenL_8, lenL_9, lenL_10, lenL_11, lenL_12, call_fin, eCallF_eq, put_ok, put_ex, finC_nx, finC_rt, finC_ex, List.length_cons, List.length_nil, Nat.reduceAdd, Nat.reduceSub, List.replicate_succ, List.replicate_zero, List.cons_append, List.nil_append, item2, Outc, wipeE, keepE, eDic0, eDic1, eDin, eDnotin, eDget, eDgetD, eDgetR, eDgetG, sDput, dkOf, eDlen, eSortDic, eSortDicR, eDvals, eLock, iFz, isFz, gSum, gMax, gCountS, eRev, and_self, and_true, true_and, decide_true, decide_false, Bool.and_self, Bool.and_true, Bool.true_and, litL_0, litL_1, litL_2, litL_3, litL_4, litL_5, litL_6, litL_7, litL_8, litL_9, litL_10, litL_11, litL_12, litL_13, litL_14, litL_15, litL_16, litL_17, litL_18, litL_19, litL_20, litL_21, litL_22, litL_23, litL_24, litL_25, litL_26, litL_27, litL_28, litL_29, litL_30, litL_31, litL_32, restE]
  obtain ⟨b2, b5, b6, b7, b8, b9, e⟩ := sf_while (a2 := .ow (effD n css r)) (css := css) (r := r) (wd := wd) (a0 := .sh (gmD n css r)) (a1 := .sh (rwD n x)) (a3 := .no) (a6 := .no) (a7 := .no) (a8 := .no) (a9 := .no) (.inl rfl) h8 hx
  unfold m_steps_from
  rw [call_fin]
  unfold f_steps_from
  simp only [cIf_t, bind_ok, bind_ex, bind_st, get_mk, set_mk, sSeq, sEx, sRet, sIf, sSet, sPass, sEx_, sBk, sAsg, sPar2, sPar3, thenS, dv, toD, eC, eN, eMv, eP, eBin, tst, eChain, tAndM, tOrM, tNotM, eAnd, eOr, eNot, eIf, toA, aNil, aCons, asDs, dvs, eTup, eLst, eCall, eIx, eIxN, itemE, eSl, pNo, pSo, cutD, gLen, eLenN, lenD, gList, gTuple, gN, gT, setAll, eMt, tyD, eIsi, gAdd, gSub, gDiv, gMod, gMul, gPow, gLt, gLe, gGt, gGe, gStr, gMin, gIn, gNotIn, gIs, gIsNot, isD, eLenSc, eIxSc, eScNil, eAppTn, sTown, tYesM, noEx_ok, itemG, stepS, iAll, itemsOf, iR1, iR2, wipeE, restE, keepE, sAug, gIadd, gImul, eApp, eExt, eNeg, List.getD_cons_zero, List.getD_cons_succ, List.set_cons_zero, List.set_cons_succ, List.getElem?_cons_zero, List.getElem?_cons_succ, Option.map_some, Option.map_none, Bool.not_true, Bool.not_false, beq_self_eq_true, if_true, if_false, ite_true, ite_false, Bool.false_eq_true, reduceIte, reduceCtorEq, lenL_0, lenL_1, lenL_2, lenL_3, lenL_4, lenL_5, lenL_6, lenL_7, lenL_8, lenL_9, lenL_10, lenL_11, lenL_12, call_fin, eCallF_eq, put_ok, put_ex, finC_nx, finC_rt, finC_ex, List.length_cons, List.length_nil, Nat.reduceAdd, Nat.reduceSub, List.replicate_succ, List.replicate_zero, List.cons_append, List.nil_append, item2, Outc, wipeE, keepE, eDic0, eDic1, eDin, eDnotin, eDget, eDgetD, eDgetR, eDgetG, sDput, dkOf, eDlen, eSortDic, eSortDicR, eDvals, eLock, iFz, isFz, gSum, gMax, gCountS, eRev, and_self, and_true, true_and, decide_true, decide_false, Bool.and_self, Bool.and_true, Bool.true_and, litL_0, litL_1, litL_2, litL_3, litL_4, litL_5, litL_6, litL_7, litL_8, litL_9, litL_10, litL_11, litL_12, litL_13, litL_14, litL_15, litL_16, litL_17, litL_18, litL_19, litL_20, litL_21, litL_22, litL_23, litL_24, litL_25, litL_26, litL_27, litL_28, litL_29, litL_30, litL_31, litL_32, l0, keyOf_rw]
  have e3 : kvD n [(x, 0)] = [(rkey n x, .int 0)] := rfl
  rw [e3] at e
  unfold effD at e
  rw [e]
  simp only [cIf_t, bind_ok, bind_ex, bind_st, get_mk, set_mk, sSeq, sEx, sRet, sIf, sSet, sPass, sEx_, sBk, sAsg, sPar2, sPar3, thenS, dv, toD, eC, eN, eMv, eP, eBin, tst, eChain, tAndM, tOrM, tNotM, eAnd, eOr, eNot, eIf, toA, aNil, aCons, asDs, dvs, eTup, eLst, eCall, eIx, eIxN, itemE, eSl, pNo, pSo, cutD, gLen, eLenN, lenD, gList, gTuple, gN, gT, setAll, eMt, tyD, eIsi, gAdd, gSub, gDiv, gMod, gMul, gPow, gLt, gLe, gGt, gGe, gStr, gMin, gIn, gNotIn, gIs, gIsNot, isD, eLenSc, eIxSc, eScNil, eAppTn, sTown, tYesM, noEx_ok, itemG, stepS, iAll, itemsOf, iR1, iR2, wipeE, restE, keepE, sAug, gIadd, gImul, eApp, eExt, eNeg, List.getD_cons_zero, List.getD_cons_succ, List.set_cons_zero, List.set_cons_succ, List.getElem?_cons_zero, List.getElem?_cons_succ, Option.map_some, Option.map_none, Bool.not_true, Bool.not_false, beq_self_eq_true, if_true, if_false, ite_true, ite_false, Bool.false_eq_true, reduceIte, reduceCtorEq, lenL_0, lenL_1, lenL_2, lenL_3, lenL_4, lenL_5, lenL_6, lenL_7, lenL_8, lenL_9, lenL_10, lenL_11, lenL_12, call_fin, eCallF_eq, put_ok, put_ex, finC_nx, finC_rt, finC_ex, List.length_cons, List.length_nil, Nat.reduceAdd, Nat.reduceSub, List.replicate_succ, List.replicate_zero, List.cons_append, List.nil_append, item2, Outc, wipeE, keepE, eDic0, eDic1, eDin, eDnotin, eDget, eDgetD, eDgetR, eDgetG, sDput, dkOf, eDlen, eSortDic, eSortDicR, eDvals, eLock, iFz, isFz, gSum, gMax, gCountS, eRev, and_self, and_true, true_and, decide_true, decide_false, Bool.and_self, Bool.and_true, Bool.true_and, litL_0, litL_1, litL_2, litL_3, litL_4, litL_5, litL_6, litL_7, litL_8, litL_9, litL_10, litL_11, litL_12, litL_13, litL_14, litL_15, litL_16, litL_17, litL_18, litL_19, litL_20, litL_21, litL_22, litL_23, litL_24, litL_25, litL_26, litL_27, litL_28, litL_29, litL_30, litL_31, litL_32]
end
end CO

/-! Pd: the law's spread; in_reach. -/
namespace CO
open PySem PySem.Spec PyProof.Rows L2
open CM

section
variable {n : Nat} {css : List (List Nat)} {r : Bool} {wd : List Ob} {x : Nat}
/-! ### sorted rows -/
theorem keysD_kv (n : Nat) (s : List (Nat × Nat)) : keysD (kvD n s) = (ks s).map (rwD n) := by
  unfold keysD kvD ks
  rw [List.map_map, List.map_map]
  rfl
theorem canSortK_rws (n : Nat) {l : List Nat} (h : l.length ≤ lim) : canSortK (l.map (rwD n)) = true := by
  unfold canSortK
  rw [Bool.and_eq_true, decide_eq_true_eq, List.length_map]
  refine ⟨h, List.all_eq_true.mpr fun a ha => List.all_eq_true.mpr fun b hb => ?_⟩
  obtain ⟨x, _, rfl⟩ := List.mem_map.mp ha
  obtain ⟨y, _, rfl⟩ := List.mem_map.mp hb
  rfl
theorem canSort_rws (n : Nat) {l : List Nat} (h : l.length ≤ lim) : canSort (l.map (rwD n)) = true := by
  unfold canSort
  rw [Bool.and_eq_true, Bool.and_eq_true, Bool.and_eq_true, decide_eq_true_eq, List.length_map]
  refine ⟨⟨⟨h, ?_⟩, ?_⟩, ?_⟩
  · refine List.all_eq_true.mpr fun a ha => ?_
    obtain ⟨x, _, rfl⟩ := List.mem_map.mp ha
    exact shaped_str (rw_ok n x)
  · refine List.all_eq_true.mpr fun a ha => List.all_eq_true.mpr fun b hb => ?_
    obtain ⟨x, _, rfl⟩ := List.mem_map.mp ha
    obtain ⟨y, _, rfl⟩ := List.mem_map.mp hb
    rfl
  · unfold sort3
    rw [Bool.or_eq_true, Bool.or_eq_true]
    refine .inl (.inr ?_)
    refine List.all_eq_true.mpr fun a ha => ?_
    obtain ⟨x, _, rfl⟩ := List.mem_map.mp ha
    rfl
theorem gSort_rws (n : Nat) {l : List Nat} (h : l.length ≤ lim) (e : En) : gSort [.list (l.map (rwD n))] e = .ok (.ow (sortDs (l.map (rwD n)))) e := by
  show (if canSort (l.map (rwD n)) = true then R.ok (Ent.ow (sortDs (l.map (rwD n)))) e else .st) = _
  rw [if_pos (canSort_rws n h)]
theorem bfs_len {E : List Nat} (hn : n ≤ 8) (hE : ∀ e ∈ E, e < 2 ^ n) (hx : x < 2 ^ n) : (bfs E x).length ≤ 256 := by
  obtain ⟨k, _, h1, _, _⟩ := bfs_ends hn hE hx
  rw [h1]
  have := bk_len hE hx k
  have h2 : 2 ^ n ≤ 2 ^ 8 := Nat.pow_le_pow_right (by decide) hn
  omega
/-- the rows in reach, as the dict has them -/
def rch (n : Nat) (css : List (List Nat)) (r : Bool) (x : Nat) : List Nat := ks (bfs (effs n css r) x)
theorem rch_len (hn : n ≤ 8) (hx : x < 2 ^ n) : (rch n css r x).length ≤ 256 := by
  have := bfs_len (E := effs n css r) hn effs_lt hx
  unfold rch ks
  rw [List.length_map]
  exact this
theorem rch_lt (hn : n ≤ 8) (hx : x < 2 ^ n) : ∀ y ∈ rch n css r x, y < 2 ^ n := by
  intro y hy
  obtain ⟨k, _, h1, _, _⟩ := bfs_ends hn (effs_lt (n := n) (css := css) (r := r)) hx
  unfold rch at hy
  rw [h1] at hy
  exact bk_lt effs_lt hx hy
theorem c_in_reach (h : Gm n css) (hx : x < 2 ^ n) : call m_in_reach [.sh (gmD n css r), .sh (rwD n x)] wd = .ok (.ow (sortDs ((rch n css r x).map (rwD n)))) wd := by
  have h8 := h.n8
  have hlim : lim = 100000 := rfl
  have hl : (rch n css r x).length ≤ lim := by have := rch_len (css := css) (r := r) h8 hx; omega
  have hc := canSortK_rws n hl
  unfold m_in_reach
  rw [call_fin]
  unfold f_in_reach
  simp only [cIf_t, bind_ok, bind_ex, bind_st, get_mk, set_mk, sSeq, sEx, sRet, sIf, sSet, sPass, sEx_, sBk, sAsg, sPar2, sPar3, thenS, dv, toD, eC, eN, eMv, eP, eBin, tst, eChain, tAndM, tOrM, tNotM, eAnd, eOr, eNot, eIf, toA, aNil, aCons, asDs, dvs, eTup, eLst, eCall, eIx, eIxN, itemE, eSl, pNo, pSo, cutD, gLen, eLenN, lenD, gList, gTuple, gN, gT, setAll, eMt, tyD, eIsi, gAdd, gSub, gDiv, gMod, gMul, gPow, gLt, gLe, gGt, gGe, gStr, gMin, gIn, gNotIn, gIs, gIsNot, isD, eLenSc, eIxSc, eScNil, eAppTn, sTown, tYesM, noEx_ok, itemG, stepS, iAll, itemsOf, iR1, iR2, wipeE, restE, keepE, sAug, gIadd, gImul, eApp, eExt, eNeg, List.getD_cons_zero, List.getD_cons_succ, List.set_cons_zero, List.set_cons_succ, List.getElem?_cons_zero, List.getElem?_cons_succ, Option.map_some, Option.map_none, Bool.not_true, Bool.not_false, beq_self_eq_true, if_true, if_false, ite_true, ite_false, Bool.false_eq_true, reduceIte, reduceCtorEq, lenL_0, lenL_1, lenL_2, lenL_3, lenL_4, lenL_5, lenL_6, lenL_7, lenL_8, lenL_9, lenL_10, lenL_11, lenL_12, call_fin, eCallF_eq, put_ok, put_ex, finC_nx, finC_rt, finC_ex, List.length_cons, List.length_nil, Nat.reduceAdd, Nat.reduceSub, List.replicate_succ, List.replicate_zero, List.cons_append, List.nil_append, item2, Outc, wipeE, keepE, eDic0, eDic1, eDin, eDnotin, eDget, eDgetD, eDgetR, eDgetG, sDput, dkOf, eDlen, eSortDic, eSortDicR, eDvals, eLock, iFz, isFz, gSum, gMax, gCountS, eRev, and_self, and_true, true_and, decide_true, decide_false, Bool.and_self, Bool.and_true, Bool.true_and, litL_0, litL_1, litL_2, litL_3, litL_4, litL_5, litL_6, litL_7, litL_8, litL_9, litL_10, litL_11, litL_12, litL_13, litL_14, litL_15, litL_16, litL_17, litL_18, litL_19, litL_20, litL_21, litL_22, litL_23, litL_24, litL_25, litL_26, litL_27, litL_28, litL_29, litL_30, litL_31, litL_32, c_check_game h, c_check_row h8, c_steps_from h hx, keysD_kv]
  have e : ks (bfs (effs n css r) x) = rch n css r x := rfl
  rw [e, if_pos hc]
  simp only [cIf_t, bind_ok, bind_ex, bind_st, get_mk, set_mk, sSeq, sEx, sRet, sIf, sSet, sPass, sEx_, sBk, sAsg, sPar2, sPar3, thenS, dv, toD, eC, eN, eMv, eP, eBin, tst, eChain, tAndM, tOrM, tNotM, eAnd, eOr, eNot, eIf, toA, aNil, aCons, asDs, dvs, eTup, eLst, eCall, eIx, eIxN, itemE, eSl, pNo, pSo, cutD, gLen, eLenN, lenD, gList, gTuple, gN, gT, setAll, eMt, tyD, eIsi, gAdd, gSub, gDiv, gMod, gMul, gPow, gLt, gLe, gGt, gGe, gStr, gMin, gIn, gNotIn, gIs, gIsNot, isD, eLenSc, eIxSc, eScNil, eAppTn, sTown, tYesM, noEx_ok, itemG, stepS, iAll, itemsOf, iR1, iR2, wipeE, restE, keepE, sAug, gIadd, gImul, eApp, eExt, eNeg, List.getD_cons_zero, List.getD_cons_succ, List.set_cons_zero, List.set_cons_succ, List.getElem?_cons_zero, List.getElem?_cons_succ, Option.map_some, Option.map_none, Bool.not_true, Bool.not_false, beq_self_eq_true, if_true, if_false, ite_true, ite_false, Bool.false_eq_true, reduceIte, reduceCtorEq, lenL_0, lenL_1, lenL_2, lenL_3, lenL_4, lenL_5, lenL_6, lenL_7, lenL_8, lenL_9, lenL_10, lenL_11, lenL_12, call_fin, eCallF_eq, put_ok, put_ex, finC_nx, finC_rt, finC_ex, List.length_cons, List.length_nil, Nat.reduceAdd, Nat.reduceSub, List.replicate_succ, List.replicate_zero, List.cons_append, List.nil_append, item2, Outc, wipeE, keepE, eDic0, eDic1, eDin, eDnotin, eDget, eDgetD, eDgetR, eDgetG, sDput, dkOf, eDlen, eSortDic, eSortDicR, eDvals, eLock, iFz, isFz, gSum, gMax, gCountS, eRev, and_self, and_true, true_and, decide_true, decide_false, Bool.and_self, Bool.and_true, Bool.true_and, litL_0, litL_1, litL_2, litL_3, litL_4, litL_5, litL_6, litL_7, litL_8, litL_9, litL_10, litL_11, litL_12, litL_13, litL_14, litL_15, litL_16, litL_17, litL_18, litL_19, litL_20, litL_21, litL_22, litL_23, litL_24, litL_25, litL_26, litL_27, litL_28, litL_29, litL_30, litL_31, litL_32]
end
end CO

/-! Pe: marks. -/
namespace CO
open PySem PySem.Spec PyProof.Rows L2
open CM

theorem pl_mem {n k i : Nat} : i ∈ pl n k ↔ i < n ∧ k.testBit i = true := by
  unfold pl
  rw [List.mem_filter, List.mem_range]
theorem pl_zero (n : Nat) : pl n 0 = [] := by
  unfold pl
  exact List.filter_eq_nil_iff.mpr fun a _ => by simp
def Kp (a : Ent) : Prop := a = .no ∨ ∃ d, a = .sh d
section
variable {n : Nat} {css : List (List Nat)} {r : Bool} {wd : List Ob} {x : Nat}
end
end CO

/-! Pf: marks, papers, how many are in reach. -/
namespace CO
open PySem PySem.Spec PyProof.Rows L2
open CM

theorem rch_mem {n : Nat} {css : List (List Nat)} {r : Bool} {x y : Nat} (hn : n ≤ 8) (hx : x < 2 ^ n) : y ∈ rch n css r x ↔ Sp (effs n css r) (x ^^^ y) := (bfs_fin hn effs_lt hx).mem y
theorem ch_item {n x i : Nat} (hn : n ≤ 8) (h : i < n) (e : En) : itemE (.sh (rwD n x)) (i : Nat) e = .ok (.sh (chD (if x.testBit i = true then 116 else 104))) e := by
  have hlim : lim = 100000 := rfl
  have hl : (tx (rwC n x)).length ≤ lim := by rw [tx_len, rwC_len]; omega
  show (if (tx (rwC n x)).length ≤ lim then match atI (rwC n x) (i : Nat) with | some c => R.ok (Ent.sh (.str ⟨#[c]⟩)) e | none => R.st else .st) = _
  rw [if_pos hl, atI_in (by rw [rwC_len]; exact h)]
  have := rwC_get (x := x) h
  rw [List.getElem?_eq_getElem (by rw [rwC_len]; exact h)] at this
  rw [Option.some.inj this]
  rfl
theorem gNe_ch {a b : Nat} (ha : a < 1114112) (hb : b < 1114112) (e : En) : gNe (chD a) (chD b) e = .ok (.sh (.bool (!(a == b)))) e := by
  unfold gNe chD
  rw [if_pos ⟨shaped_str (strOk1 ha), shaped_str (strOk1 hb)⟩, isD_beq_str]
  have : ((⟨#[a]⟩ : Str) == ⟨#[b]⟩) = (a == b) := ch_eq a b
  rw [this]
theorem bit_ne (p q : Bool) : (!((if p = true then 116 else 104 : Nat) == (if q = true then 116 else 104 : Nat))) = (p ^^ q) := by
  cases p <;> cases q <;> rfl
section
variable {n : Nat} {css : List (List Nat)} {r : Bool} {wd : List Ob} {x y : Nat}
end
end CO

/-! Pg: distances, the farthest, solving, sweeping. -/
namespace CO
open PySem PySem.Spec PyProof.Rows L2
open CM

theorem for_bk {g : Ent → En → R Unit} {b : En → R Fl} {d : D} {ds : List D} {e e1 : En} (h : stepS g b d e = .ok .bk e1) : forGo g b (d :: ds) e = .ok .nx e1 := by
  conv => lhs; unfold forGo
  unfold stepS at h
  cases hg : g (.sh d) e with
  | ok u e3 => rw [hg, bind_ok] at h; rw [bind_ok, h, bind_ok]
  | ex c e3 => rw [hg] at h; cases h
  | st => rw [hg] at h; cases h
/-- a search that ends with break -/
theorem forBreak {α : Type} {g : Ent → En → R Unit} {b : En → R Fl} (f : α → D) (E : En → Prop) (p : α → Bool) (X : α → En → Prop) : ∀ (l : List α) (e : En), E e → (∀ a ∈ l, ∀ e, E e → (p a = false → ∃ e', stepS g b (f a) e = .ok .nx e' ∧ E e') ∧ (p a = true → ∃ e', stepS g b (f a) e = .ok .bk e' ∧ X a e')) →
    match l.find? p with
    | none => ∃ e', forGo g b (l.map f) e = .ok .nx e' ∧ E e'
    | some a => ∃ e', forGo g b (l.map f) e = .ok .nx e' ∧ X a e'
  | [], e, h, _ => ⟨e, rfl, h⟩
  | a :: l, e, h, k => by
    obtain ⟨k1, k2⟩ := k a List.mem_cons_self e h
    rw [List.find?_cons]
    cases hp : p a
    · obtain ⟨e1, h1, h2⟩ := k1 hp
      have ih := forBreak f E p X l e1 h2 fun a m => k a (List.mem_cons_of_mem _ m)
      rw [List.map_cons, for_cons h1]
      exact ih
    · obtain ⟨e1, h1, h2⟩ := k2 hp
      refine ⟨e1, ?_, h2⟩
      rw [List.map_cons]
      exact for_bk h1
theorem rw_beq {n x y : Nat} (hx : x < 2 ^ n) (hy : y < 2 ^ n) : (tx (rwC n x) == tx (rwC n y)) = decide (x = y) := by
  show decide (tx (rwC n x) = tx (rwC n y)) = _
  by_cases h : x = y
  · subst h
    rw [decide_eq_true rfl, decide_eq_true rfl]
  · rw [decide_eq_false h, decide_eq_false fun e => h (rwC_inj hx hy (tx_inj e))]
theorem gNe_rw {n x y : Nat} (hx : x < 2 ^ n) (hy : y < 2 ^ n) (e : En) : gNe (rwD n x) (rwD n y) e = .ok (.sh (.bool (!decide (x = y)))) e := by
  unfold gNe rwD
  rw [if_pos ⟨shaped_str (rw_ok n x), shaped_str (rw_ok n y)⟩, isD_beq_str, rw_beq hx hy]
theorem asInts_nats : ∀ l : List Nat, asInts (l.map fun i => PyData.int (i : Nat)) = some (l.map fun i => ((i : Nat) : Int))
  | [] => rfl
  | a :: l => by
    show (asInts (l.map fun i => PyData.int (i : Nat))).map _ = _
    rw [asInts_nats l]; rfl
/-- the greatest distance -/
def mst (s : List (Nat × Nat)) : Int := maxI ((s.map (·.2)).map fun i => ((i : Nat) : Int))
def far (E : List Nat) (x : Nat) : List Nat := (ks (bfs E x)).filter fun y => decide (((vl (bfs E x) y : Nat) : Int) = mst (bfs E x))
section
variable {n : Nat} {css : List (List Nat)} {r : Bool} {wd : List Ob} {x y : Nat}
theorem bfs_lt {E : List Nat} (hn : n ≤ 8) (hE : ∀ e ∈ E, e < 2 ^ n) (hx : x < 2 ^ n) : ∀ z ∈ ks (bfs E x), z < 2 ^ n := by
  intro z hz
  obtain ⟨k, _, h1, _, _⟩ := bfs_ends hn hE hx
  rw [h1] at hz
  exact bk_lt hE hx hz
theorem bfs_vl {E : List Nat} {z : Nat} (hn : n ≤ 8) (hE : ∀ e ∈ E, e < 2 ^ n) (hx : x < 2 ^ n) (hz : z ∈ ks (bfs E x)) : vl (bfs E x) z ≤ 256 := by
  obtain ⟨k, hk, h1, _, _⟩ := bfs_ends hn hE hx
  rw [h1] at hz ⊢
  have B := bk_all (E := E) (x := x) k
  have := (B.val z hz k).mp ((B.mem z).mp hz)
  omega
theorem c_steps_between (h : Gm n css) (hx : x < 2 ^ n) (hy : y < 2 ^ n) : call m_steps_between [.sh (gmD n css r), .sh (rwD n x), .sh (rwD n y)] wd = if Sp (effs n css r) (y ^^^ x) then .ok (.dk (kvD n (bfs (effs n css r) y))) wd else .ex 4 wd := by
  have h8 := h.n8
  have F := bfs_fin h8 (effs_lt (n := n) (css := css) (r := r)) hy
  have hv := kvD_val hx (bfs_lt h8 (effs_lt (n := n) (css := css) (r := r)) hy)
  unfold m_steps_between
  rw [call_fin]
  unfold f_steps_between
  by_cases hs : Sp (effs n css r) (y ^^^ x)
  · rw [if_pos hs]
    rw [if_pos ((F.mem x).mpr hs)] at hv
    simp only [cIf_t, bind_ok, bind_ex, bind_st, get_mk, set_mk, sSeq, sEx, sRet, sIf, sSet, sPass, sEx_, sBk, sAsg, sPar2, sPar3, thenS, dv, toD, eC, eN, eMv, eP, eBin, tst, eChain, tAndM, tOrM, tNotM, eAnd, eOr, eNot, eIf, toA, aNil, aCons, asDs, dvs, eTup, eLst, eCall, eIx, eIxN, itemE, eSl, pNo, pSo, cutD, gLen, eLenN, lenD, gList, gTuple, gN, gT, setAll, eMt, tyD, eIsi, gAdd, gSub, gDiv, gMod, gMul, gPow, gLt, gLe, gGt, gGe, gStr, gMin, gIn, gNotIn, gIs, gIsNot, isD, eLenSc, eIxSc, eScNil, eAppTn, sTown, tYesM, noEx_ok, itemG, stepS, iAll, itemsOf, iR1, iR2, wipeE, restE, keepE, sAug, gIadd, gImul, eApp, eExt, eNeg, List.getD_cons_zero, List.getD_cons_succ, List.set_cons_zero, List.set_cons_succ, List.getElem?_cons_zero, List.getElem?_cons_succ, Option.map_some, Option.map_none, Bool.not_true, Bool.not_false, beq_self_eq_true, if_true, if_false, ite_true, ite_false, Bool.false_eq_true, reduceIte, reduceCtorEq, lenL_0, lenL_1, lenL_2, lenL_3, lenL_4, lenL_5, lenL_6, lenL_7, lenL_8, lenL_9, lenL_10, lenL_11, lenL_12, call_fin, eCallF_eq, put_ok, put_ex, finC_nx, finC_rt, finC_ex, List.length_cons, List.length_nil, Nat.reduceAdd, Nat.reduceSub, List.replicate_succ, List.replicate_zero, List.cons_append, List.nil_append, item2, Outc, wipeE, keepE, eDic0, eDic1, eDin, eDnotin, eDget, eDgetD, eDgetR, eDgetG, sDput, dkOf, eDlen, eSortDic, eSortDicR, eDvals, eLock, iFz, isFz, gSum, gMax, gCountS, eRev, and_self, and_true, true_and, decide_true, decide_false, Bool.and_self, Bool.and_true, Bool.true_and, litL_0, litL_1, litL_2, litL_3, litL_4, litL_5, litL_6, litL_7, litL_8, litL_9, litL_10, litL_11, litL_12, litL_13, litL_14, litL_15, litL_16, litL_17, litL_18, litL_19, litL_20, litL_21, litL_22, litL_23, litL_24, litL_25, litL_26, litL_27, litL_28, litL_29, litL_30, litL_31, litL_32, c_check_rows h, c_steps_from h hy, keyOf_rw, hv, Option.isSome_some]
  · rw [if_neg hs]
    rw [if_neg (fun z => hs ((F.mem x).mp z))] at hv
    simp only [cIf_t, bind_ok, bind_ex, bind_st, get_mk, set_mk, sSeq, sEx, sRet, sIf, sSet, sPass, sEx_, sBk, sAsg, sPar2, sPar3, thenS, dv, toD, eC, eN, eMv, eP, eBin, tst, eChain, tAndM, tOrM, tNotM, eAnd, eOr, eNot, eIf, toA, aNil, aCons, asDs, dvs, eTup, eLst, eCall, eIx, eIxN, itemE, eSl, pNo, pSo, cutD, gLen, eLenN, lenD, gList, gTuple, gN, gT, setAll, eMt, tyD, eIsi, gAdd, gSub, gDiv, gMod, gMul, gPow, gLt, gLe, gGt, gGe, gStr, gMin, gIn, gNotIn, gIs, gIsNot, isD, eLenSc, eIxSc, eScNil, eAppTn, sTown, tYesM, noEx_ok, itemG, stepS, iAll, itemsOf, iR1, iR2, wipeE, restE, keepE, sAug, gIadd, gImul, eApp, eExt, eNeg, List.getD_cons_zero, List.getD_cons_succ, List.set_cons_zero, List.set_cons_succ, List.getElem?_cons_zero, List.getElem?_cons_succ, Option.map_some, Option.map_none, Bool.not_true, Bool.not_false, beq_self_eq_true, if_true, if_false, ite_true, ite_false, Bool.false_eq_true, reduceIte, reduceCtorEq, lenL_0, lenL_1, lenL_2, lenL_3, lenL_4, lenL_5, lenL_6, lenL_7, lenL_8, lenL_9, lenL_10, lenL_11, lenL_12, call_fin, eCallF_eq, put_ok, put_ex, finC_nx, finC_rt, finC_ex, List.length_cons, List.length_nil, Nat.reduceAdd, Nat.reduceSub, List.replicate_succ, List.replicate_zero, List.cons_append, List.nil_append, item2, Outc, wipeE, keepE, eDic0, eDic1, eDin, eDnotin, eDget, eDgetD, eDgetR, eDgetG, sDput, dkOf, eDlen, eSortDic, eSortDicR, eDvals, eLock, iFz, isFz, gSum, gMax, gCountS, eRev, and_self, and_true, true_and, decide_true, decide_false, Bool.and_self, Bool.and_true, Bool.true_and, litL_0, litL_1, litL_2, litL_3, litL_4, litL_5, litL_6, litL_7, litL_8, litL_9, litL_10, litL_11, litL_12, litL_13, litL_14, litL_15, litL_16, litL_17, litL_18, litL_19, litL_20, litL_21, litL_22, litL_23, litL_24, litL_25, litL_26, litL_27, litL_28, litL_29, litL_30, litL_31, litL_32, c_check_rows h, c_steps_from h hy, keyOf_rw, hv, Option.isSome_none]
/-- how far x is from y -/
def dst (E : List Nat) (y x : Nat) : Nat := vl (bfs E y) x
theorem c_distance (h : Gm n css) (hx : x < 2 ^ n) (hy : y < 2 ^ n) : call m_distance [.sh (gmD n css r), .sh (rwD n x), .sh (rwD n y)] wd = if Sp (effs n css r) (y ^^^ x) then .ok (.sh (.int (dst (effs n css r) y x : Nat))) wd else .ex 4 wd := by
  have h8 := h.n8
  have F := bfs_fin h8 (effs_lt (n := n) (css := css) (r := r)) hy
  have hv := kvD_val hx (bfs_lt h8 (effs_lt (n := n) (css := css) (r := r)) hy)
  have hb := c_steps_between (r := r) (wd := wd) h hx hy
  unfold m_distance
  rw [call_fin]
  unfold f_distance
  by_cases hs : Sp (effs n css r) (y ^^^ x)
  · rw [if_pos hs] at hb ⊢
    rw [if_pos ((F.mem x).mpr hs)] at hv
    simp only [cIf_t, bind_ok, bind_ex, bind_st, get_mk, set_mk, sSeq, sEx, sRet, sIf, sSet, sPass, sEx_, sBk, sAsg, sPar2, sPar3, thenS, dv, toD, eC, eN, eMv, eP, eBin, tst, eChain, tAndM, tOrM, tNotM, eAnd, eOr, eNot, eIf, toA, aNil, aCons, asDs, dvs, eTup, eLst, eCall, eIx, eIxN, itemE, eSl, pNo, pSo, cutD, gLen, eLenN, lenD, gList, gTuple, gN, gT, setAll, eMt, tyD, eIsi, gAdd, gSub, gDiv, gMod, gMul, gPow, gLt, gLe, gGt, gGe, gStr, gMin, gIn, gNotIn, gIs, gIsNot, isD, eLenSc, eIxSc, eScNil, eAppTn, sTown, tYesM, noEx_ok, itemG, stepS, iAll, itemsOf, iR1, iR2, wipeE, restE, keepE, sAug, gIadd, gImul, eApp, eExt, eNeg, List.getD_cons_zero, List.getD_cons_succ, List.set_cons_zero, List.set_cons_succ, List.getElem?_cons_zero, List.getElem?_cons_succ, Option.map_some, Option.map_none, Bool.not_true, Bool.not_false, beq_self_eq_true, if_true, if_false, ite_true, ite_false, Bool.false_eq_true, reduceIte, reduceCtorEq, lenL_0, lenL_1, lenL_2, lenL_3, lenL_4, lenL_5, lenL_6, lenL_7, lenL_8, lenL_9, lenL_10, lenL_11, lenL_12, call_fin, eCallF_eq, put_ok, put_ex, finC_nx, finC_rt, finC_ex, List.length_cons, List.length_nil, Nat.reduceAdd, Nat.reduceSub, List.replicate_succ, List.replicate_zero, List.cons_append, List.nil_append, item2, Outc, wipeE, keepE, eDic0, eDic1, eDin, eDnotin, eDget, eDgetD, eDgetR, eDgetG, sDput, dkOf, eDlen, eSortDic, eSortDicR, eDvals, eLock, iFz, isFz, gSum, gMax, gCountS, eRev, and_self, and_true, true_and, decide_true, decide_false, Bool.and_self, Bool.and_true, Bool.true_and, litL_0, litL_1, litL_2, litL_3, litL_4, litL_5, litL_6, litL_7, litL_8, litL_9, litL_10, litL_11, litL_12, litL_13, litL_14, litL_15, litL_16, litL_17, litL_18, litL_19, litL_20, litL_21, litL_22, litL_23, litL_24, litL_25, litL_26, litL_27, litL_28, litL_29, litL_30, litL_31, litL_32, hb, keyOf_rw, Option.bind_some, hv]
    rfl
  · rw [if_neg hs] at hb ⊢
    simp only [cIf_t, bind_ok, bind_ex, bind_st, get_mk, set_mk, sSeq, sEx, sRet, sIf, sSet, sPass, sEx_, sBk, sAsg, sPar2, sPar3, thenS, dv, toD, eC, eN, eMv, eP, eBin, tst, eChain, tAndM, tOrM, tNotM, eAnd, eOr, eNot, eIf, toA, aNil, aCons, asDs, dvs, eTup, eLst, eCall, eIx, eIxN, itemE, eSl, pNo, pSo, cutD, gLen, eLenN, lenD, gList, gTuple, gN, gT, setAll, eMt, tyD, eIsi, gAdd, gSub, gDiv, gMod, gMul, gPow, gLt, gLe, gGt, gGe, gStr, gMin, gIn, gNotIn, gIs, gIsNot, isD, eLenSc, eIxSc, eScNil, eAppTn, sTown, tYesM, noEx_ok, itemG, stepS, iAll, itemsOf, iR1, iR2, wipeE, restE, keepE, sAug, gIadd, gImul, eApp, eExt, eNeg, List.getD_cons_zero, List.getD_cons_succ, List.set_cons_zero, List.set_cons_succ, List.getElem?_cons_zero, List.getElem?_cons_succ, Option.map_some, Option.map_none, Bool.not_true, Bool.not_false, beq_self_eq_true, if_true, if_false, ite_true, ite_false, Bool.false_eq_true, reduceIte, reduceCtorEq, lenL_0, lenL_1, lenL_2, lenL_3, lenL_4, lenL_5, lenL_6, lenL_7, lenL_8, lenL_9, lenL_10, lenL_11, lenL_12, call_fin, eCallF_eq, put_ok, put_ex, finC_nx, finC_rt, finC_ex, List.length_cons, List.length_nil, Nat.reduceAdd, Nat.reduceSub, List.replicate_succ, List.replicate_zero, List.cons_append, List.nil_append, item2, Outc, wipeE, keepE, eDic0, eDic1, eDin, eDnotin, eDget, eDgetD, eDgetR, eDgetG, sDput, dkOf, eDlen, eSortDic, eSortDicR, eDvals, eLock, iFz, isFz, gSum, gMax, gCountS, eRev, and_self, and_true, true_and, decide_true, decide_false, Bool.and_self, Bool.and_true, Bool.true_and, litL_0, litL_1, litL_2, litL_3, litL_4, litL_5, litL_6, litL_7, litL_8, litL_9, litL_10, litL_11, litL_12, litL_13, litL_14, litL_15, litL_16, litL_17, litL_18, litL_19, litL_20, litL_21, litL_22, litL_23, litL_24, litL_25, litL_26, litL_27, litL_28, litL_29, litL_30, litL_31, litL_32, hb]
theorem c_farthest (h : Gm n css) (hx : x < 2 ^ n) : call m_farthest [.sh (gmD n css r), .sh (rwD n x)] wd = .ok (.ow (sortDs ((far (effs n css r) x).map (rwD n)))) wd := by
  have h8 := h.n8
  have hlim : lim = 100000 := rfl
  have hl := bfs_len h8 (effs_lt (n := n) (css := css) (r := r)) hx
  have hlt := bfs_lt h8 (effs_lt (n := n) (css := css) (r := r)) hx
  have F := bfs_fin h8 (effs_lt (n := n) (css := css) (r := r)) hx
  have hx0 : x ∈ ks (bfs (effs n css r) x) := (F.mem x).mpr (by rw [Nat.xor_self]; exact sp_zero _)
  have hvals : (kvD n (bfs (effs n css r) x)).map (·.2) = ((bfs (effs n css r) x).map (·.2)).map fun i => PyData.int (i : Nat) := by
    unfold kvD
    rw [List.map_map, List.map_map]
    rfl
  have hne : ((bfs (effs n css r) x).map (·.2)).map (fun i => ((i : Nat) : Int)) ≠ [] := fun z => by
    rw [List.map_map, List.map_eq_nil_iff] at z
    rw [z] at hx0
    cases hx0
  have hmax : ∀ e, gMax [.list ((kvD n (bfs (effs n css r) x)).map (·.2))] e = .ok (.sh (.int (mst (bfs (effs n css r) x)))) e := fun e => by
    show (match asInts ((kvD n (bfs (effs n css r) x)).map (·.2)) with | some ns => if ns = [] then (R.st : R Ent) else R.ok (Ent.sh (.int (maxI ns))) e | none => (R.st : R Ent)) = _
    rw [hvals, asInts_nats]
    show (if ((bfs (effs n css r) x).map (·.2)).map (fun i => ((i : Nat) : Int)) = [] then R.st else R.ok (Ent.sh (.int (maxI (((bfs (effs n css r) x).map (·.2)).map fun i => ((i : Nat) : Int))))) e) = _
    rw [if_neg hne]
    rfl
  have hlc : ∀ a4, Kp a4 → lc_farthest_0 ⟨[.sh (gmD n css r), .sh (rwD n x), .fz (kvD n (bfs (effs n css r) x)), .sh (.int (mst (bfs (effs n css r) x))), a4], wd⟩ = .ok (.ow ((far (effs n css r) x).map (rwD n))) ⟨[.sh (gmD n css r), .sh (rwD n x), .fz (kvD n (bfs (effs n css r) x)), .sh (.int (mst (bfs (effs n css r) x))), a4], wd⟩ := by
    intro a4 h4
    unfold lc_farthest_0 far
    refine (lcF (e0 := ⟨[.sh (gmD n css r), .sh (rwD n x), .fz (kvD n (bfs (effs n css r) x)), .sh (.int (mst (bfs (effs n css r) x))), a4], wd⟩) (rwD n) (ks (bfs (effs n css r) x)) (fun y => decide (((vl (bfs (effs n css r) x) y : Nat) : Int) = mst (bfs (effs n css r) x))) (rwD n) ?_ ?_ fun z hz => ?_).trans ?_
    · simp only [cIf_t, bind_ok, bind_ex, bind_st, get_mk, set_mk, sSeq, sEx, sRet, sIf, sSet, sPass, sEx_, sBk, sAsg, sPar2, sPar3, thenS, dv, toD, eC, eN, eMv, eP, eBin, tst, eChain, tAndM, tOrM, tNotM, eAnd, eOr, eNot, eIf, toA, aNil, aCons, asDs, dvs, eTup, eLst, eCall, eIx, eIxN, itemE, eSl, pNo, pSo, cutD, gLen, eLenN, lenD, gList, gTuple, gN, gT, setAll, eMt, tyD, eIsi, gAdd, gSub, gDiv, gMod, gMul, gPow, gLt, gLe, gGt, gGe, gStr, gMin, gIn, gNotIn, gIs, gIsNot, isD, eLenSc, eIxSc, eScNil, eAppTn, sTown, tYesM, noEx_ok, itemG, stepS, iAll, itemsOf, iR1, iR2, wipeE, restE, keepE, sAug, gIadd, gImul, eApp, eExt, eNeg, List.getD_cons_zero, List.getD_cons_succ, List.set_cons_zero, List.set_cons_succ, List.getElem?_cons_zero, List.getElem?_cons_succ, Option.map_some, Option.map_none, Bool.not_true, Bool.not_false, beq_self_eq_true, if_true, if_false, ite_true, ite_false, Bool.false_eq_true, reduceIte, reduceCtorEq, lenL_0, lenL_1, lenL_2, lenL_3, lenL_4, lenL_5, lenL_6, lenL_7, lenL_8, lenL_9, lenL_10, lenL_11, lenL_12, call_fin, eCallF_eq, put_ok, put_ex, finC_nx, finC_rt, finC_ex, List.length_cons, List.length_nil, Nat.reduceAdd, Nat.reduceSub, List.replicate_succ, List.replicate_zero, List.cons_append, List.nil_append, item2, Outc, wipeE, keepE, eDic0, eDic1, eDin, eDnotin, eDget, eDgetD, eDgetR, eDgetG, sDput, dkOf, eDlen, eSortDic, eSortDicR, eDvals, eLock, iFz, isFz, gSum, gMax, gCountS, eRev, and_self, and_true, true_and, decide_true, decide_false, Bool.and_self, Bool.and_true, Bool.true_and, litL_0, litL_1, litL_2, litL_3, litL_4, litL_5, litL_6, litL_7, litL_8, litL_9, litL_10, litL_11, litL_12, litL_13, litL_14, litL_15, litL_16, litL_17, litL_18, litL_19, litL_20, litL_21, litL_22, litL_23, litL_24, litL_25, litL_26, litL_27, litL_28, litL_29, litL_30, litL_31, litL_32, keysD_kv]
    · unfold ks; rw [List.length_map]; omega
    · have hv := kvD_val (hlt z hz) hlt
      rw [if_pos hz] at hv
      have hbe : (((vl (bfs (effs n css r) x) z : Nat) : Int) == mst (bfs (effs n css r) x)) = decide (((vl (bfs (effs n css r) x) z : Nat) : Int) = mst (bfs (effs n css r) x)) := rfl
      cases hb : decide (((vl (bfs (effs n css r) x) z : Nat) : Int) = mst (bfs (effs n css r) x)) <;> rw [hb] at hbe <;> simp only [cIf_t, bind_ok, bind_ex, bind_st, get_mk, set_mk, sSeq, sEx, sRet, sIf, sSet, sPass, sEx_, sBk, sAsg, sPar2, sPar3, thenS, dv, toD, eC, eN, eMv, eP, eBin, tst, eChain, tAndM, tOrM, tNotM, eAnd, eOr, eNot, eIf, toA, aNil, aCons, asDs, dvs, eTup, eLst, eCall, eIx, eIxN, itemE, eSl, pNo, pSo, cutD, gLen, eLenN, lenD, gList, gTuple, gN, gT, setAll, eMt, tyD, eIsi, gAdd, gSub, gDiv, gMod, gMul, gPow, gLt, gLe, gGt, gGe, gStr, gMin, gIn, gNotIn, gIs, gIsNot, isD, eLenSc, eIxSc, eScNil, eAppTn, sTown, tYesM, noEx_ok, itemG, stepS, iAll, itemsOf, iR1, iR2, wipeE, restE, keepE, sAug, gIadd, gImul, eApp, eExt, eNeg, List.getD_cons_zero, List.getD_cons_succ, List.set_cons_zero, List.set_cons_succ, List.getElem?_cons_zero, List.getElem?_cons_succ, Option.map_some, Option.map_none, Bool.not_true, Bool.not_false, beq_self_eq_true, if_true, if_false, ite_true, ite_false, Bool.false_eq_true, reduceIte, reduceCtorEq, lenL_0, lenL_1, lenL_2, lenL_3, lenL_4, lenL_5, lenL_6, lenL_7, lenL_8, lenL_9, lenL_10, lenL_11, lenL_12, call_fin, eCallF_eq, put_ok, put_ex, finC_nx, finC_rt, finC_ex, List.length_cons, List.length_nil, Nat.reduceAdd, Nat.reduceSub, List.replicate_succ, List.replicate_zero, List.cons_append, List.nil_append, item2, Outc, wipeE, keepE, eDic0, eDic1, eDin, eDnotin, eDget, eDgetD, eDgetR, eDgetG, sDput, dkOf, eDlen, eSortDic, eSortDicR, eDvals, eLock, iFz, isFz, gSum, gMax, gCountS, eRev, and_self, and_true, true_and, decide_true, decide_false, Bool.and_self, Bool.and_true, Bool.true_and, litL_0, litL_1, litL_2, litL_3, litL_4, litL_5, litL_6, litL_7, litL_8, litL_9, litL_10, litL_11, litL_12, litL_13, litL_14, litL_15, litL_16, litL_17, litL_18, litL_19, litL_20, litL_21, litL_22, litL_23, litL_24, litL_25, litL_26, litL_27, litL_28, litL_29, litL_30, litL_31, litL_32, keyOf_rw, hv, gEq_int, hbe]
    · rcases h4 with rfl | ⟨d, rfl⟩ <;> simp only [cIf_t, bind_ok, bind_ex, bind_st, get_mk, set_mk, sSeq, sEx, sRet, sIf, sSet, sPass, sEx_, sBk, sAsg, sPar2, sPar3, thenS, dv, toD, eC, eN, eMv, eP, eBin, tst, eChain, tAndM, tOrM, tNotM, eAnd, eOr, eNot, eIf, toA, aNil, aCons, asDs, dvs, eTup, eLst, eCall, eIx, eIxN, itemE, eSl, pNo, pSo, cutD, gLen, eLenN, lenD, gList, gTuple, gN, gT, setAll, eMt, tyD, eIsi, gAdd, gSub, gDiv, gMod, gMul, gPow, gLt, gLe, gGt, gGe, gStr, gMin, gIn, gNotIn, gIs, gIsNot, isD, eLenSc, eIxSc, eScNil, eAppTn, sTown, tYesM, noEx_ok, itemG, stepS, iAll, itemsOf, iR1, iR2, wipeE, restE, keepE, sAug, gIadd, gImul, eApp, eExt, eNeg, List.getD_cons_zero, List.getD_cons_succ, List.set_cons_zero, List.set_cons_succ, List.getElem?_cons_zero, List.getElem?_cons_succ, Option.map_some, Option.map_none, Bool.not_true, Bool.not_false, beq_self_eq_true, if_true, if_false, ite_true, ite_false, Bool.false_eq_true, reduceIte, reduceCtorEq, lenL_0, lenL_1, lenL_2, lenL_3, lenL_4, lenL_5, lenL_6, lenL_7, lenL_8, lenL_9, lenL_10, lenL_11, lenL_12, call_fin, eCallF_eq, put_ok, put_ex, finC_nx, finC_rt, finC_ex, List.length_cons, List.length_nil, Nat.reduceAdd, Nat.reduceSub, List.replicate_succ, List.replicate_zero, List.cons_append, List.nil_append, item2, Outc, wipeE, keepE, eDic0, eDic1, eDin, eDnotin, eDget, eDgetD, eDgetR, eDgetG, sDput, dkOf, eDlen, eSortDic, eSortDicR, eDvals, eLock, iFz, isFz, gSum, gMax, gCountS, eRev, and_self, and_true, true_and, decide_true, decide_false, Bool.and_self, Bool.and_true, Bool.true_and, litL_0, litL_1, litL_2, litL_3, litL_4, litL_5, litL_6, litL_7, litL_8, litL_9, litL_10, litL_11, litL_12, litL_13, litL_14, litL_15, litL_16, litL_17, litL_18, litL_19, litL_20, litL_21, litL_22, litL_23, litL_24, litL_25, litL_26, litL_27, litL_28, litL_29, litL_30, litL_31, litL_32, restE]
  have hfl : (far (effs n css r) x).length ≤ lim := by
    have := List.length_filter_le (fun y => decide (((vl (bfs (effs n css r) x) y : Nat) : Int) = mst (bfs (effs n css r) x))) (ks (bfs (effs n css r) x))
    unfold far
    unfold ks at this ⊢
    rw [List.length_map] at this
    omega
  have hc4 := hlc .no (.inl rfl)
  unfold m_farthest
  rw [call_fin]
  unfold f_farthest
  simp only [cIf_t, bind_ok, bind_ex, bind_st, get_mk, set_mk, sSeq, sEx, sRet, sIf, sSet, sPass, sEx_, sBk, sAsg, sPar2, sPar3, thenS, dv, toD, eC, eN, eMv, eP, eBin, tst, eChain, tAndM, tOrM, tNotM, eAnd, eOr, eNot, eIf, toA, aNil, aCons, asDs, dvs, eTup, eLst, eCall, eIx, eIxN, eSl, pNo, pSo, cutD, gLen, eLenN, lenD, gList, gTuple, gN, gT, setAll, eMt, tyD, eIsi, gAdd, gSub, gDiv, gMod, gPow, gLt, gLe, gGt, gGe, gStr, gMin, gIn, gNotIn, gIs, gIsNot, isD, eLenSc, eIxSc, eScNil, eAppTn, sTown, tYesM, noEx_ok, itemG, stepS, iAll, itemsOf, iR1, iR2, wipeE, restE, keepE, sAug, gIadd, eApp, eExt, eNeg, List.getD_cons_zero, List.getD_cons_succ, List.set_cons_zero, List.set_cons_succ, List.getElem?_cons_zero, List.getElem?_cons_succ, Option.map_some, Option.map_none, Bool.not_true, Bool.not_false, beq_self_eq_true, if_true, if_false, ite_true, ite_false, Bool.false_eq_true, reduceIte, reduceCtorEq, lenL_0, lenL_1, lenL_2, lenL_3, lenL_4, lenL_5, lenL_6, lenL_7, lenL_8, lenL_9, lenL_10, lenL_11, lenL_12, call_fin, eCallF_eq, put_ok, put_ex, finC_nx, finC_rt, finC_ex, List.length_cons, List.length_nil, Nat.reduceAdd, Nat.reduceSub, List.replicate_succ, List.replicate_zero, List.cons_append, List.nil_append, item2, Outc, wipeE, keepE, eDic0, eDic1, eDin, eDnotin, eDget, eDgetD, eDgetR, eDgetG, sDput, dkOf, eDlen, eSortDic, eSortDicR, eDvals, eLock, iFz, isFz, eRev, and_self, and_true, true_and, decide_true, decide_false, Bool.and_self, Bool.and_true, Bool.true_and, litL_0, litL_1, litL_2, litL_3, litL_4, litL_5, litL_6, litL_7, litL_8, litL_9, litL_10, litL_11, litL_12, litL_13, litL_14, litL_15, litL_16, litL_17, litL_18, litL_19, litL_20, litL_21, litL_22, litL_23, litL_24, litL_25, litL_26, litL_27, litL_28, litL_29, litL_30, litL_31, litL_32, c_check_game h, c_check_row h8, c_steps_from h hx, hmax, hc4, gSort_rws n hfl, List.all_cons, List.all_nil, Bool.and_self]

/-! ### solving -/
/-- the first move that leads nearer -/
def nxtQ (n : Nat) (css : List (List Nat)) (r : Bool) (s : List (Nat × Nat)) (x : Nat) : Option (Nat × Nat) := (mvL n r 0 css).find? fun q => decide (vl s (x ^^^ effQ n css q) < vl s x)
def slv (n : Nat) (css : List (List Nat)) (r : Bool) (s : List (Nat × Nat)) (y : Nat) : Nat → Nat → List (Nat × Nat)
  | 0, _ => []
  | f + 1, x => if x = y then [] else match nxtQ n css r s x with
    | some q => q :: slv n css r s y f (x ^^^ effQ n css q)
    | none => []
theorem fin_zero {E : List Nat} {s : List (Nat × Nat)} (F : CM.Fin E y s) (hx : x ∈ ks s) : vl s x = 0 ↔ x = y := by
  have h := F.val x hx 0
  constructor
  · intro e
    have : y ^^^ x = 0 := h.mpr (by omega)
    exact (xor_eq0 this).symm
  · rintro rfl
    have : vl s x ≤ 0 := h.mp (show x ^^^ x = 0 from Nat.xor_self x)
    omega
theorem fin_step {E : List Nat} {s : List (Nat × Nat)} (F : CM.Fin E y s) (hx : x ∈ ks s) (hne : x ≠ y) : ∃ e ∈ E, (x ^^^ e) ∈ ks s ∧ vl s (x ^^^ e) < vl s x := by
  have h0 : vl s x ≠ 0 := fun z => hne ((fin_zero F hx).mp z)
  have w : Wk E (vl s x) (y ^^^ x) := (F.val x hx _).mpr (Nat.le_refl _)
  obtain ⟨v, hv⟩ : ∃ v, vl s x = v + 1 := ⟨vl s x - 1, by omega⟩
  rw [hv] at w
  rcases w with w | ⟨e, m, w⟩
  · have := (F.val x hx v).mp w
    omega
  · rw [Nat.xor_assoc] at w
    have hm : (x ^^^ e) ∈ ks s := (F.mem _).mpr (wk_sp w)
    refine ⟨e, m, hm, ?_⟩
    have := (F.val _ hm v).mp w
    omega
theorem fin_down {E : List Nat} {s : List (Nat × Nat)} {e : Nat} (F : CM.Fin E y s) (hx : x ∈ ks s) (he : e ∈ E) (hlt : vl s (x ^^^ e) < vl s x) : (x ^^^ e) ∈ ks s ∧ vl s x = vl s (x ^^^ e) + 1 := by
  have hm : (x ^^^ e) ∈ ks s := (F.mem _).mpr (by rw [← Nat.xor_assoc]; exact sp_xor ((F.mem x).mp hx) (sp_mem he))
  refine ⟨hm, ?_⟩
  have w : Wk E (vl s (x ^^^ e)) (y ^^^ (x ^^^ e)) := (F.val _ hm _).mpr (Nat.le_refl _)
  have : Wk E (vl s (x ^^^ e) + 1) (y ^^^ x) := .inr ⟨e, he, by rw [Nat.xor_assoc]; exact w⟩
  have := (F.val x hx _).mp this
  omega
theorem nxtQ_some {s : List (Nat × Nat)} (F : CM.Fin (effs n css r) y s) (hx : x ∈ ks s) (hne : x ≠ y) : ∃ q, nxtQ n css r s x = some q ∧ q ∈ mvL n r 0 css ∧ (x ^^^ effQ n css q) ∈ ks s ∧ vl s x = vl s (x ^^^ effQ n css q) + 1 := by
  obtain ⟨e, he, h1, h2⟩ := fin_step F hx hne
  obtain ⟨q0, hq0, rfl⟩ := List.mem_map.mp he
  cases hf : nxtQ n css r s x with
  | none =>
    have := List.find?_eq_none.mp hf q0 hq0
    exact absurd h2 (by simpa using this)
  | some q =>
    have hp := List.find?_some hf
    have hq := List.mem_of_find?_eq_some hf
    obtain ⟨a, b⟩ := fin_down F hx (List.mem_map.mpr ⟨q, hq, rfl⟩) (of_decide_eq_true hp)
    exact ⟨q, rfl, hq, a, b⟩
theorem slv_turn (h : Gm n css) {E0 : CM.Fin (effs n css r) y (bfs (effs n css r) y)} (hy : y < 2 ^ n) (hx : x ∈ ks (bfs (effs n css r) y)) (hne : x ≠ y) {a5 a6 : Ent} {acc : List (Nat × Nat)} (hl : acc.length < 1000) :
    ∃ q, nxtQ n css r (bfs (effs n css r) y) x = some q ∧ (x ^^^ effQ n css q) ∈ ks (bfs (effs n css r) y) ∧ vl (bfs (effs n css r) y) x = vl (bfs (effs n css r) y) (x ^^^ effQ n css q) + 1 ∧
      ∃ b5 b6, lb_solve_1 ⟨[.sh (gmD n css r), .sh (rwD n x), .sh (rwD n y), .dk (kvD n (bfs (effs n css r) y)), .ow (mvDs acc), a5, a6], wd⟩ = .ok .nx ⟨[.sh (gmD n css r), .sh (rwD n (x ^^^ effQ n css q)), .sh (rwD n y), .dk (kvD n (bfs (effs n css r) y)), .ow (mvDs (acc ++ [q])), b5, b6], wd⟩ := by
  have h8 := h.n8
  have hlim : lim = 100000 := rfl
  have hlt := bfs_lt h8 (effs_lt (n := n) (css := css) (r := r)) hy
  obtain ⟨q, hq, hqm, h1, h2⟩ := nxtQ_some E0 hx hne
  refine ⟨q, hq, h1, h2, ?_⟩
  have key := forBreak (g := gN 5) (b := lb_solve_0) (fun q : Nat × Nat => mvD q.1 q.2) (fun e => ∃ b5 b6, e = (⟨[.sh (gmD n css r), .sh (rwD n x), .sh (rwD n y), .dk (kvD n (bfs (effs n css r) y)), .ow (mvDs acc), b5, b6], wd⟩ : En)) (fun q => decide (vl (bfs (effs n css r) y) (x ^^^ effQ n css q) < vl (bfs (effs n css r) y) x))
    (fun q e => ∃ b5 b6, e = (⟨[.sh (gmD n css r), .sh (rwD n (x ^^^ effQ n css q)), .sh (rwD n y), .dk (kvD n (bfs (effs n css r) y)), .ow (mvDs (acc ++ [q])), b5, b6], wd⟩ : En)) (mvL n r 0 css) ⟨[.sh (gmD n css r), .sh (rwD n x), .sh (rwD n y), .dk (kvD n (bfs (effs n css r) y)), .ow (mvDs acc), a5, a6], wd⟩ ⟨a5, a6, rfl⟩ (by
    rintro p hp e ⟨b5, b6, rfl⟩
    obtain ⟨_, hpl, _⟩ := mvL_fst css 0 p hp
    have ht := c_turned (wd := wd) (x := x) h8 (tpQ n css p)
    rw [tpQ_mask] at ht
    have htp := c_turned_places (r := r) (wd := wd) h (q := p) (by omega)
    have hm : (x ^^^ effQ n css p) ∈ ks (bfs (effs n css r) y) := (E0.mem _).mpr (by rw [← Nat.xor_assoc]; exact sp_xor ((E0.mem x).mp hx) (sp_mem (List.mem_map.mpr ⟨p, hp, rfl⟩)))
    have v1 := kvD_val (hlt _ hm) hlt
    have v2 := kvD_val (hlt _ hx) hlt
    rw [if_pos hm] at v1
    rw [if_pos hx] at v2
    have hll : (mvDs acc).length < lim := by unfold mvDs; rw [List.length_map]; omega
    have ed : decide (((vl (bfs (effs n css r) y) (x ^^^ effQ n css p) : Nat) : Int) < ((vl (bfs (effs n css r) y) x : Nat) : Int)) = decide (vl (bfs (effs n css r) y) (x ^^^ effQ n css p) < vl (bfs (effs n css r) y) x) := decide_eq_decide.mpr (by omega)
    have eap : mvDs acc ++ [mvD p.1 p.2] = mvDs (acc ++ [p]) := by unfold mvDs; rw [List.map_append]; rfl
    refine ⟨fun hp' => ⟨_, ?_, .sh (mvD p.1 p.2), .sh (rwD n (x ^^^ effQ n css p)), rfl⟩, fun hp' => ⟨_, ?_, .sh (mvD p.1 p.2), .sh (rwD n (x ^^^ effQ n css p)), rfl⟩⟩
    · rw [hp'] at ed
      unfold lb_solve_0
      simp only [cIf_t, bind_ok, bind_ex, bind_st, get_mk, set_mk, sSeq, sEx, sRet, sIf, sSet, sPass, sEx_, sBk, sAsg, sPar2, sPar3, thenS, dv, toD, eC, eN, eMv, eP, eBin, tst, eChain, tAndM, tOrM, tNotM, eAnd, eOr, eNot, eIf, toA, aNil, aCons, asDs, dvs, eTup, eLst, eCall, eIx, eIxN, itemE, eSl, pNo, pSo, cutD, gLen, eLenN, lenD, gList, gTuple, gN, gT, setAll, eMt, tyD, eIsi, gAdd, gSub, gDiv, gMod, gMul, gPow, gLt, gLe, gGt, gGe, gStr, gMin, gIn, gNotIn, gIs, gIsNot, isD, eLenSc, eIxSc, eScNil, eAppTn, sTown, tYesM, noEx_ok, itemG, stepS, iAll, itemsOf, iR1, iR2, wipeE, restE, keepE, sAug, gIadd, gImul, eApp, eExt, eNeg, List.getD_cons_zero, List.getD_cons_succ, List.set_cons_zero, List.set_cons_succ, List.getElem?_cons_zero, List.getElem?_cons_succ, Option.map_some, Option.map_none, Bool.not_true, Bool.not_false, beq_self_eq_true, if_true, if_false, ite_true, ite_false, Bool.false_eq_true, reduceIte, reduceCtorEq, lenL_0, lenL_1, lenL_2, lenL_3, lenL_4, lenL_5, lenL_6, lenL_7, lenL_8, lenL_9, lenL_10, lenL_11, lenL_12, call_fin, eCallF_eq, put_ok, put_ex, finC_nx, finC_rt, finC_ex, List.length_cons, List.length_nil, Nat.reduceAdd, Nat.reduceSub, List.replicate_succ, List.replicate_zero, List.cons_append, List.nil_append, item2, Outc, wipeE, keepE, eDic0, eDic1, eDin, eDnotin, eDget, eDgetD, eDgetR, eDgetG, sDput, dkOf, eDlen, eSortDic, eSortDicR, eDvals, eLock, iFz, isFz, gSum, gMax, gCountS, eRev, and_self, and_true, true_and, decide_true, decide_false, Bool.and_self, Bool.and_true, Bool.true_and, litL_0, litL_1, litL_2, litL_3, litL_4, litL_5, litL_6, litL_7, litL_8, litL_9, litL_10, litL_11, litL_12, litL_13, litL_14, litL_15, litL_16, litL_17, litL_18, litL_19, litL_20, litL_21, litL_22, litL_23, litL_24, litL_25, litL_26, litL_27, litL_28, litL_29, litL_30, litL_31, litL_32, htp, ht, keyOf_rw, v1, v2, ed]
    · rw [hp'] at ed
      unfold lb_solve_0
      simp only [cIf_t, bind_ok, bind_ex, bind_st, get_mk, set_mk, sSeq, sEx, sRet, sIf, sSet, sPass, sEx_, sBk, sAsg, sPar2, sPar3, thenS, dv, toD, eC, eN, eMv, eP, eBin, tst, eChain, tAndM, tOrM, tNotM, eAnd, eOr, eNot, eIf, toA, aNil, aCons, asDs, dvs, eTup, eLst, eCall, eIx, eIxN, itemE, eSl, pNo, pSo, cutD, gLen, eLenN, lenD, gList, gTuple, gN, gT, setAll, eMt, tyD, eIsi, gAdd, gSub, gDiv, gMod, gMul, gPow, gLt, gLe, gGt, gGe, gStr, gMin, gIn, gNotIn, gIs, gIsNot, isD, eLenSc, eIxSc, eScNil, eAppTn, sTown, tYesM, noEx_ok, itemG, stepS, iAll, itemsOf, iR1, iR2, wipeE, restE, keepE, sAug, gIadd, gImul, eApp, eExt, eNeg, List.getD_cons_zero, List.getD_cons_succ, List.set_cons_zero, List.set_cons_succ, List.getElem?_cons_zero, List.getElem?_cons_succ, Option.map_some, Option.map_none, Bool.not_true, Bool.not_false, beq_self_eq_true, if_true, if_false, ite_true, ite_false, Bool.false_eq_true, reduceIte, reduceCtorEq, lenL_0, lenL_1, lenL_2, lenL_3, lenL_4, lenL_5, lenL_6, lenL_7, lenL_8, lenL_9, lenL_10, lenL_11, lenL_12, call_fin, eCallF_eq, put_ok, put_ex, finC_nx, finC_rt, finC_ex, List.length_cons, List.length_nil, Nat.reduceAdd, Nat.reduceSub, List.replicate_succ, List.replicate_zero, List.cons_append, List.nil_append, item2, Outc, wipeE, keepE, eDic0, eDic1, eDin, eDnotin, eDget, eDgetD, eDgetR, eDgetG, sDput, dkOf, eDlen, eSortDic, eSortDicR, eDvals, eLock, iFz, isFz, gSum, gMax, gCountS, eRev, and_self, and_true, true_and, decide_true, decide_false, Bool.and_self, Bool.and_true, Bool.true_and, litL_0, litL_1, litL_2, litL_3, litL_4, litL_5, litL_6, litL_7, litL_8, litL_9, litL_10, litL_11, litL_12, litL_13, litL_14, litL_15, litL_16, litL_17, litL_18, litL_19, litL_20, litL_21, litL_22, litL_23, litL_24, litL_25, litL_26, litL_27, litL_28, litL_29, litL_30, litL_31, litL_32, htp, ht, keyOf_rw, v1, v2, ed, if_pos hll, eap])
  unfold nxtQ at hq
  rw [hq] at key
  obtain ⟨e', e1, b5, b6, rfl⟩ := key
  refine ⟨b5, b6, ?_⟩
  unfold lb_solve_1 lp_solve_0
  simp only [cIf_t, bind_ok, bind_ex, bind_st, get_mk, set_mk, sSeq, sEx, sRet, sIf, sSet, sPass, sEx_, sBk, sAsg, sPar2, sPar3, thenS, dv, toD, eC, eN, eMv, eP, eBin, tst, eChain, tAndM, tOrM, tNotM, eAnd, eOr, eNot, eIf, toA, aNil, aCons, asDs, dvs, eTup, eLst, eCall, eIx, eIxN, itemE, eSl, pNo, pSo, cutD, gLen, eLenN, lenD, gList, gTuple, gN, gT, setAll, eMt, tyD, eIsi, gAdd, gSub, gDiv, gMod, gMul, gPow, gLt, gLe, gGt, gGe, gStr, gMin, gIn, gNotIn, gIs, gIsNot, isD, eLenSc, eIxSc, eScNil, eAppTn, sTown, tYesM, noEx_ok, itemG, stepS, iAll, itemsOf, iR1, iR2, wipeE, restE, keepE, sAug, gIadd, gImul, eApp, eExt, eNeg, List.getD_cons_zero, List.getD_cons_succ, List.set_cons_zero, List.set_cons_succ, List.getElem?_cons_zero, List.getElem?_cons_succ, Option.map_some, Option.map_none, Bool.not_true, Bool.not_false, beq_self_eq_true, if_true, if_false, ite_true, ite_false, Bool.false_eq_true, reduceIte, reduceCtorEq, lenL_0, lenL_1, lenL_2, lenL_3, lenL_4, lenL_5, lenL_6, lenL_7, lenL_8, lenL_9, lenL_10, lenL_11, lenL_12, call_fin, eCallF_eq, put_ok, put_ex, finC_nx, finC_rt, finC_ex, List.length_cons, List.length_nil, Nat.reduceAdd, Nat.reduceSub, List.replicate_succ, List.replicate_zero, List.cons_append, List.nil_append, item2, Outc, wipeE, keepE, eDic0, eDic1, eDin, eDnotin, eDget, eDgetD, eDgetR, eDgetG, sDput, dkOf, eDlen, eSortDic, eSortDicR, eDvals, eLock, iFz, isFz, gSum, gMax, gCountS, eRev, and_self, and_true, true_and, decide_true, decide_false, Bool.and_self, Bool.and_true, Bool.true_and, litL_0, litL_1, litL_2, litL_3, litL_4, litL_5, litL_6, litL_7, litL_8, litL_9, litL_10, litL_11, litL_12, litL_13, litL_14, litL_15, litL_16, litL_17, litL_18, litL_19, litL_20, litL_21, litL_22, litL_23, litL_24, litL_25, litL_26, litL_27, litL_28, litL_29, litL_30, litL_31, litL_32, sFor, c_move_list h]
  exact e1
theorem c_solve (h : Gm n css) (hx : x < 2 ^ n) (hy : y < 2 ^ n) : call m_solve [.sh (gmD n css r), .sh (rwD n x), .sh (rwD n y)] wd = if Sp (effs n css r) (y ^^^ x) then .ok (.ow (mvDs (slv n css r (bfs (effs n css r) y) y 1000 x))) wd else .ex 4 wd := by
  have h8 := h.n8
  have F := bfs_fin h8 (effs_lt (n := n) (css := css) (r := r)) hy
  have hlt := bfs_lt h8 (effs_lt (n := n) (css := css) (r := r)) hy
  have hb := c_steps_between (r := r) (wd := wd) h hx hy
  by_cases hs : Sp (effs n css r) (y ^^^ x)
  · rw [if_pos hs] at hb ⊢
    have hx0 : x ∈ ks (bfs (effs n css r) y) := (F.mem x).mpr hs
    have run : ∀ (m : Nat) (z : Nat) (acc : List (Nat × Nat)) (a5 a6 : Ent) (fu : Nat), z ∈ ks (bfs (effs n css r) y) → vl (bfs (effs n css r) y) z = m → m < fu → acc.length + m < 1000 → ∃ b1 b5 b6, whileGo (tst (eBin gNe (eN 1) (eN 2))) lb_solve_1 fu ⟨[.sh (gmD n css r), .sh (rwD n z), .sh (rwD n y), .dk (kvD n (bfs (effs n css r) y)), .ow (mvDs acc), a5, a6], wd⟩
        = .ok .nx ⟨[.sh (gmD n css r), b1, .sh (rwD n y), .dk (kvD n (bfs (effs n css r) y)), .ow (mvDs (acc ++ slv n css r (bfs (effs n css r) y) y (m + 1) z)), b5, b6], wd⟩ := by
      intro m
      induction m with
      | zero =>
        intro z acc a5 a6 fu hz hv hf hl
        have ez := (fin_zero F hz).mp hv
        obtain ⟨fu', rfl⟩ : ∃ k, fu = k + 1 := ⟨fu - 1, by omega⟩
        refine ⟨.sh (rwD n z), a5, a6, ?_⟩
        rw [while_end (e1 := ⟨[.sh (gmD n css r), .sh (rwD n z), .sh (rwD n y), .dk (kvD n (bfs (effs n css r) y)), .ow (mvDs acc), a5, a6], wd⟩) (by simp only [cIf_t, bind_ok, bind_ex, bind_st, get_mk, set_mk, sSeq, sEx, sRet, sIf, sSet, sPass, sEx_, sBk, sAsg, sPar2, sPar3, thenS, dv, toD, eC, eN, eMv, eP, eBin, tst, eChain, tAndM, tOrM, tNotM, eAnd, eOr, eNot, eIf, toA, aNil, aCons, asDs, dvs, eTup, eLst, eCall, eIx, eIxN, itemE, eSl, pNo, pSo, cutD, gLen, eLenN, lenD, gList, gTuple, gN, gT, setAll, eMt, tyD, eIsi, gAdd, gSub, gDiv, gMod, gMul, gPow, gLt, gLe, gGt, gGe, gStr, gMin, gIn, gNotIn, gIs, gIsNot, isD, eLenSc, eIxSc, eScNil, eAppTn, sTown, tYesM, noEx_ok, itemG, stepS, iAll, itemsOf, iR1, iR2, wipeE, restE, keepE, sAug, gIadd, gImul, eApp, eExt, eNeg, List.getD_cons_zero, List.getD_cons_succ, List.set_cons_zero, List.set_cons_succ, List.getElem?_cons_zero, List.getElem?_cons_succ, Option.map_some, Option.map_none, Bool.not_true, Bool.not_false, beq_self_eq_true, if_true, if_false, ite_true, ite_false, Bool.false_eq_true, reduceIte, reduceCtorEq, lenL_0, lenL_1, lenL_2, lenL_3, lenL_4, lenL_5, lenL_6, lenL_7, lenL_8, lenL_9, lenL_10, lenL_11, lenL_12, call_fin, eCallF_eq, put_ok, put_ex, finC_nx, finC_rt, finC_ex, List.length_cons, List.length_nil, Nat.reduceAdd, Nat.reduceSub, List.replicate_succ, List.replicate_zero, List.cons_append, List.nil_append, item2, Outc, wipeE, keepE, eDic0, eDic1, eDin, eDnotin, eDget, eDgetD, eDgetR, eDgetG, sDput, dkOf, eDlen, eSortDic, eSortDicR, eDvals, eLock, iFz, isFz, gSum, gMax, gCountS, eRev, and_self, and_true, true_and, decide_true, decide_false, Bool.and_self, Bool.and_true, Bool.true_and, litL_0, litL_1, litL_2, litL_3, litL_4, litL_5, litL_6, litL_7, litL_8, litL_9, litL_10, litL_11, litL_12, litL_13, litL_14, litL_15, litL_16, litL_17, litL_18, litL_19, litL_20, litL_21, litL_22, litL_23, litL_24, litL_25, litL_26, litL_27, litL_28, litL_29, litL_30, litL_31, litL_32, gNe_rw (hlt z hz) hy, decide_eq_true ez])]
        show _ = R.ok Fl.nx (⟨[_, _, _, _, .ow (mvDs (acc ++ if z = y then [] else _)), _, _], _⟩ : En)
        rw [if_pos ez, List.append_nil]
      | succ m ih =>
        intro z acc a5 a6 fu hz hv hf hl
        have hne : z ≠ y := fun e => by
          have := (fin_zero F hz).mpr e
          omega
        obtain ⟨q, hq, hm, hd, b5, b6, e1⟩ := slv_turn (E0 := F) (a5 := a5) (a6 := a6) (acc := acc) (wd := wd) h hy hz hne (by omega)
        obtain ⟨fu', rfl⟩ : ∃ k, fu = k + 1 := ⟨fu - 1, by omega⟩
        obtain ⟨c1, c5, c6, e2⟩ := ih (z ^^^ effQ n css q) (acc ++ [q]) b5 b6 fu' hm (by omega) (by omega) (by simp; omega)
        refine ⟨c1, c5, c6, ?_⟩
        rw [while_step (e1 := ⟨[.sh (gmD n css r), .sh (rwD n z), .sh (rwD n y), .dk (kvD n (bfs (effs n css r) y)), .ow (mvDs acc), a5, a6], wd⟩) (by simp only [cIf_t, bind_ok, bind_ex, bind_st, get_mk, set_mk, sSeq, sEx, sRet, sIf, sSet, sPass, sEx_, sBk, sAsg, sPar2, sPar3, thenS, dv, toD, eC, eN, eMv, eP, eBin, tst, eChain, tAndM, tOrM, tNotM, eAnd, eOr, eNot, eIf, toA, aNil, aCons, asDs, dvs, eTup, eLst, eCall, eIx, eIxN, itemE, eSl, pNo, pSo, cutD, gLen, eLenN, lenD, gList, gTuple, gN, gT, setAll, eMt, tyD, eIsi, gAdd, gSub, gDiv, gMod, gMul, gPow, gLt, gLe, gGt, gGe, gStr, gMin, gIn, gNotIn, gIs, gIsNot, isD, eLenSc, eIxSc, eScNil, eAppTn, sTown, tYesM, noEx_ok, itemG, stepS, iAll, itemsOf, iR1, iR2, wipeE, restE, keepE, sAug, gIadd, gImul, eApp, eExt, eNeg, List.getD_cons_zero, List.getD_cons_succ, List.set_cons_zero, List.set_cons_succ, List.getElem?_cons_zero, List.getElem?_cons_succ, Option.map_some, Option.map_none, Bool.not_true, Bool.not_false, beq_self_eq_true, if_true, if_false, ite_true, ite_false, Bool.false_eq_true, reduceIte, reduceCtorEq, lenL_0, lenL_1, lenL_2, lenL_3, lenL_4, lenL_5, lenL_6, lenL_7, lenL_8, lenL_9, lenL_10, lenL_11, lenL_12, call_fin, eCallF_eq, put_ok, put_ex, finC_nx, finC_rt, finC_ex, List.length_cons, List.length_nil, Nat.reduceAdd, Nat.reduceSub, List.replicate_succ, List.replicate_zero, List.cons_append, List.nil_append, item2, Outc, wipeE, keepE, eDic0, eDic1, eDin, eDnotin, eDget, eDgetD, eDgetR, eDgetG, sDput, dkOf, eDlen, eSortDic, eSortDicR, eDvals, eLock, iFz, isFz, gSum, gMax, gCountS, eRev, and_self, and_true, true_and, decide_true, decide_false, Bool.and_self, Bool.and_true, Bool.true_and, litL_0, litL_1, litL_2, litL_3, litL_4, litL_5, litL_6, litL_7, litL_8, litL_9, litL_10, litL_11, litL_12, litL_13, litL_14, litL_15, litL_16, litL_17, litL_18, litL_19, litL_20, litL_21, litL_22, litL_23, litL_24, litL_25, litL_26, litL_27, litL_28, litL_29, litL_30, litL_31, litL_32, gNe_rw (hlt z hz) hy, decide_eq_false hne]) e1, e2]
        have es : slv n css r (bfs (effs n css r) y) y (m + 1 + 1) z = q :: slv n css r (bfs (effs n css r) y) y (m + 1) (z ^^^ effQ n css q) := by
          show (if z = y then [] else match nxtQ n css r (bfs (effs n css r) y) z with | some q => q :: slv n css r (bfs (effs n css r) y) y (m + 1) (z ^^^ effQ n css q) | none => []) = _
          rw [if_neg hne, hq]
        rw [es, List.append_assoc]
        rfl
    have fuel : ∀ (f : Nat) (z : Nat), z ∈ ks (bfs (effs n css r) y) → vl (bfs (effs n css r) y) z < f → ∀ g, f ≤ g → slv n css r (bfs (effs n css r) y) y g z = slv n css r (bfs (effs n css r) y) y f z := by
      intro f
      induction f with
      | zero => intro z _ h; omega
      | succ f ih =>
        intro z hz hv g hg
        obtain ⟨g', rfl⟩ : ∃ k, g = k + 1 := ⟨g - 1, by omega⟩
        show (if z = y then [] else match nxtQ n css r (bfs (effs n css r) y) z with | some q => q :: slv n css r (bfs (effs n css r) y) y g' (z ^^^ effQ n css q) | none => []) = (if z = y then [] else match nxtQ n css r (bfs (effs n css r) y) z with | some q => q :: slv n css r (bfs (effs n css r) y) y f (z ^^^ effQ n css q) | none => [])
        by_cases e : z = y
        · rw [if_pos e, if_pos e]
        · rw [if_neg e, if_neg e]
          obtain ⟨q, hq, _, hm, hd⟩ := nxtQ_some F hz e
          rw [hq]
          dsimp only
          rw [ih _ hm (by omega) g' (by omega)]
    have hvb : vl (bfs (effs n css r) y) x ≤ 300 := Nat.le_trans (bfs_vl h8 effs_lt hy hx0) (by decide)
    obtain ⟨b1, b5, b6, e1⟩ := run (vl (bfs (effs n css r) y) x) x [] .no .no 100000 hx0 rfl (by omega) (by simp; omega)
    rw [List.nil_append, ← fuel _ x hx0 (Nat.lt_succ_self _) 1000 (by omega)] at e1
    unfold m_solve
    rw [call_fin]
    unfold f_solve lp_solve_1 sWhile
    have e0 : (mvDs [] : List D) = [] := rfl
    rw [e0] at e1
    simp only [cIf_t, bind_ok, bind_ex, bind_st, get_mk, set_mk, sSeq, sEx, sRet, sIf, sSet, sPass, sEx_, sBk, sAsg, sPar2, sPar3, thenS, dv, toD, eC, eN, eMv, eP, eBin, tst, eChain, tAndM, tOrM, tNotM, eAnd, eOr, eNot, eIf, toA, aNil, aCons, asDs, dvs, eTup, eLst, eCall, eIx, eIxN, itemE, eSl, pNo, pSo, cutD, gLen, eLenN, lenD, gList, gTuple, gN, gT, setAll, eMt, tyD, eIsi, gAdd, gSub, gDiv, gMod, gMul, gPow, gLt, gLe, gGt, gGe, gStr, gMin, gIn, gNotIn, gIs, gIsNot, isD, eLenSc, eIxSc, eScNil, eAppTn, sTown, tYesM, noEx_ok, itemG, stepS, iAll, itemsOf, iR1, iR2, wipeE, restE, keepE, sAug, gIadd, gImul, eApp, eExt, eNeg, List.getD_cons_zero, List.getD_cons_succ, List.set_cons_zero, List.set_cons_succ, List.getElem?_cons_zero, List.getElem?_cons_succ, Option.map_some, Option.map_none, Bool.not_true, Bool.not_false, beq_self_eq_true, if_true, if_false, ite_true, ite_false, Bool.false_eq_true, reduceIte, reduceCtorEq, lenL_0, lenL_1, lenL_2, lenL_3, lenL_4, lenL_5, lenL_6, lenL_7, lenL_8, lenL_9, lenL_10, lenL_11, lenL_12, call_fin, eCallF_eq, put_ok, put_ex, finC_nx, finC_rt, finC_ex, List.length_cons, List.length_nil, Nat.reduceAdd, Nat.reduceSub, List.replicate_succ, List.replicate_zero, List.cons_append, List.nil_append, item2, Outc, wipeE, keepE, eDic0, eDic1, eDin, eDnotin, eDget, eDgetD, eDgetR, eDgetG, sDput, dkOf, eDlen, eSortDic, eSortDicR, eDvals, eLock, iFz, isFz, gSum, gMax, gCountS, eRev, and_self, and_true, true_and, decide_true, decide_false, Bool.and_self, Bool.and_true, Bool.true_and, litL_0, litL_1, litL_2, litL_3, litL_4, litL_5, litL_6, litL_7, litL_8, litL_9, litL_10, litL_11, litL_12, litL_13, litL_14, litL_15, litL_16, litL_17, litL_18, litL_19, litL_20, litL_21, litL_22, litL_23, litL_24, litL_25, litL_26, litL_27, litL_28, litL_29, litL_30, litL_31, litL_32, hb, e1]
  · rw [if_neg hs] at hb ⊢
    unfold m_solve
    rw [call_fin]
    unfold f_solve
    simp only [cIf_t, bind_ok, bind_ex, bind_st, get_mk, set_mk, sSeq, sEx, sRet, sIf, sSet, sPass, sEx_, sBk, sAsg, sPar2, sPar3, thenS, dv, toD, eC, eN, eMv, eP, eBin, tst, eChain, tAndM, tOrM, tNotM, eAnd, eOr, eNot, eIf, toA, aNil, aCons, asDs, dvs, eTup, eLst, eCall, eIx, eIxN, itemE, eSl, pNo, pSo, cutD, gLen, eLenN, lenD, gList, gTuple, gN, gT, setAll, eMt, tyD, eIsi, gAdd, gSub, gDiv, gMod, gMul, gPow, gLt, gLe, gGt, gGe, gStr, gMin, gIn, gNotIn, gIs, gIsNot, isD, eLenSc, eIxSc, eScNil, eAppTn, sTown, tYesM, noEx_ok, itemG, stepS, iAll, itemsOf, iR1, iR2, wipeE, restE, keepE, sAug, gIadd, gImul, eApp, eExt, eNeg, List.getD_cons_zero, List.getD_cons_succ, List.set_cons_zero, List.set_cons_succ, List.getElem?_cons_zero, List.getElem?_cons_succ, Option.map_some, Option.map_none, Bool.not_true, Bool.not_false, beq_self_eq_true, if_true, if_false, ite_true, ite_false, Bool.false_eq_true, reduceIte, reduceCtorEq, lenL_0, lenL_1, lenL_2, lenL_3, lenL_4, lenL_5, lenL_6, lenL_7, lenL_8, lenL_9, lenL_10, lenL_11, lenL_12, call_fin, eCallF_eq, put_ok, put_ex, finC_nx, finC_rt, finC_ex, List.length_cons, List.length_nil, Nat.reduceAdd, Nat.reduceSub, List.replicate_succ, List.replicate_zero, List.cons_append, List.nil_append, item2, Outc, wipeE, keepE, eDic0, eDic1, eDin, eDnotin, eDget, eDgetD, eDgetR, eDgetG, sDput, dkOf, eDlen, eSortDic, eSortDicR, eDvals, eLock, iFz, isFz, gSum, gMax, gCountS, eRev, and_self, and_true, true_and, decide_true, decide_false, Bool.and_self, Bool.and_true, Bool.true_and, litL_0, litL_1, litL_2, litL_3, litL_4, litL_5, litL_6, litL_7, litL_8, litL_9, litL_10, litL_11, litL_12, litL_13, litL_14, litL_15, litL_16, litL_17, litL_18, litL_19, litL_20, litL_21, litL_22, litL_23, litL_24, litL_25, litL_26, litL_27, litL_28, litL_29, litL_30, litL_31, litL_32, hb]
end
end CO

/-! Ph: sweeps. -/
namespace CO
open PySem PySem.Spec PyProof.Rows L2
open CM

def swpS (n : Nat) (css : List (List Nat)) (y : Nat) (s : Nat × List (Nat × Nat)) (q : Nat × Nat) : Nat × List (Nat × Nat) := if (s.1 ^^^ y).testBit q.2 = true then (s.1 ^^^ effQ n css q, s.2 ++ [q]) else s
def swp (n : Nat) (css : List (List Nat)) (x y : Nat) : Nat × List (Nat × Nat) := (mvL n false 0 css).foldl (swpS n css y) (x, [])
section
variable {n : Nat} {css : List (List Nat)} {r : Bool} {wd : List Ob} {x y : Nat}
theorem swp_lt (hx : x < 2 ^ n) : (swp n css x y).1 < 2 ^ n := by
  unfold swp
  have gen : ∀ (l : List (Nat × Nat)) (s : Nat × List (Nat × Nat)), s.1 < 2 ^ n → (l.foldl (swpS n css y) s).1 < 2 ^ n := by
    intro l
    induction l with
    | nil => exact fun s h => h
    | cons q l ih =>
      intro s h
      refine ih _ ?_
      unfold swpS
      split
      · exact Nat.xor_lt_two_pow h (effP_lt _ _ _)
      · exact h
  exact gen _ _ hx
theorem swp_body (h : Gm n css) {q : Nat × Nat} (hq : q ∈ mvL n r 0 css) (hp : q.2 < n) {s : Nat × List (Nat × Nat)} (hl : s.2.length < 1000) {a4 : Ent} :
    stepS (gN 4) lb_sweep_0 (mvD q.1 q.2) ⟨[.sh (gmD n css r), .sh (rwD n s.1), .sh (rwD n y), .ow (mvDs s.2), a4], wd⟩ = .ok .nx ⟨[.sh (gmD n css r), .sh (rwD n (swpS n css y s q).1), .sh (rwD n y), .ow (mvDs (swpS n css y s q).2), .sh (mvD q.1 q.2)], wd⟩ := by
  have h8 := h.n8
  have hlim : lim = 100000 := rfl
  obtain ⟨_, hpl, _⟩ := mvL_fst css 0 q hq
  have ht := c_turned (wd := wd) (x := s.1) h8 (tpQ n css q)
  rw [tpQ_mask] at ht
  have htp := c_turned_places (r := r) (wd := wd) h (q := q) (by omega)
  have hll : (mvDs s.2).length < lim := by unfold mvDs; rw [List.length_map]; omega
  have eap : mvDs s.2 ++ [mvD q.1 q.2] = mvDs (s.2 ++ [q]) := by unfold mvDs; rw [List.map_append]; rfl
  have im : ∀ e, itemE (.sh (mvD q.1 q.2)) 1 e = .ok (.sh (.int (q.2 : Nat))) e := fun e => rfl
  have hc : ∀ q : Bool, (if q = true then 116 else 104 : Nat) < 1114112 := fun q => by cases q <;> decide
  have hx : (s.1.testBit q.2 ^^ y.testBit q.2) = (s.1 ^^^ y).testBit q.2 := by rw [Nat.testBit_xor]
  unfold lb_sweep_0 swpS
  cases hb : (s.1 ^^^ y).testBit q.2
  · rw [hb] at hx
    simp only [cIf_t, bind_ok, bind_ex, bind_st, get_mk, set_mk, sSeq, sEx, sRet, sIf, sSet, sPass, sEx_, sBk, sAsg, sPar2, sPar3, thenS, dv, toD, eC, eN, eMv, eP, eBin, tst, eChain, tAndM, tOrM, tNotM, eAnd, eOr, eNot, eIf, toA, aNil, aCons, asDs, dvs, eTup, eLst, eCall, eIx, eIxN, eSl, pNo, pSo, cutD, gLen, eLenN, lenD, gList, gTuple, gN, gT, setAll, eMt, tyD, eIsi, gAdd, gSub, gDiv, gMod, gPow, gLt, gLe, gGt, gGe, gStr, gMin, gIn, gNotIn, gIs, gIsNot, isD, eLenSc, eIxSc, eScNil, eAppTn, sTown, tYesM, noEx_ok, itemG, stepS, iAll, itemsOf, iR1, iR2, wipeE, restE, keepE, sAug, gIadd, eApp, eExt, eNeg, List.getD_cons_zero, List.getD_cons_succ, List.set_cons_zero, List.set_cons_succ, List.getElem?_cons_zero, List.getElem?_cons_succ, Option.map_some, Option.map_none, Bool.not_true, Bool.not_false, beq_self_eq_true, if_true, if_false, ite_true, ite_false, Bool.false_eq_true, reduceIte, reduceCtorEq, lenL_0, lenL_1, lenL_2, lenL_3, lenL_4, lenL_5, lenL_6, lenL_7, lenL_8, lenL_9, lenL_10, lenL_11, lenL_12, call_fin, eCallF_eq, put_ok, put_ex, finC_nx, finC_rt, finC_ex, List.length_cons, List.length_nil, Nat.reduceAdd, Nat.reduceSub, List.replicate_succ, List.replicate_zero, List.cons_append, List.nil_append, item2, Outc, wipeE, keepE, eDic0, eDic1, eDin, eDnotin, eDget, eDgetD, eDgetR, eDgetG, sDput, dkOf, eDlen, eSortDic, eSortDicR, eDvals, eLock, iFz, isFz, eRev, and_self, and_true, true_and, decide_true, decide_false, Bool.and_self, Bool.and_true, Bool.true_and, litL_0, litL_1, litL_2, litL_3, litL_4, litL_5, litL_6, litL_7, litL_8, litL_9, litL_10, litL_11, litL_12, litL_13, litL_14, litL_15, litL_16, litL_17, litL_18, litL_19, litL_20, litL_21, litL_22, litL_23, litL_24, litL_25, litL_26, litL_27, litL_28, litL_29, litL_30, litL_31, litL_32, im, ch_item h8 hp, gNe_ch (hc _) (hc _), bit_ne, hx]
  · rw [hb] at hx
    simp only [cIf_t, bind_ok, bind_ex, bind_st, get_mk, set_mk, sSeq, sEx, sRet, sIf, sSet, sPass, sEx_, sBk, sAsg, sPar2, sPar3, thenS, dv, toD, eC, eN, eMv, eP, eBin, tst, eChain, tAndM, tOrM, tNotM, eAnd, eOr, eNot, eIf, toA, aNil, aCons, asDs, dvs, eTup, eLst, eCall, eIx, eIxN, eSl, pNo, pSo, cutD, gLen, eLenN, lenD, gList, gTuple, gN, gT, setAll, eMt, tyD, eIsi, gAdd, gSub, gDiv, gMod, gPow, gLt, gLe, gGt, gGe, gStr, gMin, gIn, gNotIn, gIs, gIsNot, isD, eLenSc, eIxSc, eScNil, eAppTn, sTown, tYesM, noEx_ok, itemG, stepS, iAll, itemsOf, iR1, iR2, wipeE, restE, keepE, sAug, gIadd, eApp, eExt, eNeg, List.getD_cons_zero, List.getD_cons_succ, List.set_cons_zero, List.set_cons_succ, List.getElem?_cons_zero, List.getElem?_cons_succ, Option.map_some, Option.map_none, Bool.not_true, Bool.not_false, beq_self_eq_true, if_true, if_false, ite_true, ite_false, Bool.false_eq_true, reduceIte, reduceCtorEq, lenL_0, lenL_1, lenL_2, lenL_3, lenL_4, lenL_5, lenL_6, lenL_7, lenL_8, lenL_9, lenL_10, lenL_11, lenL_12, call_fin, eCallF_eq, put_ok, put_ex, finC_nx, finC_rt, finC_ex, List.length_cons, List.length_nil, Nat.reduceAdd, Nat.reduceSub, List.replicate_succ, List.replicate_zero, List.cons_append, List.nil_append, item2, Outc, wipeE, keepE, eDic0, eDic1, eDin, eDnotin, eDget, eDgetD, eDgetR, eDgetG, sDput, dkOf, eDlen, eSortDic, eSortDicR, eDvals, eLock, iFz, isFz, eRev, and_self, and_true, true_and, decide_true, decide_false, Bool.and_self, Bool.and_true, Bool.true_and, litL_0, litL_1, litL_2, litL_3, litL_4, litL_5, litL_6, litL_7, litL_8, litL_9, litL_10, litL_11, litL_12, litL_13, litL_14, litL_15, litL_16, litL_17, litL_18, litL_19, litL_20, litL_21, litL_22, litL_23, litL_24, litL_25, litL_26, litL_27, litL_28, litL_29, litL_30, litL_31, litL_32, im, ch_item h8 hp, gNe_ch (hc _) (hc _), bit_ne, hx, htp, ht, if_pos hll, eap]
theorem mv_place {q : Nat × Nat} (h : Gm n css) (hq : q ∈ mvL n r 0 css) : q.2 < n := by
  obtain ⟨_, h2, h3⟩ := mvL_fst css 0 q hq
  rw [Nat.zero_add] at h2
  have hc : css.getD q.1 [] ∈ css := by
    rw [List.getD_eq_getElem?_getD, List.getElem?_eq_getElem h2]
    exact List.getElem_mem h2
  have h1 := (shp_of' (h.sh _ hc)).1
  have hn := h.le _ hc
  rw [Nat.sub_zero] at h3
  unfold placesN at h3
  split at h3 <;> omega
theorem c_sweep (h : Gm n css) (h1 : css.length = 1) (hx : x < 2 ^ n) (hy : y < 2 ^ n) : call m_sweep [.sh (gmD n css false), .sh (rwD n x), .sh (rwD n y)] wd = if (swp n css x y).1 = y then .ok (.ow (mvDs (swp n css x y).2)) wd else .ex 4 wd := by
  have h8 := h.n8
  have hlim : lim = 100000 := rfl
  have i2 : ∀ e, itemE (.sh (gmD n css false)) 2 e = .ok (.sh (.bool false)) e := fun e => rfl
  have i1 : ∀ e, itemE (.sh (gmD n css false)) 1 e = .ok (.sh (.tuple (css.map strD))) e := fun e => rfl
  have hlen : (css.map strD).length = 1 := by rw [List.length_map, h1]
  have hd : decide ((1 : Int) < ((1 : Nat) : Int)) = false := by decide
  obtain ⟨e', e1, _, a4, rfl⟩ := forE (g := gN 4) (b := lb_sweep_0) (fun q : Nat × Nat => mvD q.1 q.2) (fun j (s : Nat × List (Nat × Nat)) e => s.2.length ≤ j ∧ ∃ a4, e = (⟨[.sh (gmD n css false), .sh (rwD n s.1), .sh (rwD n y), .ow (mvDs s.2), a4], wd⟩ : En)) (swpS n css y) (mvL n false 0 css) 0 (x, []) ⟨[.sh (gmD n css false), .sh (rwD n x), .sh (rwD n y), .ow (mvDs []), .no], wd⟩ ⟨Nat.le_refl _, _, rfl⟩ (by
    rintro j q s e hq _ hj ⟨hl, a4, rfl⟩
    have hml := mvL_len (n := n) (r := false) css 0
    rw [h1] at hml
    refine ⟨_, swp_body h hq (mv_place h hq) (by omega), ?_, _, rfl⟩
    unfold swpS
    split
    · simp; omega
    · omega)
  have es : (mvL n false 0 css).foldl (swpS n css y) (x, []) = swp n css x y := rfl
  rw [es] at e1
  have e0 : (mvDs [] : List D) = [] := rfl
  have em : (mvL n false 0 css).map (fun q => mvD q.1 q.2) = mvDs (mvL n false 0 css) := rfl
  rw [e0, em] at e1
  have hn := gNe_rw (n := n) (swp_lt (css := css) (y := y) hx) hy
  unfold m_sweep
  rw [call_fin]
  unfold f_sweep lp_sweep_0
  by_cases hq : (swp n css x y).1 = y
  · rw [if_pos hq]
    rw [decide_eq_true hq] at hn
    simp only [cIf_t, bind_ok, bind_ex, bind_st, get_mk, set_mk, sSeq, sEx, sRet, sIf, sSet, sPass, sEx_, sBk, sAsg, sPar2, sPar3, thenS, dv, toD, eC, eN, eMv, eP, eBin, tst, eChain, tAndM, tOrM, tNotM, eAnd, eOr, eNot, eIf, toA, aNil, aCons, asDs, dvs, eTup, eLst, eCall, eIx, eIxN, eSl, pNo, pSo, cutD, gLen, eLenN, lenD, gList, gTuple, gN, gT, setAll, eMt, tyD, eIsi, gAdd, gSub, gDiv, gMod, gPow, gLt, gLe, gGt, gGe, gStr, gMin, gIn, gNotIn, gIs, gIsNot, isD, eLenSc, eIxSc, eScNil, eAppTn, sTown, tYesM, noEx_ok, itemG, stepS, iAll, itemsOf, iR1, iR2, wipeE, restE, keepE, sAug, gIadd, eApp, eExt, eNeg, List.getD_cons_zero, List.getD_cons_succ, List.set_cons_zero, List.set_cons_succ, List.getElem?_cons_zero, List.getElem?_cons_succ, Option.map_some, Option.map_none, Bool.not_true, Bool.not_false, beq_self_eq_true, if_true, if_false, ite_true, ite_false, Bool.false_eq_true, reduceIte, reduceCtorEq, lenL_0, lenL_1, lenL_2, lenL_3, lenL_4, lenL_5, lenL_6, lenL_7, lenL_8, lenL_9, lenL_10, lenL_11, lenL_12, call_fin, eCallF_eq, put_ok, put_ex, finC_nx, finC_rt, finC_ex, List.length_cons, List.length_nil, Nat.reduceAdd, Nat.reduceSub, List.replicate_succ, List.replicate_zero, List.cons_append, List.nil_append, item2, Outc, wipeE, keepE, eDic0, eDic1, eDin, eDnotin, eDget, eDgetD, eDgetR, eDgetG, sDput, dkOf, eDlen, eSortDic, eSortDicR, eDvals, eLock, iFz, isFz, eRev, and_self, and_true, true_and, decide_true, decide_false, Bool.and_self, Bool.and_true, Bool.true_and, litL_0, litL_1, litL_2, litL_3, litL_4, litL_5, litL_6, litL_7, litL_8, litL_9, litL_10, litL_11, litL_12, litL_13, litL_14, litL_15, litL_16, litL_17, litL_18, litL_19, litL_20, litL_21, litL_22, litL_23, litL_24, litL_25, litL_26, litL_27, litL_28, litL_29, litL_30, litL_31, litL_32, c_check_game h, i2, i1, hlen, hd, c_check_row h8, sFor, c_move_list h, e1, hn]
  · rw [if_neg hq]
    rw [decide_eq_false hq] at hn
    simp only [cIf_t, bind_ok, bind_ex, bind_st, get_mk, set_mk, sSeq, sEx, sRet, sIf, sSet, sPass, sEx_, sBk, sAsg, sPar2, sPar3, thenS, dv, toD, eC, eN, eMv, eP, eBin, tst, eChain, tAndM, tOrM, tNotM, eAnd, eOr, eNot, eIf, toA, aNil, aCons, asDs, dvs, eTup, eLst, eCall, eIx, eIxN, eSl, pNo, pSo, cutD, gLen, eLenN, lenD, gList, gTuple, gN, gT, setAll, eMt, tyD, eIsi, gAdd, gSub, gDiv, gMod, gPow, gLt, gLe, gGt, gGe, gStr, gMin, gIn, gNotIn, gIs, gIsNot, isD, eLenSc, eIxSc, eScNil, eAppTn, sTown, tYesM, noEx_ok, itemG, stepS, iAll, itemsOf, iR1, iR2, wipeE, restE, keepE, sAug, gIadd, eApp, eExt, eNeg, List.getD_cons_zero, List.getD_cons_succ, List.set_cons_zero, List.set_cons_succ, List.getElem?_cons_zero, List.getElem?_cons_succ, Option.map_some, Option.map_none, Bool.not_true, Bool.not_false, beq_self_eq_true, if_true, if_false, ite_true, ite_false, Bool.false_eq_true, reduceIte, reduceCtorEq, lenL_0, lenL_1, lenL_2, lenL_3, lenL_4, lenL_5, lenL_6, lenL_7, lenL_8, lenL_9, lenL_10, lenL_11, lenL_12, call_fin, eCallF_eq, put_ok, put_ex, finC_nx, finC_rt, finC_ex, List.length_cons, List.length_nil, Nat.reduceAdd, Nat.reduceSub, List.replicate_succ, List.replicate_zero, List.cons_append, List.nil_append, item2, Outc, wipeE, keepE, eDic0, eDic1, eDin, eDnotin, eDget, eDgetD, eDgetR, eDgetG, sDput, dkOf, eDlen, eSortDic, eSortDicR, eDvals, eLock, iFz, isFz, eRev, and_self, and_true, true_and, decide_true, decide_false, Bool.and_self, Bool.and_true, Bool.true_and, litL_0, litL_1, litL_2, litL_3, litL_4, litL_5, litL_6, litL_7, litL_8, litL_9, litL_10, litL_11, litL_12, litL_13, litL_14, litL_15, litL_16, litL_17, litL_18, litL_19, litL_20, litL_21, litL_22, litL_23, litL_24, litL_25, litL_26, litL_27, litL_28, litL_29, litL_30, litL_31, litL_32, c_check_game h, i2, i1, hlen, hd, c_check_row h8, sFor, c_move_list h, e1, hn]
end
end CO

/-! Pi: what the laws need: comparing, asking. -/
namespace CO
open PySem PySem.Spec PyProof.Rows L2
open CM

theorem nself {d : D} (h : SeqAt.shaped d = true) (e : En) : gNe d d e = .ok (.sh (.bool false)) e := by
  unfold gNe
  rw [if_pos ⟨h, h⟩, SeqAt.eqv_refl d (SeqAt.canLay_of_shaped h)]
  rfl
theorem seqn {a b : En → R Fl} {en e1 : En} (h : a en = .ok .nx e1) : sSeq a b en = b e1 := by
  unfold sSeq
  rw [h, bind_ok]
  rfl
/-- on to a law's end, statement by statement -/
def Ends (a : En → R Fl) (en : En) (r : Ent) : Prop := ∃ e, a en = .ok (.rt r) e
theorem seqE {a b : En → R Fl} {en e1 : En} {r : Ent} (h : a en = .ok .nx e1) (k : Ends b e1 r) : Ends (sSeq a b) en r := by
  obtain ⟨e, k⟩ := k
  exact ⟨e, by rw [seqn h]; exact k⟩
theorem endE {a : En → R Fl} {en e : En} {r : Ent} (h : a en = .ok (.rt r) e) : Ends a en r := ⟨e, h⟩
theorem law_end {nN : Nat} {f : En → R Fl} {es : List Ent} {wd : List Ob} {r : Ent} (h : Ends f ⟨es ++ List.replicate (nN - es.length) .no, wd⟩ r) : ∃ e, finM nN f es wd = .ok r e := by
  obtain ⟨e, h⟩ := h
  refine law_of ⟨e.wd, ?_⟩
  rw [call_fin, h]
  rfl
section
variable {n : Nat} {css : List (List Nat)} {r : Bool} {wd : List Ob} {x y : Nat}
theorem shaped_mvl (l : List (Nat × Nat)) : SeqAt.shaped (.list (mvDs l)) = true := shaped_mvs l
end
end CO

/-! Pj: sorted rows, marks as data, numbers compared. -/
namespace CO
open PySem PySem.Spec PyProof.Rows L2
open CM

theorem Kp.fz {a : Ent} (h : Kp a) : isFz a = false := by rcases h with rfl | ⟨d, rfl⟩ <;> rfl
def srw (n : Nat) (l : List Nat) : List Nat := l.mergeSort fun a b => leD (rwD n a) (rwD n b)
theorem srw_map (n : Nat) (l : List Nat) : sortDs (l.map (rwD n)) = (srw n l).map (rwD n) := by
  unfold sortDs srw
  exact (List.map_mergeSort (f := rwD n) (fun a _ b _ => rfl)).symm
theorem srw_perm (n : Nat) (l : List Nat) : (srw n l).Perm l := List.mergeSort_perm _ _
theorem gNe_nat (a b : Nat) (e : En) : gNe (.int (a : Nat)) (.int (b : Nat)) e = .ok (.sh (.bool (!decide (a = b)))) e := by
  rw [gNe_int]
  congr 4
  show decide (((a : Nat) : Int) = ((b : Nat) : Int)) = _
  exact decide_eq_decide.mpr (by omega)
theorem gEq_nat (a b : Nat) (e : En) : gEq (.int (a : Nat)) (.int (b : Nat)) e = .ok (.sh (.bool (decide (a = b)))) e := by
  rw [gEq_int]
  congr 3
  show decide (((a : Nat) : Int) = ((b : Nat) : Int)) = _
  exact decide_eq_decide.mpr (by omega)
section
variable {n : Nat} {css : List (List Nat)} {r : Bool} {wd : List Ob} {x y : Nat}
end
end CO

/-! comprehensions whose items draw; distances are even-handed and obey the triangle. -/
namespace CO
open PySem PySem.Spec PyProof.Rows L2
open CM

section
variable {E : List Nat} {x y u v : Nat} {s t : List (Nat × Nat)}
theorem dst_wk (F : CM.Fin E x s) (hu : u ∈ ks s) : Wk E (vl s u) (x ^^^ u) := (F.val u hu _).mpr (Nat.le_refl _)
theorem xor4 (a b c : Nat) : (a ^^^ c) ^^^ (b ^^^ c) = a ^^^ b := by
  rw [Nat.xor_comm b c, Nat.xor_assoc, ← Nat.xor_assoc c c b, Nat.xor_self, Nat.zero_xor]
end
theorem vl_vals : ∀ {s : List (Nat × Nat)}, (ks s).Nodup → (ks s).map (vl s) = s.map (·.2)
  | [], _ => rfl
  | (a, b) :: s, h => by
    have h' : (a :: ks s).Nodup := h
    have hn := List.nodup_cons.mp h'
    have ih := vl_vals hn.2
    show vl ((a, b) :: s) a :: (ks s).map (vl ((a, b) :: s)) = b :: s.map (·.2)
    have e1 : vl ((a, b) :: s) a = b := by
      show (if a = a then b else vl s a) = b
      rw [if_pos rfl]
    have e2 : (ks s).map (vl ((a, b) :: s)) = (ks s).map (vl s) := by
      refine List.map_congr_left fun z hz => ?_
      show (if a = z then b else vl s z) = vl s z
      rw [if_neg (fun e : a = z => hn.1 (by rw [e]; exact hz))]
    rw [e1, e2, ih]
section
variable {n : Nat} {css : List (List Nat)} {r : Bool} {s : List (Nat × Nat)} {y : Nat}
end
end CO

/-! shapes: check_shapes, product. -/
namespace CO
open PySem PySem.Spec PyProof.Rows L2
open CM
section
variable {wd : List Ob} {cs ds : List Nat}
end
end CO

/-! effects are not nothing; a game of its first shape alone; a sweep's row is in reach. -/
namespace CO
open PySem PySem.Spec PyProof.Rows L2
open CM
section
variable {n : Nat} {css : List (List Nat)} {r : Bool} {wd : List Ob} {x y : Nat} {c : List Nat}
theorem effP_bit (n p i : Nat) (c : List Nat) : (effP n p c).testBit i = (decide (i < n) && decide ((i : Int) ∈ tpL n p 0 c)) := mk_bit _ _ _
theorem Gm.one (h : Gm n css) : Gm n (css.take 1) := by
  have h1 := h.c1
  refine ⟨h.n1, h.n8, by rw [List.length_take]; omega, by rw [List.length_take]; omega, fun c hc => h.sh c (List.mem_of_mem_take hc), fun c hc => h.le c (List.mem_of_mem_take hc), ?_⟩
  cases css with
  | nil => rfl
  | cons a l => rfl
end
end CO

/-! sorting does not look at the order. -/
namespace CO
open PySem PySem.Spec PyProof.Rows L2
open CM
def tupI (l : List Int) : D := .tuple (l.map .int)
theorem leD_tups (a b : List Int) : leD (tupI a) (tupI b) = decide (a ≤ b) := by
  show (!PySem.W.dataLt (.tuple (b.map .int)) (.tuple (a.map .int))) = _
  rw [PySem.W.dataLt_tuple]
  show (!PySem.W.rowLt (b.map .int) (a.map .int)) = _
  rw [PySem.W.dataLt_ints]
  by_cases h : b < a
  · have h' : ¬ a ≤ b := fun r => List.not_lt.mpr r h
    simp [h, h']
  · have h' : a ≤ b := List.not_lt.mp h
    simp [h, h']
def leT (a b : List Int) : Bool := decide (a ≤ b)
def sortT (l : List (List Int)) : List (List Int) := l.mergeSort leT
theorem sortDs_tups (l : List (List Int)) : sortDs (l.map tupI) = (sortT l).map tupI := by
  unfold sortDs sortT
  exact (List.map_mergeSort fun a _ b _ => (leD_tups a b).symm).symm
theorem sortT_pw (l : List (List Int)) : (sortT l).Pairwise (fun a b => a ≤ b) := by
  have h := List.pairwise_mergeSort (le := leT) (fun a b c => by unfold leT; simp only [decide_eq_true_eq]; exact fun h1 h2 => List.le_trans h1 h2) (fun a b => by unfold leT; simp only [Bool.or_eq_true, decide_eq_true_eq]; exact List.le_total _ _) l
  exact h.imp fun q => of_decide_eq_true q
theorem sortT_done {a b : List (List Int)} (p : a.Perm b) (h : b.Pairwise fun x y => x ≤ y) : sortT a = b :=
  sorted_uniq (fun _ _ h1 h2 => List.le_antisymm h1 h2) (sortT_pw a) h ((List.mergeSort_perm a leT).trans p)
theorem perm_of {a b : List Nat} (ha : a.Nodup) (hb : b.Nodup) (h : ∀ x, x ∈ a ↔ x ∈ b) : a.Perm b := (List.perm_ext_iff_of_nodup ha hb).mpr h
end CO

/-! one shape in a row: its effects bit by bit. -/
namespace CO
open PySem PySem.Spec PyProof.Rows L2
open CM
/-- the shape turns its i-th place -/
def cx (c : List Nat) (i : Nat) : Bool := c[i]? == some 120
theorem tpL_iff {n p : Nat} {z : Int} : ∀ (k : Nat) (c : List Nat), z ∈ tpL n p k c ↔ ∃ i, cx c i = true ∧ z = (((p + (k + i)) % n : Nat) : Int)
  | k, [] => by
    constructor
    · intro h; cases h
    · rintro ⟨i, h, _⟩
      unfold cx at h
      simp at h
  | k, a :: c => by
    show z ∈ (if a = 120 then [(((p + k) % n : Nat) : Int)] else []) ++ tpL n p (k + 1) c ↔ _
    rw [List.mem_append, tpL_iff (k + 1) c]
    constructor
    · rintro (h | ⟨i, h1, h2⟩)
      · by_cases ha : a = 120
        · rw [if_pos ha] at h
          refine ⟨0, ?_, List.mem_singleton.mp h⟩
          unfold cx
          simp [ha]
        · rw [if_neg ha] at h; cases h
      · refine ⟨i + 1, ?_, ?_⟩
        · unfold cx at h1 ⊢
          simpa using h1
        · rw [h2, show k + 1 + i = k + (i + 1) by omega]
    · rintro ⟨i, h1, h2⟩
      cases i with
      | zero =>
        left
        have ha : a = 120 := by
          unfold cx at h1
          simpa using h1
        rw [if_pos ha]
        exact List.mem_singleton.mpr h2
      | succ i =>
        right
        refine ⟨i, ?_, ?_⟩
        · unfold cx at h1 ⊢
          simpa using h1
        · rw [h2, show k + (i + 1) = k + 1 + i by omega]
theorem cx_lt {c : List Nat} {i : Nat} (h : cx c i = true) : i < c.length := by
  unfold cx at h
  by_cases hi : i < c.length
  · exact hi
  · rw [List.getElem?_eq_none (by omega)] at h
    cases h
/-- a shape wholly in the row -/
theorem effP_in {n p : Nat} {c : List Nat} (h : p + c.length ≤ n) (i : Nat) : (effP n p c).testBit i = (decide (p ≤ i) && cx c (i - p)) := by
  rw [effP_bit]
  by_cases hi : i < n
  · rw [decide_eq_true hi, Bool.true_and]
    by_cases hp : p ≤ i
    · rw [decide_eq_true hp, Bool.true_and]
      cases hc : cx c (i - p)
      · refine decide_eq_false fun z => ?_
        obtain ⟨j, h1, h2⟩ := (tpL_iff 0 c).mp z
        have hj := cx_lt h1
        rw [Nat.zero_add, Nat.mod_eq_of_lt (by omega)] at h2
        rw [show i - p = j by omega, h1] at hc
        cases hc
      · refine decide_eq_true ((tpL_iff 0 c).mpr ⟨i - p, hc, ?_⟩)
        rw [Nat.zero_add, show p + (i - p) = i by omega, Nat.mod_eq_of_lt hi]
    · rw [decide_eq_false hp, Bool.false_and]
      refine decide_eq_false fun z => ?_
      obtain ⟨j, h1, h2⟩ := (tpL_iff 0 c).mp z
      have hj := cx_lt h1
      rw [Nat.zero_add, Nat.mod_eq_of_lt (by omega)] at h2
      omega
  · rw [decide_eq_false hi, Bool.false_and]
    cases hc : cx c (i - p)
    · rw [Bool.and_false]
    · have := cx_lt hc
      rw [decide_eq_false (show ¬ p ≤ i by omega), Bool.false_and]
theorem effs_one (n : Nat) (c : List Nat) : effs n [c] false = (List.range (n - c.length + 1)).map fun p => effP n p c := by
  unfold effs
  show List.map (effQ n [c]) ((List.range (placesN n false c)).map (fun p => (0, p)) ++ mvL n false 1 []) = _
  rw [show mvL n false 1 [] = [] from rfl, List.append_nil, List.map_map]
  rfl
theorem shp_first {c : List Nat} (h : shpL c = true) : cx c 0 = true := by
  obtain ⟨h1, _, _, h4, _⟩ := shp_of' h
  rw [List.head?_eq_getElem?] at h4
  unfold cx
  rw [h4]; rfl
end CO

/-! marks of one shape in a row follow from their first places. -/
namespace CO
open PySem PySem.Spec PyProof.Rows L2
open CM
end CO

/-! one shape in a row: each row in reach is made by one set of moves. -/
namespace CO
open PySem PySem.Spec PyProof.Rows L2
open CM
section
variable {n : Nat} {c : List Nat} {x y z t : Nat}
/-- how many moves -/
def mvN (n : Nat) (c : List Nat) : Nat := n - c.length + 1
def ef (n : Nat) (c : List Nat) (p : Nat) : Nat := effP n p c
theorem effs_ef (n : Nat) (c : List Nat) : effs n [c] false = (List.range (mvN n c)).map (ef n c) := effs_one n c
theorem mvL_one (n : Nat) (c : List Nat) : mvL n false 0 [c] = (List.range (mvN n c)).map fun p => (0, p) := by
  show (List.range (placesN n false c)).map (fun p => (0, p)) ++ mvL n false 1 [] = _
  rw [show mvL n false 1 [] = [] from rfl, List.append_nil]
  rfl
theorem ech_one (hc : shpL c = true) (hn : c.length ≤ n) : Ech (ef n c) (mvN n c) := fun p hp => by
  unfold mvN at hp
  have hin : p + c.length ≤ n := by omega
  unfold ef
  refine ⟨fun i hi => ?_, ?_⟩
  · rw [effP_in hin, decide_eq_false (by omega), Bool.false_and]
  · rw [effP_in hin, decide_eq_true (Nat.le_refl _), Nat.sub_self, shp_first hc]; rfl
theorem pl_succ' (m t : Nat) : pl (m + 1) t = pl m t ++ if t.testBit m = true then [m] else [] := by
  unfold pl
  rw [List.range_succ, List.filter_append]
  congr 1
  by_cases h : t.testBit m = true
  · rw [if_pos h, List.filter_cons, if_pos h]; rfl
  · rw [if_neg h, List.filter_cons, if_neg h]; rfl
theorem pl_nd (m t : Nat) : (pl m t).Nodup := List.nodup_range.filter _
theorem pl_pw (m t : Nat) : (pl m t).Pairwise (· < ·) := List.pairwise_lt_range.filter _
theorem comb_mod {e : Nat → Nat} {j : Nat} : ∀ m, j ≤ m → comb e m (t % 2 ^ j) = comb e j t
  | 0, h => by rw [show j = 0 by omega]; rfl
  | m + 1, h => by
    by_cases hj : j = m + 1
    · subst hj
      exact comb_congr fun i hi => by rw [Nat.testBit_mod_two_pow, decide_eq_true hi, Bool.true_and]
    · show comb e m (t % 2 ^ j) ^^^ _ = _
      rw [comb_mod m (by omega), Nat.testBit_mod_two_pow, decide_eq_false (by omega), Bool.false_and, if_neg Bool.false_ne_true, Nat.xor_zero]
/-- the sweep finds the set -/
theorem swp_one (hc : shpL c = true) (hn : c.length ≤ n) (ht : comb (ef n c) (mvN n c) t = x ^^^ y) : swp n [c] x y = (y, (pl (mvN n c) t).map fun p => (0, p)) := by
  have H := ech_one hc hn
  unfold swp
  rw [mvL_one]
  have gen : ∀ j, j ≤ mvN n c → ((List.range j).map fun p => ((0, p) : Nat × Nat)).foldl (swpS n [c] y) (x, []) = (x ^^^ comb (ef n c) j t, (pl j t).map fun p => (0, p)) := by
    intro j
    induction j with
    | zero => intro _; show (x, []) = (x ^^^ 0, []); rw [Nat.xor_zero]
    | succ j ih =>
      intro hj
      rw [List.range_succ, List.map_append, List.foldl_append, ih (by omega)]
      show swpS n [c] y (x ^^^ comb (ef n c) j t, _) (0, j) = _
      have hb : ((x ^^^ comb (ef n c) j t) ^^^ y).testBit j = t.testBit j := by
        have e1 : (x ^^^ comb (ef n c) j t) ^^^ y = comb (ef n c) (mvN n c) (t ^^^ t % 2 ^ j) := by
          rw [comb_xor, ht, comb_mod _ (by omega), Nat.xor_assoc, Nat.xor_comm (comb _ _ _) y, ← Nat.xor_assoc]
        rw [e1, comb_at H (fun i hi => by rw [Nat.testBit_xor, Nat.testBit_mod_two_pow, decide_eq_true hi, Bool.true_and, Bool.xor_self]) _ (Nat.le_refl _) (by omega), Nat.testBit_xor, Nat.testBit_mod_two_pow, decide_eq_false (Nat.lt_irrefl j), Bool.false_and, Bool.xor_false]
      unfold swpS
      rw [pl_succ']
      show (if ((x ^^^ comb (ef n c) j t) ^^^ y).testBit j = true then _ else _) = (x ^^^ (comb (ef n c) j t ^^^ _), _)
      rw [hb]
      by_cases h : t.testBit j = true
      · rw [if_pos h, if_pos h, if_pos h, List.map_append, ← Nat.xor_assoc]
        rfl
      · rw [if_neg h, if_neg h, if_neg h, List.append_nil, Nat.xor_zero]
  rw [gen _ (Nat.le_refl _), ht, xor_cancel']
/-- distances -/
theorem dst_one (hc : shpL c = true) (hn : c.length ≤ n) {s : List (Nat × Nat)} (F : CM.Fin (effs n [c] false) y s) (hz : z ∈ ks s) (ht : comb (ef n c) (mvN n c) t = y ^^^ z) : vl s z = CM.cnt (mvN n c) t := by
  have H := ech_one hc hn
  refine Nat.le_antisymm ((F.val z hz _).mp ?_) ?_
  · rw [effs_ef, ← ht]
    exact comb_wk t _ (Nat.le_refl _)
  · have := dst_wk F hz
    rw [effs_ef, ← ht] at this
    exact wk_comb H this
theorem pl_flip {m p : Nat} (hp : t.testBit p = true) : pl m (t ^^^ 2 ^ p) = (pl m t).filter fun i => !decide (i = p) := by
  unfold pl
  rw [List.filter_filter]
  refine List.filter_congr fun i _ => ?_
  rw [Nat.testBit_xor, Nat.testBit_two_pow]
  by_cases h : p = i
  · subst h
    rw [hp]; simp
  · rw [decide_eq_false h, Bool.xor_false, decide_eq_false (fun e => h e.symm)]; rfl
theorem cnt_one (m p : Nat) (hp : p < m) (hb : t.testBit p = true) : CM.cnt m (t ^^^ 2 ^ p) + 1 = CM.cnt m t := by
  have e1 := pl_flip (m := m) hb
  unfold CM.cnt
  rw [e1]
  have hm : p ∈ pl m t := List.mem_filter.mpr ⟨List.mem_range.mpr hp, hb⟩
  have p1 : (pl m t).Perm (p :: (pl m t).filter fun i => !decide (i = p)) := by
    refine perm_of (pl_nd m t) ?_ fun i => ?_
    · exact List.nodup_cons.mpr ⟨fun h => by have := (List.mem_filter.mp h).2; simp at this, (pl_nd m t).filter _⟩
    · rw [List.mem_cons, List.mem_filter]
      constructor
      · intro h
        by_cases hi : i = p
        · exact .inl hi
        · exact .inr ⟨h, by simp [hi]⟩
      · rintro (rfl | ⟨h, _⟩)
        · exact hm
        · exact h
  have := p1.length_eq
  rw [List.length_cons] at this
  omega
/-- the first shortest list is the sweep -/
theorem slv_one (hc : shpL c = true) (hn : c.length ≤ n) {s : List (Nat × Nat)} (F : CM.Fin (effs n [c] false) y s) : ∀ (f z t : Nat), z ∈ ks s → comb (ef n c) (mvN n c) t = y ^^^ z → CM.cnt (mvN n c) t < f → slv n [c] false s y f z = (pl (mvN n c) t).map fun p => (0, p)
  | 0, _, _, _, _, h => by omega
  | f + 1, z, t, hz, ht, hf => by
    have H := ech_one hc hn
    have hv := dst_one hc hn F hz ht
    show (if z = y then [] else match nxtQ n [c] false s z with | some q => q :: slv n [c] false s y f (z ^^^ effQ n [c] q) | none => []) = _
    by_cases e : z = y
    · rw [if_pos e]
      have h0 := (fin_zero F hz).mpr e
      rw [hv] at h0
      rw [List.eq_nil_of_length_eq_zero h0]
      rfl
    · rw [if_neg e]
      have key : ∀ p, p < mvN n c → (z ^^^ ef n c p) ∈ ks s ∧ comb (ef n c) (mvN n c) (t ^^^ 2 ^ p) = y ^^^ (z ^^^ ef n c p) := by
        intro p hp
        have h1 : comb (ef n c) (mvN n c) (t ^^^ 2 ^ p) = y ^^^ (z ^^^ ef n c p) := by rw [comb_xor, comb_pow hp, ht, Nat.xor_assoc]
        refine ⟨(F.mem _).mpr ?_, h1⟩
        rw [← h1, effs_ef]
        exact comb_sp _ _ (Nat.le_refl _)
      have hp : nxtQ n [c] false s z = ((pl (mvN n c) t).head?).map fun p => (0, p) := by
        unfold nxtQ
        rw [mvL_one, List.find?_map]
        congr 1
        unfold pl
        rw [List.head?_filter]
        have fc : ∀ (l : List Nat) (p q : Nat → Bool), (∀ a ∈ l, p a = q a) → l.find? p = l.find? q := by
          intro l p q h
          induction l with
          | nil => rfl
          | cons a l ih => rw [List.find?_cons, List.find?_cons, h a List.mem_cons_self, ih fun b hb => h b (List.mem_cons_of_mem _ hb)]
        refine fc _ _ _ fun p hp => ?_
        have hp' := List.mem_range.mp hp
        obtain ⟨k1, k2⟩ := key p hp'
        have hv2 := dst_one hc hn F k1 k2
        show decide (vl s (z ^^^ ef n c p) < vl s z) = t.testBit p
        rw [hv2, hv]
        cases hb : t.testBit p
        · refine decide_eq_false ?_
          have hb2 : (t ^^^ 2 ^ p).testBit p = true := by rw [Nat.testBit_xor, hb, Nat.testBit_two_pow_self]; rfl
          have := cnt_one (mvN n c) p hp' hb2
          rw [xor_cancel] at this
          omega
        · refine decide_eq_true ?_
          have := cnt_one (mvN n c) p hp' hb
          omega
      rw [hp]
      cases hl : pl (mvN n c) t with
      | nil =>
        have h0 : vl s z = 0 := by rw [hv]; unfold CM.cnt; rw [hl]; rfl
        exact absurd ((fin_zero F hz).mp h0) e
      | cons p l =>
        have hm : p ∈ pl (mvN n c) t := by rw [hl]; exact List.mem_cons_self
        obtain ⟨hp1, hp2⟩ := List.mem_filter.mp hm
        have hp1 := List.mem_range.mp hp1
        obtain ⟨k1, k2⟩ := key p hp1
        have hc1 := cnt_one (mvN n c) p hp1 hp2
        have ih := slv_one hc hn F f (z ^^^ ef n c p) (t ^^^ 2 ^ p) k1 k2 (by omega)
        have hrest : pl (mvN n c) (t ^^^ 2 ^ p) = l := by
          rw [pl_flip hp2, hl, List.filter_cons, if_neg (by simp)]
          refine List.filter_eq_self.mpr fun i hi => ?_
          have := (List.nodup_cons.mp (by have := pl_nd (mvN n c) t; rwa [hl] at this)).1
          simp only [Bool.not_eq_true', decide_eq_false_iff_not]
          rintro rfl
          exact this hi
        show (0, p) :: slv n [c] false s y f (z ^^^ ef n c p) = (0, p) :: l.map fun p => (0, p)
        rw [ih, hrest]
end
end CO

/-! sweeps of one shape: calls; lists of moves as data. -/
namespace CO
open PySem PySem.Spec PyProof.Rows L2
open CM
def mvP (m t : Nat) : List (Nat × Nat) := (pl m t).map fun p => (0, p)
section
variable {n : Nat} {c : List Nat} {wd : List Ob} {x y z t u : Nat}
theorem Gm.ofOne (hc : shpL c = true) (hn1 : 1 ≤ n) (h8 : n ≤ 8) (hcn : c.length ≤ n) : Gm n [c] := ⟨hn1, h8, by simp, by simp, fun z hz => by rw [List.mem_singleton.mp hz]; exact hc, fun z hz => by rw [List.mem_singleton.mp hz]; exact hcn, rfl⟩
theorem mvN_le (hc : shpL c = true) (hcn : c.length ≤ n) : mvN n c ≤ n := by
  have := (shp_of' hc).1
  unfold mvN
  omega
theorem mvP_len (m t : Nat) : (mvP m t).length = CM.cnt m t := by unfold mvP; rw [List.length_map]; rfl
theorem mvP_le (m t : Nat) : (mvP m t).length ≤ m := by
  unfold mvP pl
  rw [List.length_map]
  have := List.length_filter_le t.testBit (List.range m)
  rwa [List.length_range] at this
theorem mvP_mem {m p : Nat} : (0, p) ∈ mvP m t ↔ p < m ∧ t.testBit p = true := by
  unfold mvP
  rw [List.mem_map]
  constructor
  · rintro ⟨q, hq, e⟩
    injection e with _ e
    subst e
    exact pl_mem.mp hq
  · intro h
    exact ⟨p, pl_mem.mpr h, rfl⟩
theorem c_sweep_one (hg : Gm n [c]) (hx : x < 2 ^ n) (hy : y < 2 ^ n) (ht : comb (ef n c) (mvN n c) t = x ^^^ y) : call m_sweep [.sh (gmD n [c] false), .sh (rwD n x), .sh (rwD n y)] wd = .ok (.ow (mvDs (mvP (mvN n c) t))) wd := by
  have h := c_sweep (wd := wd) hg rfl hx hy
  rw [swp_one (hg.sh c (by simp)) (hg.le c (by simp)) ht] at h
  rw [if_pos rfl] at h
  exact h
theorem in_mvP {m p : Nat} (hp : p < m) : gInB (mvD 0 p) (.list (mvDs (mvP m t))) = some (t.testBit p) := by
  have h := inB_mvs (0 : Nat) (p : Nat) (mvP m t)
  have e : mvD 0 p = .tuple [.int ((0 : Nat) : Int), .int (p : Nat)] := rfl
  rw [e, h]
  congr 1
  have : (∃ q ∈ mvP m t, (q.1 : Int) = ((0 : Nat) : Int) ∧ (q.2 : Int) = (p : Nat)) ↔ t.testBit p = true := by
    constructor
    · rintro ⟨⟨a, b⟩, hq, h1, h2⟩
      have h1 : (a : Int) = ((0 : Nat) : Int) := h1
      have h2 : (b : Int) = (p : Nat) := h2
      have ea : a = 0 := by omega
      have eb : b = p := by omega
      subst ea
      subst eb
      exact (mvP_mem.mp hq).2
    · intro hb
      exact ⟨(0, p), mvP_mem.mpr ⟨hp, hb⟩, rfl, rfl⟩
  cases hb : t.testBit p
  · exact decide_eq_false fun z => by rw [this.mp z] at hb; cases hb
  · exact decide_eq_true (this.mpr hb)
theorem mvDs_tup (l : List Nat) : mvDs (l.map fun p => (0, p)) = (l.map fun p => [(0 : Int), (p : Nat)]).map tupI := by
  unfold mvDs
  rw [List.map_map, List.map_map]
  exact List.map_congr_left fun p _ => rfl
theorem canSort_mvs {l : List (Nat × Nat)} (h : l.length ≤ lim) : canSort (mvDs l) = true := by
  unfold canSort
  rw [Bool.and_eq_true, Bool.and_eq_true, Bool.and_eq_true, decide_eq_true_eq]
  refine ⟨⟨⟨by unfold mvDs; rw [List.length_map]; exact h, ?_⟩, ?_⟩, ?_⟩
  · refine List.all_eq_true.mpr fun a ha => ?_
    obtain ⟨x, _, rfl⟩ := List.mem_map.mp ha
    rfl
  · refine List.all_eq_true.mpr fun a ha => List.all_eq_true.mpr fun b hb => ?_
    obtain ⟨x, _, rfl⟩ := List.mem_map.mp ha
    obtain ⟨y, _, rfl⟩ := List.mem_map.mp hb
    rfl
  · unfold sort3
    rw [Bool.or_eq_true, Bool.or_eq_true]
    refine .inl (.inl (List.all_eq_true.mpr fun a ha => ?_))
    obtain ⟨x, _, rfl⟩ := List.mem_map.mp ha
    rfl
theorem mv_pw {l : List Nat} (h : l.Pairwise (· < ·)) : (l.map fun p => [(0 : Int), (p : Nat)]).Pairwise fun a b => a ≤ b := by
  refine List.pairwise_map.mpr (h.imp fun {a b} q => ?_)
  refine List.le_of_lt ?_
  rw [List.cons_lt_cons_iff]
  refine .inr ⟨rfl, ?_⟩
  rw [List.cons_lt_cons_iff]
  exact .inl (by omega)
/-- what is in one of two sets alone, ascending -/
theorem sym_sort (m t u : Nat) (h8 : m ≤ 8) (e : En) : gSort [.list (mvDs (((pl m t).filter fun p => !u.testBit p).map fun p => (0, p)) ++ mvDs (((pl m u).filter fun p => !t.testBit p).map fun p => (0, p)))] e = .ok (.ow (mvDs (mvP m (t ^^^ u)))) e := by
  have hlim : lim = 100000 := rfl
  have ej : mvDs (((pl m t).filter fun p => !u.testBit p).map fun p => (0, p)) ++ mvDs (((pl m u).filter fun p => !t.testBit p).map fun p => (0, p)) = mvDs (((pl m t).filter (fun p => !u.testBit p) ++ (pl m u).filter (fun p => !t.testBit p)).map fun p => (0, p)) := by
    unfold mvDs
    rw [← List.map_append, ← List.map_append]
  have p : ((pl m t).filter (fun p => !u.testBit p) ++ (pl m u).filter (fun p => !t.testBit p)).Perm (pl m (t ^^^ u)) := by
    refine perm_of ?_ (pl_nd _ _) fun i => ?_
    · refine List.nodup_append.mpr ⟨(pl_nd _ _).filter _, (pl_nd _ _).filter _, fun a ha b hb e => ?_⟩
      subst e
      have h1 := (pl_mem.mp (List.mem_filter.mp ha).1).2
      have h2 := (List.mem_filter.mp hb).2
      rw [h1] at h2
      cases h2
    · rw [List.mem_append, List.mem_filter, List.mem_filter, pl_mem, pl_mem, pl_mem, Nat.testBit_xor]
      cases t.testBit i <;> cases u.testBit i <;> simp
  have hlen : ((pl m t).filter (fun p => !u.testBit p) ++ (pl m u).filter (fun p => !t.testBit p)).length ≤ m := by
    rw [p.length_eq]
    have := mvP_le m (t ^^^ u)
    unfold mvP at this
    rwa [List.length_map] at this
  rw [ej]
  show (if canSort (mvDs (((pl m t).filter (fun p => !u.testBit p) ++ (pl m u).filter (fun p => !t.testBit p)).map fun p => (0, p))) = true then R.ok (Ent.ow (sortDs (mvDs (((pl m t).filter (fun p => !u.testBit p) ++ (pl m u).filter (fun p => !t.testBit p)).map fun p => (0, p))))) e else .st) = _
  rw [if_pos (canSort_mvs (by rw [List.length_map]; omega)), mvDs_tup, sortDs_tups, sortT_done (p.map _) (mv_pw (pl_pw _ _)), ← mvDs_tup]
  rfl
theorem asP_mv : ∀ l : List Nat, asPairs (mvDs (l.map fun p => (0, p))) = some (l.map fun p => ((0 : Int), ((p : Nat) : Int)))
  | [] => rfl
  | p :: l => by
    show (asPairs (mvDs (l.map fun p => (0, p)))).map _ = _
    rw [asP_mv l]; rfl
theorem okP_mv {m : Nat} (h8 : m ≤ 8) : okP ((pl m t).map fun p => ((0 : Int), ((p : Nat) : Int))) := by
  have hl := mvP_le m t
  unfold mvP at hl
  rw [List.length_map] at hl
  refine ⟨by rw [List.length_map]; omega, fun q hq => ?_, List.pairwise_map.mpr ((pl_pw m t).imp fun {a b} q => ?_)⟩
  · obtain ⟨p, hp, rfl⟩ := List.mem_map.mp hq
    have := (pl_mem.mp hp).1
    exact ⟨⟨Int.le_refl _, by show (0 : Int) < 64; decide⟩, by show (0 : Int) ≤ (p : Nat); omega, by show ((p : Nat) : Int) < 64; omega⟩
  · show (0 : Int) * 64 + (a : Nat) < 0 * 64 + (b : Nat)
    omega
/-- playing a set of moves from the right -/
theorem play_back (n : Nat) (c : List Nat) (t : Nat) : ∀ (k x : Nat), (mvP k t).reverse.foldl (fun s q => s ^^^ effQ n [c] q) x = x ^^^ comb (ef n c) k t
  | 0, x => by show x = x ^^^ 0; rw [Nat.xor_zero]
  | k + 1, x => by
    have e : mvP (k + 1) t = mvP k t ++ if t.testBit k = true then [(0, k)] else [] := by
      unfold mvP
      rw [pl_succ', List.map_append]
      split <;> rfl
    rw [e, List.reverse_append, List.foldl_append]
    show _ = x ^^^ (comb (ef n c) k t ^^^ _)
    by_cases h : t.testBit k = true
    · rw [if_pos h, if_pos h]
      show (mvP k t).reverse.foldl _ (x ^^^ ef n c k) = _
      rw [play_back n c t k, Nat.xor_assoc, Nat.xor_comm (ef n c k)]
    · rw [if_neg h, if_neg h, Nat.xor_zero]
      show (mvP k t).reverse.foldl _ x = _
      rw [play_back n c t k]
theorem cnt_le (m t : Nat) : CM.cnt m t ≤ m := by
  have := mvP_le m t
  rwa [mvP_len] at this
theorem cnt_all (m : Nat) : CM.cnt m (2 ^ m - 1) = m := by
  unfold CM.cnt pl
  rw [List.filter_eq_self.mpr fun i hi => by rw [Nat.testBit_two_pow_sub_one]; exact decide_eq_true (List.mem_range.mp hi), List.length_range]
theorem cnt_full {m t : Nat} (h : CM.cnt m t = m) : ∀ i, i < m → t.testBit i = (2 ^ m - 1).testBit i := by
  intro i hi
  have e : pl m t = List.range m := List.Sublist.eq_of_length List.filter_sublist (by rw [List.length_range]; exact h)
  have : i ∈ pl m t := by rw [e]; exact List.mem_range.mpr hi
  rw [(pl_mem.mp this).2, Nat.testBit_two_pow_sub_one, decide_eq_true hi]
theorem far_one (hc : shpL c = true) (hn : c.length ≤ n) (h8 : n ≤ 8) (hx : x < 2 ^ n) : far (effs n [c] false) x = [x ^^^ comb (ef n c) (mvN n c) (2 ^ mvN n c - 1)] := by
  have F := bfs_fin h8 (effs_lt (n := n) (css := [c]) (r := false)) hx
  have val : ∀ y, y ∈ ks (bfs (effs n [c] false) x) → ∃ t, comb (ef n c) (mvN n c) t = x ^^^ y ∧ vl (bfs (effs n [c] false) x) y = CM.cnt (mvN n c) t := by
    intro y hy
    have hs := (F.mem y).mp hy
    rw [effs_ef, sp_comb] at hs
    obtain ⟨t, _, ht⟩ := hs
    exact ⟨t, ht, dst_one hc hn F hy ht⟩
  have h0 : x ^^^ (x ^^^ comb (ef n c) (mvN n c) (2 ^ mvN n c - 1)) = comb (ef n c) (mvN n c) (2 ^ mvN n c - 1) := xor_cancel' _ _
  have y0 : x ^^^ comb (ef n c) (mvN n c) (2 ^ mvN n c - 1) ∈ ks (bfs (effs n [c] false) x) := (F.mem _).mpr (by
    rw [h0, effs_ef]
    exact comb_sp _ _ (Nat.le_refl _))
  have v0 : vl (bfs (effs n [c] false) x) (x ^^^ comb (ef n c) (mvN n c) (2 ^ mvN n c - 1)) = mvN n c := by
    rw [dst_one hc hn F y0 h0.symm, cnt_all]
  have hm : mst (bfs (effs n [c] false) x) = ((mvN n c : Nat) : Int) := by
    unfold mst
    rw [← vl_vals F.nd]
    refine (maxI_uniq ?_ ?_).symm
    · exact List.mem_map.mpr ⟨mvN n c, List.mem_map.mpr ⟨_, y0, v0⟩, rfl⟩
    · intro z hz
      obtain ⟨k, hk, rfl⟩ := List.mem_map.mp hz
      obtain ⟨y, hy, rfl⟩ := List.mem_map.mp hk
      obtain ⟨t, _, e⟩ := val y hy
      rw [e]
      have := cnt_le (mvN n c) t
      show ((CM.cnt (mvN n c) t : Nat) : Int) ≤ _
      omega
  have p : (far (effs n [c] false) x).Perm [x ^^^ comb (ef n c) (mvN n c) (2 ^ mvN n c - 1)] := by
    refine perm_of (F.nd.filter _) (by simp) fun y => ?_
    unfold far
    rw [List.mem_filter, decide_eq_true_iff, hm, List.mem_singleton]
    constructor
    · rintro ⟨hy, hv⟩
      obtain ⟨t, ht, e⟩ := val y hy
      have hcnt : CM.cnt (mvN n c) t = mvN n c := by omega
      have := comb_congr (e := ef n c) (cnt_full hcnt)
      rw [← this, ht, xor_cancel']
    · rintro rfl
      exact ⟨y0, by rw [v0]⟩
  exact List.Perm.eq_singleton p
end
end CO

/-! law k20. -/
namespace CO
open PySem PySem.Spec PyProof.Rows L2
open CM
section
variable {n : Nat} {c : List Nat} {wd : List Ob} {x y z t u : Nat} {ns : List Int}
theorem k20_plays (hg : Gm n [c]) {a5 a7 a9 a11 : Ent} (h11 : Kp a11) (ht : comb (ef n c) (mvN n c) t = x ^^^ y) : ∃ b11, Kp b11 ∧ lp_law_0 ⟨[.sc ns, .wr 0, .sh (.int (n : Nat)), .sh (gmD n [c] false), .sh (rwD n x), a5, .sh (rwD n y), a7, .ow (mvDs (mvP (mvN n c) t)), a9, .sh (rwD n x), a11, .no, .no], wd⟩ = .ok .nx ⟨[.sc ns, .wr 0, .sh (.int (n : Nat)), .sh (gmD n [c] false), .sh (rwD n x), a5, .sh (rwD n y), a7, .sh (.list (mvDs (mvP (mvN n c) t))), a9, .sh (rwD n y), b11, .no, .no], wd⟩ := by
  obtain ⟨e', h1, b11, k11, rfl⟩ := forE (g := gN 11) (b := lb_law_0) (fun q : Nat × Nat => mvD q.1 q.2) (fun j (s : Nat) e => ∃ b11, Kp b11 ∧ e = (⟨[.sc ns, .wr 0, .sh (.int (n : Nat)), .sh (gmD n [c] false), .sh (rwD n x), a5, .sh (rwD n y), a7, .sh (.list (mvDs (mvP (mvN n c) t))), a9, .sh (rwD n s), b11, .no, .no], wd⟩ : En)) (fun s q => s ^^^ effQ n [c] q) (mvP (mvN n c) t).reverse 0 x ⟨[.sc ns, .wr 0, .sh (.int (n : Nat)), .sh (gmD n [c] false), .sh (rwD n x), a5, .sh (rwD n y), a7, .sh (.list (mvDs (mvP (mvN n c) t))), a9, .sh (rwD n x), a11, .no, .no], wd⟩ ⟨_, h11, rfl⟩ (by
    rintro j q s e hq _ _ ⟨b11, _, rfl⟩
    have hqm : q ∈ mvL n false 0 [c] := by
      rw [mvL_one]
      obtain ⟨p, hp, rfl⟩ := List.mem_map.mp (List.mem_reverse.mp hq)
      exact List.mem_map.mpr ⟨p, List.mem_range.mpr (pl_mem.mp hp).1, rfl⟩
    have hp := c_play (r := false) (x := s) (wd := wd) hg hqm
    refine ⟨_, ?_, .sh (mvD q.1 q.2), .inr ⟨_, rfl⟩, rfl⟩
    unfold lb_law_0
    simp only [cIf_t, bind_ok, bind_ex, bind_st, get_mk, set_mk, sSeq, sEx, sRet, sIf, sSet, sPass, sEx_, sBk, sAsg, sPar2, sPar3, thenS, dv, toD, eC, eN, eMv, eP, eBin, tst, eChain, tAndM, tOrM, tNotM, eAnd, eOr, eNot, eIf, toA, aNil, aCons, asDs, dvs, eTup, eLst, eCall, eIx, eIxN, itemE, eSl, pNo, pSo, cutD, gLen, eLenN, lenD, gList, gTuple, gN, gT, setAll, eMt, tyD, eIsi, gAdd, gSub, gDiv, gMod, gMul, gPow, gLt, gLe, gGt, gGe, gStr, gMin, gIn, gNotIn, gIs, gIsNot, isD, eLenSc, eIxSc, eScNil, eAppTn, sTown, tYesM, noEx_ok, itemG, stepS, iAll, itemsOf, iR1, iR2, wipeE, restE, keepE, sAug, gIadd, gImul, eApp, eExt, eNeg, List.getD_cons_zero, List.getD_cons_succ, List.set_cons_zero, List.set_cons_succ, List.getElem?_cons_zero, List.getElem?_cons_succ, Option.map_some, Option.map_none, Bool.not_true, Bool.not_false, beq_self_eq_true, if_true, if_false, ite_true, ite_false, Bool.false_eq_true, reduceIte, reduceCtorEq, lenL_0, lenL_1, lenL_2, lenL_3, lenL_4, lenL_5, lenL_6, lenL_7, lenL_8, lenL_9, lenL_10, lenL_11, lenL_12, call_fin, eCallF_eq, put_ok, put_ex, finC_nx, finC_rt, finC_ex, List.length_cons, List.length_nil, Nat.reduceAdd, Nat.reduceSub, List.replicate_succ, List.replicate_zero, List.cons_append, List.nil_append, item2, Outc, wipeE, keepE, eDic0, eDic1, eDin, eDnotin, eDget, eDgetD, eDgetR, eDgetG, sDput, dkOf, eDlen, eSortDic, eSortDicR, eDvals, eLock, iFz, isFz, gSum, gMax, gCountS, eRev, and_self, and_true, true_and, decide_true, decide_false, Bool.and_self, Bool.and_true, Bool.true_and, litL_0, litL_1, litL_2, litL_3, litL_4, litL_5, litL_6, litL_7, litL_8, litL_9, litL_10, litL_11, litL_12, litL_13, litL_14, litL_15, litL_16, litL_17, litL_18, litL_19, litL_20, litL_21, litL_22, litL_23, litL_24, litL_25, litL_26, litL_27, litL_28, litL_29, litL_30, litL_31, litL_32, hp])
  rw [play_back, ht, xor_cancel'] at h1
  refine ⟨b11, k11, ?_⟩
  have hrev : (mvDs (mvP (mvN n c) t)).reverse = (mvP (mvN n c) t).reverse.map fun q => mvD q.1 q.2 := by unfold mvDs; rw [List.map_reverse]
  unfold lp_law_0
  simp only [cIf_t, bind_ok, bind_ex, bind_st, get_mk, set_mk, sSeq, sEx, sRet, sIf, sSet, sPass, sEx_, sBk, sAsg, sPar2, sPar3, thenS, dv, toD, eC, eN, eMv, eP, eBin, tst, eChain, tAndM, tOrM, tNotM, eAnd, eOr, eNot, eIf, toA, aNil, aCons, asDs, dvs, eTup, eLst, eCall, eIx, eIxN, itemE, eSl, pNo, pSo, cutD, gLen, eLenN, lenD, gList, gTuple, gN, gT, setAll, eMt, tyD, eIsi, gAdd, gSub, gDiv, gMod, gMul, gPow, gLt, gLe, gGt, gGe, gStr, gMin, gIn, gNotIn, gIs, gIsNot, isD, eLenSc, eIxSc, eScNil, eAppTn, sTown, tYesM, noEx_ok, itemG, stepS, iAll, itemsOf, iR1, iR2, wipeE, restE, keepE, sAug, gIadd, gImul, eApp, eExt, eNeg, List.getD_cons_zero, List.getD_cons_succ, List.set_cons_zero, List.set_cons_succ, List.getElem?_cons_zero, List.getElem?_cons_succ, Option.map_some, Option.map_none, Bool.not_true, Bool.not_false, beq_self_eq_true, if_true, if_false, ite_true, ite_false, Bool.false_eq_true, reduceIte, reduceCtorEq, lenL_0, lenL_1, lenL_2, lenL_3, lenL_4, lenL_5, lenL_6, lenL_7, lenL_8, lenL_9, lenL_10, lenL_11, lenL_12, call_fin, eCallF_eq, put_ok, put_ex, finC_nx, finC_rt, finC_ex, List.length_cons, List.length_nil, Nat.reduceAdd, Nat.reduceSub, List.replicate_succ, List.replicate_zero, List.cons_append, List.nil_append, item2, Outc, wipeE, keepE, eDic0, eDic1, eDin, eDnotin, eDget, eDgetD, eDgetR, eDgetG, sDput, dkOf, eDlen, eSortDic, eSortDicR, eDvals, eLock, iFz, isFz, gSum, gMax, gCountS, eRev, and_self, and_true, true_and, decide_true, decide_false, Bool.and_self, Bool.and_true, Bool.true_and, litL_0, litL_1, litL_2, litL_3, litL_4, litL_5, litL_6, litL_7, litL_8, litL_9, litL_10, litL_11, litL_12, litL_13, litL_14, litL_15, litL_16, litL_17, litL_18, litL_19, litL_20, litL_21, litL_22, litL_23, litL_24, litL_25, litL_26, litL_27, litL_28, litL_29, litL_30, litL_31, litL_32, sFor, hrev]
  exact h1
theorem lcJ {α : Type} {mi : En → R (List D)} {g : Ent → En → R Unit} {t : En → R Bool} {m : En → R Ent} {vs : List Nat} {en e0 : En} (f : α → D) (l : List α) (p : α → Bool) (F : α → D) (J : En → Prop) (h : mi en = .ok (l.map f) e0) (hl : l.length ≤ lim) (h0 : J (wipeE e0 vs))
    (k : ∀ a ∈ l, ∀ e, J e → ∃ (e' : En), item2 g t m (f a) e = .ok (if p a = true then some (F a) else none) e' ∧ J (wipeE e' vs)) :
    ∃ e', J (wipeE e' vs) ∧ eLc mi g t m vs en = .ok (.ow ((l.filter p).map F)) (restE (wipeE e' vs) e0 vs) := by
  have gen : ∀ (l0 : List α) (e : En) (acc : List D), (∀ a ∈ l0, a ∈ l) → J (wipeE e vs) → acc.length + l0.length ≤ lim → ∃ (e' : En), J (wipeE e' vs) ∧ compGo g t m vs (l0.map f) e acc = .ok (acc ++ (l0.filter p).map F) e' := by
    intro l0
    induction l0 with
    | nil => intro e acc _ hj _; exact ⟨e, hj, by simp [compGo]⟩
    | cons a l0 ih =>
      intro e acc hm hj hal
      have hal' : acc.length + (l0.length + 1) ≤ lim := hal
      obtain ⟨e1, h1, h2⟩ := k a (hm a List.mem_cons_self) (wipeE e vs) hj
      have e1' : itemG g t m vs (f a) e = item2 g t m (f a) (wipeE e vs) := rfl
      have ho : (if p a = true then some (F a) else none : Option D).toList.length ≤ 1 := by split <;> simp
      obtain ⟨e2, q3, q4⟩ := ih e1 (acc ++ (if p a = true then some (F a) else none : Option D).toList) (fun z hz => hm z (List.mem_cons_of_mem _ hz)) h2 (by rw [List.length_append]; omega)
      refine ⟨e2, q3, ?_⟩
      rw [List.map_cons, comp_step (by omega) (e1'.trans h1), q4, List.append_assoc]
      congr 2
      by_cases hp : p a = true
      · simp [hp]
      · simp [hp]
  obtain ⟨e', q3, q4⟩ := gen l e0 [] (fun _ h => h) h0 (by simpa using hl)
  rw [List.nil_append] at q4
  exact ⟨e', q3, lc_run h q4⟩
theorem k20_lc0 {a5 a6 a7 a9 a10 a11 : Ent} (hm : (mvN n c) ≤ 8) (h9 : IsL a9 (mvDs (mvP (mvN n c) u))) (h11 : Kp a11) :
    ∃ b9, IsL b9 (mvDs (mvP (mvN n c) u)) ∧ lc_law_0 ⟨[.sc ns, .wr 0, .sh (.int (n : Nat)), .sh (gmD n [c] false), .sh (rwD n x), a5, a6, a7, .sh (.list (mvDs (mvP (mvN n c) t))), a9, a10, a11, .no, .no], wd⟩ = .ok (.ow (mvDs (((pl (mvN n c) t).filter fun p => !u.testBit p).map fun p => (0, p)))) ⟨[.sc ns, .wr 0, .sh (.int (n : Nat)), .sh (gmD n [c] false), .sh (rwD n x), a5, a6, a7, .sh (.list (mvDs (mvP (mvN n c) t))), b9, a10, a11, .no, .no], wd⟩ := by
  have hlim : lim = 100000 := rfl
  have hl : (pl (mvN n c) t).length ≤ 8 := by
    have := mvP_le (mvN n c) t
    unfold mvP at this
    rw [List.length_map] at this
    omega
  have hmv : mvDs (mvP (mvN n c) t) = (pl (mvN n c) t).map fun p => mvD 0 p := by unfold mvDs mvP; rw [List.map_map]; rfl
  obtain ⟨e', ⟨b9, hb9, he⟩, h2⟩ := lcJ (mi := iAll (eN 8)) (g := gN 11) (t := tst (eBin gNotIn (eN 11) (eN 9))) (m := eN 11) (vs := [11]) (en := ⟨[.sc ns, .wr 0, .sh (.int (n : Nat)), .sh (gmD n [c] false), .sh (rwD n x), a5, a6, a7, .sh (.list (mvDs (mvP (mvN n c) t))), a9, a10, a11, .no, .no], wd⟩) (e0 := ⟨[.sc ns, .wr 0, .sh (.int (n : Nat)), .sh (gmD n [c] false), .sh (rwD n x), a5, a6, a7, .sh (.list (mvDs (mvP (mvN n c) t))), a9, a10, a11, .no, .no], wd⟩) (fun p : Nat => mvD 0 p) (pl (mvN n c) t) (fun p => !u.testBit p) (fun p => mvD 0 p)
    (fun e => ∃ b9, IsL b9 (mvDs (mvP (mvN n c) u)) ∧ e = (⟨[.sc ns, .wr 0, .sh (.int (n : Nat)), .sh (gmD n [c] false), .sh (rwD n x), a5, a6, a7, .sh (.list (mvDs (mvP (mvN n c) t))), b9, a10, .no, .no, .no], wd⟩ : En)) (by rw [← hmv]; simp only [cIf_t, bind_ok, bind_ex, bind_st, get_mk, set_mk, sSeq, sEx, sRet, sIf, sSet, sPass, sEx_, sBk, sAsg, sPar2, sPar3, thenS, dv, toD, eC, eN, eMv, eP, eBin, tst, eChain, tAndM, tOrM, tNotM, eAnd, eOr, eNot, eIf, toA, aNil, aCons, asDs, dvs, eTup, eLst, eCall, eIx, eIxN, itemE, eSl, pNo, pSo, cutD, gLen, eLenN, lenD, gList, gTuple, gN, gT, setAll, eMt, tyD, eIsi, gAdd, gSub, gDiv, gMod, gMul, gPow, gLt, gLe, gGt, gGe, gStr, gMin, gIn, gNotIn, gIs, gIsNot, isD, eLenSc, eIxSc, eScNil, eAppTn, sTown, tYesM, noEx_ok, itemG, stepS, iAll, itemsOf, iR1, iR2, wipeE, restE, keepE, sAug, gIadd, gImul, eApp, eExt, eNeg, List.getD_cons_zero, List.getD_cons_succ, List.set_cons_zero, List.set_cons_succ, List.getElem?_cons_zero, List.getElem?_cons_succ, Option.map_some, Option.map_none, Bool.not_true, Bool.not_false, beq_self_eq_true, if_true, if_false, ite_true, ite_false, Bool.false_eq_true, reduceIte, reduceCtorEq, lenL_0, lenL_1, lenL_2, lenL_3, lenL_4, lenL_5, lenL_6, lenL_7, lenL_8, lenL_9, lenL_10, lenL_11, lenL_12, call_fin, eCallF_eq, put_ok, put_ex, finC_nx, finC_rt, finC_ex, List.length_cons, List.length_nil, Nat.reduceAdd, Nat.reduceSub, List.replicate_succ, List.replicate_zero, List.cons_append, List.nil_append, item2, Outc, wipeE, keepE, eDic0, eDic1, eDin, eDnotin, eDget, eDgetD, eDgetR, eDgetG, sDput, dkOf, eDlen, eSortDic, eSortDicR, eDvals, eLock, iFz, isFz, gSum, gMax, gCountS, eRev, and_self, and_true, true_and, decide_true, decide_false, Bool.and_self, Bool.and_true, Bool.true_and, litL_0, litL_1, litL_2, litL_3, litL_4, litL_5, litL_6, litL_7, litL_8, litL_9, litL_10, litL_11, litL_12, litL_13, litL_14, litL_15, litL_16, litL_17, litL_18, litL_19, litL_20, litL_21, litL_22, litL_23, litL_24, litL_25, litL_26, litL_27, litL_28, litL_29, litL_30, litL_31, litL_32]) (by omega) ⟨a9, h9, rfl⟩ (by
      rintro p hp e ⟨b9, hb, rfl⟩
      have hi := in_mvP (t := u) (pl_mem.mp hp).1
      refine ⟨⟨[.sc ns, .wr 0, .sh (.int (n : Nat)), .sh (gmD n [c] false), .sh (rwD n x), a5, a6, a7, .sh (.list (mvDs (mvP (mvN n c) t))), .sh (.list (mvDs (mvP (mvN n c) u))), a10, .sh (mvD 0 p), .no, .no], wd⟩, ?_, .sh (.list (mvDs (mvP (mvN n c) u))), .inr rfl, rfl⟩
      cases hu : u.testBit p <;> rw [hu] at hi <;> rcases hb with rfl | rfl <;> simp only [cIf_t, bind_ok, bind_ex, bind_st, get_mk, set_mk, sSeq, sEx, sRet, sIf, sSet, sPass, sEx_, sBk, sAsg, sPar2, sPar3, thenS, dv, toD, eC, eN, eMv, eP, eBin, tst, eChain, tAndM, tOrM, tNotM, eAnd, eOr, eNot, eIf, toA, aNil, aCons, asDs, dvs, eTup, eLst, eCall, eIx, eIxN, itemE, eSl, pNo, pSo, cutD, gLen, eLenN, lenD, gList, gTuple, gN, gT, setAll, eMt, tyD, eIsi, gAdd, gSub, gDiv, gMod, gMul, gPow, gLt, gLe, gGt, gGe, gStr, gMin, gIn, gNotIn, gIs, gIsNot, isD, eLenSc, eIxSc, eScNil, eAppTn, sTown, tYesM, noEx_ok, itemG, stepS, iAll, itemsOf, iR1, iR2, wipeE, restE, keepE, sAug, gIadd, gImul, eApp, eExt, eNeg, List.getD_cons_zero, List.getD_cons_succ, List.set_cons_zero, List.set_cons_succ, List.getElem?_cons_zero, List.getElem?_cons_succ, Option.map_some, Option.map_none, Bool.not_true, Bool.not_false, beq_self_eq_true, if_true, if_false, ite_true, ite_false, Bool.false_eq_true, reduceIte, reduceCtorEq, lenL_0, lenL_1, lenL_2, lenL_3, lenL_4, lenL_5, lenL_6, lenL_7, lenL_8, lenL_9, lenL_10, lenL_11, lenL_12, call_fin, eCallF_eq, put_ok, put_ex, finC_nx, finC_rt, finC_ex, List.length_cons, List.length_nil, Nat.reduceAdd, Nat.reduceSub, List.replicate_succ, List.replicate_zero, List.cons_append, List.nil_append, item2, Outc, wipeE, keepE, eDic0, eDic1, eDin, eDnotin, eDget, eDgetD, eDgetR, eDgetG, sDput, dkOf, eDlen, eSortDic, eSortDicR, eDvals, eLock, iFz, isFz, gSum, gMax, gCountS, eRev, and_self, and_true, true_and, decide_true, decide_false, Bool.and_self, Bool.and_true, Bool.true_and, litL_0, litL_1, litL_2, litL_3, litL_4, litL_5, litL_6, litL_7, litL_8, litL_9, litL_10, litL_11, litL_12, litL_13, litL_14, litL_15, litL_16, litL_17, litL_18, litL_19, litL_20, litL_21, litL_22, litL_23, litL_24, litL_25, litL_26, litL_27, litL_28, litL_29, litL_30, litL_31, litL_32, item2, hi])
  refine ⟨b9, hb9, ?_⟩
  have hres : ((pl (mvN n c) t).filter (fun p => !u.testBit p)).map (fun p => mvD 0 p) = mvDs (((pl (mvN n c) t).filter fun p => !u.testBit p).map fun p => (0, p)) := by unfold mvDs; rw [List.map_map]; rfl
  unfold lc_law_0
  rw [h2, he, hres]
  rcases h11 with rfl | ⟨d, rfl⟩ <;> simp only [cIf_t, bind_ok, bind_ex, bind_st, get_mk, set_mk, sSeq, sEx, sRet, sIf, sSet, sPass, sEx_, sBk, sAsg, sPar2, sPar3, thenS, dv, toD, eC, eN, eMv, eP, eBin, tst, eChain, tAndM, tOrM, tNotM, eAnd, eOr, eNot, eIf, toA, aNil, aCons, asDs, dvs, eTup, eLst, eCall, eIx, eIxN, itemE, eSl, pNo, pSo, cutD, gLen, eLenN, lenD, gList, gTuple, gN, gT, setAll, eMt, tyD, eIsi, gAdd, gSub, gDiv, gMod, gMul, gPow, gLt, gLe, gGt, gGe, gStr, gMin, gIn, gNotIn, gIs, gIsNot, isD, eLenSc, eIxSc, eScNil, eAppTn, sTown, tYesM, noEx_ok, itemG, stepS, iAll, itemsOf, iR1, iR2, wipeE, restE, keepE, sAug, gIadd, gImul, eApp, eExt, eNeg, List.getD_cons_zero, List.getD_cons_succ, List.set_cons_zero, List.set_cons_succ, List.getElem?_cons_zero, List.getElem?_cons_succ, Option.map_some, Option.map_none, Bool.not_true, Bool.not_false, beq_self_eq_true, if_true, if_false, ite_true, ite_false, Bool.false_eq_true, reduceIte, reduceCtorEq, lenL_0, lenL_1, lenL_2, lenL_3, lenL_4, lenL_5, lenL_6, lenL_7, lenL_8, lenL_9, lenL_10, lenL_11, lenL_12, call_fin, eCallF_eq, put_ok, put_ex, finC_nx, finC_rt, finC_ex, List.length_cons, List.length_nil, Nat.reduceAdd, Nat.reduceSub, List.replicate_succ, List.replicate_zero, List.cons_append, List.nil_append, item2, Outc, wipeE, keepE, eDic0, eDic1, eDin, eDnotin, eDget, eDgetD, eDgetR, eDgetG, sDput, dkOf, eDlen, eSortDic, eSortDicR, eDvals, eLock, iFz, isFz, gSum, gMax, gCountS, eRev, and_self, and_true, true_and, decide_true, decide_false, Bool.and_self, Bool.and_true, Bool.true_and, litL_0, litL_1, litL_2, litL_3, litL_4, litL_5, litL_6, litL_7, litL_8, litL_9, litL_10, litL_11, litL_12, litL_13, litL_14, litL_15, litL_16, litL_17, litL_18, litL_19, litL_20, litL_21, litL_22, litL_23, litL_24, litL_25, litL_26, litL_27, litL_28, litL_29, litL_30, litL_31, litL_32, restE]
theorem k20_lc1 {a5 a6 a7 a9 a10 a11 : Ent} (hm : (mvN n c) ≤ 8) (h9 : IsL a9 (mvDs (mvP (mvN n c) u))) (h11 : Kp a11) :
    lc_law_1 ⟨[.sc ns, .wr 0, .sh (.int (n : Nat)), .sh (gmD n [c] false), .sh (rwD n x), a5, a6, a7, .sh (.list (mvDs (mvP (mvN n c) t))), a9, a10, a11, .no, .no], wd⟩ = .ok (.ow (mvDs (((pl (mvN n c) u).filter fun p => !t.testBit p).map fun p => (0, p)))) ⟨[.sc ns, .wr 0, .sh (.int (n : Nat)), .sh (gmD n [c] false), .sh (rwD n x), a5, a6, a7, .sh (.list (mvDs (mvP (mvN n c) t))), .sh (.list (mvDs (mvP (mvN n c) u))), a10, a11, .no, .no], wd⟩ := by
  have hlim : lim = 100000 := rfl
  have hl : (pl (mvN n c) u).length ≤ 8 := by
    have := mvP_le (mvN n c) u
    unfold mvP at this
    rw [List.length_map] at this
    omega
  have hmv : mvDs (mvP (mvN n c) u) = (pl (mvN n c) u).map fun p => mvD 0 p := by unfold mvDs mvP; rw [List.map_map]; rfl
  have hres : ((pl (mvN n c) u).filter (fun p => !t.testBit p)).map (fun p => mvD 0 p) = mvDs (((pl (mvN n c) u).filter fun p => !t.testBit p).map fun p => (0, p)) := by unfold mvDs; rw [List.map_map]; rfl
  unfold lc_law_1
  refine (lcF (e0 := ⟨[.sc ns, .wr 0, .sh (.int (n : Nat)), .sh (gmD n [c] false), .sh (rwD n x), a5, a6, a7, .sh (.list (mvDs (mvP (mvN n c) t))), .sh (.list (mvDs (mvP (mvN n c) u))), a10, a11, .no, .no], wd⟩) (fun p : Nat => mvD 0 p) (pl (mvN n c) u) (fun p => !t.testBit p) (fun p => mvD 0 p) ?_ (by omega) fun p hp => ?_).trans ?_
  · rw [← hmv]
    rcases h9 with rfl | rfl <;> simp only [cIf_t, bind_ok, bind_ex, bind_st, get_mk, set_mk, sSeq, sEx, sRet, sIf, sSet, sPass, sEx_, sBk, sAsg, sPar2, sPar3, thenS, dv, toD, eC, eN, eMv, eP, eBin, tst, eChain, tAndM, tOrM, tNotM, eAnd, eOr, eNot, eIf, toA, aNil, aCons, asDs, dvs, eTup, eLst, eCall, eIx, eIxN, itemE, eSl, pNo, pSo, cutD, gLen, eLenN, lenD, gList, gTuple, gN, gT, setAll, eMt, tyD, eIsi, gAdd, gSub, gDiv, gMod, gMul, gPow, gLt, gLe, gGt, gGe, gStr, gMin, gIn, gNotIn, gIs, gIsNot, isD, eLenSc, eIxSc, eScNil, eAppTn, sTown, tYesM, noEx_ok, itemG, stepS, iAll, itemsOf, iR1, iR2, wipeE, restE, keepE, sAug, gIadd, gImul, eApp, eExt, eNeg, List.getD_cons_zero, List.getD_cons_succ, List.set_cons_zero, List.set_cons_succ, List.getElem?_cons_zero, List.getElem?_cons_succ, Option.map_some, Option.map_none, Bool.not_true, Bool.not_false, beq_self_eq_true, if_true, if_false, ite_true, ite_false, Bool.false_eq_true, reduceIte, reduceCtorEq, lenL_0, lenL_1, lenL_2, lenL_3, lenL_4, lenL_5, lenL_6, lenL_7, lenL_8, lenL_9, lenL_10, lenL_11, lenL_12, call_fin, eCallF_eq, put_ok, put_ex, finC_nx, finC_rt, finC_ex, List.length_cons, List.length_nil, Nat.reduceAdd, Nat.reduceSub, List.replicate_succ, List.replicate_zero, List.cons_append, List.nil_append, item2, Outc, wipeE, keepE, eDic0, eDic1, eDin, eDnotin, eDget, eDgetD, eDgetR, eDgetG, sDput, dkOf, eDlen, eSortDic, eSortDicR, eDvals, eLock, iFz, isFz, gSum, gMax, gCountS, eRev, and_self, and_true, true_and, decide_true, decide_false, Bool.and_self, Bool.and_true, Bool.true_and, litL_0, litL_1, litL_2, litL_3, litL_4, litL_5, litL_6, litL_7, litL_8, litL_9, litL_10, litL_11, litL_12, litL_13, litL_14, litL_15, litL_16, litL_17, litL_18, litL_19, litL_20, litL_21, litL_22, litL_23, litL_24, litL_25, litL_26, litL_27, litL_28, litL_29, litL_30, litL_31, litL_32] <;> rfl
  · have hi := in_mvP (t := t) (pl_mem.mp hp).1
    cases hu : t.testBit p <;> rw [hu] at hi <;> simp only [cIf_t, bind_ok, bind_ex, bind_st, get_mk, set_mk, sSeq, sEx, sRet, sIf, sSet, sPass, sEx_, sBk, sAsg, sPar2, sPar3, thenS, dv, toD, eC, eN, eMv, eP, eBin, tst, eChain, tAndM, tOrM, tNotM, eAnd, eOr, eNot, eIf, toA, aNil, aCons, asDs, dvs, eTup, eLst, eCall, eIx, eIxN, itemE, eSl, pNo, pSo, cutD, gLen, eLenN, lenD, gList, gTuple, gN, gT, setAll, eMt, tyD, eIsi, gAdd, gSub, gDiv, gMod, gMul, gPow, gLt, gLe, gGt, gGe, gStr, gMin, gIn, gNotIn, gIs, gIsNot, isD, eLenSc, eIxSc, eScNil, eAppTn, sTown, tYesM, noEx_ok, itemG, stepS, iAll, itemsOf, iR1, iR2, wipeE, restE, keepE, sAug, gIadd, gImul, eApp, eExt, eNeg, List.getD_cons_zero, List.getD_cons_succ, List.set_cons_zero, List.set_cons_succ, List.getElem?_cons_zero, List.getElem?_cons_succ, Option.map_some, Option.map_none, Bool.not_true, Bool.not_false, beq_self_eq_true, if_true, if_false, ite_true, ite_false, Bool.false_eq_true, reduceIte, reduceCtorEq, lenL_0, lenL_1, lenL_2, lenL_3, lenL_4, lenL_5, lenL_6, lenL_7, lenL_8, lenL_9, lenL_10, lenL_11, lenL_12, call_fin, eCallF_eq, put_ok, put_ex, finC_nx, finC_rt, finC_ex, List.length_cons, List.length_nil, Nat.reduceAdd, Nat.reduceSub, List.replicate_succ, List.replicate_zero, List.cons_append, List.nil_append, item2, Outc, wipeE, keepE, eDic0, eDic1, eDin, eDnotin, eDget, eDgetD, eDgetR, eDgetG, sDput, dkOf, eDlen, eSortDic, eSortDicR, eDvals, eLock, iFz, isFz, gSum, gMax, gCountS, eRev, and_self, and_true, true_and, decide_true, decide_false, Bool.and_self, Bool.and_true, Bool.true_and, litL_0, litL_1, litL_2, litL_3, litL_4, litL_5, litL_6, litL_7, litL_8, litL_9, litL_10, litL_11, litL_12, litL_13, litL_14, litL_15, litL_16, litL_17, litL_18, litL_19, litL_20, litL_21, litL_22, litL_23, litL_24, litL_25, litL_26, litL_27, litL_28, litL_29, litL_30, litL_31, litL_32, hi]
  · rw [hres]
    rcases h11 with rfl | ⟨d, rfl⟩ <;> simp only [cIf_t, bind_ok, bind_ex, bind_st, get_mk, set_mk, sSeq, sEx, sRet, sIf, sSet, sPass, sEx_, sBk, sAsg, sPar2, sPar3, thenS, dv, toD, eC, eN, eMv, eP, eBin, tst, eChain, tAndM, tOrM, tNotM, eAnd, eOr, eNot, eIf, toA, aNil, aCons, asDs, dvs, eTup, eLst, eCall, eIx, eIxN, itemE, eSl, pNo, pSo, cutD, gLen, eLenN, lenD, gList, gTuple, gN, gT, setAll, eMt, tyD, eIsi, gAdd, gSub, gDiv, gMod, gMul, gPow, gLt, gLe, gGt, gGe, gStr, gMin, gIn, gNotIn, gIs, gIsNot, isD, eLenSc, eIxSc, eScNil, eAppTn, sTown, tYesM, noEx_ok, itemG, stepS, iAll, itemsOf, iR1, iR2, wipeE, restE, keepE, sAug, gIadd, gImul, eApp, eExt, eNeg, List.getD_cons_zero, List.getD_cons_succ, List.set_cons_zero, List.set_cons_succ, List.getElem?_cons_zero, List.getElem?_cons_succ, Option.map_some, Option.map_none, Bool.not_true, Bool.not_false, beq_self_eq_true, if_true, if_false, ite_true, ite_false, Bool.false_eq_true, reduceIte, reduceCtorEq, lenL_0, lenL_1, lenL_2, lenL_3, lenL_4, lenL_5, lenL_6, lenL_7, lenL_8, lenL_9, lenL_10, lenL_11, lenL_12, call_fin, eCallF_eq, put_ok, put_ex, finC_nx, finC_rt, finC_ex, List.length_cons, List.length_nil, Nat.reduceAdd, Nat.reduceSub, List.replicate_succ, List.replicate_zero, List.cons_append, List.nil_append, item2, Outc, wipeE, keepE, eDic0, eDic1, eDin, eDnotin, eDget, eDgetD, eDgetR, eDgetG, sDput, dkOf, eDlen, eSortDic, eSortDicR, eDvals, eLock, iFz, isFz, gSum, gMax, gCountS, eRev, and_self, and_true, true_and, decide_true, decide_false, Bool.and_self, Bool.and_true, Bool.true_and, litL_0, litL_1, litL_2, litL_3, litL_4, litL_5, litL_6, litL_7, litL_8, litL_9, litL_10, litL_11, litL_12, litL_13, litL_14, litL_15, litL_16, litL_17, litL_18, litL_19, litL_20, litL_21, litL_22, litL_23, litL_24, litL_25, litL_26, litL_27, litL_28, litL_29, litL_30, litL_31, litL_32, restE]
end
theorem law_true (ns : List Int) (hl : ns.length ≤ 63) : ∃ e, m_law [.sc ns] [] = .ok (.sh (.bool true)) e := by
  have hlim : lim = 100000 := rfl
  obtain ⟨v, hv, k1, hk1, e1⟩ := c_draw (k := 0) (ns := ns) hl (many := 7) (by decide) (by decide)
  have e1 : call m__law_draw [.sc ns, .wr 0, .sh (.int 7)] [.tn 0] = .ok (.sh (.int v)) [.tn k1] := e1
  obtain ⟨n, hn⟩ : ∃ n, n = 1 + v := ⟨_, rfl⟩
  have h8 : n ≤ 8 := by omega
  have hn1 : 1 ≤ n := by omega
  have hnv : (1 : Int) + ((v : Nat) : Int) = ((n : Nat) : Int) := by omega
  obtain ⟨c, hc, hcn, k2, hk2, e2⟩ := c_some_shape (k := k1) (ns := ns) hl (most := n) ⟨hn1, h8⟩ (by omega)
  have e2 : call m__law_some_shape [.sc ns, .wr 0, .sh (.int (n : Nat))] [.tn k1] = .ok (.sh (strD c)) [.tn k2] := e2
  obtain ⟨hc1, hc8, _⟩ := shp_of' hc
  have hcl : c.length ≤ lim := by omega
  have hg := Gm.ofOne hc hn1 h8 hcn
  have hm8 : (mvN n c) ≤ 8 := Nat.le_trans (mvN_le hc hcn) h8
  obtain ⟨x, hx, k3, hk3, e3⟩ := c_some_coins (n := n) (css := [c]) (r := false) (k := k2) (ns := ns) hl h8 (by omega)
  have F := bfs_fin h8 (effs_lt (n := n) (css := [c]) (r := false)) hx
  have hx0 : x ∈ rch n [c] false x := (rch_mem h8 hx).mpr (by rw [Nat.xor_self]; exact sp_zero _)
  have pickd : ∀ k, k < 40000 → ∃ y, y ∈ rch n [c] false x ∧ ∃ k', k' ≤ k + 1 ∧ call m__law_pick [.sc ns, .wr 0, .sh (.list (sortDs ((rch n [c] false x).map (rwD n))))] [.tn k] = .ok (.sh (rwD n y)) [.tn k'] := by
    intro k hk
    rw [srw_map]
    obtain ⟨d, hd, k', hk', e⟩ := c_pick (k := k) hl (ds := (srw n (rch n [c] false x)).map (rwD n)) (fun z => by
      rw [List.map_eq_nil_iff] at z
      have := (srw_perm n (rch n [c] false x)).mem_iff.mpr hx0
      rw [z] at this
      cases this) (by omega)
    obtain ⟨y, hy, rfl⟩ := List.mem_map.mp hd
    exact ⟨y, (srw_perm n _).mem_iff.mp hy, k', hk', e⟩
  obtain ⟨y, hy0, k4, hk4, e4⟩ := pickd k3 (by omega)
  obtain ⟨z, hz0, k5, hk5, e5⟩ := pickd k4 (by omega)
  have hy := rch_lt h8 hx y hy0
  have hz := rch_lt h8 hx z hz0
  have sy := (rch_mem h8 hx).mp hy0
  have sz := (rch_mem h8 hx).mp hz0
  obtain ⟨t, _, ht⟩ : ∃ t, t < 2 ^ (mvN n c) ∧ comb (ef n c) (mvN n c) t = x ^^^ y := by
    rw [effs_ef] at sy
    exact sp_comb.mp sy
  obtain ⟨u0, _, hu0⟩ : ∃ t, t < 2 ^ (mvN n c) ∧ comb (ef n c) (mvN n c) t = x ^^^ z := by
    rw [effs_ef] at sz
    exact sp_comb.mp sz
  obtain ⟨u, hud⟩ : ∃ u, u = t ^^^ u0 := ⟨_, rfl⟩
  have hu : comb (ef n c) (mvN n c) u = y ^^^ z := by rw [hud, comb_xor, ht, hu0, Nat.xor_comm x y, Nat.xor_comm x z, xor4]
  have htu : comb (ef n c) (mvN n c) (t ^^^ u) = x ^^^ z := by rw [hud, xor_cancel', hu0]
  have ht' : comb (ef n c) (mvN n c) t = y ^^^ x := by rw [ht, Nat.xor_comm]
  have sw1 := fun wd => c_sweep_one (wd := wd) hg hx hy ht
  have sw2 := fun wd => c_sweep_one (wd := wd) hg hy hz hu
  have sw3 := fun wd => c_sweep_one (wd := wd) hg hy hx ht'
  have sw4 := fun wd => c_sweep_one (wd := wd) hg hx hz htu
  have sw5 : ∀ wd, call m_sweep [.sh (gmD n [c] false), .sh (rwD n x), .sh (rwD n x)] wd = .ok (.ow []) wd := fun wd => by
    have h := c_sweep_one (wd := wd) (t := 0) hg hx hx (by rw [comb_zero, Nat.xor_self])
    rw [show mvP (mvN n c) 0 = [] by unfold mvP; rw [pl_zero]; rfl] at h
    exact h
  have G := bfs_fin h8 (effs_lt (n := n) (css := [c]) (r := false)) hy
  have hsp : Sp (effs n [c] false) (y ^^^ x) := by rw [Nat.xor_comm]; exact sy
  have hxG : x ∈ ks (bfs (effs n [c] false) y) := (G.mem x).mpr hsp
  have hdist : ∀ wd, call m_distance [.sh (gmD n [c] false), .sh (rwD n x), .sh (rwD n y)] wd = .ok (.sh (.int (CM.cnt (mvN n c) t : Nat))) wd := fun wd => by
    have h := c_distance (r := false) (wd := wd) hg hx hy
    rw [if_pos hsp] at h
    unfold dst at h
    rw [dst_one hc hcn G hxG ht'] at h
    exact h
  have hcm := cnt_le (mvN n c) t
  have hsol : ∀ wd, call m_solve [.sh (gmD n [c] false), .sh (rwD n x), .sh (rwD n y)] wd = .ok (.ow (mvDs (mvP (mvN n c) t))) wd := fun wd => by
    have h := c_solve (r := false) (wd := wd) hg hx hy
    rw [if_pos hsp, slv_one hc hcn G 1000 x t hxG ht' (by omega)] at h
    exact h
  obtain ⟨w, hw⟩ : ∃ w, w = x ^^^ comb (ef n c) (mvN n c) (2 ^ (mvN n c) - 1) := ⟨_, rfl⟩
  have hcw : comb (ef n c) (mvN n c) (2 ^ (mvN n c) - 1) = x ^^^ w := by rw [hw, xor_cancel']
  have hwlt : w < 2 ^ n := by
    rw [hw]
    refine Nat.xor_lt_two_pow hx ?_
    have := comb_sp (e := ef n c) (m := (mvN n c)) (2 ^ (mvN n c) - 1) (mvN n c) (Nat.le_refl _)
    rw [← effs_ef] at this
    exact sp_lt effs_lt this
  have hfar : ∀ wd, call m_farthest [.sh (gmD n [c] false), .sh (rwD n x)] wd = .ok (.ow [rwD n w]) wd := fun wd => by
    have h := c_farthest (r := false) (wd := wd) hg hx
    rw [far_one hc hcn h8 hx, ← hw] at h
    have hs : sortDs ([w].map (rwD n)) = [rwD n w] := by unfold sortDs; exact List.mergeSort_singleton _
    rw [hs] at h
    exact h
  have sw6 := fun wd => c_sweep_one (wd := wd) hg hx hwlt hcw
  have hir := fun wd => c_in_reach (r := false) (wd := wd) hg hx
  refine law_end (nN := 14) (f := f_law) ?_
  unfold f_law
  refine seqE (by simp only [cIf_t, bind_ok, bind_ex, bind_st, get_mk, set_mk, sSeq, sEx, sRet, sIf, sSet, sPass, sEx_, sBk, sAsg, sPar2, sPar3, thenS, dv, toD, eC, eN, eMv, eP, eBin, tst, eChain, tAndM, tOrM, tNotM, eAnd, eOr, eNot, eIf, toA, aNil, aCons, asDs, dvs, eTup, eLst, eCall, eIx, eIxN, eSl, pNo, pSo, cutD, gLen, eLenN, lenD, gList, gTuple, gN, gT, setAll, eMt, tyD, eIsi, gAdd, gSub, gDiv, gMod, gPow, gLt, gLe, gGt, gGe, gStr, gMin, gIn, gNotIn, gIs, gIsNot, isD, eLenSc, eIxSc, eScNil, eAppTn, sTown, tYesM, noEx_ok, itemG, stepS, iAll, itemsOf, iR1, iR2, wipeE, restE, keepE, sAug, gIadd, eApp, eExt, eNeg, List.getD_cons_zero, List.getD_cons_succ, List.set_cons_zero, List.set_cons_succ, List.getElem?_cons_zero, List.getElem?_cons_succ, Option.map_some, Option.map_none, Bool.not_true, Bool.not_false, beq_self_eq_true, if_true, if_false, ite_true, ite_false, Bool.false_eq_true, reduceIte, reduceCtorEq, lenL_0, lenL_1, lenL_2, lenL_3, lenL_4, lenL_5, lenL_6, lenL_7, lenL_8, lenL_9, lenL_10, lenL_11, lenL_12, call_fin, eCallF_eq, put_ok, put_ex, finC_nx, finC_rt, finC_ex, List.length_cons, List.length_nil, Nat.reduceAdd, Nat.reduceSub, List.replicate_succ, List.replicate_zero, List.cons_append, List.nil_append, item2, Outc, wipeE, keepE, eDic0, eDic1, eDin, eDnotin, eDget, eDgetD, eDgetR, eDgetG, sDput, dkOf, eDlen, eSortDic, eSortDicR, eDvals, eLock, iFz, isFz, eRev, and_self, and_true, true_and, decide_true, decide_false, Bool.and_self, Bool.and_true, Bool.true_and, litL_0, litL_1, litL_2, litL_3, litL_4, litL_5, litL_6, litL_7, litL_8, litL_9, litL_10, litL_11, litL_12, litL_13, litL_14, litL_15, litL_16, litL_17, litL_18, litL_19, litL_20, litL_21, litL_22, litL_23, litL_24, litL_25, litL_26, litL_27, litL_28, litL_29, litL_30, litL_31, litL_32, List.nil_append] <;> rfl) ?_
  refine seqE (by simp only [cIf_t, bind_ok, bind_ex, bind_st, get_mk, set_mk, sSeq, sEx, sRet, sIf, sSet, sPass, sEx_, sBk, sAsg, sPar2, sPar3, thenS, dv, toD, eC, eN, eMv, eP, eBin, tst, eChain, tAndM, tOrM, tNotM, eAnd, eOr, eNot, eIf, toA, aNil, aCons, asDs, dvs, eTup, eLst, eCall, eIx, eIxN, eSl, pNo, pSo, cutD, gLen, eLenN, lenD, gList, gTuple, gN, gT, setAll, eMt, tyD, eIsi, gAdd, gSub, gDiv, gMod, gPow, gLt, gLe, gGt, gGe, gStr, gMin, gIn, gNotIn, gIs, gIsNot, isD, eLenSc, eIxSc, eScNil, eAppTn, sTown, tYesM, noEx_ok, itemG, stepS, iAll, itemsOf, iR1, iR2, wipeE, restE, keepE, sAug, gIadd, eApp, eExt, eNeg, List.getD_cons_zero, List.getD_cons_succ, List.set_cons_zero, List.set_cons_succ, List.getElem?_cons_zero, List.getElem?_cons_succ, Option.map_some, Option.map_none, Bool.not_true, Bool.not_false, beq_self_eq_true, if_true, if_false, ite_true, ite_false, Bool.false_eq_true, reduceIte, reduceCtorEq, lenL_0, lenL_1, lenL_2, lenL_3, lenL_4, lenL_5, lenL_6, lenL_7, lenL_8, lenL_9, lenL_10, lenL_11, lenL_12, call_fin, eCallF_eq, put_ok, put_ex, finC_nx, finC_rt, finC_ex, List.length_cons, List.length_nil, Nat.reduceAdd, Nat.reduceSub, List.replicate_succ, List.replicate_zero, List.cons_append, List.nil_append, item2, Outc, wipeE, keepE, eDic0, eDic1, eDin, eDnotin, eDget, eDgetD, eDgetR, eDgetG, sDput, dkOf, eDlen, eSortDic, eSortDicR, eDvals, eLock, iFz, isFz, eRev, and_self, and_true, true_and, decide_true, decide_false, Bool.and_self, Bool.and_true, Bool.true_and, litL_0, litL_1, litL_2, litL_3, litL_4, litL_5, litL_6, litL_7, litL_8, litL_9, litL_10, litL_11, litL_12, litL_13, litL_14, litL_15, litL_16, litL_17, litL_18, litL_19, litL_20, litL_21, litL_22, litL_23, litL_24, litL_25, litL_26, litL_27, litL_28, litL_29, litL_30, litL_31, litL_32, e1, hnv] <;> rfl) ?_
  refine seqE (e1 := ⟨[.sc ns, .wr 0, .sh (.int (n : Nat)), .sh (gmD n [c] false), .no, .no, .no, .no, .no, .no, .no, .no, .no, .no], [.tn k2]⟩) (by simp only [cIf_t, bind_ok, bind_ex, bind_st, get_mk, set_mk, sSeq, sEx, sRet, sIf, sSet, sPass, sEx_, sBk, sAsg, sPar2, sPar3, thenS, dv, toD, eC, eN, eMv, eP, eBin, tst, eChain, tAndM, tOrM, tNotM, eAnd, eOr, eNot, eIf, toA, aNil, aCons, asDs, dvs, eTup, eLst, eCall, eIx, eIxN, eSl, pNo, pSo, cutD, gLen, eLenN, lenD, gList, gTuple, gN, gT, setAll, eMt, tyD, eIsi, gAdd, gSub, gDiv, gMod, gPow, gLt, gLe, gGt, gGe, gStr, gMin, gIn, gNotIn, gIs, gIsNot, isD, eLenSc, eIxSc, eScNil, eAppTn, sTown, tYesM, noEx_ok, itemG, stepS, iAll, itemsOf, iR1, iR2, wipeE, restE, keepE, sAug, gIadd, eApp, eExt, eNeg, List.getD_cons_zero, List.getD_cons_succ, List.set_cons_zero, List.set_cons_succ, List.getElem?_cons_zero, List.getElem?_cons_succ, Option.map_some, Option.map_none, Bool.not_true, Bool.not_false, beq_self_eq_true, if_true, if_false, ite_true, ite_false, Bool.false_eq_true, reduceIte, reduceCtorEq, lenL_0, lenL_1, lenL_2, lenL_3, lenL_4, lenL_5, lenL_6, lenL_7, lenL_8, lenL_9, lenL_10, lenL_11, lenL_12, call_fin, eCallF_eq, put_ok, put_ex, finC_nx, finC_rt, finC_ex, List.length_cons, List.length_nil, Nat.reduceAdd, Nat.reduceSub, List.replicate_succ, List.replicate_zero, List.cons_append, List.nil_append, item2, Outc, wipeE, keepE, eDic0, eDic1, eDin, eDnotin, eDget, eDgetD, eDgetR, eDgetG, sDput, dkOf, eDlen, eSortDic, eSortDicR, eDvals, eLock, iFz, isFz, eRev, and_self, and_true, true_and, decide_true, decide_false, Bool.and_self, Bool.and_true, Bool.true_and, litL_0, litL_1, litL_2, litL_3, litL_4, litL_5, litL_6, litL_7, litL_8, litL_9, litL_10, litL_11, litL_12, litL_13, litL_14, litL_15, litL_16, litL_17, litL_18, litL_19, litL_20, litL_21, litL_22, litL_23, litL_24, litL_25, litL_26, litL_27, litL_28, litL_29, litL_30, litL_31, litL_32, e2] <;> rfl) ?_
  refine seqE (by simp only [cIf_t, bind_ok, bind_ex, bind_st, get_mk, set_mk, sSeq, sEx, sRet, sIf, sSet, sPass, sEx_, sBk, sAsg, sPar2, sPar3, thenS, dv, toD, eC, eN, eMv, eP, eBin, tst, eChain, tAndM, tOrM, tNotM, eAnd, eOr, eNot, eIf, toA, aNil, aCons, asDs, dvs, eTup, eLst, eCall, eIx, eIxN, eSl, pNo, pSo, cutD, gLen, eLenN, lenD, gList, gTuple, gN, gT, setAll, eMt, tyD, eIsi, gAdd, gSub, gDiv, gMod, gPow, gLt, gLe, gGt, gGe, gStr, gMin, gIn, gNotIn, gIs, gIsNot, isD, eLenSc, eIxSc, eScNil, eAppTn, sTown, tYesM, noEx_ok, itemG, stepS, iAll, itemsOf, iR1, iR2, wipeE, restE, keepE, sAug, gIadd, eApp, eExt, eNeg, List.getD_cons_zero, List.getD_cons_succ, List.set_cons_zero, List.set_cons_succ, List.getElem?_cons_zero, List.getElem?_cons_succ, Option.map_some, Option.map_none, Bool.not_true, Bool.not_false, beq_self_eq_true, if_true, if_false, ite_true, ite_false, Bool.false_eq_true, reduceIte, reduceCtorEq, lenL_0, lenL_1, lenL_2, lenL_3, lenL_4, lenL_5, lenL_6, lenL_7, lenL_8, lenL_9, lenL_10, lenL_11, lenL_12, call_fin, eCallF_eq, put_ok, put_ex, finC_nx, finC_rt, finC_ex, List.length_cons, List.length_nil, Nat.reduceAdd, Nat.reduceSub, List.replicate_succ, List.replicate_zero, List.cons_append, List.nil_append, item2, Outc, wipeE, keepE, eDic0, eDic1, eDin, eDnotin, eDget, eDgetD, eDgetR, eDgetG, sDput, dkOf, eDlen, eSortDic, eSortDicR, eDvals, eLock, iFz, isFz, eRev, and_self, and_true, true_and, decide_true, decide_false, Bool.and_self, Bool.and_true, Bool.true_and, litL_0, litL_1, litL_2, litL_3, litL_4, litL_5, litL_6, litL_7, litL_8, litL_9, litL_10, litL_11, litL_12, litL_13, litL_14, litL_15, litL_16, litL_17, litL_18, litL_19, litL_20, litL_21, litL_22, litL_23, litL_24, litL_25, litL_26, litL_27, litL_28, litL_29, litL_30, litL_31, litL_32, e3] <;> rfl) ?_
  refine seqE (by simp only [cIf_t, bind_ok, bind_ex, bind_st, get_mk, set_mk, sSeq, sEx, sRet, sIf, sSet, sPass, sEx_, sBk, sAsg, sPar2, sPar3, thenS, dv, toD, eC, eN, eMv, eP, eBin, tst, eChain, tAndM, tOrM, tNotM, eAnd, eOr, eNot, eIf, toA, aNil, aCons, asDs, dvs, eTup, eLst, eCall, eIx, eIxN, eSl, pNo, pSo, cutD, gLen, eLenN, lenD, gList, gTuple, gN, gT, setAll, eMt, tyD, eIsi, gAdd, gSub, gDiv, gMod, gPow, gLt, gLe, gGt, gGe, gStr, gMin, gIn, gNotIn, gIs, gIsNot, isD, eLenSc, eIxSc, eScNil, eAppTn, sTown, tYesM, noEx_ok, itemG, stepS, iAll, itemsOf, iR1, iR2, wipeE, restE, keepE, sAug, gIadd, eApp, eExt, eNeg, List.getD_cons_zero, List.getD_cons_succ, List.set_cons_zero, List.set_cons_succ, List.getElem?_cons_zero, List.getElem?_cons_succ, Option.map_some, Option.map_none, Bool.not_true, Bool.not_false, beq_self_eq_true, if_true, if_false, ite_true, ite_false, Bool.false_eq_true, reduceIte, reduceCtorEq, lenL_0, lenL_1, lenL_2, lenL_3, lenL_4, lenL_5, lenL_6, lenL_7, lenL_8, lenL_9, lenL_10, lenL_11, lenL_12, call_fin, eCallF_eq, put_ok, put_ex, finC_nx, finC_rt, finC_ex, List.length_cons, List.length_nil, Nat.reduceAdd, Nat.reduceSub, List.replicate_succ, List.replicate_zero, List.cons_append, List.nil_append, item2, Outc, wipeE, keepE, eDic0, eDic1, eDin, eDnotin, eDget, eDgetD, eDgetR, eDgetG, sDput, dkOf, eDlen, eSortDic, eSortDicR, eDvals, eLock, iFz, isFz, eRev, and_self, and_true, true_and, decide_true, decide_false, Bool.and_self, Bool.and_true, Bool.true_and, litL_0, litL_1, litL_2, litL_3, litL_4, litL_5, litL_6, litL_7, litL_8, litL_9, litL_10, litL_11, litL_12, litL_13, litL_14, litL_15, litL_16, litL_17, litL_18, litL_19, litL_20, litL_21, litL_22, litL_23, litL_24, litL_25, litL_26, litL_27, litL_28, litL_29, litL_30, litL_31, litL_32, hir] <;> rfl) ?_
  refine seqE (by simp only [cIf_t, bind_ok, bind_ex, bind_st, get_mk, set_mk, sSeq, sEx, sRet, sIf, sSet, sPass, sEx_, sBk, sAsg, sPar2, sPar3, thenS, dv, toD, eC, eN, eMv, eP, eBin, tst, eChain, tAndM, tOrM, tNotM, eAnd, eOr, eNot, eIf, toA, aNil, aCons, asDs, dvs, eTup, eLst, eCall, eIx, eIxN, eSl, pNo, pSo, cutD, gLen, eLenN, lenD, gList, gTuple, gN, gT, setAll, eMt, tyD, eIsi, gAdd, gSub, gDiv, gMod, gPow, gLt, gLe, gGt, gGe, gStr, gMin, gIn, gNotIn, gIs, gIsNot, isD, eLenSc, eIxSc, eScNil, eAppTn, sTown, tYesM, noEx_ok, itemG, stepS, iAll, itemsOf, iR1, iR2, wipeE, restE, keepE, sAug, gIadd, eApp, eExt, eNeg, List.getD_cons_zero, List.getD_cons_succ, List.set_cons_zero, List.set_cons_succ, List.getElem?_cons_zero, List.getElem?_cons_succ, Option.map_some, Option.map_none, Bool.not_true, Bool.not_false, beq_self_eq_true, if_true, if_false, ite_true, ite_false, Bool.false_eq_true, reduceIte, reduceCtorEq, lenL_0, lenL_1, lenL_2, lenL_3, lenL_4, lenL_5, lenL_6, lenL_7, lenL_8, lenL_9, lenL_10, lenL_11, lenL_12, call_fin, eCallF_eq, put_ok, put_ex, finC_nx, finC_rt, finC_ex, List.length_cons, List.length_nil, Nat.reduceAdd, Nat.reduceSub, List.replicate_succ, List.replicate_zero, List.cons_append, List.nil_append, item2, Outc, wipeE, keepE, eDic0, eDic1, eDin, eDnotin, eDget, eDgetD, eDgetR, eDgetG, sDput, dkOf, eDlen, eSortDic, eSortDicR, eDvals, eLock, iFz, isFz, eRev, and_self, and_true, true_and, decide_true, decide_false, Bool.and_self, Bool.and_true, Bool.true_and, litL_0, litL_1, litL_2, litL_3, litL_4, litL_5, litL_6, litL_7, litL_8, litL_9, litL_10, litL_11, litL_12, litL_13, litL_14, litL_15, litL_16, litL_17, litL_18, litL_19, litL_20, litL_21, litL_22, litL_23, litL_24, litL_25, litL_26, litL_27, litL_28, litL_29, litL_30, litL_31, litL_32, e4, e5] <;> rfl) ?_
  refine seqE (by simp only [cIf_t, bind_ok, bind_ex, bind_st, get_mk, set_mk, sSeq, sEx, sRet, sIf, sSet, sPass, sEx_, sBk, sAsg, sPar2, sPar3, thenS, dv, toD, eC, eN, eMv, eP, eBin, tst, eChain, tAndM, tOrM, tNotM, eAnd, eOr, eNot, eIf, toA, aNil, aCons, asDs, dvs, eTup, eLst, eCall, eIx, eIxN, eSl, pNo, pSo, cutD, gLen, eLenN, lenD, gList, gTuple, gN, gT, setAll, eMt, tyD, eIsi, gAdd, gSub, gDiv, gMod, gPow, gLt, gLe, gGt, gGe, gStr, gMin, gIn, gNotIn, gIs, gIsNot, isD, eLenSc, eIxSc, eScNil, eAppTn, sTown, tYesM, noEx_ok, itemG, stepS, iAll, itemsOf, iR1, iR2, wipeE, restE, keepE, sAug, gIadd, eApp, eExt, eNeg, List.getD_cons_zero, List.getD_cons_succ, List.set_cons_zero, List.set_cons_succ, List.getElem?_cons_zero, List.getElem?_cons_succ, Option.map_some, Option.map_none, Bool.not_true, Bool.not_false, beq_self_eq_true, if_true, if_false, ite_true, ite_false, Bool.false_eq_true, reduceIte, reduceCtorEq, lenL_0, lenL_1, lenL_2, lenL_3, lenL_4, lenL_5, lenL_6, lenL_7, lenL_8, lenL_9, lenL_10, lenL_11, lenL_12, call_fin, eCallF_eq, put_ok, put_ex, finC_nx, finC_rt, finC_ex, List.length_cons, List.length_nil, Nat.reduceAdd, Nat.reduceSub, List.replicate_succ, List.replicate_zero, List.cons_append, List.nil_append, item2, Outc, wipeE, keepE, eDic0, eDic1, eDin, eDnotin, eDget, eDgetD, eDgetR, eDgetG, sDput, dkOf, eDlen, eSortDic, eSortDicR, eDvals, eLock, iFz, isFz, eRev, and_self, and_true, true_and, decide_true, decide_false, Bool.and_self, Bool.and_true, Bool.true_and, litL_0, litL_1, litL_2, litL_3, litL_4, litL_5, litL_6, litL_7, litL_8, litL_9, litL_10, litL_11, litL_12, litL_13, litL_14, litL_15, litL_16, litL_17, litL_18, litL_19, litL_20, litL_21, litL_22, litL_23, litL_24, litL_25, litL_26, litL_27, litL_28, litL_29, litL_30, litL_31, litL_32, sw1, sw2] <;> rfl) ?_
  refine seqE (by simp only [cIf_t, bind_ok, bind_ex, bind_st, get_mk, set_mk, sSeq, sEx, sRet, sIf, sSet, sPass, sEx_, sBk, sAsg, sPar2, sPar3, thenS, dv, toD, eC, eN, eMv, eP, eBin, tst, eChain, tAndM, tOrM, tNotM, eAnd, eOr, eNot, eIf, toA, aNil, aCons, asDs, dvs, eTup, eLst, eCall, eIx, eIxN, eSl, pNo, pSo, cutD, gLen, eLenN, lenD, gList, gTuple, gN, gT, setAll, eMt, tyD, eIsi, gAdd, gSub, gDiv, gMod, gPow, gLt, gLe, gGt, gGe, gStr, gMin, gIn, gNotIn, gIs, gIsNot, isD, eLenSc, eIxSc, eScNil, eAppTn, sTown, tYesM, noEx_ok, itemG, stepS, iAll, itemsOf, iR1, iR2, wipeE, restE, keepE, sAug, gIadd, eApp, eExt, eNeg, List.getD_cons_zero, List.getD_cons_succ, List.set_cons_zero, List.set_cons_succ, List.getElem?_cons_zero, List.getElem?_cons_succ, Option.map_some, Option.map_none, Bool.not_true, Bool.not_false, beq_self_eq_true, if_true, if_false, ite_true, ite_false, Bool.false_eq_true, reduceIte, reduceCtorEq, lenL_0, lenL_1, lenL_2, lenL_3, lenL_4, lenL_5, lenL_6, lenL_7, lenL_8, lenL_9, lenL_10, lenL_11, lenL_12, call_fin, eCallF_eq, put_ok, put_ex, finC_nx, finC_rt, finC_ex, List.length_cons, List.length_nil, Nat.reduceAdd, Nat.reduceSub, List.replicate_succ, List.replicate_zero, List.cons_append, List.nil_append, item2, Outc, wipeE, keepE, eDic0, eDic1, eDin, eDnotin, eDget, eDgetD, eDgetR, eDgetG, sDput, dkOf, eDlen, eSortDic, eSortDicR, eDvals, eLock, iFz, isFz, eRev, and_self, and_true, true_and, decide_true, decide_false, Bool.and_self, Bool.and_true, Bool.true_and, litL_0, litL_1, litL_2, litL_3, litL_4, litL_5, litL_6, litL_7, litL_8, litL_9, litL_10, litL_11, litL_12, litL_13, litL_14, litL_15, litL_16, litL_17, litL_18, litL_19, litL_20, litL_21, litL_22, litL_23, litL_24, litL_25, litL_26, litL_27, litL_28, litL_29, litL_30, litL_31, litL_32] <;> rfl) ?_
  obtain ⟨b11, hb11, e6⟩ := k20_plays (ns := ns) (wd := [.tn k5]) (x := x) (a5 := .sh (.list (sortDs ((rch n [c] false x).map (rwD n))))) (a7 := .sh (rwD n z)) (a9 := .ow (mvDs (mvP (mvN n c) u))) (a11 := .no) hg (.inl rfl) ht
  refine seqE e6 ?_
  have hap : asPairs (mvDs (mvP (mvN n c) t)) = some ((pl (mvN n c) t).map fun p => ((0 : Int), ((p : Nat) : Int))) := asP_mv _
  have hok : okP ((pl (mvN n c) t).map fun p => ((0 : Int), ((p : Nat) : Int))) := okP_mv hm8
  have hml : (mvDs (mvP (mvN n c) t)).length = CM.cnt (mvN n c) t := by unfold mvDs; rw [List.length_map, mvP_len]
  refine seqE (by simp only [cIf_t, bind_ok, bind_ex, bind_st, get_mk, set_mk, sSeq, sEx, sRet, sIf, sSet, sPass, sEx_, sBk, sAsg, sPar2, sPar3, thenS, dv, toD, eC, eN, eMv, eP, eBin, tst, eChain, tAndM, tOrM, tNotM, eAnd, eOr, eNot, eIf, toA, aNil, aCons, asDs, dvs, eTup, eLst, eCall, eIx, eIxN, eSl, pNo, pSo, cutD, gLen, eLenN, lenD, gList, gTuple, gN, gT, setAll, eMt, tyD, eIsi, gAdd, gSub, gDiv, gMod, gPow, gLt, gLe, gGt, gGe, gStr, gMin, gIn, gNotIn, gIs, gIsNot, isD, eLenSc, eIxSc, eScNil, eAppTn, sTown, tYesM, noEx_ok, itemG, stepS, iAll, itemsOf, iR1, iR2, wipeE, restE, keepE, sAug, gIadd, eApp, eExt, eNeg, List.getD_cons_zero, List.getD_cons_succ, List.set_cons_zero, List.set_cons_succ, List.getElem?_cons_zero, List.getElem?_cons_succ, Option.map_some, Option.map_none, Bool.not_true, Bool.not_false, beq_self_eq_true, if_true, if_false, ite_true, ite_false, Bool.false_eq_true, reduceIte, reduceCtorEq, lenL_0, lenL_1, lenL_2, lenL_3, lenL_4, lenL_5, lenL_6, lenL_7, lenL_8, lenL_9, lenL_10, lenL_11, lenL_12, call_fin, eCallF_eq, put_ok, put_ex, finC_nx, finC_rt, finC_ex, List.length_cons, List.length_nil, Nat.reduceAdd, Nat.reduceSub, List.replicate_succ, List.replicate_zero, List.cons_append, List.nil_append, item2, Outc, wipeE, keepE, eDic0, eDic1, eDin, eDnotin, eDget, eDgetD, eDgetR, eDgetG, sDput, dkOf, eDlen, eSortDic, eSortDicR, eDvals, eLock, iFz, isFz, eRev, and_self, and_true, true_and, decide_true, decide_false, Bool.and_self, Bool.and_true, Bool.true_and, litL_0, litL_1, litL_2, litL_3, litL_4, litL_5, litL_6, litL_7, litL_8, litL_9, litL_10, litL_11, litL_12, litL_13, litL_14, litL_15, litL_16, litL_17, litL_18, litL_19, litL_20, litL_21, litL_22, litL_23, litL_24, litL_25, litL_26, litL_27, litL_28, litL_29, litL_30, litL_31, litL_32, gNe_rw hy hy, eSortSetP, hap, cIf_pos hok, nself (shaped_mvl _), hdist, hml, gNe_nat] <;> rfl) ?_
  refine seqE (by simp only [cIf_t, bind_ok, bind_ex, bind_st, get_mk, set_mk, sSeq, sEx, sRet, sIf, sSet, sPass, sEx_, sBk, sAsg, sPar2, sPar3, thenS, dv, toD, eC, eN, eMv, eP, eBin, tst, eChain, tAndM, tOrM, tNotM, eAnd, eOr, eNot, eIf, toA, aNil, aCons, asDs, dvs, eTup, eLst, eCall, eIx, eIxN, eSl, pNo, pSo, cutD, gLen, eLenN, lenD, gList, gTuple, gN, gT, setAll, eMt, tyD, eIsi, gAdd, gSub, gDiv, gMod, gPow, gLt, gLe, gGt, gGe, gStr, gMin, gIn, gNotIn, gIs, gIsNot, isD, eLenSc, eIxSc, eScNil, eAppTn, sTown, tYesM, noEx_ok, itemG, stepS, iAll, itemsOf, iR1, iR2, wipeE, restE, keepE, sAug, gIadd, eApp, eExt, eNeg, List.getD_cons_zero, List.getD_cons_succ, List.set_cons_zero, List.set_cons_succ, List.getElem?_cons_zero, List.getElem?_cons_succ, Option.map_some, Option.map_none, Bool.not_true, Bool.not_false, beq_self_eq_true, if_true, if_false, ite_true, ite_false, Bool.false_eq_true, reduceIte, reduceCtorEq, lenL_0, lenL_1, lenL_2, lenL_3, lenL_4, lenL_5, lenL_6, lenL_7, lenL_8, lenL_9, lenL_10, lenL_11, lenL_12, call_fin, eCallF_eq, put_ok, put_ex, finC_nx, finC_rt, finC_ex, List.length_cons, List.length_nil, Nat.reduceAdd, Nat.reduceSub, List.replicate_succ, List.replicate_zero, List.cons_append, List.nil_append, item2, Outc, wipeE, keepE, eDic0, eDic1, eDin, eDnotin, eDget, eDgetD, eDgetR, eDgetG, sDput, dkOf, eDlen, eSortDic, eSortDicR, eDvals, eLock, iFz, isFz, eRev, and_self, and_true, true_and, decide_true, decide_false, Bool.and_self, Bool.and_true, Bool.true_and, litL_0, litL_1, litL_2, litL_3, litL_4, litL_5, litL_6, litL_7, litL_8, litL_9, litL_10, litL_11, litL_12, litL_13, litL_14, litL_15, litL_16, litL_17, litL_18, litL_19, litL_20, litL_21, litL_22, litL_23, litL_24, litL_25, litL_26, litL_27, litL_28, litL_29, litL_30, litL_31, litL_32, sw3, nself (shaped_mvl _)] <;> rfl) ?_
  have hnn : ∀ e, gNe (.list []) (.list []) e = .ok (.sh (.bool false)) e := fun e => rfl
  refine seqE (by simp only [cIf_t, bind_ok, bind_ex, bind_st, get_mk, set_mk, sSeq, sEx, sRet, sIf, sSet, sPass, sEx_, sBk, sAsg, sPar2, sPar3, thenS, dv, toD, eC, eN, eMv, eP, eBin, tst, eChain, tAndM, tOrM, tNotM, eAnd, eOr, eNot, eIf, toA, aNil, aCons, asDs, dvs, eTup, eLst, eCall, eIx, eIxN, eSl, pNo, pSo, cutD, gLen, eLenN, lenD, gList, gTuple, gN, gT, setAll, eMt, tyD, eIsi, gAdd, gSub, gDiv, gMod, gPow, gLt, gLe, gGt, gGe, gStr, gMin, gIn, gNotIn, gIs, gIsNot, isD, eLenSc, eIxSc, eScNil, eAppTn, sTown, tYesM, noEx_ok, itemG, stepS, iAll, itemsOf, iR1, iR2, wipeE, restE, keepE, sAug, gIadd, eApp, eExt, eNeg, List.getD_cons_zero, List.getD_cons_succ, List.set_cons_zero, List.set_cons_succ, List.getElem?_cons_zero, List.getElem?_cons_succ, Option.map_some, Option.map_none, Bool.not_true, Bool.not_false, beq_self_eq_true, if_true, if_false, ite_true, ite_false, Bool.false_eq_true, reduceIte, reduceCtorEq, lenL_0, lenL_1, lenL_2, lenL_3, lenL_4, lenL_5, lenL_6, lenL_7, lenL_8, lenL_9, lenL_10, lenL_11, lenL_12, call_fin, eCallF_eq, put_ok, put_ex, finC_nx, finC_rt, finC_ex, List.length_cons, List.length_nil, Nat.reduceAdd, Nat.reduceSub, List.replicate_succ, List.replicate_zero, List.cons_append, List.nil_append, item2, Outc, wipeE, keepE, eDic0, eDic1, eDin, eDnotin, eDget, eDgetD, eDgetR, eDgetG, sDput, dkOf, eDlen, eSortDic, eSortDicR, eDvals, eLock, iFz, isFz, eRev, and_self, and_true, true_and, decide_true, decide_false, Bool.and_self, Bool.and_true, Bool.true_and, litL_0, litL_1, litL_2, litL_3, litL_4, litL_5, litL_6, litL_7, litL_8, litL_9, litL_10, litL_11, litL_12, litL_13, litL_14, litL_15, litL_16, litL_17, litL_18, litL_19, litL_20, litL_21, litL_22, litL_23, litL_24, litL_25, litL_26, litL_27, litL_28, litL_29, litL_30, litL_31, litL_32, hsol, sw5, nself (shaped_mvl _), hnn] <;> rfl) ?_
  obtain ⟨b9, hb9, e7⟩ := k20_lc0 (ns := ns) (n := n) (c := c) (x := x) (t := t) (u := u) (wd := [.tn k5]) (a5 := .sh (.list (sortDs ((rch n [c] false x).map (rwD n))))) (a6 := .sh (rwD n y)) (a7 := .sh (rwD n z)) (a9 := .ow (mvDs (mvP (mvN n c) u))) (a10 := .sh (rwD n y)) (a11 := b11) hm8 (.inl rfl) hb11
  have e8 := k20_lc1 (ns := ns) (n := n) (c := c) (x := x) (t := t) (u := u) (wd := [.tn k5]) (a5 := .sh (.list (sortDs ((rch n [c] false x).map (rwD n))))) (a6 := .sh (rwD n y)) (a7 := .sh (rwD n z)) (a9 := b9) (a10 := .sh (rwD n y)) (a11 := b11) hm8 hb9 hb11
  have hadd : (mvDs (((pl (mvN n c) t).filter fun p => !u.testBit p).map fun p => (0, p))).length + (mvDs (((pl (mvN n c) u).filter fun p => !t.testBit p).map fun p => (0, p))).length ≤ lim := by
    have g1 := List.length_filter_le (fun p => !u.testBit p) (pl (mvN n c) t)
    have g2 := List.length_filter_le (fun p => !t.testBit p) (pl (mvN n c) u)
    have g3 := cnt_le (mvN n c) t
    have g4 := cnt_le (mvN n c) u
    unfold CM.cnt at g3 g4
    unfold mvDs
    rw [List.length_map, List.length_map, List.length_map, List.length_map]
    omega
  refine seqE (by simp only [cIf_t, bind_ok, bind_ex, bind_st, get_mk, set_mk, sSeq, sEx, sRet, sIf, sSet, sPass, sEx_, sBk, sAsg, sPar2, sPar3, thenS, dv, toD, eC, eN, eMv, eP, eBin, tst, eChain, tAndM, tOrM, tNotM, eAnd, eOr, eNot, eIf, toA, aNil, aCons, asDs, dvs, eTup, eLst, eCall, eIx, eIxN, eSl, pNo, pSo, cutD, gLen, eLenN, lenD, gList, gTuple, gN, gT, setAll, eMt, tyD, eIsi, gAdd, gSub, gDiv, gMod, gPow, gLt, gLe, gGt, gGe, gStr, gMin, gIn, gNotIn, gIs, gIsNot, isD, eLenSc, eIxSc, eScNil, eAppTn, sTown, tYesM, noEx_ok, itemG, stepS, iAll, itemsOf, iR1, iR2, wipeE, restE, keepE, sAug, gIadd, eApp, eExt, eNeg, List.getD_cons_zero, List.getD_cons_succ, List.set_cons_zero, List.set_cons_succ, List.getElem?_cons_zero, List.getElem?_cons_succ, Option.map_some, Option.map_none, Bool.not_true, Bool.not_false, beq_self_eq_true, if_true, if_false, ite_true, ite_false, Bool.false_eq_true, reduceIte, reduceCtorEq, lenL_0, lenL_1, lenL_2, lenL_3, lenL_4, lenL_5, lenL_6, lenL_7, lenL_8, lenL_9, lenL_10, lenL_11, lenL_12, call_fin, eCallF_eq, put_ok, put_ex, finC_nx, finC_rt, finC_ex, List.length_cons, List.length_nil, Nat.reduceAdd, Nat.reduceSub, List.replicate_succ, List.replicate_zero, List.cons_append, List.nil_append, item2, Outc, wipeE, keepE, eDic0, eDic1, eDin, eDnotin, eDget, eDgetD, eDgetR, eDgetG, sDput, dkOf, eDlen, eSortDic, eSortDicR, eDvals, eLock, iFz, isFz, eRev, and_self, and_true, true_and, decide_true, decide_false, Bool.and_self, Bool.and_true, Bool.true_and, litL_0, litL_1, litL_2, litL_3, litL_4, litL_5, litL_6, litL_7, litL_8, litL_9, litL_10, litL_11, litL_12, litL_13, litL_14, litL_15, litL_16, litL_17, litL_18, litL_19, litL_20, litL_21, litL_22, litL_23, litL_24, litL_25, litL_26, litL_27, litL_28, litL_29, litL_30, litL_31, litL_32, e7, e8, if_pos hadd, sym_sort (mvN n c) t u hm8] <;> rfl) ?_
  refine seqE (by simp only [cIf_t, bind_ok, bind_ex, bind_st, get_mk, set_mk, sSeq, sEx, sRet, sIf, sSet, sPass, sEx_, sBk, sAsg, sPar2, sPar3, thenS, dv, toD, eC, eN, eMv, eP, eBin, tst, eChain, tAndM, tOrM, tNotM, eAnd, eOr, eNot, eIf, toA, aNil, aCons, asDs, dvs, eTup, eLst, eCall, eIx, eIxN, eSl, pNo, pSo, cutD, gLen, eLenN, lenD, gList, gTuple, gN, gT, setAll, eMt, tyD, eIsi, gAdd, gSub, gDiv, gMod, gPow, gLt, gLe, gGt, gGe, gStr, gMin, gIn, gNotIn, gIs, gIsNot, isD, eLenSc, eIxSc, eScNil, eAppTn, sTown, tYesM, noEx_ok, itemG, stepS, iAll, itemsOf, iR1, iR2, wipeE, restE, keepE, sAug, gIadd, eApp, eExt, eNeg, List.getD_cons_zero, List.getD_cons_succ, List.set_cons_zero, List.set_cons_succ, List.getElem?_cons_zero, List.getElem?_cons_succ, Option.map_some, Option.map_none, Bool.not_true, Bool.not_false, beq_self_eq_true, if_true, if_false, ite_true, ite_false, Bool.false_eq_true, reduceIte, reduceCtorEq, lenL_0, lenL_1, lenL_2, lenL_3, lenL_4, lenL_5, lenL_6, lenL_7, lenL_8, lenL_9, lenL_10, lenL_11, lenL_12, call_fin, eCallF_eq, put_ok, put_ex, finC_nx, finC_rt, finC_ex, List.length_cons, List.length_nil, Nat.reduceAdd, Nat.reduceSub, List.replicate_succ, List.replicate_zero, List.cons_append, List.nil_append, item2, Outc, wipeE, keepE, eDic0, eDic1, eDin, eDnotin, eDget, eDgetD, eDgetR, eDgetG, sDput, dkOf, eDlen, eSortDic, eSortDicR, eDvals, eLock, iFz, isFz, eRev, and_self, and_true, true_and, decide_true, decide_false, Bool.and_self, Bool.and_true, Bool.true_and, litL_0, litL_1, litL_2, litL_3, litL_4, litL_5, litL_6, litL_7, litL_8, litL_9, litL_10, litL_11, litL_12, litL_13, litL_14, litL_15, litL_16, litL_17, litL_18, litL_19, litL_20, litL_21, litL_22, litL_23, litL_24, litL_25, litL_26, litL_27, litL_28, litL_29, litL_30, litL_31, litL_32, sw4, nself (shaped_mvl _)] <;> rfl) ?_
  refine seqE (by simp only [cIf_t, bind_ok, bind_ex, bind_st, get_mk, set_mk, sSeq, sEx, sRet, sIf, sSet, sPass, sEx_, sBk, sAsg, sPar2, sPar3, thenS, dv, toD, eC, eN, eMv, eP, eBin, tst, eChain, tAndM, tOrM, tNotM, eAnd, eOr, eNot, eIf, toA, aNil, aCons, asDs, dvs, eTup, eLst, eCall, eIx, eIxN, eSl, pNo, pSo, cutD, gLen, eLenN, lenD, gList, gTuple, gN, gT, setAll, eMt, tyD, eIsi, gAdd, gSub, gDiv, gMod, gPow, gLt, gLe, gGt, gGe, gStr, gMin, gIn, gNotIn, gIs, gIsNot, isD, eLenSc, eIxSc, eScNil, eAppTn, sTown, tYesM, noEx_ok, itemG, stepS, iAll, itemsOf, iR1, iR2, wipeE, restE, keepE, sAug, gIadd, eApp, eExt, eNeg, List.getD_cons_zero, List.getD_cons_succ, List.set_cons_zero, List.set_cons_succ, List.getElem?_cons_zero, List.getElem?_cons_succ, Option.map_some, Option.map_none, Bool.not_true, Bool.not_false, beq_self_eq_true, if_true, if_false, ite_true, ite_false, Bool.false_eq_true, reduceIte, reduceCtorEq, lenL_0, lenL_1, lenL_2, lenL_3, lenL_4, lenL_5, lenL_6, lenL_7, lenL_8, lenL_9, lenL_10, lenL_11, lenL_12, call_fin, eCallF_eq, put_ok, put_ex, finC_nx, finC_rt, finC_ex, List.length_cons, List.length_nil, Nat.reduceAdd, Nat.reduceSub, List.replicate_succ, List.replicate_zero, List.cons_append, List.nil_append, item2, Outc, wipeE, keepE, eDic0, eDic1, eDin, eDnotin, eDget, eDgetD, eDgetR, eDgetG, sDput, dkOf, eDlen, eSortDic, eSortDicR, eDvals, eLock, iFz, isFz, eRev, and_self, and_true, true_and, decide_true, decide_false, Bool.and_self, Bool.and_true, Bool.true_and, litL_0, litL_1, litL_2, litL_3, litL_4, litL_5, litL_6, litL_7, litL_8, litL_9, litL_10, litL_11, litL_12, litL_13, litL_14, litL_15, litL_16, litL_17, litL_18, litL_19, litL_20, litL_21, litL_22, litL_23, litL_24, litL_25, litL_26, litL_27, litL_28, litL_29, litL_30, litL_31, litL_32, hfar] <;> rfl) ?_
  have i1 : ∀ e, itemE (.sh (gmD n [c] false)) 1 e = .ok (.sh (.tuple [strD c])) e := fun e => rfl
  have i2 : ∀ e, itemE (.sh (.tuple [strD c])) 0 e = .ok (.sh (.str (tx c))) e := fun e => rfl
  have i3 : ∀ e, itemE (.ow [rwD n w]) 0 e = .ok (.sh (rwD n w)) e := fun e => rfl
  have h11 : ∀ e, gEq (.int ((1 : Nat) : Int)) (.int 1) e = .ok (.sh (.bool true)) e := fun e => rfl
  have hmw : (mvDs (mvP (mvN n c) (2 ^ (mvN n c) - 1))).length = (mvN n c) := by unfold mvDs; rw [List.length_map, mvP_len, cnt_all]
  have hp : ((n : Nat) : Int) - ((c.length : Nat) : Int) + 1 = ((mvN n c : Nat) : Int) := by unfold mvN; omega
  exact endE (by simp only [cIf_t, bind_ok, bind_ex, bind_st, get_mk, set_mk, sSeq, sEx, sRet, sIf, sSet, sPass, sEx_, sBk, sAsg, sPar2, sPar3, thenS, dv, toD, eC, eN, eMv, eP, eBin, tst, eChain, tAndM, tOrM, tNotM, eAnd, eOr, eNot, eIf, toA, aNil, aCons, asDs, dvs, eTup, eLst, eCall, eIx, eIxN, eSl, pNo, pSo, cutD, gLen, eLenN, lenD, gList, gTuple, gN, gT, setAll, eMt, tyD, eIsi, gAdd, gSub, gDiv, gMod, gPow, gLt, gLe, gGt, gGe, gStr, gMin, gIn, gNotIn, gIs, gIsNot, isD, eLenSc, eIxSc, eScNil, eAppTn, sTown, tYesM, noEx_ok, itemG, stepS, iAll, itemsOf, iR1, iR2, wipeE, restE, keepE, sAug, gIadd, eApp, eExt, eNeg, List.getD_cons_zero, List.getD_cons_succ, List.set_cons_zero, List.set_cons_succ, List.getElem?_cons_zero, List.getElem?_cons_succ, Option.map_some, Option.map_none, Bool.not_true, Bool.not_false, beq_self_eq_true, if_true, if_false, ite_true, ite_false, Bool.false_eq_true, reduceIte, reduceCtorEq, lenL_0, lenL_1, lenL_2, lenL_3, lenL_4, lenL_5, lenL_6, lenL_7, lenL_8, lenL_9, lenL_10, lenL_11, lenL_12, call_fin, eCallF_eq, put_ok, put_ex, finC_nx, finC_rt, finC_ex, List.length_cons, List.length_nil, Nat.reduceAdd, Nat.reduceSub, List.replicate_succ, List.replicate_zero, List.cons_append, List.nil_append, item2, Outc, wipeE, keepE, eDic0, eDic1, eDin, eDnotin, eDget, eDgetD, eDgetR, eDgetG, sDput, dkOf, eDlen, eSortDic, eSortDicR, eDvals, eLock, iFz, isFz, eRev, and_self, and_true, true_and, decide_true, decide_false, Bool.and_self, Bool.and_true, Bool.true_and, litL_0, litL_1, litL_2, litL_3, litL_4, litL_5, litL_6, litL_7, litL_8, litL_9, litL_10, litL_11, litL_12, litL_13, litL_14, litL_15, litL_16, litL_17, litL_18, litL_19, litL_20, litL_21, litL_22, litL_23, litL_24, litL_25, litL_26, litL_27, litL_28, litL_29, litL_30, litL_31, litL_32, h11, i1, i2, i3, sw6, hmw, tx_len, if_pos hcl, hp, gEq_nat] <;> rfl)
end CO

open PySem PySem.W PyProof.Rows
set_option maxHeartbeats 0 in
theorem PySem.Challenge.cw_coinshapes_k20_whole_sweeps_holds : PySem.Challenge.rw_coinshapes_k20_whole_sweeps.Holds := by
  w_on; o_law; k_head; (case hw => w_witness2)
  k_fill
  refine L2.walk_of (l := PySem.Challenge.rw_coinshapes_k20_whole_sweeps) (n := 63) (k := 7) (x := "_law_script") (CX := fun w => L2.CX (PySem.Challenge.rw_coinshapes_k20_whole_sweeps).prog w) (sp := fun w => CO.spOf (CO.kOf _) 1 CO.m_law) rfl (by decide) rfl ⟨rfl, by decide, by decide⟩ (fun w h Y => PySem.W.kIn_of Y) ?F (fun w H a ns hl _ hS => CO.law_start rfl hS (CO.law_true ns hl)) (fun w H s e s' h => CO.cx_false h)
  case F =>
    intro w mg fa h KX G hmg
    refine' CO.all_mk KX G hmg ?z_all ?z_bool ?z_enumerate ?z_int ?z_isinstance ?z_len ?z_list ?z_max ?z_min ?z_range ?z_set ?z_sorted ?z_str ?z_tuple ?z_zip ?z_MOST ?n_0 ?k_0 ?e_0 ?s_0 ?t_0 ?n_1 ?k_1 ?e_1 ?s_1 ?t_1 ?n_3 ?k_3 ?e_3 ?s_3 ?t_3 ?n_4 ?k_4 ?e_4 ?s_4 ?t_4 ?n_5 ?k_5 ?e_5 ?s_5 ?t_5 ?n_6 ?k_6 ?e_6 ?s_6 ?t_6 ?a_10 ?l_10 ?d_10 ?q_10 ?a_11 ?l_11 ?d_11 ?q_11 ?a_12 ?l_12 ?d_12 ?q_12 ?a_13 ?l_13 ?d_13 ?q_13 ?a_14 ?l_14 ?d_14 ?q_14 ?a_15 ?l_15 ?d_15 ?q_15 ?a_16 ?l_16 ?d_16 ?q_16 ?a_17 ?l_17 ?d_17 ?q_17 ?a_18 ?l_18 ?d_18 ?q_18 ?a_19 ?l_19 ?d_19 ?q_19 ?a_20 ?l_20 ?d_20 ?q_20 ?a_21 ?l_21 ?d_21 ?q_21 ?a_23 ?l_23 ?d_23 ?q_23 ?a_24 ?l_24 ?d_24 ?q_24 ?a_26 ?l_26 ?d_26 ?q_26 ?a_27 ?l_27 ?d_27 ?q_27 ?a_28 ?l_28 ?d_28 ?q_28 ?a_29 ?l_29 ?d_29 ?q_29 ?a_30 ?l_30 ?d_30 ?q_30 ?a_32 ?l_32 ?d_32 ?q_32 ?a_33 ?l_33 ?d_33 ?q_33 ?a_34 ?l_34 ?d_34 ?q_34 ?a_35 ?l_35 ?d_35 ?q_35 ?a_36 ?l_36 ?d_36 ?q_36 ?a_37 ?l_37 ?d_37 ?q_37 ?a_38 ?l_38 ?d_38 ?q_38
    (case z_all => k_is)
    (case z_bool => k_is)
    (case z_enumerate => k_is)
    (case z_int => k_is)
    (case z_isinstance => k_is)
    (case z_len => k_is)
    (case z_list => k_is)
    (case z_max => k_is)
    (case z_min => k_is)
    (case z_range => k_is)
    (case z_set => k_is)
    (case z_sorted => k_is)
    (case z_str => k_is)
    (case z_tuple => k_is)
    (case z_zip => k_is)
    (case z_MOST => k_is)
    (case n_0 => k_is)
    (case k_0 => k_is)
    (case e_0 => k_exc)
    (case s_0 => k_is)
    (case t_0 => k_is)
    (case n_1 => k_is)
    (case k_1 => k_is)
    (case e_1 => k_exc)
    (case s_1 => k_is)
    (case t_1 => k_is)
    (case n_3 => k_is)
    (case k_3 => k_is)
    (case e_3 => k_exc)
    (case s_3 => k_is)
    (case t_3 => k_is)
    (case n_4 => k_is)
    (case k_4 => k_is)
    (case e_4 => k_exc)
    (case s_4 => k_is)
    (case t_4 => k_is)
    (case n_5 => k_is)
    (case k_5 => k_is)
    (case e_5 => k_exc)
    (case s_5 => k_is)
    (case t_5 => k_is)
    (case n_6 => k_is)
    (case k_6 => k_is)
    (case e_6 => k_exc)
    (case s_6 => k_is)
    (case t_6 => k_is)
    (case a_10 => k_is)
    (case l_10 => k_is)
    (case d_10 => k_is)
    (case q_10 => k_is)
    (case a_11 => k_is)
    (case l_11 => k_is)
    (case d_11 => k_is)
    (case q_11 => k_is)
    (case a_12 => k_is)
    (case l_12 => k_is)
    (case d_12 => k_is)
    (case q_12 => k_is)
    (case a_13 => k_is)
    (case l_13 => k_is)
    (case d_13 => k_is)
    (case q_13 => k_is)
    (case a_14 => k_is)
    (case l_14 => k_is)
    (case d_14 => k_is)
    (case q_14 => k_is)
    (case a_15 => k_is)
    (case l_15 => k_is)
    (case d_15 => k_is)
    (case q_15 => k_is)
    (case a_16 => k_is)
    (case l_16 => k_is)
    (case d_16 => k_is)
    (case q_16 => k_is)
    (case a_17 => k_is)
    (case l_17 => k_is)
    (case d_17 => k_is)
    (case q_17 => k_is)
    (case a_18 => k_is)
    (case l_18 => k_is)
    (case d_18 => k_is)
    (case q_18 => k_is)
    (case a_19 => k_is)
    (case l_19 => k_is)
    (case d_19 => k_is)
    (case q_19 => k_is)
    (case a_20 => k_is)
    (case l_20 => k_is)
    (case d_20 => k_is)
    (case q_20 => k_is)
    (case a_21 => k_is)
    (case l_21 => k_is)
    (case d_21 => k_is)
    (case q_21 => k_is)
    (case a_23 => k_is)
    (case l_23 => k_is)
    (case d_23 => k_is)
    (case q_23 => k_is)
    (case a_24 => k_is)
    (case l_24 => k_is)
    (case d_24 => k_is)
    (case q_24 => k_is)
    (case a_26 => k_is)
    (case l_26 => k_is)
    (case d_26 => k_is)
    (case q_26 => k_is)
    (case a_27 => k_is)
    (case l_27 => k_is)
    (case d_27 => k_is)
    (case q_27 => k_is)
    (case a_28 => k_is)
    (case l_28 => k_is)
    (case d_28 => k_is)
    (case q_28 => k_is)
    (case a_29 => k_is)
    (case l_29 => k_is)
    (case d_29 => k_is)
    (case q_29 => k_is)
    (case a_30 => k_is)
    (case l_30 => k_is)
    (case d_30 => k_is)
    (case q_30 => k_is)
    (case a_32 => k_is)
    (case l_32 => k_is)
    (case d_32 => k_is)
    (case q_32 => k_is)
    (case a_33 => k_is)
    (case l_33 => k_is)
    (case d_33 => k_is)
    (case q_33 => k_is)
    (case a_34 => k_is)
    (case l_34 => k_is)
    (case d_34 => k_is)
    (case q_34 => k_is)
    (case a_35 => k_is)
    (case l_35 => k_is)
    (case d_35 => k_is)
    (case q_35 => k_is)
    (case a_36 => k_is)
    (case l_36 => k_is)
    (case d_36 => k_is)
    (case q_36 => k_is)
    (case a_37 => k_is)
    (case l_37 => k_is)
    (case d_37 => k_is)
    (case q_37 => k_is)
    (case a_38 => k_is)
    (case l_38 => k_is)
    (case d_38 => k_is)
    (case q_38 => k_is)