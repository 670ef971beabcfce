import PyProof.Rows.All
import Wide.All
import OpenK.AllK
import Wide.FinOn
import HandS.ForMost
import HandS.ForExc
import HandS.Zip
import HandS.Flow
import HandS.Wide
import HandS.TupAny
import HandS.AnyAll
import KE.KNest
import HandS.TupMul
import HandS.Deep
import HandS.Style
import HandS.TupLe
import KE.LtData
import HandS.Codes
import KE.KTupSum
import HandS.TryOnly
import HandS.ExcOwn
import HandS.Remove
import HandS.WordsExc
import HandS.Lambda
import KE.GoesEnum
import KE.GoesNew
import HandS.Rev
import HandS.IsInst
import HandS.GenCall
import HandS.GenList
import KE.GoesZip
import KE.KDictZip
import HandS.DictComp
import HandS.EndTab
import HandS.EndBits
import PyProof.ExcBaseAll.ValueError
import KE.SortData
import KE.DataMinMax
import KE.KDictSum
import HandS.More
import HandS.Conv
import HandS.TupLen
import HandS.SortRule
import HandS.ReCall
import HandS.SetKeys
import HandS.Replace
import HandS.RaiseMore
import KE.DataCmp
import PySem.Challenge.RW_wovenwhole_k05_cloths_without_end_under
set_option Elab.async false
/-! W0: the names of this law's functions that hold generator expressions. -/
namespace W3
open PySem
def gexNames : List Str := ["step_of", "is_swappable"]
end W3

set_option Elab.async false
set_option linter.all false
set_option maxRecDepth 100000
/-! W3a: pure data, the result monad, what stands for what; expressions. -/
namespace W3
open PySem PySem.Spec L2

abbrev D := PyData
/-- the numbers of a law's state -/
structure DS where
  a : Int
  b : Int
  c : Int
  ns : List Int
inductive R (α : Type) where
  | ok (x : α) (s : DS)
  | exc (c : Str) (p : D) (s : DS)
  | bad
abbrev M (α : Type) := DS → R α
namespace M
def ret {α : Type} (x : α) : M α := fun s => .ok x s
def bad {α : Type} : M α := fun _ => .bad
def raise {α : Type} (c : Str) (p : D) : M α := fun s => .exc c p s
def bind {α β : Type} (m : M α) (k : α → M β) : M β := fun s => match m s with
  | .ok x s' => k x s'
  | .exc c p s' => .exc c p s'
  | .bad => .bad
def lift {α : Type} (o : Option α) : M α := fun s => match o with
  | some x => .ok x s
  | none => .bad
end M
theorem ret_bind {α β : Type} (x : α) (k : α → M β) : M.bind (M.ret x) k = k x := rfl
theorem bind_ret {α : Type} (m : M α) : M.bind m M.ret = m := by
  funext s; unfold M.bind M.ret; cases m s <;> rfl
theorem bind_assoc {α β γ : Type} (m : M α) (k : α → M β) (l : β → M γ) : M.bind (M.bind m k) l = M.bind m fun x => M.bind (k x) l := by
  funext s; unfold M.bind; cases m s <;> rfl
theorem bad_bind {α β : Type} (k : α → M β) : M.bind (M.bad : M α) k = M.bad := rfl
theorem raise_bind {α β : Type} (c : Str) (p : D) (k : α → M β) : M.bind (M.raise c p : M α) k = M.raise c p := rfl
theorem lift_some {α : Type} (x : α) : M.lift (some x) = M.ret x := rfl

/-! ### what stands for what -/
structure G where
  K : PySem.W.Frag
  st : Option Addr
  sc : Addr
/-- the tables of code objects of the functions that hold generator expressions -/
def tabsOf (K : PySem.W.Frag) : List Addr := gexNames.filterMap fun x => (PySem.W.tabIn K x).map (·.2)
/-- a tuple's address: tracked, or a known one of texts -/
def TupAt (K : PySem.W.Frag) (H : Hp) (a : Addr) (xs : List V) : Prop := H a = some (.tup xs) ∨ (SqT K (fun _ => none) a xs ∧ ∀ v ∈ xs, ∃ z, v = .str z)
theorem TupAt.of {K : PySem.W.Frag} {H : Hp} {a : Addr} {xs : List V} (h : H a = some (.tup xs)) : TupAt K H a xs := .inl h
theorem TupAt.seqT {K : PySem.W.Frag} {H : Hp} {a : Addr} {xs : List V} (h : TupAt K H a xs) : SqT K H a xs := by
  rcases h with h | ⟨(h | ⟨o, h⟩) | h, _⟩
  · exact .of h
  · cases h
  · cases h
  · exact .inr h
/-- keys as data -/
def kD : Key → D
  | .inl i => .int i
  | .inr x => .str x
def ksD (k : List Key) : D := .tuple (k.map kD)
/-- the law's state, where it is handed on -/
def stTok : D := .dict [(.none, .none)]
mutual
inductive Dq (g : G) (S : Addr → Prop) (H : Hp) : V → D → Prop
  | non : Dq g S H .non .none
  | bl (b : Bool) : Dq g S H (.bl b) (.bool b)
  | int (i : Int) : Dq g S H (.int i) (.int i)
  | str (x : Str) : Dq g S H (.str x) (.str x)
  | lst {a : Addr} {xs : List V} {ds : List D} : ¬ S a → H a = some (.lst xs) → DqAll g S H xs ds → Dq g S H (.ref a) (.list ds)
  | tup {a : Addr} {xs : List V} {ds : List D} : TupAt g.K H a xs → DqAll g S H xs ds → Dq g S H (.ref a) (.tuple ds)
  | dk {a : Addr} {kvs : List (Key × V)} {kd : List (D × D)} : ¬ S a → Rd H a (.dK kvs) → kd.map (·.1) = kvs.map (fun p => kD p.1) → DqAll g S H (kvs.map (·.2)) (kd.map (·.2)) → Dq g S H (.ref a) (.dict kd)
  | dt {a : Addr} {kvs : List (List Key × V)} {kd : List (D × D)} : ¬ S a → Rd H a (.dT kvs) → kd.map (·.1) = kvs.map (fun p => ksD p.1) → DqAll g S H (kvs.map (·.2)) (kd.map (·.2)) → Dq g S H (.ref a) (.dict kd)
  | lkk {a : Addr} {o : Obj} {kvs : List (Key × V)} {kd : List (D × D)} : ¬ S a → H a = some (.frz o (.dK kvs)) → kd.map (·.1) = kvs.map (fun p => kD p.1) → DqAll g S H (kvs.map (·.2)) (kd.map (·.2)) → Dq g S H (.ref a) (.dict ((.none, .bool true) :: kd))
  | lkt {a : Addr} {o : Obj} {kvs : List (List Key × V)} {kd : List (D × D)} : ¬ S a → H a = some (.frz o (.dT kvs)) → kd.map (·.1) = kvs.map (fun p => ksD p.1) → DqAll g S H (kvs.map (·.2)) (kd.map (·.2)) → Dq g S H (.ref a) (.dict ((.none, .bool true) :: kd))
  | st {a : Addr} : g.st = some a → Dq g S H (.ref a) stTok
inductive DqAll (g : G) (S : Addr → Prop) (H : Hp) : List V → List D → Prop
  | nil : DqAll g S H [] []
  | cons {v : V} {vs : List V} {d : D} {ds : List D} : Dq g S H v d → DqAll g S H vs ds → DqAll g S H (v :: vs) (d :: ds)
end
/-- what may have changed: the law's state, the tables -/
structure Ext (g : G) (H H' : Hp) : Prop where
  keep : ∀ b o, H b = some o → some b ≠ g.st → (∀ ps, o ≠ .tbl ps) → H' b = some o
  tab : ∀ b ps, H b = some (.tbl ps) → ∃ more, H' b = some (.tbl (ps ++ more))
  sta : ∀ a, g.st = some a → (∃ xs, H a = some (.lst xs)) → ∃ xs, H' a = some (.lst xs)
structure Ok (g : G) (H : Hp) (s : DS) : Prop where
  st : ∀ a, g.st = some a → H a = some (.lst [.int s.a, .int s.b, .ref g.sc, .int s.c]) ∧ H g.sc = some (.lst (s.ns.map V.int)) ∧ a ≠ g.sc
  tabs : ∀ P ∈ tabsOf g.K, GxR.TabG H P
/-- what may be changed -/
structure Mu (o : HO) : Prop where
  tup : ∀ xs, o ≠ .tup xs
  frz : ∀ x u, o ≠ .frz x u
  tbl : ∀ ps, o ≠ .tbl ps
theorem Mu.lst {xs : List V} : Mu (.lst xs) := ⟨fun _ e => (by cases e), fun _ _ e => (by cases e), fun _ e => (by cases e)⟩
structure SOk (g : G) (S : Addr → Prop) (H : Hp) : Prop where
  st : ∀ a, g.st = some a → S a
  trk : ∀ a, S a → ∃ o, H a = some o ∧ Mu o

section
variable {g : G} {S S' : Addr → Prop} {H H' H'' : Hp} {s s' : DS}
theorem Ext.refl : Ext g H H := ⟨fun _ _ e _ _ => e, fun _ ps e => ⟨#[], by rw [e]; simp⟩, fun _ _ h => h⟩
theorem Ext.trans (a : Ext g H H') (b : Ext g H' H'') : Ext g H H'' := ⟨fun c o e h1 h2 => b.keep c o (a.keep c o e h1 h2) h1 h2, fun c ps e => by
  obtain ⟨m1, e1⟩ := a.tab c ps e
  obtain ⟨m2, e2⟩ := b.tab c _ e1
  exact ⟨m1 ++ m2, by rw [e2, Array.append_assoc]⟩, fun c h e => b.sta c h (a.sta c h e)⟩
theorem Ext.same (h : Same H H') : Ext g H H' := ⟨fun b o e _ _ => h b o e, fun b ps e => ⟨#[], by rw [h b _ e]; simp⟩, fun a _ ⟨xs, e⟩ => ⟨xs, h a _ e⟩⟩
theorem same_upd {H : Hp} {p : Addr} {o : HO} (h : H p = none) : Same H (upd H p o) := fun b x e => by
  rw [upd_ne (ne_of_none e h)]
  exact e
theorem Ok.stl (k : Ok g H s) : ∀ a, g.st = some a → ∃ xs, H a = some (.lst xs) := fun a h => ⟨_, (k.st a h).1⟩
theorem Ok.same (k : Ok g H s) (h : Same H H') : Ok g H' s := ⟨fun a e => let ⟨x, y, z⟩ := k.st a e; ⟨h _ _ x, h _ _ y, z⟩, fun P hP => let ⟨ps, e, t⟩ := k.tabs P hP; ⟨ps, h _ _ e, t⟩⟩
theorem Ext.seqT (e : Ext g H H') (hs : ∀ a, g.st = some a → ∃ xs, H a = some (.lst xs)) {K : PySem.W.Frag} {a : Addr} {xs : List V} (h : SqT K H a xs) : SqT K H' a xs := by
  have ne : ∀ u, H a = some u → (∀ ys, u ≠ .lst ys) → some a ≠ g.st := fun u hu n z => by
    obtain ⟨ys, q⟩ := hs a z.symm
    rw [hu] at q
    exact n ys (Option.some.inj q)
  rcases h with (h | ⟨o, h⟩) | h
  · exact .inl (.inl (e.keep _ _ h (ne _ h fun _ q => by cases q) fun _ q => by cases q))
  · exact .inl (.inr ⟨o, e.keep _ _ h (ne _ h fun _ q => by cases q) fun _ q => by cases q⟩)
  · exact .inr h
theorem Ext.seqL (e : Ext g H H') {K : PySem.W.Frag} {a : Addr} {xs : List V} (ne : some a ≠ g.st) (h : SqL K H a xs) : SqL K H' a xs := by
  rcases h with (h | ⟨o, h⟩) | h
  · exact .inl (.inl (e.keep _ _ h ne fun _ q => by cases q))
  · exact .inl (.inr ⟨o, e.keep _ _ h ne fun _ q => by cases q⟩)
  · exact .inr h
theorem Ext.some_ (e : Ext g H H') (hs : ∀ a, g.st = some a → ∃ xs, H a = some (.lst xs)) {b : Addr} {o : HO} (h : H b = some o) : ∃ o', H' b = some o' := by
  by_cases z : some b = g.st
  · obtain ⟨xs, q⟩ := e.sta b z.symm (hs b z.symm)
    exact ⟨_, q⟩
  · by_cases t : ∃ ps, o = .tbl ps
    · obtain ⟨ps, rfl⟩ := t
      obtain ⟨m, q⟩ := e.tab b ps h
      exact ⟨_, q⟩
    · exact ⟨o, e.keep b o h z fun ps q => t ⟨ps, q⟩⟩
theorem Ext.none_ (e : Ext g H H') (hs : ∀ a, g.st = some a → ∃ xs, H a = some (.lst xs)) {b : Addr} (h : H' b = none) : H b = none := by
  cases q : H b with
  | none => rfl
  | some o =>
    obtain ⟨o', z⟩ := e.some_ hs q
    rw [h] at z; cases z
theorem SOk.ext (k : SOk g S H) (e : Ext g H H') (hs : ∀ a, g.st = some a → ∃ xs, H a = some (.lst xs)) : SOk g S H' := ⟨k.st, fun a h => by
  obtain ⟨o, q, m⟩ := k.trk a h
  by_cases z : some a = g.st
  · obtain ⟨xs, q⟩ := e.sta a z.symm (hs a z.symm)
    exact ⟨_, q, .lst⟩
  · exact ⟨o, e.keep a o q z m.tbl, m⟩⟩
theorem SOk.mu (k : SOk g S H) : ∀ a o, S a → H a = some o → Mu o := fun a o h e => by
  obtain ⟨o', q, m⟩ := k.trk a h
  rw [e] at q
  cases q
  exact m
/-- what is not in S is kept (tables may have grown) -/
structure Pres (S : Addr → Prop) (H H' : Hp) : Prop where
  keep : ∀ b o, H b = some o → ¬ S b → (∀ ps, o ≠ .tbl ps) → H' b = some o
  tab : ∀ b ps, H b = some (.tbl ps) → ∃ more, H' b = some (.tbl (ps ++ more))
theorem Pres.refl : Pres S H H := ⟨fun _ _ e _ _ => e, fun _ ps e => ⟨#[], by rw [e]; simp⟩⟩
theorem Pres.trans (a : Pres S H H') (b : Pres S H' H'') : Pres S H H'' := ⟨fun c o e h1 h2 => b.keep c o (a.keep c o e h1 h2) h1 h2, fun c ps e => by
  obtain ⟨m1, e1⟩ := a.tab c ps e
  obtain ⟨m2, e2⟩ := b.tab c _ e1
  exact ⟨m1 ++ m2, by rw [e2, Array.append_assoc]⟩⟩
theorem Ext.pres (e : Ext g H H') (hS : ∀ a, g.st = some a → S a) : Pres S H H' := ⟨fun b o h n t => e.keep b o h (fun z => n (hS b z.symm)) t, e.tab⟩
theorem Pres.same (h : Same H H') : Pres S H H' := ⟨fun b o e _ _ => h b o e, fun b ps e => ⟨#[], by rw [h b _ e]; simp⟩⟩
theorem Ext.tupAt (e : Ext g H H') (hs : ∀ a, g.st = some a → ∃ xs, H a = some (.lst xs)) {K : PySem.W.Frag} {a : Addr} {xs : List V} (h : TupAt K H a xs) : TupAt K H' a xs := by
  rcases h with h | h
  · exact .inl (e.keep _ _ h (fun z => by
      obtain ⟨ys, q⟩ := hs a z.symm
      rw [h] at q
      cases q) fun _ q => by cases q)
  · exact .inr h
theorem _root_.L2.Rd.ext {H H' : Hp} {a : Addr} {u : HO} (r : Rd H a u) (t : ∀ ps, u ≠ .tbl ps) (k : ∀ o, H a = some o → (∀ ps, o ≠ .tbl ps) → H' a = some o) : Rd H' a u := by
  rcases r with r | ⟨o, r⟩
  · exact .inl (k _ r t)
  · exact .inr ⟨o, k _ r fun ps z => by cases z⟩
mutual
theorem Dq.ext (hS : ∀ a, g.st = some a → S a) (hs : ∀ a, g.st = some a → ∃ xs, H a = some (.lst xs)) (e : Ext g H H') : ∀ (v : V) (d : D), Dq g S H v d → Dq g S H' v d
  | _, _, .non => .non
  | _, _, .bl b => .bl b
  | _, _, .int i => .int i
  | _, _, .str x => .str x
  | _, _, .lst (a := a) n q r => .lst n (e.keep _ _ q (fun z => n (hS a z.symm)) fun _ z => by cases z) (DqAll.ext hS hs e _ _ r)
  | _, _, .tup q r => .tup (e.tupAt hs q) (DqAll.ext hS hs e _ _ r)
  | _, _, .dk (a := a) n q w r => .dk n (q.ext (fun _ z => by cases z) fun o h t => e.keep _ _ h (fun z => n (hS a z.symm)) t) w (DqAll.ext hS hs e _ _ r)
  | _, _, .dt (a := a) n q w r => .dt n (q.ext (fun _ z => by cases z) fun o h t => e.keep _ _ h (fun z => n (hS a z.symm)) t) w (DqAll.ext hS hs e _ _ r)
  | _, _, .lkk (a := a) n q w r => .lkk n (e.keep _ _ q (fun z => n (hS a z.symm)) fun _ z => by cases z) w (DqAll.ext hS hs e _ _ r)
  | _, _, .lkt (a := a) n q w r => .lkt n (e.keep _ _ q (fun z => n (hS a z.symm)) fun _ z => by cases z) w (DqAll.ext hS hs e _ _ r)
  | _, _, .st h => .st h
theorem DqAll.ext (hS : ∀ a, g.st = some a → S a) (hs : ∀ a, g.st = some a → ∃ xs, H a = some (.lst xs)) (e : Ext g H H') : ∀ (v : List V) (d : List D), DqAll g S H v d → DqAll g S H' v d
  | _, _, .nil => .nil
  | _, _, .cons a b => .cons (Dq.ext hS hs e _ _ a) (DqAll.ext hS hs e _ _ b)
end
theorem Pres.seqT {K : PySem.W.Frag} {a : Addr} {xs : List V} (e : Pres S H H') (hm : ∀ a o, S a → H a = some o → Mu o) (h : SqT K H a xs) : SqT K H' a xs := by
  have ns : ∀ u, H a = some u → ((∃ ys, u = .tup ys) ∨ ∃ x w, u = .frz x w) → ¬ S a := fun u hu n z => by
    have m := hm a u z hu
    rcases n with ⟨ys, n⟩ | ⟨x, w, n⟩
    · exact m.tup _ n
    · exact m.frz _ _ n
  rcases h with (h | ⟨o, h⟩) | h
  · exact .inl (.inl (e.keep _ _ h (ns _ h (.inl ⟨_, rfl⟩)) fun _ q => by cases q))
  · exact .inl (.inr ⟨o, e.keep _ _ h (ns _ h (.inr ⟨_, _, rfl⟩)) fun _ q => by cases q⟩)
  · exact .inr h
theorem Pres.tupAt {K : PySem.W.Frag} {a : Addr} {xs : List V} (e : Pres S H H') (hm : ∀ a o, S a → H a = some o → Mu o) (h : TupAt K H a xs) : TupAt K H' a xs := by
  rcases h with h | h
  · exact .inl (e.keep _ _ h (fun z => (hm a _ z h).tup _ rfl) fun _ q => by cases q)
  · exact .inr h
mutual
theorem Dq.pres (hm : ∀ a o, S a → H a = some o → Mu o) (e : Pres S H H') : ∀ (v : V) (d : D), Dq g S H v d → Dq g S H' v d
  | _, _, .non => .non
  | _, _, .bl b => .bl b
  | _, _, .int i => .int i
  | _, _, .str x => .str x
  | _, _, .lst n q r => .lst n (e.keep _ _ q n fun _ z => by cases z) (DqAll.pres hm e _ _ r)
  | _, _, .tup q r => .tup (e.tupAt hm q) (DqAll.pres hm e _ _ r)
  | _, _, .dk n q w r => .dk n (q.ext (fun _ z => by cases z) fun o h t => e.keep _ _ h n t) w (DqAll.pres hm e _ _ r)
  | _, _, .dt n q w r => .dt n (q.ext (fun _ z => by cases z) fun o h t => e.keep _ _ h n t) w (DqAll.pres hm e _ _ r)
  | _, _, .lkk n q w r => .lkk n (e.keep _ _ q n fun _ z => by cases z) w (DqAll.pres hm e _ _ r)
  | _, _, .lkt n q w r => .lkt n (e.keep _ _ q n fun _ z => by cases z) w (DqAll.pres hm e _ _ r)
  | _, _, .st h => .st h
theorem DqAll.pres (hm : ∀ a o, S a → H a = some o → Mu o) (e : Pres S H H') : ∀ (v : List V) (d : List D), DqAll g S H v d → DqAll g S H' v d
  | _, _, .nil => .nil
  | _, _, .cons a b => .cons (Dq.pres hm e _ _ a) (DqAll.pres hm e _ _ b)
end
theorem _root_.L2.Rd.some_ne {H : Hp} {a : Addr} {u : HO} (r : Rd H a u) (n : H a = none) : False := by
  rcases r with r | ⟨o, r⟩ <;> · rw [n] at r; cases r
mutual
/-- what was not there is not leant on -/
theorem Dq.av (h : ∀ a, S' a → S a ∨ H a = none) : ∀ (v : V) (d : D), Dq g S H v d → Dq g S' H v d
  | _, _, .non => .non
  | _, _, .bl b => .bl b
  | _, _, .int i => .int i
  | _, _, .str x => .str x
  | _, _, .lst n q r => .lst (fun z => (h _ z).elim n fun w => by rw [q] at w; cases w) q (DqAll.av h _ _ r)
  | _, _, .tup q r => .tup q (DqAll.av h _ _ r)
  | _, _, .dk n q w r => .dk (fun z => (h _ z).elim n fun w => q.some_ne w) q w (DqAll.av h _ _ r)
  | _, _, .dt n q w r => .dt (fun z => (h _ z).elim n fun w => q.some_ne w) q w (DqAll.av h _ _ r)
  | _, _, .lkk n q w r => .lkk (fun z => (h _ z).elim n fun w => by rw [q] at w; cases w) q w (DqAll.av h _ _ r)
  | _, _, .lkt n q w r => .lkt (fun z => (h _ z).elim n fun w => by rw [q] at w; cases w) q w (DqAll.av h _ _ r)
  | _, _, .st z => .st z
theorem DqAll.av (h : ∀ a, S' a → S a ∨ H a = none) : ∀ (v : List V) (d : List D), DqAll g S H v d → DqAll g S' H v d
  | _, _, .nil => .nil
  | _, _, .cons a b => .cons (Dq.av h _ _ a) (DqAll.av h _ _ b)
end
mutual
theorem Dq.anti (h : ∀ a, S' a → S a) : ∀ (v : V) (d : D), Dq g S H v d → Dq g S' H v d
  | _, _, .non => .non
  | _, _, .bl b => .bl b
  | _, _, .int i => .int i
  | _, _, .str x => .str x
  | _, _, .lst n q r => .lst (fun z => n (h _ z)) q (DqAll.anti h _ _ r)
  | _, _, .tup q r => .tup q (DqAll.anti h _ _ r)
  | _, _, .dk n q w r => .dk (fun z => n (h _ z)) q w (DqAll.anti h _ _ r)
  | _, _, .dt n q w r => .dt (fun z => n (h _ z)) q w (DqAll.anti h _ _ r)
  | _, _, .lkk n q w r => .lkk (fun z => n (h _ z)) q w (DqAll.anti h _ _ r)
  | _, _, .lkt n q w r => .lkt (fun z => n (h _ z)) q w (DqAll.anti h _ _ r)
  | _, _, .st z => .st z
theorem DqAll.anti (h : ∀ a, S' a → S a) : ∀ (v : List V) (d : List D), DqAll g S H v d → DqAll g S' H v d
  | _, _, .nil => .nil
  | _, _, .cons a b => .cons (Dq.anti h _ _ a) (DqAll.anti h _ _ b)
end
theorem DqAll.length : ∀ {vs : List V} {ds : List D}, DqAll g S H vs ds → vs.length = ds.length
  | _, _, .nil => rfl
  | _, _, .cons _ t => by rw [List.length_cons, List.length_cons, DqAll.length t]
theorem DqAll.get : ∀ {vs : List V} {ds : List D} {i : Nat} {d : D}, DqAll g S H vs ds → ds[i]? = some d → ∃ v, vs[i]? = some v ∧ Dq g S H v d
  | _, _, _, _, .nil, e => by simp at e
  | _, _, 0, _, .cons r _, e => by simp at e; subst e; exact ⟨_, rfl, r⟩
  | _, _, i + 1, d, .cons _ t, e => by
    obtain ⟨u, h1, h2⟩ := DqAll.get (i := i) (d := d) t (by simpa using e)
    exact ⟨u, by simpa using h1, h2⟩
theorem DqAll.get' : ∀ {vs : List V} {ds : List D} {i : Nat} {v : V}, DqAll g S H vs ds → vs[i]? = some v → ∃ d, ds[i]? = some d ∧ Dq g S H v d
  | _, _, _, _, .nil, e => by simp at e
  | _, _, 0, _, .cons r _, e => by simp at e; subst e; exact ⟨_, rfl, r⟩
  | _, _, i + 1, d, .cons _ t, e => by
    obtain ⟨u, h1, h2⟩ := DqAll.get' (i := i) (v := d) t (by simpa using e)
    exact ⟨u, by simpa using h1, h2⟩
theorem DqAll.append : ∀ {vs ws : List V} {ds es : List D}, DqAll g S H vs ds → DqAll g S H ws es → DqAll g S H (vs ++ ws) (ds ++ es)
  | _, _, _, _, .nil, s => s
  | _, _, _, _, .cons r t, s => .cons r (DqAll.append t s)
theorem DqAll.take : ∀ {vs : List V} {ds : List D} (n : Nat), DqAll g S H vs ds → DqAll g S H (vs.take n) (ds.take n)
  | _, _, 0, _ => .nil
  | _, _, _ + 1, .nil => .nil
  | _, _, n + 1, .cons r t => .cons r (DqAll.take n t)
theorem DqAll.drop : ∀ {vs : List V} {ds : List D} (n : Nat), DqAll g S H vs ds → DqAll g S H (vs.drop n) (ds.drop n)
  | _, _, 0, r => r
  | _, _, _ + 1, .nil => .nil
  | _, _, n + 1, .cons _ t => DqAll.drop n t
theorem DqAll.reverse : ∀ {vs : List V} {ds : List D}, DqAll g S H vs ds → DqAll g S H vs.reverse ds.reverse
  | _, _, .nil => .nil
  | _, _, .cons r t => by
    rw [List.reverse_cons, List.reverse_cons]
    exact DqAll.append (DqAll.reverse t) (.cons r .nil)
mutual
theorem Dq.dp : ∀ (d : D) (v : V), Dq g S H v d → d.canLay0 = true → Dp g.K H v d
  | .none, _, h, _ => by cases h; exact .non
  | .bool b, _, h, _ => by cases h; exact .bl b
  | .int i, _, h, _ => by cases h; exact .int i
  | .str x, _, h, _ => by cases h; exact .str x
  | .list ds, _, h, l => by
    cases h with
    | lst n q r => exact .lst (SqL.of q) (DqAll.dp ds _ r (by simpa [PyData.canLay0] using l))
  | .tuple ds, _, h, l => by
    cases h with
    | tup q r => exact .tup q.seqT (DqAll.dp ds _ r (by simpa [PyData.canLay0] using l))
  | .dict kv, _, _, l => by simp [PyData.canLay0] at l
theorem DqAll.dp : ∀ (ds : List D) (vs : List V), DqAll g S H vs ds → PyData.canLayAll0 ds = true → DpAll g.K H vs ds
  | [], _, h, _ => by cases h; exact .nil
  | d :: ds, _, h, l => by
    have l' : d.canLay0 = true ∧ PyData.canLayAll0 ds = true := by simpa [PyData.canLayAll0] using l
    cases h with
    | cons r t => exact .cons (Dq.dp d _ r l'.1) (DqAll.dp ds _ t l'.2)
end
end

/-! ### expressions -/
abbrev Env := List (Option D)
abbrev EV := Env → M D
abbrev WW := Str → D → Hp → Prop
/-- .. by the slots where it is raised -/
abbrev XW := St → WW
def RepV (g : G) (S : Addr → Prop) (H : Hp) (σ : St) (η : Env) : Prop := ∀ (i : Nat) (d : D), η[i]? = some (some d) → ∃ v, σ[i]? = some (some v) ∧ Dq g S H v d
theorem RepV.ext {g : G} {S : Addr → Prop} {H H' : Hp} {σ : St} {η : Env} (hS : ∀ a, g.st = some a → S a) (hs : ∀ a, g.st = some a → ∃ xs, H a = some (.lst xs)) (e : Ext g H H') (r : RepV g S H σ η) : RepV g S H' σ η :=
  fun i d h => let ⟨v, h1, h2⟩ := r i d h; ⟨v, h1, h2.ext hS hs e⟩
/-- where an expression stands -/
structure At (K : PySem.W.Frag) (g : G) (S : Addr → Prop) (H : Hp) (σ : St) (η : Env) (s : DS) : Prop where
  gK : g.K = K
  sok : SOk g S H
  rep : RepV g S H σ η
  ok : Ok g H s
  len : σ.length = η.length
theorem At.ext {K : PySem.W.Frag} {g : G} {S : Addr → Prop} {H H' : Hp} {σ : St} {η : Env} {s s' : DS} (a : At K g S H σ η s) (e : Ext g H H') (k : Ok g H' s') : At K g S H' σ η s' :=
  ⟨a.gK, a.sok.ext e a.ok.stl, a.rep.ext a.sok.st a.ok.stl e, k, a.len⟩
def Res {α : Type} (W : WW) (g : G) (H : Hp) (r : R α) (Q : α → Hp → DS → Prop) : Prop := match r with
  | .ok x s' => ∀ H', Ext g H H' → Ok g H' s' → Q x H' s'
  | .exc c p s' => ∀ H', Ext g H H' → Ok g H' s' → W c p H'
  | .bad => False
def tD (K : PySem.W.Frag) (W : XW) (f : EV) : TE := fun σ H Q => ∃ g S η s, At K g S H σ η s ∧ Res (W σ) g H (f η s) fun d H' _ => ∀ v, Dq g S H' v d → Q v H'
structure PED (X : Cx) (W : XW) (e : Expr) (f : EV) : Prop where
  pe : PE X e (tD X.K W f)
theorem _root_.L2.PE.con {X : Cx} {e : Expr} {t u : TE} (h : PE X e t) (i : ∀ σ H Q, u σ H Q → t σ H Q) : PE X e u := ⟨fun pins s σ H Q I q => h.run pins s σ H Q I (i σ H Q q)⟩
theorem Res.imp {α : Type} {W : WW} {g : G} {H : Hp} {r : R α} {Q Q' : α → Hp → DS → Prop} (h : Res W g H r Q) (i : ∀ x H' s', Ext g H H' → Ok g H' s' → Q x H' s' → Q' x H' s') : Res W g H r Q' := by
  unfold Res at *
  cases r with
  | ok x s' => exact fun H' e k => i x H' s' e k (h H' e k)
  | exc c p s' => exact h
  | bad => exact h
theorem Res.ext {α : Type} {W : WW} {g : G} {H H1 : Hp} {r : R α} {Q : α → Hp → DS → Prop} (h : Res W g H r Q) (e1 : Ext g H H1) : Res W g H1 r Q := by
  unfold Res at *
  cases r with
  | ok x s' => exact fun H' e k => h H' (e1.trans e) k
  | exc c p s' => exact fun H' e k => h H' (e1.trans e) k
  | bad => exact h
/-- first m, then k -/
theorem Res.bind {α β : Type} {W : WW} {g : G} {H : Hp} {m : M α} {k : α → M β} {s : DS} {Q : β → Hp → DS → Prop} (h : Res W g H (M.bind m k s) Q) : Res W g H (m s) fun x H' s' => Res W g H' (k x s') Q := by
  unfold M.bind at h
  cases q : m s with
  | ok x s' =>
    rw [q] at h
    exact fun H' e _ => Res.ext h e
  | exc c p s' =>
    rw [q] at h
    exact h
  | bad =>
    rw [q] at h
    exact h
theorem Res.lift {α : Type} {W : WW} {g : G} {H : Hp} {o : Option α} {s : DS} {Q : α → Hp → DS → Prop} (h : Res W g H (M.lift o s) Q) : ∃ x, o = some x ∧ ∀ H', Ext g H H' → Ok g H' s → Q x H' s := by
  cases o with
  | none => exact h.elim
  | some x => exact ⟨x, rfl, h⟩
theorem Res.here {α : Type} {W : WW} {g : G} {H : Hp} {x : α} {s : DS} {Q : α → Hp → DS → Prop} (h : Res W g H (M.ret x s) Q) (k : Ok g H s) : Q x H s := h H Ext.refl k

/-- the reading of one expression, with what comes behind it -/
theorem tD.mk {K : PySem.W.Frag} {W : XW} {f : EV} {g : G} {S : Addr → Prop} {σ : St} {H : Hp} {η : Env} {s : DS} {Q : VK} (a : At K g S H σ η s)
    (h : Res (W σ) g H (f η s) fun d H' s' => ∀ v, At K g S H' σ η s' → Dq g S H' v d → Q v H') : tD K W f σ H Q :=
  ⟨g, S, η, s, a, h.imp fun d H' s' e k q v r => q v (a.ext e k) r⟩

section
variable {X : Cx} {W : XW}
def eC (d : D) : EV := fun _ => M.ret d
def eV (i : Nat) : EV := fun η => M.lift (η[i]?.join)
theorem d_var {x : Str} {pos : Pos} (i : Nat) (hN : X.N[i]? = some x := by rfl) (hv : Vis X.env.scope x := by first | exact Or.inl rfl | exact Or.inr (Or.inl rfl) | exact Or.inr (Or.inr rfl)) (hd : (x == ("__debug__" : Str)) = false := by decide)
    (hcd : (x == ("__classdict__" : Str)) = false := by decide) : PED X W (.Name x pos) (eV i) := ⟨(pe_var hN hv hd hcd).con fun σ H Q ⟨g, S, η, s, a, h⟩ => by
  obtain ⟨d, e, q⟩ := Res.lift h
  have e' : η[i]? = some (some d) := by
    cases z : η[i]? with
    | none => rw [z] at e; cases e
    | some o => rw [z] at e; simp at e; rw [e]
  obtain ⟨v, h1, h2⟩ := a.rep i d e'
  exact ⟨v, h1, q H Ext.refl a.ok v h2⟩⟩
theorem d_c {e : Expr} {v : V} {d : D} (h : PE X e (tC v)) (r : ∀ g S H, Dq g S H v d) : PED X W e (eC d) := ⟨h.con fun σ H Q ⟨g, S, η, s, a, q⟩ => q H Ext.refl a.ok v (r g S H)⟩
theorem d_int {i : Int} {j : Nat} {pos : Pos} : PED X W (.Constant (.int i) j pos) (eC (.int i)) := d_c pe_int fun _ _ _ => .int i
theorem d_bl {b : Bool} {j : Nat} {pos : Pos} : PED X W (.Constant (.bool b) j pos) (eC (.bool b)) := d_c pe_bl fun _ _ _ => .bl b
theorem d_non {j : Nat} {pos : Pos} : PED X W (.Constant .none j pos) (eC .none) := d_c pe_non fun _ _ _ => .non
theorem d_str {x : Str} {j : Nat} {pos : Pos} : PED X W (.Constant (.str x) j pos) (eC (.str x)) := d_c pe_str fun _ _ _ => .str x

/-- operators by values -/
def e2 (op : D → D → Option D) (a b : EV) : EV := fun η => M.bind (a η) fun x => M.bind (b η) fun y => M.lift (op x y)
def e1 (op : D → Option D) (a : EV) : EV := fun η => M.bind (a η) fun x => M.lift (op x)
/-- r serves op -/
def Op2 (K : PySem.W.Frag) (r : R2) (op : D → D → Option D) : Prop := ∀ (g : G) (S : Addr → Prop) (H : Hp) (s : DS) (x y : V) (d e z : D) (Q : VK), g.K = K → SOk g S H → Ok g H s → Dq g S H x d → Dq g S H y e → op d e = some z →
  (∀ H' v, Ext g H H' → Ok g H' s → Dq g S H' v z → Q v H') → r x y H Q
theorem d_2 {e a b : Expr} {r : R2} {op : D → D → Option D} {fa fb : EV} (h : ∀ ta tb, PE X a ta → PE X b tb → PE X e (tOp r ta tb)) (ho : Op2 X.K r op) (ha : PED X W a fa) (hb : PED X W b fb) : PED X W e (e2 op fa fb) := by
  refine ⟨(h _ _ ha.pe hb.pe).con fun σ H Q ⟨g, S, η, s, at_, q⟩ => ?_⟩
  refine tD.mk at_ ((Res.bind q).imp fun d H1 s1 e1 k1 q1 v1 at1 r1 => ?_)
  refine tD.mk at1 ((Res.bind q1).imp fun d2 H2 s2 e2 k2 q2 v2 at2 r2 => ?_)
  obtain ⟨z, hz, q3⟩ := Res.lift q2
  exact ho g S H2 s2 v1 v2 d d2 z Q at_.gK at2.sok at2.ok (r1.ext at1.sok.st at1.ok.stl e2) r2 hz fun H' v e' k' r' => q3 H' e' k' v r'
end
end W3

set_option Elab.async false
set_option linter.all false
set_option maxRecDepth 100000
set_option maxHeartbeats 4000000
/-! W3b: operators by values. -/
namespace L2
open PySem PySem.Spec PyProof.Rows
/-! tuple * int, whatever the int -/
theorem tuple_mul_same (l : Addr) (items : Array Value) (n : Nat) (dd : Option Addr) (sl : Array (Option Value)) (x : Int) (u : Tok) (c0 : (decide (x < -(2 ^ 63)) || decide (x ≥ 2 ^ 63)) = false) (c1 : (items.isEmpty || x == 1) = true) :
    Meets (Builtin.«tuple.__mul__» ⟨[.ref l, .int x u], []⟩) (fun _ R s => s.heap.get? l = some { cls := .type "tuple", dict := dd, data := .seq items n, slots := sl } ∧ R (.ok (.ret (Value.ref l))) s) :=
  .of_wp fun prog w A R s h => by
    obtain ⟨hp, g, d, tk, os⟩ := s
    obtain ⟨hl, h⟩ := h
    have f1 := AutoSeq1.idx_int
    wp_walk using wpAny_loadPart' hl
    repeat (first
      | (refine wpAny_ite_false (decide_eq_false (by rw [c0]; exact Bool.false_ne_true)) ?_; wp_walk using wpAny_loadPart' hl)
      | (refine wpAny_ite_true (decide_eq_true (by rw [c1])) ?_; wp_walk using wpAny_loadPart' hl))
    exact ⟨_, rfl, h⟩
theorem tuple_mul_none (l : Addr) (items : Array Value) (n : Nat) (dd : Option Addr) (sl : Array (Option Value)) (x : Int) (u : Tok) (c0 : (decide (x < -(2 ^ 63)) || decide (x ≥ 2 ^ 63)) = false) (c1 : (items.isEmpty || x == 1) = false) (c2 : (decide (x ≤ 0) || items.isEmpty) = true) :
    Meets (Builtin.«tuple.__mul__» ⟨[.ref l, .int x u], []⟩) (fun _ R s => s.heap.get? l = some { cls := .type "tuple", dict := dd, data := .seq items n, slots := sl } ∧
      R (.ok (.ret (Value.ref s.heap.objs.size))) { s with heap := s.heap.push { cls := Value.type "tuple", data := Data.seq #[] }, toks := s.toks }) :=
  .of_wp fun prog w A R s h => by
    obtain ⟨hp, g, d, tk, os⟩ := s
    obtain ⟨hl, h⟩ := h
    have f1 := AutoSeq1.idx_int
    wp_walk using wpAny_loadPart' hl
    repeat (first
      | (refine wpAny_ite_false (decide_eq_false (by rw [c0]; exact Bool.false_ne_true)) ?_; wp_walk using wpAny_loadPart' hl)
      | (refine wpAny_ite_false (decide_eq_false (by rw [c1]; exact Bool.false_ne_true)) ?_; wp_walk using wpAny_loadPart' hl)
      | (refine wpAny_ite_true (decide_eq_true (by rw [c2])) ?_; wp_walk using wpAny_loadPart' hl))
    exact ⟨_, rfl, h⟩
def rRepTT (K : PySem.W.Frag) : R2 := fun x y H Q => ∃ l k xs, x = .ref l ∧ y = .int k ∧ SqT K H l xs ∧ -(2 ^ 63) ≤ k ∧ k < 2 ^ 63 ∧ xs.length * k.toNat ≤ sizeLine ∧ (xs = [] ∨ k = 1 → Q (.ref l) H) ∧
  (¬ (xs = [] ∨ k = 1) → ∀ p, H p = none → Q (.ref p) (upd H p (.tup (List.replicate k.toNat xs).flatten)))
section
variable {X : Cx}
theorem op_repTT : OpR X (binaryOp .Mult) (rRepTT X.K) := by
  intro pins s σ H x y v u Q I rx ry h
  obtain ⟨l, k, xs, rfl, rfl, hT, h1, h2, hz, q1, q2⟩ := h
  cases rx
  obtain ⟨t, rfl⟩ := ry
  obtain ⟨its, r, ⟨⟨cls, dd, data, sl⟩, ho, hc, n, hd⟩, hs⟩ := I.tuple hT
  simp only at hc hd
  subst hc hd
  have hle : its.length = xs.length := r.length.symm
  have c0 : (decide (k < -(2 ^ 63)) || decide (k ≥ 2 ^ 63)) = false := by
    rw [decide_eq_false (by omega), decide_eq_false (by omega)]
    rfl
  have em : its.toArray.isEmpty = true ↔ xs = [] := by
    rw [List.isEmpty_toArray, List.isEmpty_iff]
    constructor
    · intro e; rw [e] at hle; exact List.eq_nil_of_length_eq_zero hle.symm
    · intro e; rw [e] at hle; exact List.eq_nil_of_length_eq_zero hle
  have c1 : (its.toArray.isEmpty || k == 1) = true ↔ (xs = [] ∨ k = 1) := by rw [Bool.or_eq_true, em, beq_iff_eq]
  by_cases hsame : xs = [] ∨ k = 1
  · refine wpAny_binaryOp_repeat_ref (T := "tuple") (U := "int") (by decide) ⟨_, ho, rfl⟩ (fun s' => typeIs_int s' k t) noFill_tuple_mul F.fills_int_mul F.slot_int_rmul repeat_tuple F.slot_int_index.lookup
      (call_meets F.slot_int_rmul (typeIs_int s k t) F.entry_int_rmul (F.args_int_rmul_2 _ _) (int_rmul_tuple k t l its.toArray n dd sl)
        ⟨ho, rfl, ⟨_, ho, rfl⟩, call_meets F.slot_tuple_mul ⟨_, ho, rfl⟩ F.entry_tuple_mul (F.args_tuple_mul_2 _ _) (tuple_mul_same l its.toArray n dd sl k t c0 (c1.mpr hsame)) ⟨ho, ?_⟩⟩)
    exact ⟨.ref l, H, I, rfl, q1 hsame⟩
  · have c1' : (its.toArray.isEmpty || k == 1) = false := by
      cases z : (its.toArray.isEmpty || k == 1) with
      | false => rfl
      | true => exact (hsame (c1.mp z)).elim
    have hne : xs ≠ [] := fun e => hsame (.inl e)
    have hie : its.toArray.isEmpty = false := by
      cases z : its.toArray.isEmpty with
      | false => rfl
      | true => exact (hne (em.mp z)).elim
    by_cases hk : k ≤ 0
    · have c2 : (decide (k ≤ 0) || its.toArray.isEmpty) = true := by rw [decide_eq_true hk]; rfl
      refine wpAny_binaryOp_repeat_ref (T := "tuple") (U := "int") (by decide) ⟨_, ho, rfl⟩ (fun s' => typeIs_int s' k t) noFill_tuple_mul F.fills_int_mul F.slot_int_rmul repeat_tuple F.slot_int_index.lookup
        (call_meets F.slot_int_rmul (typeIs_int s k t) F.entry_int_rmul (F.args_int_rmul_2 _ _) (int_rmul_tuple k t l its.toArray n dd sl)
          ⟨ho, rfl, ⟨_, ho, rfl⟩, call_meets F.slot_tuple_mul ⟨_, ho, rfl⟩ F.entry_tuple_mul (F.args_tuple_mul_2 _ _) (tuple_mul_none l its.toArray n dd sl k t c0 c1' c2) ⟨ho, ?_⟩⟩)
      have e0 : (List.replicate k.toNat xs).flatten = [] := by rw [show k.toNat = 0 by omega]; rfl
      refine ⟨.ref s.heap.objs.size, _, I.laid (t' := s.toks) (o := .tup (List.replicate k.toNat xs).flatten) (fun b ob q => Heap.get?_push_of_some _ q) (Nat.le_refl _) ?_, rfl, q2 hsame _ (I.hok.fresh (Nat.le_refl _))⟩
      rw [e0]
      exact ⟨Nat.zero_le _, [], .nil, IsTup.new _ _⟩
    · have c2 : (decide (k ≤ 0) || its.toArray.isEmpty) = false := by rw [decide_eq_false hk, hie]; rfl
      have hsl := sizeLine_eq
      have hsz : ((its.toArray.size : Nat) : Int) * k ≤ 16777216 := by
        have e1 : ((its.toArray.size : Nat) : Int) * k = ((xs.length * k.toNat : Nat) : Int) := by
          rw [List.size_toArray, hle, Int.natCast_mul, show ((k.toNat : Nat) : Int) = k by omega]
        rw [e1]
        omega
      have c4 : Builtin.Tuple.tupleTooMany (((its.toArray.size : Nat) : Int) * k) = false := by
        unfold Builtin.Tuple.tupleTooMany
        rw [sizeLine_eq]
        exact decide_eq_false (by omega)
      have flen : (List.replicate k.toNat its).flatten.length ≤ sizeLine := by
        rw [PyProof.Rows.lm_len_rep_flat, hle, Nat.mul_comm]
        exact hz
      refine wpAny_binaryOp_repeat_ref (T := "tuple") (U := "int") (by decide) ⟨_, ho, rfl⟩ (fun s' => typeIs_int s' k t) noFill_tuple_mul F.fills_int_mul F.slot_int_rmul repeat_tuple F.slot_int_index.lookup
        (call_meets F.slot_int_rmul (typeIs_int s k t) F.entry_int_rmul (F.args_int_rmul_2 _ _) (int_rmul_tuple k t l its.toArray n dd sl)
          ⟨ho, rfl, ⟨_, ho, rfl⟩, call_meets F.slot_tuple_mul ⟨_, ho, rfl⟩ F.entry_tuple_mul (F.args_tuple_mul_2 _ _) (tuple_mulW l its.toArray n dd sl k t c0 c1' c2 (by omega) c4 (by rw [size_rep, List.size_toArray]; exact flen)) ⟨ho, ?_⟩⟩)
      rw [size_rep]
      refine ⟨.ref s.heap.objs.size, _, I.laid (t' := s.toks) (o := .tup (List.replicate k.toNat xs).flatten) (fun b ob q => Heap.get?_push_of_some _ q) (Nat.le_refl _) ?_, rfl, q2 hsame _ (I.hok.fresh (Nat.le_refl _))⟩
      exact ⟨by rw [PyProof.Rows.lm_len_rep_flat, Nat.mul_comm]; exact hz, _, r.rep k.toNat, IsTup.new _ _⟩
end
end L2

namespace W3
open PySem PySem.Spec L2
section
variable {g : G} {S : Addr → Prop} {H : Hp} {s : DS}
theorem new_tup {vs : List V} {ds : List D} (k : Ok g H s) (so : SOk g S H) (r : DqAll g S H vs ds) {p : Addr} (hp : H p = none) :
    Ext g H (upd H p (.tup vs)) ∧ Ok g (upd H p (.tup vs)) s ∧ Dq g S (upd H p (.tup vs)) (.ref p) (.tuple ds) :=
  have sm := same_upd hp
  ⟨.same sm, k.same sm, .tup (.of upd_same) (r.ext so.st k.stl (.same sm))⟩
theorem new_lst {vs : List V} {ds : List D} (k : Ok g H s) (so : SOk g S H) (r : DqAll g S H vs ds) {p : Addr} (hp : H p = none) :
    Ext g H (upd H p (.lst vs)) ∧ Ok g (upd H p (.lst vs)) s ∧ Dq g S (upd H p (.lst vs)) (.ref p) (.list ds) :=
  have sm := same_upd hp
  ⟨.same sm, k.same sm, .lst (fun z => by obtain ⟨o, e, _⟩ := so.trk p z; rw [hp] at e; cases e) upd_same (r.ext so.st k.stl (.same sm))⟩
end
/-! ### + -/
def addD : D → D → Option D
  | .int i, .int j => some (.int (i + j))
  | .str x, .str y => if x.length + y.length ≤ sizeLine then some (.str (x ++ y)) else none
  | .tuple xs, .tuple ys => if xs.length + ys.length ≤ sizeLine then some (.tuple (xs ++ ys)) else none
  | .list xs, .list ys => if xs.length + ys.length ≤ sizeLine then some (.list (xs ++ ys)) else none
  | _, _ => none
def rAddS : R2 := fun x y H Q => ∃ i j, x = .str i ∧ y = .str j ∧ i.length + j.length ≤ sizeLine ∧ Q (.str (i ++ j)) H
def rAddAll (K : PySem.W.Frag) : R2 := fun x y H Q => rI0 (fun i j => .int (i + j)) x y H Q ∨ rAddS x y H Q ∨ rCatA K x y H Q ∨ rCat x y H Q
section
variable {X : Cx}
theorem op_addAll : OpR X (binaryOp .Add) (rAddAll X.K) := op_add.or (OpR.or (r := rAddS) op_add_str (op_catA.or op_cat))
theorem o2_add {K : PySem.W.Frag} : Op2 K (rAddAll K) addD := by
  intro g S H s x y d e z Q hK so k rx ry h q
  cases rx with
  | int i =>
    cases ry with
    | int j =>
      have h' : some (PyData.int (i + j)) = some z := h
      cases h'
      exact .inl ⟨i, j, rfl, rfl, q H _ Ext.refl k (.int _)⟩
    | _ => cases h
  | str a =>
    cases ry with
    | str b =>
      have h' : (if a.length + b.length ≤ sizeLine then some (PyData.str (a ++ b)) else none) = some z := h
      split at h'
      · cases h'
        exact .inr (.inl ⟨a, b, rfl, rfl, by assumption, q H _ Ext.refl k (.str _)⟩)
      · cases h'
    | _ => cases h
  | tup sx ax =>
    rename_i a xs ds
    cases ry with
    | tup sy ay =>
      rename_i b ys es
      have h' : (if ds.length + es.length ≤ sizeLine then some (PyData.tuple (ds ++ es)) else none) = some z := h
      split at h'
      · cases h'
        rename_i hl
        have l1 := ax.length
        have l2 := ay.length
        refine .inr (.inr (.inl ⟨a, b, xs, ys, rfl, rfl, hK ▸ sx.seqT, hK ▸ sy.seqT, by omega, fun e => ?_, fun _ e => ?_, fun _ _ p hp => ?_⟩))
        · subst e
          cases ax
          exact q H _ Ext.refl k (.tup sy ay)
        · subst e
          cases ay
          rw [List.append_nil] at q
          exact q H _ Ext.refl k (.tup sx ax)
        · obtain ⟨q1, q2, q3⟩ := new_tup k so (ax.append ay) hp
          exact q _ _ q1 q2 q3
      · cases h'
    | _ => cases h
  | lst nx sx ax =>
    rename_i a xs ds
    cases ry with
    | lst ny sy ay =>
      rename_i b ys es
      have h' : (if ds.length + es.length ≤ sizeLine then some (PyData.list (ds ++ es)) else none) = some z := h
      split at h'
      · cases h'
        rename_i hl
        have l1 := ax.length
        have l2 := ay.length
        refine .inr (.inr (.inr ⟨a, b, xs, ys, rfl, rfl, sx, sy, by omega, fun p hp => ?_⟩))
        obtain ⟨q1, q2, q3⟩ := new_lst k so (ax.append ay) hp
        exact q _ _ q1 q2 q3
      · cases h'
    | _ => cases h
  | _ => cases h
variable {W : XW}
theorem d_add {a b : Expr} {fa fb : EV} {pos : Pos} (ha : PED X W a fa) (hb : PED X W b fb) : PED X W (.BinOp a .Add b pos) (e2 addD fa fb) := d_2 (fun _ _ h1 h2 => pe_op op_addAll h1 h2) o2_add ha hb

/-! ### - * // % ** -/
def subD : D → D → Option D
  | .int i, .int j => some (.int (i - j))
  | _, _ => none
theorem o2_sub {K : PySem.W.Frag} : Op2 K (rI0 fun i j => .int (i - j)) subD := by
  intro g S H s x y d e z Q hK so k rx ry h q
  cases rx with
  | int i =>
    cases ry with
    | int j =>
      have h' : some (PyData.int (i - j)) = some z := h
      cases h'
      exact ⟨i, j, rfl, rfl, q H _ Ext.refl k (.int _)⟩
    | _ => cases h
  | _ => cases h
theorem d_sub {a b : Expr} {fa fb : EV} {pos : Pos} (ha : PED X W a fa) (hb : PED X W b fb) : PED X W (.BinOp a .Sub b pos) (e2 subD fa fb) := d_2 (fun _ _ h1 h2 => pe_op op_sub h1 h2) o2_sub ha hb

def small64 (i : Int) : Prop := -(18446744073709551616) < i ∧ i < 18446744073709551616
instance (i : Int) : Decidable (small64 i) := inferInstanceAs (Decidable (_ ∧ _))
def mulI (i j : Int) : Option D := if small64 i ∨ small64 j ∨ i.natAbs.log2 + j.natAbs.log2 < 1000000 then some (.int (i * j)) else none
def repOk (n : Nat) (k : Int) : Prop := -(9223372036854775808) ≤ k ∧ k < 9223372036854775808 ∧ n * k.toNat ≤ sizeLine
instance (n : Nat) (k : Int) : Decidable (repOk n k) := inferInstanceAs (Decidable (_ ∧ _ ∧ _))
def mulD : D → D → Option D
  | .int i, .int j => mulI i j
  | .tuple xs, .int k => if repOk xs.length k then some (.tuple (List.replicate k.toNat xs).flatten) else none
  | .list xs, .int k => if repOk xs.length k then some (.list (List.replicate k.toNat xs).flatten) else none
  | _, _ => none
def rMulAll (K : PySem.W.Frag) : R2 := fun x y H Q => rI CMul (fun i j => .int (i * j)) x y H Q ∨ rI CMulW (fun i j => .int (i * j)) x y H Q ∨ rRepTT K x y H Q ∨ rRep x y H Q
theorem op_mulAll : OpR X (binaryOp .Mult) (rMulAll X.K) := op_mul.or (op_mulW.or (op_repTT.or op_rep))
theorem DqAll.rep {g : G} {S : Addr → Prop} {H : Hp} {vs : List V} {ds : List D} (r : DqAll g S H vs ds) : ∀ n : Nat, DqAll g S H (List.replicate n vs).flatten (List.replicate n ds).flatten
  | 0 => .nil
  | n + 1 => by
    rw [List.replicate_succ, List.replicate_succ, List.flatten_cons, List.flatten_cons]
    exact r.append (DqAll.rep r n)
theorem o2_mul {K : PySem.W.Frag} : Op2 K (rMulAll K) mulD := by
  intro g S H s x y d e z Q hK so k rx ry h q
  cases rx with
  | int i =>
    cases ry with
    | int j =>
      have h' : mulI i j = some z := h
      unfold mulI at h'
      split at h'
      · rename_i c
        cases h'
        rcases c with c | c | c
        · exact .inl ⟨i, j, rfl, rfl, .inl ⟨by have := c.1; omega, by have := c.2; omega⟩, q H _ Ext.refl k (.int _)⟩
        · exact .inl ⟨i, j, rfl, rfl, .inr ⟨by have := c.1; omega, by have := c.2; omega⟩, q H _ Ext.refl k (.int _)⟩
        · exact .inr (.inl ⟨i, j, rfl, rfl, c, q H _ Ext.refl k (.int _)⟩)
      · cases h'
    | _ => cases h
  | tup sx ax =>
    rename_i a xs ds
    cases ry with
    | int n =>
      have h' : (if repOk ds.length n then some (PyData.tuple (List.replicate n.toNat ds).flatten) else none) = some z := h
      split at h'
      · rename_i c
        cases h'
        have l1 := ax.length
        refine .inr (.inr (.inl ⟨a, n, xs, rfl, rfl, hK ▸ sx.seqT, by have := c.1; omega, by have := c.2.1; omega, by rw [l1]; exact c.2.2, fun e => ?_, fun _ p hp => ?_⟩))
        · have e' : (List.replicate n.toNat ds).flatten = ds := by
            rcases e with e | e
            · subst e
              cases ax
              simp
            · subst e
              simp
          rw [e'] at q
          exact q H _ Ext.refl k (.tup sx ax)
        · obtain ⟨q1, q2, q3⟩ := new_tup k so (ax.rep n.toNat) hp
          exact q _ _ q1 q2 q3
      · cases h'
    | _ => cases h
  | lst nx sx ax =>
    rename_i a xs ds
    cases ry with
    | int n =>
      have h' : (if repOk ds.length n then some (PyData.list (List.replicate n.toNat ds).flatten) else none) = some z := h
      split at h'
      · rename_i c
        cases h'
        have l1 := ax.length
        refine .inr (.inr (.inr ⟨a, n, xs, rfl, rfl, sx, by have := c.1; omega, by have := c.2.1; omega, by rw [l1]; exact c.2.2, fun p hp => ?_⟩))
        obtain ⟨q1, q2, q3⟩ := new_lst k so (ax.rep n.toNat) hp
        exact q _ _ q1 q2 q3
      · cases h'
    | _ => cases h
  | _ => cases h
theorem d_mul {a b : Expr} {fa fb : EV} {pos : Pos} (ha : PED X W a fa) (hb : PED X W b fb) : PED X W (.BinOp a .Mult b pos) (e2 mulD fa fb) := d_2 (fun _ _ h1 h2 => pe_op op_mulAll h1 h2) o2_mul ha hb

def fdivD : D → D → Option D
  | .int i, .int j => if 0 < j ∧ (j < 1073741824 ∨ j.natAbs.log2 < 9000) then some (.int (i / j)) else if j < 0 ∧ -1073741824 < j then some (.int (i.fdiv j)) else none
  | _, _ => none
def rFdivAll : R2 := fun x y H Q => rI CDiv (fun i j => .int (i / j)) x y H Q ∨ rI CDivW (fun i j => .int (i / j)) x y H Q ∨ rI CDivN (fun i j => .int (i.fdiv j)) x y H Q
theorem op_fdivAll : OpR X (binaryOp .FloorDiv) rFdivAll := op_fdiv.or (op_fdivW.or op_fdivN)
theorem o2_fdiv {K : PySem.W.Frag} : Op2 K rFdivAll fdivD := by
  intro g S H s x y d e z Q hK so k rx ry h q
  cases rx with
  | int i =>
    cases ry with
    | int j =>
      have h' : (if 0 < j ∧ (j < 1073741824 ∨ j.natAbs.log2 < 9000) then some (PyData.int (i / j)) else if j < 0 ∧ -1073741824 < j then some (.int (i.fdiv j)) else none) = some z := h
      split at h'
      · rename_i c
        cases h'
        rcases c.2 with c2 | c2
        · exact .inl ⟨i, j, rfl, rfl, ⟨c.1, c2⟩, q H _ Ext.refl k (.int _)⟩
        · exact .inr (.inl ⟨i, j, rfl, rfl, ⟨c.1, c2⟩, q H _ Ext.refl k (.int _)⟩)
      · split at h'
        · rename_i c
          cases h'
          exact .inr (.inr ⟨i, j, rfl, rfl, ⟨by omega, by omega⟩, q H _ Ext.refl k (.int _)⟩)
        · cases h'
    | _ => cases h
  | _ => cases h
theorem d_fdiv {a b : Expr} {fa fb : EV} {pos : Pos} (ha : PED X W a fa) (hb : PED X W b fb) : PED X W (.BinOp a .FloorDiv b pos) (e2 fdivD fa fb) := d_2 (fun _ _ h1 h2 => pe_op op_fdivAll h1 h2) o2_fdiv ha hb
def modD : D → D → Option D
  | .int i, .int j => if 0 < j then some (.int (i % j)) else if j < 0 then some (.int (i.fmod j)) else none
  | _, _ => none
def rModAll : R2 := fun x y H Q => rI (fun _ j => 0 < j) (fun i j => .int (i % j)) x y H Q ∨ rI (fun _ j => j ≠ 0) (fun i j => .int (i.fmod j)) x y H Q
theorem op_modAll : OpR X (binaryOp .Mod) rModAll := op_mod.or op_modN
theorem o2_mod {K : PySem.W.Frag} : Op2 K rModAll modD := by
  intro g S H s x y d e z Q hK so k rx ry h q
  cases rx with
  | int i =>
    cases ry with
    | int j =>
      have h' : (if 0 < j then some (PyData.int (i % j)) else if j < 0 then some (.int (i.fmod j)) else none) = some z := h
      split at h'
      · rename_i c
        cases h'
        exact .inl ⟨i, j, rfl, rfl, c, q H _ Ext.refl k (.int _)⟩
      · split at h'
        · rename_i c
          cases h'
          exact .inr ⟨i, j, rfl, rfl, by omega, q H _ Ext.refl k (.int _)⟩
        · cases h'
    | _ => cases h
  | _ => cases h
theorem d_mod {a b : Expr} {fa fb : EV} {pos : Pos} (ha : PED X W a fa) (hb : PED X W b fb) : PED X W (.BinOp a .Mod b pos) (e2 modD fa fb) := d_2 (fun _ _ h1 h2 => pe_op op_modAll h1 h2) o2_mod ha hb
def powD : D → D → Option D
  | .int i, .int j => if 0 ≤ j ∧ j ≤ 1000000 ∧ i.natAbs < 2 ^ 64 then some (.int (i ^ j.toNat)) else none
  | _, _ => none
theorem o2_pow {K : PySem.W.Frag} : Op2 K (rI CPow fun i j => .int (i ^ j.toNat)) powD := by
  intro g S H s x y d e z Q hK so k rx ry h q
  cases rx with
  | int i =>
    cases ry with
    | int j =>
      have h' : (if 0 ≤ j ∧ j ≤ 1000000 ∧ i.natAbs < 2 ^ 64 then some (PyData.int (i ^ j.toNat)) else none) = some z := h
      split at h'
      · rename_i c
        cases h'
        exact ⟨i, j, rfl, rfl, c, q H _ Ext.refl k (.int _)⟩
      · cases h'
    | _ => cases h
  | _ => cases h
theorem d_pow {a b : Expr} {fa fb : EV} {pos : Pos} (ha : PED X W a fa) (hb : PED X W b fb) : PED X W (.BinOp a .Pow b pos) (e2 powD fa fb) := d_2 (fun _ _ h1 h2 => pe_op op_pow h1 h2) o2_pow ha hb
end
end W3

set_option Elab.async false
set_option linter.all false
set_option maxRecDepth 100000
set_option maxHeartbeats 4000000
/-! W3c: comparisons, tests, displays, subscripts, calls of built-in functions. -/
namespace W3
open PySem PySem.Spec L2

/-! ### truth, tests -/
def truthD : D → Option Bool
  | .none => some false
  | .bool b => some b
  | .int i => some (i != 0)
  | .str x => if x.length ≤ sizeLine then some ((x.length : Int) != 0) else none
  | .list ds => some (!ds.isEmpty)
  | .tuple ds => some (!ds.isEmpty)
  | .dict _ => none
theorem truthD_ok {g : G} {S : Addr → Prop} {H : Hp} {x : V} {d : D} {b : Bool} (r : Dq g S H x d) (h : truthD d = some b) : TruV g.K x H b := by
  cases r with
  | non => cases h; rfl
  | bl b => cases h; rfl
  | int i => cases h; rfl
  | str x =>
    have h' : (if x.length ≤ sizeLine then some ((x.length : Int) != 0) else none) = some b := h
    split at h'
    · cases h'
      exact ⟨by assumption, rfl⟩
    · cases h'
  | lst n e a =>
    rename_i xs ds
    cases h
    refine .inl ⟨_, .of e, ?_⟩
    cases a <;> rfl
  | tup e a =>
    cases h
    refine .inr (.inl ⟨_, e.seqT, ?_⟩)
    cases a <;> rfl
  | dk _ _ _ _ => cases h
  | dt _ _ _ _ => cases h
  | lkk _ _ _ _ => cases h
  | lkt _ _ _ _ => cases h
  | st _ => cases h
abbrev BV := Env → M Bool
def tDT (K : PySem.W.Frag) (W : XW) (f : BV) : TT := fun σ H Q => ∃ g S η s, At K g S H σ η s ∧ Res (W σ) g H (f η s) fun b H' _ => Q b H'
structure PTD (X : Cx) (W : XW) (e : Expr) (f : BV) : Prop where
  pt : PT X e (tDT X.K W f)
structure PWD (X : Cx) (W : XW) (e : Expr) (f : BV) : Prop where
  pw : PW X e (tDT X.K W f)
theorem PWD.ptd {X : Cx} {W : XW} {e : Expr} {f : BV} (h : PWD X W e f) : PTD X W e f := ⟨h.pw.pt⟩
theorem _root_.L2.PT.con {X : Cx} {e : Expr} {t u : TT} (h : PT X e t) (i : ∀ σ H Q, u σ H Q → t σ H Q) : PT X e u := ⟨fun pins s σ H Q I q => h.run pins s σ H Q I (i σ H Q q)⟩
theorem _root_.L2.PW.con {X : Cx} {e : Expr} {t u : TT} (h : PW X e t) (i : ∀ σ H Q, u σ H Q → t σ H Q) : PW X e u := ⟨fun w pins s σ H Q I q => h.run w pins s σ H Q I (i σ H Q q)⟩
theorem tDT.mk {K : PySem.W.Frag} {W : XW} {f : BV} {g : G} {S : Addr → Prop} {σ : St} {H : Hp} {η : Env} {s : DS} {Q : Bool → Hp → Prop} (a : At K g S H σ η s)
    (h : Res (W σ) g H (f η s) fun b H' s' => At K g S H' σ η s' → Q b H') : tDT K W f σ H Q :=
  ⟨g, S, η, s, a, h.imp fun d H' s' e k q => q (a.ext e k)⟩
section
variable {X : Cx} {W : XW} {a b c e : Expr} {fa fb fc : EV} {ba bb bc : BV} {pos : Pos} {rest : List Expr}
def bT (f : EV) : BV := fun η => M.bind (f η) fun d => M.lift (truthD d)
/-- any expression, by its truth -/
theorem t_v (h : PED X W e fa) (he : ∀ whole, isTrue e X.env whole = (do let v ← whole; standAt e.pos; holding [v] (truthy v)) := by intro _; rfl) : PTD X W e (bT fa) := ⟨(pt_truth h.pe he).con fun σ H Q ⟨g, S, η, s, at_, q⟩ => by
  refine tD.mk at_ ((Res.bind q).imp fun d H1 s1 e1 k1 q1 v at1 r => ?_)
  obtain ⟨b, hb, q2⟩ := Res.lift q1
  exact ⟨b, at_.gK ▸ truthD_ok r hb, q2 H1 Ext.refl k1⟩⟩
def bNot (f : BV) : BV := fun η => M.bind (f η) fun b => M.ret (!b)
theorem t_not (h : PTD X W a ba) : PTD X W (.UnaryOp .Not a pos) (bNot ba) := ⟨(pt_not h.pt).con fun σ H Q ⟨g, S, η, s, at_, q⟩ =>
  tDT.mk at_ ((Res.bind q).imp fun b H1 s1 e1 k1 q1 at1 => Res.here (x := !b) q1 k1)⟩
def bAnd (f h : BV) : BV := fun η => M.bind (f η) fun b => if b = true then h η else M.ret false
def bOr (f h : BV) : BV := fun η => M.bind (f η) fun b => if b = true then M.ret true else h η
theorem w_and1 (h : PTD X W a ba) : PWD X W (.BoolOp .And [a] pos) ba := ⟨pw_and1 h.pt⟩
theorem w_or1 (h : PTD X W a ba) : PWD X W (.BoolOp .Or [a] pos) ba := ⟨pw_or1 h.pt⟩
theorem w_and (h : PTD X W a ba) (hr : PWD X W (.BoolOp .And (b :: rest) pos) bb) : PWD X W (.BoolOp .And (a :: b :: rest) pos) (bAnd ba bb) := ⟨(pw_and h.pt hr.pw).con fun σ H Q ⟨g, S, η, s, at_, q⟩ =>
  tDT.mk at_ ((Res.bind q).imp fun b H1 s1 e1 k1 q1 at1 => by
    cases b with
    | false => exact Res.here (x := false) q1 k1
    | true => exact ⟨g, S, η, s1, at1, q1⟩)⟩
theorem w_or (h : PTD X W a ba) (hr : PWD X W (.BoolOp .Or (b :: rest) pos) bb) : PWD X W (.BoolOp .Or (a :: b :: rest) pos) (bOr ba bb) := ⟨(pw_or h.pt hr.pw).con fun σ H Q ⟨g, S, η, s, at_, q⟩ =>
  tDT.mk at_ ((Res.bind q).imp fun b H1 s1 e1 k1 q1 at1 => by
    cases b with
    | true => exact Res.here (x := true) q1 k1
    | false => exact ⟨g, S, η, s1, at1, q1⟩)⟩
/-! and, or, not, if as values -/
def eAnd (f h : EV) : EV := fun η => M.bind (f η) fun d => M.bind (M.lift (truthD d)) fun b => if b = true then h η else M.ret d
def eOr (f h : EV) : EV := fun η => M.bind (f η) fun d => M.bind (M.lift (truthD d)) fun b => if b = true then M.ret d else h η
def eNot (f : EV) : EV := fun η => M.bind (f η) fun d => M.bind (M.lift (truthD d)) fun b => M.ret (.bool (!b))
def eIf (c : BV) (f h : EV) : EV := fun η => M.bind (c η) fun b => if b = true then f η else h η
theorem d_one {op : BoolOp} (h : PED X W a fa) : PED X W (.BoolOp op [a] pos) fa := ⟨pe_one h.pe⟩
theorem d_and (h : PED X W a fa) (hr : PED X W (.BoolOp .And (b :: rest) pos) fb) : PED X W (.BoolOp .And (a :: b :: rest) pos) (eAnd fa fb) := ⟨(pe_andT h.pe hr.pe).con fun σ H Q ⟨g, S, η, s, at_, q⟩ =>
  tD.mk at_ ((Res.bind q).imp fun d H1 s1 e1 k1 q1 v at1 r => by
    obtain ⟨b, hb, q2⟩ := Res.lift (Res.bind q1)
    have q3 := q2 H1 Ext.refl k1
    refine ⟨b, at_.gK ▸ truthD_ok r hb, ?_⟩
    cases b with
    | false => exact Res.here (x := d) q3 k1 v r
    | true => exact ⟨g, S, η, s1, at1, q3⟩)⟩
theorem d_or (h : PED X W a fa) (hr : PED X W (.BoolOp .Or (b :: rest) pos) fb) : PED X W (.BoolOp .Or (a :: b :: rest) pos) (eOr fa fb) := ⟨(pe_orT h.pe hr.pe).con fun σ H Q ⟨g, S, η, s, at_, q⟩ =>
  tD.mk at_ ((Res.bind q).imp fun d H1 s1 e1 k1 q1 v at1 r => by
    obtain ⟨b, hb, q2⟩ := Res.lift (Res.bind q1)
    have q3 := q2 H1 Ext.refl k1
    refine ⟨b, at_.gK ▸ truthD_ok r hb, ?_⟩
    cases b with
    | true => exact Res.here (x := d) q3 k1 v r
    | false => exact ⟨g, S, η, s1, at1, q3⟩)⟩
theorem d_not (h : PED X W a fa) : PED X W (.UnaryOp .Not a pos) (eNot fa) := ⟨(pe_notT h.pe).con fun σ H Q ⟨g, S, η, s, at_, q⟩ =>
  tD.mk at_ ((Res.bind q).imp fun d H1 s1 e1 k1 q1 v at1 r => by
    obtain ⟨b, hb, q2⟩ := Res.lift (Res.bind q1)
    have q3 := q2 H1 Ext.refl k1
    exact ⟨b, at_.gK ▸ truthD_ok r hb, Res.here (x := PyData.bool (!b)) q3 k1 _ (.bl _)⟩)⟩
theorem d_if (hc : PTD X W c bc) (ha : PED X W a fa) (hb : PED X W b fb) : PED X W (.IfExp c a b pos) (eIf bc fa fb) := ⟨(pe_ifExp hc.pt ha.pe hb.pe).con fun σ H Q ⟨g, S, η, s, at_, q⟩ =>
  tDT.mk at_ ((Res.bind q).imp fun b H1 s1 e1 k1 q1 at1 => by
    cases b with
    | true => exact ⟨g, S, η, s1, at1, q1⟩
    | false => exact ⟨g, S, η, s1, at1, q1⟩)⟩
def negD : D → Option D
  | .int i => some (.int (-i))
  | _ => none
theorem d_neg (h : PED X W a fa) : PED X W (.UnaryOp .USub a pos) (e1 negD fa) := ⟨(pe_un un_neg h.pe).con fun σ H Q ⟨g, S, η, s, at_, q⟩ =>
  tD.mk at_ ((Res.bind q).imp fun d H1 s1 e1 k1 q1 v at1 r => by
    obtain ⟨z, hz, q2⟩ := Res.lift q1
    cases r with
    | int i =>
      cases hz
      exact ⟨i, rfl, q2 H1 Ext.refl k1 _ (.int _)⟩
    | _ => cases hz)⟩

/-! ### comparisons -/
structure CmpOk (X : Cx) (op : CmpOp) (f : D → D → Option D) : Prop where
  r : ∃ r, OpR X (compareOp op) r ∧ Op2 X.K r f
theorem d_cmp {op : CmpOp} {f : D → D → Option D} (ho : CmpOk X op f) (ha : PED X W a fa) (hb : PED X W b fb) (hm : behindInMarks op b = false := by first | exact nomark _ | rfl) : PED X W (.Compare a [op] [b] pos) (e2 f fa fb) := by
  obtain ⟨r, h1, h2⟩ := ho.r
  exact d_2 (fun _ _ x y => pe_cmpR h1 x y hm) h2 ha hb
def boolD : D → Option Bool
  | .bool b => some b
  | _ => none
def bCmp (f : D → D → Option D) (fa fb : EV) : BV := fun η => M.bind (fa η) fun x => M.bind (fb η) fun y => M.lift ((f x y).bind boolD)
theorem t_cmp {op : CmpOp} {f : D → D → Option D} (ho : CmpOk X op f) (ha : PED X W a fa) (hb : PED X W b fb) (hm : behindInMarks op b = false := by first | exact nomark _ | rfl) : PTD X W (.Compare a [op] [b] pos) (bCmp f fa fb) := by
  obtain ⟨r, h1, h2⟩ := ho.r
  refine ⟨(pt_cmpR h1 ha.pe hb.pe hm).con fun σ H Q ⟨g, S, η, s, at_, q⟩ => ?_⟩
  refine tD.mk at_ ((Res.bind q).imp fun d H1 s1 e1 k1 q1 v1 at1 r1 => ?_)
  refine tD.mk at1 ((Res.bind q1).imp fun d2 H2 s2 e2 k2 q2 v2 at2 r2 => ?_)
  obtain ⟨z, hz, q3⟩ := Res.lift q2
  obtain ⟨w, hw, hz⟩ := Option.bind_eq_some_iff.mp hz
  refine h2 g S H2 s2 v1 v2 d d2 w _ at_.gK at2.sok at2.ok (r1.ext at1.sok.st at1.ok.stl e2) r2 hw fun H' v e' k' r' => ?_
  cases r' with
  | bl b0 =>
    have hz' : b0 = z := Option.some.inj hz
    subst hz'
    exact ⟨b0, rfl, q3 H' e' k'⟩
  | _ => cases hz
/-- a < b < c -/
def eChain (f h : D → D → Option D) (fa fb fc : EV) : EV := fun η => M.bind (fa η) fun x => M.bind (fb η) fun y => M.bind (M.lift ((f x y).bind boolD)) fun k => if k = true then M.bind (fc η) fun z => M.lift (h y z) else M.ret (.bool false)
def bChain (f h : D → D → Option D) (fa fb fc : EV) : BV := fun η => M.bind (fa η) fun x => M.bind (fb η) fun y => M.bind (M.lift ((f x y).bind boolD)) fun k => if k = true then M.bind (fc η) fun z => M.lift ((h y z).bind boolD) else M.ret false
theorem d_chain {op op' : CmpOp} {f h : D → D → Option D} (ho : CmpOk X op f) (ho' : CmpOk X op' h) (ha : PED X W a fa) (hb : PED X W b fb) (hc : PED X W c fc) (hm : lastMarks [op, op'] [b, c] = false := by with_unfolding_all rfl) :
    PED X W (.Compare a [op, op'] [b, c] pos) (eChain f h fa fb fc) := by
  obtain ⟨r, h1, h2⟩ := ho.r
  obtain ⟨r', h1', h2'⟩ := ho'.r
  refine ⟨(pe_chain h1 h1' ha.pe hb.pe hc.pe hm).con fun σ H Q ⟨g, S, η, s, at_, q⟩ => ?_⟩
  refine tD.mk at_ ((Res.bind q).imp fun d H1 s1 e1 k1 q1 v1 at1 r1 => ?_)
  refine tD.mk at1 ((Res.bind q1).imp fun d2 H2 s2 e2 k2 q2 v2 at2 r2 => ?_)
  obtain ⟨z, hz, q3⟩ := Res.lift (Res.bind q2)
  obtain ⟨w, hw, hz⟩ := Option.bind_eq_some_iff.mp hz
  refine h2 g S H2 s2 v1 v2 d d2 w _ at_.gK at2.sok at2.ok (r1.ext at1.sok.st at1.ok.stl e2) r2 hw fun H' v e' k' r' => ?_
  cases r' with
  | bl b0 =>
    have hz' : b0 = z := Option.some.inj hz
    subst hz'
    have q4 := q3 H' e' k'
    refine ⟨b0, rfl, ?_⟩
    cases b0 with
    | false => exact Res.here (x := PyData.bool false) q4 k' _ (.bl _)
    | true =>
      have at3 := at2.ext e' k'
      refine tD.mk at3 ((Res.bind q4).imp fun d3 H3 s3 e3 k3 q5 v3 at4 r3 => ?_)
      obtain ⟨w2, hw2, q6⟩ := Res.lift q5
      exact h2' g S H3 s3 v2 v3 d2 d3 w2 _ at_.gK at4.sok at4.ok ((r2.ext at2.sok.st at2.ok.stl e').ext at3.sok.st at3.ok.stl e3) r3 hw2 fun H' v e' k' r' => q6 H' e' k' v r'
  | _ => cases hz
theorem t_chain {op op' : CmpOp} {f h : D → D → Option D} (ho : CmpOk X op f) (ho' : CmpOk X op' h) (ha : PED X W a fa) (hb : PED X W b fb) (hc : PED X W c fc) (hm : lastMarks [op, op'] [b, c] = false := by with_unfolding_all rfl) :
    PTD X W (.Compare a [op, op'] [b, c] pos) (bChain f h fa fb fc) := by
  obtain ⟨r, h1, h2⟩ := ho.r
  obtain ⟨r', h1', h2'⟩ := ho'.r
  refine ⟨(pt_chain h1 h1' ha.pe hb.pe hc.pe hm).con fun σ H Q ⟨g, S, η, s, at_, q⟩ => ?_⟩
  refine tD.mk at_ ((Res.bind q).imp fun d H1 s1 e1 k1 q1 v1 at1 r1 => ?_)
  refine tD.mk at1 ((Res.bind q1).imp fun d2 H2 s2 e2 k2 q2 v2 at2 r2 => ?_)
  obtain ⟨z, hz, q3⟩ := Res.lift (Res.bind q2)
  obtain ⟨w, hw, hz⟩ := Option.bind_eq_some_iff.mp hz
  refine h2 g S H2 s2 v1 v2 d d2 w _ at_.gK at2.sok at2.ok (r1.ext at1.sok.st at1.ok.stl e2) r2 hw fun H' v e' k' r' => ?_
  cases r' with
  | bl b0 =>
    have hz' : b0 = z := Option.some.inj hz
    subst hz'
    have q4 := q3 H' e' k'
    refine ⟨b0, rfl, ?_⟩
    cases b0 with
    | false => exact ⟨false, rfl, Res.here (x := false) q4 k'⟩
    | true =>
      have at3 := at2.ext e' k'
      refine tD.mk at3 ((Res.bind q4).imp fun d3 H3 s3 e3 k3 q5 v3 at4 r3 => ?_)
      obtain ⟨z2, hz2, q6⟩ := Res.lift q5
      obtain ⟨w2, hw2, hz2⟩ := Option.bind_eq_some_iff.mp hz2
      refine h2' g S H3 s3 v2 v3 d2 d3 w2 _ at_.gK at4.sok at4.ok ((r2.ext at2.sok.st at2.ok.stl e').ext at3.sok.st at3.ok.stl e3) r3 hw2 fun H' v e' k' r' => ?_
      cases r' with
      | bl b2 =>
        have hz' : b2 = z2 := Option.some.inj hz2
        subst hz'
        exact ⟨b2, rfl, q6 H' e' k'⟩
      | _ => cases hz2
  | _ => cases hz
end
end W3

namespace W3
open PySem PySem.Spec L2
section
variable {X : Cx} {k : Nat}
def eqD (d e : D) : Option D := if SeqAt.shaped d = true ∧ SeqAt.shaped e = true then some (.bool (PyData.eqv d e)) else none
def neD (d e : D) : Option D := if SeqAt.shaped d = true ∧ SeqAt.shaped e = true then some (.bool (!PyData.eqv d e)) else none
theorem c_eq (hr : Room k X.A) : CmpOk X .Eq eqD := ⟨_, op_eqD hr.units, by
  intro g S H s x y d e z Q hK so ok rx ry h q
  unfold eqD at h
  split at h
  · rename_i c
    cases h
    exact ⟨d, e, hK ▸ rx.dp d x (SeqAt.canLay_of_shaped c.1), hK ▸ ry.dp e y (SeqAt.canLay_of_shaped c.2), c.1, c.2, q H _ Ext.refl ok (.bl _)⟩
  · cases h⟩
theorem c_ne (hr : Room k X.A) : CmpOk X .NotEq neD := ⟨_, op_neD hr.units, by
  intro g S H s x y d e z Q hK so ok rx ry h q
  unfold neD at h
  split at h
  · rename_i c
    cases h
    exact ⟨d, e, hK ▸ rx.dp d x (SeqAt.canLay_of_shaped c.1), hK ▸ ry.dp e y (SeqAt.canLay_of_shaped c.2), c.1, c.2, q H _ Ext.refl ok (.bl _)⟩
  · cases h⟩
/-! order -/
def notNone : D → Bool
  | .none => false
  | _ => true
def ltD : D → D → Option D
  | .int i, .int j => some (.bool (decide (i < j)))
  | d, e => if SeqAt.shaped d = true ∧ SeqAt.shaped e = true ∧ PySem.W.alike d e = true ∧ notNone d = true then some (.bool (PySem.W.dataLt d e)) else none
def rLtD (K : PySem.W.Frag) : R2 := fun x y H Q => ∃ d e, Dp K H x d ∧ Dp K H y e ∧ SeqAt.shaped d = true ∧ PySem.W.alike d e = true ∧ d ≠ .none ∧ Q (.bl (PySem.W.dataLt d e)) H
theorem op_ltD (hu : X.A.units + 64 < cLine) : OpR X (compareOp .Lt) (rLtD X.K) := by
  intro pins s σ H x y v u Q I rx ry h
  obtain ⟨d, e, hd, he, sd, al, nn, q⟩ := h
  obtain ⟨as, r1⟩ := Dp.reads I d x v hd rx
  obtain ⟨bs, r2⟩ := Dp.reads I e y u he ry
  have h1 := SeqAt.depth_of_shaped sd
  exact PySem.W.rcLt_alike d e X.A s v u as bs r1 r2 al nn (by have : min d.depth e.depth ≤ d.depth := Nat.min_le_left _ _; omega) X.prog X.w X.xe _ ⟨.bl _, H, I, rfl, q⟩
theorem c_lt (hr : Room k X.A) : CmpOk X .Lt ltD := ⟨_, op_lt.or (op_ltD hr.units), by
  intro g S H s x y d e z Q hK so ok rx ry h q
  have gen : (if SeqAt.shaped d = true ∧ SeqAt.shaped e = true ∧ PySem.W.alike d e = true ∧ notNone d = true then some (PyData.bool (PySem.W.dataLt d e)) else none) = some z → rLtD X.K x y H Q := by
    intro h
    split at h
    · rename_i c
      cases h
      refine ⟨d, e, hK ▸ rx.dp d x (SeqAt.canLay_of_shaped c.1), hK ▸ ry.dp e y (SeqAt.canLay_of_shaped c.2.1), c.1, c.2.2.1, fun e' => ?_, q H _ Ext.refl ok (.bl _)⟩
      rw [e'] at c
      exact absurd c.2.2.2 (by decide)
    · cases h
  unfold ltD at h
  split at h
  · cases h
    cases rx
    cases ry
    exact .inl ⟨_, _, rfl, rfl, q H _ Ext.refl ok (.bl _)⟩
  · exact .inr (gen h)⟩
def leD : D → D → Option D
  | .int i, .int j => some (.bool (decide (i ≤ j)))
  | _, _ => none
def gtD : D → D → Option D
  | .int i, .int j => some (.bool (decide (j < i)))
  | _, _ => none
def geD : D → D → Option D
  | .int i, .int j => some (.bool (decide (j ≤ i)))
  | _, _ => none
theorem c_le : CmpOk X .LtE leD := ⟨_, op_le, by
  intro g S H s x y d e z Q hK so ok rx ry h q
  unfold leD at h
  split at h
  · cases h; cases rx; cases ry
    exact ⟨_, _, rfl, rfl, q H _ Ext.refl ok (.bl _)⟩
  · cases h⟩
theorem c_gt : CmpOk X .Gt gtD := ⟨_, op_gt, by
  intro g S H s x y d e z Q hK so ok rx ry h q
  unfold gtD at h
  split at h
  · cases h; cases rx; cases ry
    exact ⟨_, _, rfl, rfl, q H _ Ext.refl ok (.bl _)⟩
  · cases h⟩
theorem c_ge : CmpOk X .GtE geD := ⟨_, op_ge, by
  intro g S H s x y d e z Q hK so ok rx ry h q
  unfold geD at h
  split at h
  · cases h; cases rx; cases ry
    exact ⟨_, _, rfl, rfl, q H _ Ext.refl ok (.bl _)⟩
  · cases h⟩
/-! is -/
def isD : D → D → Option D
  | d, .none => some (.bool (!notNone d))
  | .bool a, .bool b => some (.bool (decide (a = b)))
  | _, _ => none
def isnD (d e : D) : Option D := (isD d e).bind negB
where negB : D → Option D
  | .bool b => some (.bool (!b))
  | _ => none
theorem isN_of {g : G} {S : Addr → Prop} {H : Hp} {x : V} {d : D} (r : Dq g S H x d) : decide (x = .non) = !notNone d := by
  cases r <;> first | rfl | exact decide_eq_false (fun z => by cases z)
theorem c_is : CmpOk X .Is isD := ⟨_, op_isN.or op_is_bl, by
  intro g S H s x y d e z Q hK so ok rx ry h q
  unfold isD at h
  split at h
  · cases h
    cases ry
    refine .inl ⟨rfl, ?_⟩
    rw [isN_of rx]
    exact q H _ Ext.refl ok (.bl _)
  · cases h
    cases rx
    cases ry
    exact .inr ⟨_, _, rfl, rfl, q H _ Ext.refl ok (.bl _)⟩
  · cases h⟩
theorem c_isn : CmpOk X .IsNot isnD := ⟨_, op_notN.or op_isnot_bl, by
  intro g S H s x y d e z Q hK so ok rx ry h q
  unfold isnD isD at h
  split at h
  · cases h
    cases ry
    refine .inl ⟨rfl, ?_⟩
    rw [isN_of rx]
    exact q H _ Ext.refl ok (.bl _)
  · cases h
    cases rx
    cases ry
    exact .inr ⟨_, _, rfl, rfl, q H _ Ext.refl ok (.bl _)⟩
  · cases h⟩
/-! in -/
def strIn (i j : Str) : Bool := !(Builtin.Str.occurrences j i 0 j.length 1).isEmpty
def inB : D → D → Option Bool
  | d, .list ds => if SeqAt.shaped d = true ∧ SeqAt.shaped (.list ds) = true then some (ds.any fun z => PyData.eqv z d) else none
  | d, .tuple ds => if SeqAt.shaped d = true ∧ SeqAt.shaped (.tuple ds) = true then some (ds.any fun z => PyData.eqv z d) else none
  | .str x, .str y => some (strIn x y)
  | _, _ => none
def inD (d e : D) : Option D := (inB d e).map .bool
def ninD (d e : D) : Option D := (inB d e).map fun b => .bool (!b)
def rInT (K : PySem.W.Frag) (neg : Bool) : R2 := fun x y H Q => ∃ d ds, Dp K H x d ∧ Dp K H y (.tuple ds) ∧ SeqAt.shaped d = true ∧ SeqAt.shaped (.tuple ds) = true ∧ Q (.bl (if neg = true then !ds.any (fun z => PyData.eqv z d) else ds.any fun z => PyData.eqv z d)) H
theorem room1 {d : D} {ds : List D} {A : Around} (sd : SeqAt.shaped d = true) (hu : A.units + 65 < cLine) : A.units + 1 + min (PyData.depthAll ds) d.depth < cLine := by
  have h1 := SeqAt.depth_of_shaped sd
  have h2 : min (PyData.depthAll ds) d.depth ≤ d.depth := Nat.min_le_right _ _
  omega
theorem op_inT (hu : X.A.units + 65 < cLine) : OpR X (compareOp .In) (rInT X.K false) := by
  intro pins s σ H x y v u Q I rx ry h
  obtain ⟨d, ds, hd, he, sd, se, q⟩ := h
  obtain ⟨as, r1⟩ := Dp.reads I d x v hd rx
  obtain ⟨bs, r2⟩ := Dp.reads I (.tuple ds) y u he ry
  exact SeqAt.in_tuple_reads r2 r1 (SeqAt.canLay_of_shaped se) (SeqAt.canLay_of_shaped sd) (room1 sd hu) ⟨.bl _, H, I, rfl, q⟩
theorem op_ninT (hu : X.A.units + 65 < cLine) : OpR X (compareOp .NotIn) (rInT X.K true) := by
  intro pins s σ H x y v u Q I rx ry h
  obtain ⟨d, ds, hd, he, sd, se, q⟩ := h
  obtain ⟨as, r1⟩ := Dp.reads I d x v hd rx
  obtain ⟨bs, r2⟩ := Dp.reads I (.tuple ds) y u he ry
  exact SeqAt.notIn_tuple_reads r2 r1 (SeqAt.canLay_of_shaped se) (SeqAt.canLay_of_shaped sd) (room1 sd hu) ⟨.bl _, H, I, rfl, q⟩
theorem room65 {A : Around} (hr : Room k A) : A.units + 65 < cLine := by have := hr.un; omega
theorem c_in (hr : Room k X.A) : CmpOk X .In inD := ⟨_, (op_inD (room65 hr)).or ((op_inT (room65 hr)).or op_in_str), by
  intro g S H s x y d e z Q hK so ok rx ry h q
  unfold inD inB at h
  split at h
  · rename_i ds
    split at h
    · rename_i c
      cases h
      exact .inl ⟨d, ds, hK ▸ rx.dp d x (SeqAt.canLay_of_shaped c.1), hK ▸ ry.dp _ y (SeqAt.canLay_of_shaped c.2), c.1, c.2, q H _ Ext.refl ok (.bl _)⟩
    · cases h
  · rename_i ds
    split at h
    · rename_i c
      cases h
      exact .inr (.inl ⟨d, ds, hK ▸ rx.dp d x (SeqAt.canLay_of_shaped c.1), hK ▸ ry.dp _ y (SeqAt.canLay_of_shaped c.2), c.1, c.2, q H _ Ext.refl ok (.bl _)⟩)
    · cases h
  · cases h; cases rx; cases ry
    exact .inr (.inr ⟨_, _, rfl, rfl, q H _ Ext.refl ok (.bl _)⟩)
  · cases h⟩
theorem c_nin (hr : Room k X.A) : CmpOk X .NotIn ninD := ⟨_, (op_notInD (room65 hr)).or ((op_ninT (room65 hr)).or op_notin_str), by
  intro g S H s x y d e z Q hK so ok rx ry h q
  unfold ninD inB at h
  split at h
  · rename_i ds
    split at h
    · rename_i c
      cases h
      exact .inl ⟨d, ds, hK ▸ rx.dp d x (SeqAt.canLay_of_shaped c.1), hK ▸ ry.dp _ y (SeqAt.canLay_of_shaped c.2), c.1, c.2, q H _ Ext.refl ok (.bl _)⟩
    · cases h
  · rename_i ds
    split at h
    · rename_i c
      cases h
      exact .inr (.inl ⟨d, ds, hK ▸ rx.dp d x (SeqAt.canLay_of_shaped c.1), hK ▸ ry.dp _ y (SeqAt.canLay_of_shaped c.2), c.1, c.2, q H _ Ext.refl ok (.bl _)⟩)
    · cases h
  · cases h; cases rx; cases ry
    exact .inr (.inr ⟨_, _, rfl, rfl, q H _ Ext.refl ok (.bl _)⟩)
  · cases h⟩
end
end W3

set_option Elab.async false
set_option linter.all false
set_option maxRecDepth 100000
set_option maxHeartbeats 4000000
/-! W3d: displays, subscripts, slices, calls of built-in functions. -/
namespace W3
open PySem PySem.Spec L2

/-! ### slices -/
/-- the first place, the step, how many -/
def slK (n : Nat) (lo hi st : Option Int) : Int × Int × Nat :=
  let c := st.getD 1
  let p := Builtin.Slice.sliceAdjust lo hi c n
  (p.1, c, Builtin.Slice.slicePlaces p.1 p.2 c)
def pickL {α : Type} (xs : List α) (a c : Int) (k : Nat) : List α := (List.range k).filterMap fun (m : Nat) => xs[(a + (m : Int) * c).toNat]?
def sliceL {α : Type} (xs : List α) (lo hi st : Option Int) : List α := pickL xs (slK xs.length lo hi st).1 (slK xs.length lo hi st).2.1 (slK xs.length lo hi st).2.2
theorem bounds_eq (lo hi st : Option Int) (n : Nat) (h0 : st.getD 1 ≠ 0) : sliceBounds lo hi st n = ((Builtin.Slice.sliceAdjust lo hi (st.getD 1) n).1, (Builtin.Slice.sliceAdjust lo hi (st.getD 1) n).2, st.getD 1) := by
  unfold sliceBounds Builtin.Slice.sliceAdjust
  generalize st.getD 1 = c at *
  by_cases hc : c > 0
  · have hn : ¬ c < 0 := by omega
    simp only [if_pos hc, if_neg hn]
    refine Prod.ext ?_ (Prod.ext ?_ rfl)
    · cases lo with
      | none => rfl
      | some v => dsimp only; split <;> omega
    · cases hi with
      | none => rfl
      | some v => dsimp only; split <;> omega
  · have hn : c < 0 := by omega
    simp only [if_neg hc, if_pos hn]
    refine Prod.ext ?_ (Prod.ext ?_ rfl)
    · cases lo with
      | none => rfl
      | some v => dsimp only; split <;> omega
    · cases hi with
      | none => rfl
      | some v => dsimp only; split <;> omega
theorem div_one_more {x c : Int} (hc : 0 < c) : (x + c) / c = x / c + 1 := by
  rw [Int.add_ediv_of_dvd_right (Int.dvd_refl c), Int.ediv_self (by omega)]
theorem range_eq (a b c : Int) (h0 : c ≠ 0) : sliceRange a b c = (List.range (Builtin.Slice.slicePlaces a b c)).map fun (k : Nat) => (a + (k : Int) * c).toNat := by
  unfold sliceRange Builtin.Slice.slicePlaces
  have e : (if c > 0 then (if a < b then (b - a + c - 1) / c else 0) else (if a > b then (a - b - c - 1) / (-c) else 0)) = (if c > 0 then (if a < b then (b - a - 1) / c + 1 else 0) else (if a > b then (a - b - 1) / (-c) + 1 else 0)) := by
    by_cases hc : c > 0
    · rw [if_pos hc, if_pos hc]
      split
      · rw [show b - a + c - 1 = (b - a - 1) + c by omega, div_one_more hc]
      · rfl
    · rw [if_neg hc, if_neg hc]
      split
      · rw [show a - b - c - 1 = (a - b - 1) + (-c) by omega, div_one_more (by omega)]
      · rfl
  rw [e]
  refine List.map_congr_left fun k _ => ?_
  rw [Int.mul_comm]
theorem pick_eq (its : List Value) (lo hi st : Option Int) (h0 : st ≠ some 0) : slicePick its.toArray lo hi st = (sliceL its lo hi st).toArray := by
  have hc : st.getD 1 ≠ 0 := by
    cases st with
    | none => decide
    | some c => exact fun e => h0 (by rw [show c = 0 from e])
  unfold slicePick sliceL pickL
  rw [List.size_toArray, bounds_eq _ _ _ _ hc]
  rw [range_eq _ _ _ hc, List.filterMap_map]
  refine congrArg List.toArray ?_
  show List.filterMap _ (List.range (slK its.length lo hi st).2.2) = _
  refine congrArg (fun f => List.filterMap f (List.range (slK its.length lo hi st).2.2)) ?_
  funext m
  show its.toArray[_]? = _
  simp [slK]
theorem Vals.pickL {xs : List V} {us : List Value} (r : Vals xs us) (a c : Int) : ∀ (l : List Nat), Vals (l.filterMap fun (m : Nat) => xs[(a + (m : Int) * c).toNat]?) (l.filterMap fun (m : Nat) => us[(a + (m : Int) * c).toNat]?)
  | [] => .nil
  | m :: l => by
    rw [List.filterMap_cons, List.filterMap_cons]
    cases e : xs[(a + (m : Int) * c).toNat]? with
    | none =>
      rw [Vals.none_of r e]
      exact Vals.pickL r a c l
    | some x =>
      obtain ⟨u, h1, h2⟩ := Vals.get r e
      rw [h1]
      exact .cons h2 (Vals.pickL r a c l)
theorem DqAll.pickL {g : G} {S : Addr → Prop} {H : Hp} {xs : List V} {ds : List D} (r : DqAll g S H xs ds) (a c : Int) : ∀ (l : List Nat), DqAll g S H (l.filterMap fun (m : Nat) => xs[(a + (m : Int) * c).toNat]?) (l.filterMap fun (m : Nat) => ds[(a + (m : Int) * c).toNat]?)
  | [] => .nil
  | m :: l => by
    rw [List.filterMap_cons, List.filterMap_cons]
    cases e : ds[(a + (m : Int) * c).toNat]? with
    | none =>
      have e2 : xs[(a + (m : Int) * c).toNat]? = none := by
        have := List.getElem?_eq_none_iff.mp e
        exact List.getElem?_eq_none_iff.mpr (by rw [r.length]; exact this)
      rw [e2]
      exact DqAll.pickL r a c l
    | some x =>
      obtain ⟨u, h1, h2⟩ := r.get e
      rw [h1]
      exact .cons h2 (DqAll.pickL r a c l)
theorem pickL_length {α : Type} (xs : List α) (a c : Int) (k : Nat) : (pickL xs a c k).length ≤ k := by
  unfold pickL
  refine Nat.le_trans (List.length_filterMap_le _ _) ?_
  rw [List.length_range]
  exact Nat.le_refl _
theorem div_le {x c : Int} (hx : 0 ≤ x) (hc : 0 < c) : x / c ≤ x := Int.ediv_le_self c hx
theorem adj_pos {n : Nat} {lo hi : Option Int} {c : Int} (hc : 0 < c) : 0 ≤ (Builtin.Slice.sliceAdjust lo hi c n).1 ∧ (Builtin.Slice.sliceAdjust lo hi c n).2 ≤ n := by
  have hn : ¬ c < 0 := by omega
  unfold Builtin.Slice.sliceAdjust
  simp only [if_neg hn]
  constructor
  · cases lo with
    | none => exact Int.le_refl _
    | some v => dsimp only; split <;> omega
  · cases hi with
    | none => exact Int.le_refl _
    | some v => dsimp only; split <;> omega
theorem adj_neg {n : Nat} {lo hi : Option Int} {c : Int} (hc : c < 0) : (Builtin.Slice.sliceAdjust lo hi c n).1 ≤ (n : Int) - 1 ∧ -1 ≤ (Builtin.Slice.sliceAdjust lo hi c n).2 := by
  unfold Builtin.Slice.sliceAdjust
  simp only [if_pos hc]
  constructor
  · cases lo with
    | none => exact Int.le_refl _
    | some v => dsimp only; split <;> omega
  · cases hi with
    | none => exact Int.le_refl _
    | some v => dsimp only; split <;> omega
theorem places_le (n : Nat) (lo hi st : Option Int) (h0 : st ≠ some 0) : (slK n lo hi st).2.2 ≤ n := by
  have hc0 : st.getD 1 ≠ 0 := by
    cases st with
    | none => decide
    | some c => exact fun e => h0 (by rw [show c = 0 from e])
  unfold slK Builtin.Slice.slicePlaces
  generalize st.getD 1 = c at *
  dsimp only
  by_cases hc : 0 < c
  · obtain ⟨h1, h2⟩ := adj_pos (n := n) (lo := lo) (hi := hi) hc
    rw [if_pos hc]
    split
    · rename_i hlt
      have := div_le (x := (Builtin.Slice.sliceAdjust lo hi c n).2 - (Builtin.Slice.sliceAdjust lo hi c n).1 - 1) (by omega) hc
      omega
    · exact Nat.zero_le _
  · have hz : c < 0 := by omega
    obtain ⟨h1, h2⟩ := adj_neg (n := n) (lo := lo) (hi := hi) hz
    rw [if_neg (by omega)]
    split
    · rename_i hlt
      have := div_le (x := (Builtin.Slice.sliceAdjust lo hi c n).1 - (Builtin.Slice.sliceAdjust lo hi c n).2 - 1) (c := -c) (by omega) (by omega)
      omega
    · exact Nat.zero_le _
theorem sliceL_length {α : Type} (xs : List α) (lo hi st : Option Int) (h0 : st ≠ some 0) : (sliceL xs lo hi st).length ≤ xs.length := Nat.le_trans (pickL_length _ _ _ _) (places_le _ _ _ _ h0)

/-- a slice with a step, by values -/
def SlR3 (X : Cx) (r : V → Option Int → Option Int → Option Int → Hp → VK → Prop) : Prop :=
  ∀ (pins : List (Addr × Obj)) (s : Shared) (σ : St) (H : Hp) (x : V) (v vl vu vs : Value) (lo hi st : Option Int) (sl : Addr) (Q : VK), Inv X pins σ H s → RelV x v → s.heap.IsSliceOf sl vl vu vs → IsPart vl lo → IsPart vu hi → IsPart vs st → r x lo hi st H Q →
    ∃ T id, typeLookup (.type T) "__getitem__" = pure (some (.builtin id)) ∧ s.TypeIs v T ∧ wpAny (model X.prog X.w) X.A (getItem v (.ref sl)) (EP X pins σ Q) X.xe s
theorem SlR3.or {X : Cx} {r r' : V → Option Int → Option Int → Option Int → Hp → VK → Prop} (h : SlR3 X r) (h' : SlR3 X r') : SlR3 X (fun x lo hi st H Q => r x lo hi st H Q ∨ r' x lo hi st H Q) := by
  intro pins s σ H x v vl vu vs lo hi st sl Q I rx hs pl pu ps q
  rcases q with q | q
  · exact h pins s σ H x v vl vu vs lo hi st sl Q I rx hs pl pu ps q
  · exact h' pins s σ H x v vl vu vs lo hi st sl Q I rx hs pl pu ps q
theorem SlR.to3 {X : Cx} {r : V → Option Int → Option Int → Hp → VK → Prop} (h : SlR X r) : SlR3 X (fun x lo hi st H Q => st = none ∧ r x lo hi H Q) := by
  intro pins s σ H x v vl vu vs lo hi st sl Q I rx hs pl pu ps ⟨e, q⟩
  subst e
  cases ps
  exact h pins s σ H x v vl vu lo hi sl Q I rx hs pl pu q
def rSl3L (K : PySem.W.Frag) : V → Option Int → Option Int → Option Int → Hp → VK → Prop := fun x lo hi st H Q => ∃ a xs, x = .ref a ∧ SqL K H a xs ∧ st ≠ some 0 ∧ ∀ p, H p = none → Q (.ref p) (upd H p (.lst (sliceL xs lo hi st)))
theorem sl3_list {X : Cx} : SlR3 X (rSl3L X.K) := by
  intro pins s σ H x v vl vu vs lo hi st sl Q I rx hs pl pu ps h
  obtain ⟨a, xs, rfl, hx, h0, q⟩ := h
  cases rx
  obtain ⟨its, r, ht, hz⟩ := I.list hx
  have hlen := r.length
  refine ⟨"list", _, slot_list_getitem.lookup, ht.isList.typeIs, ?_⟩
  refine wpAny_getItem_list_slice ht.isList hs pl pu ps h0 ?_ (by rw [List.size_toArray] <;> omega)
  rw [pick_eq _ _ _ _ h0]
  refine ⟨.ref s.heap.objs.size, _, I.laid (t' := s.toks) (o := .lst (sliceL xs lo hi st)) (fun b ob q => Heap.get?_push_of_some _ q) (Nat.le_refl _) ?_, rfl, q _ (I.hok.fresh (Nat.le_refl _))⟩
  refine ⟨Nat.le_trans (sliceL_length _ _ _ _ h0) hz, _, 0, ?_, Heap.get?_push_size _ rfl⟩
  unfold sliceL
  rw [hlen]
  exact Vals.pickL r _ _ _
/-! of a tuple, with a step -/
theorem sliceApplied_any {prog : Program} {w : World} {A : Around} {E : Value → Shared → Prop} {s : Shared} {sl : Addr} {vl vu vs : Value} {lo hi st : Option Int} {n : Nat} {Q : Int × Int × Nat → Shared → Prop} (hs : s.heap.IsSliceOf sl vl vu vs) (pl : IsPart vl lo) (pu : IsPart vu hi) (ps : IsPart vs st) (h0 : st ≠ some 0)
    (h : Q (slK n lo hi st) s) : wpAny (model prog w) A (Builtin.Slice.sliceApplied (.ref sl) (pure (n : Int))) Q E s := by
  obtain ⟨os, hos, hcs, hds⟩ := id hs
  have hc0 : ¬ ((st.getD 1 == 0) = true) := by
    cases st with
    | none => decide
    | some c => exact fun e => h0 (by rw [show c = 0 from eq_of_beq e])
  unfold Builtin.Slice.sliceApplied Builtin.Slice.sliceFields
  refine wpAny_bind (wpAny_bind (wpAny_field hos hds (x := vl) rfl (wpAny_bind (wpAny_field hos hds (x := vu) rfl (wpAny_bind (wpAny_field hos hds (x := vs) rfl (wpAny_pure ?_)))))))
  refine wpAny_bind (HT.slicePart_ ps ?_)
  show wpAny _ _ (if (st.getD 1 == 0) = true then _ else _) _ _ s
  rw [if_neg hc0]
  refine wpAny_bind (HT.slicePart_ pl (wpAny_bind (HT.slicePart_ pu (wpAny_bind (wpAny_pure ?_)))))
  exact wpAny_pure h
theorem pick1 {α : Type} (xs : List α) : ∀ (k i : Nat), (List.range k).filterMap (fun m => xs[i + m]?) = (xs.drop i).take k
  | 0, i => by simp
  | k + 1, i => by
    rw [List.range_succ_eq_map, List.filterMap_cons, List.filterMap_map]
    have e : ((fun m => xs[i + m]?) ∘ Nat.succ) = fun m => xs[(i + 1) + m]? := by
      funext m
      show xs[i + (m + 1)]? = xs[(i + 1) + m]?
      rw [show i + (m + 1) = (i + 1) + m by omega]
    rw [e, pick1 xs k (i + 1), Nat.add_zero]
    cases h : xs[i]? with
    | none =>
      have hl := List.getElem?_eq_none_iff.mp h
      rw [List.drop_of_length_le hl, List.drop_of_length_le (Nat.le_succ_of_le hl)]
      simp
    | some x =>
      obtain ⟨hl, hx⟩ := List.getElem?_eq_some_iff.mp h
      rw [List.drop_eq_getElem_cons hl, hx, List.take_succ_cons]
theorem slK_whole {α : Type} (xs : List α) (lo hi st : Option Int) (h : (slK xs.length lo hi st).1 = 0 ∧ (slK xs.length lo hi st).2.1 = 1 ∧ (slK xs.length lo hi st).2.2 = xs.length) : sliceL xs lo hi st = xs := by
  unfold sliceL pickL
  rw [h.1, h.2.1, h.2.2]
  have e : (fun (m : Nat) => xs[((0 : Int) + (m : Int) * 1).toNat]?) = fun m => xs[0 + m]? := by
    funext m
    rw [show ((0 : Int) + (m : Int) * 1).toNat = 0 + m by omega]
  rw [e, pick1]
  simp
end W3
namespace W3
section
open PySem PySem.Spec PyProof.Rows
theorem getItem_tuple_any {prog : Program} {w : World} {A : Around} {E : Value → Shared → Prop} {s : Shared} {t sl : Addr} {items : List Value} {vl vu vs : Value} {lo hi st : Option Int} {Q : Value → Shared → Prop} (ht : IsTup s.heap t items.toArray) (hs : s.heap.IsSliceOf sl vl vu vs) (pl : IsPart vl lo) (pu : IsPart vu hi) (ps : IsPart vs st) (h0 : st ≠ some 0)
    (hw : (slK items.length lo hi st).1 = 0 ∧ (slK items.length lo hi st).2.1 = 1 ∧ (slK items.length lo hi st).2.2 = items.length → Q (.ref t) s)
    (h : Q (.ref s.heap.objs.size) { s with heap := s.heap.push { cls := .type "tuple", data := .seq (sliceL items lo hi st).toArray } })
    (hsz : items.length ≤ sizeLine) : wpAny (model prog w) A (getItem (.ref t) (.ref sl)) Q E s := by
  have htake : sizeOk (.seq (sliceL items lo hi st).toArray) := by
    show (sliceL items lo hi st).toArray.size ≤ sizeLine
    rw [List.size_toArray]
    exact Nat.le_trans (sliceL_length _ _ _ _ h0) hsz
  obtain ⟨os, hos, hcs, hds⟩ := id hs
  have hTs : s.TypeIs (.ref sl) "slice" := ⟨os, hos, hcs⟩
  unfold getItem
  try with_reducible refine wpAny_holding ?_
  first | refine wpAny_bind (wpAny_pure ?_) | skip
  refine wpAny_bind (wpAny_sequenceKey ht.typeIs (by decide) ?_)
  refine wpAny_bind (wpAny_callSpecial?_slot (name := Str.ofString "__getitem__") ht.typeIs PyProof.Rows.slot_tuple_getitem
    (wpAny_call_entry PyProof.Rows.slot_tuple_getitem ht.typeIs PyProof.Rows.entry_tuple_getitem ?_ (PyProof.Rows.args_tuple_getitem _ _)))
  show wpAny _ _ (Builtin.Tuple.tupleItemsOf (.ref t) >>= _) _ _ s
  refine wpAny_bind (PyProof.Rows.tupleItemsOf_ ht ?_)
  refine wpAny_bind (wpAny_typeOf hTs ?_)
  rw [if_pos (by decide)]
  refine wpAny_bind (sliceApplied_any (n := items.length) hs pl pu ps h0 ?_)
  have fin := h
  have epick : ((List.range (slK items.length lo hi st).2.2).filterMap fun (m : Nat) => items.toArray[((slK items.length lo hi st).1 + (m : Int) * (slK items.length lo hi st).2.1).toNat]?).toArray = (sliceL items lo hi st).toArray := by
    unfold sliceL pickL
    refine congrArg List.toArray (congrArg (fun f => List.filterMap f _) ?_)
    funext m
    simp
  show wpAny _ _ (if ((slK items.length lo hi st).1 == 0 && (slK items.length lo hi st).2.1 == 1 && (slK items.length lo hi st).2.2 == items.toArray.size) = true then _ else _) _ _ s
  split
  · rename_i hc
    rw [Bool.and_eq_true, Bool.and_eq_true, List.size_toArray] at hc
    have hq := hw ⟨eq_of_beq hc.1.1, eq_of_beq hc.1.2, eq_of_beq hc.2⟩
    refine wpAny_bind ?_
    show wpAny _ _ (typeOf (.ref t) >>= fun T => pure (T == .type "tuple")) _ _ s
    refine wpAny_bind (wpAny_typeOf ht.typeIs (wpAny_pure ?_))
    first
      | rw [if_pos (by decide)]
      | simp only [beq_self_eq_true, if_true]
    first
      | exact wpAny_bind (wpAny_rule (wpAny_pure ⟨_, rfl, wpAny_pure hq⟩))
      | exact wpAny_bind (wpAny_rule (wpAny_bind (wpAny_pure (wpAny_pure ⟨_, rfl, wpAny_pure hq⟩))))
  · have epick' := epick
    simp only [slK] at epick'
    rw [epick']
    first
      | exact wpAny_bind (m := Builtin.Tuple.tupleExact _) (wpAny_newObj_type (wpAny_pure ⟨_, rfl, wpAny_pure h⟩) htake)
      | exact wpAny_bind (m := Builtin.Tuple.tupleExact _) (wpAny_newObj_type (wpAny_bind (wpAny_pure (wpAny_pure ⟨_, rfl, wpAny_pure h⟩))) htake)
      | exact wpAny_bind (wpAny_bind (m := Builtin.Tuple.tupleExact _) (wpAny_newObj_type (wpAny_pure (wpAny_pure ⟨_, rfl, wpAny_pure h⟩)) htake))
      | exact wpAny_bind (wpAny_bind (m := Builtin.Tuple.tupleExact _) (wpAny_newObj_type (wpAny_pure ⟨_, rfl, wpAny_pure h⟩) htake))
end
end W3
namespace W3
open PySem PySem.Spec L2
def rSl3T (K : PySem.W.Frag) : V → Option Int → Option Int → Option Int → Hp → VK → Prop := fun x lo hi st H Q => ∃ a xs, x = .ref a ∧ SqT K H a xs ∧ st ≠ some 0 ∧ (sliceL xs lo hi st = xs → Q (.ref a) H) ∧ ∀ p, H p = none → Q (.ref p) (upd H p (.tup (sliceL xs lo hi st)))
theorem sl3_tup {X : Cx} : SlR3 X (rSl3T X.K) := by
  intro pins s σ H x v vl vu vs lo hi st sl Q I rx hs pl pu ps h
  obtain ⟨a, xs, rfl, hx, h0, q0, q⟩ := h
  cases rx
  obtain ⟨its, r, ht, hz⟩ := I.tuple hx
  have hlen := r.length
  refine ⟨"tuple", _, PyProof.Rows.slot_tuple_getitem.lookup, ht.typeIs, ?_⟩
  refine getItem_tuple_any ht hs pl pu ps h0 (fun hw => ?_) ?_ (by omega)
  · rw [← hlen] at hw
    exact ⟨.ref a, H, I, rfl, q0 (slK_whole xs lo hi st hw)⟩
  · refine ⟨.ref s.heap.objs.size, _, I.laid (t' := s.toks) (o := .tup (sliceL xs lo hi st)) (fun b ob q => Heap.get?_push_of_some _ q) (Nat.le_refl _) ?_, rfl, q _ (I.hok.fresh (Nat.le_refl _))⟩
    refine ⟨Nat.le_trans (sliceL_length _ _ _ _ h0) hz, _, ?_, PyProof.Rows.IsTup.new _ _⟩
    unfold sliceL
    rw [hlen]
    exact Vals.pickL r _ _ _
section
open PyProof.Rows
variable {X : Cx} {e : Expr} {te : TE} {lo hi st : Option Expr} {tl th ts : TO} {pos p2 : Pos}
def tSl3 (r : V → Option Int → Option Int → Option Int → Hp → VK → Prop) (te : TE) (tl th ts : TO) : TE := fun σ H Q => te σ H fun x H1 => tl σ H1 fun l H2 => th σ H2 fun u H3 => ts σ H3 fun c H4 => r x l u c H4 Q
theorem pe_slice3 {r : V → Option Int → Option Int → Option Int → Hp → VK → Prop} (hr : SlR3 X r) (he : PE X e te) (hl : PO X lo tl) (hu : PO X hi th) (hs : PO X st ts) : PE X (.Subscript e (.Slice lo hi st p2) pos) (tSl3 r te tl th ts) := by
  refine ⟨fun pins s σ H Q I h => ?_⟩
  refine PyProof.Rows.Subscript_ (thn (he.run pins s σ H _ I h) fun v s1 ⟨x, H1, I1, r1, q1⟩ => ?_)
  refine wpAny_Slice (thn (hl.run pins s1 σ H1 _ I1 q1) fun vl s2 ⟨l, H2, I2, pl, q2⟩ => thn (hu.run pins s2 σ H2 _ I2 q2) fun vu s3 ⟨u, H3, I3, pu, q3⟩ => thn (hs.run pins s3 σ H3 _ I3 q3) fun vs s4 ⟨c, H4, I4, ps, q4⟩ => ?_)
  have I5 : Inv X pins σ H4 { s4 with heap := s4.heap.push { cls := .type "slice", data := .fields #[vl, vu, vs] } } := I4.kept (t' := s4.toks) fun b ob q => Heap.get?_push_of_some _ q
  obtain ⟨T, id, hT, ht, hg⟩ := hr pins { s4 with heap := s4.heap.push { cls := .type "slice", data := .fields #[vl, vu, vs] } } σ H4 x v vl vu vs l u c s4.heap.objs.size Q I5 r1 (Heap.IsSliceOf.new ..) pl pu ps q4
  show wpAny (model X.prog X.w) X.A (subscriptTail e (.Slice lo hi st p2) v (.ref s4.heap.objs.size)) (EP X pins σ Q) X.xe { s4 with heap := s4.heap.push { cls := .type "slice", data := .fields #[vl, vu, vs] } }
  cases st with
  | none => exact PyProof.Rows.tail_any (ops := [.ref s4.heap.objs.size, v]) ht hT hg (by with_unfolding_all rfl)
  | some _ => exact PyProof.Rows.tail_any (ops := [v, .ref s4.heap.objs.size]) ht hT hg (by with_unfolding_all rfl)
end
end W3

set_option Elab.async false
set_option linter.all false
set_option maxRecDepth 100000
set_option maxHeartbeats 4000000
/-! W3e: arguments, displays, subscripts, calls of built-in functions by data. -/
namespace W3
open PySem PySem.Spec L2

/-! ### argument lists -/
abbrev AV := Env → M (List D)
def tA (K : PySem.W.Frag) (W : XW) (f : AV) : TA := fun σ H Q => ∃ g S η s, At K g S H σ η s ∧ Res (W σ) g H (f η s) fun ds H' _ => ∀ vs, DqAll g S H' vs ds → Q vs H'
structure PAD (X : Cx) (W : XW) (es : List Expr) (f : AV) : Prop where
  pa : PA X es (tA X.K W f)
theorem _root_.L2.PA.con {X : Cx} {es : List Expr} {t u : TA} (h : PA X es t) (i : ∀ σ H Q, u σ H Q → t σ H Q) : PA X es u := ⟨fun p pins s σ H Q I q => h.run p pins s σ H Q I (i σ H Q q)⟩
theorem tA.mk {K : PySem.W.Frag} {W : XW} {f : AV} {g : G} {S : Addr → Prop} {σ : St} {H : Hp} {η : Env} {s : DS} {Q : List V → Hp → Prop} (a : At K g S H σ η s)
    (h : Res (W σ) g H (f η s) fun ds H' s' => ∀ vs, At K g S H' σ η s' → DqAll g S H' vs ds → Q vs H') : tA K W f σ H Q :=
  ⟨g, S, η, s, a, h.imp fun d H' s' e k q v r => q v (a.ext e k) r⟩
section
variable {X : Cx} {W : XW} {a b e : Expr} {es : List Expr} {fa fb : EV} {ga : AV} {pos : Pos}
def aN : AV := fun _ => M.ret []
def aC (f : EV) (h : AV) : AV := fun η => M.bind (f η) fun d => M.bind (h η) fun ds => M.ret (d :: ds)
theorem a_nil : PAD X W [] aN := ⟨pa_nil.con fun σ H Q ⟨g, S, η, s, at_, q⟩ => Res.here (x := ([] : List D)) q at_.ok [] .nil⟩
theorem a_cons (ha : PED X W e fa) (hr : PAD X W es ga) (hs : starEach (e :: es) X.env = (false, eval e X.env) :: starEach es X.env := by rfl) : PAD X W (e :: es) (aC fa ga) := ⟨(pa_cons ha.pe hr.pa hs).con fun σ H Q ⟨g, S, η, s, at_, q⟩ =>
  tD.mk at_ ((Res.bind q).imp fun d H1 s1 e1 k1 q1 v at1 r =>
    tA.mk at1 ((Res.bind q1).imp fun ds H2 s2 e2 k2 q2 vs at2 rs => Res.here (x := d :: ds) q2 k2 (v :: vs) (.cons (r.ext at1.sok.st at1.ok.stl e2) rs)))⟩

/-! ### displays -/
def lenOk (n : Nat) : Bool := decide (n ≤ sizeLine)
def eTup (f : AV) : EV := fun η => M.bind (f η) fun ds => M.lift (if ds.length ≤ sizeLine then some (PyData.tuple ds) else none)
def eLst (f : AV) : EV := fun η => M.bind (f η) fun ds => M.lift (if ds.length ≤ sizeLine then some (PyData.list ds) else none)
theorem d_tup {x1 : Nat} (h : PAD X W es ga) : PED X W (.Tuple es x1 pos) (eTup ga) := ⟨(pe_tup h.pa).con fun σ H Q ⟨g, S, η, s, at_, q⟩ =>
  tA.mk at_ ((Res.bind q).imp fun ds H1 s1 e1 k1 q1 vs at1 rs => by
    obtain ⟨z, hz, q2⟩ := Res.lift q1
    split at hz
    · cases hz
      refine ⟨by rw [rs.length]; assumption, fun p hp => ?_⟩
      obtain ⟨x1, x2, x3⟩ := new_tup at1.ok at1.sok rs hp
      exact q2 _ x1 x2 _ x3
    · cases hz)⟩
theorem d_lst (h : PAD X W es ga) : PED X W (.List es pos) (eLst ga) := ⟨(pe_lst h.pa).con fun σ H Q ⟨g, S, η, s, at_, q⟩ =>
  tA.mk at_ ((Res.bind q).imp fun ds H1 s1 e1 k1 q1 vs at1 rs => by
    obtain ⟨z, hz, q2⟩ := Res.lift q1
    split at hz
    · cases hz
      refine ⟨by rw [rs.length]; assumption, fun p hp => ?_⟩
      obtain ⟨x1, x2, x3⟩ := new_lst at1.ok at1.sok rs hp
      exact q2 _ x1 x2 _ x3
    · cases hz)⟩

/-! ### subscripts -/
def ixD : D → D → Option D
  | .list ds, .int i => atI ds i
  | .tuple ds, .int i => atI ds i
  | .str z, .int i => if z.length ≤ sizeLine then (atI z.cps.toList i).map fun c => .str ⟨#[c]⟩ else none
  | _, _ => none
theorem DqAll.atI {g : G} {S : Addr → Prop} {H : Hp} {vs : List V} {ds : List D} (r : DqAll g S H vs ds) {i : Int} {d : D} (h : atI ds i = some d) : ∃ v, L2.atI vs i = some v ∧ Dq g S H v d := by
  unfold L2.atI at h ⊢
  rw [r.length]
  cases e : ixN ds.length i with
  | none => rw [e] at h; cases h
  | some j =>
    rw [e] at h
    exact r.get h
theorem o2_ix {K : PySem.W.Frag} : Op2 K (rIx K) ixD := by
  intro g S H s x y d e z Q hK so ok rx ry h q
  unfold ixD at h
  split at h
  · cases rx with
    | lst n e a =>
      cases ry
      obtain ⟨v, h1, h2⟩ := a.atI h
      exact .inl ⟨_, _, _, v, rfl, rfl, .of e, h1, q H v Ext.refl ok h2⟩
  · cases rx with
    | tup e a =>
      cases ry
      obtain ⟨v, h1, h2⟩ := a.atI h
      exact .inr (.inl ⟨_, _, _, v, rfl, rfl, hK ▸ e.seqT, h1, q H v Ext.refl ok h2⟩)
  · cases rx
    cases ry
    split at h
    · obtain ⟨c, hc, hz⟩ := Option.map_eq_some_iff.mp h
      cases hz
      exact .inr (.inr ⟨_, _, c, rfl, rfl, by assumption, hc, q H _ Ext.refl ok (.str _)⟩)
    · cases h
  · cases h
theorem d_ix (ha : PED X W a fa) (hb : PED X W b fb) (hs : PlainIx b := by intro _ _; rfl) : PED X W (.Subscript a b pos) (e2 ixD fa fb) := d_2 (fun _ _ x y => pe_ix ix_seq x y hs) o2_ix ha hb

/-! ### slices -/
abbrev OV := Env → M (Option Int)
def tPO (K : PySem.W.Frag) (W : XW) (f : OV) : TO := fun σ H Q => ∃ g S η s, At K g S H σ η s ∧ Res (W σ) g H (f η s) fun o H' _ => Q o H'
structure POD (X : Cx) (W : XW) (e : Option Expr) (f : OV) : Prop where
  po : PO X e (tPO X.K W f)
theorem _root_.L2.PO.con {X : Cx} {e : Option Expr} {t u : TO} (h : PO X e t) (i : ∀ σ H Q, u σ H Q → t σ H Q) : PO X e u := ⟨fun pins s σ H Q I q => h.run pins s σ H Q I (i σ H Q q)⟩
def oN : OV := fun _ => M.ret none
def intD : D → Option Int
  | .int i => some i
  | _ => none
def oS (f : EV) : OV := fun η => M.bind (f η) fun d => M.lift ((intD d).map some)
theorem o_none : POD X W none oN := ⟨po_none.con fun σ H Q ⟨g, S, η, s, at_, q⟩ => Res.here (x := (none : Option Int)) q at_.ok⟩
theorem o_some (h : PED X W e fa) : POD X W (some e) (oS fa) := ⟨(po_some h.pe).con fun σ H Q ⟨g, S, η, s, at_, q⟩ =>
  tD.mk at_ ((Res.bind q).imp fun d H1 s1 e1 k1 q1 v at1 r => by
    obtain ⟨z, hz, q2⟩ := Res.lift q1
    obtain ⟨i, hi, hz⟩ := Option.map_eq_some_iff.mp hz
    subst hz
    cases r with
    | int j =>
      cases hi
      exact ⟨_, rfl, q2 H1 Ext.refl k1⟩
    | _ => cases hi)⟩
def slD (d : D) (lo hi st : Option Int) : Option D := if st = some 0 then none else match d with
  | .list ds => some (.list (sliceL ds lo hi st))
  | .tuple ds => some (.tuple (sliceL ds lo hi st))
  | .str z => if z.length ≤ sizeLine ∧ st = none then some (.str (cutS z lo hi)) else none
  | _ => none
def rSlAll (K : PySem.W.Frag) : V → Option Int → Option Int → Option Int → Hp → VK → Prop := fun x lo hi st H Q => rSl3L K x lo hi st H Q ∨ rSl3T K x lo hi st H Q ∨ (st = none ∧ rSlS x lo hi H Q)
theorem sl_all : SlR3 X (rSlAll X.K) := sl3_list.or (sl3_tup.or (SlR.to3 sl_str))
def eSl (f : EV) (l h st : OV) : EV := fun η => M.bind (f η) fun d => M.bind (l η) fun lo => M.bind (h η) fun hi => M.bind (st η) fun c => M.lift (slD d lo hi c)
theorem tPO.mk {K : PySem.W.Frag} {W : XW} {f : OV} {g : G} {S : Addr → Prop} {σ : St} {H : Hp} {η : Env} {s : DS} {Q : Option Int → Hp → Prop} (a : At K g S H σ η s)
    (h : Res (W σ) g H (f η s) fun o H' s' => At K g S H' σ η s' → Q o H') : tPO K W f σ H Q := ⟨g, S, η, s, a, h.imp fun d H' s' e k q => q (a.ext e k)⟩
theorem DqAll.sliceL {g : G} {S : Addr → Prop} {H : Hp} {vs : List V} {ds : List D} (r : DqAll g S H vs ds) (lo hi st : Option Int) : DqAll g S H (W3.sliceL vs lo hi st) (W3.sliceL ds lo hi st) := by
  unfold W3.sliceL
  rw [r.length]
  exact DqAll.pickL r _ _ _
theorem d_sl {lo hi st : Option Expr} {fl fh fs : OV} {p2 : Pos} (he : PED X W e fa) (hl : POD X W lo fl) (hh : POD X W hi fh) (hs : POD X W st fs) : PED X W (.Subscript e (.Slice lo hi st p2) pos) (eSl fa fl fh fs) := ⟨(pe_slice3 sl_all he.pe hl.po hh.po hs.po).con fun σ H Q ⟨g, S, η, s, at_, q⟩ =>
  tD.mk at_ ((Res.bind q).imp fun d H1 s1 e1 k1 q1 v at1 r =>
    tPO.mk at1 ((Res.bind q1).imp fun lo H2 s2 e2 k2 q2 at2 =>
      tPO.mk at2 ((Res.bind q2).imp fun hi H3 s3 e3 k3 q3 at3 =>
        tPO.mk at3 ((Res.bind q3).imp fun st H4 s4 e4 k4 q4 at4 => by
          have r4 := ((r.ext at1.sok.st at1.ok.stl e2).ext at2.sok.st at2.ok.stl e3).ext at3.sok.st at3.ok.stl e4
          obtain ⟨z, hz, q5⟩ := Res.lift q4
          unfold slD at hz
          split at hz
          · cases hz
          · rename_i h0
            split at hz
            · cases hz
              cases r4 with
              | lst n e a =>
                refine .inl ⟨_, _, rfl, .of e, h0, fun p hp => ?_⟩
                obtain ⟨x1, x2, x3⟩ := new_lst at4.ok at4.sok (a.sliceL lo hi st) hp
                exact q5 _ x1 x2 _ x3
            · cases hz
              cases r4 with
              | tup e a =>
                refine .inr (.inl ⟨_, _, rfl, at_.gK ▸ e.seqT, h0, fun e' => ?_, fun p hp => ?_⟩)
                · refine q5 H4 Ext.refl k4 _ (.tup e ?_)
                  have := a.sliceL lo hi st
                  rw [e'] at this
                  exact this
                · obtain ⟨x1, x2, x3⟩ := new_tup at4.ok at4.sok (a.sliceL lo hi st) hp
                  exact q5 _ x1 x2 _ x3
            · split at hz
              · rename_i c
                cases hz
                cases r4
                exact .inr (.inr ⟨c.2, _, rfl, c.1, q5 H4 Ext.refl k4 _ (.str _)⟩)
              · cases hz
            · cases hz))))⟩

/-! ### calls of built-in functions and types, by values -/
def OpC (K : PySem.W.Frag) (r : List V → Hp → VK → Prop) (f : List D → Option D) : Prop := ∀ (g : G) (S : Addr → Prop) (H : Hp) (s : DS) (xs : List V) (ds : List D) (z : D) (Q : VK), g.K = K → SOk g S H → Ok g H s → DqAll g S H xs ds → f ds = some z →
  (∀ H' v, Ext g H H' → Ok g H' s → Dq g S H' v z → Q v H') → r xs H Q
def eCl (f : List D → Option D) (h : AV) : EV := fun η => M.bind (h η) fun ds => M.lift (f ds)
theorem d_call {c : Expr} {r : List V → Hp → VK → Prop} {f : List D → Option D} (h : ∀ t, PA X es t → PE X c (tCB r t)) (ho : OpC X.K r f) (ha : PAD X W es ga) : PED X W c (eCl f ga) := ⟨(h _ ha.pa).con fun σ H Q ⟨g, S, η, s, at_, q⟩ =>
  tA.mk at_ ((Res.bind q).imp fun ds H1 s1 e1 k1 q1 vs at1 rs => by
    obtain ⟨z, hz, q2⟩ := Res.lift q1
    exact ho g S H1 s1 vs ds z Q at_.gK at1.sok k1 rs hz fun H' v e' k' r' => q2 H' e' k' v r')⟩
/-- what a call of a built-in by one name serves -/
structure CallOk (X : Cx) (f : Value) (h : List D → Option D) : Prop where
  r : ∃ r, CallR X f r ∧ OpC X.K r h
theorem d_fn {x : Str} {id : String} {p : Pos} {h : List D → Option D} (hc : CallOk X (.builtin id) h) (hg : Gl X x) (hm : X.mg x = none) (hv : bootBuiltins x = some (.builtin id)) (ha : PAD X W (e :: es) ga) (hn : x ≠ "__name__" := by decide) (hdb : (x == ("__debug__" : Str)) = false := by decide)
    (he : starEach (e :: es) X.env = (false, eval e X.env) :: starEach es X.env := by rfl) (hpl : (backTo pos (starEach es X.env)).any (·.1) = false := by rfl) : PED X W (.Call (.Name x p) (e :: es) [] pos) (eCl h ga) := by
  obtain ⟨r, h1, h2⟩ := hc.r
  exact d_call (fun t ht => pe_callB h1 hg hm hv ht hn hdb he hpl) h2 ha
theorem d_ty {x : Str} {T : String} {p : Pos} {h : List D → Option D} (hc : CallOk X (.type T) h) (hg : Gl X x) (hm : X.mg x = none) (hv : bootBuiltins x = some (.type T)) (ha : PAD X W (e :: es) ga) (hn : x ≠ "__name__" := by decide) (hdb : (x == ("__debug__" : Str)) = false := by decide)
    (he : starEach (e :: es) X.env = (false, eval e X.env) :: starEach es X.env := by rfl) (hpl : (backTo pos (starEach es X.env)).any (·.1) = false := by rfl) : PED X W (.Call (.Name x p) (e :: es) [] pos) (eCl h ga) := by
  obtain ⟨r, h1, h2⟩ := hc.r
  exact d_call (fun t ht => pe_callTy h1 hg hm hv ht hn hdb he hpl) h2 ha
end

/-! ### len, tuple, list, sum, abs, int, min, max -/
section
variable {X : Cx}
def lenD : List D → Option D
  | [.list ds] => some (.int ds.length)
  | [.tuple ds] => some (.int ds.length)
  | [.str z] => if z.length ≤ sizeLine then some (.int z.length) else none
  | _ => none
theorem k_len : CallOk X (.builtin "len") lenD := ⟨_, call_len_seq.or call_len_str, by
  intro g S H s xs ds z Q hK so ok r h q
  unfold lenD at h
  split at h
  · cases h
    cases r with
    | cons r1 r2 =>
      cases r2
      cases r1 with
      | lst n e a => exact .inl ⟨_, _, rfl, .inl (.of e), by rw [a.length]; exact q H _ Ext.refl ok (.int _)⟩
  · cases h
    cases r with
    | cons r1 r2 =>
      cases r2
      cases r1 with
      | tup e a => exact .inl ⟨_, _, rfl, .inr (hK ▸ e.seqT), by rw [a.length]; exact q H _ Ext.refl ok (.int _)⟩
  · split at h
    · cases h
      cases r with
      | cons r1 r2 =>
        cases r2
        cases r1
        exact .inr ⟨_, rfl, by assumption, q H _ Ext.refl ok (.int _)⟩
    · cases h
  · cases h⟩
def tupleD : List D → Option D
  | [.list ds] => some (.tuple ds)
  | [.tuple ds] => some (.tuple ds)
  | _ => none
theorem k_tuple : CallOk X (.type "tuple") tupleD := ⟨_, call_tuple_of, by
  intro g S H s xs ds z Q hK so ok r h q
  unfold tupleD at h
  split at h
  · cases h
    cases r with
    | cons r1 r2 =>
      cases r2
      cases r1 with
      | lst n e a =>
        refine ⟨_, _, rfl, .inl ⟨.of e, fun p hp => ?_⟩⟩
        obtain ⟨x1, x2, x3⟩ := new_tup ok so a hp
        exact q _ _ x1 x2 x3
  · cases h
    cases r with
    | cons r1 r2 =>
      cases r2
      cases r1 with
      | tup e a => exact ⟨_, _, rfl, .inr ⟨hK ▸ e.seqT, q H _ Ext.refl ok (.tup e a)⟩⟩
  · cases h⟩
def listD : List D → Option D
  | [.list ds] => some (.list ds)
  | [.tuple ds] => some (.list ds)
  | _ => none
theorem k_list : CallOk X (.type "list") listD := ⟨_, call_list_of, by
  intro g S H s xs ds z Q hK so ok r h q
  unfold listD at h
  split at h
  · cases h
    cases r with
    | cons r1 r2 =>
      cases r2
      cases r1 with
      | lst n e a =>
        refine ⟨_, _, rfl, .inl (.of e), fun p hp => ?_⟩
        obtain ⟨x1, x2, x3⟩ := new_lst ok so a hp
        exact q _ _ x1 x2 x3
  · cases h
    cases r with
    | cons r1 r2 =>
      cases r2
      cases r1 with
      | tup e a =>
        refine ⟨_, _, rfl, .inr (hK ▸ e.seqT), fun p hp => ?_⟩
        obtain ⟨x1, x2, x3⟩ := new_lst ok so a hp
        exact q _ _ x1 x2 x3
  · cases h⟩
/-- ints of data -/
def intsD : List D → Option (List Int)
  | [] => some []
  | .int i :: r => (intsD r).map (i :: ·)
  | _ :: _ => none
theorem DqAll.ints {g : G} {S : Addr → Prop} {H : Hp} : ∀ {vs : List V} {ds : List D} {ns : List Int}, DqAll g S H vs ds → intsD ds = some ns → vs = ns.map V.int
  | _, _, _, .nil, h => by cases h; rfl
  | _, _, ns, .cons r t, h => by
    cases r with
    | int i =>
      obtain ⟨ms, h1, h2⟩ := Option.map_eq_some_iff.mp (show (intsD _).map (i :: ·) = some ns from h)
      subst h2
      rw [DqAll.ints t h1]
      rfl
    | _ => cases h
def sumD : List D → Option D
  | [.list ds] => (intsD ds).map fun ns => .int ns.sum
  | [.tuple ds] => (intsD ds).map fun ns => .int ns.sum
  | _ => none
def rSumT (K : PySem.W.Frag) : List V → Hp → VK → Prop := fun vs H Q => ∃ (a : Addr) (ns : List Int), vs = [V.ref a] ∧ SqT K H a (ns.map V.int) ∧ Q (.int ns.sum) H
open PyProof.Rows PyProof.V in
theorem sum_rawT {prog : Program} {w : World} {A : Around} {E : Value → Shared → Prop} {s : Shared} {t : Addr} {its : List Value} {ns : List Int} {Q : Value → Shared → Prop} (hh : A.handled = none) (ht : s.heap.IsTuple t its.toArray) (hi : IntsAre its ns)
    (h : ∀ h' tk t', (∀ b o, s.heap.get? b = some o → h'.get? b = some o) → Q (.int ns.sum t') { s with heap := h', toks := tk }) : wpAny (model prog w) A (call (.builtin "sum") [.ref t]) Q E s := by
  obtain ⟨xs, hx⟩ := hi.allInts.items
  have hn : numsOf (intItems xs).toList = ns := by rw [← hx]; exact hi.numsOf
  rw [nums_intItems] at hn
  rw [hx] at ht
  refine PySem.W.ktm_sumG hh ht fun h' tk t' hk => ?_
  have q := h h' tk t' hk
  rw [preSum_eq, List.take_of_length_le (by simp), hn]
  exact q
theorem cr_sumT (hc : X.calm = true) : CallR X (.builtin "sum") (rSumT X.K) := by
  intro pins s σ H vs us Q I r h
  obtain ⟨a, ns, rfl, hs, q⟩ := h
  obtain ⟨its, rv, hl, _⟩ := I.tuple hs
  rw [Vals.ref1 r]
  exact sum_rawT (I.ok.hd hc) hl rv.ints fun h' tk t' hk => ⟨.int _, H, I.kept hk, ⟨_, rfl⟩, q⟩
theorem k_sum (hc : X.calm = true) : CallOk X (.builtin "sum") sumD := ⟨_, (cr_sum hc).or (cr_sumT hc), by
  intro g S H s xs ds z Q hK so ok r h q
  unfold sumD at h
  split at h
  · obtain ⟨ns, h1, h2⟩ := Option.map_eq_some_iff.mp h
    subst h2
    cases r with
    | cons r1 r2 =>
      cases r2
      cases r1 with
      | lst n e a =>
        have e' := a.ints h1
        subst e'
        exact .inl ⟨_, ns, rfl, .of e, q H _ Ext.refl ok (.int _)⟩
  · obtain ⟨ns, h1, h2⟩ := Option.map_eq_some_iff.mp h
    subst h2
    cases r with
    | cons r1 r2 =>
      cases r2
      cases r1 with
      | tup e a =>
        have e' := a.ints h1
        subst e'
        exact .inr ⟨_, ns, rfl, hK ▸ e.seqT, q H _ Ext.refl ok (.int _)⟩
  · cases h⟩
def intCD : List D → Option D
  | [.int i] => some (.int i)
  | [.bool b] => some (.int (if b = true then 1 else 0))
  | _ => none
theorem k_int : CallOk X (.type "int") intCD := ⟨_, call_int1, by
  intro g S H s xs ds z Q hK so ok r h q
  unfold intCD at h
  split at h
  · cases h
    cases r with
    | cons r1 r2 => cases r2; cases r1; exact .inl ⟨_, rfl, q H _ Ext.refl ok (.int _)⟩
  · cases h
    cases r with
    | cons r1 r2 => cases r2; cases r1; exact .inr ⟨_, rfl, q H _ Ext.refl ok (.int _)⟩
  · cases h⟩
def absD : List D → Option D
  | [.int i] => some (.int (if i < 0 then -i else i))
  | _ => none
theorem k_abs : CallOk X (.builtin "abs") absD := ⟨_, call_abs, by
  intro g S H s xs ds z Q hK so ok r h q
  unfold absD at h
  split at h
  · cases h
    cases r with
    | cons r1 r2 => cases r2; cases r1; exact ⟨_, rfl, q H _ Ext.refl ok (.int _)⟩
  · cases h⟩
end
end W3

set_option Elab.async false
set_option linter.all false
set_option maxRecDepth 100000
set_option maxHeartbeats 4000000
/-! W3f: what is walked, targets, comprehensions. -/
namespace W3
open PySem PySem.Spec L2

/-! ### what is walked -/
/-- J gives the items ds, as long as what is not in S stays -/
def Yields (g : G) (S : Addr → Prop) (J : It) (ds : List D) (H : Hp) : Prop := ∀ (S2 : Addr → Prop), (∀ a, S2 a → S a ∨ H a = none) → ∀ (i : Nat) (H1 : Hp), Pres S2 H H1 →
  (∀ d, ds[i]? = some d → J.go i H1 ∧ ∀ x H2, J.yld i H1 x H2 → Same H1 H2 ∧ Dq g S2 H2 x d) ∧ (ds.length ≤ i → J.stop i H1)
abbrev IV := Env → M (List D)
def tI (K : PySem.W.Frag) (W : XW) (f : IV) : TI := fun σ H R => ∃ g S η s, At K g S H σ η s ∧ Res (W σ) g H (f η s) fun ds H' _ => ∀ J, Yields g S J ds H' → R J H'
structure PID (X : Cx) (W : XW) (tg e : Expr) (f : IV) : Prop where
  pi : PI X tg e (tI X.K W f)
theorem _root_.L2.PI.con {X : Cx} {tg e : Expr} {t u : TI} (h : PI X tg e t) (i : ∀ σ H R, u σ H R → t σ H R) : PI X tg e u := ⟨fun pins s σ H R I q => h.run pins s σ H R I (i σ H R q)⟩
section
variable {g : G} {S S2 : Addr → Prop} {H H1 : Hp}
theorem SOk.mu2 (k : SOk g S H) (h : ∀ a, S2 a → S a ∨ H a = none) : ∀ a o, S2 a → H a = some o → Mu o := fun a o x e => by
  rcases h a x with z | z
  · exact k.mu a o z e
  · rw [e] at z; cases z
theorem yields_lst {a : Addr} {xs : List V} {ds : List D} (k : SOk g S H) (n : ¬ S a) (e : H a = some (.lst xs)) (r : DqAll g S H xs ds) : Yields g S (Itl g.K a) ds H := fun S2 h2 i H1 p => by
  have e1 : H1 a = some (.lst xs) := p.keep a _ e (fun z => (h2 a z).elim n fun w => by rw [e] at w; cases w) fun _ z => by cases z
  have r1 := (r.av h2).pres (k.mu2 h2) p
  have hl := r.length
  refine ⟨fun d hd => ?_, fun hd => ⟨xs, .of e1, by omega⟩⟩
  obtain ⟨v, hv, rv⟩ := r1.get hd
  refine ⟨⟨xs, v, .of e1, hv⟩, fun x H2 y => ?_⟩
  obtain ⟨rfl, y⟩ := y
  have : x = v := Option.some.inj ((y xs (.of e1)).symm.trans hv)
  subst this
  exact ⟨.refl _, rv⟩
theorem yields_tup {a : Addr} {xs : List V} {ds : List D} (k : SOk g S H) (e : SqT g.K H a xs) (r : DqAll g S H xs ds) : Yields g S (Itt g.K a) ds H := fun S2 h2 i H1 p => by
  have e1 : SqT g.K H1 a xs := p.seqT (k.mu2 h2) e
  have r1 := (r.av h2).pres (k.mu2 h2) p
  have hl := r.length
  refine ⟨fun d hd => ?_, fun hd => ⟨xs, e1, by omega⟩⟩
  obtain ⟨v, hv, rv⟩ := r1.get hd
  refine ⟨⟨xs, v, e1, hv⟩, fun x H2 y => ?_⟩
  obtain ⟨rfl, y⟩ := y
  have : x = v := Option.some.inj ((y xs e1).symm.trans hv)
  subst this
  exact ⟨.refl _, rv⟩
def rgD (lo : Int) (n : Nat) : List D := (List.range n).map fun (i : Nat) => .int (lo + (i : Int))
theorem yields_rg {lo : Int} {n : Nat} : Yields g S (Itr lo n) (rgD lo n) H := fun S2 h2 i H1 p => by
  unfold rgD
  refine ⟨fun d hd => ?_, fun hd => ?_⟩
  · rw [List.getElem?_map] at hd
    obtain ⟨j, hj, rfl⟩ := Option.map_eq_some_iff.mp hd
    obtain ⟨hl, hj⟩ := List.getElem?_eq_some_iff.mp hj
    rw [List.getElem_range] at hj
    subst hj
    rw [List.length_range] at hl
    refine ⟨hl, fun x H2 y => ?_⟩
    obtain ⟨rfl, rfl⟩ := y
    exact ⟨.refl _, .int _⟩
  · rw [List.length_map, List.length_range] at hd
    exact hd
end
/-! a list, a tuple, a text -/
def signsD (z : Str) : List D := z.cps.toList.map fun c => .str ⟨#[c]⟩
section
variable {X : Cx} {W : XW} {tg e a b : Expr} {fa fb : EV} {tl : TE} {p pos : Pos}
def iSeq (K : PySem.W.Frag) (tl : TE) : TI := fun σ H R => tl σ H fun x H1 => (∃ a, x = .ref a ∧ ((∃ xs, SqL K H1 a xs ∧ R (Itl K a) H1) ∨ (∃ xs, SqT K H1 a xs ∧ R (Itt K a) H1))) ∨ ∃ z, x = .str z ∧ R (Its z) H1
theorem pi_seq (hl : PE X e tl) : PI X tg e (iSeq X.K tl) := by
  refine ⟨fun pins s σ H R I h => ?_⟩
  have key : ∀ (v : Value) (s1 : Shared), EP X pins σ (fun x H1 => (∃ a, x = .ref a ∧ ((∃ xs, SqL X.K H1 a xs ∧ R (Itl X.K a) H1) ∨ (∃ xs, SqT X.K H1 a xs ∧ R (Itt X.K a) H1))) ∨ ∃ z, x = .str z ∧ R (Its z) H1) v s1 → wpAny (model X.prog X.w) X.A (pyIter v) (PIE X pins σ tg R) X.xe s1 := by
    intro v s1 ⟨x, H1, I1, r1, q1⟩
    rcases q1 with ⟨a, e, q1⟩ | ⟨z, e, q1⟩
    · subst e
      cases r1
      rcases q1 with ⟨xs, hq, q⟩ | ⟨xs, hq, q⟩
      · obtain ⟨its, rv, p, hz⟩ := I1.list hq
        refine wpAny_pyIter_list p.isList ?_
        refine ⟨s1.heap.objs.size, [s1.heap.objs.size], _, _, H1, rfl, I1.kept (t' := s1.toks) fun b o e => Heap.get?_push_of_some _ e, turn_list a _, ⟨_, Heap.get?_push_size _ rfl, rfl, rfl⟩, fun b hb => ?_, q⟩
        have e : b = s1.heap.objs.size := by simpa using hb
        subst e
        exact I1.fpOk (Nat.le_refl _) (I1.hok.fresh (Nat.le_refl _))
      · obtain ⟨its, rv, p, hz⟩ := I1.tuple hq
        refine wpAny_pyIter_tuple (show s1.heap.IsTuple a its.toArray from p) ?_
        refine ⟨s1.heap.objs.size, [s1.heap.objs.size], _, _, H1, rfl, I1.kept (t' := s1.toks) fun b o e => Heap.get?_push_of_some _ e, turn_tuple a _, ⟨_, Heap.get?_push_size _ rfl, rfl, rfl⟩, fun b hb => ?_, q⟩
        have e : b = s1.heap.objs.size := by simpa using hb
        subst e
        exact I1.fpOk (Nat.le_refl _) (I1.hok.fresh (Nat.le_refl _))
    · subst e
      obtain ⟨t, rfl⟩ := r1
      cases ha : z.cps.all (· < 128)
      · exact wpAny_pyIter_wide ha (pi_one (tk := s1.toks) I1 _ (turn_str _ z t "str_iterator" (.inr rfl)) ⟨_, Heap.get?_push_size _ rfl, rfl, rfl⟩ q1)
      · exact wpAny_pyIter_ascii ha (pi_one (tk := s1.toks) I1 _ (turn_str _ z t "str_ascii_iterator" (.inl rfl)) ⟨_, Heap.get?_push_size _ rfl, rfl, rfl⟩ q1)
  exact thn (hl.run pins s σ H _ I h) key
theorem yields_str {g : G} {S : Addr → Prop} {H : Hp} (z : Str) : Yields g S (Its z) (signsD z) H := fun S2 h2 i H1 p => by
  unfold signsD
  refine ⟨fun d hd => ?_, fun hd => ?_⟩
  · rw [List.getElem?_map] at hd
    obtain ⟨c, hc, rfl⟩ := Option.map_eq_some_iff.mp hd
    have hc' : z.cps[i]? = some c := by rw [← Array.getElem?_toList]; exact hc
    refine ⟨(Array.getElem?_eq_some_iff.mp hc').1, fun x H2 y => ?_⟩
    obtain ⟨rfl, c', hc2, rfl⟩ := y
    rw [hc'] at hc2
    cases hc2
    exact ⟨.refl _, .str _⟩
  · rw [List.length_map, Array.length_toList] at hd
    exact hd
/-- the items of a list, a tuple, a text -/
def itemsD : D → Option (List D)
  | .list ds => some ds
  | .tuple ds => some ds
  | .str z => some (signsD z)
  | _ => none
def iS (f : EV) : IV := fun η => M.bind (f η) fun d => M.lift (itemsD d)
theorem i_seq (h : PED X W e fa) : PID X W tg e (iS fa) := ⟨(pi_seq h.pe).con fun σ H R ⟨g, S, η, s, at_, q⟩ =>
  tD.mk at_ ((Res.bind q).imp fun d H1 s1 e1 k1 q1 v at1 r => by
    obtain ⟨ds, hd, q2⟩ := Res.lift q1
    have q3 := q2 H1 Ext.refl k1
    unfold itemsD at hd
    split at hd
    · cases hd
      cases r with
      | lst n e a => exact .inl ⟨_, rfl, .inl ⟨_, .of e, at_.gK ▸ q3 _ (yields_lst at1.sok n e a)⟩⟩
    · cases hd
      cases r with
      | tup e a => exact .inl ⟨_, rfl, .inr ⟨_, at_.gK ▸ e.seqT, at_.gK ▸ q3 _ (yields_tup at1.sok e.seqT a)⟩⟩
    · cases hd
      cases r
      exact .inr ⟨_, rfl, q3 _ (yields_str _)⟩
    · cases hd)⟩
/-! range -/
def rgOk (i j : Int) : Prop := -(4611686018427387904) ≤ i ∧ i < 4611686018427387904 ∧ -(4611686018427387904) ≤ j ∧ j < 4611686018427387904 ∧ (j - i).toNat ≤ sizeLine
instance (i j : Int) : Decidable (rgOk i j) := inferInstanceAs (Decidable (_ ∧ _ ∧ _ ∧ _ ∧ _))

def rangeD1 : List D → Option (List D)
  | [.int j] => if rgOk 0 j then some (rgD 0 j.toNat) else none
  | _ => none
def rangeD2 : List D → Option (List D)
  | [.int i, .int j] => if rgOk i j then some (rgD i (j - i).toNat) else none
  | _ => none
def rgCD (lo c : Int) (n : Nat) : List D := (List.range n).map fun (i : Nat) => .int (lo + (i : Int) * c)
def rgcOk (i j c : Int) : Prop := c ≠ 0 ∧ c.natAbs < 1073741824 ∧ Builtin.Range.small i j c = true ∧ 0 ≤ Builtin.Range.rangeSize i j c
instance (i j c : Int) : Decidable (rgcOk i j c) := inferInstanceAs (Decidable (_ ∧ _ ∧ _ ∧ _))
def rangeD3 : List D → Option (List D)
  | [.int i, .int j, .int c] => if rgcOk i j c then some (rgCD i c (Builtin.Range.rangeSize i j c).toNat) else none
  | _ => none
def iRg (r : List D → Option (List D)) (f : AV) : IV := fun η => M.bind (f η) fun ds => M.lift (r ds)
theorem yields_rgc {g : G} {S : Addr → Prop} {H : Hp} {lo c : Int} {n : Nat} : Yields g S (Itc lo c n) (rgCD lo c n) H := fun S2 h2 i H1 p => by
  unfold rgCD
  refine ⟨fun d hd => ?_, fun hd => ?_⟩
  · rw [List.getElem?_map] at hd
    obtain ⟨j, hj, rfl⟩ := Option.map_eq_some_iff.mp hd
    obtain ⟨hl, hj⟩ := List.getElem?_eq_some_iff.mp hj
    rw [List.getElem_range] at hj
    subst hj
    rw [List.length_range] at hl
    refine ⟨hl, fun x H2 y => ?_⟩
    obtain ⟨rfl, rfl⟩ := y
    exact ⟨.refl _, .int _⟩
  · rw [List.length_map, List.length_range] at hd
    exact hd
theorem i_rg1 {ga : AV} (hg : Gl X "range") (hm : X.mg "range" = none) (ha : PAD X W [a] ga) (hs : starEach [a] X.env = [(false, eval a X.env)] := by rfl) : PID X W tg (.Call (.Name "range" p) [a] [] pos) (iRg rangeD1 ga) := ⟨(pi_range1 hg hm ha.pa hs).con fun σ H R ⟨g, S, η, s, at_, q⟩ =>
  tA.mk at_ ((Res.bind q).imp fun ds H1 s1 e1 k1 q1 vs at1 rs => by
    obtain ⟨xs, hx, q2⟩ := Res.lift q1
    have q3 := q2 H1 Ext.refl k1
    unfold rangeD1 at hx
    split at hx
    · split at hx
      · rename_i c
        cases hx
        cases rs with
        | cons r1 r2 =>
          cases r2
          cases r1
          exact ⟨_, rfl, by have := c.2.2.1; omega, by have := c.2.2.2.1; omega, q3 _ yields_rg⟩
      · cases hx
    · cases hx)⟩
theorem i_rg2 {ga : AV} (hg : Gl X "range") (hm : X.mg "range" = none) (ha : PAD X W [a, b] ga) (hs : starEach [a, b] X.env = [(false, eval a X.env), (false, eval b X.env)] := by rfl) (hs2 : starEach [b] X.env = [(false, eval b X.env)] := by rfl) :
    PID X W tg (.Call (.Name "range" p) [a, b] [] pos) (iRg rangeD2 ga) := ⟨(pi_range2 hg hm ha.pa hs hs2).con fun σ H R ⟨g, S, η, s, at_, q⟩ =>
  tA.mk at_ ((Res.bind q).imp fun ds H1 s1 e1 k1 q1 vs at1 rs => by
    obtain ⟨xs, hx, q2⟩ := Res.lift q1
    have q3 := q2 H1 Ext.refl k1
    unfold rangeD2 at hx
    split at hx
    · split at hx
      · rename_i c
        cases hx
        cases rs with
        | cons r1 r2 =>
          cases r2 with
          | cons r2 r3 =>
            cases r3
            cases r1
            cases r2
            exact ⟨_, _, rfl, ⟨by have := c.1; omega, by have := c.2.1; omega, by have := c.2.2.1; omega, by have := c.2.2.2.1; omega⟩, q3 _ yields_rg⟩
      · cases hx
    · cases hx)⟩
theorem i_rg3 {c : Expr} {ga : AV} (hg : Gl X "range") (hm : X.mg "range" = none) (ha : PAD X W [a, b, c] ga) (hs : starEach [a, b, c] X.env = (false, eval a X.env) :: starEach [b, c] X.env := by rfl) (hpl : (backTo pos (starEach [b, c] X.env)).any (·.1) = false := by rfl) :
    PID X W tg (.Call (.Name "range" p) [a, b, c] [] pos) (iRg rangeD3 ga) := ⟨(pi_range3 hg hm ha.pa hs hpl).con fun σ H R ⟨g, S, η, s, at_, q⟩ =>
  tA.mk at_ ((Res.bind q).imp fun ds H1 s1 e1 k1 q1 vs at1 rs => by
    obtain ⟨xs, hx, q2⟩ := Res.lift q1
    have q3 := q2 H1 Ext.refl k1
    unfold rangeD3 at hx
    split at hx
    · split at hx
      · rename_i c
        cases hx
        cases rs with
        | cons r1 r2 =>
          cases r2 with
          | cons r2 r3 =>
            cases r3 with
            | cons r3 r4 =>
              cases r4
              cases r1
              cases r2
              cases r3
              exact ⟨_, _, _, _, rfl, ⟨c.1, c.2.1, c.2.2.1, by have := c.2.2.2; omega⟩, q3 _ yields_rgc⟩
      · cases hx
    · cases hx)⟩
end

/-! ### targets -/
def Off (vs : List Nat) (σ σ' : St) : Prop := σ'.length = σ.length ∧ ∀ i, i ∉ vs → σ'[i]? = σ[i]?
theorem Off.refl {vs : List Nat} {σ : St} : Off vs σ σ := ⟨rfl, fun _ _ => rfl⟩
theorem Off.trans {vs : List Nat} {σ σ1 σ2 : St} (a : Off vs σ σ1) (b : Off vs σ1 σ2) : Off vs σ σ2 := ⟨b.1.trans a.1, fun i h => (b.2 i h).trans (a.2 i h)⟩
theorem Off.mono {vs ws : List Nat} {σ σ' : St} (a : Off vs σ σ') (h : ∀ i ∈ vs, i ∈ ws) : Off ws σ σ' := ⟨a.1, fun i n => a.2 i fun z => n (h i z)⟩
theorem Off.set {σ : St} {i : Nat} {o : Option V} : Off [i] σ (σ.set i o) := ⟨List.length_set, fun j h => List.getElem?_set_ne fun e => h (by rw [e]; exact List.mem_singleton.mpr rfl)⟩
theorem wipe_in {σ : St} {i : Nat} : ∀ {vs : List Nat}, i ∈ vs → i < σ.length → (wipe σ vs)[i]? = some none
  | v :: vs, h, l => by
    unfold wipe
    by_cases e : v = i
    · subst e
      rw [List.getElem?_set_self (by rw [wipe_length]; exact l)]
    · rw [List.getElem?_set_ne e]
      exact wipe_in ((List.mem_cons.mp h).resolve_left fun z => e z.symm) l
theorem Off.wipe {vs : List Nat} {σ σ' : St} (a : Off vs σ σ') : L2.wipe σ' vs = L2.wipe σ vs := by
  refine List.ext_getElem? fun i => ?_
  by_cases h : i ∈ vs
  · by_cases l : i < σ.length
    · rw [wipe_in h l, wipe_in h (by rw [a.1]; exact l)]
    · rw [List.getElem?_eq_none (by rw [wipe_length, a.1]; omega), List.getElem?_eq_none (by rw [wipe_length]; omega)]
  · rw [wipe_out h, wipe_out h]
    exact a.2 i h
abbrev GV := D → Env → Option Env
abbrev GVs := List D → Env → Option Env
def tG (K : PySem.W.Frag) (vs : List Nat) (f : GV) : TG := fun v σ H Q => ∃ g S η s d η', At K g S H σ η s ∧ Dq g S H v d ∧ f d η = some η' ∧ ∀ σ', Off vs σ σ' → At K g S H σ' η' s → Q σ' H
def tGs (K : PySem.W.Frag) (vs : List Nat) (f : GVs) : TGs := fun xs σ H Q => ∃ g S η s ds η', At K g S H σ η s ∧ DqAll g S H xs ds ∧ f ds η = some η' ∧ ∀ σ', Off vs σ σ' → At K g S H σ' η' s → Q σ' H
def wipeE (η : Env) : List Nat → Env
  | [] => η
  | v :: vs => (wipeE η vs).set v none
theorem wipeE_length (η : Env) : ∀ vs : List Nat, (wipeE η vs).length = η.length
  | [] => rfl
  | v :: vs => by unfold wipeE; rw [List.length_set, wipeE_length η vs]
theorem wipeE_set {η : Env} {i : Nat} {o : Option D} : ∀ {vs : List Nat}, i ∉ vs → wipeE (η.set i o) vs = (wipeE η vs).set i o
  | [], _ => rfl
  | v :: vs, h => by
    unfold wipeE
    have hv : i ≠ v := fun e => h (by rw [e]; exact List.mem_cons_self)
    rw [wipeE_set fun z => h (List.mem_cons_of_mem _ z)]
    exact List.set_comm _ _ hv
theorem wipeE_out {η : Env} {i : Nat} : ∀ {vs : List Nat}, i ∉ vs → (wipeE η vs)[i]? = η[i]?
  | [], _ => rfl
  | v :: vs, h => by
    unfold wipeE
    rw [List.getElem?_set_ne fun e => h (by rw [← e]; exact List.mem_cons_self)]
    exact wipeE_out fun z => h (List.mem_cons_of_mem _ z)
theorem wipeE_some {η : Env} {i : Nat} {d : D} : ∀ {vs : List Nat}, (wipeE η vs)[i]? = some (some d) → i ∉ vs ∧ η[i]? = some (some d)
  | [], h => ⟨by simp, h⟩
  | v :: vs, h => by
    unfold wipeE at h
    by_cases e : v = i
    · subst e
      by_cases l : v < (wipeE η vs).length
      · rw [List.getElem?_set_self l] at h; cases h
      · rw [List.getElem?_eq_none (by rw [List.length_set]; omega)] at h; cases h
    · rw [List.getElem?_set_ne e] at h
      obtain ⟨h1, h2⟩ := wipeE_some h
      exact ⟨fun z => (List.mem_cons.mp z).elim (fun q => e q.symm) h1, h2⟩
/-- a target's law of data: it touches its slots alone -/
structure GOk (vs : List Nat) (f : GV) : Prop where
  wp : ∀ (O : List Nat), (∀ i ∈ vs, i ∉ O) → ∀ d η η', f d η = some η' → f d (wipeE η O) = some (wipeE η' O)
  off : ∀ d η η', f d η = some η' → ∀ i, i ∉ vs → η'[i]? = η[i]?
structure GsOk (vs : List Nat) (f : GVs) : Prop where
  wp : ∀ (O : List Nat), (∀ i ∈ vs, i ∉ O) → ∀ d η η', f d η = some η' → f d (wipeE η O) = some (wipeE η' O)
  off : ∀ d η η', f d η = some η' → ∀ i, i ∉ vs → η'[i]? = η[i]?
structure PGD (X : Cx) (vs : List Nat) (tg : Expr) (f : GV) : Prop where
  pg : PG X tg (tG X.K vs f)
  gok : GOk vs f
structure PGsD (X : Cx) (vs : List Nat) (tg : List Expr) (f : GVs) : Prop where
  pg : PGs X tg (tGs X.K vs f)
  gok : GsOk vs f
theorem _root_.L2.PG.con {X : Cx} {e : Expr} {t u : TG} (h : PG X e t) (i : ∀ v σ H Q, u v σ H Q → t v σ H Q) : PG X e u := ⟨fun pins s σ H v w Q I r q => h.run pins s σ H v w Q I r (i v σ H Q q)⟩
theorem _root_.L2.PGs.con {X : Cx} {e : List Expr} {t u : TGs} (h : PGs X e t) (i : ∀ v σ H Q, u v σ H Q → t v σ H Q) : PGs X e u := ⟨fun pins s σ H v w Q I r q => h.run pins s σ H v w Q I r (i v σ H Q q)⟩
theorem At.set {K : PySem.W.Frag} {g : G} {S : Addr → Prop} {H : Hp} {σ : St} {η : Env} {s : DS} {v : V} {d : D} {i : Nat} (a : At K g S H σ η s) (r : Dq g S H v d) : At K g S H (σ.set i (some v)) (η.set i (some d)) s :=
  ⟨a.gK, a.sok, fun j e h => by
    by_cases q : i = j
    · subst q
      by_cases l : i < η.length
      · rw [List.getElem?_set_self l] at h
        cases h
        exact ⟨v, by rw [List.getElem?_set_self (by rw [a.len]; exact l)], r⟩
      · rw [List.getElem?_eq_none (by rw [List.length_set]; omega)] at h
        cases h
    · rw [List.getElem?_set_ne q] at h
      rw [List.getElem?_set_ne q]
      exact a.rep j e h, a.ok, by rw [List.length_set, List.length_set, a.len]⟩
section
variable {X : Cx} {pos : Pos}
def gN (i : Nat) : GV := fun d η => some (η.set i (some d))
theorem g_name {x : Str} (i : Nat) (hN : X.N.Nodup) (hi : X.N[i]? = some x := by rfl) (hx : Loc X.env.scope x := by first | exact .inl rfl | exact .inr rfl) (hf : X.fn x = true ∨ X.env.scope.names.lookup x = some .local := by first | exact .inl rfl | exact .inr rfl) : PGD X [i] (.Name x pos) (gN i) :=
  ⟨(pg_name hN hi hx hf).con fun v σ H Q ⟨g, S, η, s, d, η', at_, r, e, q⟩ => by
    cases e
    exact q _ Off.set (at_.set r), ⟨fun O h d η η' e => by
    cases e
    unfold gN
    rw [wipeE_set (h i (List.mem_singleton.mpr rfl))], fun d η η' e j h => by
    cases e
    exact List.getElem?_set_ne fun z => h (List.mem_singleton.mpr z.symm)⟩⟩
def gNl : GVs := fun ds η => if ds.isEmpty = true then some η else none
def gCn (f : GV) (h : GVs) : GVs := fun ds η => match ds with
  | d :: r => (f d η).bind (h r)
  | [] => none
def gTp (f : GVs) : GV := fun d η => match d with
  | .tuple ds => f ds η
  | _ => none
theorem g_nil : PGsD X [] [] gNl := ⟨(pgs_nil.con fun vs σ H Q ⟨g, S, η, s, ds, η', at_, r, e, q⟩ => by
  unfold gNl at e
  split at e
  · cases e
    cases r with
    | nil => exact ⟨rfl, q σ .refl at_⟩
    | cons _ _ => rename_i h; cases h
  · cases e), ⟨fun O h d η η' e => by
    unfold gNl at e ⊢
    split at e
    · cases e
      rw [if_pos (by assumption)]
    · (cases e), fun d η η' e j h => by
    unfold gNl at e
    split at e
    · cases e; rfl
    · cases e⟩⟩
theorem g_cons {e : Expr} {es : List Expr} {us vs : List Nat} {f : GV} {h : GVs} (h1 : PGD X us e f) (h2 : PGsD X vs es h) (hs : (assignEach (e :: es) X.env).map (·.2) = assign e X.env :: (assignEach es X.env).map (·.2) := by rfl) : PGsD X (us ++ vs) (e :: es) (gCn f h) :=
  ⟨(pgs_cons h1.pg h2.pg hs).con fun xs σ H Q ⟨g, S, η, s, ds, η', at_, r, e, q⟩ => by
    unfold gCn at e
    cases r with
    | nil => cases e
    | cons r rs =>
      obtain ⟨η1, e1, e2⟩ := Option.bind_eq_some_iff.mp e
      exact ⟨_, _, rfl, g, S, η, s, _, η1, at_, r, e1, fun σ1 o1 at1 => ⟨g, S, η1, s, _, η', at1, rs, e2, fun σ2 o2 at2 => q σ2 ((o1.mono fun i h => List.mem_append_left _ h).trans (o2.mono fun i h => List.mem_append_right _ h)) at2⟩⟩, ⟨fun O hO ds η η' e => by
    unfold gCn at e ⊢
    cases ds with
    | nil => cases e
    | cons d r =>
      obtain ⟨η1, e1, e2⟩ := Option.bind_eq_some_iff.mp e
      have a1 := h1.gok.wp O (fun i hi => hO i (List.mem_append_left _ hi)) _ _ _ e1
      have a2 := h2.gok.wp O (fun i hi => hO i (List.mem_append_right _ hi)) _ _ _ e2
      show (f d (wipeE η O)).bind (h r) = _
      rw [a1]
      exact a2, fun ds η η' e j hj => by
    unfold gCn at e
    cases ds with
    | nil => cases e
    | cons d r =>
      obtain ⟨η1, e1, e2⟩ := Option.bind_eq_some_iff.mp e
      rw [h2.gok.off _ _ _ e2 j fun z => hj (List.mem_append_right _ z), h1.gok.off _ _ _ e1 j fun z => hj (List.mem_append_left _ z)]⟩⟩
theorem g_tup {es : List Expr} {k : Nat} {vs : List Nat} {f : GVs} {n : Nat} (hc : X.calm = true) (hf : ∀ ds η η', f ds η = some η' → ds.length = n) (h : PGsD X vs es f)
    (hn : (assignEach es X.env).length = n := by rfl) (hst : (assignEach es X.env).findIdx? (·.1) = none := by rfl) : PGD X vs (.Tuple es k pos) (gTp f) :=
  ⟨((pg_tup hc h.pg hn hst).con fun v σ H Q ⟨g, S, η, s, d, η', at_, r, e, q⟩ => by
    unfold gTp at e
    split at e
    · cases r with
      | tup e1 r1 => exact ⟨_, _, rfl, at_.gK ▸ e1.seqT, by rw [r1.length]; exact hf _ _ _ e, g, S, η, s, _, η', at_, r1, e, q⟩
    · cases e), ⟨fun O hO d η η' e => by
    unfold gTp at e ⊢
    split at e
    · exact h.gok.wp O hO _ _ _ e
    · (cases e), fun d η η' e j hj => by
    unfold gTp at e
    split at e
    · exact h.gok.off _ _ _ e j hj
    · cases e⟩⟩
theorem gNl_len {ds : List D} {η η' : Env} (h : gNl ds η = some η') : ds.length = 0 := by
  unfold gNl at h
  split at h
  · rename_i e
    rw [List.isEmpty_iff] at e
    rw [e]; rfl
  · cases h
theorem gCn_len {f : GV} {h : GVs} {n : Nat} (hh : ∀ ds η η', h ds η = some η' → ds.length = n) {ds : List D} {η η' : Env} (e : gCn f h ds η = some η') : ds.length = n + 1 := by
  unfold gCn at e
  split at e
  · obtain ⟨η1, e1, e2⟩ := Option.bind_eq_some_iff.mp e
    rw [List.length_cons, hh _ _ _ e2]
  · cases e
/-- (a, b) -/
theorem g_tup2 {e1 e2 : Expr} {k : Nat} {u1 u2 : List Nat} {f1 f2 : GV} (hc : X.calm = true) (h1 : PGD X u1 e1 f1) (h2 : PGD X u2 e2 f2) (hs : (assignEach [e1, e2] X.env).map (·.2) = assign e1 X.env :: (assignEach [e2] X.env).map (·.2) := by rfl)
    (hs2 : (assignEach [e2] X.env).map (·.2) = assign e2 X.env :: (assignEach [] X.env).map (·.2) := by rfl)
    (hn : (assignEach [e1, e2] X.env).length = 2 := by rfl) (hst : (assignEach [e1, e2] X.env).findIdx? (·.1) = none := by rfl) : PGD X (u1 ++ (u2 ++ [])) (.Tuple [e1, e2] k pos) (gTp (gCn f1 (gCn f2 gNl))) :=
  g_tup hc (fun _ _ _ e => gCn_len (fun _ _ _ e => gCn_len (fun _ _ _ e => gNl_len e) e) e) (g_cons h1 (g_cons h2 g_nil hs2) hs) hn hst
theorem g_tup3 {e1 e2 e3 : Expr} {k : Nat} {u1 u2 u3 : List Nat} {f1 f2 f3 : GV} (hc : X.calm = true) (h1 : PGD X u1 e1 f1) (h2 : PGD X u2 e2 f2) (h3 : PGD X u3 e3 f3) (hs : (assignEach [e1, e2, e3] X.env).map (·.2) = assign e1 X.env :: (assignEach [e2, e3] X.env).map (·.2) := by rfl)
    (hs2 : (assignEach [e2, e3] X.env).map (·.2) = assign e2 X.env :: (assignEach [e3] X.env).map (·.2) := by rfl) (hs3 : (assignEach [e3] X.env).map (·.2) = assign e3 X.env :: (assignEach [] X.env).map (·.2) := by rfl)
    (hn : (assignEach [e1, e2, e3] X.env).length = 3 := by rfl) (hst : (assignEach [e1, e2, e3] X.env).findIdx? (·.1) = none := by rfl) : PGD X (u1 ++ (u2 ++ (u3 ++ []))) (.Tuple [e1, e2, e3] k pos) (gTp (gCn f1 (gCn f2 (gCn f3 gNl)))) :=
  g_tup hc (fun _ _ _ e => gCn_len (fun _ _ _ e => gCn_len (fun _ _ _ e => gCn_len (fun _ _ _ e => gNl_len e) e) e) e) (g_cons h1 (g_cons h2 (g_cons h3 g_nil hs3) hs2) hs) hn hst
end
end W3

set_option Elab.async false
set_option linter.all false
set_option maxRecDepth 100000
set_option maxHeartbeats 4000000
/-! W3g: list comprehensions. -/
namespace W3
open PySem PySem.Spec L2

def WN : WW := fun _ _ _ => False
def WF : XW := fun _ => WN
def noExc {α : Type} (m : M α) : M α := fun s => match m s with
  | .ok x s' => .ok x s'
  | .exc _ _ _ => .bad
  | .bad => .bad
theorem noExc_ret {α : Type} (x : α) : noExc (M.ret x) = M.ret x := rfl
theorem noExc_bad {α : Type} : noExc (M.bad : M α) = M.bad := rfl
theorem noExc_lift {α : Type} (o : Option α) : noExc (M.lift o) = M.lift o := by
  funext s; cases o <;> rfl
theorem noExc_bind {α β : Type} (m : M α) (k : α → M β) : noExc (M.bind m k) = M.bind (noExc m) fun x => noExc (k x) := by
  funext s
  show noExc (fun s => match m s with | .ok x s' => k x s' | .exc c p s' => .exc c p s' | .bad => .bad) s = _
  unfold noExc M.bind
  try dsimp only
  cases m s <;> rfl
section
variable {g : G} {S S' : Addr → Prop} {H H' H1 : Hp} {s s' : DS} {W : WW} {α β γ : Type}
theorem Res.bind0 {m : M α} {k : α → M β} {Q : β → Hp → DS → Prop} (h : Res W g H (M.bind m k s) Q) : Res W g H (m s) fun x H' s' => Res W g H (k x s') Q := by
  unfold M.bind at h
  cases q : m s with
  | ok x s' =>
    rw [q] at h
    exact fun H' e _ => h
  | exc c p s' =>
    rw [q] at h
    exact h
  | bad =>
    rw [q] at h
    exact h
/-- first m without exceptions -/
theorem Res.nx {m : M α} {k : α → M β} {f : β → M γ} {Q : γ → Hp → DS → Prop} (h : Res W g H (M.bind (noExc (M.bind m k)) f s) Q) : Res WN g H (m s) fun x H' s' => Res W g H (M.bind (noExc (k x)) f s') Q := by
  rw [noExc_bind, bind_assoc] at h
  unfold M.bind noExc at h
  try dsimp only at h
  cases q : m s with
  | ok x s' =>
    rw [q] at h
    exact fun H' e _ => h
  | exc c p s' =>
    rw [q] at h
    exact h.elim
  | bad =>
    rw [q] at h
    exact h.elim
theorem Res.bd {m : M α} {f : α → M γ} {Q : γ → Hp → DS → Prop} (h : Res W g H (M.bind (noExc m) f s) Q) : ∃ x s', m s = .ok x s' ∧ Res W g H (f x s') Q := by
  unfold M.bind noExc at h
  try dsimp only at h
  cases q : m s with
  | ok x s' =>
    rw [q] at h
    exact ⟨x, s', rfl, h⟩
  | exc c p s' =>
    rw [q] at h
    exact h.elim
  | bad =>
    rw [q] at h
    exact h.elim
theorem Ok.upd {D : Addr} {xs ys : List V} (k : Ok g H s) (hD : H D = some (.lst xs)) (ne : ∀ a, g.st = some a → a ≠ D ∧ g.sc ≠ D) : Ok g (upd H D (.lst ys)) s :=
  ⟨fun a e => let ⟨x, y, z⟩ := k.st a e; ⟨by rw [upd_ne (ne a e).1]; exact x, by rw [upd_ne (ne a e).2]; exact y, z⟩, fun P hP => let ⟨ps, e, t⟩ := k.tabs P hP; ⟨ps, by rw [upd_ne (fun z => by rw [z, hD] at e; cases e)]; exact e, t⟩⟩
theorem Ok.updN {D : Addr} {ys : List V} (k : Ok g H s) (hD : H D = none) : Ok g (L2.upd H D (.lst ys)) s :=
  ⟨fun a e => let ⟨x, y, z⟩ := k.st a e; ⟨by rw [upd_ne (ne_of_none x hD)]; exact x, by rw [upd_ne (ne_of_none y hD)]; exact y, z⟩, fun P hP => let ⟨ps, e, t⟩ := k.tabs P hP; ⟨ps, by rw [upd_ne (ne_of_none e hD)]; exact e, t⟩⟩
theorem Ok.ne {D : Addr} (k : Ok g H s) (hD : H D = none) : ∀ a, g.st = some a → a ≠ D ∧ g.sc ≠ D := fun a e => let ⟨x, y, _⟩ := k.st a e; ⟨ne_of_none x hD, ne_of_none y hD⟩
theorem Pres.upd {D : Addr} {o : HO} {xs : List V} (hS : S D) (hD : H D = some (.lst xs)) : Pres S H (upd H D o) :=
  ⟨fun b u e n _ => by rw [upd_ne (fun z => n (by rw [z]; exact hS))]; exact e, fun b ps e => ⟨#[], by rw [upd_ne (fun z => by rw [z, hD] at e; cases e), e]; simp⟩⟩
theorem SOk.upd {D : Addr} {ys : List V} (k : SOk g S H) : SOk g S (upd H D (.lst ys)) := ⟨k.st, fun a h => by
  by_cases e : a = D
  · subst e
    exact ⟨_, upd_same, .lst⟩
  · obtain ⟨o, q, m⟩ := k.trk a h
    exact ⟨o, by rw [upd_ne e]; exact q, m⟩⟩
theorem RepV.pres {σ : St} {η : Env} (hm : ∀ a o, S a → H a = some o → Mu o) (p : Pres S H H') (r : RepV g S H σ η) : RepV g S H' σ η := fun i d h => let ⟨v, h1, h2⟩ := r i d h; ⟨v, h1, h2.pres hm p⟩
/-- a list of ours is written -/
theorem At.upd {K : PySem.W.Frag} {σ : St} {η : Env} {D : Addr} {xs ys : List V} (a : At K g S H σ η s) (hS : S D) (hD : H D = some (.lst xs)) (ne : ∀ a, g.st = some a → a ≠ D ∧ g.sc ≠ D) : At K g S (L2.upd H D (.lst ys)) σ η s :=
  ⟨a.gK, a.sok.upd, a.rep.pres a.sok.mu (.upd hS hD), a.ok.upd hD ne, a.len⟩
theorem Ext.updN {D : Addr} {o : HO} (e : Ext g H H') (hD : H D = none) (hs : ∀ a, g.st = some a → ∃ xs, H a = some (.lst xs)) : Ext g H (L2.upd H' D o) :=
  ⟨fun b u q n t => by rw [upd_ne (ne_of_none q hD)]; exact e.keep b u q n t, fun b ps q => by rw [upd_ne (ne_of_none q hD)]; exact e.tab b ps q, fun a q h => by
    obtain ⟨xs, z⟩ := h
    rw [upd_ne (ne_of_none z hD)]
    exact e.sta a q ⟨xs, z⟩⟩
end

/-! ### tests of a comprehension -/
structure PTsD (X : Cx) (W : XW) (ifs : List Expr) (f : BV) : Prop where
  pt : PTs X ifs (tDT X.K W f)
def bYes : BV := fun _ => M.ret true
theorem ts_nil {X : Cx} {W : XW} : PTsD X W [] bYes := ⟨⟨fun _ _ _ H _ I ⟨g, S, η, s, a, q⟩ => wpAny_tests_nil ⟨H, I, Res.here q a.ok⟩⟩⟩
theorem ts_one {X : Cx} {W : XW} {c : Expr} {f : BV} (h : PTD X W c f) : PTsD X W [c] f := ⟨pts_one h.pt⟩

/-! ### one clause -/
theorem RepV.wipe {g : G} {S : Addr → Prop} {H : Hp} {σ : St} {η : Env} (r : RepV g S H σ η) (hl : σ.length = η.length) : ∀ vs : List Nat, RepV g S H (L2.wipe σ vs) (wipeE η vs)
  | [] => r
  | v :: vs => fun i d h => by
    unfold wipeE at h
    unfold L2.wipe
    by_cases e : v = i
    · subst e
      by_cases l : v < (wipeE η vs).length
      · rw [List.getElem?_set_self l] at h; cases h
      · rw [List.getElem?_eq_none (by rw [List.length_set]; omega)] at h; cases h
    · rw [List.getElem?_set_ne e] at h ⊢
      exact RepV.wipe r hl vs i d h
theorem At.wipe {K : PySem.W.Frag} {g : G} {S : Addr → Prop} {H : Hp} {σ : St} {η : Env} {s : DS} (a : At K g S H σ η s) (vs : List Nat) : At K g S H (L2.wipe σ vs) (wipeE η vs) s :=
  ⟨a.gK, a.sok, a.rep.wipe a.len vs, a.ok, by rw [wipe_length, wipeE_length]; exact a.len⟩
theorem Off.ofwipe {σ : St} (vs : List Nat) : Off vs σ (L2.wipe σ vs) := ⟨wipe_length σ vs, fun _ h => wipe_out h⟩
def lcM (f : GV) (t : BV) (e : EV) (η : Env) : List D → M (List D)
  | [] => M.ret []
  | d :: ds => match f d η with
    | none => M.bad
    | some η1 => M.bind (t η1) fun b => if b = true then M.bind (e η1) fun y => M.bind (lcM f t e η ds) fun r => M.ret (y :: r) else lcM f t e η ds
def finL (r : List D) : M D := M.lift (if r.length ≤ sizeLine then some (PyData.list r) else none)
def eLc (src : IV) (f : GV) (t : BV) (e : EV) (vs : List Nat) : EV := fun η => M.bind (src η) fun ds => M.bind (noExc (lcM f t e (wipeE η vs) ds)) finL

structure LcSt (K : PySem.W.Frag) (g : G) (S : Addr → Prop) (D : Addr) (H : Hp) (σ : St) (η : Env) (s : DS) (acc : List V) (accd : List PyData) : Prop where
  here : H D = some (.lst acc)
  all : DqAll g S H acc accd
  at_ : At K g S H σ η s
theorem LcSt.ext {K : PySem.W.Frag} {g : G} {S : Addr → Prop} {D : Addr} {H H' : Hp} {σ : St} {η : Env} {s s' : DS} {acc : List V} {accd : List PyData} (l : LcSt K g S D H σ η s acc accd) (ne : ∀ a, g.st = some a → a ≠ D ∧ g.sc ≠ D) (e : Ext g H H') (k : Ok g H' s') : LcSt K g S D H' σ η s' acc accd :=
  ⟨e.keep _ _ l.here (fun z => (ne D z.symm).1 rfl) (fun _ z => by cases z), l.all.ext l.at_.sok.st l.at_.ok.stl e, l.at_.ext e k⟩
theorem LcSt.push {K : PySem.W.Frag} {g : G} {S : Addr → Prop} {D : Addr} {H : Hp} {σ : St} {η : Env} {s : DS} {acc : List V} {accd : List PyData} {v : V} {d : PyData} (l : LcSt K g S D H σ η s acc accd) (hS : S D) (ne : ∀ a, g.st = some a → a ≠ D ∧ g.sc ≠ D) (r : Dq g S H v d) :
    LcSt K g S D (upd H D (.lst (acc ++ [v]))) σ η s (acc ++ [v]) (accd ++ [d]) :=
  ⟨upd_same, (l.all.append (.cons r .nil)).pres l.at_.sok.mu (.upd hS l.here), l.at_.upd hS l.here ne⟩

/-- the loop of a comprehension: J gives ds; what the block's parts are to reach -/
theorem lc_W {K : PySem.W.Frag} {g : G} {S : Addr → Prop} {D : Addr} {H0 H1 : Hp} {σw : St} {η0 : Env} {s0 : DS} {acc0 : List V} {accd0 ds : List PyData} {J : It} {vs us : List Nat} {f : GV} {t : BV} {e : EV} {W : WW} {kk : List PyData → M PyData} {Q : PyData → Hp → DS → Prop} {FIN : Hp → Prop}
    (hu : ∀ i ∈ us, i ∈ vs) (hw : wipe σw vs = σw) (hJ : Yields g S J ds H1) (hS : S D) (ne : ∀ a, g.st = some a → a ≠ D ∧ g.sc ≠ D) (l0 : LcSt K g S D H1 σw η0 s0 acc0 accd0) (e0 : Ext g H0 H1) (n0 : H0 D = none) (s0l : ∀ a, g.st = some a → ∃ xs, H0 a = some (.lst xs))
    (hq : Res W g H0 (M.bind (noExc (lcM f t e η0 ds)) (fun r => kk (accd0 ++ r)) s0) Q) (hk : ∀ l s, Res W g H0 (kk l s) Q → l.length ≤ sizeLine)
    (fin : ∀ H s acc accd, LcSt K g S D H σw η0 s acc accd → Ext g H0 H → Pres S H1 H → Res W g H0 (kk accd s) Q → FIN H) :
    ∃ Wv : Nat → Nat → Hp → Prop, (∃ m, Wv 0 m H1) ∧ ∀ i m H, Wv i m H →
      (J.stop i H ∧ FIN H) ∨ (J.go i H ∧ ∃ Nx : Hp → Prop, (∀ H', Nx H' → ∃ m', m' < m ∧ Wv (i + 1) m' H') ∧ ∀ x H', J.yld i H x H' → tG K us f x σw H' fun σ2 H2 => wipe σ2 vs = σw ∧ tDT K WF t σ2 H2 fun b H3 =>
        if b = true then tD K WF e σ2 H3 fun y H4 => ∃ acc, H4 D = some (.lst acc) ∧ acc.length < sizeLine ∧ Nx (upd H4 D (.lst (acc ++ [y]))) else Nx H3) := by
  let Wv : Nat → Nat → Hp → Prop := fun i m H => m = ds.length - i ∧ i ≤ ds.length ∧ ∃ s acc accd, LcSt K g S D H σw η0 s acc accd ∧ Ext g H0 H ∧ Pres S H1 H ∧ Res W g H0 (M.bind (noExc (lcM f t e η0 (ds.drop i))) (fun r => kk (accd ++ r)) s) Q
  refine ⟨Wv, ⟨ds.length, by simp, Nat.zero_le _, s0, acc0, accd0, l0, e0, .refl, hq⟩, fun i m H w => ?_⟩
  obtain ⟨hm, hi, s, acc, accd, l, e1, p1, q⟩ := w
  obtain ⟨y1, y2⟩ := hJ S (fun a h => .inl h) i H p1
  by_cases hlt : i < ds.length
  · have hx : ds[i]? = some ds[i] := List.getElem?_eq_getElem hlt
    obtain ⟨go, yld⟩ := y1 _ hx
    refine .inr ⟨go, fun H' => Wv (i + 1) (ds.length - (i + 1)) H', fun H' h => ⟨_, by omega, h⟩, fun x H' y => ?_⟩
    obtain ⟨sm, rx⟩ := yld x H' y
    have at2 := l.at_.ext (Ext.same sm) (l.at_.ok.same sm)
    have l2 := l.ext ne (Ext.same sm) (l.at_.ok.same sm)
    rw [List.drop_eq_getElem_cons hlt] at q
    unfold lcM at q
    cases hf : f ds[i] η0 with
    | none =>
      rw [hf] at q
      exact q.elim
    | some η1 =>
      rw [hf] at q
      have e2 := e1.trans (Ext.same sm)
      refine ⟨g, S, η0, s, ds[i], η1, at2, rx, hf, fun σ2 o2 at3 => ⟨(o2.mono hu).wipe.trans hw, tDT.mk at3 (((Res.nx q).ext e2).imp fun b H3 s3 e3 k3 q3 at4 => ?_)⟩⟩
      have l3 := l2.ext ne e3 k3
      have e13 : Ext g H0 H3 := (e1.trans (Ext.same sm)).trans e3
      have p13 : Pres S H1 H3 := (p1.trans (Pres.same sm)).trans (e3.pres l2.at_.sok.st)
      split
      · rename_i hb
        rw [if_pos hb] at q3
        refine tD.mk at4 (((Res.nx q3).ext e13).imp fun d H4 s4 e4 k4 q4 v at5 rv => ?_)
        have l4 := l3.ext ne e4 k4
        rw [noExc_bind, bind_assoc] at q4
        have q5 : Res W g H0 (M.bind (noExc (lcM f t e η0 (ds.drop (i + 1)))) (fun r => kk ((accd ++ [d]) ++ r)) s4) Q := by
          have ee : (fun r => kk (accd ++ [d] ++ r)) = fun x => M.bind (noExc (M.ret (d :: x))) fun r => kk (accd ++ r) := by
            funext r
            rw [List.append_assoc]
            rfl
          rw [ee]
          exact q4
        obtain ⟨r, s5, _, q6⟩ := Res.bd q5
        have hz := hk _ _ q6
        have hl := l4.all.length
        have hz' : acc.length < sizeLine := by
          have : accd.length + (r.length + 1) ≤ sizeLine := by simpa [Nat.add_assoc] using hz
          omega
        have l5 := l4.push hS ne rv
        have e14 : Ext g H0 H4 := e13.trans e4
        refine ⟨acc, l4.here, hz', rfl, hlt, s4, _, _, l5, e14.updN n0 s0l, (p13.trans (e4.pres l3.at_.sok.st)).trans (.upd hS l4.here), q5⟩
      · rename_i hb
        rw [if_neg hb] at q3
        exact ⟨rfl, hlt, s3, _, _, l3, e13, p13, q3⟩
  · have e : i = ds.length := by omega
    subst e
    refine .inl ⟨y2 (Nat.le_refl _), fin H s acc accd l e1 p1 ?_⟩
    rw [List.drop_length] at q
    have q' : Res W g H0 (kk (accd ++ []) s) Q := q
    rw [List.append_nil] at q'
    exact q'
theorem finL_le {W : WW} {g : G} {H0 : Hp} {Q : D → Hp → DS → Prop} {l : List D} {s : DS} (h : Res W g H0 (finL l s) Q) : l.length ≤ sizeLine := by
  obtain ⟨x, hx, _⟩ := Res.lift h
  split at hx
  · assumption
  · cases hx
section
variable {X : Cx} {W : XW}
/-- S with one more -/
def plus (S : Addr → Prop) (D : Addr) : Addr → Prop := fun a => S a ∨ a = D
theorem plus_av {S : Addr → Prop} {H : Hp} {D : Addr} (hD : H D = none) : ∀ b, W3.plus S D b → S b ∨ H b = none := fun b h => h.elim .inl fun z => .inr (by rw [z]; exact hD)
theorem plus_mu {g : G} {S : Addr → Prop} {H : Hp} {D : Addr} (k : SOk g S H) (hD : H D = none) : ∀ a o, W3.plus S D a → H a = some o → Mu o := fun a o h e => h.elim (fun z => k.mu a o z e) fun z => by rw [z, hD] at e; cases e
theorem plus_pres {S : Addr → Prop} {H : Hp} {D : Addr} (hD : H D = none) {o : HO} : Pres (W3.plus S D) H (L2.upd H D o) := ⟨fun b u e n _ => by rw [upd_ne (fun z => n (.inr z))]; exact e, fun b ps e => ⟨#[], by rw [upd_ne (ne_of_none e hD), e]; simp⟩⟩
theorem At.plus {K : PySem.W.Frag} {g : G} {S : Addr → Prop} {H : Hp} {σ : St} {η : Env} {s : DS} {D : Addr} (a : At K g S H σ η s) (hD : H D = none) (ys : List V) : At K g (W3.plus S D) (L2.upd H D (.lst ys)) σ η s := by
  refine ⟨a.gK, ⟨fun b h => .inl (a.sok.st b h), fun b h => ?_⟩, fun i d h => ?_, a.ok.updN hD, a.len⟩
  · by_cases e : b = D
    · subst e
      exact ⟨_, upd_same, .lst⟩
    · obtain ⟨o, q, m⟩ := a.sok.trk b (h.resolve_right e)
      exact ⟨o, by rw [upd_ne e]; exact q, m⟩
  · obtain ⟨v, h1, h2⟩ := a.rep i d h
    exact ⟨v, h1, (h2.av (plus_av hD)).pres (plus_mu a.sok hD) (plus_pres hD)⟩
theorem not_S {g : G} {S : Addr → Prop} {H : Hp} {D : Addr} (k : SOk g S H) (hD : H D = none) : ¬ S D := fun h => by
  obtain ⟨o, q, _⟩ := k.trk D h
  rw [hD] at q; cases q
theorem Yields.plus {g : G} {S : Addr → Prop} {J : It} {ds : List D} {H : Hp} {D : Addr} {o : HO} (y : Yields g S J ds H) (hD : H D = none) : Yields g (W3.plus S D) J ds (L2.upd H D o) := fun S2 h2 i H1 p => by
  have h2' : ∀ a, S2 a → S a ∨ H a = none := fun a h => (h2 a h).elim (fun z => plus_av hD a z) fun z => by
    by_cases e : a = D
    · exact .inr (by rw [e]; exact hD)
    · rw [upd_ne e] at z
      exact .inr z
  have p' : Pres (W3.plus S2 D) H H1 := ⟨fun b u e n t => p.keep b u (by rw [upd_ne (ne_of_none e hD)]; exact e) (fun z => n (.inl z)) t, fun b ps e => p.tab b ps (by rw [upd_ne (ne_of_none e hD)]; exact e)⟩
  obtain ⟨y1, y2⟩ := y (W3.plus S2 D) (fun a h => h.elim (h2' a) fun z => .inr (by rw [z]; exact hD)) i H1 p'
  refine ⟨fun d hd => ?_, y2⟩
  obtain ⟨a1, a2⟩ := y1 d hd
  exact ⟨a1, fun x H2 h => ⟨(a2 x H2 h).1, (a2 x H2 h).2.anti fun a z => .inl z⟩⟩
/-- what a block asks of its parts -/
abbrev Blk (X : Cx) (scope : Scope) (P : Cx → Prop) : Prop := ∀ (s : Shared) (H : Hp) (C : Addr) (cl : List (Str × Addr)) (fp : List Addr), P (X.blk s H scope (compEnvC scope cl C X.env) fp)
theorem lc_bridge {W : WW} {K : PySem.W.Frag} {g : G} {S : Addr → Prop} {σ : St} {H1 : Hp} {η : Env} {s1 : DS} {f : GV} {t : BV} {e : EV} {vs us : List Nat} {ds : List PyData} {J : It} {Q : VK} (hu : ∀ i ∈ us, i ∈ vs) (at1 : At K g S H1 σ η s1) (hJ : Yields g S J ds H1)
    (q : Res W g H1 (M.bind (noExc (lcM f t e (wipeE η vs) ds)) finL s1) fun d H' _ => ∀ v, Dq g S H' v d → Q v H') :
    ∀ D, H1 D = none → ∃ W : Nat → Nat → Hp → Prop, (∃ m, W 0 m (upd H1 D (.lst []))) ∧ ∀ i m H, W i m H →
      (J.stop i H ∧ Q (.ref D) H) ∨ (J.go i H ∧ ∃ Nx : Hp → Prop, (∀ H', Nx H' → ∃ m', m' < m ∧ W (i + 1) m' H') ∧ ∀ x H', J.yld i H x H' → tG K us f x (wipe σ vs) H' fun σ2 H2 => wipe σ2 vs = wipe σ vs ∧ tDT K WF t σ2 H2 fun b H3 =>
        if b = true then tD K WF e σ2 H3 fun y H4 => ∃ acc, H4 D = some (.lst acc) ∧ acc.length < sizeLine ∧ Nx (upd H4 D (.lst (acc ++ [y]))) else Nx H3) := fun D hD => by
  have ne := at1.ok.ne hD
  exact lc_W (FIN := fun H => Q (.ref D) H) (accd0 := []) (kk := finL) hu ((Off.ofwipe vs).wipe) (hJ.plus (o := .lst []) hD) (.inr rfl) ne ⟨upd_same, .nil, (at1.plus hD []).wipe vs⟩ (Ext.same (same_upd hD)) hD at1.ok.stl q (fun l s h => finL_le h) fun H s acc accd l e1 _ q1 => by
    obtain ⟨z, hz, q2⟩ := Res.lift q1
    split at hz
    · cases hz
      exact q2 H e1 l.at_.ok (.ref D) (.lst (not_S at1.sok hD) l.here (l.all.anti fun a h => .inl h))
    · cases hz
/-- [elt for tg in iter if ..] -/
theorem d_lc {elt tg iter : Expr} {ifs : List Expr} {scope : Scope} {own : List (Str × Nat)} {pos : Pos} {src : IV} {f : GV} {t : BV} {e : EV} {us : List Nat} (hc : X.calm = true) (hN : X.N.Nodup) (ok : BlkOk X.N X.env.scope scope own) (hu : ∀ i ∈ us, i ∈ own.map (·.2)) (hi : PID X W tg iter src)
    (hg : Blk X scope fun Y => PGD Y us tg f) (ht : Blk X scope fun Y => PTsD Y WF ifs t) (he : Blk X scope fun Y => PED Y WF elt e) (hs : ∀ x, foldedSetIterable iter X.env x = pure x := by intro _; rfl) :
    PED X W (.ListComp elt [⟨tg, iter, ifs, 0⟩] scope pos) (eLc src f t e (own.map (·.2))) := ⟨(pe_lc hc hN hi.pi ok (fun s H C cl fp => (hg s H C cl fp).pg) (fun s H C cl fp => (ht s H C cl fp).pt) (fun s H C cl fp => (he s H C cl fp).pe) hs).con fun σ H Q ⟨g, S, η, s, at_, q⟩ =>
  ⟨g, S, η, s, at_, (Res.bind q).imp fun ds H1 s1 e1 k1 q1 J hJ => lc_bridge hu (at_.ext e1 k1) hJ q1⟩⟩
/-! ### two clauses -/
def lc2M (f : GV) (t : BV) (src1 : IV) (f1 : GV) (t1 : BV) (e : EV) (vs1 : List Nat) (η : Env) : List D → M (List D)
  | [] => M.ret []
  | d :: ds => match f d η with
    | none => M.bad
    | some η1 => M.bind (t η1) fun b => if b = true then M.bind (src1 η1) fun ds1 => M.bind (lcM f1 t1 e (wipeE η1 vs1) ds1) fun r1 => M.bind (lc2M f t src1 f1 t1 e vs1 η ds) fun r => M.ret (r1 ++ r) else lc2M f t src1 f1 t1 e vs1 η ds
def eLc2 (src : IV) (f : GV) (t : BV) (src1 : IV) (f1 : GV) (t1 : BV) (e : EV) (vs vs1 : List Nat) : EV := fun η => M.bind (src η) fun ds => M.bind (noExc (lc2M f t src1 f1 t1 e vs1 (wipeE η vs) ds)) finL
theorem kk_le {W : WW} {g : G} {H0 : Hp} {Q : D → Hp → DS → Prop} {m : M (List D)} {l : List D} {s : DS} (h : Res W g H0 (M.bind (noExc m) (fun r => finL (l ++ r)) s) Q) : l.length ≤ sizeLine := by
  obtain ⟨r, s', _, h⟩ := Res.bd h
  have := finL_le h
  rw [List.length_append] at this
  omega
theorem lc2_bridge {W : WW} {K : PySem.W.Frag} {g : G} {S : Addr → Prop} {σ : St} {H1 : Hp} {η : Env} {s1 : DS} {f f1 : GV} {t t1 : BV} {src1 : IV} {e : EV} {vs us vs1 us1 : List Nat} {ds : List PyData} {J : It} {Q : VK} (hu : ∀ i ∈ us, i ∈ vs) (hu1 : ∀ i ∈ us1, i ∈ vs1) (at1 : At K g S H1 σ η s1) (hJ : Yields g S J ds H1)
    (q : Res W g H1 (M.bind (noExc (lc2M f t src1 f1 t1 e vs1 (wipeE η vs) ds)) finL s1) fun d H' _ => ∀ v, Dq g S H' v d → Q v H') :
    ∀ D, H1 D = none → ∃ W : Nat → Nat → Hp → Prop, (∃ m, W 0 m (upd H1 D (.lst []))) ∧ ∀ i m H, W i m H →
      (J.stop i H ∧ Q (.ref D) H) ∨ (J.go i H ∧ ∃ Nx : Hp → Prop, (∀ H', Nx H' → ∃ m', m' < m ∧ W (i + 1) m' H') ∧ ∀ x H', J.yld i H x H' → tG K us f x (wipe σ vs) H' fun σ2 H2 => wipe σ2 vs = wipe σ vs ∧ tDT K WF t σ2 H2 fun b H3 =>
        if b = true then tI K WF src1 σ2 H3 fun J1 H4 => ∃ W1 : Nat → Nat → Hp → Prop, (∃ m, W1 0 m H4) ∧ ∀ j k H, W1 j k H →
          (J1.stop j H ∧ Nx H) ∨ (J1.go j H ∧ ∃ Nx1 : Hp → Prop, (∀ H', Nx1 H' → ∃ k', k' < k ∧ W1 (j + 1) k' H') ∧ ∀ x H', J1.yld j H x H' → tG K us1 f1 x (wipe σ2 vs1) H' fun σ3 H5 => wipe σ3 vs1 = wipe σ2 vs1 ∧ tDT K WF t1 σ3 H5 fun b H6 =>
            if b = true then tD K WF e σ3 H6 fun y H7 => ∃ acc, H7 D = some (.lst acc) ∧ acc.length < sizeLine ∧ Nx1 (upd H7 D (.lst (acc ++ [y]))) else Nx1 H6)
        else Nx H3) := fun D hD => by
  have ne := at1.ok.ne hD
  have ww : wipe (wipe σ vs) vs = wipe σ vs := (Off.ofwipe vs).wipe
  have hJ1 := hJ.plus (o := .lst []) hD
  have atS := (at1.plus hD []).wipe vs
  have hS : plus S D D := .inr rfl
  let Wv : Nat → Nat → Hp → Prop := fun i m H => m = ds.length - i ∧ i ≤ ds.length ∧ ∃ s acc accd, LcSt K g (plus S D) D H (wipe σ vs) (wipeE η vs) s acc accd ∧ Ext g H1 H ∧ Pres (plus S D) (upd H1 D (.lst [])) H ∧ Res W g H1 (M.bind (noExc (lc2M f t src1 f1 t1 e vs1 (wipeE η vs) (ds.drop i))) (fun r => finL (accd ++ r)) s) fun d H' _ => ∀ v, Dq g S H' v d → Q v H'
  refine ⟨Wv, ⟨ds.length, by simp, Nat.zero_le _, s1, [], [], ⟨upd_same, .nil, atS⟩, Ext.same (same_upd hD), .refl, q⟩, fun i m H w => ?_⟩
  obtain ⟨hm, hi, s, acc, accd, l, e1, p1, q⟩ := w
  obtain ⟨y1, y2⟩ := hJ1 (plus S D) (fun a h => .inl h) i H p1
  by_cases hlt : i < ds.length
  · have hx : ds[i]? = some ds[i] := List.getElem?_eq_getElem hlt
    obtain ⟨go, yld⟩ := y1 _ hx
    refine .inr ⟨go, fun H' => Wv (i + 1) (ds.length - (i + 1)) H', fun H' h => ⟨_, by omega, h⟩, fun x H' y => ?_⟩
    obtain ⟨sm, rx⟩ := yld x H' y
    have at2 := l.at_.ext (Ext.same sm) (l.at_.ok.same sm)
    have l2 := l.ext ne (Ext.same sm) (l.at_.ok.same sm)
    rw [List.drop_eq_getElem_cons hlt] at q
    unfold lc2M at q
    cases hf : f ds[i] (wipeE η vs) with
    | none =>
      rw [hf] at q
      exact q.elim
    | some η1 =>
      rw [hf] at q
      have e2 := e1.trans (Ext.same sm)
      refine ⟨g, _, _, s, ds[i], η1, at2, rx, hf, fun σ2 o2 at3 => ⟨by have := (o2.mono hu).wipe; rw [this, ww], tDT.mk at3 (((Res.nx q).ext e2).imp fun b H3 s3 e3 k3 q3 at4 => ?_)⟩⟩
      have l3 := l2.ext ne e3 k3
      have e13 : Ext g H1 H3 := (e1.trans (Ext.same sm)).trans e3
      have p13 : Pres (plus S D) (upd H1 D (.lst [])) H3 := (p1.trans (Pres.same sm)).trans (e3.pres l2.at_.sok.st)
      split
      · rename_i hb
        rw [if_pos hb] at q3
        refine ⟨g, _, η1, s3, at4, ((Res.nx q3).ext e13).imp fun ds1 H4 s4 e4 k4 q4 J1 hJ4 => ?_⟩
        have l4 := l3.ext ne e4 k4
        have at5 := (at4.ext e4 k4).wipe vs1
        have e14 : Ext g H1 H4 := e13.trans e4
        have p14 := p13.trans (e4.pres l3.at_.sok.st)
        refine lc_W (W := W) (accd0 := accd) (kk := fun r1 => M.bind (noExc (lc2M f t src1 f1 t1 e vs1 (wipeE η vs) (ds.drop (i + 1)))) fun r => finL (r1 ++ r)) hu1 ((Off.ofwipe vs1).wipe) hJ4 hS ne ⟨l4.here, l4.all, at5⟩ e14 hD at1.ok.stl (Q := fun d H' _ => ∀ v, Dq g S H' v d → Q v H') ?_ (fun l s h => kk_le h) fun H s acc accd l5 e5 p5 q5 => ?_
        · have ee : (fun r1 => M.bind (noExc (lc2M f t src1 f1 t1 e vs1 (wipeE η vs) (ds.drop (i + 1)))) fun r => finL ((accd ++ r1) ++ r)) = fun r1 => M.bind (M.bind (noExc (lc2M f t src1 f1 t1 e vs1 (wipeE η vs) (ds.drop (i + 1)))) fun x => noExc (M.ret (r1 ++ x))) fun r => finL (accd ++ r) := by
            funext r1
            rw [bind_assoc]
            congr 1
            funext x
            rw [List.append_assoc]
            rfl
          rw [ee, ← bind_assoc]
          have q4' := q4
          rw [noExc_bind] at q4'
          simp only [noExc_bind] at q4'
          exact q4'
        · exact ⟨rfl, hlt, s, acc, accd, ⟨l5.here, l5.all, ⟨l5.at_.gK, l5.at_.sok, l4.at_.rep.pres l4.at_.sok.mu p5, l5.at_.ok, l4.at_.len⟩⟩, e5, p14.trans p5, q5⟩
      · rename_i hb
        rw [if_neg hb] at q3
        exact ⟨rfl, hlt, s3, _, _, l3, e13, p13, q3⟩
  · have e : i = ds.length := by omega
    subst e
    rw [List.drop_length] at q
    have q' : Res W g H1 (finL (accd ++ []) s) fun d H' _ => ∀ v, Dq g S H' v d → Q v H' := q
    rw [List.append_nil] at q'
    obtain ⟨z, hz, q2⟩ := Res.lift q'
    refine .inl ⟨y2 (Nat.le_refl _), ?_⟩
    split at hz
    · cases hz
      exact q2 H e1 l.at_.ok (.ref D) (.lst (not_S at1.sok hD) l.here (l.all.anti fun a h => .inl h))
    · cases hz
theorem d_lc2 {elt tg iter tg1 iter1 : Expr} {ifs ifs1 : List Expr} {scope : Scope} {own : List (Str × Nat)} {vs1 : List Nat} {pos : Pos} {src src1 : IV} {f f1 : GV} {t t1 : BV} {e : EV} {us us1 : List Nat} (hc : X.calm = true) (hN : X.N.Nodup) (ok : BlkOk X.N X.env.scope scope own) (hv : ∀ i ∈ vs1, i ∈ own.map (·.2))
    (hu : ∀ i ∈ us, i ∈ own.map (·.2)) (hu1 : ∀ i ∈ us1, i ∈ vs1) (hi : PID X W tg iter src)
    (hg : Blk X scope fun Y => PGD Y us tg f) (ht : Blk X scope fun Y => PTsD Y WF ifs t) (hi1 : Blk X scope fun Y => PID Y WF tg1 iter1 src1) (hg1 : Blk X scope fun Y => PGD Y us1 tg1 f1) (ht1 : Blk X scope fun Y => PTsD Y WF ifs1 t1) (he : Blk X scope fun Y => PED Y WF elt e)
    (hs : ∀ x, foldedSetIterable iter X.env x = pure x := by intro _; rfl) (hs1 : ∀ env x, foldedSetIterable iter1 env x = pure x := by intro _ _; rfl) :
    PED X W (.ListComp elt [⟨tg, iter, ifs, 0⟩, ⟨tg1, iter1, ifs1, 0⟩] scope pos) (eLc2 src f t src1 f1 t1 e (own.map (·.2)) vs1) := ⟨(pe_lc2 hc hN hi.pi ok hv (fun s H C cl fp => (hg s H C cl fp).pg) (fun s H C cl fp => (ht s H C cl fp).pt) (fun s H C cl fp => (hi1 s H C cl fp).pi) (fun s H C cl fp => (hg1 s H C cl fp).pg) (fun s H C cl fp => (ht1 s H C cl fp).pt) (fun s H C cl fp => (he s H C cl fp).pe) hs hs1).con fun σ H Q ⟨g, S, η, s, at_, q⟩ =>
  ⟨g, S, η, s, at_, (Res.bind q).imp fun ds H1 s1 e1 k1 q1 J hJ => lc2_bridge hu hu1 (at_.ext e1 k1) hJ q1⟩⟩
end
section
variable {g : G} {S : Addr → Prop} {H H' : Hp} {s : DS} {D : Addr} {o o' : HO}
theorem Ok.updO (k : Ok g H s) (hD : H D = some o) (ht : Mu o) (ne : ∀ a, g.st = some a → a ≠ D ∧ g.sc ≠ D) : Ok g (L2.upd H D o') s :=
  ⟨fun a e => let ⟨x, y, z⟩ := k.st a e; ⟨by rw [upd_ne (ne a e).1]; exact x, by rw [upd_ne (ne a e).2]; exact y, z⟩, fun P hP => let ⟨ps, e, t⟩ := k.tabs P hP; ⟨ps, by rw [upd_ne (fun z => by rw [z, hD] at e; exact ht.tbl _ (Option.some.inj e))]; exact e, t⟩⟩
theorem Ok.updNO (k : Ok g H s) (hD : H D = none) : Ok g (L2.upd H D o) s :=
  ⟨fun a e => let ⟨x, y, z⟩ := k.st a e; ⟨by rw [upd_ne (ne_of_none x hD)]; exact x, by rw [upd_ne (ne_of_none y hD)]; exact y, z⟩, fun P hP => let ⟨ps, e, t⟩ := k.tabs P hP; ⟨ps, by rw [upd_ne (ne_of_none e hD)]; exact e, t⟩⟩
theorem Pres.updO (hS : S D) (hD : H D = some o) (ht : Mu o) : Pres S H (L2.upd H D o') :=
  ⟨fun b u e n _ => by rw [upd_ne (fun z => n (by rw [z]; exact hS))]; exact e, fun b ps e => ⟨#[], by rw [upd_ne (fun z => by rw [z, hD] at e; exact ht.tbl _ (Option.some.inj e)), e]; simp⟩⟩
theorem SOk.updO (k : SOk g S H) (m : Mu o') : SOk g S (L2.upd H D o') := ⟨k.st, fun a h => by
  by_cases e : a = D
  · subst e
    exact ⟨_, upd_same, m⟩
  · obtain ⟨o, q, m⟩ := k.trk a h
    exact ⟨o, by rw [upd_ne e]; exact q, m⟩⟩
theorem At.updO {K : PySem.W.Frag} {σ : St} {η : Env} (a : At K g S H σ η s) (hS : S D) (hD : H D = some o) (m' : Mu o') (ne : ∀ a, g.st = some a → a ≠ D ∧ g.sc ≠ D) : At K g S (L2.upd H D o') σ η s :=
  have m := a.sok.mu D o hS hD
  ⟨a.gK, a.sok.updO m', a.rep.pres a.sok.mu (.updO hS hD m), a.ok.updO hD m ne, a.len⟩
theorem At.plusO {K : PySem.W.Frag} {σ : St} {η : Env} (a : At K g S H σ η s) (hD : H D = none) (mu : Mu o) : At K g (W3.plus S D) (L2.upd H D o) σ η s := by
  refine ⟨a.gK, ⟨fun b h => .inl (a.sok.st b h), fun b h => ?_⟩, fun i d h => ?_, a.ok.updNO hD, a.len⟩
  · by_cases e : b = D
    · subst e
      exact ⟨_, upd_same, mu⟩
    · obtain ⟨o, q, m⟩ := a.sok.trk b (h.resolve_right e)
      exact ⟨o, by rw [upd_ne e]; exact q, m⟩
  · obtain ⟨v, h1, h2⟩ := a.rep i d h
    exact ⟨v, h1, (h2.av (plus_av hD)).pres (plus_mu a.sok hD) (plus_pres hD)⟩
theorem Mu.dK {kvs : List (Key × V)} : Mu (.dK kvs) := ⟨fun _ e => (by cases e), fun _ _ e => (by cases e), fun _ e => (by cases e)⟩
theorem Mu.dT {kvs : List (List Key × V)} : Mu (.dT kvs) := ⟨fun _ e => (by cases e), fun _ _ e => (by cases e), fun _ e => (by cases e)⟩
end
end W3

set_option Elab.async false
set_option linter.all false
set_option maxRecDepth 100000
set_option maxHeartbeats 4000000
/-! W3h: statements. -/
namespace W3
open PySem PySem.Spec L2

/-! ### where a statement stands -/
def Trk (vs : Option (List Nat)) (σ0 σ : St) : Prop := match vs with
  | none => True
  | some l => Off l σ0 σ
def inV (vs : Option (List Nat)) (us : List Nat) : Bool := match vs with
  | none => true
  | some l => us.all fun i => decide (i ∈ l)
theorem Trk.step {vs : Option (List Nat)} {us : List Nat} {σ0 σ σ' : St} (t : Trk vs σ0 σ) (h : inV vs us = true) (o : Off us σ σ') : Trk vs σ0 σ' := by
  cases vs with
  | none => trivial
  | some l =>
    have h' : ∀ i ∈ us, i ∈ l := fun i hi => by
      have := List.all_eq_true.mp h i hi
      simpa using this
    exact Off.trans (show Off l σ0 σ from t) (o.mono h')
/-- a list or a dict of ours -/
inductive OwnV (g : G) (S : Addr → Prop) (H : Hp) (a : Addr) : D → Prop
  | lst {xs : List V} {ds : List D} : H a = some (.lst xs) → DqAll g S H xs ds → OwnV g S H a (.list ds)
  | dk {kvs : List (Key × V)} {kd : List (D × D)} : H a = some (.dK kvs) → kd.map (·.1) = kvs.map (fun p => kD p.1) → DqAll g S H (kvs.map (·.2)) (kd.map (·.2)) → OwnV g S H a (.dict kd)
  | dt {kvs : List (List Key × V)} {kd : List (D × D)} : H a = some (.dT kvs) → kd.map (·.1) = kvs.map (fun p => ksD p.1) → DqAll g S H (kvs.map (·.2)) (kd.map (·.2)) → OwnV g S H a (.dict kd)
theorem OwnV.imp {g : G} {S S' : Addr → Prop} {H H' : Hp} {a : Addr} {d : D} (o : OwnV g S H a d) (k : ∀ o, H a = some o → Mu o → H' a = some o) (i : ∀ vs ds, DqAll g S H vs ds → DqAll g S' H' vs ds) : OwnV g S' H' a d := by
  cases o with
  | lst e r => exact .lst (k _ e .lst) (i _ _ r)
  | dk e q r => exact .dk (k _ e .dK) q (i _ _ r)
  | dt e q r => exact .dt (k _ e .dT) q (i _ _ r)
theorem OwnV.ob {g : G} {S : Addr → Prop} {H : Hp} {a : Addr} {d : D} (o : OwnV g S H a d) : ∃ o, H a = some o ∧ Mu o := by
  cases o with
  | lst e r => exact ⟨_, e, .lst⟩
  | dk e q r => exact ⟨_, e, .dK⟩
  | dt e q r => exact ⟨_, e, .dT⟩
theorem OwnV.anti {g : G} {S S' : Addr → Prop} {H : Hp} {a : Addr} {d : D} (o : OwnV g S H a d) (h : ∀ b, S' b → S b) : OwnV g S' H a d := o.imp (fun _ e _ => e) fun _ _ r => r.anti h
theorem OwnV.dq {g : G} {S S' : Addr → Prop} {H : Hp} {a : Addr} {d : D} (o : OwnV g S H a d) (n : ¬ S' a) (h : ∀ b, S' b → S b) : Dq g S' H (.ref a) d := by
  cases o with
  | lst e r => exact .lst n e (r.anti h)
  | dk e q r => exact .dk n (.of e) q (r.anti h)
  | dt e q r => exact .dt n (.of e) q (r.anti h)
theorem OwnV.ext {g : G} {S : Addr → Prop} {H H' : Hp} {a : Addr} {d : D} (o : OwnV g S H a d) (hS : ∀ a, g.st = some a → S a) (hs : ∀ a, g.st = some a → ∃ xs, H a = some (.lst xs)) (n : some a ≠ g.st) (e : Ext g H H') : OwnV g S H' a d := o.imp (fun _ q m => e.keep _ _ q n m.tbl) fun _ _ r => r.ext hS hs e
theorem OwnV.isList {g : G} {S : Addr → Prop} {H : Hp} {a : Addr} {ds : List D} (o : OwnV g S H a (.list ds)) : ∃ xs, H a = some (.lst xs) ∧ DqAll g S H xs ds := by
  cases o with
  | lst e r => exact ⟨_, e, r⟩
structure OwnAt (g : G) (S : Addr → Prop) (H : Hp) (σ : St) (η : Env) (i : Nat) (a : Addr) : Prop where
  at_ : σ[i]? = some (some (.ref a))
  val : ∃ d, η[i]? = some (some d) ∧ OwnV g S H a d
def plusL (S : Addr → Prop) (as : List Addr) : Addr → Prop := fun a => S a ∨ a ∈ as
structure AtS (K : PySem.W.Frag) (g : G) (Sb : Addr → Prop) (H0 : Hp) (vs : Option (List Nat)) (σ0 : St) (O : List Nat) (H : Hp) (σ : St) (η : Env) (s : DS) : Prop where
  ext : Ext g H0 H
  h0 : ∀ a, g.st = some a → (∃ xs, H0 a = some (.lst xs)) ∧ ∃ o, H0 g.sc = some o
  trk : Trk vs σ0 σ
  own : ∃ OA : List (Nat × Addr), OA.map (·.1) = O ∧ (∀ p ∈ OA, ∀ q ∈ OA, p.2 = q.2 ∨ p.1 = q.1 → p = q) ∧ (∀ p ∈ OA, ¬ Sb p.2 ∧ H0 p.2 = none) ∧ At K g (plusL Sb (OA.map (·.2))) H σ (wipeE η O) s ∧ ∀ p ∈ OA, OwnAt g (plusL Sb (OA.map (·.2))) H σ η p.1 p.2
def WS (W : XW) (vs : Option (List Nat)) (σ0 : St) : WW := fun c p H' => ∀ σ', Trk vs σ0 σ' → W σ' c p H'
theorem Res.wk {α : Type} {W : XW} {vs : Option (List Nat)} {σ0 σ : St} {g : G} {H : Hp} {r : R α} {Q : α → Hp → DS → Prop} (h : Res (WS W vs σ0) g H r Q) (t : Trk vs σ0 σ) : Res (W σ) g H r Q := by
  unfold Res at *
  cases r with
  | ok x s' => exact h
  | exc c p s' => exact fun H' e k => h H' e k σ t
  | bad => exact h
section
variable {K : PySem.W.Frag} {g : G} {Sb : Addr → Prop} {H0 H H' : Hp} {vs : Option (List Nat)} {σ0 σ σ' : St} {O : List Nat} {η : Env} {s s' : DS}
theorem AtS.gK (a : AtS K g Sb H0 vs σ0 O H σ η s) : g.K = K := let ⟨_, _, _, _, x, _⟩ := a.own; x.gK
theorem AtS.ok (a : AtS K g Sb H0 vs σ0 O H σ η s) : Ok g H s := let ⟨_, _, _, _, x, _⟩ := a.own; x.ok
theorem AtS.len (a : AtS K g Sb H0 vs σ0 O H σ η s) : σ.length = η.length := let ⟨_, _, _, _, x, _⟩ := a.own; by rw [x.len, wipeE_length]
/-- the names that are no lists of ours -/
theorem AtS.one (a : AtS K g Sb H0 vs σ0 O H σ η s) : ∃ S, (∀ b, Sb b → S b) ∧ At K g S H σ (wipeE η O) s := let ⟨OA, _, _, _, x, _⟩ := a.own; ⟨_, fun _ h => .inl h, x⟩
theorem SOk.sub {S S' : Addr → Prop} (k : SOk g S H) (h : ∀ a, S' a → S a) (hs : ∀ a, g.st = some a → S' a) : SOk g S' H := ⟨hs, fun a z => k.trk a (h a z)⟩
/-- all names, for what is not kept -/
theorem AtS.all (a : AtS K g Sb H0 vs σ0 O H σ η s) (hs : ∀ b, g.st = some b → Sb b) : At K g Sb H σ η s := by
  obtain ⟨OA, e1, e2, e3, x, e4⟩ := a.own
  refine ⟨x.gK, x.sok.sub (fun _ h => .inl h) hs, fun i d h => ?_, x.ok, a.len⟩
  by_cases hi : i ∈ O
  · rw [← e1] at hi
    obtain ⟨p, hp, rfl⟩ := List.mem_map.mp hi
    obtain ⟨o1, d', o2, o3⟩ := e4 p hp
    rw [o2] at h
    cases h
    exact ⟨_, o1, o3.dq (e3 p hp).1 fun _ h => .inl h⟩
  · obtain ⟨v, h1, h2⟩ := x.rep i d (by rw [wipeE_out hi]; exact h)
    exact ⟨v, h1, h2.anti fun _ h => .inl h⟩
theorem AtS.hs (a : AtS K g Sb H0 vs σ0 O H σ η s) : ∀ b, g.st = some b → Sb b := fun b e => by
  obtain ⟨OA, _, _, e3, x, _⟩ := a.own
  rcases x.sok.st b e with h | h
  · exact h
  · obtain ⟨p, hp, rfl⟩ := List.mem_map.mp h
    obtain ⟨⟨xs, z⟩, _⟩ := a.h0 _ e
    rw [(e3 p hp).2] at z
    cases z
theorem AtS.all' (a : AtS K g Sb H0 vs σ0 O H σ η s) : At K g Sb H σ η s := a.all a.hs
/-- an expression was read -/
theorem AtS.step (a : AtS K g Sb H0 vs σ0 O H σ η s) (e : Ext g H H') (k : Ok g H' s') : AtS K g Sb H0 vs σ0 O H' σ η s' := by
  obtain ⟨OA, e1, e2, e3, x, e4⟩ := a.own
  refine ⟨a.ext.trans e, a.h0, a.trk, OA, e1, e2, e3, x.ext e k, fun p hp => ?_⟩
  obtain ⟨o1, d, o2, o3⟩ := e4 p hp
  exact ⟨o1, d, o2, o3.ext x.sok.st x.ok.stl (fun z => (e3 p hp).1 (a.hs _ z.symm)) e⟩
/-- ours no more -/
theorem AtS.drop (a : AtS K g Sb H0 vs σ0 O H σ η s) (O' : List Nat) (h : O.filter (fun i => decide (i ∈ O')) = O') : AtS K g Sb H0 vs σ0 O' H σ η s := by
  obtain ⟨OA, e1, e2, e3, x, e4⟩ := a.own
  have sub : ∀ b, plusL Sb ((OA.filter fun p => decide (p.1 ∈ O')).map (·.2)) b → plusL Sb (OA.map (·.2)) b := fun b hb => hb.elim .inl fun z => by
    obtain ⟨p, hp, rfl⟩ := List.mem_map.mp z
    exact .inr (List.mem_map.mpr ⟨p, (List.mem_filter.mp hp).1, rfl⟩)
  have hst : ∀ b, g.st = some b → plusL Sb ((OA.filter fun p => decide (p.1 ∈ O')).map (·.2)) b := fun b e => .inl (a.hs b e)
  have nd : ∀ p ∈ OA, p.1 ∉ O' → ¬ plusL Sb ((OA.filter fun p => decide (p.1 ∈ O')).map (·.2)) p.2 := fun p hp hn z => by
    rcases z with z | z
    · exact (e3 p hp).1 z
    · obtain ⟨q, hq, hqe⟩ := List.mem_map.mp z
      obtain ⟨hq1, hq2⟩ := List.mem_filter.mp hq
      have : q = p := e2 q hq1 p hp (.inl hqe)
      rw [this] at hq2
      exact hn (by simpa using hq2)
  refine ⟨a.ext, a.h0, a.trk, OA.filter fun p => decide (p.1 ∈ O'), ?_, ?_, fun p hp => e3 p (List.mem_filter.mp hp).1, ⟨x.gK, x.sok.sub sub hst, fun i d hd => ?_, x.ok, by rw [x.len, wipeE_length, wipeE_length]⟩, fun p hp => ?_⟩
  · rw [← e1] at h
    have h3 : ∀ l : List (Nat × Addr), (l.filter fun p => decide (p.1 ∈ O')).map (·.1) = (l.map (·.1)).filter fun i => decide (i ∈ O') := fun l => by
      induction l with
      | nil => rfl
      | cons p l ih =>
        rw [List.map_cons, List.filter_cons, List.filter_cons]
        by_cases hp : p.1 ∈ O' <;> simp [hp, ih]
    rw [h3]
    exact h
  · exact fun p hp q hq => e2 p (List.mem_filter.mp hp).1 q (List.mem_filter.mp hq).1
  · obtain ⟨n1, n2⟩ := wipeE_some hd
    by_cases hi : i ∈ O
    · have hi' := hi
      rw [← e1] at hi
      obtain ⟨p, hp, rfl⟩ := List.mem_map.mp hi
      obtain ⟨o1, d', o2, o3⟩ := e4 p hp
      rw [o2] at n2
      cases n2
      exact ⟨_, o1, o3.dq (nd p hp n1) sub⟩
    · obtain ⟨v, h1, h2⟩ := x.rep i d (by rw [wipeE_out hi]; exact n2)
      exact ⟨v, h1, h2.anti sub⟩
  · obtain ⟨o1, d, o2, o3⟩ := e4 p (List.mem_filter.mp hp).1
    exact ⟨o1, d, o2, o3.anti sub⟩
/-- the heap told of from now on: all but what is ours -/
theorem AtS.adv (a : AtS K g Sb H0 vs σ0 O H σ η s) : ∃ Hr, Ext g H0 Hr ∧ AtS K g Sb Hr vs σ0 O H σ η s ∧ ∃ S, (∀ b, g.st = some b → S b) ∧ (∀ b, Sb b → S b) ∧ At K g S H σ (wipeE η O) s ∧ (∀ b, S b → Sb b ∨ Hr b = none) ∧ (∀ b, ¬ S b ∨ Sb b → Hr b = H b) ∧ ∀ b o, Hr b = some o → H b = some o := by
  obtain ⟨OA, e1, e2, e3, x, e4⟩ := a.own
  have hn : ∀ b, Sb b → b ∉ OA.map (·.2) := fun b h z => by
    obtain ⟨p, hp, rfl⟩ := List.mem_map.mp z
    exact (e3 p hp).1 h
  have hn0 : ∀ b o, H0 b = some o → b ∉ OA.map (·.2) := fun b o h z => by
    obtain ⟨p, hp, rfl⟩ := List.mem_map.mp z
    rw [(e3 p hp).2] at h
    cases h
  let Hr : Hp := fun b => if b ∈ OA.map (·.2) then none else H b
  have rin : ∀ b, b ∈ OA.map (·.2) → Hr b = none := fun b h => if_pos h
  have rout : ∀ b, b ∉ OA.map (·.2) → Hr b = H b := fun b h => if_neg h
  have rs : ∀ b o, Hr b = some o → H b = some o := fun b o h => by
    by_cases z : b ∈ OA.map (·.2)
    · rw [rin b z] at h; cases h
    · rw [rout b z] at h; exact h
  have er : Ext g Hr H := ⟨fun b o h _ _ => rs b o h, fun b ps h => ⟨#[], by rw [rs b _ h]; simp⟩, fun b e ⟨xs, h⟩ => ⟨xs, rs b _ h⟩⟩
  have e0r : Ext g H0 Hr := ⟨fun b o h n t => by rw [rout b (hn0 b o h)]; exact a.ext.keep b o h n t, fun b ps h => by rw [rout b (hn0 b _ h)]; exact a.ext.tab b ps h, fun b e ⟨xs, h⟩ => by rw [rout b (hn0 b _ h)]; exact a.ext.sta b e ⟨xs, h⟩⟩
  refine ⟨Hr, e0r, ⟨er, fun b e => ?_, a.trk, OA, e1, e2, fun p hp => ⟨(e3 p hp).1, rin _ (List.mem_map.mpr ⟨p, hp, rfl⟩)⟩, x, e4⟩, _, x.sok.st, fun _ h => .inl h, x, fun b h => h.imp id (rin b), fun b h => rout b fun z => ?_, rs⟩
  · obtain ⟨h1, o, h2⟩ := a.h0 b e
    obtain ⟨k1, k2, _⟩ := x.ok.st b e
    exact ⟨e0r.sta b e h1, _, (rout _ (hn0 _ o h2)).trans k2⟩
  · rcases h with h | h
    · exact h (.inr z)
    · exact hn b h z
/-- a name that is no list of ours is set -/
theorem AtS.set {us : List Nat} {f : GV} {σ' : St} {η' : Env} {d : D} (a : AtS K g Sb H0 vs σ0 O H σ η s) (gk : GOk us f) (hO : ∀ i ∈ us, i ∉ O) (hv : inV vs us = true) (o : Off us σ σ') (hf : f d η = some η')
    (h : ∀ S, At K g S H σ (wipeE η O) s → At K g S H σ' (wipeE η' O) s) : AtS K g Sb H0 vs σ0 O H σ' η' s := by
  obtain ⟨OA, e1, e2, e3, x, e4⟩ := a.own
  refine ⟨a.ext, a.h0, a.trk.step hv o, OA, e1, e2, e3, h _ x, fun p hp => ?_⟩
  have hi : p.1 ∉ us := fun z => hO _ z (by rw [← e1]; exact List.mem_map.mpr ⟨p, hp, rfl⟩)
  obtain ⟨o1, d, o2, o3⟩ := e4 p hp
  exact ⟨(o.2 _ hi).trans o1, d, (gk.off _ _ _ hf _ hi).trans o2, o3⟩
end
end W3

set_option Elab.async false
set_option linter.all false
set_option maxRecDepth 100000
set_option maxHeartbeats 4000000
/-! W3i: the rules of statements. -/
namespace W3
open PySem PySem.Spec L2

inductive Fl where
  | nx (η : Env)
  | bk (η : Env)
  | ct (η : Env)
  | rt (d : D) (η : Env)
abbrev SV := Env → M Fl
def SQ (K : PySem.W.Frag) (g : G) (Sb : Addr → Prop) (H0 : Hp) (vs : Option (List Nat)) (σ0 : St) (On Ob Or : List Nat) (E : Ends) : Fl → Hp → DS → Prop
  | .nx η', H', s' => ∀ σ', AtS K g Sb H0 vs σ0 On H' σ' η' s' → E.nx σ' H'
  | .bk η', H', s' => ∀ σ', AtS K g Sb H0 vs σ0 Ob H' σ' η' s' → E.bk σ' H'
  | .ct η', H', s' => ∀ σ', AtS K g Sb H0 vs σ0 Ob H' σ' η' s' → E.ct σ' H'
  | .rt d η', H', s' => ∀ v σ', Dq g Sb H' v d → AtS K g Sb H0 vs σ0 Or H' σ' η' s' → E.rt v H'
def tS (K : PySem.W.Frag) (W : XW) (vs : Option (List Nat)) (O On Ob Or : List Nat) (f : SV) : TS := fun E σ H => ∃ g Sb H0 σ0 η s, AtS K g Sb H0 vs σ0 O H σ η s ∧ Res (WS W vs σ0) g H0 (f η s) (SQ K g Sb H0 vs σ0 On Ob Or E)
structure PSD (X : Cx) (W : XW) (vs : Option (List Nat)) (O On Ob Or : List Nat) (st : Stmt) (f : SV) : Prop where
  ps : PS X st (tS X.K W vs O On Ob Or f)
structure PSsD (X : Cx) (W : XW) (vs : Option (List Nat)) (O On Ob Or : List Nat) (st : List Stmt) (f : SV) : Prop where
  ps : PSs X st (tS X.K W vs O On Ob Or f)
theorem _root_.L2.PS.con {X : Cx} {e : Stmt} {t u : TS} (h : PS X e t) (i : ∀ σ H Q, u Q σ H → t Q σ H) : PS X e u := ⟨fun pins s σ H Q I q => h.run pins s σ H Q I (i σ H Q q)⟩
theorem _root_.L2.PSs.con {X : Cx} {e : List Stmt} {t u : TS} (h : PSs X e t) (i : ∀ σ H Q, u Q σ H → t Q σ H) : PSs X e u := ⟨fun pins s σ H Q I q => h.run pins s σ H Q I (i σ H Q q)⟩
section
variable {K : PySem.W.Frag} {g : G} {Sb : Addr → Prop} {H0 H H' : Hp} {vs : Option (List Nat)} {σ0 σ σ' : St} {O : List Nat} {η : Env} {s s' : DS} {W : XW}
/-- an expression that does not look at our lists; its value may be kept -/
theorem modeA {β : Type} {fe : EV} {k : D → M β} {Q : β → Hp → DS → Prop} {Q' : VK} (a : AtS K g Sb H0 vs σ0 O H σ η s) (h : Res (WS W vs σ0) g H0 (M.bind (fe (wipeE η O)) k s) Q)
    (i : ∀ S v d H' s', AtS K g Sb H0 vs σ0 O H' σ η s' → At K g S H' σ (wipeE η O) s' → Dq g S H' v d → (∀ us f σ' η', GOk us f → (∀ i ∈ us, i ∉ O) → inV vs us = true → Off us σ σ' → f d η = some η' → At K g S H' σ' (wipeE η' O) s' → AtS K g Sb H0 vs σ0 O H' σ' η' s') →
      Dq g Sb H' v d → Res (WS W vs σ0) g H0 (k d s') Q → Q' v H') : tD K W fe σ H Q' := by
  obtain ⟨OA, e1, e2, e3, x, e4⟩ := a.own
  refine tD.mk x ((((Res.bind0 h).ext a.ext).wk a.trk).imp fun d H1 s1 x1 k1 q v at1 r => ?_)
  have a1 := a.step x1 k1
  refine i _ v d H1 s1 a1 at1 r (fun us f σ' η' gk hO hv o hf hh => ?_) (r.anti fun _ z => .inl z) q
  refine ⟨a1.ext, a1.h0, a1.trk.step hv o, OA, e1, e2, e3, hh, fun p hp => ?_⟩
  have hi : p.1 ∉ us := fun z => hO _ z (by rw [← e1]; exact List.mem_map.mpr ⟨p, hp, rfl⟩)
  obtain ⟨o1, d, o2, o3⟩ := e4 p hp
  exact ⟨(o.2 _ hi).trans o1, d, (gk.off _ _ _ hf _ hi).trans o2, o3.ext x.sok.st x.ok.stl (fun z => (e3 p hp).1 (a.hs _ z.symm)) x1⟩
/-- an expression that may look at all; its value is used at once -/
theorem modeB {β : Type} {fe : EV} {k : D → M β} {Q : β → Hp → DS → Prop} {Q' : VK} (a : AtS K g Sb H0 vs σ0 O H σ η s) (h : Res (WS W vs σ0) g H0 (M.bind (fe η) k s) Q)
    (i : ∀ v d H' s', AtS K g Sb H0 vs σ0 O H' σ η s' → Dq g Sb H' v d → Res (WS W vs σ0) g H0 (k d s') Q → Q' v H') : tD K W fe σ H Q' :=
  tD.mk a.all' ((((Res.bind0 h).ext a.ext).wk a.trk).imp fun d H1 s1 x1 k1 q v at1 r => i v d H1 s1 (a.step x1 k1) r q)
theorem modeT {β : Type} {fe : BV} {k : Bool → M β} {Q : β → Hp → DS → Prop} {Q' : Bool → Hp → Prop} (a : AtS K g Sb H0 vs σ0 O H σ η s) (h : Res (WS W vs σ0) g H0 (M.bind (fe η) k s) Q)
    (i : ∀ b H' s', AtS K g Sb H0 vs σ0 O H' σ η s' → Res (WS W vs σ0) g H0 (k b s') Q → Q' b H') : tDT K W fe σ H Q' :=
  tDT.mk a.all' ((((Res.bind0 h).ext a.ext).wk a.trk).imp fun b H1 s1 x1 k1 q at1 => i b H1 s1 (a.step x1 k1) q)
theorem Res.ret0 {α : Type} {W : WW} {x : α} {Q : α → Hp → DS → Prop} (h : Res W g H0 (M.ret x s) Q) (a : AtS K g Sb H0 vs σ0 O H σ η s) : Q x H s := h H a.ext a.ok
end
section
variable {X : Cx} {W : XW} {vs : Option (List Nat)} {O O1 On Ob Or : List Nat} {st : Stmt} {rest a b : List Stmt} {e : Expr} {fe : EV} {f h : SV} {pos : Pos}
def fNil : SV := fun η => M.ret (.nx η)
def fSeq (f h : SV) : SV := fun η => M.bind (f η) fun fl => match fl with
  | .nx η' => h η'
  | .bk η' => M.ret (.bk η')
  | .ct η' => M.ret (.ct η')
  | .rt d η' => M.ret (.rt d η')
theorem ss_nil (hO : O.filter (fun i => decide (i ∈ On)) = On := by rfl) : PSsD X W vs O On Ob Or [] fNil := ⟨pss_nil.con fun σ H E ⟨g, Sb, H0, σ0, η, s, a, q⟩ => Res.ret0 (x := Fl.nx η) q a σ (a.drop On hO)⟩
theorem ss_cons (h1 : PSD X W vs O O1 Ob Or st f) (h2 : PSsD X W vs O1 On Ob Or rest h) : PSsD X W vs O On Ob Or (st :: rest) (fSeq f h) := ⟨(pss_cons h1.ps h2.ps).con fun σ H E ⟨g, Sb, H0, σ0, η, s, a, q⟩ =>
  ⟨g, Sb, H0, σ0, η, s, a, (Res.bind0 q).imp fun fl H' s' e k q1 => by
    cases fl with
    | nx η' => exact fun σ' a' => ⟨g, Sb, H0, σ0, η', s', a', q1⟩
    | bk η' => exact fun σ' a' => q1 H' e k σ' a'
    | ct η' => exact fun σ' a' => q1 H' e k σ' a'
    | rt d η' => exact fun v σ' r a' => q1 H' e k v σ' r a'⟩⟩
/-- the last statement of a block: nothing comes behind it -/
theorem ss_one (h1 : PSD X W vs O On Ob Or st f) : PSsD X W vs O On Ob Or [st] f := ⟨pss_one h1.ps⟩
/-- ours no more, behind the statement -/
theorem s_drop (h1 : PSD X W vs O O1 Ob Or st f) (hO : O1.filter (fun i => decide (i ∈ On)) = On := by rfl) : PSD X W vs O On Ob Or st f := ⟨h1.ps.con fun σ H E ⟨g, Sb, H0, σ0, η, s, a, q⟩ =>
  ⟨g, Sb, H0, σ0, η, s, a, q.imp fun fl H' s' e k q1 => by
    cases fl with
    | nx η' => exact fun σ' a' => q1 σ' (a'.drop On hO)
    | bk η' => exact q1
    | ct η' => exact q1
    | rt d η' => exact q1⟩⟩
/-- ours no more, ahead of the statement -/
theorem s_pre (hO : O.filter (fun i => decide (i ∈ O1)) = O1) (h1 : PSD X W vs O1 On Ob Or st f) : PSD X W vs O On Ob Or st f := ⟨h1.ps.con fun σ H E ⟨g, Sb, H0, σ0, η, s, a, q⟩ => ⟨g, Sb, H0, σ0, η, s, a.drop O1 hO, q⟩⟩
theorem ss_pre (hO : O.filter (fun i => decide (i ∈ O1)) = O1) (h1 : PSsD X W vs O1 On Ob Or rest f) : PSsD X W vs O On Ob Or rest f := ⟨h1.ps.con fun σ H E ⟨g, Sb, H0, σ0, η, s, a, q⟩ => ⟨g, Sb, H0, σ0, η, s, a.drop O1 hO, q⟩⟩
theorem s_pass : PSD X W vs O O Ob Or (.Pass pos) fNil := ⟨ps_pass.con fun σ H E ⟨g, Sb, H0, σ0, η, s, a, q⟩ => Res.ret0 (x := Fl.nx η) q a σ a⟩
def fBrk : SV := fun η => M.ret (.bk η)
def fCnt : SV := fun η => M.ret (.ct η)
theorem s_break (hO : O.filter (fun i => decide (i ∈ Ob)) = Ob := by rfl) : PSD X W vs O On Ob Or (.Break pos) fBrk := ⟨ps_break.con fun σ H E ⟨g, Sb, H0, σ0, η, s, a, q⟩ => Res.ret0 (x := Fl.bk η) q a σ (a.drop Ob hO)⟩
theorem s_cont (hO : O.filter (fun i => decide (i ∈ Ob)) = Ob := by rfl) : PSD X W vs O On Ob Or (.Continue pos) fCnt := ⟨ps_continue.con fun σ H E ⟨g, Sb, H0, σ0, η, s, a, q⟩ => Res.ret0 (x := Fl.ct η) q a σ (a.drop Ob hO)⟩
def fExpr (fe : EV) : SV := fun η => M.bind (fe η) fun _ => M.ret (.nx η)
theorem s_expr (he : PED X W e fe) (hs : swapsWith e none pos.line X.env = pure false := by rfl) : PSD X W vs O O Ob Or (.Expr e pos) (fExpr fe) := ⟨(ps_expr he.pe hs).con fun σ H E ⟨g, Sb, H0, σ0, η, s, a, q⟩ =>
  modeB a q fun v d H' s' a' r q' => Res.ret0 (x := Fl.nx η) q' a' σ a'⟩
def fRet (fe : EV) : SV := fun η => M.bind (fe η) fun d => M.ret (.rt d η)
theorem s_ret (he : PED X W e fe) (hO : O.filter (fun i => decide (i ∈ Or)) = Or := by rfl) : PSD X W vs O On Ob Or (.Return (some e) pos) (fRet fe) := ⟨(ps_ret he.pe).con fun σ H E ⟨g, Sb, H0, σ0, η, s, a, q⟩ =>
  modeB a q fun v d H' s' a' r q' => Res.ret0 (x := Fl.rt d η) q' a' v σ r (a'.drop Or hO)⟩
def fRetN : SV := fun η => M.ret (.rt .none η)
theorem s_retN (hO : O.filter (fun i => decide (i ∈ Or)) = Or := by rfl) : PSD X W vs O On Ob Or (.Return none pos) fRetN := ⟨ps_retN.con fun σ H E ⟨g, Sb, H0, σ0, η, s, a, q⟩ => Res.ret0 (x := Fl.rt .none η) q a _ σ .non (a.drop Or hO)⟩
def fIf (c : BV) (f h : SV) : SV := fun η => M.bind (c η) fun b => if b = true then f η else h η
theorem s_if {c : Expr} {fc : BV} (hc : PTD X W c fc) (ha : PSsD X W vs O On Ob Or a f) (hb : PSsD X W vs O On Ob Or b h) : PSD X W vs O On Ob Or (.If c a b pos) (fIf fc f h) := ⟨(ps_if hc.pt ha.ps hb.ps).con fun σ H E ⟨g, Sb, H0, σ0, η, s, a, q⟩ =>
  modeT a q fun b H' s' a' q' => by
    cases b with
    | true => exact ⟨g, Sb, H0, σ0, η, s', a', q'⟩
    | false => exact ⟨g, Sb, H0, σ0, η, s', a', q'⟩⟩
/-! ### stores -/
def fAsg (O : List Nat) (fe : EV) (gv : GV) : SV := fun η => M.bind (fe (wipeE η O)) fun d => M.bind (M.lift (gv d η)) fun η' => M.ret (.nx η')
theorem s_asg {tg : Expr} {us : List Nat} {gv : GV} (he : PED X W e fe) (hg : PGD X us tg gv) (hO : us.all (fun i => decide (i ∉ O)) = true := by rfl) (hv : inV vs us = true := by rfl) (hs : swapsWithSole [tg] e pos.line X.env = pure false := by rfl) (hw : swappedStores [tg] e X.env = pure none := by rfl)
    (h1 : (assignEach [tg] X.env).map (·.2) = [assign tg X.env] := by rfl) : PSD X W vs O O Ob Or (.Assign [tg] e pos) (fAsg O fe gv) := ⟨(ps_asg he.pe hg.pg hs hw h1).con fun σ H E ⟨g, Sb, H0, σ0, η, s, a, q⟩ => by
  have hO' : ∀ i ∈ us, i ∉ O := fun i hi => by have := List.all_eq_true.mp hO i hi; simpa using this
  refine modeA a q fun S v d H' s' a' at' r st r' q' => ?_
  obtain ⟨η', hη, q2⟩ := Res.lift (Res.bind0 q')
  exact ⟨g, S, wipeE η O, s', d, wipeE η' O, at', r, hg.gok.wp O hO' _ _ _ hη, fun σ' o at2 => Res.ret0 (x := Fl.nx η') (q2 H' a'.ext a'.ok) a' σ' (st us gv σ' η' hg.gok hO' hv o hη at2)⟩⟩
/-- x = e -/
def fSet (O : List Nat) (i : Nat) (fe : EV) : SV := fAsg O fe (gN i)
theorem gN_ok (i : Nat) : GOk [i] (gN i) := ⟨fun O h d η η' e => by
  cases e
  unfold gN
  rw [wipeE_set (h i (List.mem_singleton.mpr rfl))], fun d η η' e j h => by
  cases e
  exact List.getElem?_set_ne fun z => h (List.mem_singleton.mpr z.symm)⟩
theorem set_bridge {K : PySem.W.Frag} {g : G} {Sb : Addr → Prop} {H0 H' : Hp} {σ0 σ : St} {O : List Nat} {η : Env} {s' : DS} {i : Nat} {v : V} {d : D} {S : Addr → Prop} {E : Ends} (hO : decide (i ∉ O) = true) (hv : inV vs [i] = true) (a' : AtS K g Sb H0 vs σ0 O H' σ η s') (at' : At K g S H' σ (wipeE η O) s') (r : Dq g S H' v d)
    (st : ∀ us f σ' η', GOk us f → (∀ i ∈ us, i ∉ O) → inV vs us = true → Off us σ σ' → f d η = some η' → At K g S H' σ' (wipeE η' O) s' → AtS K g Sb H0 vs σ0 O H' σ' η' s') (q' : Res (WS W vs σ0) g H0 (M.bind (M.lift (gN i d η)) (fun η' => M.ret (.nx η')) s') (SQ K g Sb H0 vs σ0 On Ob Or E)) (hq : On = O) : E.nx (σ.set i (some v)) H' := by
  subst hq
  have hi : i ∉ On := by simpa using hO
  have hO' : ∀ j ∈ [i], j ∉ On := fun j hj => by rw [List.mem_singleton.mp hj]; exact hi
  obtain ⟨η', hη, q2⟩ := Res.lift (Res.bind0 q')
  have hη' : η.set i (some d) = η' := Option.some.inj hη
  refine Res.ret0 (x := Fl.nx η') (q2 H' a'.ext a'.ok) a' _ (st [i] (gN i) _ η' (gN_ok i) hO' hv Off.set hη ?_)
  rw [← hη', wipeE_set hi]
  exact at'.set r
theorem s_set {x : Str} {pos' : Pos} (i : Nat) (hN : X.N.Nodup) (he : PED X W e fe) (hi : X.N[i]? = some x := by rfl) (hx : Loc X.env.scope x := by first | exact .inl rfl | exact .inr rfl) (hO : decide (i ∉ O) = true := by rfl) (hv : inV vs [i] = true := by rfl) (hs : swapsWith e (some (.Name x pos')) pos.line X.env = pure false := by rfl)
    (hf : X.fn x = true ∨ X.env.scope.names.lookup x = some .local := by first | exact .inl rfl | exact .inr rfl) : PSD X W vs O O Ob Or (.Assign [.Name x pos'] e pos) (fSet O i fe) := ⟨(ps_set hN hi hx he.pe hs hf).con fun σ H E ⟨g, Sb, H0, σ0, η, s, a, q⟩ =>
  modeA a q fun S v d H' s' a' at' r st r' q' => set_bridge hO hv a' at' r st q' rfl⟩
/-! what holds no list -/
mutual
def noL : D → Bool
  | .none => true
  | .bool _ => true
  | .int _ => true
  | .str _ => true
  | .tuple ds => noLs ds
  | .list _ => false
  | .dict _ => false
def noLs : List D → Bool
  | [] => true
  | d :: ds => noL d && noLs ds
end
mutual
theorem Dq.noL {g : G} {S S' : Addr → Prop} {H : Hp} : ∀ (d : D) (v : V), Dq g S H v d → W3.noL d = true → Dq g S' H v d
  | .none, _, h, _ => by cases h; exact .non
  | .bool b, _, h, _ => by cases h; exact .bl b
  | .int i, _, h, _ => by cases h; exact .int i
  | .str x, _, h, _ => by cases h; exact .str x
  | .list ds, _, h, l => by simp [W3.noL] at l
  | .tuple ds, _, h, l => by
    cases h with
    | tup q r => exact .tup q (DqAll.noL ds _ r (by simpa [W3.noL] using l))
  | .dict kv, _, _, l => by simp [W3.noL] at l
theorem DqAll.noL {g : G} {S S' : Addr → Prop} {H : Hp} : ∀ (ds : List D) (vs : List V), DqAll g S H vs ds → W3.noLs ds = true → DqAll g S' H vs ds
  | [], _, h, _ => by cases h; exact .nil
  | d :: ds, _, h, l => by
    have l' : W3.noL d = true ∧ W3.noLs ds = true := by simpa [W3.noLs] using l
    cases h with
    | cons r t => exact .cons (Dq.noL d _ r l'.1) (DqAll.noL ds _ t l'.2)
end
/-- x = e, e looks at our lists, its value holds none -/
def fSetB (i : Nat) (fe : EV) : SV := fun η => M.bind (fe η) fun d => M.bind (M.lift (if noL d = true then some (η.set i (some d)) else none)) fun η' => M.ret (.nx η')
/-- a value that holds no list is set -/
theorem AtS.setB {K : PySem.W.Frag} {g : G} {Sb : Addr → Prop} {H0 H' : Hp} {σ0 σ : St} {O : List Nat} {η : Env} {s' : DS} {i : Nat} {v : V} {d : D} (a : AtS K g Sb H0 vs σ0 O H' σ η s') (hO : i ∉ O) (hv : inV vs [i] = true) (r : ∀ S, Dq g S H' v d) : AtS K g Sb H0 vs σ0 O H' (σ.set i (some v)) (η.set i (some d)) s' :=
  a.set (d := d) (gN_ok i) (fun j hj => by rw [List.mem_singleton.mp hj]; exact hO) hv Off.set rfl fun S at_ => by
    rw [wipeE_set hO]
    exact at_.set (r S)
theorem s_setB {x : Str} {pos' : Pos} (i : Nat) (hN : X.N.Nodup) (he : PED X W e fe) (hi : X.N[i]? = some x := by rfl) (hx : Loc X.env.scope x := by first | exact .inl rfl | exact .inr rfl) (hO : decide (i ∉ O) = true := by rfl) (hv : inV vs [i] = true := by rfl) (hs : swapsWith e (some (.Name x pos')) pos.line X.env = pure false := by rfl)
    (hf : X.fn x = true ∨ X.env.scope.names.lookup x = some .local := by first | exact .inl rfl | exact .inr rfl) : PSD X W vs O O Ob Or (.Assign [.Name x pos'] e pos) (fSetB i fe) := ⟨(ps_set hN hi hx he.pe hs hf).con fun σ H E ⟨g, Sb, H0, σ0, η, s, a, q⟩ =>
  modeB a q fun v d H' s' a' r q' => by
    obtain ⟨η', hη, q2⟩ := Res.lift (Res.bind0 q')
    split at hη
    · rename_i hn
      cases hη
      exact Res.ret0 (x := Fl.nx _) (q2 H' a'.ext a'.ok) a' _ (a'.setB (by simpa using hO) hv fun S => r.noL _ _ hn)
    · cases hη⟩
end
end W3

set_option Elab.async false
set_option linter.all false
set_option maxRecDepth 100000
set_option maxHeartbeats 4000000
/-! W3j: loops. -/
namespace W3
open PySem PySem.Spec L2

section
variable {X : Cx} {W : XW} {vs : Option (List Nat)} {O O1 On Ob Or : List Nat} {st : Stmt} {rest a b body : List Stmt} {e : Expr} {fe : EV} {f h : SV} {pos : Pos}
/-! ### for -/
def forGo (gv : GV) (f : SV) : List D → Env → M Fl
  | [], η => M.ret (.nx η)
  | d :: ds, η => M.bind (M.lift (gv d η)) fun η1 => M.bind (f η1) fun fl => match fl with
    | .nx η2 => forGo gv f ds η2
    | .ct η2 => forGo gv f ds η2
    | .bk η2 => M.ret (.nx η2)
    | .rt d η' => M.ret (.rt d η')
def fFor (O : List Nat) (src : IV) (gv : GV) (f : SV) : SV := fun η => M.bind (src (wipeE η O)) fun ds => forGo gv f ds η
theorem At.anti {K : PySem.W.Frag} {g : G} {S S' : Addr → Prop} {H : Hp} {σ : St} {η : Env} {s : DS} (a : At K g S H σ η s) (h : ∀ b, S' b → S b) (hs : ∀ b, g.st = some b → S' b) : At K g S' H σ η s :=
  ⟨a.gK, a.sok.sub h hs, fun i d e => let ⟨v, h1, h2⟩ := a.rep i d e; ⟨v, h1, h2.anti h⟩, a.ok, a.len⟩
theorem AtS.back {K : PySem.W.Frag} {g : G} {Sb : Addr → Prop} {H0 Hr H : Hp} {σ0 σ : St} {η : Env} {s : DS} (a : AtS K g Sb Hr vs σ0 O H σ η s) (e : Ext g H0 Hr) (h0 : ∀ b, g.st = some b → (∃ xs, H0 b = some (.lst xs)) ∧ ∃ o, H0 g.sc = some o) : AtS K g Sb H0 vs σ0 O H σ η s := by
  obtain ⟨OA, e1, e2, e3, x, e4⟩ := a.own
  exact ⟨e.trans a.ext, h0, a.trk, OA, e1, e2, fun p hp => ⟨(e3 p hp).1, e.none_ (fun b h => (h0 b h).1) (e3 p hp).2⟩, x, e4⟩
/-- from here on all but ours is told of -/
theorem AtS.adv2 {K : PySem.W.Frag} {g : G} {Sb : Addr → Prop} {H0 H : Hp} {σ0 σ : St} {η : Env} {s : DS} {OA : List (Nat × Addr)} (a : AtS K g Sb H0 vs σ0 O H σ η s) (e1 : OA.map (·.1) = O) (e2 : ∀ p ∈ OA, ∀ q ∈ OA, p.2 = q.2 ∨ p.1 = q.1 → p = q) (e3 : ∀ p ∈ OA, ¬ Sb p.2 ∧ H0 p.2 = none)
    (x : At K g (plusL Sb (OA.map (·.2))) H σ (wipeE η O) s) (e4 : ∀ p ∈ OA, OwnAt g (plusL Sb (OA.map (·.2))) H σ η p.1 p.2) :
    ∃ Hr, Ext g H0 Hr ∧ AtS K g Sb Hr vs σ0 O H σ η s ∧ (∀ H', Ext g Hr H' → Pres (fun b => plusL Sb (OA.map (·.2)) b ∨ H b = none) H H') ∧ ∀ OA' : List (Nat × Addr), (∀ p ∈ OA', ¬ Sb p.2 ∧ Hr p.2 = none) → ∀ b, plusL Sb (OA'.map (·.2)) b → plusL Sb (OA.map (·.2)) b ∨ H b = none := by
  let Hr : Hp := fun b => if b ∈ OA.map (·.2) then none else H b
  have rin : ∀ b, b ∈ OA.map (·.2) → Hr b = none := fun b h => if_pos h
  have rout : ∀ b, b ∉ OA.map (·.2) → Hr b = H b := fun b h => if_neg h
  have rs : ∀ b o, Hr b = some o → H b = some o := fun b o h => by
    by_cases z : b ∈ OA.map (·.2)
    · rw [rin b z] at h; cases h
    · rw [rout b z] at h; exact h
  have n0 : ∀ b o, H0 b = some o → b ∉ OA.map (·.2) := fun b o h z => by
    obtain ⟨p, hp, rfl⟩ := List.mem_map.mp z
    rw [(e3 p hp).2] at h
    cases h
  have er : Ext g Hr H := ⟨fun b o h _ _ => rs b o h, fun b ps h => ⟨#[], by rw [rs b _ h]; simp⟩, fun b e ⟨xs, h⟩ => ⟨xs, rs b _ h⟩⟩
  have e0r : Ext g H0 Hr := ⟨fun b o h n t => by rw [rout b (n0 b o h)]; exact a.ext.keep b o h n t, fun b ps h => by rw [rout b (n0 b _ h)]; exact a.ext.tab b ps h, fun b e ⟨xs, h⟩ => by rw [rout b (n0 b _ h)]; exact a.ext.sta b e ⟨xs, h⟩⟩
  refine ⟨Hr, e0r, ⟨er, fun b e => ?_, a.trk, OA, e1, e2, fun p hp => ⟨(e3 p hp).1, rin _ (List.mem_map.mpr ⟨p, hp, rfl⟩)⟩, x, e4⟩, fun H' e => ⟨fun b o h n t => e.keep b o (by rw [rout b fun z => n (.inl (.inr z))]; exact h) (fun z => n (.inl (.inl (a.hs b z.symm)))) t, fun b ps h => e.tab b ps ?_⟩, fun OA' h b hb => ?_⟩
  · obtain ⟨h1, o, h2⟩ := a.h0 b e
    obtain ⟨k1, k2, _⟩ := x.ok.st b e
    exact ⟨e0r.sta b e h1, _, (rout _ (n0 _ o h2)).trans k2⟩
  · rw [rout b fun z => ?_]
    · exact h
    · obtain ⟨p, hp, rfl⟩ := List.mem_map.mp z
      obtain ⟨_, d, _, h3⟩ := e4 p hp
      obtain ⟨o, h4, m4⟩ := h3.ob
      rw [h] at h4
      cases h4
      exact m4.tbl _ rfl
  · rcases hb with z | z
    · exact .inl (.inl z)
    · obtain ⟨p, hp, rfl⟩ := List.mem_map.mp z
      by_cases hz : p.2 ∈ OA.map (·.2)
      · exact .inl (.inr hz)
      · exact .inr ((rout _ hz).symm.trans (h p hp).2)
theorem s_for {tg iter : Expr} {us : List Nat} {gv : GV} {src : IV} (hp : PassesOwn (model X.prog X.w) X.A X.env X.xe) (hc : X.calm = true) (hi : PID X W tg iter src) (hg : PGD X us tg gv) (hb : PSsD X W vs O O O Or body f)
    (hO : us.all (fun i => decide (i ∉ O)) = true := by rfl) (hv : inV vs us = true := by rfl) (hs : ∀ x, foldedSetIterable iter X.env x = pure x := by intro _; rfl) : PSD X W vs O O Ob Or (.For tg iter body [] pos) (fFor O src gv f) := ⟨(ps_for hp hc hi.pi hg.pg hb.ps hs).con fun σ H E ⟨g, Sb, H0, σ0, η, s, a, q⟩ => by
  have hO' : ∀ i ∈ us, i ∉ O := fun i hi => by have := List.all_eq_true.mp hO i hi; simpa using this
  obtain ⟨OA, e1, e2, e3, x, e4⟩ := a.own
  refine ⟨g, _, _, s, x, (((Res.bind0 q).ext a.ext).wk a.trk).imp fun ds H1 s1 x1 k1 q1 J hJ => ?_⟩
  have a1 := a.step x1 k1
  have e4' : ∀ p ∈ OA, OwnAt g (plusL Sb (OA.map (·.2))) H1 σ η p.1 p.2 := fun p hp => by
    obtain ⟨o1, d, o2, o3⟩ := e4 p hp
    exact ⟨o1, d, o2, o3.ext x.sok.st x.ok.stl (fun z => (e3 p hp).1 (a.hs _ z.symm)) x1⟩
  obtain ⟨Hr, e0r, ar, pr, sr⟩ := a1.adv2 e1 e2 e3 (x.ext x1 k1) e4'
  let Wv : Nat → Nat → St → Hp → Prop := fun i m σ H => m = ds.length - i ∧ i ≤ ds.length ∧ ∃ η s, AtS X.K g Sb Hr vs σ0 O H σ η s ∧ Res (WS W vs σ0) g Hr (forGo gv f (ds.drop i) η s) (SQ X.K g Sb H0 vs σ0 O Ob Or E)
  refine ⟨Wv, ⟨ds.length, by simp, Nat.zero_le _, η, s1, ar, q1.ext e0r⟩, fun i m σ' H' w => ?_⟩
  obtain ⟨hm, hi, η', s', a', q'⟩ := w
  obtain ⟨y1, y2⟩ := hJ _ (fun _ h => h) i H' (pr H' a'.ext)
  by_cases hlt : i < ds.length
  · have hx : ds[i]? = some ds[i] := List.getElem?_eq_getElem hlt
    obtain ⟨go, yld⟩ := y1 _ hx
    rw [List.drop_eq_getElem_cons hlt] at q'
    unfold forGo at q'
    refine .inr ⟨go, fun σ2 H2 => Wv (i + 1) (ds.length - (i + 1)) σ2 H2, fun σ2 H2 h => ⟨_, by omega, h⟩, fun v H2 y => ?_⟩
    obtain ⟨sm, rx⟩ := yld v H2 y
    have a2 := a'.step (Ext.same sm) (a'.ok.same sm)
    obtain ⟨η1, hη, q2⟩ := Res.lift (Res.bind0 q')
    have q3 := q2 H2 a2.ext a2.ok
    obtain ⟨OA2, b1, b2, b3, x2, b4⟩ := a2.own
    refine ⟨g, _, wipeE η' O, s', ds[i], wipeE η1 O, x2, rx.anti (sr OA2 b3), hg.gok.wp O hO' _ _ _ hη, fun σ2 o at2 => ?_⟩
    have a3 : AtS X.K g Sb Hr vs σ0 O H2 σ2 η1 s' := ⟨a2.ext, a2.h0, a2.trk.step hv o, OA2, b1, b2, b3, at2, fun p hp => by
      have hi : p.1 ∉ us := fun z => hO' _ z (by rw [← b1]; exact List.mem_map.mpr ⟨p, hp, rfl⟩)
      obtain ⟨o1, d, o2, o3⟩ := b4 p hp
      exact ⟨(o.2 _ hi).trans o1, d, (hg.gok.off _ _ _ hη _ hi).trans o2, o3⟩⟩
    refine ⟨g, Sb, Hr, σ0, η1, s', a3, (Res.bind0 q3).imp fun fl H3 s3 x3 k3 q4 => ?_⟩
    cases fl with
    | nx η2 => exact fun σ3 a4 => ⟨rfl, hlt, η2, s3, a4, q4⟩
    | ct η2 => exact fun σ3 a4 => ⟨rfl, hlt, η2, s3, a4, q4⟩
    | bk η2 => exact fun σ3 a4 => Res.ret0 (x := Fl.nx η2) q4 a4 σ3 (a4.back e0r a.h0)
    | rt d η' => exact fun v σ3 r a4 => q4 H3 x3 k3 v σ3 r (a4.back e0r a.h0)
  · have e : i = ds.length := by omega
    subst e
    rw [List.drop_length] at q'
    exact .inl ⟨y2 (Nat.le_refl _), Res.ret0 (x := Fl.nx η') q' a' σ' (a'.back e0r a.h0)⟩⟩
/-! ### while -/
def whGo (c : BV) (f : SV) : Nat → SV
  | 0 => fun _ => M.bad
  | n + 1 => fun η => M.bind (c η) fun b => if b = true then M.bind (f η) fun fl => match fl with
    | .nx η2 => whGo c f n η2
    | .ct η2 => whGo c f n η2
    | .bk η2 => M.ret (.nx η2)
    | .rt d η' => M.ret (.rt d η') else M.ret (.nx η)
def fWh (N : Nat) (c : BV) (f : SV) : SV := whGo c f N
theorem s_while {c : Expr} {fc : BV} (N : Nat) (hp : PassesOwn (model X.prog X.w) X.A X.env X.xe) (hc : PTD X W c fc) (hb : PSsD X W vs O O O Or body f) : PSD X W vs O O Ob Or (.While c body [] pos) (fWh N fc f) := ⟨(ps_while hp hc.pt hb.ps).con fun σ H E ⟨g, Sb, H0, σ0, η, s, a, q⟩ => by
  let Wv : Nat → St → Hp → Prop := fun m σ H => ∃ η s, AtS X.K g Sb H0 vs σ0 O H σ η s ∧ Res (WS W vs σ0) g H0 (whGo fc f m η s) (SQ X.K g Sb H0 vs σ0 O Ob Or E)
  refine ⟨Wv, ⟨N, η, s, a, q⟩, fun m σ' H' w => ?_⟩
  obtain ⟨η', s', a', q'⟩ := w
  cases m with
  | zero => exact q'.elim
  | succ m =>
    unfold whGo at q'
    refine modeT a' q' fun b H2 s2 a2 q2 => ?_
    cases b with
    | false => exact Res.ret0 (x := Fl.nx η') q2 a2 σ' a2
    | true =>
      refine ⟨fun σ2 H2 => Wv m σ2 H2, fun σ2 H2 h => ⟨m, Nat.lt_succ_self m, h⟩, g, Sb, H0, σ0, η', s2, a2, (Res.bind0 q2).imp fun fl H3 s3 x3 k3 q4 => ?_⟩
      cases fl with
      | nx η2 => exact fun σ3 a4 => ⟨η2, s3, a4, q4⟩
      | ct η2 => exact fun σ3 a4 => ⟨η2, s3, a4, q4⟩
      | bk η2 => exact fun σ3 a4 => Res.ret0 (x := Fl.nx η2) q4 a4 σ3 a4
      | rt d η' => exact fun v σ3 r a4 => q4 H3 x3 k3 v σ3 r a4⟩
end
end W3

set_option Elab.async false
set_option linter.all false
set_option maxRecDepth 100000
set_option maxHeartbeats 4000000
/-! W3k: lists of ours. -/
namespace W3
open PySem PySem.Spec L2

section
variable {K : PySem.W.Frag} {g : G} {Sb : Addr → Prop} {H0 H H' : Hp} {vs : Option (List Nat)} {σ0 σ σ' : St} {O : List Nat} {η : Env} {s s' : DS} {W : XW} {OA : List (Nat × Addr)}
structure OwnB (K : PySem.W.Frag) (g : G) (Sb : Addr → Prop) (H0 : Hp) (O : List Nat) (H : Hp) (σ : St) (η : Env) (s : DS) (OA : List (Nat × Addr)) : Prop where
  names : OA.map (·.1) = O
  inj : ∀ p ∈ OA, ∀ q ∈ OA, p.2 = q.2 ∨ p.1 = q.1 → p = q
  fr : ∀ p ∈ OA, ¬ Sb p.2 ∧ H0 p.2 = none
  at_ : At K g (plusL Sb (OA.map (·.2))) H σ (wipeE η O) s
  own : ∀ p ∈ OA, OwnAt g (plusL Sb (OA.map (·.2))) H σ η p.1 p.2
theorem AtS.ob (a : AtS K g Sb H0 vs σ0 O H σ η s) : ∃ OA, OwnB K g Sb H0 O H σ η s OA := let ⟨OA, a1, a2, a3, a4, a5⟩ := a.own; ⟨OA, a1, a2, a3, a4, a5⟩
theorem OwnB.ats (b : OwnB K g Sb H0 O H σ η s OA) (e : Ext g H0 H) (h0 : ∀ a, g.st = some a → (∃ xs, H0 a = some (.lst xs)) ∧ ∃ o, H0 g.sc = some o) (t : Trk vs σ0 σ) : AtS K g Sb H0 vs σ0 O H σ η s := ⟨e, h0, t, OA, b.names, b.inj, b.fr, b.at_, b.own⟩
theorem OwnB.step (b : OwnB K g Sb H0 O H σ η s OA) (a : AtS K g Sb H0 vs σ0 O H σ η s) (e : Ext g H H') (k : Ok g H' s') : OwnB K g Sb H0 O H' σ η s' OA :=
  ⟨b.names, b.inj, b.fr, b.at_.ext e k, fun p hp => by
    obtain ⟨o1, d, o2, o3⟩ := b.own p hp
    exact ⟨o1, d, o2, o3.ext b.at_.sok.st b.at_.ok.stl (fun z => (b.fr p hp).1 (a.hs _ z.symm)) e⟩⟩
theorem modeO {β : Type} {fe : EV} {k : D → M β} {Q : β → Hp → DS → Prop} {Q' : VK} (a : AtS K g Sb H0 vs σ0 O H σ η s) (b : OwnB K g Sb H0 O H σ η s OA) (h : Res (WS W vs σ0) g H0 (M.bind (fe (wipeE η O)) k s) Q)
    (i : ∀ v d H' s', AtS K g Sb H0 vs σ0 O H' σ η s' → OwnB K g Sb H0 O H' σ η s' OA → Dq g (plusL Sb (OA.map (·.2))) H' v d → Res (WS W vs σ0) g H0 (k d s') Q → Q' v H') : tD K W fe σ H Q' :=
  tD.mk b.at_ ((((Res.bind0 h).ext a.ext).wk a.trk).imp fun d H1 s1 x1 k1 q v at1 r => i v d H1 s1 (a.step x1 k1) (b.step a x1 k1) r q)
theorem wipeE_setin {η : Env} {i : Nat} {o : Option D} : ∀ {vs : List Nat}, i ∈ vs → wipeE (η.set i o) vs = wipeE η vs
  | v :: vs, h => by
    unfold wipeE
    by_cases e : i ∈ vs
    · rw [wipeE_setin e]
    · have : i = v := (List.mem_cons.mp h).resolve_right e
      subst this
      rw [wipeE_set e, List.set_set]
theorem AtS.ne (a : AtS K g Sb H0 vs σ0 O H σ η s) {D : Addr} (h : H0 D = none) : ∀ b, g.st = some b → b ≠ D ∧ g.sc ≠ D := fun b e => by
  obtain ⟨⟨xs, h1⟩, o, h2⟩ := a.h0 b e
  exact ⟨ne_of_none h1 h, ne_of_none h2 h⟩
/-- what is ours is written -/
theorem AtS.writeO (a : AtS K g Sb H0 vs σ0 O H σ η s) (b : OwnB K g Sb H0 O H σ η s OA) {p : Nat × Addr} (hp : p ∈ OA) {o' : HO} {d' : D} (m' : Mu o') (r : OwnV g (plusL Sb (OA.map (·.2))) (upd H p.2 o') p.2 d') (hl : p.1 < η.length) :
    AtS K g Sb H0 vs σ0 O (upd H p.2 o') σ (η.set p.1 (some d')) s := by
  obtain ⟨o1, d0, o2, o3⟩ := b.own p hp
  obtain ⟨o, h3, m⟩ := o3.ob
  have hS : plusL Sb (OA.map (·.2)) p.2 := .inr (List.mem_map.mpr ⟨p, hp, rfl⟩)
  have hi : p.1 ∈ O := by rw [← b.names]; exact List.mem_map.mpr ⟨p, hp, rfl⟩
  have ne := a.ne (b.fr p hp).2
  have pr : Pres (plusL Sb (OA.map (·.2))) H (upd H p.2 o') := .updO hS h3 m
  refine OwnB.ats (OA := OA) ⟨b.names, b.inj, b.fr, ?_, fun q hq => ?_⟩ (a.ext.updN (b.fr p hp).2 fun b e => (a.h0 b e).1) a.h0 a.trk
  · rw [wipeE_setin hi]
    exact b.at_.updO hS h3 m' ne
  · by_cases e : q = p
    · subst e
      exact ⟨o1, d', by rw [List.getElem?_set_self hl], r⟩
    · obtain ⟨q1, dq, q2, q3⟩ := b.own q hq
      have n1 : q.1 ≠ p.1 := fun z => e (b.inj q hq p hp (.inr z))
      have n2 : q.2 ≠ p.2 := fun z => e (b.inj q hq p hp (.inl z))
      exact ⟨q1, dq, by rw [List.getElem?_set_ne (Ne.symm n1)]; exact q2, q3.imp (fun o h _ => by rw [upd_ne n2]; exact h) fun _ _ r => r.pres b.at_.sok.mu pr⟩
/-- a list of ours is written -/
theorem AtS.write (a : AtS K g Sb H0 vs σ0 O H σ η s) (b : OwnB K g Sb H0 O H σ η s OA) {p : Nat × Addr} (hp : p ∈ OA) {ys : List V} {ds' : List D} (r : DqAll g (plusL Sb (OA.map (·.2))) H ys ds') (hl : p.1 < η.length) :
    AtS K g Sb H0 vs σ0 O (upd H p.2 (.lst ys)) σ (η.set p.1 (some (.list ds'))) s := by
  obtain ⟨o1, d0, o2, o3⟩ := b.own p hp
  obtain ⟨o, h3, m⟩ := o3.ob
  have hS : plusL Sb (OA.map (·.2)) p.2 := .inr (List.mem_map.mpr ⟨p, hp, rfl⟩)
  exact a.writeO b hp .lst (.lst upd_same (r.pres b.at_.sok.mu (.updO hS h3 m))) hl
/-- a new list becomes ours -/
theorem AtS.takeB (a : AtS K g Sb H0 vs σ0 O H σ η s) (b : OwnB K g Sb H0 O H σ η s OA) {i : Nat} {D : Addr} {d0 : PyData} (hi : i ∉ O) (hl : i < η.length) (hv : inV vs [i] = true) (e : Ext g H H') (k : Ok g H' s') (n : H D = none) (r : OwnV g (plus (plusL Sb (OA.map (·.2))) D) H' D d0) :
    OwnB K g Sb H0 (i :: O) H' (σ.set i (some (.ref D))) (η.set i (some d0)) s' ((i, D) :: OA) := by
  obtain ⟨o0, h, m0⟩ := r.ob
  have hS := b.at_.sok.st
  have av : ∀ c, plusL Sb (D :: OA.map (·.2)) c → plusL Sb (OA.map (·.2)) c ∨ H c = none := fun c h => by
    rcases h with h | h
    · exact .inl (.inl h)
    · rcases List.mem_cons.mp h with h | h
      · exact .inr (by rw [h]; exact n)
      · exact .inl (.inr h)
  have hS' : ∀ c, g.st = some c → plusL Sb (D :: OA.map (·.2)) c := fun c h => .inl (a.hs c h)
  have nD : ¬ plusL Sb (OA.map (·.2)) D := not_S b.at_.sok n
  have hl2 : i < σ.length := by rw [a.len]; exact hl
  refine ⟨by rw [List.map_cons, b.names], fun p hp q hq h => ?_, fun p hp => ?_, ⟨b.at_.gK, ⟨hS', fun c hc => ?_⟩, fun j d hj => ?_, k, ?_⟩, fun p hp => ?_⟩
  · rcases List.mem_cons.mp hp with hp | hp <;> rcases List.mem_cons.mp hq with hq | hq
    · rw [hp, hq]
    · subst hp
      rcases h with h | h
      · exact absurd (.inr (List.mem_map.mpr ⟨q, hq, h.symm⟩)) nD
      · exact absurd (by rw [← b.names]; exact List.mem_map.mpr ⟨q, hq, h.symm⟩) hi
    · subst hq
      rcases h with h | h
      · exact absurd (.inr (List.mem_map.mpr ⟨p, hp, h⟩)) nD
      · exact absurd (by rw [← b.names]; exact List.mem_map.mpr ⟨p, hp, h⟩) hi
    · exact b.inj p hp q hq h
  · rcases List.mem_cons.mp hp with hp | hp
    · subst hp
      exact ⟨fun z => nD (.inl z), a.ext.none_ (fun b e => (a.h0 b e).1) n⟩
    · exact b.fr p hp
  · rcases av c hc with z | z
    · exact (b.at_.sok.ext e b.at_.ok.stl).trk c z
    · by_cases ec : c = D
      · subst ec
        exact ⟨_, h, m0⟩
      · rcases hc with hc | hc
        · exact (b.at_.sok.ext e b.at_.ok.stl).trk c (.inl hc)
        · rcases List.mem_cons.mp hc with hc | hc
          · exact absurd hc ec
          · exact (b.at_.sok.ext e b.at_.ok.stl).trk c (.inr hc)
  · obtain ⟨n1, n2⟩ := wipeE_some hj
    have ne : i ≠ j := fun z => n1 (by rw [z]; exact List.mem_cons_self)
    rw [List.getElem?_set_ne ne] at n2 ⊢
    obtain ⟨v, h1, h2⟩ := b.at_.rep j d (by rw [wipeE_out fun z => n1 (List.mem_cons_of_mem _ z)]; exact n2)
    exact ⟨v, h1, (h2.av av).ext hS' a.ok.stl e⟩
  · rw [wipeE_length, List.length_set, List.length_set]
    exact a.len
  · rcases List.mem_cons.mp hp with hp | hp
    · subst hp
      refine ⟨by rw [List.getElem?_set_self hl2], d0, by rw [List.getElem?_set_self hl], r.anti fun c hc => ?_⟩
      rcases hc with hc | hc
      · exact .inl (.inl hc)
      · rcases List.mem_cons.mp hc with hc | hc
        · exact .inr hc
        · exact .inl (.inr hc)
    · have ne : i ≠ p.1 := fun z => hi (by rw [← b.names, z]; exact List.mem_map.mpr ⟨p, hp, rfl⟩)
      obtain ⟨o1, dp, o2, o3⟩ := b.own p hp
      exact ⟨by rw [List.getElem?_set_ne ne]; exact o1, dp, by rw [List.getElem?_set_ne ne]; exact o2, o3.imp (fun o q m => e.keep _ _ q (fun z => (b.fr p hp).1 (a.hs _ z.symm)) m.tbl) fun _ _ r => (r.av av).ext hS' a.ok.stl e⟩
theorem AtS.take (a : AtS K g Sb H0 vs σ0 O H σ η s) (b : OwnB K g Sb H0 O H σ η s OA) {i : Nat} {D : Addr} {d0 : PyData} (hi : i ∉ O) (hl : i < η.length) (hv : inV vs [i] = true) (e : Ext g H H') (k : Ok g H' s') (n : H D = none) (r : OwnV g (plus (plusL Sb (OA.map (·.2))) D) H' D d0) :
    AtS K g Sb H0 vs σ0 (i :: O) H' (σ.set i (some (.ref D))) (η.set i (some d0)) s' := (a.takeB b hi hl hv e k n r).ats (a.ext.trans e) a.h0 (a.trk.step hv .set)
/-- a name that is not ours is set -/
theorem OwnB.set (b : OwnB K g Sb H0 O H σ η s OA) {i : Nat} {v : V} {d : PyData} (hi : i ∉ O) (r : Dq g (plusL Sb (OA.map (·.2))) H v d) : OwnB K g Sb H0 O H (σ.set i (some v)) (η.set i (some d)) s OA :=
  ⟨b.names, b.inj, b.fr, by rw [wipeE_set hi]; exact b.at_.set r, fun p hp => by
    have ne : i ≠ p.1 := fun z => hi (by rw [← b.names, z]; exact List.mem_map.mpr ⟨p, hp, rfl⟩)
    obtain ⟨o1, dp, o2, o3⟩ := b.own p hp
    exact ⟨by rw [List.getElem?_set_ne ne]; exact o1, dp, by rw [List.getElem?_set_ne ne]; exact o2, o3⟩⟩
end

/-! ### expressions that make a new list -/
def tF (K : PySem.W.Frag) (W : XW) (f : EV) : TE := fun σ H Q => ∃ g S η s, At K g S H σ η s ∧ Res (W σ) g H (f η s) fun d H' _ => ∀ a, H a = none → OwnV g (plus S a) H' a d → Q (.ref a) H'
structure PEF (X : Cx) (W : XW) (e : Expr) (f : EV) : Prop where
  pe : PE X e (tF X.K W f)
section
variable {X : Cx} {W : XW} {vs : Option (List Nat)} {O On Ob Or : List Nat} {e : Expr} {es : List Expr} {fe : EV} {ga : AV} {pos : Pos}
theorem dq_plus {g : G} {S : Addr → Prop} {H : Hp} {p : Addr} {vs : List V} {ds : List D} {o : HO} (k : SOk g S H) (hp : H p = none) (r : DqAll g S H vs ds) : DqAll g (plus S p) (upd H p o) vs ds := (r.av (plus_av hp)).pres (plus_mu k hp) (plus_pres hp)
theorem f_lst (h : PAD X W es ga) : PEF X W (.List es pos) (eLst ga) := ⟨(pe_lst h.pa).con fun σ H Q ⟨g, S, η, s, at_, q⟩ =>
  tA.mk at_ ((Res.bind0 q).imp fun ds H1 s1 e1 k1 q1 vs at1 rs => by
    obtain ⟨z, hz, q2⟩ := Res.lift q1
    split at hz
    · cases hz
      refine ⟨by rw [rs.length]; assumption, fun p hp => ?_⟩
      exact q2 _ (e1.trans (Ext.same (same_upd hp))) (k1.same (same_upd hp)) p (e1.none_ at_.ok.stl hp) (.lst upd_same (dq_plus at1.sok hp rs))
    · cases hz)⟩
theorem f_lc {elt tg iter : Expr} {ifs : List Expr} {scope : Scope} {own : List (Str × Nat)} {pos : Pos} {src : IV} {f : GV} {t : BV} {e : EV} {us : List Nat} (hc : X.calm = true) (hN : X.N.Nodup) (ok : BlkOk X.N X.env.scope scope own) (hu : ∀ i ∈ us, i ∈ own.map (·.2)) (hi : PID X W tg iter src)
    (hg : Blk X scope fun Y => PGD Y us tg f) (ht : Blk X scope fun Y => PTsD Y WF ifs t) (he : Blk X scope fun Y => PED Y WF elt e) (hs : ∀ x, foldedSetIterable iter X.env x = pure x := by intro _; rfl) :
    PEF X W (.ListComp elt [⟨tg, iter, ifs, 0⟩] scope pos) (eLc src f t e (own.map (·.2))) := ⟨(pe_lc hc hN hi.pi ok (fun s H C cl fp => (hg s H C cl fp).pg) (fun s H C cl fp => (ht s H C cl fp).pt) (fun s H C cl fp => (he s H C cl fp).pe) hs).con fun σ H Q ⟨g, S, η, s, at_, q⟩ =>
  ⟨g, S, η, s, at_, (Res.bind0 q).imp fun ds H1 s1 e1 k1 q1 J hJ D hD => by
    have at1 := at_.ext e1 k1
    exact lc_W (FIN := fun H => Q (.ref D) H) (accd0 := []) (kk := finL) hu ((Off.ofwipe _).wipe) (hJ.plus (o := .lst []) hD) (.inr rfl) (at1.ok.ne hD) ⟨upd_same, .nil, (at1.plus hD []).wipe _⟩ (Ext.same (same_upd hD)) hD at1.ok.stl (q1.ext e1) (fun l s h => finL_le h) fun H s acc accd l x1 _ q2 => by
      obtain ⟨z, hz, q3⟩ := Res.lift q2
      split at hz
      · cases hz
        exact q3 H x1 l.at_.ok D (e1.none_ at_.ok.stl hD) (.lst l.here l.all)
      · cases hz⟩⟩
/-- list(e): e a list or a tuple -/
theorem f_list {a : Expr} {p : Pos} (hg : Gl X "list") (hm : X.mg "list" = none) (ha : PAD X W [a] ga)
    (he : starEach [a] X.env = (false, eval a X.env) :: starEach [] X.env := by rfl) (hpl : (backTo pos (starEach [] X.env)).any (·.1) = false := by rfl) : PEF X W (.Call (.Name "list" p) [a] [] pos) (eCl listD ga) :=
  ⟨(pe_callTy call_list_of hg hm (by decide +kernel) ha.pa (by decide) (by decide) he hpl).con fun σ H Q ⟨g, S, η, s, at_, q⟩ =>
    tA.mk at_ ((Res.bind0 q).imp fun ds H1 s1 e1 k1 q1 vs at1 rs => by
      obtain ⟨z, hz, q2⟩ := Res.lift q1
      have key : ∀ xs ds, DqAll g S H1 xs ds → z = .list ds → ∀ p, H1 p = none → Q (.ref p) (upd H1 p (.lst xs)) := fun xs ds r ez p hp => by
        subst ez
        exact q2 _ (e1.trans (Ext.same (same_upd hp))) (k1.same (same_upd hp)) p (e1.none_ at_.ok.stl hp) (.lst upd_same (dq_plus at1.sok hp r))
      unfold listD at hz
      split at hz
      · cases hz
        cases rs with
        | cons r1 r2 =>
          cases r2
          cases r1 with
          | lst n e a => exact ⟨_, _, rfl, .inl (.of e), key _ _ a rfl⟩
      · cases hz
        cases rs with
        | cons r1 r2 =>
          cases r2
          cases r1 with
          | tup e a => exact ⟨_, _, rfl, .inr (at_.gK ▸ e.seqT), key _ _ a rfl⟩
      · cases hz)⟩
/-! ### statements on lists of ours -/
/-- x = a new list, ours -/
def ownE (i : Nat) (d : D) (η : Env) : Option Env := match d with
  | .list ds => if i < η.length then some (η.set i (some (.list ds))) else none
  | .dict kd => if i < η.length then some (η.set i (some (.dict kd))) else none
  | _ => none
theorem ownE_some {i : Nat} {d : D} {η η' : Env} (h : ownE i d η = some η') : i < η.length ∧ η' = η.set i (some d) := by
  unfold ownE at h
  split at h
  · split at h
    · cases h
      exact ⟨by assumption, rfl⟩
    · cases h
  · split at h
    · cases h
      exact ⟨by assumption, rfl⟩
    · cases h
  · cases h
def fOwn (O : List Nat) (i : Nat) (fe : EV) : SV := fun η => M.bind (fe (wipeE η O)) fun d => M.bind (M.lift (ownE i d η)) fun η' => M.ret (.nx η')
theorem own_bridge {K : PySem.W.Frag} {g : G} {Sb : Addr → Prop} {H0 H : Hp} {σ0 σ : St} {η : Env} {s : DS} {E : Ends} {i : Nat} (hO : decide (i ∉ O) = true) (hv : inV vs [i] = true) (a : AtS K g Sb H0 vs σ0 O H σ η s) (q : Res (WS W vs σ0) g H0 (fOwn O i fe η s) (SQ K g Sb H0 vs σ0 (i :: O) Ob Or E))
    : tF K W fe σ H fun x H1 => gName i x σ H1 E.nx := by
  obtain ⟨OA, b⟩ := a.ob
  refine ⟨g, _, _, s, b.at_, (((Res.bind0 q).ext a.ext).wk a.trk).imp fun d H1 s1 x1 k1 q1 => ?_⟩
  obtain ⟨η', hη, q2⟩ := Res.lift (Res.bind0 q1)
  obtain ⟨hl, rfl⟩ := ownE_some hη
  intro D n r
  exact Res.ret0 (x := Fl.nx _) (q2 H1 (a.ext.trans x1) k1) (a.step x1 k1) _ (a.take b (by simpa using hO) hl hv x1 k1 n r)
theorem s_own {x : Str} {pos' : Pos} (i : Nat) (hN : X.N.Nodup) (he : PEF X W e fe) (hi : X.N[i]? = some x := by rfl) (hx : Loc X.env.scope x := by first | exact .inl rfl | exact .inr rfl) (hO : decide (i ∉ O) = true := by rfl) (hv : inV vs [i] = true := by rfl) (hs : swapsWith e (some (.Name x pos')) pos.line X.env = pure false := by rfl)
    (hf : X.fn x = true ∨ X.env.scope.names.lookup x = some .local := by first | exact .inl rfl | exact .inr rfl) : PSD X W vs O (i :: O) Ob Or (.Assign [.Name x pos'] e pos) (fOwn O i fe) := ⟨(ps_set hN hi hx he.pe hs hf).con fun σ H E ⟨g, Sb, H0, σ0, η, s, a, q⟩ => own_bridge hO hv a q⟩
section
variable {elt tg iter : Expr} {ifs : List Expr} {scope : Scope} {own : List (Str × Nat)} {src : IV} {gv : GV} {t : BV} {ev : EV} {us : List Nat} {y : Str} {py spos : Pos}
theorem s_setLc (i : Nat) (hc : X.calm = true) (hN : X.N.Nodup) (ok : BlkOk X.N X.env.scope scope own) (hu : ∀ i ∈ us, i ∈ own.map (·.2)) (hi : PID X W tg iter src)
    (hg : Blk X scope fun Y => PGD Y us tg gv) (ht : Blk X scope fun Y => PTsD Y WF ifs t) (he : Blk X scope fun Y => PED Y WF elt ev) (hy : X.N[i]? = some y := by rfl) (hyl : X.env.scope.names.lookup y = some .local := by rfl) (hO : decide (i ∉ O) = true := by rfl) (hv : inV vs [i] = true := by rfl)
    (hk : X.env.scope.kind = .function := by rfl) (hl : (py.line == pos.line) = true := by rfl) (ha : (scope.names.any fun (n, k) => n == y && (k == .local || k == .cell)) = false := by decide) (hs : ∀ x, foldedSetIterable iter X.env x = pure x := by intro _; rfl) :
    PSD X W vs O O Ob Or (.Assign [.Name y py] (.ListComp elt [⟨tg, iter, ifs, 0⟩] scope pos) spos) (fSet O i (eLc src gv t ev (own.map (·.2)))) :=
  ⟨(ps_setLc hc hN hy hyl (sw_true hk hyl hl ha) hi.pi ok (fun s H C cl fp => (hg s H C cl fp).pg) (fun s H C cl fp => (ht s H C cl fp).pt) (fun s H C cl fp => (he s H C cl fp).pe) hs).con fun σ H E ⟨g, Sb, H0, σ0, η, s, a, q⟩ => by
    have key : tD X.K W (eLc src gv t ev (own.map (·.2))) σ H fun x H1 => gName i x σ H1 E.nx := modeA a q fun S v d H' s' a' at' r st r' q' => set_bridge hO hv a' at' r st q' rfl
    obtain ⟨g', S', η', s', at', q'⟩ := key
    exact ⟨g', S', η', s', at', (Res.bind q').imp fun ds H1 s1 e1 k1 q1 J hJ => lc_bridge hu (at'.ext e1 k1) hJ q1⟩⟩
theorem s_ownLc (i : Nat) (hc : X.calm = true) (hN : X.N.Nodup) (ok : BlkOk X.N X.env.scope scope own) (hu : ∀ i ∈ us, i ∈ own.map (·.2)) (hi : PID X W tg iter src)
    (hg : Blk X scope fun Y => PGD Y us tg gv) (ht : Blk X scope fun Y => PTsD Y WF ifs t) (he : Blk X scope fun Y => PED Y WF elt ev) (hy : X.N[i]? = some y := by rfl) (hyl : X.env.scope.names.lookup y = some .local := by rfl) (hO : decide (i ∉ O) = true := by rfl) (hv : inV vs [i] = true := by rfl)
    (hk : X.env.scope.kind = .function := by rfl) (hl : (py.line == pos.line) = true := by rfl) (ha : (scope.names.any fun (n, k) => n == y && (k == .local || k == .cell)) = false := by decide) (hs : ∀ x, foldedSetIterable iter X.env x = pure x := by intro _; rfl) :
    PSD X W vs O (i :: O) Ob Or (.Assign [.Name y py] (.ListComp elt [⟨tg, iter, ifs, 0⟩] scope pos) spos) (fOwn O i (eLc src gv t ev (own.map (·.2)))) :=
  ⟨(ps_setLc hc hN hy hyl (sw_true hk hyl hl ha) hi.pi ok (fun s H C cl fp => (hg s H C cl fp).pg) (fun s H C cl fp => (ht s H C cl fp).pt) (fun s H C cl fp => (he s H C cl fp).pe) hs).con fun σ H E ⟨g, Sb, H0, σ0, η, s, a, q⟩ => by
    obtain ⟨g', S', η', s', at', q'⟩ := own_bridge hO hv a q
    refine ⟨g', S', η', s', at', (Res.bind0 q').imp fun ds H1 s1 e1 k1 q1 J hJ D hD => ?_⟩
    have at1 := at'.ext e1 k1
    exact lc_W (FIN := fun H => gName i (.ref D) σ H E.nx) (accd0 := []) (kk := finL) hu ((Off.ofwipe _).wipe) (hJ.plus (o := .lst []) hD) (.inr rfl) (at1.ok.ne hD) ⟨upd_same, .nil, (at1.plus hD []).wipe _⟩ (Ext.same (same_upd hD)) hD at1.ok.stl (q1.ext e1) (fun l s h => finL_le h) fun H s acc accd l x1 _ q2 => by
      obtain ⟨z, hz, q3⟩ := Res.lift q2
      split at hz
      · cases hz
        exact q3 H x1 l.at_.ok D (e1.none_ at'.ok.stl hD) (.lst l.here l.all)
      · cases hz⟩
end
/-- x.append(e) -/
def appE (i : Nat) (d : D) (η : Env) : Option Env := match η[i]? with
  | some (some (.list ds)) => if ds.length < sizeLine then some (η.set i (some (.list (ds ++ [d])))) else none
  | _ => none
/-- a list stands there -/
def lstAt (i : Nat) (η : Env) : Option Unit := match η[i]? with
  | some (some (.list _)) => some ()
  | _ => none
theorem lstAt_some {i : Nat} {η : Env} {u : Unit} (h : lstAt i η = some u) : ∃ ds, η[i]? = some (some (.list ds)) := by
  unfold lstAt at h
  split at h
  · exact ⟨_, by assumption⟩
  · cases h
def fApp (O : List Nat) (i : Nat) (fe : EV) : SV := fun η => M.bind (M.lift (lstAt i η)) fun _ => M.bind (fe (wipeE η O)) fun d => M.bind (M.lift (appE i d η)) fun η' => M.ret (.nx η')
theorem lt_of_get {η : Env} {i : Nat} {o : Option D} (h : η[i]? = some o) : i < η.length := by
  by_cases l : i < η.length
  · exact l
  · rw [List.getElem?_eq_none (by omega)] at h
    cases h
theorem OwnB.get {K : PySem.W.Frag} {g : G} {Sb : Addr → Prop} {H0 H : Hp} {σ : St} {η : Env} {s : DS} {OA : List (Nat × Addr)} (b : OwnB K g Sb H0 O H σ η s OA) {i : Nat} (hi : decide (i ∈ O) = true) : ∃ p ∈ OA, p.1 = i := by
  have : i ∈ O := by simpa using hi
  rw [← b.names] at this
  obtain ⟨p, hp, e⟩ := List.mem_map.mp this
  exact ⟨p, hp, e⟩
theorem s_app {x : Str} {pn pa pc : Pos} (i : Nat) (he : PED X W e fe) (hi : X.N[i]? = some x := by rfl) (hvis : Vis X.env.scope x := by first | exact Or.inl rfl | exact Or.inr (Or.inl rfl) | exact Or.inr (Or.inr rfl)) (hO : decide (i ∈ O) = true := by rfl) (hd : (x == ("__debug__" : Str)) = false := by decide) (hcd : (x == ("__classdict__" : Str)) = false := by decide)
    (hs : swapsWith (.Call (.Attribute (.Name x pn) "append" pa) [e] [] pc) none pos.line X.env = pure false := by rfl)
    (hbase : attributeBase (.Name x pn) "append" X.env (eval (.Name x pn) X.env) = eval (.Name x pn) X.env := by rfl)
    (hfew : ((backTo pc (starEach [e] X.env)).all (fun x => !x.1) && (backToKw pc (keywordEach [] X.env)).all (fun x => x.1.isSome) && decide ([e].length + ([] : List Keyword).length + (if ([] : List Keyword).isEmpty then 0 else 1) < 30)) = true := by rfl)
    (hline : (pa.endLine == pc.line) = true := by rfl) (hst : starEach [e] X.env = (false, eval e X.env) :: starEach [] X.env := by rfl) (hplain : (backTo pc (starEach [] X.env)).any (·.1) = false := by rfl) :
    PSD X W vs O O Ob Or (.Expr (.Call (.Attribute (.Name x pn) "append" pa) [e] [] pc) pos) (fApp O i fe) :=
  ⟨(ps_expr (pe_bm PySem.F.plainAttrs_list PySem.F.slot_list_append PySem.F.type_list_append mt_append (pe_var hi hvis hd hcd) (pa_cons he.pe pa_nil hst) hbase hfew hline hst hplain) hs).con fun σ H E ⟨g, Sb, H0, σ0, η, s, a, q⟩ => by
    obtain ⟨OA, b⟩ := a.ob
    obtain ⟨p, hp, rfl⟩ := b.get hO
    obtain ⟨_, hu, q⟩ := Res.lift (Res.bind0 q)
    have q := q H a.ext a.ok
    obtain ⟨ds, o2'⟩ := lstAt_some hu
    obtain ⟨o1, d0, o2, o3⟩ := b.own p hp
    rw [o2'] at o2
    cases o2
    obtain ⟨xs, o3, o4⟩ := o3.isList
    refine ⟨_, o1, .inl ⟨rfl, xs, .of o3⟩, modeO a b q fun v d H' s' a' b' r q' => ?_⟩
    obtain ⟨η', hη, q2⟩ := Res.lift (Res.bind0 q')
    obtain ⟨o1, d0, o2, o3⟩ := b'.own p hp
    rw [o2'] at o2
    cases o2
    obtain ⟨xs, o3, o4⟩ := o3.isList
    unfold appE at hη
    rw [o2'] at hη
    dsimp only at hη
    split at hη
    · rename_i hz
      cases hη
      refine ⟨_, xs, v, rfl, rfl, o3, by rw [o4.length]; exact hz, ?_⟩
      have aw := a'.write b' hp (o4.append (.cons r .nil)) (lt_of_get o2')
      exact Res.ret0 (x := Fl.nx _) (q2 H' a'.ext a'.ok) aw _ aw
    · cases hη⟩
end
end W3

set_option Elab.async false
set_option linter.all false
set_option maxRecDepth 100000
set_option maxHeartbeats 4000000
/-! W3l: stores into lists of ours, op=, raise, try. -/
namespace W3
open PySem PySem.Spec L2

section
variable {X : Cx} {W : XW} {vs : Option (List Nat)} {O On Ob Or : List Nat} {e ei : Expr} {es : List Expr} {fe fi : EV} {ga : AV} {pos : Pos}
/-- x[i] = e -/
def stE (i : Nat) (k d : D) (η : Env) : Option Env := match k, η[i]? with
  | .int k, some (some (.list ds)) => (ixN ds.length k).map fun j => η.set i (some (.list (ds.set j d)))
  | _, _ => none
def fSto (O : List Nat) (i : Nat) (fi fe : EV) : SV := fun η => M.bind (fe (wipeE η O)) fun d => M.bind (fi η) fun k => M.bind (M.lift (stE i k d η)) fun η' => M.ret (.nx η')
def fStoB (i : Nat) (fi fe : EV) : SV := fun η => M.bind (fe η) fun d => M.bind (M.lift (if noL d = true then some () else none)) fun _ => M.bind (fi η) fun k => M.bind (M.lift (stE i k d η)) fun η' => M.ret (.nx η')
theorem DqAll.set {g : G} {S : Addr → Prop} {H : Hp} {v : V} {d : D} (r : Dq g S H v d) : ∀ {vs : List V} {ds : List D} (j : Nat), DqAll g S H vs ds → DqAll g S H (vs.set j v) (ds.set j d)
  | _, _, _, .nil => .nil
  | _, _, 0, .cons _ t => .cons r t
  | _, _, j + 1, .cons a t => .cons a (DqAll.set r j t)
theorem sto_bridge {K : PySem.W.Frag} {g : G} {Sb : Addr → Prop} {H0 H : Hp} {σ0 σ : St} {η : Env} {s : DS} {E : Ends} {i : Nat} {OA : List (Nat × Addr)} {v : V} {d : D} (hO : decide (i ∈ O) = true) (a : AtS K g Sb H0 vs σ0 O H σ η s) (b : OwnB K g Sb H0 O H σ η s OA) (r : Dq g (plusL Sb (OA.map (·.2))) H v d)
    (q : Res (WS W vs σ0) g H0 (M.bind (fi η) (fun k => M.bind (M.lift (stE i k d η)) fun η' => M.ret (.nx η')) s) (SQ K g Sb H0 vs σ0 O Ob Or E)) :
    (fun σ H Q => ∃ x, σ[i]? = some (some x) ∧ Q x H : TE) σ H fun o H1 => tD K W fi σ H1 fun k H2 => rSetL o k v H2 fun H3 => E.nx σ H3 := by
  obtain ⟨p, hp, rfl⟩ := b.get hO
  obtain ⟨o1, d0, o2, o3⟩ := b.own p hp
  refine ⟨_, o1, tD.mk a.all' ((((Res.bind0 q).ext a.ext).wk a.trk).imp fun k H1 s1 x1 k1 q1 vk at1 rk => ?_)⟩
  have a' := a.step x1 k1
  have b' := b.step a x1 k1
  obtain ⟨η', hη, q2⟩ := Res.lift (Res.bind0 q1)
  obtain ⟨o1, d0, o2, o3⟩ := b'.own p hp
  unfold stE at hη
  rw [o2] at hη
  split at hη
  · rename_i ds' e
    cases e
    obtain ⟨xs, o3, o4⟩ := o3.isList
    obtain ⟨j, hj, e2⟩ := Option.map_eq_some_iff.mp hη
    subst e2
    cases rk
    have aw := a'.write b' hp (o4.set (r.ext b.at_.sok.st b.at_.ok.stl x1) j) (lt_of_get o2)
    exact ⟨p.2, xs, _, j, rfl, rfl, o3, by rw [o4.length]; exact hj, Res.ret0 (x := Fl.nx _) (q2 H1 a'.ext a'.ok) aw _ aw⟩
  · cases hη
section
variable {x : Str} {pn ps : Pos} 
theorem s_sto (i : Nat) (he : PED X W e fe) (hei : PED X W ei fi) (hi : X.N[i]? = some x := by rfl) (hvis : Vis X.env.scope x := by first | exact Or.inl rfl | exact Or.inr (Or.inl rfl) | exact Or.inr (Or.inr rfl)) (hO : decide (i ∈ O) = true := by rfl) (hd : (x == ("__debug__" : Str)) = false := by decide) (hcd : (x == ("__classdict__" : Str)) = false := by decide)
    (ha : ∀ v, assign (.Subscript (.Name x pn) ei ps) X.env v = (do
      let ov ← holding [v] (eval (.Name x pn) X.env)
      let iv ← holding [v, ov] (eval ei X.env)
      standAt ps
      holding [v, ov, iv] (setItem ov iv v)
      release [v, ov, iv] []) := by intro _; rfl)
    (hs : swapsWithSole [.Subscript (.Name x pn) ei ps] e pos.line X.env = pure false := by rfl) (hw : swappedStores [.Subscript (.Name x pn) ei ps] e X.env = pure none := by rfl) (h1 : (assignEach [.Subscript (.Name x pn) ei ps] X.env).map (·.2) = [assign (.Subscript (.Name x pn) ei ps) X.env] := by rfl) :
    PSD X W vs O O Ob Or (.Assign [.Subscript (.Name x pn) ei ps] e pos) (fSto O i fi fe) := ⟨(ps_asg he.pe (pg_sub (pe_var hi hvis hd hcd) hei.pe set_list ha) hs hw h1).con fun σ H E ⟨g, Sb, H0, σ0, η, s, a, q⟩ => by
  obtain ⟨OA, b⟩ := a.ob
  exact modeO a b q fun v d H' s' a' b' r q' => sto_bridge hO a' b' r q'⟩
theorem s_stoB (i : Nat) (he : PED X W e fe) (hei : PED X W ei fi) (hi : X.N[i]? = some x := by rfl) (hvis : Vis X.env.scope x := by first | exact Or.inl rfl | exact Or.inr (Or.inl rfl) | exact Or.inr (Or.inr rfl)) (hO : decide (i ∈ O) = true := by rfl) (hd : (x == ("__debug__" : Str)) = false := by decide) (hcd : (x == ("__classdict__" : Str)) = false := by decide)
    (ha : ∀ v, assign (.Subscript (.Name x pn) ei ps) X.env v = (do
      let ov ← holding [v] (eval (.Name x pn) X.env)
      let iv ← holding [v, ov] (eval ei X.env)
      standAt ps
      holding [v, ov, iv] (setItem ov iv v)
      release [v, ov, iv] []) := by intro _; rfl)
    (hs : swapsWithSole [.Subscript (.Name x pn) ei ps] e pos.line X.env = pure false := by rfl) (hw : swappedStores [.Subscript (.Name x pn) ei ps] e X.env = pure none := by rfl) (h1 : (assignEach [.Subscript (.Name x pn) ei ps] X.env).map (·.2) = [assign (.Subscript (.Name x pn) ei ps) X.env] := by rfl) :
    PSD X W vs O O Ob Or (.Assign [.Subscript (.Name x pn) ei ps] e pos) (fStoB i fi fe) := ⟨(ps_asg he.pe (pg_sub (pe_var hi hvis hd hcd) hei.pe set_list ha) hs hw h1).con fun σ H E ⟨g, Sb, H0, σ0, η, s, a, q⟩ =>
  modeB a q fun v d H' s' a' r q' => by
    obtain ⟨_, hn, q2⟩ := Res.lift (Res.bind0 q')
    split at hn
    · rename_i hn'
      obtain ⟨OA, b⟩ := a'.ob
      exact sto_bridge hO a' b (r.noL _ _ hn') (q2 H' a'.ext a'.ok)
    · cases hn⟩
end
/-! ### name op= e, of ints -/
def fAug (O : List Nat) (i : Nat) (op : D → D → Option D) (fe : EV) : SV := fun η => M.bind (M.lift (η[i]?.join)) fun x => M.bind (fe η) fun d => M.bind (M.lift (op x d)) fun z => M.bind (M.lift (if noL z = true then some (η.set i (some z)) else none)) fun η' => M.ret (.nx η')
/-- r serves op, in place -/
structure IpOk (X : Cx) (op : Operator) (f : D → D → Option D) : Prop where
  ex : ∃ ti : TIp, PIp X op ti ∧ Op2 X.K ti f
def addI : D → D → Option D
  | .int i, .int j => some (.int (i + j))
  | _, _ => none
theorem ipk_add : IpOk X .Add addI := ⟨_, ip_add, by
  intro g S H s x y d e z Q hK so ok rx ry h q
  unfold addI at h
  split at h
  · cases rx; cases ry; cases h
    exact ⟨_, _, rfl, rfl, q H _ Ext.refl ok (.int _)⟩
  · cases h⟩
theorem ipk_sub : IpOk X .Sub subD := ⟨_, ip_sub, by
  intro g S H s x y d e z Q hK so ok rx ry h q
  unfold subD at h
  split at h
  · cases rx; cases ry; cases h
    exact ⟨_, _, rfl, rfl, q H _ Ext.refl ok (.int _)⟩
  · cases h⟩
theorem s_aug {x : Str} {pos' : Pos} {op : Operator} {h : D → D → Option D} (i : Nat) (hN : X.N.Nodup) (ho : IpOk X op h) (he : PED X W e fe) (hi : X.N[i]? = some x := by rfl) (hx : Loc X.env.scope x := by first | exact .inl rfl | exact .inr rfl) (hO : decide (i ∉ O) = true := by rfl) (hv : inV vs [i] = true := by rfl)
    (hf : X.fn x = true ∨ X.env.scope.names.lookup x = some .local := by first | exact .inl rfl | exact .inr rfl) : PSD X W vs O O Ob Or (.AugAssign (.Name x pos') op e pos) (fAug O i h fe) := by
  obtain ⟨ti, h1, h2⟩ := ho.ex
  refine ⟨(ps_aug hN hi hx he.pe h1 hf).con fun σ H E ⟨g, Sb, H0, σ0, η, s, a, q⟩ => ?_⟩
  obtain ⟨d, ed, q1⟩ := Res.lift (Res.bind0 q)
  have ed' : η[i]? = some (some d) := by
    cases z : η[i]? with
    | none => rw [z] at ed; cases ed
    | some o => rw [z] at ed; simp at ed; rw [ed]
  obtain ⟨v, e1, e2⟩ := a.all'.rep i d ed'
  refine ⟨v, e1, tD.mk a.all' ((((Res.bind0 (q1 H a.ext a.ok)).ext a.ext).wk a.trk).imp fun d2 H1 s1 x1 k1 q2 v2 at1 r => ?_)⟩
  have a' := a.step x1 k1
  obtain ⟨z, hz, q3⟩ := Res.lift (Res.bind0 q2)
  refine h2 g Sb H1 s1 v v2 d d2 z _ a.gK at1.sok k1 (e2.ext a.all'.sok.st a.all'.ok.stl x1) r hz fun H2 vz x2 k2 rz => ?_
  have a2 := a'.step x2 k2
  obtain ⟨η', hη, q4⟩ := Res.lift (Res.bind0 (q3 H2 a2.ext k2))
  split at hη
  · rename_i hn
    cases hη
    exact Res.ret0 (x := Fl.nx _) (q4 H2 a2.ext k2) a2 _ (a2.setB (by simpa using hO) hv fun S => rz.noL _ _ hn)
  · cases hη
/-! ### exceptions -/
/-- the exception that c, p tell -/
def ExR (mg : Str → Option Value) (cls : Value) (d : Option Addr) (c : Str) (p : D) : Prop := mg c = some cls ∧ d = none ∧ p = .none
/-- W is taken here -/
def TkW (X : Cx) (W : XW) : Prop := Takes X fun cls d σ H => ∃ c p, ExR X.mg cls d c p ∧ W σ c p H
theorem pmk_own0 {C : Addr} {bmB : List Value} {B newId initId : String} {x : Str} {p : Pos} (F : ExcBaseFacts B newId initId bmB) (q : PySem.W.excIn X.K C bmB newId = true) (gC : X.mg x = some (.ref C)) (kC : PySem.W.keepIn X.K (.ref C) = true) (r : Raises X (.ref C)) (hg : Gl X x)
    (hdb : (x == ("__debug__" : Str)) = false := by decide) : PMk X (.Call (.Name x p) [] [] pos) (fun _ H Q => Q (.ref C) none H) := by
  intro pins s σ H Q I h
  refine wpAny_Call_Name_kw (ld_glob I hg gC ?_ hdb)
  refine PySem.W.callWith_K0 I.kIn kC ?_
  obtain ⟨bm, N, nm, qn, bs, hdct, sn, sub, ab, col, dd, k0, k1, k2, k3, k5, mN, hC, hN, hni, T⟩ := exc_obj I.kIn q
  refine wpAny_call_exc_subT F T hC hN hni (fun h' e hm => ?_) (Nat.zero_le _)
  exact mk_of I hm r h (I.hok.gone hm.new)
def fRaise (c : Str) : SV := fun _ => M.raise c .none
theorem s_raise {C : Addr} {bmB : List Value} {B newId initId : String} {x : Str} {p pc : Pos} (hc : X.calm = true) (tk : TkW X W) (F : ExcBaseFacts B newId initId bmB) (q : PySem.W.excIn X.K C bmB newId = true) (gC : X.mg x = some (.ref C)) (kC : PySem.W.keepIn X.K (.ref C) = true)
    (h1 : PySem.W.subIn X.K (.ref C) (.type "BaseException") = some true) (h2 : PySem.W.typeIn X.K (.ref C) = some (.type "type")) (hg : Gl X x) (hdb : (x == ("__debug__" : Str)) = false := by decide) : PSD X W vs O On Ob Or (.Raise (some (.Call (.Name x p) [] [] pc)) none pos) (fRaise x) :=
  ⟨(ps_raise hc tk (pmk_own0 F q gC kC (raises_own h1 h2) hg hdb)).con fun σ H E ⟨g, Sb, H0, σ0, η, s, a, q⟩ => ⟨x, .none, ⟨gC, rfl, rfl⟩, q H a.ext a.ok σ a.trk⟩⟩
end
end W3

set_option Elab.async false
set_option linter.all false
set_option maxRecDepth 100000
set_option maxHeartbeats 4000000
/-! W3m: try, calls of own functions, defs. -/
namespace W3
open PySem PySem.Spec L2

/-- an own exception class by its name -/
structure ExcHas (K : PySem.W.Frag) (mg : Str → Option Value) (x : Str) : Prop where
  ex : ∃ (C : Addr) (bmB : List Value) (B newId initId : String), ExcBaseFacts B newId initId bmB ∧ PySem.W.excIn K C bmB newId = true ∧ mg x = some (.ref C) ∧ PySem.W.keepIn K (.ref C) = true ∧ PySem.W.subIn K (.ref C) (.type "BaseException") = some true ∧ PySem.W.typeIn K (.ref C) = some (.type "type") ∧
    PySem.W.exmOne K (.ref C) (.ref C) = some true
section
variable {X : Cx} {W : XW} {vs : Option (List Nat)} {O On Ob Or : List Nat} {e : Expr} {es : List Expr} {fe : EV} {ga : AV} {pos : Pos}
theorem s_raiseX {x : Str} {p pc : Pos} (hc : X.calm = true) (tk : TkW X W) (h : ExcHas X.K X.mg x) (hg : Gl X x := by rfl) (hdb : (x == ("__debug__" : Str)) = false := by decide) : PSD X W vs O On Ob Or (.Raise (some (.Call (.Name x p) [] [] pc)) none pos) (fRaise x) := by
  obtain ⟨C, bmB, B, newId, initId, F, q, gC, kC, h1, h2, _⟩ := h.ex
  exact s_raise hc tk F q gC kC h1 h2 hg hdb
/-! ### try: body / except x: handler -/
def fTry (c : Str) (us : List Nat) (f h : SV) : SV := fun η s => match f η s with
  | .ok x s' => .ok x s'
  | .exc c' p s' => if c' = c ∧ noL p = true then noExc (h (wipeE η us)) s' else .bad
  | .bad => .bad
theorem Res.ofNo {α : Type} {W W' : WW} {g : G} {H : Hp} {m : M α} {s : DS} {Q : α → Hp → DS → Prop} (h : Res W g H (noExc m s) Q) : Res W' g H (m s) Q := by
  unfold noExc at h
  cases q : m s with
  | ok x s' => rw [q] at h; exact h
  | exc c p s' => rw [q] at h; exact h.elim
  | bad => rw [q] at h; exact h.elim
theorem s_try {x : Str} {body suite : List Stmt} {b₀ : Stmt} {np pos' : Pos} {f h : SV} (us : List Nat) (hs : X.stack = X.env :: X.outer) (hf : X.env.frame = some X.env.locals) (tk : TkW X W) (hE : ExcHas X.K X.mg x)
    (hb : ∀ (W' : XW) (pn : List (Addr × Obj)) (xe : Value → Shared → Prop), TkW (X.tr pn xe) W' → PassesOwn (model X.prog X.w) X.A X.env xe → PSsD (X.tr pn xe) W' (some us) [] On Ob Or body f)
    (hh : ∀ (a : Addr) (pn : List (Addr × Obj)), PSsD (X.suite a pn) WF vs [] On Ob Or (b₀ :: suite) h) (hv : inV vs us = true := by rfl) (hg : Gl X x := by rfl) (hdb : (x == ("__debug__" : Str)) = false := by decide) :
    PSD X W vs [] On Ob Or (.Try body [.ExceptHandler (some (.Name x np)) none (b₀ :: suite) pos'] [] [] pos) (fTry x us f h) := by
  obtain ⟨C, bmB, B, newId, initId, F, q, gC, kC, h1, h2, h3⟩ := hE.ex
  refine ⟨(ps_try_only (c := .ref C) (tb := fun W1 => tS X.K (fun σ c p H => ∀ cls d, ExR X.mg cls d c p → W1 cls d σ H) (some us) [] On Ob Or f) (ts := fun a cls d => tS X.K WF vs [] On Ob Or h) hs hf ⟨hg, hdb, .inl gC⟩ tk (fun W1 pn xe tk1 po => (hb _ pn xe (tk1.imp fun cls d σ H hx => ?_) po).ps) (fun a oe cls d pn _ _ => (hh a _).ps)).con fun σ H E ⟨g, Sb, H0, σ0, η, s, a, q⟩ => ?_⟩
  · obtain ⟨c, p, e1, e2⟩ := hx
    exact e2 cls d e1
  · obtain ⟨OA, b⟩ := a.ob
    have hOA : OA = [] := by
      cases OA with
      | nil => rfl
      | cons p r => have := b.names; simp at this
    subst hOA
    have hs0 : ∀ b, g.st = some b → (∃ xs, H b = some (.lst xs)) ∧ ∃ o, H g.sc = some o := fun b e => let ⟨k1, k2, _⟩ := a.ok.st b e; ⟨⟨_, k1⟩, _, k2⟩
    have aH : AtS X.K g Sb H (some us) σ [] H σ η s := ⟨.refl, hs0, .refl, [], rfl, fun p hp => absurd hp (by simp), fun p hp => absurd hp (by simp), b.at_, fun p hp => absurd hp (by simp)⟩
    have back : ∀ {O' : List Nat} {H' : Hp} {σ' : St} {η' : Env} {s' : DS}, AtS X.K g Sb H (some us) σ O' H' σ' η' s' → AtS X.K g Sb H0 vs σ0 O' H' σ' η' s' := fun {O' H' σ' η' s'} a' => by
      have a2 : AtS X.K g Sb H0 (some us) σ O' H' σ' η' s' := a'.back a.ext a.h0
      exact ⟨a2.ext, a2.h0, a.trk.step hv (show Off us σ σ' from a2.trk), a2.own⟩
    refine ⟨g, Sb, H, σ, η, s, aH, ?_⟩
    unfold fTry at q
    cases hfe : f η s with
    | bad => rw [hfe] at q; exact q.elim
    | ok fl s' =>
      rw [hfe] at q
      intro H' e k
      have q' := q H' (a.ext.trans e) k
      cases fl with
      | nx η' => exact fun σ' a' => q' σ' (back a')
      | bk η' => exact fun σ' a' => q' σ' (back a')
      | ct η' => exact fun σ' a' => q' σ' (back a')
      | rt d η' => exact fun v σ' r a' => q' v σ' r (back a')
    | exc c' p s' =>
      rw [hfe] at q
      intro H' e k σ' t cls d hx
      dsimp only at q
      split at q
      · rename_i hcp
        obtain ⟨hc', _⟩ := hcp
        subst hc'
        obtain ⟨x1, x2, x3⟩ := hx
        rw [gC] at x1
        cases x1
        refine ⟨true, h3, fun _ b _ => ⟨g, Sb, H0, σ0, wipeE η us, s', ?_, q.ofNo⟩, fun z => by cases z⟩
        have ato := aH.all'.ext e k
        have off : Off us σ σ' := t
        have atH : At X.K g Sb H' σ' (wipeE η us) s' := ⟨ato.gK, ato.sok, fun i d hd => by
          obtain ⟨n1, n2⟩ := wipeE_some hd
          obtain ⟨v, h1, h2⟩ := ato.rep i d n2
          exact ⟨v, (off.2 i n1).trans h1, h2⟩, ato.ok, by rw [wipeE_length, off.1]; exact ato.len⟩
        have sub : ∀ b, plusL Sb [] b → Sb b := fun b hb => hb.elim id fun z => absurd z (by simp)
        exact ⟨a.ext.trans e, a.h0, a.trk.step hv off, [], rfl, fun p hp => absurd hp (by simp), fun p hp => absurd hp (by simp), atH.anti sub fun b hb => .inl (a.hs b hb), fun p hp => absurd hp (by simp)⟩
      · exact q.elim
/-! ### own functions -/
abbrev FD := List D → M D
def WE' (mg : Str → Option Value) (E : XK) : WW := fun c p H' => ∀ cls d, ExR mg cls d c p → E cls d H'
def spD (K : PySem.W.Frag) (mg : Str → Option Value) (n : Nat) (F : FD) : Sp := fun vs H Q E => ∃ g S ds s, g.K = K ∧ SOk g S H ∧ Ok g H s ∧ DqAll g S H vs ds ∧ ds.length = n ∧ Res (WE' mg E) g H (F ds s) fun d H' _ => ∀ v, Dq g S H' v d → Q v H'
structure Has (P : Program) (w : World) (K : PySem.W.Frag) (mg : Str → Option Value) (base : Heap) (k : Nat) (x : Str) (n : Nat) (F : FD) : Prop where
  ex : ∃ (f : Addr) (fd : FuncData) (ps : List Str), FnOk P w K mg base (L2.CX P w) k f fd ps (spD K mg n F) ∧ mg x = some (.ref f) ∧ PySem.W.keepIn K (.ref f) = true ∧ Binds K fd ps []
theorem Has.mono {P : Program} {w : World} {K : PySem.W.Frag} {mg : Str → Option Value} {base : Heap} {j k : Nat} {x : Str} {n : Nat} {F : FD} (h : Has P w K mg base j x n F) (hk : j ≤ k) : Has P w K mg base k x n F := by
  obtain ⟨f, fd, ps, h1, h2, h3, h4⟩ := h.ex
  exact ⟨f, fd, ps, h1.mono hk, h2, h3, h4⟩
def eOwn (n : Nat) (F : FD) (h : AV) : EV := fun η => M.bind (h η) fun ds => if ds.length = n then F ds else M.bad
theorem Res.weak {α : Type} {W W' : WW} {g : G} {H : Hp} {r : R α} {Q : α → Hp → DS → Prop} (h : Res W g H r Q) (i : ∀ c p H', W c p H' → W' c p H') : Res W' g H r Q := by
  unfold Res at *
  cases r with
  | ok x s' => exact h
  | exc c p s' => exact fun H' e k => i _ _ _ (h H' e k)
  | bad => exact h
theorem d_own {x : Str} {n k : Nat} {F : FD} {p : Pos} (hF : Has X.prog X.w X.K X.mg X.base k x n F) (hr : Room k X.A) (tk : TkW X W) (ha : PAD X W (e :: es) ga) (hg : Gl X x := by rfl) (hdb : (x == ("__debug__" : Str)) = false := by decide)
    (he : starEach (e :: es) X.env = (false, eval e X.env) :: starEach es X.env := by rfl) (hpl : (backTo pos (starEach es X.env)).any (·.1) = false := by rfl) : PED X W (.Call (.Name x p) (e :: es) [] pos) (eOwn n F ga) := by
  obtain ⟨f, fd, ps, h1, h2, h3, h4⟩ := hF.ex
  refine ⟨(pe_callS h1 hr hg h2 h3 h4 (fun σ => passAt tk σ) ha.pa hdb he hpl).con fun σ H Q ⟨g, S, η, s, at_, q⟩ => tA.mk at_ ((Res.bind q).imp fun ds H1 s1 e1 k1 q1 vs at1 rs => ?_)⟩
  split at q1
  · exact ⟨g, S, ds, s1, at_.gK, at1.sok, k1, rs, by assumption, q1.weak fun c p H' hw cls d hx => ⟨c, p, hx, hw⟩⟩
  · exact q1.elim
end
/-- the body of a def, as a function of its arguments -/
def runF (n m : Nat) (f : SV) : FD := fun ds => if ds.length = n then M.bind (f (ds.map some ++ List.replicate (m - n) none)) fun fl => match fl with
  | .nx _ => M.ret .none
  | .rt d _ => M.ret d
  | _ => M.bad else M.bad
section
variable {P : Program} {w : World} {K : PySem.W.Frag} {mg : Str → Option Value} {base : Heap}
theorem RepV.start {g : G} {S : Addr → Prop} {H : Hp} {vs : List V} {ds : List D} (r : DqAll g S H vs ds) (m : Nat) : RepV g S H (vs.map some ++ List.replicate m none) (ds.map some ++ List.replicate m none) := fun i d h => by
  have hl := r.length
  by_cases c : i < ds.length
  · rw [List.getElem?_append_left (by rw [List.length_map]; exact c), List.getElem?_map] at h
    obtain ⟨d', h1, h2⟩ := Option.map_eq_some_iff.mp h
    cases h2
    obtain ⟨v, h3, h4⟩ := r.get h1
    exact ⟨v, by rw [List.getElem?_append_left (by rw [List.length_map]; omega), List.getElem?_map, h3]; rfl, h4⟩
  · rw [List.getElem?_append_right (by rw [List.length_map]; omega), List.getElem?_replicate] at h
    split at h <;> cases h
/-- as Fun.okX, the code object told -/
theorem okXG {x : Str} {st : Stmt} {f : Addr} {fd : FuncData} {N ps : List Str} {k : Nat} {sp : Sp} (F : Fun K x x st f fd) (S : FnScope N ps (defScope st)) (len : ∀ vs H Q E, sp vs H Q E → vs.length = ps.length)
    (hb : ∀ (cdv : Value), fd.code = cdv → ∀ (A : Around) (outer : List PySem.Env) (s : Shared) (H : Hp) (vs : List V) (Q : VK) (E : XK), Room k (A.deeper (PyProof.Rows.envOfC x (defScope st) s.heap.objs.size f cdv)) → sp vs H Q E →
      ∃ t, PSs (cxOf (L2.CX P w) P w K mg base N x (defScope st) f cdv A outer s H E) (defBody st) t ∧ t { nx := fun _ H' => Q .non H', rt := Q } (L2.start N vs) H) : FnOk P w K mg base (L2.CX P w) (k + 1) f fd ps sp := by
  obtain ⟨oc, od, kV, doc, pm, an, cdv, ct, osl, e, lk, hcd⟩ := F.ex
  subst e
  exact fn_of lk hcd S len fun A outer s H vs Q E hr hsp => hb cdv rfl A outer s H vs Q E hr hsp
theorem def_ok {x : Str} {st : Stmt} {f : Addr} {fd : FuncData} {N ps : List Str} {k : Nat} {On Ob : List Nat} {fb : SV} (Fu : Fun K x x st f fd) (S : FnScope N ps (defScope st))
    (hb : ∀ (cdv : Value), fd.code = cdv → ∀ (A : Around) (outer : List PySem.Env) (s : Shared) (H : Hp) (E : XK), Room k (A.deeper (PyProof.Rows.envOfC x (defScope st) s.heap.objs.size f cdv)) →
      PSsD (cxOf (L2.CX P w) P w K mg base N x (defScope st) f cdv A outer s H E) (fun _ => WE' mg E) none [] On Ob [] (defBody st) fb) :
    FnOk P w K mg base (L2.CX P w) (k + 1) f fd ps (spD K mg ps.length (runF ps.length N.length fb)) := by
  refine okXG Fu S (fun vs H Q E h => ?_) fun cdv hcd A outer s H vs Q E hr h => ⟨_, (hb cdv hcd A outer s H E hr).ps, ?_⟩
  · obtain ⟨g, S', ds, s, h1, h2, h3, h4, h5, h6⟩ := h
    rw [h4.length, h5]
  · obtain ⟨g, S', ds, s0, h1, h2, h3, h4, h5, h6⟩ := h
    unfold runF at h6
    rw [if_pos h5] at h6
    have hl := h4.length
    have sub : ∀ b, plusL S' [] b → S' b := fun b hb => hb.elim id fun z => absurd z (by simp)
    have at0 : At K g S' H (L2.start N vs) (ds.map some ++ List.replicate (N.length - ps.length) none) s0 := ⟨h1, h2, by
      unfold L2.start
      rw [hl, h5]
      exact RepV.start h4 _, h3, by
      unfold L2.start
      simp [hl, h5]⟩
    refine ⟨g, S', H, L2.start N vs, _, s0, ⟨.refl, fun b e => let ⟨k1, k2, _⟩ := h3.st b e; ⟨⟨_, k1⟩, _, k2⟩, trivial, [], rfl, fun p hp => absurd hp (by simp), fun p hp => absurd hp (by simp), at0.anti sub fun b hb => .inl (h2.st b hb), fun p hp => absurd hp (by simp)⟩, ?_⟩
    refine Res.weak (W := WE' mg E) ((Res.bind0 h6).imp fun fl H' s' e k q => ?_) fun c p H' h σ' _ => h
    cases fl with
    | nx η' => exact fun σ' a' => q H' e k _ .non
    | bk η' => exact q.elim
    | ct η' => exact q.elim
    | rt d η' => exact fun v σ' r a' => q H' e k v r
/-- what a def's body may let out is taken by its wish -/
theorem tk_def {N : List Str} {x : Str} {sc : Scope} {f : Addr} {cdv : Value} {A : Around} {outer : List PySem.Env} {s : Shared} {H : Hp} {E : XK} : TkW (cxOf (L2.CX P w) P w K mg base N x sc f cdv A outer s H E) (fun _ => WE' mg E) :=
  Takes.imp (takes_of (E := E) rfl rfl rfl rfl) fun c d σ H ⟨_, _, h1, h2⟩ => h2 _ _ h1
theorem po_def {N : List Str} {x : Str} {sc : Scope} {f : Addr} {cdv : Value} {A : Around} {outer : List PySem.Env} {s : Shared} {H : Hp} {E : XK} : PassesOwn (model P w) (cxOf (L2.CX P w) P w K mg base N x sc f cdv A outer s H E).A (cxOf (L2.CX P w) P w K mg base N x sc f cdv A outer s H E).env (cxOf (L2.CX P w) P w K mg base N x sc f cdv A outer s H E).xe :=
  passes_of rfl
end
end W3

set_option Elab.async false
set_option linter.all false
set_option maxRecDepth 100000
set_option maxHeartbeats 4000000
/-! W3n: the law's draw. -/
namespace W3
open PySem PySem.Spec L2

/-! ### a def that writes the law's state: its first parameter, all else ints -/
def stD (i0 i1 i3 : Int) (ns : List Int) : D := .list [.int i0, .int i1, .list (ns.map .int), .int i3]
def stV (i0 i1 i3 : Int) (sc : Addr) : HO := .lst [.int i0, .int i1, .ref sc, .int i3]
def none0 : Addr → Prop := fun _ => False
structure DrAt (K : PySem.W.Frag) (g : G) (a sc : Addr) (ns : List Int) (H0 : Hp) (H : Hp) (σ : St) (η : Env) (s : DS) : Prop where
  at_ : At K g none0 H σ η s
  nst : g.st = none
  ne : a ≠ sc
  h0a : H0 a = none
  h0s : H0 sc = some (.lst (ns.map V.int))
  s0 : σ[0]? = some (some (.ref a))
  e0 : ∃ i0 i1 i3, H a = some (stV i0 i1 i3 sc) ∧ η[0]? = some (some (stD i0 i1 i3 ns))
  oth : ∀ i d, i ≠ 0 → η[i]? = some (some d) → ∃ k, d = .int k
  ext : Ext g H0 H
section
variable {K : PySem.W.Frag} {g : G} {a sc : Addr} {ns : List Int} {H0 H H' : Hp} {σ : St} {η : Env} {s s' : DS}
theorem DrAt.step (x : DrAt K g a sc ns H0 H σ η s) (e : Ext g H H') (k : Ok g H' s') : DrAt K g a sc ns H0 H' σ η s' :=
  ⟨x.at_.ext e k, x.nst, x.ne, x.h0a, x.h0s, x.s0, let ⟨i0, i1, i3, h1, h2⟩ := x.e0; ⟨i0, i1, i3, e.keep _ _ h1 (by rw [x.nst]; simp) (fun _ z => by cases z), h2⟩, x.oth, x.ext.trans e⟩
theorem DrAt.set {i : Nat} {k : Int} (x : DrAt K g a sc ns H0 H σ η s) (hi : i ≠ 0) : DrAt K g a sc ns H0 H (σ.set i (some (.int k))) (η.set i (some (.int k))) s :=
  ⟨x.at_.set (.int k), x.nst, x.ne, x.h0a, x.h0s, by rw [List.getElem?_set_ne hi]; exact x.s0, let ⟨i0, i1, i3, h1, h2⟩ := x.e0; ⟨i0, i1, i3, h1, by rw [List.getElem?_set_ne hi]; exact h2⟩, fun j d hj h => by
    by_cases e : i = j
    · subst e
      by_cases l : i < η.length
      · rw [List.getElem?_set_self l] at h; cases h; exact ⟨k, rfl⟩
      · rw [List.getElem?_eq_none (by rw [List.length_set]; omega)] at h; cases h
    · rw [List.getElem?_set_ne e] at h
      exact x.oth j d hj h, x.ext⟩
theorem ints_all {S : Addr → Prop} : ∀ ns : List Int, DqAll g S H (ns.map V.int) (ns.map PyData.int)
  | [] => .nil
  | n :: ns => .cons (.int n) (ints_all ns)
theorem DrAt.write {i0 i1 i3 : Int} (x : DrAt K g a sc ns H0 H σ η s) : DrAt K g a sc ns H0 (upd H a (stV i0 i1 i3 sc)) σ (η.set 0 (some (stD i0 i1 i3 ns))) s := by
  obtain ⟨j0, j1, j3, h1, h2⟩ := x.e0
  have l0 := lt_of_get h2
  have hs : H sc = some (.lst (ns.map V.int)) := x.ext.keep _ _ x.h0s (by rw [x.nst]; simp) (fun _ z => by cases z)
  refine ⟨⟨x.at_.gK, ⟨fun b e => (by rw [x.nst] at e; cases e), fun b h => h.elim⟩, fun i d h => ?_, ⟨fun b e => (by rw [x.nst] at e; cases e), (x.at_.ok.upd (ys := _) h1 fun b e => (by rw [x.nst] at e; cases e)).tabs⟩, by rw [List.length_set]; exact x.at_.len⟩, x.nst, x.ne, x.h0a, x.h0s, x.s0, ⟨i0, i1, i3, upd_same, by rw [List.getElem?_set_self l0]⟩, fun i d hi h => ?_, x.ext.updN x.h0a fun b e => (by rw [x.nst] at e; cases e)⟩
  · by_cases e : i = 0
    · subst e
      rw [List.getElem?_set_self l0] at h
      cases h
      exact ⟨_, x.s0, .lst (fun z => z) upd_same (.cons (.int _) (.cons (.int _) (.cons (.lst (fun z => z) (by rw [upd_ne x.ne.symm]; exact hs) (ints_all ns)) (.cons (.int _) .nil))))⟩
    · rw [List.getElem?_set_ne (Ne.symm e)] at h
      obtain ⟨v, q1, q2⟩ := x.at_.rep i d h
      obtain ⟨k, rfl⟩ := x.oth i d e h
      cases q2
      exact ⟨_, q1, .int k⟩
  · rw [List.getElem?_set_ne (Ne.symm hi)] at h
    exact x.oth i d hi h
end
def SQd (K : PySem.W.Frag) (g : G) (a sc : Addr) (ns : List Int) (H0 : Hp) (E : Ends) : Fl → Hp → DS → Prop
  | .nx η', H', s' => ∀ σ', DrAt K g a sc ns H0 H' σ' η' s' → E.nx σ' H'
  | .rt d η', H', s' => ∀ v σ', Dq g none0 H' v d → DrAt K g a sc ns H0 H' σ' η' s' → E.rt v H'
  | _, _, _ => False
def tDr (K : PySem.W.Frag) (f : SV) : TS := fun E σ H => ∃ g a sc ns H0 η s, DrAt K g a sc ns H0 H σ η s ∧ Res WN g H0 (f η s) (SQd K g a sc ns H0 E)
structure PDD (X : Cx) (st : Stmt) (f : SV) : Prop where
  ps : PS X st (tDr X.K f)
structure PDsD (X : Cx) (st : List Stmt) (f : SV) : Prop where
  ps : PSs X st (tDr X.K f)
section
variable {X : Cx} {st : Stmt} {rest a b : List Stmt} {e : Expr} {fe : EV} {f h : SV} {pos : Pos}
theorem dr_nil : PDsD X [] fNil := ⟨pss_nil.con fun σ H E ⟨g, a, sc, ns, H0, η, s, x, q⟩ => q H x.ext x.at_.ok σ x⟩
theorem dr_cons (h1 : PDD X st f) (h2 : PDsD X rest h) : PDsD X (st :: rest) (fSeq f h) := ⟨(pss_cons h1.ps h2.ps).con fun σ H E ⟨g, a, sc, ns, H0, η, s, x, q⟩ =>
  ⟨g, a, sc, ns, H0, η, s, x, (Res.bind0 q).imp fun fl H' s' e k q1 => by
    cases fl with
    | nx η' => exact fun σ' x' => ⟨g, a, sc, ns, H0, η', s', x', q1⟩
    | bk η' => exact q1 H' e k
    | ct η' => exact q1 H' e k
    | rt d η' => exact fun v σ' r x' => q1 H' e k v σ' r x'⟩⟩
theorem dr_if {c : Expr} {fc : BV} (hc : PTD X WF c fc) (ha : PDsD X a f) (hb : PDsD X b h) : PDD X (.If c a b pos) (fIf fc f h) := ⟨(ps_if hc.pt ha.ps hb.ps).con fun σ H E ⟨g, a, sc, ns, H0, η, s, x, q⟩ =>
  tDT.mk x.at_ (((Res.bind0 q).ext x.ext).imp fun b H1 s1 x1 k1 q1 at1 => by
    have x' := x.step x1 k1
    cases b with
    | true => exact ⟨g, a, sc, ns, H0, η, s1, x', q1⟩
    | false => exact ⟨g, a, sc, ns, H0, η, s1, x', q1⟩)⟩
theorem dr_ret (he : PED X WF e fe) : PDD X (.Return (some e) pos) (fRet fe) := ⟨(ps_ret he.pe).con fun σ H E ⟨g, a, sc, ns, H0, η, s, x, q⟩ =>
  tD.mk x.at_ (((Res.bind0 q).ext x.ext).imp fun d H1 s1 x1 k1 q1 v at1 r => (q1 H1 (x.ext.trans x1) k1) v σ r (x.step x1 k1))⟩
def isIntE (i : Nat) (d : D) (η : Env) : Option Env := match d with
  | .int k => some (η.set i (some (.int k)))
  | _ => none
def fSetI (i : Nat) (fe : EV) : SV := fun η => M.bind (fe η) fun d => M.bind (M.lift (isIntE i d η)) fun η' => M.ret (.nx η')
theorem dr_set {x : Str} {pos' : Pos} (i : Nat) (hN : X.N.Nodup) (he : PED X WF e fe) (hi : X.N[i]? = some x := by rfl) (hx : Loc X.env.scope x := by first | exact .inl rfl | exact .inr rfl) (h0 : i ≠ 0 := by decide) (hs : swapsWith e (some (.Name x pos')) pos.line X.env = pure false := by rfl)
    (hf : X.fn x = true ∨ X.env.scope.names.lookup x = some .local := by first | exact .inl rfl | exact .inr rfl) : PDD X (.Assign [.Name x pos'] e pos) (fSetI i fe) := ⟨(ps_set hN hi hx he.pe hs hf).con fun σ H E ⟨g, a, sc, ns, H0, η, s, x, q⟩ =>
  tD.mk x.at_ (((Res.bind0 q).ext x.ext).imp fun d H1 s1 x1 k1 q1 v at1 r => by
    have x' := x.step x1 k1
    obtain ⟨η', hη, q2⟩ := Res.lift (Res.bind0 q1)
    unfold isIntE at hη
    split at hη
    · cases hη
      cases r
      exact q2 H1 x'.ext k1 H1 x'.ext k1 _ (x'.set h0)
    · cases hη)⟩
def stoD (k : Nat) (d : D) (η : Env) : Option Env := match d, (η[0]? : Option (Option D)) with
  | .int z, some (some (.list [.int i0, .int i1, l, .int i3])) => match k with
    | 0 => some (η.set 0 (some (.list [.int z, .int i1, l, .int i3])))
    | 1 => some (η.set 0 (some (.list [.int i0, .int z, l, .int i3])))
    | 3 => some (η.set 0 (some (.list [.int i0, .int i1, l, .int z])))
    | _ => none
  | _, _ => none
def fStoD (k : Nat) (fe : EV) : SV := fun η => M.bind (fe η) fun d => M.bind (M.lift (stoD k d η)) fun η' => M.ret (.nx η')
theorem dr_sto {x : Str} {pn ps pk : Pos} {j : Nat} (k : Nat) (he : PED X WF e fe) (hi : X.N[0]? = some x := by rfl) (hvis : Vis X.env.scope x := by first | exact Or.inl rfl | exact Or.inr (Or.inl rfl) | exact Or.inr (Or.inr rfl)) (hd : (x == ("__debug__" : Str)) = false := by decide) (hcd : (x == ("__classdict__" : Str)) = false := by decide)
    (ha : ∀ v, assign (.Subscript (.Name x pn) (.Constant (.int (k : Nat)) j pk) ps) X.env v = (do
      let ov ← holding [v] (eval (.Name x pn) X.env)
      let iv ← holding [v, ov] (eval (.Constant (.int (k : Nat)) j pk) X.env)
      standAt ps
      holding [v, ov, iv] (setItem ov iv v)
      release [v, ov, iv] []) := by intro _; rfl)
    (hs : swapsWithSole [.Subscript (.Name x pn) (.Constant (.int (k : Nat)) j pk) ps] e pos.line X.env = pure false := by rfl) (hw : swappedStores [.Subscript (.Name x pn) (.Constant (.int (k : Nat)) j pk) ps] e X.env = pure none := by rfl) (h1 : (assignEach [.Subscript (.Name x pn) (.Constant (.int (k : Nat)) j pk) ps] X.env).map (·.2) = [assign (.Subscript (.Name x pn) (.Constant (.int (k : Nat)) j pk) ps) X.env] := by rfl) :
    PDD X (.Assign [.Subscript (.Name x pn) (.Constant (.int (k : Nat)) j pk) ps] e pos) (fStoD k fe) := ⟨(ps_asg he.pe (pg_sub (pe_var hi hvis hd hcd) pe_int set_list ha) hs hw h1).con fun σ H E ⟨g, a, sc, ns, H0, η, s, x, q⟩ =>
  tD.mk x.at_ (((Res.bind0 q).ext x.ext).imp fun d H1 s1 x1 k1 q1 v at1 r => by
    have x' := x.step x1 k1
    obtain ⟨η', hη, q2⟩ := Res.lift (Res.bind0 q1)
    obtain ⟨i0, i1, i3, e1, e2⟩ := x'.e0
    have q3 := fun H1 e k => q2 H1 e k H1 e k
    unfold stoD at hη
    rw [e2] at hη
    cases d with
    | int z =>
      cases r
      refine ⟨.ref a, x'.s0, a, _, k, k, rfl, rfl, e1, ?_, ?_⟩
      · unfold stD at hη
        dsimp only at hη
        split at hη
        · rfl
        · rfl
        · rfl
        · cases hη
      · unfold stD at hη
        dsimp only at hη
        split at hη
        · cases hη
          have xw := x'.write (i0 := z) (i1 := i1) (i3 := i3)
          exact q3 _ xw.ext xw.at_.ok _ xw
        · cases hη
          have xw := x'.write (i0 := i0) (i1 := z) (i3 := i3)
          exact q3 _ xw.ext xw.at_.ok _ xw
        · cases hη
          have xw := x'.write (i0 := i0) (i1 := i1) (i3 := z)
          exact q3 _ xw.ext xw.at_.ok _ xw
        · cases hη
    | _ => simp at hη)⟩
end

/-! ### the draw -/
def isTok : D → Bool
  | .dict [(.none, .none)] => true
  | _ => false
def drawF (fb : SV) (m : Nat) : FD := fun ds s => match ds with
  | [t, .int limit] => if isTok t = true then match fb (some (stD s.a s.b s.c s.ns) :: some (.int limit) :: List.replicate m none) s with
    | .ok (.rt (.int k) η') _ => match (η'[0]? : Option (Option D)) with
      | some (some (.list [.int a, .int b, _, .int c])) => .ok (.int k) ⟨a, b, c, s.ns⟩
      | _ => .bad
    | _ => .bad else .bad
  | _ => .bad
section
variable {P : Program} {w : World} {K : PySem.W.Frag} {mg : Str → Option Value} {base : Heap}
theorem tok_st {g : G} {S : Addr → Prop} {H : Hp} {v : V} {t : D} (r : Dq g S H v t) (h : isTok t = true) : ∃ a, v = .ref a ∧ g.st = some a := by
  cases r with
  | dk _ _ w _ =>
    exfalso
    unfold isTok at h
    split at h
    · rename_i e
      have e' := PyData.dict.inj e
      rw [e'] at w
      rename_i kvs _ _ _ _ _
      cases kvs with
      | nil => cases w
      | cons p l =>
        have w' : PyData.none = kD p.1 := (List.cons.inj w).1
        obtain ⟨k, v⟩ := p
        cases k <;> cases w'
    · cases h
  | dt _ _ w _ =>
    exfalso
    unfold isTok at h
    split at h
    · rename_i e
      have e' := PyData.dict.inj e
      rw [e'] at w
      rename_i kvs _ _ _ _ _
      cases kvs with
      | nil => cases w
      | cons p l => cases (List.cons.inj w).1
    · cases h
  | st e => exact ⟨_, rfl, e⟩
  | _ => simp [isTok] at h
theorem draw_ok {x p1 p2 : Str} {Ns : List Str} {st : Stmt} {f : Addr} {fd : FuncData} {k : Nat} {fb : SV} (Fu : Fun K x x st f fd) (S : FnScope (p1 :: p2 :: Ns) [p1, p2] (defScope st))
    (hb : ∀ (cdv : Value) (A : Around) (outer : List PySem.Env) (s : Shared) (H : Hp) (E : XK), Room k (A.deeper (PyProof.Rows.envOfC x (defScope st) s.heap.objs.size f cdv)) →
      PDsD (cxOf (L2.CX P w) P w K mg base (p1 :: p2 :: Ns) x (defScope st) f cdv A outer s H E) (defBody st) fb) :
    FnOk P w K mg base (L2.CX P w) (k + 1) f fd [p1, p2] (spD K mg 2 (drawF fb Ns.length)) := by
  refine Fu.okX S (fun vs H Q E h => ?_) fun cdv A outer s H vs Q E hr h => ⟨_, (hb cdv A outer s H E hr).ps, ?_⟩
  · obtain ⟨g, S', ds, s, h1, h2, h3, h4, h5, h6⟩ := h
    rw [h4.length, h5]; rfl
  · obtain ⟨g, S', ds, s0, h1, h2, h3, h4, h5, h6⟩ := h
    unfold drawF at h6
    split at h6
    · rename_i t limit
      split at h6
      · rename_i ht
        cases h4 with
        | cons r1 r2 =>
          cases r2 with
          | cons r2 r3 =>
            cases r3
            cases r2
            obtain ⟨a, rfl, ea⟩ := tok_st r1 ht
            obtain ⟨k1, k2, k3⟩ := h3.st a ea
            let g' : G := ⟨g.K, none, g.sc⟩
            let H0 : Hp := fun b => if b = a then none else H b
            have h0a : H0 a = none := if_pos rfl
            have h0b : ∀ b, b ≠ a → H0 b = H b := fun b e => if_neg e
            have h0i : ∀ b o, H0 b = some o → b ≠ a ∧ H b = some o := fun b o e => by
              by_cases z : b = a
              · rw [z, h0a] at e; cases e
              · exact ⟨z, (h0b b z).symm.trans e⟩
            have ex : Ext g' H0 H := ⟨fun b o e _ _ => (h0i b o e).2, fun b ps e => ⟨#[], by rw [(h0i b _ e).2]; simp⟩, fun b e => (by cases e)⟩
            have ok' : ∀ {H' : Hp} {s : DS}, (∀ P ∈ tabsOf g.K, GxR.TabG H' P) → Ok g' H' s := fun h => ⟨fun b e => (by cases e), h⟩
            have start : DrAt K g' a g.sc s0.ns H0 H (L2.start (p1 :: p2 :: Ns) [.ref a, .int limit]) (some (stD s0.a s0.b s0.c s0.ns) :: some (.int limit) :: List.replicate Ns.length none) s0 := by
              refine ⟨⟨h1, ⟨fun b e => (by cases e), fun b h => h.elim⟩, ?_, ok' h3.tabs, ?_⟩, rfl, k3, h0a, (h0b _ (Ne.symm k3)).trans k2, rfl, ⟨_, _, _, k1, rfl⟩, fun i d hi h => ?_, ex⟩
              · show RepV g' none0 H ([V.ref a, .int limit].map some ++ List.replicate (Ns.length + 1 + 1 - 2) none) ([stD s0.a s0.b s0.c s0.ns, .int limit].map some ++ List.replicate Ns.length none)
                exact RepV.start (.cons (.lst (fun z => z) k1 (.cons (.int _) (.cons (.int _) (.cons (.lst (fun z => z) k2 (ints_all _)) (.cons (.int _) .nil))))) (.cons (.int _) .nil)) _
              · unfold L2.start
                simp
              · match i, hi with
                | 1, _ =>
                  have h : some (some (PyData.int limit)) = some (some d) := h
                  cases h
                  exact ⟨limit, rfl⟩
                | i + 2, _ =>
                  have h : (List.replicate Ns.length (none : Option D))[i]? = some (some d) := h
                  rw [List.getElem?_replicate] at h
                  split at h <;> cases h
            refine ⟨g', a, g.sc, s0.ns, H0, _, s0, start, ?_⟩
            cases hf : fb (some (stD s0.a s0.b s0.c s0.ns) :: some (.int limit) :: List.replicate Ns.length none) s0 with
            | bad => rw [hf] at h6; exact h6.elim
            | exc c p s' => rw [hf] at h6; exact h6.elim
            | ok fl s' =>
              rw [hf] at h6
              intro H' e k'
              cases fl with
              | nx η' => exact h6.elim
              | bk η' => exact h6.elim
              | ct η' => exact h6.elim
              | rt d η' =>
                intro v σ' r x'
                cases d with
                | int n =>
                  obtain ⟨i0, i1, i3, e1, e2⟩ := x'.e0
                  dsimp only at h6
                  rw [e2] at h6
                  unfold stD at h6
                  cases r
                  refine h6 H' ⟨fun b o hb n t => e.keep b o ((h0b b fun z => n (by rw [z]; exact ea.symm)).trans hb) (fun z => by cases z) t, fun b ps hb => e.tab b ps ((h0b b fun z => by rw [z, k1] at hb; cases hb).trans hb), fun b eb _ => ?_⟩ ⟨fun b eb => ?_, fun P hP => x'.at_.ok.tabs P hP⟩ _ (.int n)
                  · rw [ea] at eb
                    cases eb
                    exact ⟨_, e1⟩
                  · rw [ea] at eb
                    cases eb
                    exact ⟨e1, x'.ext.keep _ _ x'.h0s (fun z => by cases z) (fun _ z => by cases z), k3⟩
                | _ => exact h6.elim
      · exact h6.elim
    · exact h6.elim
/-! ### the law itself -/
def spLaw (K : PySem.W.Frag) (n : Nat) : Sp := fun vs H Q _ => ∃ (a : Addr) (ns : List Int), vs = [.ref a] ∧ SqL K H a (ns.map V.int) ∧ ns.length ≤ n ∧ (∀ P ∈ tabsOf K, GxR.TabG H P) ∧ ∀ H', Q (.bl true) H'
def tLaw1 (K : PySem.W.Frag) : TS := tAsg (tLst (tCons (tC (.int 0)) (tCons (tC (.int 0)) (tCons (tCB (fun xs H Q => ∃ p ys, xs = [.ref p] ∧ (SqL K H p ys ∨ SqT K H p ys) ∧ ∀ l, H l = none → Q (.ref l) (upd H l (.lst ys))) (tCons (tVar 0) tNil)) (tCons (tC (.int 1)) tNil))))) (gName 1)
theorem law_first {X : Cx} {q1 q2 q3 q4 q5 q6 q7 q8 q9 : Pos} {j1 j2 j3 : Nat} (hN : X.N.Nodup) (h0 : X.N[0]? = some ("script" : Str)) (h1 : X.N[1]? = some ("state" : Str)) (hv : Vis X.env.scope "script") (hx : Loc X.env.scope "state") (hg : Gl X "list") (hm : X.mg "list" = none)
    (he : starEach [.Name "script" q5] X.env = (false, eval (.Name "script" q5) X.env) :: starEach [] X.env := by rfl) (hpl : (backTo q6 (starEach [] X.env)).any (·.1) = false := by rfl)
    (s1 : starEach [.Constant (.int 0) j1 q2, .Constant (.int 0) j2 q3, .Call (.Name "list" q4) [.Name "script" q5] [] q6, .Constant (.int 1) j3 q7] X.env = (false, eval (.Constant (.int 0) j1 q2) X.env) :: starEach [.Constant (.int 0) j2 q3, .Call (.Name "list" q4) [.Name "script" q5] [] q6, .Constant (.int 1) j3 q7] X.env := by rfl)
    (s2 : starEach [.Constant (.int 0) j2 q3, .Call (.Name "list" q4) [.Name "script" q5] [] q6, .Constant (.int 1) j3 q7] X.env = (false, eval (.Constant (.int 0) j2 q3) X.env) :: starEach [.Call (.Name "list" q4) [.Name "script" q5] [] q6, .Constant (.int 1) j3 q7] X.env := by rfl)
    (s3 : starEach [.Call (.Name "list" q4) [.Name "script" q5] [] q6, .Constant (.int 1) j3 q7] X.env = (false, eval (.Call (.Name "list" q4) [.Name "script" q5] [] q6) X.env) :: starEach [.Constant (.int 1) j3 q7] X.env := by rfl)
    (s4 : starEach [.Constant (.int 1) j3 q7] X.env = (false, eval (.Constant (.int 1) j3 q7) X.env) :: starEach [] X.env := by rfl)
    (hs : swapsWith (.List [.Constant (.int 0) j1 q2, .Constant (.int 0) j2 q3, .Call (.Name "list" q4) [.Name "script" q5] [] q6, .Constant (.int 1) j3 q7] q8) (some (.Name "state" q1)) q9.line X.env = pure false := by rfl)
    (hf : X.fn "state" = true ∨ X.env.scope.names.lookup ("state" : Str) = some .local := by first | exact .inl rfl | exact .inr rfl) :
    PS X (.Assign [.Name "state" q1] (.List [.Constant (.int 0) j1 q2, .Constant (.int 0) j2 q3, .Call (.Name "list" q4) [.Name "script" q5] [] q6, .Constant (.int 1) j3 q7] q8) q9) (tLaw1 X.K) :=
  ps_set (i := 1) (x := "state") (pos := q9) (pos' := q1) hN h1 hx (pe_lst (pa_cons pe_int (pa_cons pe_int (pa_cons (pe_callTy call_list_of hg hm (by decide +kernel) (pa_cons (pe_var (i := 0) h0 hv (by decide) (by decide)) pa_nil he) (by decide) (by decide) he hpl) (pa_cons pe_int pa_nil s4) s3) s2) s1)) hs hf
theorem law_ok {st s1 : Stmt} {rest : List Stmt} {Ns : List Str} {f : Addr} {fd : FuncData} {k n : Nat} {On Ob : List Nat} {fb : SV} (Fu : Fun K "law" "law" st f fd) (S : FnScope ("script" :: "state" :: Ns) ["script"] (defScope st)) (hbody : defBody st = s1 :: rest)
    (h1 : ∀ (cdv : Value) (A : Around) (outer : List PySem.Env) (s : Shared) (H : Hp) (E : XK), PS (cxOf (L2.CX P w) P w K mg base ("script" :: "state" :: Ns) "law" (defScope st) f cdv A outer s H E) s1 (tLaw1 K))
    (hb : ∀ (cdv : Value) (A : Around) (outer : List PySem.Env) (s : Shared) (H : Hp) (E : XK), Room k (A.deeper (PyProof.Rows.envOfC "law" (defScope st) s.heap.objs.size f cdv)) →
      PSsD (cxOf (L2.CX P w) P w K mg base ("script" :: "state" :: Ns) "law" (defScope st) f cdv A outer s H E) (fun _ => WE' mg E) none [] On Ob [] rest fb)
    (hp' : ∀ ns : List Int, ns.length ≤ n → ∃ η' s', fb (none :: some stTok :: List.replicate Ns.length none) ⟨0, 0, 1, ns⟩ = .ok (.rt (.bool true) η') s') :
    FnOk P w K mg base (L2.CX P w) (k + 1) f fd ["script"] (spLaw K n) := by
  refine Fu.okX S (fun vs H Q E h => ?_) fun cdv A outer s H vs Q E hr h => ⟨tSeq (tLaw1 K) (tS K (fun _ => WE' mg E) none [] On Ob [] fb), ?_, ?_⟩
  · obtain ⟨a, ns, rfl, _⟩ := h
    rfl
  · rw [hbody]
    exact pss_cons (h1 cdv A outer s H E) (hb cdv A outer s H E hr).ps
  · obtain ⟨a, ns, rfl, hS, hl, hT, hQ⟩ := h
    refine ⟨_, rfl, a, _, rfl, .inl hS, fun c hc => ⟨by show 4 ≤ sizeLine; rw [sizeLine_eq]; omega, fun p hp => ?_⟩⟩
    have cp : c ≠ p := fun z => by
      rw [← z, upd_same] at hp
      cases hp
    have hc1 : (upd (upd H c (.lst (ns.map V.int))) p (.lst [.int 0, .int 0, .ref c, .int 1])) c = some (.lst (ns.map V.int)) := by rw [upd_ne cp, upd_same]
    let g : G := ⟨K, some p, c⟩
    have ok0 : Ok g (upd (upd H c (.lst (ns.map V.int))) p (.lst [.int 0, .int 0, .ref c, .int 1])) ⟨0, 0, 1, ns⟩ := ⟨fun b e => by
      have : p = b := Option.some.inj e
      subst this
      exact ⟨upd_same, hc1, Ne.symm cp⟩, fun P hP => by
      obtain ⟨ps, e, t⟩ := hT P hP
      exact ⟨ps, by rw [upd_ne (ne_of_none (by rw [upd_ne (ne_of_none e hc)]; exact e) hp), upd_ne (ne_of_none e hc)]; exact e, t⟩⟩
    have so : SOk g (fun b => b = p) (upd (upd H c (.lst (ns.map V.int))) p (.lst [.int 0, .int 0, .ref c, .int 1])) := ⟨fun b e => (Option.some.inj e).symm, fun b e => ⟨.lst [.int 0, .int 0, .ref c, .int 1], by rw [e]; exact upd_same, .lst⟩⟩
    obtain ⟨η', s', e⟩ := hp' ns hl
    have sub : ∀ b, plusL (fun b => b = p) [] b → b = p := fun b hb => hb.elim id fun z => absurd z (by simp)
    have at0 : At K g (fun b => b = p) (upd (upd H c (.lst (ns.map V.int))) p (.lst [.int 0, .int 0, .ref c, .int 1])) ((L2.start ("script" :: "state" :: Ns) [.ref a]).set 1 (some (.ref p))) (none :: some stTok :: List.replicate Ns.length none) ⟨0, 0, 1, ns⟩ := by
      refine ⟨rfl, so, fun i d h => ?_, ok0, ?_⟩
      · match i with
        | 0 => cases h
        | 1 =>
          have h : some (some stTok) = some (some d) := h
          cases h
          exact ⟨.ref p, by simp [L2.start], .st rfl⟩
        | i + 2 =>
          have h : (List.replicate Ns.length (none : Option D))[i]? = some (some d) := h
          rw [List.getElem?_replicate] at h
          split at h <;> cases h
      · simp [L2.start]
    refine ⟨g, fun b => b = p, _, ([] : L2.St), _, ⟨0, 0, 1, ns⟩, ⟨.refl, fun b e => let ⟨k1, k2, _⟩ := ok0.st b e; ⟨⟨_, k1⟩, _, k2⟩, trivial, [], rfl, fun p hp => absurd hp (by simp), fun p hp => absurd hp (by simp), at0.anti sub fun b hb => .inl (so.st b hb), fun p hp => absurd hp (by simp)⟩, ?_⟩
    rw [e]
    intro H' _ _ v σ' r _
    cases r
    exact hQ H'
end
end W3

set_option Elab.async false
set_option linter.all false
set_option maxRecDepth 100000
set_option maxHeartbeats 4000000
/-! W3y: what the printed texts lean on. -/
namespace W3
open PySem PySem.Spec L2

theorem bt_len : bootBuiltins "len" = some (.builtin "len") := by decide +kernel
theorem bt_sum : bootBuiltins "sum" = some (.builtin "sum") := by decide +kernel
theorem bt_abs : bootBuiltins "abs" = some (.builtin "abs") := by decide +kernel
theorem bt_tuple : bootBuiltins "tuple" = some (.type "tuple") := by decide +kernel
theorem bt_list : bootBuiltins "list" = some (.type "list") := by decide +kernel
theorem bt_int : bootBuiltins "int" = some (.type "int") := by decide +kernel
theorem tk_wf {X : Cx} : TkW X WF := Takes.imp LamX.takes0 fun _ _ _ _ ⟨_, _, _, h⟩ => h
theorem d_gi {X : Cx} {W : XW} {x : Str} {n : Int} {pos : Pos} (h : ∃ t, X.mg x = some (.int n t)) (hg : Gl X x := by rfl) (hd : (x == ("__debug__" : Str)) = false := by decide) : PED X W (.Name x pos) (eC (.int n)) := by
  obtain ⟨t, h⟩ := h
  exact d_c (pe_glob (v := .int n) hg h ⟨t, rfl⟩ hd) fun _ _ _ => .int n
theorem d_gs {X : Cx} {W : XW} {x z : Str} {pos : Pos} (h : ∃ t, X.mg x = some (.str z t)) (hg : Gl X x := by rfl) (hd : (x == ("__debug__" : Str)) = false := by decide) : PED X W (.Name x pos) (eC (.str z)) := by
  obtain ⟨t, h⟩ := h
  exact d_c (pe_glob (v := .str z) hg h ⟨t, rfl⟩ hd) fun _ _ _ => .str z
/-- a def of the program, as the top left it -/
structure FunHas (K : PySem.W.Frag) (mg : Str → Option Value) (x : Str) (st : Stmt) : Prop where
  ex : ∃ (f : Addr) (fd : FuncData), Fun K x x st f fd ∧ mg x = some (.ref f)
structure FunHasG (K : PySem.W.Frag) (mg : Str → Option Value) (base : Heap) (x : Str) (st : Stmt) : Prop where
  ex : ∃ (f : Addr) (fd : FuncData), Fun K x x st f fd ∧ mg x = some (.ref f) ∧ ∃ c P, fd.code = .ref c ∧ GxR.TabB base mg c P ∧ P ∈ tabsOf K
section
variable {P : Program} {w : World} {K : PySem.W.Frag} {mg : Str → Option Value} {base : Heap}
theorem has_of {x : Str} {st : Stmt} {N ps : List Str} {k : Nat} {On Ob : List Nat} {fb : SV} (Fh : FunHas K mg x st) (S : FnScope N ps (defScope st))
    (hbind : ∀ (kV doc pm : Value) (an : Option Addr) (cdv ct : Value) (us : List Value), us.length = ps.length → bindArgs (PySem.W.fnOf x x (defArgs st) (defBody st) (defScope st) .none kV doc pm an cdv ct) ⟨us, []⟩ = pure (ps.zip us))
    (hb : ∀ (f : Addr) (cdv : Value) (A : Around) (outer : List PySem.Env) (s : Shared) (H : Hp) (E : XK), Room k (A.deeper (PyProof.Rows.envOfC x (defScope st) s.heap.objs.size f cdv)) →
      PSsD (cxOf (L2.CX P w) P w K mg base N x (defScope st) f cdv A outer s H E) (fun _ => WE' mg E) none [] On Ob [] (defBody st) fb) :
    Has P w K mg base (k + 1) x ps.length (runF ps.length N.length fb) := by
  obtain ⟨f, fd, F, hm⟩ := Fh.ex
  exact ⟨f, fd, ps, def_ok F S fun cdv _ A outer s H E hr => hb f cdv A outer s H E hr, hm, F.kp, F.binds hbind⟩
/-- the same, of one that holds generator expressions -/
theorem has_ofG {x : Str} {st : Stmt} {N ps : List Str} {k : Nat} {On Ob : List Nat} {fb : SV} (Fh : FunHasG K mg base x st) (S : FnScope N ps (defScope st))
    (hbind : ∀ (kV doc pm : Value) (an : Option Addr) (cdv ct : Value) (us : List Value), us.length = ps.length → bindArgs (PySem.W.fnOf x x (defArgs st) (defBody st) (defScope st) .none kV doc pm an cdv ct) ⟨us, []⟩ = pure (ps.zip us))
    (hb : ∀ (f : Addr) (cdv : Value), (∃ c P, GxR.TabB base mg c P ∧ cdv = .ref c ∧ P ∈ tabsOf K) → ∀ (A : Around) (outer : List PySem.Env) (s : Shared) (H : Hp) (E : XK), Room k (A.deeper (PyProof.Rows.envOfC x (defScope st) s.heap.objs.size f cdv)) →
      PSsD (cxOf (L2.CX P w) P w K mg base N x (defScope st) f cdv A outer s H E) (fun _ => WE' mg E) none [] On Ob [] (defBody st) fb) :
    Has P w K mg base (k + 1) x ps.length (runF ps.length N.length fb) := by
  obtain ⟨f, fd, F, hm, c, P, h1, h2, h3⟩ := Fh.ex
  exact ⟨f, fd, ps, def_ok F S fun cdv e A outer s H E hr => hb f cdv ⟨c, P, h2, e.symm.trans h1, h3⟩ A outer s H E hr, hm, F.kp, F.binds hbind⟩
theorem has_draw {x p1 p2 : Str} {st : Stmt} {Ns : List Str} {k : Nat} {fb : SV} (Fh : FunHas K mg x st) (S : FnScope (p1 :: p2 :: Ns) [p1, p2] (defScope st))
    (hbind : ∀ (kV doc pm : Value) (an : Option Addr) (cdv ct : Value) (us : List Value), us.length = [p1, p2].length → bindArgs (PySem.W.fnOf x x (defArgs st) (defBody st) (defScope st) .none kV doc pm an cdv ct) ⟨us, []⟩ = pure ([p1, p2].zip us))
    (hb : ∀ (f : Addr) (cdv : Value) (A : Around) (outer : List PySem.Env) (s : Shared) (H : Hp) (E : XK), Room k (A.deeper (PyProof.Rows.envOfC x (defScope st) s.heap.objs.size f cdv)) →
      PDsD (cxOf (L2.CX P w) P w K mg base (p1 :: p2 :: Ns) x (defScope st) f cdv A outer s H E) (defBody st) fb) :
    Has P w K mg base (k + 1) x 2 (drawF fb Ns.length) := by
  obtain ⟨f, fd, F, hm⟩ := Fh.ex
  exact ⟨f, fd, _, draw_ok F S fun cdv A outer s H E hr => hb f cdv A outer s H E hr, hm, F.kp, F.binds hbind⟩
end
end W3

set_option Elab.async false
set_option linter.all false
set_option maxRecDepth 100000
set_option maxHeartbeats 4000000
/-! W3o: zip, enumerate, reversed. -/
namespace W3
open PySem PySem.Spec L2

theorem seqT_same {K : PySem.W.Frag} {H H' : Hp} {a : Addr} {xs : List V} (e : Same H H') (h : SqT K H a xs) : SqT K H' a xs := by
  rcases h with (h | ⟨o, h⟩) | h
  · exact .inl (.inl (e _ _ h))
  · exact .inl (.inr ⟨o, e _ _ h⟩)
  · exact .inr h
mutual
theorem Dq.same {g : G} {S : Addr → Prop} {H H' : Hp} (e : Same H H') : ∀ (v : V) (d : D), Dq g S H v d → Dq g S H' v d
  | _, _, .non => .non
  | _, _, .bl b => .bl b
  | _, _, .int i => .int i
  | _, _, .str x => .str x
  | _, _, .lst n q r => .lst n (e _ _ q) (DqAll.same e _ _ r)
  | _, _, .tup q r => .tup (q.imp (fun z => e _ _ z) id) (DqAll.same e _ _ r)
  | _, _, .dk n q w r => .dk n (q.ext (fun _ z => by cases z) fun o h _ => e _ _ h) w (DqAll.same e _ _ r)
  | _, _, .dt n q w r => .dt n (q.ext (fun _ z => by cases z) fun o h _ => e _ _ h) w (DqAll.same e _ _ r)
  | _, _, .lkk n q w r => .lkk n (e _ _ q) w (DqAll.same e _ _ r)
  | _, _, .lkt n q w r => .lkt n (e _ _ q) w (DqAll.same e _ _ r)
  | _, _, .st h => .st h
theorem DqAll.same {g : G} {S : Addr → Prop} {H H' : Hp} (e : Same H H') : ∀ (v : List V) (d : List D), DqAll g S H v d → DqAll g S H' v d
  | _, _, .nil => .nil
  | _, _, .cons a b => .cons (Dq.same e _ _ a) (DqAll.same e _ _ b)
end
section
variable {g : G} {S : Addr → Prop} {H : Hp} {K : PySem.W.Frag}
/-- a pair, new -/
theorem dq_pair {S2 : Addr → Prop} {H1 H2 : Hp} {T : Addr} {x y : V} {d e : D} (nT : H1 T = none) (e2 : H2 = upd H1 T (.tup [x, y])) (rx : Dq g S2 H1 x d) (ry : Dq g S2 H1 y e) : Same H1 H2 ∧ Dq g S2 H2 (.ref T) (.tuple [d, e]) := by
  subst e2
  have sm : Same H1 (upd H1 T (.tup [x, y])) := same_upd nT
  exact ⟨sm, .tup (.of upd_same) (.cons (rx.same sm) (.cons (ry.same sm) .nil))⟩
def zipL (xs ys : List D) : List D := List.zipWith (fun d e => .tuple [d, e]) xs ys
theorem zipL_get {xs ys : List D} {i : Nat} {z : D} (h : (zipL xs ys)[i]? = some z) : ∃ d e, xs[i]? = some d ∧ ys[i]? = some e ∧ z = .tuple [d, e] := by
  unfold zipL at h
  rw [List.getElem?_zipWith] at h
  cases a : xs[i]? with
  | none => rw [a] at h; cases h
  | some d =>
    cases b : ys[i]? with
    | none => rw [a, b] at h; cases h
    | some e =>
      rw [a, b] at h
      exact ⟨d, e, rfl, rfl, (Option.some.inj h).symm⟩
theorem yields_zip {a b : Addr} {xs ys : List V} {ds es : List D} (k : SOk g S H) (na : ¬ S a) (nb : ¬ S b) (ea : H a = some (.lst xs)) (eb : H b = some (.lst ys)) (ra : DqAll g S H xs ds) (rb : DqAll g S H ys es) : Yields g S (Itz g.K a b) (zipL ds es) H := fun S2 h2 i H1 p => by
  have n2 : ∀ c, ¬ S c → (∃ o, H c = some o) → ¬ S2 c := fun c n ⟨o, e⟩ z => (h2 c z).elim n fun w => by rw [e] at w; cases w
  have e1 : H1 a = some (.lst xs) := p.keep a _ ea (n2 a na ⟨_, ea⟩) fun _ z => by cases z
  have e2 : H1 b = some (.lst ys) := p.keep b _ eb (n2 b nb ⟨_, eb⟩) fun _ z => by cases z
  have r1 := (ra.av h2).pres (k.mu2 h2) p
  have r2 := (rb.av h2).pres (k.mu2 h2) p
  have l1 := ra.length
  have l2 := rb.length
  refine ⟨fun d hd => ?_, fun hd => ⟨xs, ys, .of e1, .of e2, ?_⟩⟩
  · obtain ⟨d1, d2, q1, q2, rfl⟩ := zipL_get hd
    obtain ⟨v1, hv1, rv1⟩ := r1.get q1
    obtain ⟨v2, hv2, rv2⟩ := r2.get q2
    refine ⟨⟨xs, ys, v1, v2, .of e1, .of e2, hv1, hv2⟩, fun x H2 y => ?_⟩
    obtain ⟨T, x1, x2, rfl, nT, e, f1, f2⟩ := y
    have : x1 = v1 := Option.some.inj ((f1 xs (.of e1)).symm.trans hv1)
    subst this
    have : x2 = v2 := Option.some.inj ((f2 ys (.of e2)).symm.trans hv2)
    subst this
    exact dq_pair nT e rv1 rv2
  · unfold zipL at hd
    rw [List.length_zipWith] at hd
    omega
theorem yields_zipT {a b : Addr} {xs ys : List V} {ds es : List D} (k : SOk g S H) (ea : SqT g.K H a xs) (eb : SqT g.K H b ys) (ra : DqAll g S H xs ds) (rb : DqAll g S H ys es) : Yields g S (RZ.ItzT g.K a b) (zipL ds es) H := fun S2 h2 i H1 p => by
  have e1 : SqT g.K H1 a xs := p.seqT (k.mu2 h2) ea
  have e2 : SqT g.K H1 b ys := p.seqT (k.mu2 h2) eb
  have r1 := (ra.av h2).pres (k.mu2 h2) p
  have r2 := (rb.av h2).pres (k.mu2 h2) p
  have l1 := ra.length
  have l2 := rb.length
  refine ⟨fun d hd => ?_, fun hd => ⟨xs, ys, e1, e2, ?_⟩⟩
  · obtain ⟨d1, d2, q1, q2, rfl⟩ := zipL_get hd
    obtain ⟨v1, hv1, rv1⟩ := r1.get q1
    obtain ⟨v2, hv2, rv2⟩ := r2.get q2
    refine ⟨⟨xs, ys, v1, v2, e1, e2, hv1, hv2⟩, fun x H2 y => ?_⟩
    obtain ⟨T, x1, x2, rfl, nT, e, f1, f2⟩ := y
    have : x1 = v1 := Option.some.inj ((f1 xs e1).symm.trans hv1)
    subst this
    have : x2 = v2 := Option.some.inj ((f2 ys e2).symm.trans hv2)
    subst this
    exact dq_pair nT e rv1 rv2
  · unfold zipL at hd
    rw [List.length_zipWith] at hd
    omega
end
/-! ### zip(a, b) -/
def zipD : List D → Option (List D)
  | [.list ds, .list es] => some (zipL ds es)
  | [.tuple ds, .tuple es] => some (zipL ds es)
  | _ => none
section
variable {X : Cx} {W : XW} {tg e a b : Expr} {fa fb : EV} {ga : AV} {tl : TE} {p pos tpos : Pos} {elts : List Expr} {kk : Nat}
theorem i_zip (hg : Gl X "zip") (hm : X.mg "zip" = none) (ha : PAD X W [a, b] ga) (hs : starEach [a, b] X.env = (false, eval a X.env) :: starEach [b] X.env := by rfl) (hpl : (backTo pos (starEach [b] X.env)).any (·.1) = false := by rfl) :
    PID X W (.Tuple elts kk tpos) (.Call (.Name "zip" p) [a, b] [] pos) (iRg zipD ga) := ⟨(RZ.pi_zipA hg hm ha.pa hs hpl).con fun σ H R ⟨g, S, η, s, at_, q⟩ =>
  tA.mk at_ ((Res.bind q).imp fun ds H1 s1 e1 k1 q1 vs at1 rs => by
    obtain ⟨xs, hx, q2⟩ := Res.lift q1
    have q3 := q2 H1 Ext.refl k1
    unfold zipD at hx
    split at hx
    · cases hx
      cases rs with
      | cons r1 r2 =>
        cases r2 with
        | cons r2 r3 =>
          cases r3
          cases r1 with
          | lst n1 e1 a1 =>
            cases r2 with
            | lst n2 e2 a2 => exact ⟨_, _, _, _, rfl, .inl ⟨.of e1, .of e2, at_.gK ▸ q3 _ (yields_zip at1.sok n1 n2 e1 e2 a1 a2)⟩⟩
    · cases hx
      cases rs with
      | cons r1 r2 =>
        cases r2 with
        | cons r2 r3 =>
          cases r3
          cases r1 with
          | tup e1 a1 =>
            cases r2 with
            | tup e2 a2 => exact ⟨_, _, _, _, rfl, .inr ⟨at_.gK ▸ e1.seqT, at_.gK ▸ e2.seqT, at_.gK ▸ q3 _ (yields_zipT at1.sok e1.seqT e2.seqT a1 a2)⟩⟩
    · cases hx)⟩
end
/-! ### enumerate(a) -/
open PyProof.Rows in
/-- the tuple at a, each item in a new pair -/
def ItEt (K : PySem.W.Frag) (a : Addr) : It :=
  ⟨fun i H => ∃ (xs : List V) (x : V), SqT K H a xs ∧ xs[i]? = some x, fun i H v H' => ∃ T x, v = .ref T ∧ H T = none ∧ H' = upd H T (.tup [.int (i : Nat), x]) ∧ ∀ xs, SqT K H a xs → xs[i]? = some x, fun i H => ∃ xs : List V, SqT K H a xs ∧ xs.length ≤ i⟩
open PyProof.Rows in
theorem turn_enumT {P : Program} {w : World} {K : PySem.W.Frag} {elts : List Expr} {kk : Nat} {tpos : Pos} (a e it : Addr) :
    Turn P w K (.Tuple elts kk tpos) (ItEt K a) [e, it] e (fun i h => (∃ old, IsEnum h e it ((i : Nat) : Int) old) ∧ h.IsTupleIter it a i ∧ e ≠ it ∧ a ≠ it ∧ a ≠ e) where
  mem := by simp
  obj := fun i h st b hb => by
    obtain ⟨⟨old, he⟩, ⟨o, ho, hc, hd⟩, _⟩ := st
    have e' : b = e ∨ b = it := by simpa using hb
    rcases e' with z | z
    · rw [z]; exact ⟨_, he, fun v q => nomatch q⟩
    · rw [z]; exact ⟨o, ho, fun v q => by rw [hd] at q; cases q⟩
  keep := fun i h h' st k => let ⟨⟨old, he⟩, hi, hne⟩ := st; ⟨⟨old, k e (by simp) _ he⟩, hi.at fun o q => k it (by simp) o q, hne⟩
  item := by
    intro X hP hw hK hc i pins s σ H E I hf st hg
    subst hP hw hK
    obtain ⟨⟨old, he⟩, hit, hne, hai, hae⟩ := st
    obtain ⟨xs, x, hq, hx⟩ := hg
    obtain ⟨its, rv, p, hz⟩ := I.tuple hq
    obtain ⟨u, hu, ru⟩ := rv.get hx
    have hel : e < s.heap.objs.size := Heap.lt_size he
    have hil : it < s.heap.objs.size := by obtain ⟨_, q, _⟩ := hit; exact Heap.lt_size q
    have hlt : i < its.toArray.size := by
      have := (List.getElem?_eq_some_iff.mp hu).1
      simpa using this
    refine wpAny_pyNext_enum_itemC (Draws.tuple (A := X.A.in1) (I.ok.hd hc) it a hai its.toArray) he ⟨hit, p⟩ hlt hne (by simp [hne, Ne.symm hae]) fun u' h' tk hu' ho hit' hT hsz hk => ?_
    have eu : u' = u := by
      have h1 : its.toArray[i]? = some u := by simpa using hu
      exact Option.some.inj (hu'.symm.trans h1)
    subst eu
    refine ⟨_, rfl, wpAny_letOwnedTupleGo_enum (s := { s with heap := h', toks := tk + 1 }) ho fun h'' he' sb => ?_⟩
    have hT2 : h''.get? s.heap.objs.size = some { cls := .type "tuple", data := .seq #[.int i tk, u'] } := (sb.2 _ (Nat.ne_of_gt hel)).trans hT
    have new : ObjOk X.prog X.w (upd H s.heap.objs.size (.tup [.int (i : Nat), x])) h'' s.heap.objs.size (.tup [.int (i : Nat), x]) :=
      ⟨by show 2 ≤ sizeLine; decide, [.int i tk, u'], .cons ⟨_, rfl⟩ (.cons ru .nil), ⟨_, hT2, rfl, _, rfl⟩⟩
    have I1 : Inv X pins σ (upd H s.heap.objs.size (.tup [.int (i : Nat), x])) { s with heap := h'', toks := tk + 1 } :=
      I.turnedNew (ch := [e, it]) (fun b ob hb q => (sb.2 b (fun z => hb (by simp [z]))).trans (hk b ob (fun z => hb (by simp [z])) (fun z => hb (by simp [z])) q)) hf (Nat.le_refl _) new
    refine ⟨.ref s.heap.objs.size, _, I1, rfl, ⟨_, x, rfl, I.hok.fresh (Nat.le_refl _), rfl, fun ys hy => by rw [I.tuple_inj hy hq]; exact hx⟩, ⟨⟨u', ?_⟩, hit'.1.at fun o q => (sb.2 it (Ne.symm hne)).trans q, hne, hai, hae⟩, fun b hb => ?_⟩
    · have e1 : ((i + 1 : Nat) : Int) = (i : Int) + 1 := by omega
      rw [e1]; exact he'
    · have hb' : b < s.heap.objs.size := by
        have e' : b = e ∨ b = it := by simpa using hb
        rcases e' with z | z
        · rw [z]; exact hel
        · rw [z]; exact hil
      rw [upd_ne (Nat.ne_of_lt hb')]
      exact (hf b hb).1
  done := by
    intro X hP hw hK hc i pins s σ H E I hf st hg
    subst hP hw hK
    obtain ⟨⟨old, he⟩, hit, hne, hai, hae⟩ := st
    obtain ⟨xs, hq, hx⟩ := hg
    obtain ⟨its, rv, p, hz⟩ := I.tuple hq
    obtain ⟨f0, f1, f2, f3, f4, f5⟩ := hf it (by simp)
    have hl := rv.length
    have hn : its.toArray[i]? = none := by simp; omega
    have hT : s.TypeIs (.ref e) "enumerate" := ⟨_, he, rfl⟩
    unfold pyNext
    refine wpAny_bind (wpAny_attempt (wpAny_callSpecial?_slot (name := Str.ofString "__next__") hT F.slot_enumerate_next
      (wpAny_call_entry F.slot_enumerate_next hT F.entry_enumerate_next ?_ (F.args_enumerate_next_1 _))))
    show wpAny _ _ (field (.ref e) 2 >>= _) _ _ _
    refine wpAny_bind (wpAny_field he rfl (x := .ref it) rfl ?_)
    refine wpAny_bind (wpAny_nextOf_tuple_end (show X.A.in1.handled = none from I.ok.hd hc) hit p hn fun h' x he' hx' => ?_)
    obtain ⟨o, ho, hcl⟩ := hx'
    refine wpAny_bind (wpAny_isInstance (T := "StopIteration") (b := true) ⟨o, ho, hcl⟩ isSubtype_stop ?_)
    exact wpAny_pure ⟨rfl, I.turned (t' := s.toks) (fun b o hb q => he' b o hb q) f0 f1 f3 f4 f5⟩
  self := fun A i s Q E st h => let ⟨⟨_, he⟩, _⟩ := st; wpAny_pyIter_enum he h
set_option maxHeartbeats 1000000 in
theorem meets_enum1 {v : Value} {o : Obj} {H : Heap → Prop} (B : Begins v o H) :
    Meets (Builtin.«enumerate.__new__» ⟨[.type "enumerate", v], []⟩) (fun _ R s => H s.heap ∧
      R (.ok (.ret (.ref (s.heap.push o).objs.size))) { s with heap := (s.heap.push o).push { cls := .type "enumerate", data := .fields #[.none, .bool false, .ref s.heap.objs.size, rawInt 0, .none, .none] } }) :=
  .of_wp fun prog w A R s h => by
    obtain ⟨hp, g, d, tk, os⟩ := s; obtain ⟨h1, h⟩ := h
    have hsub := sub_enumerate
    have q1 : ∀ {A' : Around} {E : Value → Shared → Prop} {Q : Value → Shared → Prop}, Q (.ref hp.objs.size) ⟨hp.push o, g, d, tk, os⟩ → wpAny (model prog w) A' (pyIter v) Q E ⟨hp, g, d, tk, os⟩ :=
      fun q => B.iter prog w _ _ ⟨hp, g, d, tk, os⟩ _ h1 q
    wp_walk using q1
    refine wpAny_stack_any fun st => wpAny_pure ?_
    split
    · rename_i c _ _ _ _ _
      cases (c == Value.type "enumerate")
      · wp_walk using q1
        exact ⟨_, rfl, h⟩
      · wp_walk using q1
        exact ⟨_, rfl, h⟩
    · wp_walk using q1
      exact ⟨_, rfl, h⟩
theorem enum1_begins {prog : Program} {w : World} {A : Around} {E : Value → Shared → Prop} {s : Shared} {v : Value} {o : Obj} {H : Heap → Prop} {Q : Value → Shared → Prop} (B : Begins v o H) (h1 : H s.heap)
    (h : ∀ h', IsEnum h' (s.heap.objs.size + 1) s.heap.objs.size 0 .none → h'.get? s.heap.objs.size = some o → h'.objs.size = s.heap.objs.size + 2 →
      (∀ b o, s.heap.get? b = some o → h'.get? b = some o) → Q (.ref (s.heap.objs.size + 1)) { s with heap := h' }) :
    wpAny (model prog w) A (call (.type "enumerate") [v]) Q E s := by
  refine callType_new F.called_enumerate (by decide) (F.typeCall_enumerate_1 _) (F.newCall_enumerate_1 _) (fun obj => F.args_object_init_2 obj _) F.entry_enumerate_new
    (meets_enum1 B) ⟨h1, ?_⟩
  have hz : (s.heap.push o).objs.size = s.heap.objs.size + 1 := Heap.size_push ..
  show _ ∧ _
  rw [hz]
  have he : IsEnum ((s.heap.push o).push { cls := .type "enumerate", data := .fields #[.none, .bool false, .ref s.heap.objs.size, rawInt 0, .none, .none] }) (s.heap.objs.size + 1) s.heap.objs.size 0 .none := by
    have := Heap.get?_push_size (s.heap.push o) (o := { cls := .type "enumerate", data := .fields #[.none, .bool false, .ref s.heap.objs.size, rawInt 0, .none, .none] }) rfl
    rw [hz] at this; exact this
  refine ⟨⟨_, he, rfl⟩, h _ he (Heap.get?_push_of_some _ (Heap.get?_push_size _ B.free)) (by rw [Heap.size_push, hz]) fun b o x => Heap.get?_push_of_some _ (Heap.get?_push_of_some _ x)⟩
def iEnumA (K : PySem.W.Frag) (te : TE) : TI := fun σ H R => te σ H fun v H1 => ∃ a xs, v = .ref a ∧ ((SqL K H1 a xs ∧ R (Ite K a) H1) ∨ (SqT K H1 a xs ∧ R (ItEt K a) H1))
theorem pi_enumA {X : Cx} {e : Expr} {te : TE} {p pos tpos : Pos} {elts : List Expr} {kk : Nat} (hg : Gl X "enumerate") (hm : X.mg "enumerate" = none) (he : PE X e te) (hs : starEach [e] X.env = (false, eval e X.env) :: starEach [] X.env := by rfl) :
    PI X (.Tuple elts kk tpos) (.Call (.Name "enumerate" p) [e] [] pos) (iEnumA X.K te) := by
  refine ⟨fun pins s σ H R I h => ?_⟩
  refine PyProof.Rows.Call_ (ld_blt I hg hm PyProof.Rows.boot_enumerate (PyProof.Rows.callWith_type1 (PyProof.Rows.args_cons (thn (he.run pins s σ H _ I h) fun u s1 ⟨v, H1, I1, r1, q1⟩ => PyProof.Rows.args_nil ?_) hs) hs rfl))
  obtain ⟨a, xs, ex, q1⟩ := q1
  subst ex
  obtain rfl : u = Value.ref a := r1
  have fp2 : ∀ b, b ∈ [s1.heap.objs.size + 1, s1.heap.objs.size] → FpOk X pins H1 b := fun b hb => by
    have e' : b = s1.heap.objs.size + 1 ∨ b = s1.heap.objs.size := by simpa using hb
    have hle : s1.heap.objs.size ≤ b := by
      rcases e' with z | z
      · rw [z]; exact Nat.le_add_right _ _
      · rw [z]; exact Nat.le_refl _
    exact I1.fpOk hle (I1.hok.fresh hle)
  rcases q1 with ⟨hq, q⟩ | ⟨hq, q⟩
  · obtain ⟨its, rv, p', hz⟩ := I1.list hq
    refine call_enumerate_list p'.isList fun h' he hit hsz hk => wpAny_pyIter_enum he ?_
    have I2 : Inv X pins σ H1 { s1 with heap := h' } := I1.kept (t' := s1.toks) hk
    exact ⟨s1.heap.objs.size + 1, [s1.heap.objs.size + 1, s1.heap.objs.size], _, _, H1, rfl, I2, turn_enum a (s1.heap.objs.size + 1) s1.heap.objs.size, ⟨⟨.none, he⟩, hit, Nat.succ_ne_self _⟩, fp2, q⟩
  · obtain ⟨its, rv, p', hz⟩ := I1.tuple hq
    have p2 : s1.heap.IsTuple a its.toArray := p'
    have hlt : a < s1.heap.objs.size := let ⟨_, h, _⟩ := p2; Heap.lt_size h
    refine enum1_begins (begins_tuple a its.toArray) p2 fun h' he hit hsz hk => wpAny_pyIter_enum he ?_
    have I2 : Inv X pins σ H1 { s1 with heap := h' } := I1.kept (t' := s1.toks) hk
    exact ⟨s1.heap.objs.size + 1, [s1.heap.objs.size + 1, s1.heap.objs.size], _, _, H1, rfl, I2, turn_enumT a (s1.heap.objs.size + 1) s1.heap.objs.size, ⟨⟨.none, he⟩, ⟨_, hit, rfl, rfl⟩, Nat.succ_ne_self _, Nat.ne_of_lt hlt, Nat.ne_of_lt (Nat.lt_succ_of_lt hlt)⟩, fp2, q⟩
/-! the items with their numbers -/
def enumL (ds : List D) : List D := (List.range ds.length).zipWith (fun (i : Nat) d => .tuple [.int (i : Nat), d]) ds
theorem enumL_len (ds : List D) : (enumL ds).length = ds.length := by
  unfold enumL
  rw [List.length_zipWith, List.length_range, Nat.min_self]
theorem enumL_get {ds : List D} {i : Nat} {z : D} (h : (enumL ds)[i]? = some z) : ∃ d, ds[i]? = some d ∧ z = .tuple [.int (i : Nat), d] := by
  unfold enumL at h
  rw [List.getElem?_zipWith] at h
  cases a : (List.range ds.length)[i]? with
  | none => rw [a] at h; cases h
  | some j =>
    obtain ⟨_, hj⟩ := List.getElem?_eq_some_iff.mp a
    rw [List.getElem_range] at hj
    subst hj
    cases b : ds[i]? with
    | none => rw [a, b] at h; cases h
    | some d =>
      rw [a, b] at h
      exact ⟨d, rfl, (Option.some.inj h).symm⟩
section
variable {g : G} {S : Addr → Prop} {H : Hp}
theorem yields_enum {a : Addr} {xs : List V} {ds : List D} (k : SOk g S H) (n : ¬ S a) (e : H a = some (.lst xs)) (r : DqAll g S H xs ds) : Yields g S (Ite g.K a) (enumL ds) H := fun S2 h2 i H1 p => by
  have e1 : H1 a = some (.lst xs) := p.keep a _ e (fun z => (h2 a z).elim n fun w => by rw [e] at w; cases w) fun _ z => by cases z
  have r1 := (r.av h2).pres (k.mu2 h2) p
  have hl := r.length
  refine ⟨fun d hd => ?_, fun hd => ⟨xs, .of e1, by rw [enumL_len] at hd; omega⟩⟩
  obtain ⟨d, hd', rfl⟩ := enumL_get hd
  obtain ⟨v, hv, rv⟩ := r1.get hd'
  refine ⟨⟨xs, v, .of e1, hv⟩, fun x H2 y => ?_⟩
  obtain ⟨T, x', rfl, nT, e', f⟩ := y
  have : x' = v := Option.some.inj ((f xs (.of e1)).symm.trans hv)
  subst this
  exact dq_pair nT e' (.int _) rv
theorem yields_enumT {a : Addr} {xs : List V} {ds : List D} (k : SOk g S H) (e : SqT g.K H a xs) (r : DqAll g S H xs ds) : Yields g S (ItEt g.K a) (enumL ds) H := fun S2 h2 i H1 p => by
  have e1 : SqT g.K H1 a xs := p.seqT (k.mu2 h2) e
  have r1 := (r.av h2).pres (k.mu2 h2) p
  have hl := r.length
  refine ⟨fun d hd => ?_, fun hd => ⟨xs, e1, by rw [enumL_len] at hd; omega⟩⟩
  obtain ⟨d, hd', rfl⟩ := enumL_get hd
  obtain ⟨v, hv, rv⟩ := r1.get hd'
  refine ⟨⟨xs, v, e1, hv⟩, fun x H2 y => ?_⟩
  obtain ⟨T, x', rfl, nT, e', f⟩ := y
  have : x' = v := Option.some.inj ((f xs e1).symm.trans hv)
  subst this
  exact dq_pair nT e' (.int _) rv
end
/-- the items of a list, a tuple -/
def seqD : D → Option (List D)
  | .list ds => some ds
  | .tuple ds => some ds
  | _ => none
def iEn (f : EV) : IV := fun η => M.bind (f η) fun d => M.bind (M.lift (seqD d)) fun ds => M.ret (enumL ds)
section
variable {X : Cx} {W : XW} {tg e a b : Expr} {fa fb : EV} {ga : AV} {tl : TE} {p pos tpos : Pos} {elts : List Expr} {kk : Nat}
theorem i_enum (hg : Gl X "enumerate") (hm : X.mg "enumerate" = none) (h : PED X W e fa) (hs : starEach [e] X.env = (false, eval e X.env) :: starEach [] X.env := by rfl) : PID X W (.Tuple elts kk tpos) (.Call (.Name "enumerate" p) [e] [] pos) (iEn fa) :=
  ⟨(pi_enumA hg hm h.pe hs).con fun σ H R ⟨g, S, η, s, at_, q⟩ => tD.mk at_ ((Res.bind q).imp fun d H1 s1 e1 k1 q1 v at1 r => by
    obtain ⟨ds, hd, q2⟩ := Res.lift (Res.bind0 q1)
    have q3 := (q2 H1 Ext.refl k1) H1 Ext.refl k1
    unfold seqD at hd
    split at hd
    · cases hd
      cases r with
      | lst n e a => exact ⟨_, _, rfl, .inl ⟨.of e, at_.gK ▸ q3 _ (yields_enum at1.sok n e a)⟩⟩
    · cases hd
      cases r with
      | tup e a => exact ⟨_, _, rfl, .inr ⟨at_.gK ▸ e.seqT, at_.gK ▸ q3 _ (yields_enumT at1.sok e.seqT a)⟩⟩
    · cases hd)⟩
/-! ### reversed(a) -/
def iRv (f : EV) : IV := fun η => M.bind (f η) fun d => M.bind (M.lift (seqD d)) fun ds => M.ret ds.reverse
theorem yields_rev {g : G} {S : Addr → Prop} {H : Hp} {a : Addr} {xs : List V} {ds : List D} (k : SOk g S H) (n : ¬ S a) (e : H a = some (.lst xs)) (r : DqAll g S H xs ds) : Yields g S (Itv g.K a xs.length) ds.reverse H := fun S2 h2 i H1 p => by
  have e1 : H1 a = some (.lst xs) := p.keep a _ e (fun z => (h2 a z).elim n fun w => by rw [e] at w; cases w) fun _ z => by cases z
  have r1 := (r.av h2).pres (k.mu2 h2) p
  have hl := r.length
  refine ⟨fun d hd => ?_, fun hd => by rw [List.length_reverse] at hd; show xs.length ≤ i; omega⟩
  have hi : i < ds.length := by
    have := (List.getElem?_eq_some_iff.mp hd).1
    rw [List.length_reverse] at this
    exact this
  rw [List.getElem?_reverse hi] at hd
  obtain ⟨v, hv, rv⟩ := r1.get hd
  rw [← hl] at hv
  refine ⟨⟨by omega, xs, v, .of e1, hv⟩, fun x H2 y => ?_⟩
  obtain ⟨rfl, f⟩ := y
  have e3 := f xs (.of e1)
  have : x = v := Option.some.inj (e3.symm.trans hv)
  subst this
  exact ⟨.refl _, rv⟩
theorem yields_revT {g : G} {S : Addr → Prop} {H : Hp} {a : Addr} {xs : List V} {ds : List D} (k : SOk g S H) (e : SqT g.K H a xs) (r : DqAll g S H xs ds) : Yields g S (RT.ItvT g.K a xs.length) ds.reverse H := fun S2 h2 i H1 p => by
  have e1 : SqT g.K H1 a xs := p.seqT (k.mu2 h2) e
  have r1 := (r.av h2).pres (k.mu2 h2) p
  have hl := r.length
  refine ⟨fun d hd => ?_, fun hd => by rw [List.length_reverse] at hd; show xs.length ≤ i; omega⟩
  have hi : i < ds.length := by
    have := (List.getElem?_eq_some_iff.mp hd).1
    rw [List.length_reverse] at this
    exact this
  rw [List.getElem?_reverse hi] at hd
  obtain ⟨v, hv, rv⟩ := r1.get hd
  rw [← hl] at hv
  refine ⟨⟨by omega, xs, v, e1, hv⟩, fun x H2 y => ?_⟩
  obtain ⟨rfl, f⟩ := y
  have e3 := f xs e1
  have : x = v := Option.some.inj (e3.symm.trans hv)
  subst this
  exact ⟨.refl _, rv⟩
theorem i_rev (hg : Gl X "reversed") (hm : X.mg "reversed" = none) (h : PED X W e fa) (hs : starEach [e] X.env = (false, eval e X.env) :: starEach [] X.env := by rfl) : PID X W tg (.Call (.Name "reversed" p) [e] [] pos) (iRv fa) :=
  ⟨(RT.pi_revA hg hm h.pe hs).con fun σ H R ⟨g, S, η, s, at_, q⟩ => tD.mk at_ ((Res.bind q).imp fun d H1 s1 e1 k1 q1 v at1 r => by
    obtain ⟨ds, hd, q2⟩ := Res.lift (Res.bind0 q1)
    have q3 := (q2 H1 Ext.refl k1) H1 Ext.refl k1
    unfold seqD at hd
    split at hd
    · cases hd
      cases r with
      | lst n e a => exact ⟨_, _, rfl, .inl ⟨.of e, at_.gK ▸ q3 _ (yields_rev at1.sok n e a)⟩⟩
    · cases hd
      cases r with
      | tup e a => exact ⟨_, _, rfl, .inr ⟨at_.gK ▸ e.seqT, at_.gK ▸ q3 _ (yields_revT at1.sok e.seqT a)⟩⟩
    · cases hd)⟩
end
/-! ### isinstance -/
def tyN : D → Option String
  | .none => some "NoneType"
  | .bool _ => some "bool"
  | .int _ => some "int"
  | .str _ => some "str"
  | .list _ => some "list"
  | .tuple _ => some "tuple"
  | .dict _ => none
/-- of a class that is none of bool's kin: the type is it; an int is also a bool's -/
def isiD (T : String) (d : D) : Option D := match tyN d with
  | some t => some (.bool (t == T || (t == "bool" && T == "int")))
  | none => none
theorem kit_ok {K : PySem.W.Frag} {T t : String} (hT : T = "int" ∨ T = "bool" ∨ T = "str" ∨ T = "list" ∨ T = "tuple") (ht : t = "NoneType" ∨ t = "int" ∨ t = "bool" ∨ t = "str" ∨ t = "list" ∨ t = "tuple") : PySem.W.kitOne K (.type t) (.type T) = some (t == T || (t == "bool" && T == "int")) := by
  rcases hT with rfl | rfl | rfl | rfl | rfl <;> rcases ht with rfl | rfl | rfl | rfl | rfl | rfl <;> first | rfl | (unfold PySem.W.kitOne; decide +kernel)
theorem tyx_of {g : G} {S : Addr → Prop} {H : Hp} {v : V} {d : D} {t : String} (r : Dq g S H v d) (h : tyN d = some t) : TyX g.K H v (.type t) ∧ (t = "NoneType" ∨ t = "int" ∨ t = "bool" ∨ t = "str" ∨ t = "list" ∨ t = "tuple") := by
  cases r with
  | non => cases h; exact ⟨.base .non, .inl rfl⟩
  | bl b => cases h; exact ⟨.base (.bl b), by simp⟩
  | int i => cases h; exact ⟨.base (.int i), by simp⟩
  | str x => cases h; exact ⟨.base (.str x), by simp⟩
  | lst n e a => cases h; exact ⟨.base (.lst e), by simp⟩
  | tup e a =>
    cases h
    refine ⟨?_, by simp⟩
    have e := e.seqT
    rcases e with (e | ⟨o, e⟩) | ⟨o, its, n, e, c, _⟩
    · exact .base (.tup e)
    · exact .fTuple e
    · exact .kTuple e c
  | dk _ _ _ _ => cases h
  | dt _ _ _ _ => cases h
  | lkk _ _ _ _ => cases h
  | lkt _ _ _ _ => cases h
  | st e => cases h
section
variable {X : Cx} {W : XW} {e : Expr} {fa : EV} {p p2 pos : Pos}
theorem d_isi {x : Str} (T : String) (hT : T = "int" ∨ T = "bool" ∨ T = "str" ∨ T = "list" ∨ T = "tuple") (hg : Gl X "isinstance") (hm : X.mg "isinstance" = none) (hg2 : Gl X x) (hm2 : X.mg x = none) (hv2 : bootBuiltins x = some (.type T)) (ha : PED X W e fa) (hn : x ≠ "__name__" := by decide) (hd : (x == ("__debug__" : Str)) = false := by decide)
    (h1 : starEach [e, .Name x p2] X.env = (false, eval e X.env) :: starEach [.Name x p2] X.env := by rfl) (h2 : starEach [.Name x p2] X.env = (false, eval (.Name x p2) X.env) :: starEach [] X.env := by rfl) (hpl : (backTo pos (starEach [.Name x p2] X.env)).any (·.1) = false := by rfl) :
    PED X W (.Call (.Name "isinstance" p) [e, .Name x p2] [] pos) (e1 (isiD T) fa) :=
  ⟨(pe_callB call_isi hg hm PyProof.Rows.boot_isinstance (pa_cons ha.pe (pa_cons (pe_bltn (v := .ty T) hg2 hm2 hv2 rfl hn hd) pa_nil h2) h1) (by decide) (by decide) h1 hpl).con fun σ H Q ⟨g, S, η, s, at_, q⟩ =>
    tD.mk at_ ((Res.bind q).imp fun d H1 s1 e1 k1 q1 v at1 r => by
      obtain ⟨z, hz, q2⟩ := Res.lift q1
      unfold isiD at hz
      split at hz
      · rename_i t ht
        cases hz
        obtain ⟨ty, hs⟩ := tyx_of r ht
        exact ⟨v, .ty T, .type t, .type T, _, rfl, .ty T, at_.gK ▸ ty, kit_ok hT hs, q2 H1 Ext.refl k1 _ (.bl _)⟩
      · cases hz)⟩
end
theorem bt_bool : bootBuiltins "bool" = some (.type "bool") := by decide +kernel
theorem bt_str : bootBuiltins "str" = some (.type "str") := by decide +kernel
end W3

set_option Elab.async false
set_option linter.all false
set_option maxRecDepth 100000
set_option maxHeartbeats 4000000
/-! W3p: any, all of generator expressions. -/
namespace W3
open PySem PySem.Spec L2

/-- the context of a generator expression's body: entered at s from X -/
abbrev _root_.L2.Cx.gen (X : Cx) (A : Around) (s : Shared) (H : Hp) (cenv : PySem.Env) (fp : List Addr) : Cx :=
  { X with A := A, s_0 := s, H_0 := H, env := cenv, outer := X.stack, stack := cenv :: X.stack, ex := fp, fn := fun _ => false, calm := true, pn := [], xe := fun _ _ => False }
section
variable {X : Cx} {pins pinsG : List (Addr × Obj)} {σ : St} {H : Hp} {s : Shared}
theorem gen_reA {A A' : Around} {s0 : Shared} {H0 : Hp} {cenv : PySem.Env} {fp : List Addr} (I : Inv (X.gen A s0 H0 cenv fp) pinsG σ H s) (hd : A'.handled = none) (hf : A'.frames = some (cenv :: X.stack)) : Inv (X.gen A' s0 H0 cenv fp) pinsG σ H s :=
  ⟨⟨I.ok.mod, I.ok.kind, I.ok.glob, I.ok.blt, I.ok.above, I.ok.inj, I.ok.has, I.ok.cab, fun _ => hd, hf, I.ok.stk, I.ok.exf, I.ok.bs, I.ok.bsz, I.ok.noex, I.ok.exfs, I.ok.funs, I.ok.frf⟩, I.os, I.bare, I.base, I.loc, I.cell, I.free, I.freeC, I.pin, I.hok, I.len⟩
/-- the names of a generator expression's own scope -/
theorem gen_start {A : Around} {scope : Scope} {own : List (Str × Nat)} {fp : List Addr} {code bi : Value} {bia : Addr} {h₁ : Heap} {g₁ : Array GenState} {tk : Nat} {m : Str → Option Value} (I : Inv X pins σ H s) (ok : BlkOk X.N X.env.scope scope own) (hN : X.N.Nodup) (hfp : ∀ b ∈ fp, FpOk X pins H b ∧ b < s.heap.objs.size)
    (hb : bia = builtinsNs) (hd : A.handled = none) (hf : A.frames = some (genEnv scope (cloFrom X.env.cells scope.names []) s.heap.objs.size code bia X.env :: X.stack)) (hcl : ∀ y ∈ scope.names, y.2 ≠ .cell)
    (hns : h₁.Ns s.heap.objs.size m) (kp : ∀ b o, s.heap.get? b = some o → h₁.get? b = some o) (hg : PyProof.Rows.AllBare g₁) :
    Inv (X.gen A s H (genEnv scope (cloFrom X.env.cells scope.names []) s.heap.objs.size code bia X.env) fp) [] (wipe σ (own.map (·.2))) H { s with heap := h₁, gens := g₁, toks := tk } := by
  have hfree : ∀ y ∈ scope.names, y.2 = .free → ∃ c, X.env.cells.lookup y.1 = some c := fun y hy e => by
    rcases ok.free y hy e with k | k
    · exact I.ok.has _ (.inl k)
    · exact I.ok.has _ (.inr k)
  have cm : ∀ {y c}, (cloFrom X.env.cells scope.names []).lookup y = some c → X.env.cells.lookup y = some c := fun {y c} e => by
    rcases cloFrom_mem (PySem.mem_of_lookup e) with hm | ⟨h1, h2⟩
    · cases hm
    · obtain ⟨c1, hc⟩ := hfree _ h1 rfl
      have hc : X.env.cells.lookup y = some c1 := hc
      have e2 : c = c1 := by
        rw [h2, hc] <;> rfl
      rw [e2]
      exact hc
  have look : ∀ {y}, scope.names.lookup y = some .free → ∃ c, (cloFrom X.env.cells scope.names []).lookup y = some c := fun {y} hl => by
    have hy : (y, NameKind.free) ∈ scope.names := PySem.mem_of_lookup hl
    exact mem_lookup (cloFrom_has (cells := X.env.cells) (acc := []) hy)
  refine ⟨⟨I.ok.mod, ok.kind, I.ok.glob, hb, Nat.le_refl _, fun y z c e1 e2 => I.ok.inj y z c (cm e1) (cm e2), fun y hy => ?_, fun y c z _ => (by cases (show false = true from z)), fun _ => hd, hf, .inr ⟨rfl, rfl⟩, fun b hb => ⟨Nat.ne_of_lt (hfp b hb).2, fun y c e z => (hfp b hb).1.2.2.2.2.1 y c (cm e) z⟩, I.bs, Nat.le_trans I.ok.bsz I.sz, fun b o e hb => ?_, fun b hb z => ?_, I.stack, I.stkFree⟩,
    rfl, hg, Un.kept kp, ⟨m, hns, fun i y av e1 e2 e3 => ?_⟩, fun y c e => ?_, I.hok.fresh (Nat.le_refl _), fun y c e => I.freeC y c (cm e), fun p hp => absurd (show p ∈ ([] : List (Addr × Obj)) ++ [] from hp) (by simp), I.hok.kept kp, by rw [wipe_length]; exact I.len⟩
  · have hy : scope.names.lookup y = some .cell ∨ scope.names.lookup y = some .free := hy
    rcases hy with hy | hy
    · exact absurd rfl (hcl _ (PySem.mem_of_lookup hy))
    · exact look hy
  · rcases (hfp b hb).1.2.2.2.1 with z | z
    · exact I.ok.noex b o e z
    · exact absurd (Nat.lt_of_lt_of_le (Heap.lt_size e) (Nat.le_trans I.ok.bsz z)) (Nat.lt_irrefl _)
  · rcases List.mem_cons.mp (I.stkSub b z) with z | z
    · exact (hfp b hb).1.2.1 z
    · exact (hfp b hb).1.2.2.1 z
  · obtain ⟨e2, hne⟩ := wipe_some e2
    have e3 : Vis scope y := e3
    have no : ¬ (scope.names.lookup y = some .local ∨ scope.names.lookup y = some .cell) := fun hh => by
      have key : ∀ k, scope.names.lookup y = some k → k = .local ∨ k = .cell → False := fun k e hk => by
        rcases ok.own _ (PySem.mem_of_lookup e) hk with e' | e'
        · obtain ⟨p, hp, hpy⟩ := List.mem_map.mp e'
          have e3 := ok.ix p hp
          have : p.1 = y := hpy
          rw [this] at e3
          exact hne (List.mem_map.mpr ⟨p, hp, nodup_ix hN e3 e1⟩)
        · exact e' (List.mem_of_getElem? e1)
      rcases hh with h | h
      · exact key _ h (.inl rfl)
      · exact key _ h (.inr rfl)
    have k : scope.names.lookup y = some .free := by
      rcases e3 with h | h | h
      · exact absurd (.inl h) no
      · exact absurd (.inr h) no
      · exact h
    obtain ⟨m', hn, hl⟩ := I.loc
    have hvis : Vis X.env.scope y := (ok.free _ (PySem.mem_of_lookup k) rfl).elim (fun k => .inr (.inl k)) (fun k => .inr (.inr k))
    obtain ⟨w', r, q⟩ := hl i y av e1 e2 hvis
    obtain ⟨c2, h2⟩ := look k
    refine ⟨w', r, .inr ⟨.inr k, c2, h2, ?_⟩⟩
    have c1 := cm h2
    rcases q with ⟨k', _⟩ | ⟨_, c3, e', z⟩
    · have k' : X.env.scope.names.lookup y = some .local := k'
      rcases ok.free _ (PySem.mem_of_lookup k) rfl with k2 | k2 <;> rw [show X.env.scope.names.lookup y = _ from k2] at k' <;> cases k'
    · rw [c1] at e'
      cases e'
      exact z.keeps kp
  · obtain ⟨w', z⟩ := I.cell y c (cm e)
    exact ⟨w', z.keeps kp⟩
/-- back in X -/
theorem gen_out {A : Around} {s0 s' : Shared} {H0 H' : Hp} {cenv : PySem.Env} {fp : List Addr} {σG : St} (I : Inv X pins σ H0 s0) (hfp : ∀ b ∈ fp, FpOk X pins H0 b) (J : Inv (X.gen A s0 H0 cenv fp) pinsG σG H' s') : Inv X pins σ H' s' :=
  I.call' (ch := fp) J.os J.base J.hok J.bare fun b hb => let ⟨_, h1, _, h3, h4, h5⟩ := hfp b hb; ⟨h3, h1, h4, h5⟩
end

/-! ### what is computed -/
/-- the truth of an item: of a bool, an int -/
def truthB : D → Option Bool
  | .bool b => some b
  | .int i => some (i != 0)
  | _ => none
/-- items gone through with n steps at most; none: one was found that is «stop» -/
def glM (stop : Bool) (f : GV) (t : BV) (e : EV) (η : Env) : Nat → List D → M (Option Nat)
  | n, [] => M.ret (some n)
  | n, d :: ds => match f d η with
    | none => M.bad
    | some η1 => M.bind (t η1) fun b => if b = true then (match n with
      | 0 => M.bad
      | m + 1 => M.bind (e η1) fun v => M.bind (M.lift (truthB v)) fun r => if r = stop then M.ret none else glM stop f t e η m ds) else glM stop f t e η n ds
def finG (stop : Bool) (o : Option Nat) : M D := match o with
  | none => M.ret (.bool stop)
  | some _ => M.ret (.bool (!stop))
def eGen (stop : Bool) (src : IV) (f : GV) (t : BV) (e : EV) (vs : List Nat) : EV := fun η => M.bind (src η) fun ds => M.bind (noExc (glM stop f t e (wipeE η vs) ds.length ds)) (finG stop)

/-! ### the turns -/
/-- between a yield and the next waking -/
structure Woke (s s'' : Shared) : Prop where
  keep : ∀ b o, s.heap.get? b = some o → s''.heap.get? b = some o
  os : s''.os = s.os
  bare : PyProof.Rows.AllBare s''.gens
theorem Woke.inv {X : Cx} {pins : List (Addr × Obj)} {σ : St} {H : Hp} {s s'' : Shared} (I : Inv X pins σ H s) (w : Woke s s'') : Inv X pins σ H s'' :=
  I.call' (ch := []) w.os (Un.kept w.keep) (I.hok.kept w.keep) w.bare fun b hb => absurd hb (by simp)
section
variable {X : Cx} {W : WW} {g : G} {S : Addr → Prop} {H2 : Hp} {Q : D → Hp → DS → Prop} {stop : Bool}
/-- at a yield -/
def genY (X : Cx) (W : WW) (g : G) (S : Addr → Prop) (H2 : Hp) (Q : D → Hp → DS → Prop) (stop : Bool) (Ay : Around) (s0 : Shared) (H0 : Hp) (cenv : PySem.Env) (fp : List Addr) (pn : List (Addr × Obj)) : Protocol := fun _ _ v s kap =>
  ∃ (x : V) (d : D) (r : Bool) (σ' : St) (H : Hp) (sD : DS), RelV x v ∧ Inv (X.gen Ay s0 H0 cenv fp) pn σ' H s ∧ Dq g S H x d ∧ truthB d = some r ∧ Ext g H2 H ∧ Ok g H sD ∧ (r = stop → Res W g H2 (finG stop none sD) Q) ∧ (r ≠ stop → ∀ s'', Woke s s'' → kap (.send .none) s'')
/-- at the end -/
def genR (X : Cx) (W : WW) (g : G) (H2 : Hp) (Q : D → Hp → DS → Prop) (stop : Bool) (Ay : Around) (s0 : Shared) (H0 : Hp) (cenv : PySem.Env) (fp : List Addr) (pn : List (Addr × Obj)) : GenEnd := fun _ _ r s =>
  r = .ok .next ∧ ∃ (σ' : St) (H : Hp) (sD : DS) (n : Nat), Inv (X.gen Ay s0 H0 cenv fp) pn σ' H s ∧ Ext g H2 H ∧ Ok g H sD ∧ Res W g H2 (finG stop (some n) sD) Q
theorem seg_last {E tg elt : Expr} {ifs : List Expr} {dp : Nat} {itp : Pos} {it : Addr} {fpI : List Addr} {tn : Nat → Heap → Prop} {J : It} {A0 Aw Ay : Around} {fs : List Frame} {s0 : Shared} {H0 : Hp} {cenv : PySem.Env} {fp : List Addr} {pn ext : List (Addr × Obj)}
    {us vs : List Nat} {f : GV} {t : BV} {e : EV} {σw : St} {η0 : Env} {ds : List D} {KK : Option Nat → M D} {R : GenEnd} (hq : (Code.compLoop E dp (.ref it) .none cenv).quiet = true)
    {hx : Value → Sem Unit} (hden : (model X.prog X.w).den (.compLoop E dp (.ref it) .none cenv) = (compTurn E dp (.ref it) .none cenv).onRaise hx)
    (hturn : compTurn E dp (.ref it) .none cenv = (do
        standAt itp
        match ← pyNext (.ref it) with
        | none => pure (.done .next)
        | some v =>
          letOwnedTupleGo tg (.ref it) v
          assign tg cenv v
          let mut ok := true
          for c in ifs do
            if ok then ok ← isTrue c cenv (eval c cenv)
          if ok then
            (do let v ← eval elt cenv; standAt elt.pos; let _ ← yieldOut cenv v)
          again (.compLoop E dp (.ref it) .none cenv)))
    (hover : A0.over (.compLoop E dp (.ref it) .none cenv) fs = Aw) (hsp : splitAtGen fs = none) (hgd : fs.any Frame.guarded = false) (hco : cenv.scope.isCoroutine = false)
    (hdy : Ay.handled = none) (hfy : Ay.frames = some (cenv :: X.stack)) (hdw : Aw.handled = none) (hfw : Aw.frames = some (cenv :: X.stack))
    (T : Turn X.prog X.w X.K tg J fpI it tn) (hg : PGD (X.gen Aw s0 H0 cenv fp) us tg f) (ht : PTsD (X.gen Aw s0 H0 cenv fp) WF ifs t) (he : PED (X.gen Aw s0 H0 cenv fp) WF elt e) (hu : ∀ i ∈ us, i ∈ vs) (hw : wipe σw vs = σw)
    {Hj : Hp} (hJ : Yields g S J ds Hj) (hK0 : KK none = finG stop none)
    (hfin : ∀ (n : Nat) (s0' s : Shared) (σ' : St) (H : Hp) (sD : DS), Inv (X.gen Aw s0 H0 cenv fp) (pn ++ ext) σ' H s → Ext g H2 H → Pres S Hj H → SOk g S H → Ok g H sD → (∀ b ∈ fpI, H b = none) → wipe σ' vs = σw → Res W g H2 (KK (some n) sD) Q → Seg (model X.prog X.w) A0 R (genY X W g S H2 Q stop Ay s0 H0 cenv fp pn) n s0' (.compLoop E dp (.ref it) .none cenv) (.pure (.done .next)) fs s) :
    ∀ (r i n : Nat) (s0' s : Shared) (σ' : St) (H : Hp) (sD : DS), ds.length - i = r → i ≤ ds.length → Inv (X.gen Aw s0 H0 cenv fp) (pn ++ ext) σ' H s → wipe σ' vs = σw → tn i s.heap → (∀ b ∈ fpI, FpOk (X.gen Aw s0 H0 cenv fp) (pn ++ ext) H b) → At X.K g S H σw η0 sD → Ext g H2 H → Pres S Hj H →
      Res W g H2 (M.bind (noExc (glM stop f t e η0 n (ds.drop i))) KK sD) Q → Seg (model X.prog X.w) A0 R (genY X W g S H2 Q stop Ay s0 H0 cenv fp pn) n s0' (.compLoop E dp (.ref it) .none cenv) ((model X.prog X.w).den (.compLoop E dp (.ref it) .none cenv)) fs s := by
  intro r
  induction r with
  | zero =>
    intro i n s0' s σ' H sD hr hi I hwσ st hf at_ ex pr q
    have hin : i = ds.length := by omega
    subst hin
    rw [hden, hturn, Sem.onRaise_eq_wrap]
    refine seg_bind_wrap (wpAny_standAt ?_)
    obtain ⟨_, y2⟩ := hJ S (fun a h => .inl h) ds.length H pr
    refine seg_bind_wrap ?_
    rw [hover]
    refine thnF (T.done (X.gen Aw s0 H0 cenv fp) rfl rfl rfl rfl ds.length (pn ++ ext) s σ' H _ I hf st (y2 (Nat.le_refl _))) fun u s1 ⟨hu1, I1⟩ => ?_
    subst hu1
    rw [List.drop_length] at q
    exact hfin n s0' s1 σ' H sD I1 ex pr at_.sok at_.ok (fun b hb => (hf b hb).1) hwσ q
  | succ r ih =>
    intro i n s0' s σ' H sD hr hi I hwσ st hf at_ ex pr q
    have hlt : i < ds.length := by omega
    rw [hden, hturn, Sem.onRaise_eq_wrap]
    refine seg_bind_wrap (wpAny_standAt ?_)
    obtain ⟨y1, _⟩ := hJ S (fun a h => .inl h) i H pr
    have hxi : ds[i]? = some ds[i] := List.getElem?_eq_getElem hlt
    obtain ⟨go, yld⟩ := y1 _ hxi
    refine seg_bind_wrap ?_
    rw [hover]
    refine thnF (T.item (X.gen Aw s0 H0 cenv fp) rfl rfl rfl rfl i (pn ++ ext) s σ' H (fun _ _ => False) I hf st go) fun r6 s6 ⟨u, hr6, h6⟩ => ?_
    subst hr6
    refine seg_bind_wrap ?_
    rw [hover]
    refine thnF h6 fun _ s7 ⟨x, H7, I7, r7, y7, st7, n7⟩ => ?_
    obtain ⟨sm, rx⟩ := yld x H7 y7
    have stat7 : ∀ b ∈ fpI, FpOk (X.gen Aw s0 H0 cenv fp) (pn ++ ext) H7 b := fun b hb => ⟨n7 b hb, (hf b hb).2⟩
    have I7' := (I7.pinned stat7 (T.obj _ _ st7)).weak (σ' := σw) (by rw [← hwσ, wipe_length]) fun j v e => by
      rw [← hwσ] at e
      exact (wipe_some e).1
    have at7 := at_.ext (Ext.same sm) (at_.ok.same sm)
    rw [List.drop_eq_getElem_cons hlt] at q
    have ex7 := ex.trans (Ext.same sm)
    have pr7 : Pres S Hj H7 := pr.trans (Pres.same sm)
    -- the iterator's objects stand as they stood at s7
    have fin : ∀ {s' : Shared} {σ8 : St} {H' : Hp}, Inv (X.gen Aw s0 H0 cenv fp) ((pn ++ ext) ++ pinsAt fpI s7.heap) σ8 H' s' → Inv (X.gen Aw s0 H0 cenv fp) (pn ++ ext) σ8 H' s' ∧ tn (i + 1) s'.heap ∧ ∀ b ∈ fpI, FpOk (X.gen Aw s0 H0 cenv fp) (pn ++ ext) H' b := fun {s' σ8 H'} I' => by
      have pin' : ∀ b ∈ fpI, ∀ o, s7.heap.get? b = some o → s'.heap.get? b = some o ∧ H' b = none := fun b hb o e =>
        let z := I'.pin (b, o) (List.mem_append_right _ (List.mem_append_right _ (mem_pinsAt hb e)))
        ⟨z.1, z.2.1⟩
      refine ⟨I'.unpinned, T.keep _ _ _ st7 fun b hb o e => (pin' b hb o e).1, fun b hb => ⟨?_, (hf b hb).2⟩⟩
      obtain ⟨o, e, _⟩ := T.obj _ _ st7 b hb
      exact (pin' b hb o e).2
    cases hfe : f ds[i] η0 with
    | none =>
      unfold glM at q
      rw [hfe] at q
      exact q.elim
    | some η1 =>
      unfold glM at q
      rw [hfe] at q
      refine seg_bind_wrap ?_
      rw [hover]
      have hgr := hg.pg.run _ s7 σw H7 x u (fun σ2 H2' => H2' = H7 ∧ wipe σ2 vs = σw ∧ At X.K g S H7 σ2 η1 sD) I7' r7 ⟨g, S, η0, sD, ds[i], η1, at7, rx, hfe, fun σ2 o2 at2 => ⟨rfl, (o2.mono hu).wipe.trans hw, at2⟩⟩
      refine thnF hgr fun _ s8 ⟨σ8, H8, I8, e8, hw8, at8⟩ => ?_
      subst e8
      refine seg_bind_wrap ?_
      rw [hover]
      have q8 := (Res.nx q)
      have htr := ht.pt.run _ s8 σ8 H8 (fun b H9 => ∃ s9, At X.K g S H9 σ8 η1 s9 ∧ Ext g H8 H9 ∧ Res W g H2 (M.bind (noExc (if b = true then (match n with
          | 0 => M.bad
          | m + 1 => M.bind (e η1) fun v => M.bind (M.lift (truthB v)) fun r => if r = stop then M.ret none else glM stop f t e η0 m (ds.drop (i + 1))) else glM stop f t e η0 n (ds.drop (i + 1)))) KK s9) Q) I8
        (tDT.mk at8 ((q8.ext ex7).imp fun b H9 s9 e9 k9 q9 at9 => ⟨s9, at9, e9, q9⟩))
      refine thnF htr fun b s9 ⟨H9, I9, sD9, at9, e9, q9⟩ => ?_
      have ex9 := ex7.trans e9
      have pr9 : Pres S Hj H9 := pr7.trans (e9.pres at8.sok.st)
      have atw : ∀ {H' : Hp} {sD' : DS}, Pres S Hj H' → SOk g S H' → Ok g H' sD' → Ext g H H' → At X.K g S H' σw η0 sD' := fun {H' sD'} _ so k e => ⟨at_.gK, so, at_.rep.ext at_.sok.st at_.ok.stl e, k, at_.len⟩
      cases b with
      | false =>
        simp only [Bool.false_eq_true, if_false]
        obtain ⟨J1, J2, J3⟩ := fin I9
        rw [if_neg Bool.false_ne_true] at q9
        exact seg_again (by first | rfl | exact hq) (ih (i + 1) n s0' s9 σ8 H9 sD9 (by omega) hlt J1 hw8 J2 J3 (atw pr9 at9.sok at9.ok ((Ext.same sm).trans e9)) ex9 pr9 q9)
      | true =>
        simp only [if_true]
        rw [if_pos rfl] at q9
        cases n with
        | zero => exact q9.elim
        | succ m =>
          have hy : ∀ v, yieldOut cenv v = yieldValue v := fun v => by simp only [yieldOut, hco, Bool.false_eq_true, if_false]
          simp only [hy]
          rw [Sem.bind_eq_wrap', Sem.bind_eq_wrap', Sem.wrap_wrap, Sem.wrap_wrap]
          refine seg_wrap ?_
          rw [hover]
          have her := he.pe.run _ s9 σ8 H9 (fun y H10 => ∃ d s10, At X.K g S H10 σ8 η1 s10 ∧ Dq g S H10 y d ∧ Ext g H9 H10 ∧ Res W g H2 (M.bind (noExc (M.bind (M.lift (truthB d)) fun r => if r = stop then M.ret none else glM stop f t e η0 m (ds.drop (i + 1)))) KK s10) Q) I9
            (tD.mk at9 (((Res.nx q9).ext ex9).imp fun d H10 s10 e10 k10 q10 v at10 r10 => ⟨d, s10, at10, r10, e10, q10⟩))
          refine thnF her fun z s10 ⟨yv, H10, I10, rz, d, sD10, at10, rd, e10, q10⟩ => ?_
          have ex10 := ex9.trans e10
          have pr10 : Pres S Hj H10 := pr9.trans (e10.pres at9.sok.st)
          obtain ⟨J1, J2, J3⟩ := fin I10
          obtain ⟨rr, hrr, q11⟩ : ∃ rr, truthB d = some rr ∧ Res W g H2 (M.bind (noExc (if rr = stop then M.ret none else glM stop f t e η0 m (ds.drop (i + 1)))) KK sD10) Q := by
            cases hd : truthB d with
            | none => rw [hd] at q10; exact q10.elim
            | some rr => rw [hd] at q10; exact ⟨rr, rfl, q10⟩
          refine seg_at (seg_yield hsp rfl hgd ⟨yv, d, rr, σ8, H10, sD10, rz, gen_reA J1.unpinned hdy hfy, rd, hrr, ex10, at10.ok, fun h => ?_, fun h s'' wk => ?_⟩)
          · rw [if_pos h] at q11
            rw [← hK0]
            exact q11
          · rw [if_neg h] at q11
            have K1 := wk.inv J1
            exact seg_again (by first | rfl | exact hq) (ih (i + 1) m s'' s'' σ8 H10 sD10 (by omega) hlt K1 hw8 (T.keep _ _ _ J2 fun b _ o e => wk.keep b o e) J3 (atw pr10 at10.sok at10.ok (((Ext.same sm).trans e9).trans e10)) ex10 pr10 q11)
end

/-! ### who wakes it -/
theorem inv_reA {X : Cx} {pins : List (Addr × Obj)} {σ : St} {H : Hp} {s : Shared} {A' : Around} (I : Inv X pins σ H s) (hd : X.calm = true → A'.handled = none) (hf : A'.frames = X.A.frames) : Inv { X with A := A' } pins σ H s :=
  ⟨⟨I.ok.mod, I.ok.kind, I.ok.glob, I.ok.blt, I.ok.above, I.ok.inj, I.ok.has, I.ok.cab, hd, hf.trans I.ok.frames, I.ok.stk, I.ok.exf, I.ok.bs, I.ok.bsz, I.ok.noex, I.ok.exfs, I.ok.funs, I.ok.frf⟩, I.os, I.bare, I.base, I.loc, I.cell, I.free, I.freeC, I.pin, I.hok, I.len⟩
section
variable {X : Cx} {W : WW} {g : G} {S : Addr → Prop} {H2 : Hp} {Q : D → Hp → DS → Prop} {stop : Bool} {Ay : Around} {s0 : Shared} {H0 : Hp} {cenv : PySem.Env} {fp : List Addr} {pn pins : List (Addr × Obj)} {a : Addr} {gi : Nat} {σ : St}
def GRdy (X : Cx) (W : WW) (g : G) (S : Addr → Prop) (H2 : Hp) (Q : D → Hp → DS → Prop) (stop : Bool) (Ay : Around) (s0 : Shared) (H0 : Hp) (cenv : PySem.Env) (fp : List Addr) (pn : List (Addr × Obj)) (gi : Nat) (A1 : Around) (n : Nat) (s : Shared) : Prop :=
  ∃ gs, s.gens[gi]? = some gs ∧ ∀ s'', Woke s s'' → gs.Goes (model X.prog X.w) A1 (genR X W g H2 Q stop Ay s0 H0 cenv fp pn) (genY X W g S H2 Q stop Ay s0 H0 cenv fp pn) n (.send .none) s''
theorem woke_set {s : Shared} {x : GenState} (hb : PyProof.Rows.AllBare s.gens) (hx : x.bare = true) : Woke s (s.setGen gi x) := ⟨fun _ _ e => e, rfl, allBare_setGen hb hx⟩
theorem Woke.trans {s s' s'' : Shared} (x : Woke s s') (y : Woke s' s'') : Woke s s'' := ⟨fun b o e => y.keep b o (x.keep b o e), y.os.trans x.os, y.bare⟩
/-- one waking -/
theorem gen_next {s : Shared} {σ' : St} {H : Hp} {n : Nat} {QQ : Option Value → Shared → Prop} {EE : Value → Shared → Prop} {A : Around} (hh : A.handled = none) (hdp : A.depth < recursionLimit) (I : Inv (X.gen Ay s0 H0 cenv fp) pn σ' H s) (hgn : ∀ s : Shared, (∀ p ∈ pn, s.heap.get? p.1 = some p.2) → s.heap.IsGen a gi)
    (hr : GRdy X W g S H2 Q stop Ay s0 H0 cenv fp pn gi A.in1 n s)
    (hend : ∀ (s' : Shared) (σ' : St) (H : Hp) (sD : DS) (m : Nat), Inv (X.gen Ay s0 H0 cenv fp) pn σ' H s' → Ext g H2 H → Ok g H sD → Res W g H2 (finG stop (some m) sD) Q → QQ none s')
    (hyld : ∀ (s' : Shared) (v : Value) (x : V) (d : D) (r : Bool) (σ' : St) (H : Hp) (sD : DS), RelV x v → Inv (X.gen Ay s0 H0 cenv fp) pn σ' H s' → Dq g S H x d → truthB d = some r → Ext g H2 H → Ok g H sD → (r = stop → Res W g H2 (finG stop none sD) Q) →
      (r ≠ stop → ∃ m, n = m + 1 ∧ GRdy X W g S H2 Q stop Ay s0 H0 cenv fp pn gi A.in1 m s') → QQ (some v) s') : wpAny (model X.prog X.w) A (pyNext (.ref a)) QQ EE s := by
  obtain ⟨gs, hgs, hgo⟩ := hr
  have hIs : s.heap.IsGen a gi := hgn s fun p hp => (I.pin p (List.mem_append_right _ hp)).1
  have bare_run : ∀ {s : Shared}, PyProof.Rows.AllBare s.gens → Woke s (s.setGen gi .running) := fun h => woke_set h rfl
  have hgl : gi + 1 ≤ s.gens.size := (Array.getElem?_eq_some_iff.mp hgs).1
  refine GenW.wpAny_gsz (n := gi + 1) hgl (wpAny_pyNext_genexpQ (P := fun _ _ s => ∃ (σ' : St) (H : Hp) (sD : DS) (n : Nat), Inv (X.gen Ay s0 H0 cenv fp) pn σ' H s ∧ Ext g H2 H ∧ Ok g H sD ∧ Res W g H2 (finG stop (some n) sD) Q) hh I.nolimit hdp hIs hgs (hgo _ (bare_run I.bare)) (fun v s1 gs' hb hv hsz => ?_) (fun s1 hp h' hk _ => ?_))
  · obtain ⟨x, d, r, σ1, H1, sD, rv, I1, rd, ht, ex, ok, q1, q2⟩ := hv
    have I1' := (woke_set (gi := gi) (x := gs') I1.bare hb).inv I1
    refine hyld _ v x d r σ1 H1 sD rv I1' rd ht ex ok q1 fun hr => ?_
    have q2' := q2 hr
    cases n with
    | zero => exact (q2' s1 ⟨fun _ _ e => e, rfl, I1.bare⟩).elim
    | succ m =>
      refine ⟨m, rfl, gs', ?_, fun s'' wk => q2' s'' ((woke_set (gi := gi) (x := gs') I1.bare hb).trans wk)⟩
      have hlt : gi < s1.gens.size := by
        have q : (s1.setGen gi gs').gens.size = s1.gens.size := GenW.setGen_size _ _ _
        rw [q] at hsz
        exact hsz
      exact setGen_at hlt
  · obtain ⟨σ1, H1, sD, m, I1, ex, ok, q⟩ := hp
    have wk : Woke s1 { s1.setGen gi .finished with heap := h' } := ⟨fun b o e => hk b o e, rfl, allBare_setGen I1.bare rfl⟩
    exact hend _ σ1 H1 sD m (wk.inv I1) ex ok q
/-- the truth of an item -/
theorem truth_at {s : Shared} {H : Hp} {x : V} {v : Value} {d : D} {r : Bool} {A : Around} {QQ : Bool → Shared → Prop} {EE : Value → Shared → Prop} (rv : RelV x v) (rd : Dq g S H x d) (ht : truthB d = some r)
    (h : QQ r s) : wpAny (model X.prog X.w) A (truthy v) QQ EE s := by
  unfold truthB at ht
  split at ht
  · cases ht
    cases rd
    obtain rfl : v = Value.bool r := rv
    exact wpAny_truthy_bool h
  · cases ht
    cases rd
    obtain ⟨t, rfl⟩ := rv
    exact PySem.P.truthy_int h
  · cases ht
theorem loop_any {RR : Result → Shared → Prop} {A : Around} (hh : A.handled = none) (hdp : A.depth < recursionLimit) (hgn : ∀ s : Shared, (∀ p ∈ pn, s.heap.get? p.1 = some p.2) → s.heap.IsGen a gi)
    (hR : ∀ (s' : Shared) (σ' : St) (H : Hp) (sD : DS) (o : Option Nat), Inv (X.gen Ay s0 H0 cenv fp) pn σ' H s' → Ext g H2 H → Ok g H sD → Res W g H2 (finG true o sD) Q → RR (.ok (.ret (.bool (match o with | none => true | some _ => false)))) s') :
    ∀ (n : Nat) (s : Shared) (σ' : St) (H : Hp), Inv (X.gen Ay s0 H0 cenv fp) pn σ' H s → GRdy X W g S H2 Q true Ay s0 H0 cenv fp pn gi A.in1.in1 n s → codeAny (model X.prog X.w) A (.builtin "any.loop" ⟨[.ref a], []⟩) RR s := by
  intro n
  induction n with
  | zero =>
    intro s σ' H I hr
    refine codeAny_builtin F.entry_any_loop ?_
    rw [Around.under_plainId F.plain_any_loop _]
    show wpAny _ A.in1 (pyNext (.ref a) >>= _) _ _ s
    refine wpAny_bind (gen_next (A := A.in1) hh hdp I hgn hr (fun s' σ1 H1 sD m I1 ex ok q => ?_) fun s' v x d r σ1 H1 sD rv I1 rd ht ex ok q1 q2 => ?_)
    · exact wpAny_bind (wpAny_rule (wpAny_pure (hR s' σ1 H1 sD (some m) I1 ex ok q)))
    · refine wpAny_bind (wpAny_holding (truth_at rv rd ht ?_))
      refine wpAny_bind (wpAny_letGo ?_)
      cases r with
      | true =>
        simp only [if_true]
        exact wpAny_bind (wpAny_rule (wpAny_pure (hR s' σ1 H1 sD none I1 ex ok (q1 rfl))))
      | false =>
        obtain ⟨m, hm, _⟩ := q2 (by decide)
        cases hm
  | succ n ih =>
    intro s σ' H I hr
    refine codeAny_builtin F.entry_any_loop ?_
    rw [Around.under_plainId F.plain_any_loop _]
    show wpAny _ A.in1 (pyNext (.ref a) >>= _) _ _ s
    refine wpAny_bind (gen_next (A := A.in1) hh hdp I hgn hr (fun s' σ1 H1 sD m I1 ex ok q => ?_) fun s' v x d r σ1 H1 sD rv I1 rd ht ex ok q1 q2 => ?_)
    · exact wpAny_bind (wpAny_rule (wpAny_pure (hR s' σ1 H1 sD (some m) I1 ex ok q)))
    · refine wpAny_bind (wpAny_holding (truth_at rv rd ht ?_))
      refine wpAny_bind (wpAny_letGo ?_)
      cases r with
      | true =>
        simp only [if_true]
        exact wpAny_bind (wpAny_rule (wpAny_pure (hR s' σ1 H1 sD none I1 ex ok (q1 rfl))))
      | false =>
        simp only [Bool.false_eq_true, if_false]
        obtain ⟨m, hm, hg⟩ := q2 (by decide)
        cases hm
        exact wpAny_pure ⟨plainId_quiet F.plain_any_loop _, ih s' σ1 H1 I1 hg⟩
theorem loop_all {RR : Result → Shared → Prop} {A : Around} (hh : A.handled = none) (hdp : A.depth < recursionLimit) (hgn : ∀ s : Shared, (∀ p ∈ pn, s.heap.get? p.1 = some p.2) → s.heap.IsGen a gi)
    (hR : ∀ (s' : Shared) (σ' : St) (H : Hp) (sD : DS) (o : Option Nat), Inv (X.gen Ay s0 H0 cenv fp) pn σ' H s' → Ext g H2 H → Ok g H sD → Res W g H2 (finG false o sD) Q → RR (.ok (.ret (.bool (match o with | none => false | some _ => true)))) s') :
    ∀ (n : Nat) (s : Shared) (σ' : St) (H : Hp), Inv (X.gen Ay s0 H0 cenv fp) pn σ' H s → GRdy X W g S H2 Q false Ay s0 H0 cenv fp pn gi A.in1.in1 n s → codeAny (model X.prog X.w) A (.builtin "all.loop" ⟨[.ref a], []⟩) RR s := by
  intro n
  induction n with
  | zero =>
    intro s σ' H I hr
    refine codeAny_builtin F.entry_all_loop ?_
    rw [Around.under_plainId F.plain_all_loop _]
    show wpAny _ A.in1 (pyNext (.ref a) >>= _) _ _ s
    refine wpAny_bind (gen_next (A := A.in1) hh hdp I hgn hr (fun s' σ1 H1 sD m I1 ex ok q => ?_) fun s' v x d r σ1 H1 sD rv I1 rd ht ex ok q1 q2 => ?_)
    · exact wpAny_bind (wpAny_rule (wpAny_pure (hR s' σ1 H1 sD (some m) I1 ex ok q)))
    · refine wpAny_bind (wpAny_holding (truth_at rv rd ht ?_))
      refine wpAny_bind (wpAny_letGo ?_)
      cases r with
      | false =>
        simp only [Bool.false_eq_true, if_false]
        exact wpAny_bind (wpAny_rule (wpAny_pure (hR s' σ1 H1 sD none I1 ex ok (q1 rfl))))
      | true =>
        obtain ⟨m, hm, _⟩ := q2 (by decide)
        cases hm
  | succ n ih =>
    intro s σ' H I hr
    refine codeAny_builtin F.entry_all_loop ?_
    rw [Around.under_plainId F.plain_all_loop _]
    show wpAny _ A.in1 (pyNext (.ref a) >>= _) _ _ s
    refine wpAny_bind (gen_next (A := A.in1) hh hdp I hgn hr (fun s' σ1 H1 sD m I1 ex ok q => ?_) fun s' v x d r σ1 H1 sD rv I1 rd ht ex ok q1 q2 => ?_)
    · exact wpAny_bind (wpAny_rule (wpAny_pure (hR s' σ1 H1 sD (some m) I1 ex ok q)))
    · refine wpAny_bind (wpAny_holding (truth_at rv rd ht ?_))
      refine wpAny_bind (wpAny_letGo ?_)
      cases r with
      | false =>
        simp only [Bool.false_eq_true, if_false]
        exact wpAny_bind (wpAny_rule (wpAny_pure (hR s' σ1 H1 sD none I1 ex ok (q1 rfl))))
      | true =>
        simp only [if_true]
        obtain ⟨m, hm, hg⟩ := q2 (by decide)
        cases hm
        exact wpAny_pure ⟨plainId_quiet F.plain_all_loop _, ih s' σ1 H1 I1 hg⟩
end

/-! ### the making -/
open GxR in
/-- what is asked of the def that holds generator expressions -/
structure GenIn (X : Cx) : Prop where
  ex : ∃ c P, TabB X.base X.mg c P ∧ X.env.code = .ref c ∧ P ∈ tabsOf X.K
/-- what a generator expression's body asks of its parts -/
abbrev Gbk (X : Cx) (k : Nat) (scope : Scope) (P : Cx → Prop) : Prop := ∀ (A : Around) (s : Shared) (H : Hp) (C : Addr) (cl : List (Str × Addr)) (code : Value) (bi : Addr) (fp : List Addr), Room k A → P (X.gen A s H (genEnv scope cl C code bi X.env) fp)
structure GenSc (scope : Scope) : Prop where
  co : scope.isCoroutine = false
  dot : scope.names.lookup (".0" : Str) = some NameKind.local
  cell : ∀ y ∈ scope.names, y.2 ≠ .cell
section
variable {X : Cx}
open GxR in
/-- a generator expression is made: E its expression; at s5 it stands ready -/
theorem gen_make {E elt tg iter : Expr} {ifs : List Expr} {scope : Scope} {own : List (Str × Nat)} {gpos : Pos} {pins : List (Addr × Obj)} {s : Shared} {σ : St} {H : Hp} {wi : TI} {Q' : Value → Shared → Prop} {g : G} {S : Addr → Prop} {k : Nat}
    (hE : E = .GeneratorExp elt [⟨tg, iter, ifs, 0⟩] scope gpos)
    (hr : Room (k + 1) X.A) (hcalm : X.calm = true) (GI : GenIn X) (hN : X.N.Nodup) (ok : BlkOk X.N X.env.scope scope own) (S0 : GenSc scope) (hi : PI X tg iter wi) (hs : ∀ v, genFold iter X.env v = pure v) (I : Inv X pins σ H s) (gK : g.K = X.K)
    (h : wi σ H fun J H1 => ∃ sD, Ext g H H1 ∧ Ok g H1 sD ∧ SOk g S H1 ∧ ∀ (s4 : Shared) (H4 : Hp) (it a : Addr) (gi : Nat) (fp : List Addr) (tn : Nat → Heap → Prop) (code : Value) (s5 : Shared) (pn : List (Addr × Obj)), Inv X pins σ H4 s4 → (∀ b ∈ fp, FpOk X pins H4 b ∧ b < s4.heap.objs.size) → Turn X.prog X.w X.K tg J fp it tn → tn 0 s5.heap → Ext g H1 H4 → Ok g H4 sD →
      (∀ A : Around, A.handled = none → A.frames = some (genEnv scope (cloFrom X.env.cells scope.names []) s4.heap.objs.size code builtinsNs X.env :: X.stack) → Inv (X.gen A s4 H4 (genEnv scope (cloFrom X.env.cells scope.names []) s4.heap.objs.size code builtinsNs X.env) fp) pn (wipe σ (own.map (·.2))) H4 s5) →
      (∀ b ∈ fp, ∀ p ∈ pn, p.1 ≠ b) →
      (∀ s : Shared, (∀ p ∈ pn, s.heap.get? p.1 = some p.2) → s.heap.IsGen a gi) →
      s5.gens[gi]? = some (.fresh (.compStart E 0 (.ref it) .none (genEnv scope (cloFrom X.env.cells scope.names []) s4.heap.objs.size code builtinsNs X.env))) → Q' (.ref a) s5) :
    wpAny (model X.prog X.w) X.A (eval E X.env) Q' X.xe s := by
  subst hE
  obtain ⟨c, P, TB, hcode, hPm⟩ := GI.ex
  have hfree : ∀ y ∈ scope.names, y.2 = .free → ∃ c, X.env.cells.lookup y.1 = some c := fun y hy e => by
    rcases ok.free y hy e with q | q
    · exact I.ok.has _ (.inl q)
    · exact I.ok.has _ (.inr q)
  refine wpAny_GeneratorExp_make S0.co (closure_ok hfree) S0.cell S0.dot ok.kind (by have := hr.dp; omega) ?_ hs
  refine thn (hi.run pins s σ H _ I h) fun xv s1 h1 => thn h1 fun itv s2 h2 => ?_
  obtain ⟨it, fp, tn, J, H2, rfl, I2, T, st2, f2, sD, ex2, ok2, so2, key⟩ := h2
  refine ⟨I2.nolimit, ?_⟩
  obtain ⟨ps, hP, ht⟩ := ok2.tabs P (by rw [gK]; exact hPm)
  have hPs : s2.heap.get? P = some { cls := .none, data := .fields ps } := I2.hok P _ hP
  have hPlt : P < s2.heap.objs.size := Heap.lt_size hPs
  have cd : PySem.W.CodeHd s2.heap c P := TB.code.keeps fun b u e => I2.bk b u e
  have nfP : ∀ b ∈ fp, b ≠ P := fun b hb z => by
    have q := (f2 b hb).1
    rw [z, hP] at q
    cases q
  have cont : ∀ (code : Value) (h3 : Heap) (tk : Nat) (more : Array Value), Heap.ExtBut P s2.heap h3 → s2.heap.objs.size ≤ h3.objs.size → h3.get? P = some { cls := .none, data := .fields (ps ++ more) } → TriplesOk (ps ++ more).toList →
      wpAny (model X.prog X.w) X.A (builtinsFor X.env.globals X.env.builtins) (fun bi s₄ => ∀ h', h'.Ns s₄.heap.objs.size (fun y => if y = ".0" then some (.ref it) else none) → Heap.SameBut s₄.heap.objs.size (s₄.heap.push { cls := .type "frame", data := .dict #[] }) h' →
          Q' (.ref h'.objs.size) { s₄ with
            gens := s₄.gens.push (.fresh (.compStart (.GeneratorExp elt [⟨tg, iter, ifs, 0⟩] scope gpos) 0 (.ref it) .none (genEnv scope (cloFrom X.env.cells scope.names []) s₄.heap.objs.size code bi X.env))),
            toks := s₄.toks + 1 + 1 + 1,
            heap := h'.push { cls := .type "generator", data := .fields #[.int s₄.gens.size 0, .str "<genexpr>" (s₄.toks + 1), .str (X.env.qual ++ "<genexpr>") (s₄.toks + 1 + 1)] } }) X.xe { s2 with heap := h3, toks := tk } := by
    intro code h3 tk more hx hsz hP3 ht3
    obtain ⟨bm, ob, e1, e2, e3, e4, e5, e6, e7, e8⟩ := TB.bm
    have keep3 : ∀ b u, b ≠ P → s2.heap.get? b = some u → h3.get? b = some u := fun b u hb e => hx b u hb e
    have I4 : Inv X pins σ (upd H2 P (.tbl (ps ++ more))) { s2 with heap := h3, toks := tk } := inv_tab (g' := s2.gens) (d' := s2.drawn) I2 hP keep3 hP3 I2.bare
    have bi_eq : X.env.builtins = builtinsNs := I2.ok.blt
    refine wpAny_builtinsFor (m := X.mg) (by rw [I2.ok.glob]; exact (I2.mod.glob.keeps I2.bk).extBut hx TB.gP) e1 e2 (keep3 _ _ e4 (I2.bk _ _ e5)) e6 e7 e8 ?_
    intro h' hn' hs'
    have ex4 : Ext g H2 (upd H2 P (.tbl (ps ++ more))) := ⟨fun b o e n t => by rw [upd_ne (fun z => t ps (by rw [z, hP] at e; exact (Option.some.inj e).symm))]; exact e, fun b qs e => by
      by_cases hb : b = P
      · rw [hb, hP] at e
        cases e
        exact ⟨more, by rw [hb, upd_same]⟩
      · exact ⟨#[], by rw [upd_ne hb, e]; simp⟩, fun b e ⟨xs, q⟩ => ⟨xs, by rw [upd_ne (fun z => by rw [z, hP] at q; cases q)]; exact q⟩⟩
    have ok4 : Ok g (upd H2 P (.tbl (ps ++ more))) sD := ⟨fun b e => let ⟨x, y, z⟩ := ok2.st b e; ⟨by rw [upd_ne (fun z => by rw [z, hP] at x; cases x)]; exact x, by rw [upd_ne (fun z => by rw [z, hP] at y; cases y)]; exact y, z⟩, fun P' hP' => by
      by_cases hb : P' = P
      · exact ⟨ps ++ more, by rw [hb, upd_same], ht3⟩
      · obtain ⟨qs, e, t⟩ := ok2.tabs P' hP'
        exact ⟨qs, by rw [upd_ne hb]; exact e, t⟩⟩
    have hz : h'.objs.size = h3.objs.size + 1 := by rw [hs'.1, Heap.size_push]
    have keep' : ∀ b o, h3.get? b = some o → h'.get? b = some o := fun b o e => hs'.extBut b o (Nat.ne_of_lt (Heap.lt_size e)) (Heap.get?_push_of_some _ e)
    have f4 : ∀ b ∈ fp, FpOk X pins (upd H2 P (.tbl (ps ++ more))) b ∧ b < h3.objs.size := fun b hb => by
      obtain ⟨o, e, _⟩ := T.obj _ _ st2 b hb
      exact ⟨⟨by rw [upd_ne (nfP b hb)]; exact (f2 b hb).1, (f2 b hb).2⟩, Nat.lt_of_lt_of_le (Heap.lt_size e) hsz⟩
    refine key { s2 with heap := h3, toks := tk } (upd H2 P (.tbl (ps ++ more))) it h'.objs.size s2.gens.size fp tn code _ [(h'.objs.size, { cls := .type "generator", data := .fields #[.int s2.gens.size 0, .str "<genexpr>" (tk + 1), .str (X.env.qual ++ "<genexpr>") (tk + 1 + 1)] })] I4 f4 T ?_ ex4 ok4 (fun A hd hf => ?_) (fun b hb p hp => ?_) (fun s hp => ?_) (Array.getElem?_push_size ..)
    · exact T.keep _ _ _ st2 fun b hb o e => Heap.get?_push_of_some _ (keep' b o (keep3 b o (nfP b hb) e))
    · have J := gen_start (A := A) (bia := builtinsNs) (bi := Value.none) (code := code) (h₁ := h'.push { cls := .type "generator", data := .fields #[.int s2.gens.size 0, .str "<genexpr>" (tk + 1), .str (X.env.qual ++ "<genexpr>") (tk + 1 + 1)] }) (g₁ := s2.gens.push (.fresh (.compStart (.GeneratorExp elt [⟨tg, iter, ifs, 0⟩] scope gpos) 0 (.ref it) .none (genEnv scope (cloFrom X.env.cells scope.names []) h3.objs.size code builtinsNs X.env)))) (tk := tk + 1 + 1 + 1) I4 ok hN f4 rfl hd hf S0.cell (hn'.push _) (fun b o e => Heap.get?_push_of_some _ (keep' b o e)) (I2.bare.push rfl)
      refine J.pins_of fun p hp => ?_
      have hp : p = (h'.objs.size, _) := List.mem_singleton.mp hp
      subst hp
      have n1 : (upd H2 P (.tbl (ps ++ more))) h'.objs.size = none := I4.hok.fresh (by show h3.objs.size ≤ h'.objs.size; omega)
      refine ⟨Heap.get?_push_size _ rfl, n1, ?_, ?_, fun v q => by cases q⟩
      · show h'.objs.size ≠ h3.objs.size
        omega
      · intro hm
        rcases List.mem_cons.mp (I4.stkSub _ hm) with z | z
        · have h9 : h3.objs.size < h'.objs.size := by rw [hz]; exact Nat.lt_succ_self _
          have h8 : X.env.locals < h3.objs.size := I4.lt
          rw [← z] at h8
          exact Nat.lt_irrefl _ (Nat.lt_trans h9 h8)
        · exact I4.nofs (a := h'.objs.size) (by show h3.objs.size ≤ h'.objs.size; omega) z
    · have hp : p = (h'.objs.size, _) := List.mem_singleton.mp hp
      subst hp
      have h8 := (f4 b hb).2
      have h9 : h3.objs.size < h'.objs.size := by rw [hz]; exact Nat.lt_succ_self _
      show h'.objs.size ≠ b
      exact Nat.ne_of_gt (Nat.lt_trans h8 h9)
    · have := hp _ List.mem_cons_self
      exact ⟨_, _, _, this, rfl, rfl, rfl⟩
  cases hf : codeAmong gpos ps.toList with
  | none =>
    refine wpAny_genexprCodeX hcode (cd.code hPs ht) (cd.tab hPs) hf fun c' h' tk hx hge hlt hco' _ htab' _ => ?_
    obtain ⟨o1, vs, f1, tf, fl, tg', inF, tx, tt, op, _, _, _, _, _, _, _, _, _, htr, _⟩ := hco'
    exact cont _ h' tk _ hx (Nat.le_trans hge (Nat.le_of_lt hlt)) htab'.2 htr
  | some cv =>
    refine wpAny_genexprCode_hit hcode (cd.code hPs ht) hf ?_
    exact cont cv s2.heap s2.toks #[] (Heap.ExtBut.refl _ _) (Nat.le_refl _) (by simpa using hPs) (by simpa using ht)
/-- the around of the body's code -/
theorem over_facts {c : Code} {A : Around} {cenv : PySem.Env} {st : List PySem.Env} {k : Nat} (hr : Room (k + 1) A) (hf : A.frames = some st) (he : c.envs = [cenv]) (hwt : c.weight = 1) (hu : c.cUnits = 3) :
    (A.in1.in1.over c []).handled = none ∧ (A.in1.in1.over c []).frames = some (cenv :: st) ∧ Room k (A.in1.in1.over c []) := by
  refine ⟨hr.hd, ?_, hr.hd, ?_, ?_⟩
  · show pushEnvs c.envs (pushEnvs [] A.frames) = _
    rw [he, hf]
    rfl
  · have := hr.dp
    show A.depth + 0 + c.weight + 3 * k + 5 < _
    omega
  · have := hr.un
    show A.units + 1 + 1 + 0 + c.cUnits + 16 * k + 200 < _
    omega
theorem seg_start {E : Expr} {A0 : Around} {R : GenEnd} {Y : Protocol} {n : Nat} {s0 s : Shared} {it : Addr} {cenv : PySem.Env} {M : Model} (hM : M = model X.prog X.w) (hq : (Code.compLoop E 0 (.ref it) .none cenv).quiet = true) (hden : M.den (.compStart E 0 (.ref it) .none cenv) = (compStart E 0 (.ref it) .none cenv).onRaise (leaving cenv)) {gs : List Comprehension} {g0 : Comprehension}
    (hc : clausesOf E = g0 :: gs) (hz : g0.is_async = 0) (hself : ∀ (A : Around) (Q : Value → Shared → Prop) (E' : Value → Shared → Prop), Q (.ref it) s → wpAny M A (pyIter (.ref it)) Q E' s)
    (loop : Seg M A0 R Y n s0 (.compLoop E 0 (.ref it) .none cenv) (M.den (.compLoop E 0 (.ref it) .none cenv)) [] s) : Seg M A0 R Y n s0 (.compStart E 0 (.ref it) .none cenv) (M.den (.compStart E 0 (.ref it) .none cenv)) [] s := by
  rw [hden]
  unfold compStart
  rw [Sem.onRaise_eq_wrap, hc]
  have e1 : (([g0] ++ gs : List Comprehension)[0]?).elim false (fun x => x.is_async != 0) = false := by simp [hz]
  have e1 : ((g0 :: gs : List Comprehension)[0]?).elim false (fun x => x.is_async != 0) = false := e1
  simp only [e1, Bool.false_eq_true, if_false]
  refine seg_bind_wrap (wpAny_askSetting ?_)
  split
  · exact seg_again hq loop
  · first
      | exact seg_bind_wrap (wpAny_rule (seg_bind_wrap (wpAny_standAt (seg_bind_wrap (hself _ _ _ (seg_again hq loop))))))
      | (refine seg_bind_wrap (wpAny_rule ?_)
         show Seg M A0 R Y n s0 _ ((standAt g0.iter.pos >>= _).wrap _ _ _ _) [] s
         exact seg_bind_wrap (wpAny_standAt (seg_bind_wrap (hself _ _ _ (seg_again hq loop)))))
theorem gen1_ready {W : XW} {elt tg iter : Expr} {ifs : List Expr} {scope : Scope} {own : List (Str × Nat)} {gpos : Pos} {pins pn : List (Addr × Obj)} {s4 s5 : Shared} {σ : St} {H H1 H4 : Hp} {f : GV} {t : BV} {e : EV} {us : List Nat} {g : G} {S : Addr → Prop} {η : Env} {sD : DS} {ds : List D} {Q : D → Hp → DS → Prop} {stop : Bool} {k : Nat} {J : It} {it : Addr} {gi : Nat} {fp : List Addr} {tn : Nat → Heap → Prop} {code : Value}
    (hr : Room (k + 1) X.A) (ok : BlkOk X.N X.env.scope scope own) (S0 : GenSc scope) (hu : ∀ i ∈ us, i ∈ own.map (·.2)) (hg : Gbk X k scope fun Y => PGD Y us tg f) (ht : Gbk X k scope fun Y => PTsD Y WF ifs t) (he : Gbk X k scope fun Y => PED Y WF elt e)
    (fr : X.A.frames = some X.stack) (at1 : At X.K g S H1 σ η sD) (ex1 : Ext g H H1) (T : Turn X.prog X.w X.K tg J fp it tn) (st : tn 0 s5.heap) (ex4 : Ext g H1 H4) (ok4 : Ok g H4 sD) (f4 : ∀ b ∈ fp, FpOk X pins H4 b ∧ b < s4.heap.objs.size) (I4 : Inv X pins σ H4 s4) (pnb : ∀ b ∈ fp, ∀ p ∈ pn, p.1 ≠ b)
    (I5 : ∀ A : Around, A.handled = none → A.frames = some (genEnv scope (cloFrom X.env.cells scope.names []) s4.heap.objs.size code builtinsNs X.env :: X.stack) → Inv (X.gen A s4 H4 (genEnv scope (cloFrom X.env.cells scope.names []) s4.heap.objs.size code builtinsNs X.env) fp) pn (wipe σ (own.map (·.2))) H4 s5)
    (hgs : s5.gens[gi]? = some (.fresh (.compStart (.GeneratorExp elt [⟨tg, iter, ifs, 0⟩] scope gpos) 0 (.ref it) .none (genEnv scope (cloFrom X.env.cells scope.names []) s4.heap.objs.size code builtinsNs X.env))))
    (hJ : Yields g S J ds H1) (q : Res (W σ) g H (M.bind (noExc (glM stop f t e (wipeE η (own.map (·.2))) ds.length ds)) (finG stop) sD) Q) :
    ∃ Aw : Around, Aw.handled = none ∧ Aw.frames = some (genEnv scope (cloFrom X.env.cells scope.names []) s4.heap.objs.size code builtinsNs X.env :: X.stack) ∧
      GRdy X (W σ) g S H Q stop Aw s4 H4 (genEnv scope (cloFrom X.env.cells scope.names []) s4.heap.objs.size code builtinsNs X.env) fp pn gi X.A.in1.in1 ds.length s5 := by
  generalize hE : (Expr.GeneratorExp elt [⟨tg, iter, ifs, 0⟩] scope gpos) = E at hgs
  generalize hce : genEnv scope (cloFrom X.env.cells scope.names []) s4.heap.objs.size code builtinsNs X.env = cenv at I5 hgs ⊢
  have hq : (Code.compLoop E 0 (.ref it) .none cenv).quiet = true := by subst hE; rfl
  obtain ⟨o1, o2, o3⟩ := over_facts (c := .compLoop E 0 (.ref it) .none cenv) hr fr (by subst hE; rfl) (by subst hE; rfl) (by subst hE; rfl)
  have hco : cenv.scope.isCoroutine = false := by subst hce; exact S0.co
  have pg : PGD (X.gen (X.A.in1.in1.over (.compLoop E 0 (.ref it) .none cenv) []) s4 H4 cenv fp) us tg f := by subst hce; exact hg _ _ _ _ _ _ _ _ o3
  have pt : PTsD (X.gen (X.A.in1.in1.over (.compLoop E 0 (.ref it) .none cenv) []) s4 H4 cenv fp) WF ifs t := by subst hce; exact ht _ _ _ _ _ _ _ _ o3
  have pe : PED (X.gen (X.A.in1.in1.over (.compLoop E 0 (.ref it) .none cenv) []) s4 H4 cenv fp) WF elt e := by subst hce; exact he _ _ _ _ _ _ _ _ o3
  have J5 := I5 _ o1 o2
  refine ⟨_, o1, o2, _, hgs, fun s'' wk => ⟨rfl, ?_⟩⟩
  refine seg_start rfl hq (by subst hE; rfl) (gs := []) (g0 := ⟨tg, iter, ifs, 0⟩) (by subst hE; rfl) rfl (fun A Q E' h => T.self A 0 s'' Q E' (T.keep _ _ _ st fun b _ o e => wk.keep b o e) h) ?_
  have at4 := (at1.ext ex4 ok4).wipe (own.map (·.2))
  refine seg_last (ext := []) (E := E) (hq := hq) (tg := tg) (elt := elt) (ifs := ifs) (itp := iter.pos) (us := us) (vs := own.map (·.2)) (f := f) (t := t) (e := e) (ds := ds) (KK := finG stop) (fpI := fp) (tn := tn) (J := J) (hx := leaving cenv) (by subst hE; rfl) (by subst hE; exact compTurn_gen elt tg iter ifs scope gpos (.ref it) .none cenv) rfl rfl rfl hco o1 o2 o1 o2 T pg pt pe hu ((Off.ofwipe _).wipe) hJ rfl
    (fun n s0' s σ' H' sD' I' ex pr so ok hf hw q' => ?_) ds.length 0 ds.length s'' s'' _ H4 sD (by omega) (Nat.zero_le _) (by rw [List.append_nil]; exact wk.inv J5) ((Off.ofwipe _).wipe) (T.keep _ _ _ st fun b _ o e => wk.keep b o e) (fun b hb => ?_) at4 (ex1.trans ex4) (ex4.pres at1.sok.st) q
  · exact seg_end (.ok .next) ⟨rfl, σ', H', sD', n, by rw [List.append_nil] at I'; exact I', ex, ok, q'⟩
  · obtain ⟨⟨h0, h1, h2, h3, h4, h5⟩, h6⟩ := f4 b hb
    refine ⟨h0, (J5.ok.exf b hb).1, J5.ok.exfs b hb, .inl hb, fun x c e => (J5.ok.exf b hb).2 x c e, fun p hp => pnb b hb p (by simpa using hp)⟩
theorem bt_any : bootBuiltins "any" = some (.builtin "any") := by decide +kernel
theorem bt_all : bootBuiltins "all" = some (.builtin "all") := by decide +kernel
theorem d_any1 {W : XW} {elt tg iter : Expr} {ifs : List Expr} {scope : Scope} {own : List (Str × Nat)} {gpos p pos : Pos} {src : IV} {f : GV} {t : BV} {e : EV} {us : List Nat} {k : Nat}
    (hr : Room (k + 1) X.A) (hcalm : X.calm = true) (GI : GenIn X) (hN : X.N.Nodup) (ok : BlkOk X.N X.env.scope scope own) (S0 : GenSc scope) (hu : ∀ i ∈ us, i ∈ own.map (·.2)) (hgl : Gl X "any") (hm : X.mg "any" = none) (hi : PID X W tg iter src)
    (hg : Gbk X k scope fun Y => PGD Y us tg f) (ht : Gbk X k scope fun Y => PTsD Y WF ifs t) (he : Gbk X k scope fun Y => PED Y WF elt e) (hs : ∀ v, genFold iter X.env v = pure v := by intro _; rfl)
    (hst : starEach [.GeneratorExp elt [⟨tg, iter, ifs, 0⟩] scope gpos] X.env = (false, eval (.GeneratorExp elt [⟨tg, iter, ifs, 0⟩] scope gpos) X.env) :: starEach [] X.env := by rfl) :
    PED X W (.Call (.Name "any" p) [.GeneratorExp elt [⟨tg, iter, ifs, 0⟩] scope gpos] [] pos) (eGen true src f t e (own.map (·.2))) := by
  refine ⟨⟨fun pins s σ H Q I h => ?_⟩⟩
  obtain ⟨g, S, η, sD, at_, q⟩ := h
  refine wpAny_Call_Name_kw (ld_blt I hgl hm bt_any ?_)
  refine PyProof.Rows.callWith_builtin1 ?_ hst (by rfl)
  rw [hst]
  show wpAny _ _ (spliced ((false, eval (.GeneratorExp elt [⟨tg, iter, ifs, 0⟩] scope gpos) X.env) :: backTo pos (starEach [] X.env))) _ _ s
  have fr : X.A.frames = some X.stack := I.ok.frames
  refine Calls.spliced_cons (gen_make (S := S) rfl hr hcalm GI hN ok S0 hi.pi hs I at_.gK ?_)
  refine ⟨g, S, η, sD, at_, (Res.bind0 q).imp fun ds H1 s1 ex1 ok1 q1 J hJ => ⟨s1, ex1, ok1, at_.sok.ext ex1 at_.ok.stl, fun s4 H4 it a gi fp tn code s5 pn I4 f4 T st ex4 ok4 I5 pnb hIs hgs => ?_⟩⟩
  obtain ⟨Aw, o1, o2, rdy⟩ := gen1_ready hr ok S0 hu hg ht he fr (at_.ext ex1 ok1) ex1 T st ex4 ok4 f4 I4 pnb I5 hgs hJ q1
  refine Calls.spliced_nil ?_
  refine call_function_tree F.kind_any F.plain_any F.entry_any (F.args_any1 _) ?_
  unfold Builtin.«any»
  refine wpAny_bind (m := oneArg "any" _) (wpAny_pure ?_)
  refine wpAny_bind (wpAny_pyIter_gen (hIs s5 fun p hp => ((I5 Aw o1 o2).pin p (List.mem_append_right _ hp)).1) ?_)
  refine wpAny_pure ⟨plainId_quiet F.plain_any_loop _, loop_any (A := X.A) hr.hd (by have := hr.dp; omega) hIs (fun s' σ' H' sD' o I' ex' ok' q' => ?_) ds.length s5 _ H4 (I5 Aw o1 o2) rdy⟩
  have I7 : Inv X pins σ H' s' := gen_out I4 (fun b hb => (f4 b hb).1) I'
  cases o with
  | none => exact ⟨.bl _, H', I7, rfl, q' H' ex' ok' _ (.bl _)⟩
  | some n => exact ⟨.bl _, H', I7, rfl, q' H' ex' ok' _ (.bl _)⟩
theorem d_all1 {W : XW} {elt tg iter : Expr} {ifs : List Expr} {scope : Scope} {own : List (Str × Nat)} {gpos p pos : Pos} {src : IV} {f : GV} {t : BV} {e : EV} {us : List Nat} {k : Nat}
    (hr : Room (k + 1) X.A) (hcalm : X.calm = true) (GI : GenIn X) (hN : X.N.Nodup) (ok : BlkOk X.N X.env.scope scope own) (S0 : GenSc scope) (hu : ∀ i ∈ us, i ∈ own.map (·.2)) (hgl : Gl X "all") (hm : X.mg "all" = none) (hi : PID X W tg iter src)
    (hg : Gbk X k scope fun Y => PGD Y us tg f) (ht : Gbk X k scope fun Y => PTsD Y WF ifs t) (he : Gbk X k scope fun Y => PED Y WF elt e) (hs : ∀ v, genFold iter X.env v = pure v := by intro _; rfl)
    (hst : starEach [.GeneratorExp elt [⟨tg, iter, ifs, 0⟩] scope gpos] X.env = (false, eval (.GeneratorExp elt [⟨tg, iter, ifs, 0⟩] scope gpos) X.env) :: starEach [] X.env := by rfl) :
    PED X W (.Call (.Name "all" p) [.GeneratorExp elt [⟨tg, iter, ifs, 0⟩] scope gpos] [] pos) (eGen false src f t e (own.map (·.2))) := by
  refine ⟨⟨fun pins s σ H Q I h => ?_⟩⟩
  obtain ⟨g, S, η, sD, at_, q⟩ := h
  refine wpAny_Call_Name_kw (ld_blt I hgl hm bt_all ?_)
  refine PyProof.Rows.callWith_builtin1 ?_ hst (by rfl)
  rw [hst]
  show wpAny _ _ (spliced ((false, eval (.GeneratorExp elt [⟨tg, iter, ifs, 0⟩] scope gpos) X.env) :: backTo pos (starEach [] X.env))) _ _ s
  have fr : X.A.frames = some X.stack := I.ok.frames
  refine Calls.spliced_cons (gen_make (S := S) rfl hr hcalm GI hN ok S0 hi.pi hs I at_.gK ?_)
  refine ⟨g, S, η, sD, at_, (Res.bind0 q).imp fun ds H1 s1 ex1 ok1 q1 J hJ => ⟨s1, ex1, ok1, at_.sok.ext ex1 at_.ok.stl, fun s4 H4 it a gi fp tn code s5 pn I4 f4 T st ex4 ok4 I5 pnb hIs hgs => ?_⟩⟩
  obtain ⟨Aw, o1, o2, rdy⟩ := gen1_ready hr ok S0 hu hg ht he fr (at_.ext ex1 ok1) ex1 T st ex4 ok4 f4 I4 pnb I5 hgs hJ q1
  refine Calls.spliced_nil ?_
  refine call_function_tree F.kind_all F.plain_all F.entry_all (F.args_all1 _) ?_
  unfold Builtin.«all»
  refine wpAny_bind (m := oneArg "all" _) (wpAny_pure ?_)
  refine wpAny_bind (wpAny_pyIter_gen (hIs s5 fun p hp => ((I5 Aw o1 o2).pin p (List.mem_append_right _ hp)).1) ?_)
  refine wpAny_pure ⟨plainId_quiet F.plain_all_loop _, loop_all (A := X.A) hr.hd (by have := hr.dp; omega) hIs (fun s' σ' H' sD' o I' ex' ok' q' => ?_) ds.length s5 _ H4 (I5 Aw o1 o2) rdy⟩
  have I7 : Inv X pins σ H' s' := gen_out I4 (fun b hb => (f4 b hb).1) I'
  cases o with
  | none => exact ⟨.bl _, H', I7, rfl, q' H' ex' ok' _ (.bl _)⟩
  | some n => exact ⟨.bl _, H', I7, rfl, q' H' ex' ok' _ (.bl _)⟩
end
end W3

set_option Elab.async false
set_option linter.all false
set_option maxRecDepth 100000
set_option maxHeartbeats 4000000
/-! W3q: any, all of generator expressions of two clauses. -/
namespace W3
open PySem PySem.Spec L2

theorem eval_GeneratorExp2 (elt target iter t1 i1 : Expr) (ifs ifs1 : List Expr) (scope : Scope) (pos : Pos) (env : PySem.Env) (hco : scope.isCoroutine = false) :
    eval (.GeneratorExp elt [⟨target, iter, ifs, 0⟩, ⟨t1, i1, ifs1, 0⟩] scope pos) env = (do
      let x ← eval iter env
      standAt iter.pos
      let x ← genFold iter env x
      let it ← holding [x] (pyIter x)
      enterFrame
      let cl ← closureFor scope env
      let code ← genexprCode env pos (env.qual ++ "<genexpr>") scope
      let bi ← builtinsFor env.globals env.builtins
      let cenv ← newFunctionEnv scope env.globals cl [(".0", it)] (env.qual ++ "<genexpr>.") none code none bi
      newGenerator (.compStart (.GeneratorExp elt [⟨target, iter, ifs, 0⟩, ⟨t1, i1, ifs1, 0⟩] scope pos) 0 it .none cenv) "<genexpr>" (env.qual ++ "<genexpr>")) := by
  rw [arm_eval_GeneratorExp]
  simp only [hco, Bool.false_eq_true, if_false]
  cases iter <;> rfl
theorem GeneratorExp_make2 {M : Model} {A : Around} {E : Value → Shared → Prop} {s : Shared} {env : PySem.Env} {elt target iter t1 i1 : Expr} {ifs ifs1 : List Expr} {scope : Scope} {cl : List (Str × Addr)} {pos : Pos} {Q : Value → Shared → Prop}
    (hco : scope.isCoroutine = false) (hclos : closureFor scope env = pure cl) (hcell : ∀ y ∈ scope.names, y.2 ≠ .cell) (h0 : scope.names.lookup (".0" : Str) = some NameKind.local) (hkind : scope.kind = .function)
    (hroom : A.depth < recursionLimit)
    (h : wpAny M A (eval iter env) (fun xv s₁ => wpAny M A (pyIter xv) (fun it s₂ => s₂.heap.NoLimit ∧
      wpAny M A (genexprCode env pos (env.qual ++ "<genexpr>") scope) (fun code s₃ => wpAny M A (builtinsFor env.globals env.builtins) (fun bi s₄ =>
        ∀ h', h'.Ns s₄.heap.objs.size (fun y => if y = ".0" then some it else none) → Heap.SameBut s₄.heap.objs.size (s₄.heap.push { cls := .type "frame", data := .dict #[] }) h' →
          Q (.ref h'.objs.size) { s₄ with
            gens := s₄.gens.push (.fresh (.compStart (.GeneratorExp elt [⟨target, iter, ifs, 0⟩, ⟨t1, i1, ifs1, 0⟩] scope pos) 0 it .none (genEnv scope cl s₄.heap.objs.size code bi env))),
            toks := s₄.toks + 1 + 1 + 1,
            heap := h'.push { cls := .type "generator", data := .fields #[.int s₄.gens.size 0, .str "<genexpr>" (s₄.toks + 1), .str (env.qual ++ "<genexpr>") (s₄.toks + 1 + 1)] } }) E s₃) E s₂) E s₁) E s)
    (hs : ∀ x, genFold iter env x = pure x) :
    wpAny M A (eval (.GeneratorExp elt [⟨target, iter, ifs, 0⟩, ⟨t1, i1, ifs1, 0⟩] scope pos) env) Q E s := by
  rw [eval_GeneratorExp2 _ _ _ _ _ _ _ _ _ _ hco, hclos]
  refine wpAny_bind (wpAny_mono h (fun xv s₁ h₁ => ?_) fun _ _ e => e)
  refine wpAny_bind (wpAny_standAt ?_)
  refine wpAny_bind (wpAny_of_eq (hs xv) ?_)
  refine wpAny_bind (wpAny_holding (wpAny_mono h₁ (fun it s₂ h₂ => ?_) fun _ _ e => e))
  refine wpAny_bind (wpAny_enterFrame h₂.1 hroom ?_)
  refine wpAny_bind (wpAny_pure ?_)
  refine wpAny_bind (wpAny_mono h₂.2 (fun code s₃ h₃ => ?_) fun _ _ e => e)
  refine wpAny_bind (wpAny_mono h₃ (fun bi s₄ h₄ => ?_) fun _ _ e => e)
  have hbinds : ∀ y ∈ ([((".0" : Str), it)] : List (Str × Value)), scope.names.lookup y.1 = some NameKind.local := by
    intro y hy
    rcases List.mem_cons.mp hy with rfl | hy
    · exact h0
    · cases hy
  refine wpAny_bind (wpAny_newFunctionEnv hcell hbinds (fun h' hn' hs' => ?_) hkind)
  have e : (fun y : Str => ([((".0" : Str), it)] : List (Str × Value)).reverse.lookup y) = fun y : Str => if y = (".0" : Str) then some it else none := by
    funext y
    by_cases hy : y = ".0"
    · subst hy; simp
    · have : (y == (".0" : Str)) = false := by simpa using hy
      simp [List.lookup, this, hy]
  rw [e] at hn'
  simp only [newGenerator, newFields]
  refine wpAny_bind (wpAny_newGen (wpAny_bind (wpAny_mkText (wpAny_bind (wpAny_mkText (wpAny_newObj_type ?_ (by size_fits)))))))
  exact h₄ h' hn' hs'
section
variable {X : Cx}
open GxR in
/-- a generator expression is made: E its expression; at s5 it stands ready -/
theorem gen_make2 {E elt tg iter tg1 iter1 : Expr} {ifs ifs1 : List Expr} {scope : Scope} {own : List (Str × Nat)} {gpos : Pos} {pins : List (Addr × Obj)} {s : Shared} {σ : St} {H : Hp} {wi : TI} {Q' : Value → Shared → Prop} {g : G} {S : Addr → Prop} {k : Nat}
    (hE : E = .GeneratorExp elt [⟨tg, iter, ifs, 0⟩, ⟨tg1, iter1, ifs1, 0⟩] scope gpos)
    (hr : Room (k + 1) X.A) (hcalm : X.calm = true) (GI : GenIn X) (hN : X.N.Nodup) (ok : BlkOk X.N X.env.scope scope own) (S0 : GenSc scope) (hi : PI X tg iter wi) (hs : ∀ v, genFold iter X.env v = pure v) (I : Inv X pins σ H s) (gK : g.K = X.K)
    (h : wi σ H fun J H1 => ∃ sD, Ext g H H1 ∧ Ok g H1 sD ∧ SOk g S H1 ∧ ∀ (s4 : Shared) (H4 : Hp) (it a : Addr) (gi : Nat) (fp : List Addr) (tn : Nat → Heap → Prop) (code : Value) (s5 : Shared) (pn : List (Addr × Obj)), Inv X pins σ H4 s4 → (∀ b ∈ fp, FpOk X pins H4 b ∧ b < s4.heap.objs.size) → Turn X.prog X.w X.K tg J fp it tn → tn 0 s5.heap → Ext g H1 H4 → Ok g H4 sD →
      (∀ A : Around, A.handled = none → A.frames = some (genEnv scope (cloFrom X.env.cells scope.names []) s4.heap.objs.size code builtinsNs X.env :: X.stack) → Inv (X.gen A s4 H4 (genEnv scope (cloFrom X.env.cells scope.names []) s4.heap.objs.size code builtinsNs X.env) fp) pn (wipe σ (own.map (·.2))) H4 s5) →
      (∀ b ∈ fp, ∀ p ∈ pn, p.1 ≠ b) →
      (∀ s : Shared, (∀ p ∈ pn, s.heap.get? p.1 = some p.2) → s.heap.IsGen a gi) →
      s5.gens[gi]? = some (.fresh (.compStart E 0 (.ref it) .none (genEnv scope (cloFrom X.env.cells scope.names []) s4.heap.objs.size code builtinsNs X.env))) → Q' (.ref a) s5) :
    wpAny (model X.prog X.w) X.A (eval E X.env) Q' X.xe s := by
  subst hE
  obtain ⟨c, P, TB, hcode, hPm⟩ := GI.ex
  have hfree : ∀ y ∈ scope.names, y.2 = .free → ∃ c, X.env.cells.lookup y.1 = some c := fun y hy e => by
    rcases ok.free y hy e with q | q
    · exact I.ok.has _ (.inl q)
    · exact I.ok.has _ (.inr q)
  refine GeneratorExp_make2 S0.co (closure_ok hfree) S0.cell S0.dot ok.kind (by have := hr.dp; omega) ?_ hs
  refine thn (hi.run pins s σ H _ I h) fun xv s1 h1 => thn h1 fun itv s2 h2 => ?_
  obtain ⟨it, fp, tn, J, H2, rfl, I2, T, st2, f2, sD, ex2, ok2, so2, key⟩ := h2
  refine ⟨I2.nolimit, ?_⟩
  obtain ⟨ps, hP, ht⟩ := ok2.tabs P (by rw [gK]; exact hPm)
  have hPs : s2.heap.get? P = some { cls := .none, data := .fields ps } := I2.hok P _ hP
  have hPlt : P < s2.heap.objs.size := Heap.lt_size hPs
  have cd : PySem.W.CodeHd s2.heap c P := TB.code.keeps fun b u e => I2.bk b u e
  have nfP : ∀ b ∈ fp, b ≠ P := fun b hb z => by
    have q := (f2 b hb).1
    rw [z, hP] at q
    cases q
  have cont : ∀ (code : Value) (h3 : Heap) (tk : Nat) (more : Array Value), Heap.ExtBut P s2.heap h3 → s2.heap.objs.size ≤ h3.objs.size → h3.get? P = some { cls := .none, data := .fields (ps ++ more) } → TriplesOk (ps ++ more).toList →
      wpAny (model X.prog X.w) X.A (builtinsFor X.env.globals X.env.builtins) (fun bi s₄ => ∀ h', h'.Ns s₄.heap.objs.size (fun y => if y = ".0" then some (.ref it) else none) → Heap.SameBut s₄.heap.objs.size (s₄.heap.push { cls := .type "frame", data := .dict #[] }) h' →
          Q' (.ref h'.objs.size) { s₄ with
            gens := s₄.gens.push (.fresh (.compStart (.GeneratorExp elt [⟨tg, iter, ifs, 0⟩, ⟨tg1, iter1, ifs1, 0⟩] scope gpos) 0 (.ref it) .none (genEnv scope (cloFrom X.env.cells scope.names []) s₄.heap.objs.size code bi X.env))),
            toks := s₄.toks + 1 + 1 + 1,
            heap := h'.push { cls := .type "generator", data := .fields #[.int s₄.gens.size 0, .str "<genexpr>" (s₄.toks + 1), .str (X.env.qual ++ "<genexpr>") (s₄.toks + 1 + 1)] } }) X.xe { s2 with heap := h3, toks := tk } := by
    intro code h3 tk more hx hsz hP3 ht3
    obtain ⟨bm, ob, e1, e2, e3, e4, e5, e6, e7, e8⟩ := TB.bm
    have keep3 : ∀ b u, b ≠ P → s2.heap.get? b = some u → h3.get? b = some u := fun b u hb e => hx b u hb e
    have I4 : Inv X pins σ (upd H2 P (.tbl (ps ++ more))) { s2 with heap := h3, toks := tk } := inv_tab (g' := s2.gens) (d' := s2.drawn) I2 hP keep3 hP3 I2.bare
    have bi_eq : X.env.builtins = builtinsNs := I2.ok.blt
    refine wpAny_builtinsFor (m := X.mg) (by rw [I2.ok.glob]; exact (I2.mod.glob.keeps I2.bk).extBut hx TB.gP) e1 e2 (keep3 _ _ e4 (I2.bk _ _ e5)) e6 e7 e8 ?_
    intro h' hn' hs'
    have ex4 : Ext g H2 (upd H2 P (.tbl (ps ++ more))) := ⟨fun b o e n t => by rw [upd_ne (fun z => t ps (by rw [z, hP] at e; exact (Option.some.inj e).symm))]; exact e, fun b qs e => by
      by_cases hb : b = P
      · rw [hb, hP] at e
        cases e
        exact ⟨more, by rw [hb, upd_same]⟩
      · exact ⟨#[], by rw [upd_ne hb, e]; simp⟩, fun b e ⟨xs, q⟩ => ⟨xs, by rw [upd_ne (fun z => by rw [z, hP] at q; cases q)]; exact q⟩⟩
    have ok4 : Ok g (upd H2 P (.tbl (ps ++ more))) sD := ⟨fun b e => let ⟨x, y, z⟩ := ok2.st b e; ⟨by rw [upd_ne (fun z => by rw [z, hP] at x; cases x)]; exact x, by rw [upd_ne (fun z => by rw [z, hP] at y; cases y)]; exact y, z⟩, fun P' hP' => by
      by_cases hb : P' = P
      · exact ⟨ps ++ more, by rw [hb, upd_same], ht3⟩
      · obtain ⟨qs, e, t⟩ := ok2.tabs P' hP'
        exact ⟨qs, by rw [upd_ne hb]; exact e, t⟩⟩
    have hz : h'.objs.size = h3.objs.size + 1 := by rw [hs'.1, Heap.size_push]
    have keep' : ∀ b o, h3.get? b = some o → h'.get? b = some o := fun b o e => hs'.extBut b o (Nat.ne_of_lt (Heap.lt_size e)) (Heap.get?_push_of_some _ e)
    have f4 : ∀ b ∈ fp, FpOk X pins (upd H2 P (.tbl (ps ++ more))) b ∧ b < h3.objs.size := fun b hb => by
      obtain ⟨o, e, _⟩ := T.obj _ _ st2 b hb
      exact ⟨⟨by rw [upd_ne (nfP b hb)]; exact (f2 b hb).1, (f2 b hb).2⟩, Nat.lt_of_lt_of_le (Heap.lt_size e) hsz⟩
    refine key { s2 with heap := h3, toks := tk } (upd H2 P (.tbl (ps ++ more))) it h'.objs.size s2.gens.size fp tn code _ [(h'.objs.size, { cls := .type "generator", data := .fields #[.int s2.gens.size 0, .str "<genexpr>" (tk + 1), .str (X.env.qual ++ "<genexpr>") (tk + 1 + 1)] })] I4 f4 T ?_ ex4 ok4 (fun A hd hf => ?_) (fun b hb p hp => ?_) (fun s hp => ?_) (Array.getElem?_push_size ..)
    · exact T.keep _ _ _ st2 fun b hb o e => Heap.get?_push_of_some _ (keep' b o (keep3 b o (nfP b hb) e))
    · have J := gen_start (A := A) (bia := builtinsNs) (bi := Value.none) (code := code) (h₁ := h'.push { cls := .type "generator", data := .fields #[.int s2.gens.size 0, .str "<genexpr>" (tk + 1), .str (X.env.qual ++ "<genexpr>") (tk + 1 + 1)] }) (g₁ := s2.gens.push (.fresh (.compStart (.GeneratorExp elt [⟨tg, iter, ifs, 0⟩, ⟨tg1, iter1, ifs1, 0⟩] scope gpos) 0 (.ref it) .none (genEnv scope (cloFrom X.env.cells scope.names []) h3.objs.size code builtinsNs X.env)))) (tk := tk + 1 + 1 + 1) I4 ok hN f4 rfl hd hf S0.cell (hn'.push _) (fun b o e => Heap.get?_push_of_some _ (keep' b o e)) (I2.bare.push rfl)
      refine J.pins_of fun p hp => ?_
      have hp : p = (h'.objs.size, _) := List.mem_singleton.mp hp
      subst hp
      have n1 : (upd H2 P (.tbl (ps ++ more))) h'.objs.size = none := I4.hok.fresh (by show h3.objs.size ≤ h'.objs.size; omega)
      refine ⟨Heap.get?_push_size _ rfl, n1, ?_, ?_, fun v q => by cases q⟩
      · show h'.objs.size ≠ h3.objs.size
        omega
      · intro hm
        rcases List.mem_cons.mp (I4.stkSub _ hm) with z | z
        · have h9 : h3.objs.size < h'.objs.size := by rw [hz]; exact Nat.lt_succ_self _
          have h8 : X.env.locals < h3.objs.size := I4.lt
          rw [← z] at h8
          exact Nat.lt_irrefl _ (Nat.lt_trans h9 h8)
        · exact I4.nofs (a := h'.objs.size) (by show h3.objs.size ≤ h'.objs.size; omega) z
    · have hp : p = (h'.objs.size, _) := List.mem_singleton.mp hp
      subst hp
      have h8 := (f4 b hb).2
      have h9 : h3.objs.size < h'.objs.size := by rw [hz]; exact Nat.lt_succ_self _
      show h'.objs.size ≠ b
      exact Nat.ne_of_gt (Nat.lt_trans h8 h9)
    · have := hp _ List.mem_cons_self
      exact ⟨_, _, _, this, rfl, rfl, rfl⟩
  cases hf : codeAmong gpos ps.toList with
  | none =>
    refine wpAny_genexprCodeX hcode (cd.code hPs ht) (cd.tab hPs) hf fun c' h' tk hx hge hlt hco' _ htab' _ => ?_
    obtain ⟨o1, vs, f1, tf, fl, tg', inF, tx, tt, op, _, _, _, _, _, _, _, _, _, htr, _⟩ := hco'
    exact cont _ h' tk _ hx (Nat.le_trans hge (Nat.le_of_lt hlt)) htab'.2 htr
  | some cv =>
    refine wpAny_genexprCode_hit hcode (cd.code hPs ht) hf ?_
    exact cont cv s2.heap s2.toks #[] (Heap.ExtBut.refl _ _) (Nat.le_refl _) (by simpa using hPs) (by simpa using ht)
end
theorem wipe_mono {σ σ' : St} {us vs : List Nat} (h : wipe σ' us = wipe σ us) (hv : ∀ i ∈ us, i ∈ vs) : wipe σ' vs = wipe σ vs := by
  have hl : σ'.length = σ.length := by
    have := congrArg List.length h
    rw [wipe_length, wipe_length] at this
    exact this
  refine Off.wipe ⟨hl, fun i hi => ?_⟩
  have h1 : i ∉ us := fun z => hi (hv i z)
  rw [← wipe_out (σ := σ') h1, h, wipe_out h1]
/-! ### what is computed -/
def gl2M (stop : Bool) (f : GV) (t : BV) (src1 : IV) (f1 : GV) (t1 : BV) (e : EV) (vs1 : List Nat) (η : Env) : Nat → List D → M (Option Nat)
  | n, [] => M.ret (some n)
  | n, d :: ds => match f d η with
    | none => M.bad
    | some η1 => M.bind (t η1) fun b => if b = true then M.bind (src1 η1) fun ds1 => M.bind (glM stop f1 t1 e (wipeE η1 vs1) n ds1) fun o => (match o with
      | none => M.ret none
      | some m => gl2M stop f t src1 f1 t1 e vs1 η m ds) else gl2M stop f t src1 f1 t1 e vs1 η n ds
def eGen2 (stop : Bool) (src : IV) (f : GV) (t : BV) (src1 : IV) (f1 : GV) (t1 : BV) (e : EV) (vs vs1 : List Nat) (N : Nat) : EV := fun η => M.bind (src η) fun ds => M.bind (noExc (gl2M stop f t src1 f1 t1 e vs1 (wipeE η vs) N ds)) (finG stop)
theorem compTurnG2_out (elt t0 i0 t1 i1 : Expr) (ifs0 ifs1 : List Expr) (scope : Scope) (pos : Pos) (it acc : Value) (env : PySem.Env) :
    compTurn (.GeneratorExp elt [⟨t0, i0, ifs0, 0⟩, ⟨t1, i1, ifs1, 0⟩] scope pos) 0 it acc env = (do
      standAt i0.pos
      match ← pyNext it with
      | none => pure (.done .next)
      | some v =>
        letOwnedTupleGo t0 it v
        assign t0 env v
        let mut ok := true
        for c in ifs0 do
          if ok then ok ← isTrue c env (eval c env)
        if ok then
          let x ← eval i1 env
          standAt i1.pos
          let x ← foldedSetIterable i1 env x
          let _ ← runOwn (.compStart (.GeneratorExp elt [⟨t0, i0, ifs0, 0⟩, ⟨t1, i1, ifs1, 0⟩] scope pos) 1 (← holding [x] (pyIter x)) acc env) env
        again (.compLoop (.GeneratorExp elt [⟨t0, i0, ifs0, 0⟩, ⟨t1, i1, ifs1, 0⟩] scope pos) 0 it acc env)) := by rfl
theorem compTurnG2_in (elt t0 i0 t1 i1 : Expr) (ifs0 ifs1 : List Expr) (scope : Scope) (pos : Pos) (it acc : Value) (env : PySem.Env) :
    compTurn (.GeneratorExp elt [⟨t0, i0, ifs0, 0⟩, ⟨t1, i1, ifs1, 0⟩] scope pos) 1 it acc env = (do
      standAt i1.pos
      match ← pyNext it with
      | none => pure (.done .next)
      | some v =>
        letOwnedTupleGo t1 it v
        assign t1 env v
        let mut ok := true
        for c in ifs1 do
          if ok then ok ← isTrue c env (eval c env)
        if ok then
          (do let v ← eval elt env; standAt elt.pos; let _ ← yieldOut env v)
        again (.compLoop (.GeneratorExp elt [⟨t0, i0, ifs0, 0⟩, ⟨t1, i1, ifs1, 0⟩] scope pos) 1 it acc env)) := by rfl
section
variable {X : Cx} {W : WW} {g : G} {S : Addr → Prop} {H2 : Hp} {Q : D → Hp → DS → Prop} {stop : Bool}
theorem run_call {c : Code} {env : PySem.Env} {α : Type} {K : Flow → Sem α} : (runOwn c env >>= K) = Sem.call c none false [] (fun r => ((match r with | .ok f => (.pure f : Sem Flow) | .error e => .raise e).onRaise fun x => do
    if (← field x 1) == Value.none then unsupported "frame.own-activation:exception-without-traceback"
    setFlight x env.frame) >>= K) := by rfl
theorem seg_start1 {E : Expr} {A0 : Around} {R : GenEnd} {Y : Protocol} {n : Nat} {s0 s : Shared} {it : Addr} {cenv : PySem.Env} {M : Model} {fs : List Frame} {hx : Value → Sem Unit} (hq : (Code.compLoop E 1 (.ref it) .none cenv).quiet = true) (hden : M.den (.compStart E 1 (.ref it) .none cenv) = (compStart E 1 (.ref it) .none cenv).onRaise hx) {g0 g1 : Comprehension}
    (hc : clausesOf E = [g0, g1]) (hz : g1.is_async = 0) (hself : ∀ (A : Around) (Q : Value → Shared → Prop) (E' : Value → Shared → Prop), Q (.ref it) s → wpAny M A (pyIter (.ref it)) Q E' s)
    (loop : Seg M A0 R Y n s0 (.compLoop E 1 (.ref it) .none cenv) (M.den (.compLoop E 1 (.ref it) .none cenv)) fs s) : Seg M A0 R Y n s0 (.compStart E 1 (.ref it) .none cenv) (M.den (.compStart E 1 (.ref it) .none cenv)) fs s := by
  rw [hden]
  unfold compStart
  rw [Sem.onRaise_eq_wrap, hc]
  have e1 : (([g0, g1] : List Comprehension)[1]?).elim false (fun x => x.is_async != 0) = false := by simp [hz]
  simp only [e1, Bool.false_eq_true, if_false]
  refine seg_bind_wrap (wpAny_askSetting ?_)
  split
  · exact seg_again hq loop
  · first
      | exact seg_bind_wrap (wpAny_rule (seg_bind_wrap (wpAny_standAt (seg_bind_wrap (hself _ _ _ (seg_again hq loop))))))
      | (refine seg_bind_wrap (wpAny_rule ?_)
         show Seg M A0 R Y n s0 _ ((standAt g1.iter.pos >>= _).wrap _ _ _ _) fs s
         exact seg_bind_wrap (wpAny_standAt (seg_bind_wrap (hself _ _ _ (seg_again hq loop)))))
theorem seg_outer {E tg elt tg1 iter1 itE : Expr} {ifs ifs1 : List Expr} {itp : Pos} {it : Addr} {fp : List Addr} {tn : Nat → Heap → Prop} {J : It} {A0 Aw : Around} {s0 : Shared} {H0 : Hp} {cenv : PySem.Env} {pn : List (Addr × Obj)}
    {us vs us1 vs1 : List Nat} {f f1 : GV} {t t1 : BV} {src1 : IV} {e : EV} {σw : St} {η0 : Env} {ds : List D} {R : GenEnd} {k : Nat} {sD0 : DS}
    (hq0 : ∀ it, (Code.compLoop E 0 it .none cenv).quiet = true) (hq1 : ∀ it, (Code.compLoop E 1 it .none cenv).quiet = true) {hx0 hx1 hx2 : Value → Sem Unit}
    (hden : (model X.prog X.w).den (.compLoop E 0 (.ref it) .none cenv) = (compTurn E 0 (.ref it) .none cenv).onRaise hx0)
    (hden1 : ∀ it1, (model X.prog X.w).den (.compLoop E 1 it1 .none cenv) = (compTurn E 1 it1 .none cenv).onRaise hx1)
    (hdenS : ∀ it1, (model X.prog X.w).den (.compStart E 1 it1 .none cenv) = (compStart E 1 it1 .none cenv).onRaise hx2)
    (hcl : clausesOf E = [⟨tg, itE, ifs, 0⟩, ⟨tg1, iter1, ifs1, 0⟩])
    (hturn : compTurn E 0 (.ref it) .none cenv = (do
        standAt itp
        match ← pyNext (.ref it) with
        | none => pure (.done .next)
        | some v =>
          letOwnedTupleGo tg (.ref it) v
          assign tg cenv v
          let mut ok := true
          for c in ifs do
            if ok then ok ← isTrue c cenv (eval c cenv)
          if ok then
            let x ← eval iter1 cenv
            standAt iter1.pos
            let x ← foldedSetIterable iter1 cenv x
            let _ ← runOwn (.compStart E 1 (← holding [x] (pyIter x)) .none cenv) cenv
          again (.compLoop E 0 (.ref it) .none cenv)))
    (hturn1 : ∀ it1, compTurn E 1 it1 .none cenv = (do
        standAt iter1.pos
        match ← pyNext it1 with
        | none => pure (.done .next)
        | some v =>
          letOwnedTupleGo tg1 it1 v
          assign tg1 cenv v
          let mut ok := true
          for c in ifs1 do
            if ok then ok ← isTrue c cenv (eval c cenv)
          if ok then
            (do let v ← eval elt cenv; standAt elt.pos; let _ ← yieldOut cenv v)
          again (.compLoop E 1 it1 .none cenv)))
    (hs1 : ∀ x, foldedSetIterable iter1 cenv x = pure x)
    (hover : A0.over (.compLoop E 0 (.ref it) .none cenv) [] = Aw) (hin : ∀ (it1 : Value) (kk : Result → Sem PySem.Fin) (l : List Value) (p : Pos), (A0.over (.compLoop E 1 it1 .none cenv) [.ret kk none false l (.compLoop E 0 (.ref it) .none cenv) p []]).handled = none ∧ (A0.over (.compLoop E 1 it1 .none cenv) [.ret kk none false l (.compLoop E 0 (.ref it) .none cenv) p []]).frames = some (cenv :: X.stack) ∧ Room k (A0.over (.compLoop E 1 it1 .none cenv) [.ret kk none false l (.compLoop E 0 (.ref it) .none cenv) p []]))
    (hco : cenv.scope.isCoroutine = false) (hdw : Aw.handled = none) (hfw : Aw.frames = some (cenv :: X.stack))
    (T : Turn X.prog X.w X.K tg J fp it tn) (hg : PGD (X.gen Aw s0 H0 cenv fp) us tg f) (ht : PTsD (X.gen Aw s0 H0 cenv fp) WF ifs t) (hi1 : PID (X.gen Aw s0 H0 cenv fp) WF tg1 iter1 src1)
    (hg1 : ∀ A, Room k A → PGD (X.gen A s0 H0 cenv fp) us1 tg1 f1) (ht1 : ∀ A, Room k A → PTsD (X.gen A s0 H0 cenv fp) WF ifs1 t1) (he : ∀ A, Room k A → PED (X.gen A s0 H0 cenv fp) WF elt e) (hu : ∀ i ∈ us, i ∈ vs) (hu1 : ∀ i ∈ us1, i ∈ vs1) (hv1 : ∀ i ∈ vs1, i ∈ vs) (hw : wipe σw vs = σw)
    {Hj : Hp} (hJ : Yields g S J ds Hj) (at0 : At X.K g S Hj σw η0 sD0)
    (hfin : ∀ (n : Nat) (s0' s : Shared) (σ' : St) (H : Hp) (sD : DS), Inv (X.gen Aw s0 H0 cenv fp) pn σ' H s → Ext g H2 H → Ok g H sD → Res W g H2 (finG stop (some n) sD) Q → R n s0' (.ok .next) s) :
    ∀ (r i n : Nat) (s0' s : Shared) (σ' : St) (H : Hp) (sD : DS), ds.length - i = r → i ≤ ds.length → Inv (X.gen Aw s0 H0 cenv fp) pn σ' H s → wipe σ' vs = σw → tn i s.heap → (∀ b ∈ fp, FpOk (X.gen Aw s0 H0 cenv fp) pn H b) → SOk g S H → Ok g H sD → Ext g H2 H → Pres S Hj H →
      Res W g H2 (M.bind (noExc (gl2M stop f t src1 f1 t1 e vs1 η0 n (ds.drop i))) (finG stop) sD) Q → Seg (model X.prog X.w) A0 R (genY X W g S H2 Q stop Aw s0 H0 cenv fp pn) n s0' (.compLoop E 0 (.ref it) .none cenv) ((model X.prog X.w).den (.compLoop E 0 (.ref it) .none cenv)) [] s := by
  intro r
  induction r with
  | zero =>
    intro i n s0' s σ' H sD hr hi I hwσ st hf so okH ex pr q
    have hin : i = ds.length := by omega
    subst hin
    rw [hden, hturn, Sem.onRaise_eq_wrap]
    refine seg_bind_wrap (wpAny_standAt ?_)
    obtain ⟨_, y2⟩ := hJ S (fun a h => .inl h) ds.length H pr
    refine seg_bind_wrap ?_
    rw [hover]
    refine thnF (T.done (X.gen Aw s0 H0 cenv fp) rfl rfl rfl rfl ds.length pn s σ' H _ I hf st (y2 (Nat.le_refl _))) fun u s1 ⟨hu1, I1⟩ => ?_
    subst hu1
    rw [List.drop_length] at q
    exact seg_end (.ok .next) (hfin n s0' s1 σ' H sD I1 ex okH q)
  | succ r ih =>
    intro i n s0' s σ' H sD hr hi I hwσ st hf so okH ex pr q
    have hlt : i < ds.length := by omega
    have at_ : At X.K g S H σw η0 sD := ⟨at0.gK, so, at0.rep.pres at0.sok.mu pr, okH, at0.len⟩
    rw [hden, hturn, Sem.onRaise_eq_wrap]
    refine seg_bind_wrap (wpAny_standAt ?_)
    obtain ⟨y1, _⟩ := hJ S (fun a h => .inl h) i H pr
    have hxi : ds[i]? = some ds[i] := List.getElem?_eq_getElem hlt
    obtain ⟨go, yld⟩ := y1 _ hxi
    refine seg_bind_wrap ?_
    rw [hover]
    refine thnF (T.item (X.gen Aw s0 H0 cenv fp) rfl rfl rfl rfl i pn s σ' H (fun _ _ => False) I hf st go) fun r6 s6 ⟨u, hr6, h6⟩ => ?_
    subst hr6
    refine seg_bind_wrap ?_
    rw [hover]
    refine thnF h6 fun _ s7 ⟨x, H7, I7, r7, y7, st7, n7⟩ => ?_
    obtain ⟨sm, rx⟩ := yld x H7 y7
    have stat7 : ∀ b ∈ fp, FpOk (X.gen Aw s0 H0 cenv fp) pn H7 b := fun b hb => ⟨n7 b hb, (hf b hb).2⟩
    have I7' := (I7.pinned stat7 (T.obj _ _ st7)).weak (σ' := σw) (by rw [← hwσ, wipe_length]) fun j v e => by
      rw [← hwσ] at e
      exact (wipe_some e).1
    have at7 := at_.ext (Ext.same sm) (at_.ok.same sm)
    rw [List.drop_eq_getElem_cons hlt] at q
    have ex7 := ex.trans (Ext.same sm)
    have pr7 : Pres S Hj H7 := pr.trans (Pres.same sm)
    have fin : ∀ {s' : Shared} {σ8 : St} {H' : Hp}, Inv (X.gen Aw s0 H0 cenv fp) (pn ++ pinsAt fp s7.heap) σ8 H' s' → Inv (X.gen Aw s0 H0 cenv fp) pn σ8 H' s' ∧ tn (i + 1) s'.heap ∧ ∀ b ∈ fp, FpOk (X.gen Aw s0 H0 cenv fp) pn H' b := fun {s' σ8 H'} I' => by
      have pin' : ∀ b ∈ fp, ∀ o, s7.heap.get? b = some o → s'.heap.get? b = some o ∧ H' b = none := fun b hb o e =>
        let z := I'.pin (b, o) (List.mem_append_right _ (List.mem_append_right _ (mem_pinsAt hb e)))
        ⟨z.1, z.2.1⟩
      refine ⟨I'.unpinned, T.keep _ _ _ st7 fun b hb o e => (pin' b hb o e).1, fun b hb => ⟨?_, (hf b hb).2⟩⟩
      obtain ⟨o, e, _⟩ := T.obj _ _ st7 b hb
      exact (pin' b hb o e).2
    cases hfe : f ds[i] η0 with
    | none =>
      unfold gl2M at q
      rw [hfe] at q
      exact q.elim
    | some η1 =>
      unfold gl2M at q
      rw [hfe] at q
      refine seg_bind_wrap ?_
      rw [hover]
      have hgr := hg.pg.run _ s7 σw H7 x u (fun σ2 H2' => H2' = H7 ∧ wipe σ2 vs = σw ∧ At X.K g S H7 σ2 η1 sD) I7' r7 ⟨g, S, η0, sD, ds[i], η1, at7, rx, hfe, fun σ2 o2 at2 => ⟨rfl, (o2.mono hu).wipe.trans hw, at2⟩⟩
      refine thnF hgr fun _ s8 ⟨σ8, H8, I8, e8, hw8, at8⟩ => ?_
      subst e8
      refine seg_bind_wrap ?_
      rw [hover]
      have q8 := (Res.nx q)
      have htr := ht.pt.run _ s8 σ8 H8 (fun b H9 => ∃ s9, At X.K g S H9 σ8 η1 s9 ∧ Ext g H8 H9 ∧ Res W g H2 (M.bind (noExc (if b = true then M.bind (src1 η1) fun ds1 => M.bind (glM stop f1 t1 e (wipeE η1 vs1) n ds1) fun o => (match o with
          | none => M.ret none
          | some m => gl2M stop f t src1 f1 t1 e vs1 η0 m (ds.drop (i + 1))) else gl2M stop f t src1 f1 t1 e vs1 η0 n (ds.drop (i + 1)))) (finG stop) s9) Q) I8
        (tDT.mk at8 ((q8.ext ex7).imp fun b H9 s9 e9 k9 q9 at9 => ⟨s9, at9, e9, q9⟩))
      refine thnF htr fun b s9 ⟨H9, I9, sD9, at9, e9, q9⟩ => ?_
      have ex9 := ex7.trans e9
      have pr9 : Pres S Hj H9 := pr7.trans (e9.pres at8.sok.st)
      cases b with
      | false =>
        simp only [Bool.false_eq_true, if_false]
        obtain ⟨J1, J2, J3⟩ := fin I9
        rw [if_neg Bool.false_ne_true] at q9
        exact seg_again (hq0 _) (ih (i + 1) n s0' s9 σ8 H9 sD9 (by omega) hlt J1 hw8 J2 J3 at9.sok at9.ok ex9 pr9 q9)
      | true =>
        simp only [if_true]
        rw [if_pos rfl] at q9
        refine seg_bind_wrap ?_
        rw [hover]
        have hpi := hi1.pi.run _ s9 σ8 H9 (fun J1 H10 => ∃ ds1 s10, At X.K g S H10 σ8 η1 s10 ∧ Ext g H9 H10 ∧ Yields g S J1 ds1 H10 ∧ Res W g H2 (M.bind (noExc (M.bind (glM stop f1 t1 e (wipeE η1 vs1) n ds1) fun o => (match o with
          | none => M.ret none
          | some m => gl2M stop f t src1 f1 t1 e vs1 η0 m (ds.drop (i + 1))))) (finG stop) s10) Q) I9
          ⟨g, S, η1, sD9, at9, ((Res.nx q9).ext ex9).imp fun ds1 H10 s10 e10 k10 q10 J1 hJ1 => ⟨ds1, s10, at9.ext e10 k10, e10, hJ1, q10⟩⟩
        refine thnF hpi fun xv s10 h10 => ?_
        refine seg_bind_wrap (wpAny_standAt ?_)
        refine seg_bind_wrap (wpAny_of_eq (hs1 xv) ?_)
        refine seg_bind_wrap (wpAny_holding ?_)
        rw [hover]
        refine thnF h10 fun itv s11 h11 => ?_
        obtain ⟨it1, fp1, tn1, J1, H10, rfl, I10, T1, st1, hf1, ds1, sD10, at10, e10, hJ1, q10⟩ := h11
        rw [run_call]
        refine seg_call fun p => ?_
        obtain ⟨i1, i2, i3⟩ := hin (.ref it1) _ [] p
        refine seg_start1 (hq1 _) (hdenS _) hcl rfl (fun A Q' E' h => T1.self A 0 s11 Q' E' st1 h) ?_
        have ex10 := ex9.trans e10
        have pr10 : Pres S Hj H10 := pr9.trans (e10.pres at9.sok.st)
        rw [noExc_bind, bind_assoc] at q10
        refine seg_last (KK := fun o => M.bind (noExc (match o with
              | none => M.ret none
              | some m => gl2M stop f t src1 f1 t1 e vs1 η0 m (List.drop (i + 1) ds))) (finG stop)) (pn := pn) (ext := pinsAt fp s7.heap) (hq1 _) (hden1 _) (hturn1 _) rfl rfl rfl hco hdw hfw i1 i2 T1 (hg1 _ i3) (ht1 _ i3) (he _ i3) hu1 ((Off.ofwipe vs1).wipe) hJ1 rfl
          (fun m s0'' s12 σ12 H12 sD12 I12 ex12 pr12 so12 ok12 hf12 hw12 q12 => ?_) ds1.length 0 n s0' s11 σ8 H10 sD10 (by omega) (Nat.zero_le _) (gen_reA I10 i1 i2) rfl st1 hf1 (at10.wipe vs1) ex10 .refl q10
        -- the inner loop has ended
        have I12' : Inv (X.gen Aw s0 H0 cenv fp) (pn ++ pinsAt fp s7.heap) σ12 H12 s12 := gen_reA I12 hdw hfw
        obtain ⟨J1', J2', J3'⟩ := fin I12'
        refine seg_leaf (.ok .next) ?_
        show Seg (model X.prog X.w) A0 R (genY X W g S H2 Q stop Aw s0 H0 cenv fp pn) m s0'' (.compLoop E 0 (.ref it) .none cenv) (.pure (.again (.compLoop E 0 (.ref it) .none cenv))) [] s12
        refine seg_again (hq0 _) (ih (i + 1) m s0'' s12 σ12 H12 sD12 (by omega) hlt J1' ((wipe_mono hw12 hv1).trans hw8) J2' J3' so12 ok12 ex12 (pr10.trans pr12) ?_)
        exact q12
theorem over_in {c0 c1 : Code} {A : Around} {cenv : PySem.Env} {st : List PySem.Env} {k : Nat} (hr : Room (k + 1) A) (hf : A.frames = some st) (h1 : c0.isFrame = true) (h2 : c0.env? = some cenv) (h3 : c0.weight = 1) (h4 : c0.cUnits = 3) (h5 : c1.envs = []) (h6 : c1.weight = 0) (h7 : c1.cUnits = 0) (kk : Result → Sem PySem.Fin) (l : List Value) (p : Pos) :
    (A.in1.in1.over c1 [.ret kk none false l c0 p []]).handled = none ∧ (A.in1.in1.over c1 [.ret kk none false l c0 p []]).frames = some (cenv :: st) ∧ Room k (A.in1.in1.over c1 [.ret kk none false l c0 p []]) := by
  have hd : (A.in1.in1.over c1 [.ret kk none false l c0 p []]).handled = none := hr.hd
  refine ⟨hd, ?_, hd, ?_, ?_⟩
  · show pushEnvs c1.envs (pushEnvs (envsOf [(c0, p)]) A.frames) = _
    have e : envsOf [(c0, p)] = [cenv] := by simp [envsOf, h1, h2]
    rw [h5, e, hf]
    rfl
  · have := hr.dp
    show A.depth + frameCount [(c0, p)] + c1.weight + 3 * k + 5 < _
    have e : frameCount [(c0, p)] = 1 := by simp [frameCount, h3]
    omega
  · have := hr.un
    show A.units + 1 + 1 + unitsOf [(c0, p)] + c1.cUnits + 16 * k + 200 < _
    have e : unitsOf [(c0, p)] = 3 := by simp [unitsOf, h4]
    omega
theorem gen2_ready {W : XW} {elt tg iter tg1 iter1 : Expr} {ifs ifs1 : List Expr} {scope : Scope} {own : List (Str × Nat)} {gpos : Pos} {pins pn : List (Addr × Obj)} {s4 s5 : Shared} {σ : St} {H H1 H4 : Hp} {f f1 : GV} {t t1 : BV} {src1 : IV} {e : EV} {us us1 vs1 : List Nat} {g : G} {S : Addr → Prop} {η : Env} {sD : DS} {ds : List D} {Q : D → Hp → DS → Prop} {stop : Bool} {k : Nat} {J : It} {it : Addr} {gi : Nat} {fp : List Addr} {tn : Nat → Heap → Prop} {code : Value} {N : Nat}
    (hr : Room (k + 1) X.A) (ok : BlkOk X.N X.env.scope scope own) (S0 : GenSc scope) (hu : ∀ i ∈ us, i ∈ own.map (·.2)) (hu1 : ∀ i ∈ us1, i ∈ vs1) (hv1 : ∀ i ∈ vs1, i ∈ own.map (·.2)) (hg : Gbk X k scope fun Y => PGD Y us tg f) (ht : Gbk X k scope fun Y => PTsD Y WF ifs t) (hi1 : Gbk X k scope fun Y => PID Y WF tg1 iter1 src1) (hg1 : Gbk X k scope fun Y => PGD Y us1 tg1 f1) (ht1 : Gbk X k scope fun Y => PTsD Y WF ifs1 t1) (he : Gbk X k scope fun Y => PED Y WF elt e)
    (hs1 : ∀ env x, foldedSetIterable iter1 env x = pure x)
    (fr : X.A.frames = some X.stack) (at1 : At X.K g S H1 σ η sD) (ex1 : Ext g H H1) (T : Turn X.prog X.w X.K tg J fp it tn) (st : tn 0 s5.heap) (ex4 : Ext g H1 H4) (ok4 : Ok g H4 sD) (f4 : ∀ b ∈ fp, FpOk X pins H4 b ∧ b < s4.heap.objs.size) (I4 : Inv X pins σ H4 s4) (pnb : ∀ b ∈ fp, ∀ p ∈ pn, p.1 ≠ b)
    (I5 : ∀ A : Around, A.handled = none → A.frames = some (genEnv scope (cloFrom X.env.cells scope.names []) s4.heap.objs.size code builtinsNs X.env :: X.stack) → Inv (X.gen A s4 H4 (genEnv scope (cloFrom X.env.cells scope.names []) s4.heap.objs.size code builtinsNs X.env) fp) pn (wipe σ (own.map (·.2))) H4 s5)
    (hgs : s5.gens[gi]? = some (.fresh (.compStart (.GeneratorExp elt [⟨tg, iter, ifs, 0⟩, ⟨tg1, iter1, ifs1, 0⟩] scope gpos) 0 (.ref it) .none (genEnv scope (cloFrom X.env.cells scope.names []) s4.heap.objs.size code builtinsNs X.env))))
    (hJ : Yields g S J ds H1) (q : Res (W σ) g H (M.bind (noExc (gl2M stop f t src1 f1 t1 e vs1 (wipeE η (own.map (·.2))) N ds)) (finG stop) sD) Q) :
    ∃ Aw : Around, Aw.handled = none ∧ Aw.frames = some (genEnv scope (cloFrom X.env.cells scope.names []) s4.heap.objs.size code builtinsNs X.env :: X.stack) ∧
      GRdy X (W σ) g S H Q stop Aw s4 H4 (genEnv scope (cloFrom X.env.cells scope.names []) s4.heap.objs.size code builtinsNs X.env) fp pn gi X.A.in1.in1 N s5 := by
  generalize hE : (Expr.GeneratorExp elt [⟨tg, iter, ifs, 0⟩, ⟨tg1, iter1, ifs1, 0⟩] scope gpos) = E at hgs
  generalize hce : genEnv scope (cloFrom X.env.cells scope.names []) s4.heap.objs.size code builtinsNs X.env = cenv at I5 hgs ⊢
  have hq0 : ∀ it, (Code.compLoop E 0 it .none cenv).quiet = true := by subst hE; intro _; rfl
  have hq1 : ∀ it, (Code.compLoop E 1 it .none cenv).quiet = true := by subst hE; intro _; rfl
  obtain ⟨o1, o2, o3⟩ := over_facts (c := .compLoop E 0 (.ref it) .none cenv) hr fr (by subst hE; rfl) (by subst hE; rfl) (by subst hE; rfl)
  have hco : cenv.scope.isCoroutine = false := by subst hce; exact S0.co
  have pg : PGD (X.gen (X.A.in1.in1.over (.compLoop E 0 (.ref it) .none cenv) []) s4 H4 cenv fp) us tg f := by subst hce; exact hg _ _ _ _ _ _ _ _ o3
  have pt : PTsD (X.gen (X.A.in1.in1.over (.compLoop E 0 (.ref it) .none cenv) []) s4 H4 cenv fp) WF ifs t := by subst hce; exact ht _ _ _ _ _ _ _ _ o3
  have pi1 : PID (X.gen (X.A.in1.in1.over (.compLoop E 0 (.ref it) .none cenv) []) s4 H4 cenv fp) WF tg1 iter1 src1 := by subst hce; exact hi1 _ _ _ _ _ _ _ _ o3
  have J5 := I5 _ o1 o2
  refine ⟨_, o1, o2, _, hgs, fun s'' wk => ⟨rfl, ?_⟩⟩
  refine seg_start rfl (hq0 _) (by subst hE; rfl) (gs := [⟨tg1, iter1, ifs1, 0⟩]) (g0 := ⟨tg, iter, ifs, 0⟩) (by subst hE; rfl) rfl (fun A Q E' h => T.self A 0 s'' Q E' (T.keep _ _ _ st fun b _ o e => wk.keep b o e) h) ?_
  have at4 := (at1.ext ex4 ok4).wipe (own.map (·.2))
  refine seg_outer (k := k) (E := E) (tg := tg) (elt := elt) (ifs := ifs) (itp := iter.pos) (us := us) (vs := own.map (·.2)) (f := f) (t := t) (e := e) (ds := ds) (fp := fp) (tn := tn) (J := J) hq0 hq1 (hx0 := leaving cenv) (by subst hE; rfl) (hx1 := fun x => do noteFrame x cenv; theTreesLotGoes x) (by subst hE; intro _; rfl) (hx2 := fun x => do noteFrame x cenv; standAt theWindowsPlace) (by subst hE; intro _; rfl) (itE := iter) (by subst hE; rfl) (by subst hE; exact compTurnG2_out elt tg iter tg1 iter1 ifs ifs1 scope gpos (.ref it) .none cenv) (by subst hE; intro it1; exact compTurnG2_in elt tg iter tg1 iter1 ifs ifs1 scope gpos it1 .none cenv) (hs1 cenv) rfl
    (fun it1 kk l p => over_in hr fr (by subst hE; rfl) rfl (by subst hE; rfl) (by subst hE; rfl) (by subst hE; rfl) (by subst hE; rfl) (by subst hE; rfl) kk l p) hco o1 o2 T pg pt pi1 (fun A r => by subst hce; exact hg1 _ _ _ _ _ _ _ _ r) (fun A r => by subst hce; exact ht1 _ _ _ _ _ _ _ _ r) (fun A r => by subst hce; exact he _ _ _ _ _ _ _ _ r) hu hu1 hv1 ((Off.ofwipe _).wipe) hJ (at1.wipe _)
    (fun n s0' s σ' H' sD' I' ex ok q' => ⟨rfl, σ', H', sD', n, I', ex, ok, q'⟩) ds.length 0 N s'' s'' _ H4 sD (by omega) (Nat.zero_le _) (wk.inv J5) ((Off.ofwipe _).wipe) (T.keep _ _ _ st fun b _ o e => wk.keep b o e) (fun b hb => ?_) at4.sok ok4 (ex1.trans ex4) (ex4.pres at1.sok.st) q
  obtain ⟨⟨h0, h1, h2, h3, h4, h5⟩, h6⟩ := f4 b hb
  exact ⟨h0, (J5.ok.exf b hb).1, J5.ok.exfs b hb, .inl hb, fun x c e => (J5.ok.exf b hb).2 x c e, fun p hp => pnb b hb p (by simpa using hp)⟩
theorem d_any2 {W : XW} {elt tg iter tg1 iter1 : Expr} {ifs ifs1 : List Expr} {scope : Scope} {own : List (Str × Nat)} {gpos p pos : Pos} {src src1 : IV} {f f1 : GV} {t t1 : BV} {e : EV} {us us1 : List Nat} {k : Nat} (vs1 : List Nat) (N : Nat)
    (hr : Room (k + 1) X.A) (hcalm : X.calm = true) (GI : GenIn X) (hN : X.N.Nodup) (ok : BlkOk X.N X.env.scope scope own) (S0 : GenSc scope) (hu : ∀ i ∈ us, i ∈ own.map (·.2)) (hu1 : ∀ i ∈ us1, i ∈ vs1) (hv1 : ∀ i ∈ vs1, i ∈ own.map (·.2)) (hgl : Gl X "any") (hm : X.mg "any" = none) (hi : PID X W tg iter src)
    (hg : Gbk X k scope fun Y => PGD Y us tg f) (ht : Gbk X k scope fun Y => PTsD Y WF ifs t) (hi1 : Gbk X k scope fun Y => PID Y WF tg1 iter1 src1) (hg1 : Gbk X k scope fun Y => PGD Y us1 tg1 f1) (ht1 : Gbk X k scope fun Y => PTsD Y WF ifs1 t1) (he : Gbk X k scope fun Y => PED Y WF elt e) (hs : ∀ v, genFold iter X.env v = pure v := by intro _; rfl) (hs1 : ∀ env x, foldedSetIterable iter1 env x = pure x := by intro _ _; rfl)
    (hst : starEach [.GeneratorExp elt [⟨tg, iter, ifs, 0⟩, ⟨tg1, iter1, ifs1, 0⟩] scope gpos] X.env = (false, eval (.GeneratorExp elt [⟨tg, iter, ifs, 0⟩, ⟨tg1, iter1, ifs1, 0⟩] scope gpos) X.env) :: starEach [] X.env := by rfl) :
    PED X W (.Call (.Name "any" p) [.GeneratorExp elt [⟨tg, iter, ifs, 0⟩, ⟨tg1, iter1, ifs1, 0⟩] scope gpos] [] pos) (eGen2 true src f t src1 f1 t1 e (own.map (·.2)) vs1 N) := by
  refine ⟨⟨fun pins s σ H Q I h => ?_⟩⟩
  obtain ⟨g, S, η, sD, at_, q⟩ := h
  refine wpAny_Call_Name_kw (ld_blt I hgl hm bt_any ?_)
  refine PyProof.Rows.callWith_builtin1 ?_ hst (by rfl)
  rw [hst]
  show wpAny _ _ (spliced ((false, eval (.GeneratorExp elt [⟨tg, iter, ifs, 0⟩, ⟨tg1, iter1, ifs1, 0⟩] scope gpos) X.env) :: backTo pos (starEach [] X.env))) _ _ s
  have fr : X.A.frames = some X.stack := I.ok.frames
  refine Calls.spliced_cons (gen_make2 (S := S) rfl hr hcalm GI hN ok S0 hi.pi hs I at_.gK ?_)
  refine ⟨g, S, η, sD, at_, (Res.bind0 q).imp fun ds H1 s1 ex1 ok1 q1 J hJ => ⟨s1, ex1, ok1, at_.sok.ext ex1 at_.ok.stl, fun s4 H4 it a gi fp tn code s5 pn I4 f4 T st ex4 ok4 I5 pnb hIs hgs => ?_⟩⟩
  obtain ⟨Aw, o1, o2, rdy⟩ := gen2_ready hr ok S0 hu hu1 hv1 hg ht hi1 hg1 ht1 he hs1 fr (at_.ext ex1 ok1) ex1 T st ex4 ok4 f4 I4 pnb I5 hgs hJ q1
  refine Calls.spliced_nil ?_
  refine call_function_tree F.kind_any F.plain_any F.entry_any (F.args_any1 _) ?_
  unfold Builtin.«any»
  refine wpAny_bind (m := oneArg "any" _) (wpAny_pure ?_)
  refine wpAny_bind (wpAny_pyIter_gen (hIs s5 fun p hp => ((I5 Aw o1 o2).pin p (List.mem_append_right _ hp)).1) ?_)
  refine wpAny_pure ⟨plainId_quiet F.plain_any_loop _, loop_any (A := X.A) hr.hd (by have := hr.dp; omega) hIs (fun s' σ' H' sD' o I' ex' ok' q' => ?_) N s5 _ H4 (I5 Aw o1 o2) rdy⟩
  have I7 : Inv X pins σ H' s' := gen_out I4 (fun b hb => (f4 b hb).1) I'
  cases o with
  | none => exact ⟨.bl _, H', I7, rfl, q' H' ex' ok' _ (.bl _)⟩
  | some n => exact ⟨.bl _, H', I7, rfl, q' H' ex' ok' _ (.bl _)⟩
theorem d_all2 {W : XW} {elt tg iter tg1 iter1 : Expr} {ifs ifs1 : List Expr} {scope : Scope} {own : List (Str × Nat)} {gpos p pos : Pos} {src src1 : IV} {f f1 : GV} {t t1 : BV} {e : EV} {us us1 : List Nat} {k : Nat} (vs1 : List Nat) (N : Nat)
    (hr : Room (k + 1) X.A) (hcalm : X.calm = true) (GI : GenIn X) (hN : X.N.Nodup) (ok : BlkOk X.N X.env.scope scope own) (S0 : GenSc scope) (hu : ∀ i ∈ us, i ∈ own.map (·.2)) (hu1 : ∀ i ∈ us1, i ∈ vs1) (hv1 : ∀ i ∈ vs1, i ∈ own.map (·.2)) (hgl : Gl X "all") (hm : X.mg "all" = none) (hi : PID X W tg iter src)
    (hg : Gbk X k scope fun Y => PGD Y us tg f) (ht : Gbk X k scope fun Y => PTsD Y WF ifs t) (hi1 : Gbk X k scope fun Y => PID Y WF tg1 iter1 src1) (hg1 : Gbk X k scope fun Y => PGD Y us1 tg1 f1) (ht1 : Gbk X k scope fun Y => PTsD Y WF ifs1 t1) (he : Gbk X k scope fun Y => PED Y WF elt e) (hs : ∀ v, genFold iter X.env v = pure v := by intro _; rfl) (hs1 : ∀ env x, foldedSetIterable iter1 env x = pure x := by intro _ _; rfl)
    (hst : starEach [.GeneratorExp elt [⟨tg, iter, ifs, 0⟩, ⟨tg1, iter1, ifs1, 0⟩] scope gpos] X.env = (false, eval (.GeneratorExp elt [⟨tg, iter, ifs, 0⟩, ⟨tg1, iter1, ifs1, 0⟩] scope gpos) X.env) :: starEach [] X.env := by rfl) :
    PED X W (.Call (.Name "all" p) [.GeneratorExp elt [⟨tg, iter, ifs, 0⟩, ⟨tg1, iter1, ifs1, 0⟩] scope gpos] [] pos) (eGen2 false src f t src1 f1 t1 e (own.map (·.2)) vs1 N) := by
  refine ⟨⟨fun pins s σ H Q I h => ?_⟩⟩
  obtain ⟨g, S, η, sD, at_, q⟩ := h
  refine wpAny_Call_Name_kw (ld_blt I hgl hm bt_all ?_)
  refine PyProof.Rows.callWith_builtin1 ?_ hst (by rfl)
  rw [hst]
  show wpAny _ _ (spliced ((false, eval (.GeneratorExp elt [⟨tg, iter, ifs, 0⟩, ⟨tg1, iter1, ifs1, 0⟩] scope gpos) X.env) :: backTo pos (starEach [] X.env))) _ _ s
  have fr : X.A.frames = some X.stack := I.ok.frames
  refine Calls.spliced_cons (gen_make2 (S := S) rfl hr hcalm GI hN ok S0 hi.pi hs I at_.gK ?_)
  refine ⟨g, S, η, sD, at_, (Res.bind0 q).imp fun ds H1 s1 ex1 ok1 q1 J hJ => ⟨s1, ex1, ok1, at_.sok.ext ex1 at_.ok.stl, fun s4 H4 it a gi fp tn code s5 pn I4 f4 T st ex4 ok4 I5 pnb hIs hgs => ?_⟩⟩
  obtain ⟨Aw, o1, o2, rdy⟩ := gen2_ready hr ok S0 hu hu1 hv1 hg ht hi1 hg1 ht1 he hs1 fr (at_.ext ex1 ok1) ex1 T st ex4 ok4 f4 I4 pnb I5 hgs hJ q1
  refine Calls.spliced_nil ?_
  refine call_function_tree F.kind_all F.plain_all F.entry_all (F.args_all1 _) ?_
  unfold Builtin.«all»
  refine wpAny_bind (m := oneArg "all" _) (wpAny_pure ?_)
  refine wpAny_bind (wpAny_pyIter_gen (hIs s5 fun p hp => ((I5 Aw o1 o2).pin p (List.mem_append_right _ hp)).1) ?_)
  refine wpAny_pure ⟨plainId_quiet F.plain_all_loop _, loop_all (A := X.A) hr.hd (by have := hr.dp; omega) hIs (fun s' σ' H' sD' o I' ex' ok' q' => ?_) N s5 _ H4 (I5 Aw o1 o2) rdy⟩
  have I7 : Inv X pins σ H' s' := gen_out I4 (fun b hb => (f4 b hb).1) I'
  cases o with
  | none => exact ⟨.bl _, H', I7, rfl, q' H' ex' ok' _ (.bl _)⟩
  | some n => exact ⟨.bl _, H', I7, rfl, q' H' ex' ok' _ (.bl _)⟩
end
end W3

set_option Elab.async false
set_option linter.all false
set_option maxRecDepth 100000
set_option maxHeartbeats 4000000
/-! W3r: enumerate(zip(a, b)). -/
namespace W3
open PySem PySem.Spec L2

abbrev IsZipF (h : Heap) (z TI TO : Addr) (x : Value) (f : Bool) : Prop :=
  h.get? z = some { cls := .type "zip", dict := none, data := .fields #[x, .bool f, .bool false, .ref TI, .ref TO], slots := #[] }
section
variable {prog : Program} {w : World} {A : Around} {E : Value → Shared → Prop} {s : Shared} {z TI TO i1 i2 : Addr} {fp1 fp2 : List Addr} {n1 n2 i : Nat} {P1 P2 : Nat → Value → Prop} {St1 St2 : Nat → Heap → Prop} {a1 a2 : Value}
theorem alive_any {a : Addr} {Q : Option Obj → Shared → Prop} (h : Q (s.heap.get? a) s) : wpAny (model prog w) A (loadIfAlive a) Q E s := fun Γ p hΓ => by
  unfold loadIfAlive
  rw [Sem.wp_loadIfAlive, Sem.wp_pure]
  exact h
theorem freeG {x0 : Value} {f : Bool} {Q : Bool → Shared → Prop} (hz : IsZipF s.heap z TI TO x0 f) (hx : x0 = .none ∨ ∃ T : Addr, x0 = rawInt T)
    (h1 : Q true s) (h2 : ∀ h' (T : Addr), IsZipF h' z TI TO (rawInt T) true → Heap.SameBut z s.heap h' → Q false { s with heap := h' }) : wpAny (model prog w) A (Builtin.SmallTypes.ownedTupleIsFree (.ref z)) Q E s := by
  rcases hx with rfl | ⟨T, rfl⟩
  · unfold Builtin.SmallTypes.ownedTupleIsFree
    exact wpAny_bind (wpAny_field hz rfl (x := .none) rfl (wpAny_pure h1))
  · cases hT : s.heap.get? T with
    | some oT => exact wpAny_tupleHeld_zip hz hT fun h' a b => h2 h' T a b
    | none =>
      unfold Builtin.SmallTypes.ownedTupleIsFree
      refine wpAny_bind (wpAny_field hz rfl (x := rawInt T) rfl ?_)
      show wpAny _ _ (loadIfAlive ((T : Int).toNat) >>= _) _ _ _
      rw [Int.toNat_natCast]
      refine wpAny_bind (alive_any ?_)
      rw [hT]
      exact wpAny_pure h1
theorem zipG_next_item {x0 : Value} {f0 : Bool} {Q : Value → Shared → Prop} (S : ZipSep2 z TI TO i1 i2 fp1 fp2) (D1 : Draws prog w A i1 fp1 n1 P1 St1) (D2 : Draws prog w A i2 fp2 n2 P2 St2)
    (hz : IsZipF s.heap z TI TO x0 f0) (hx0 : x0 = .none ∨ ∃ T : Addr, x0 = rawInt T) (hTI : IsTupOf2 s.heap TI (.ref i1) (.ref i2)) (hTO : IsTupOf2 s.heap TO a1 a2) (st1 : St1 i s.heap) (st2 : St2 i s.heap) (hlt1 : i < n1) (hlt2 : i < n2)
    (hQ : ∀ x1 x2 h' tk (T : Addr) f', P1 i x1 → P2 i x2 → IsZipF h' z TI TO (rawInt T) f' → (∃ b1 b2, IsTupOf2 h' TO b1 b2) → St1 (i + 1) h' → St2 (i + 1) h' → IsTupOf2 h' s.heap.objs.size x1 x2 → h'.objs.size = s.heap.objs.size + 1 →
      (∀ c o, c ≠ z → c ≠ TO → c ≠ i1 → c ≠ i2 → s.heap.get? c = some o → h'.get? c = some o) → Q (.ref s.heap.objs.size) { s with heap := h', toks := tk }) :
    wpAny (model prog w) A (Builtin.«zip.__next__» ⟨[.ref z], []⟩) (fun fin s' => ∃ v, fin = .done (.ret v) ∧ Q v s') E s := by
  obtain ⟨hp, g, d, tk0, os⟩ := s
  show wpAny _ _ (field (.ref z) 2 >>= _) _ _ _
  refine wpAny_bind (wpAny_field hz rfl (x := .bool false) rfl ?_)
  show wpAny _ _ (field (.ref z) 3 >>= _) _ _ _
  refine wpAny_bind (wpAny_field hz rfl (x := .ref TI) rfl ?_)
  refine wpAny_bind (wpAny_seqItems hTI rfl ?_)
  show wpAny _ _ (Builtin.SmallTypes.ownedTupleIsFree (.ref z) >>= _) _ _ _
  refine wpAny_bind (freeG hz hx0 ?_ fun h₁ T hz₁ hs₁ => ?_)
  · simp only [if_true]
    refine wpAny_bind (wpAny_rule ?_)
    refine wpAny_bind (wpAny_field hz rfl (x := .ref TO) rfl ?_)
    refine wpAny_bind (wpAny_setField_rec hz (by simp) fun g0 hz0 hs0 => ?_)
    replace hz0 : IsZipF g0 z TI TO .ellipsis f0 := hz0
    replace hs0 : Heap.SameBut z hp g0 := hs0
    refine wpAny_bind ?_
    simp only [List.zipIdx_cons, List.zipIdx_nil, List.forIn_cons, List.forIn_nil]
    refine wpAny_bind (wpAny_bind (wpAny_onRaise ?_))
    show wpAny _ _ (Builtin.SmallTypes.nextOf (.ref i1) >>= _) _ _ ⟨g0, g, d, tk0, os⟩
    refine wpAny_bind (D1.item i _ _ _ hlt1 (D1.over st1 hs0 S.zf1) fun x1 p1 tk1 hx1 sn1 hp1 => wpAny_pure ?_)
    replace hp1 : Heap.SameBut i1 g0 p1 := hp1
    have hU1 : IsTupOf2 p1 TO a1 a2 := hp1.extBut _ _ S.Ti1 (hs0.extBut _ _ S.TOz hTO)
    refine wpAny_bind (wpAny_seqItems (s := ⟨p1, g, d, tk1, os⟩) hU1 rfl ?_)
    refine wpAny_bind (updateSeq_IsTupOf2 (s := ⟨p1, g, d, tk1, os⟩) hU1 fun g1 hT1 hs1 => ?_)
    replace hT1 : IsTupOf2 g1 TO x1 a2 := hT1
    replace hs1 : Heap.SameBut TO p1 g1 := hs1
    refine wpAny_bind (wpAny_letGo (wpAny_pure ?_))
    refine wpAny_bind (wpAny_bind (wpAny_onRaise ?_))
    show wpAny _ _ (Builtin.SmallTypes.nextOf (.ref i2) >>= _) _ _ ⟨g1, g, d, tk1, os⟩
    refine wpAny_bind (D2.item i _ _ _ hlt2 (D2.over (D2.over (D2.over st2 hs0 S.zf2) hp1 S.sep1_2) hs1 S.Tf2) fun x2 p2 tk2 hx2 sn2 hp2 => wpAny_pure ?_)
    replace hp2 : Heap.SameBut i2 g1 p2 := hp2
    have hU2 : IsTupOf2 p2 TO x1 a2 := hp2.extBut _ _ S.Ti2 hT1
    refine wpAny_bind (wpAny_seqItems (s := ⟨p2, g, d, tk2, os⟩) hU2 rfl ?_)
    refine wpAny_bind (updateSeq_IsTupOf2 (s := ⟨p2, g, d, tk2, os⟩) hU2 fun g2 hT2 hs2 => ?_)
    replace hT2 : IsTupOf2 g2 TO x1 x2 := hT2
    replace hs2 : Heap.SameBut TO p2 g2 := hs2
    refine wpAny_bind (wpAny_letGo (wpAny_pure (wpAny_pure ?_)))
    refine wpAny_bind (wpAny_seqItems (s := ⟨g2, g, d, tk2, os⟩) hT2 rfl ?_)
    refine wpAny_bind (wpAny_newTuple ?_)
    have hsz : g2.objs.size = hp.objs.size := by rw [hs2.1, hp2.1, hs1.1, hp1.1, hs0.1]
    have hzz : IsZipF g2 z TI TO .ellipsis f0 := (hs2.extBut _ _ S.TOz.symm (hp2.extBut _ _ S.zi2 (hs1.extBut _ _ S.TOz.symm (hp1.extBut _ _ S.zi1 hz0))))
    have hkk : ∀ c o, c ≠ z → c ≠ TO → c ≠ i1 → c ≠ i2 → hp.get? c = some o → g2.get? c = some o := fun c o cz cT c1 c2 e =>
      (hs2.extBut _ _ cT (hp2.extBut _ _ c2 (hs1.extBut _ _ cT (hp1.extBut _ _ c1 (hs0.extBut _ _ cz e)))))
    have hj1 : St1 (i + 1) g2 := (D1.over (D1.over (D1.over sn1 hs1 S.Tf1) hp2 S.sep2_1) hs2 S.Tf1)
    have hj2 : St2 (i + 1) g2 := (D2.over sn2 hs2 S.Tf2)
    have hzlt : z < g2.objs.size := Heap.lt_size hzz
    show wpAny _ _ (Builtin.SmallTypes.ownedTupleHandOut (.ref z) (.ref g2.objs.size) >>= _) _ _ ⟨g2.push { cls := .type "tuple", data := .seq #[x1, x2] }, g, d, tk2, os⟩
    refine wpAny_bind ?_
    unfold Builtin.SmallTypes.ownedTupleHandOut
    have hz₆ : IsZipF (g2.push { cls := .type "tuple", data := .seq #[x1, x2] }) z TI TO .ellipsis f0 := Heap.get?_push_of_some _ hzz
    refine wpAny_bind (wpAny_setField_rec hz₆ (by simp) fun h₇ hz₇ hs₇ => ?_)
    replace hz₇ : IsZipF h₇ z TI TO (rawInt g2.objs.size) f0 := hz₇
    refine wpAny_setField_rec hz₇ (by simp) fun h₈ hz₈ hs₈ => ?_
    replace hz₈ : IsZipF h₈ z TI TO (rawInt g2.objs.size) false := hz₈
    replace hs₇ : Heap.SameBut z (g2.push { cls := .type "tuple", data := .seq #[x1, x2] }) h₇ := hs₇
    replace hs₈ : Heap.SameBut z h₇ h₈ := hs₈
    have up : ∀ c o, c ≠ z → g2.get? c = some o → h₈.get? c = some o := fun c o c1 e => hs₈.extBut _ _ c1 (hs₇.extBut _ _ c1 (Heap.get?_push_of_some _ e))
    have hT₈ : IsTupOf2 h₈ g2.objs.size x1 x2 := hs₈.extBut _ _ (Nat.ne_of_gt hzlt) (hs₇.extBut _ _ (Nat.ne_of_gt hzlt) (Heap.get?_push_size _ rfl))
    have hz8 : h₈.objs.size = g2.objs.size + 1 := by rw [hs₈.1, hs₇.1, Heap.size_push]
    rw [hsz] at hz₈ hT₈ hz8
    refine wpAny_pure ⟨_, rfl, ?_⟩
    show Q (.ref g2.objs.size) ⟨h₈, g, d, tk2, os⟩
    rw [hsz]
    exact hQ x1 x2 h₈ tk2 _ _ hx1 hx2 hz₈ ⟨_, _, up _ _ S.TOz hT2⟩ (D1.frame _ _ _ hj1 fun b hb o e => up b o (fun q => S.zf1 (q ▸ hb)) e) (D2.frame _ _ _ hj2 fun b hb o e => up b o (fun q => S.zf2 (q ▸ hb)) e) hT₈ hz8 fun c o cz cT c1 c2 e => up c o cz (hkk c o cz cT c1 c2 e)
  · replace hs₁ : Heap.SameBut z hp h₁ := hs₁
    simp only [Bool.false_eq_true, if_false]
    refine wpAny_bind ?_
    rw [← Array.forIn_toList]
    simp only [List.forIn_cons, List.forIn_nil]
    refine wpAny_bind (wpAny_bind (wpAny_holding ?_))
    show wpAny _ _ (Builtin.SmallTypes.nextOf (.ref i1) >>= _) _ _ _
    refine wpAny_bind (D1.item i _ _ _ hlt1 (D1.over st1 hs₁ S.zf1) fun x1 p1 tk1 hx1 sn1 hp1 => wpAny_pure ?_)
    replace hp1 : Heap.SameBut i1 h₁ p1 := hp1
    refine wpAny_pure ?_
    refine wpAny_bind (wpAny_bind (wpAny_holding ?_))
    show wpAny _ _ (Builtin.SmallTypes.nextOf (.ref i2) >>= _) _ _ _
    refine wpAny_bind (D2.item i _ _ _ hlt2 (D2.over (D2.over st2 hs₁ S.zf2) hp1 S.sep1_2) fun x2 p2 tk2 hx2 sn2 hp2 => wpAny_pure ?_)
    replace hp2 : Heap.SameBut i2 p1 p2 := hp2
    refine wpAny_pure (wpAny_pure ?_)
    show wpAny _ _ (newTuple [x1, x2] >>= _) _ _ _
    refine wpAny_bind (wpAny_newTuple ?_)
    have hsz : p2.objs.size = hp.objs.size := by rw [hp2.1, hp1.1, hs₁.1]
    have hz₃ : IsZipF p2 z TI TO (rawInt T) true := hp2.extBut _ _ S.zi2 (hp1.extBut _ _ S.zi1 hz₁)
    have hk : ∀ c o, c ≠ z → c ≠ i1 → c ≠ i2 → hp.get? c = some o → p2.get? c = some o := fun c o c1 c2 c3 e => hp2.extBut _ _ c3 (hp1.extBut _ _ c2 (hs₁.extBut _ _ c1 e))
    refine wpAny_pure ⟨_, rfl, ?_⟩
    show Q (.ref p2.objs.size) _
    have hpp : IsTupOf2 (p2.push { cls := .type "tuple", data := .seq #[x1, x2] }) p2.objs.size x1 x2 := Heap.get?_push_size _ rfl
    have hz4 : (p2.push { cls := .type "tuple", data := .seq #[x1, x2] }).objs.size = p2.objs.size + 1 := Heap.size_push ..
    rw [hsz] at hpp hz4 ⊢
    exact hQ x1 x2 _ tk2 T true hx1 hx2 (Heap.get?_push_of_some _ hz₃) ⟨_, _, Heap.get?_push_of_some _ (hk _ _ S.TOz S.Ti1 S.Ti2 hTO)⟩ (D1.frame _ _ _ (D1.over sn1 hp2 S.sep2_1) fun b _ o e => Heap.get?_push_of_some _ e) (D2.frame _ _ _ sn2 fun b _ o e => Heap.get?_push_of_some _ e)
      hpp hz4 fun c o c1 _ c3 c4 e => Heap.get?_push_of_some _ (hk c o c1 c3 c4 e)
theorem zipG_next_end {x0 : Value} {f0 : Bool} {Q : Fin → Shared → Prop} (S : ZipSep2 z TI TO i1 i2 fp1 fp2) (D1 : Draws prog w A i1 fp1 n1 P1 St1) (D2 : Draws prog w A i2 fp2 n2 P2 St2)
    (hz : IsZipF s.heap z TI TO x0 f0) (hx0 : x0 = .none ∨ ∃ T : Addr, x0 = rawInt T) (hTI : IsTupOf2 s.heap TI (.ref i1) (.ref i2)) (hTO : IsTupOf2 s.heap TO a1 a2) (st1 : St1 i s.heap) (st2 : St2 i s.heap) (hend : ¬ i < n1 ∨ ¬ i < n2)
    (hd1 : ¬ i < n1 → ∀ (s' : Shared) (Q' : Value → Shared → Prop) (E' : Value → Shared → Prop), St1 i s'.heap → (∀ h' e, Heap.ExtBut i1 s'.heap h' → (∃ o, h'.get? e = some o ∧ o.cls = .type "StopIteration") → E' (.ref e) { s' with heap := h' }) → wpAny (model prog w) A (Builtin.SmallTypes.nextOf (.ref i1)) Q' E' s')
    (hd2 : ¬ i < n2 → ∀ (s' : Shared) (Q' : Value → Shared → Prop) (E' : Value → Shared → Prop), St2 i s'.heap → (∀ h' e, Heap.ExtBut i2 s'.heap h' → (∃ o, h'.get? e = some o ∧ o.cls = .type "StopIteration") → E' (.ref e) { s' with heap := h' }) → wpAny (model prog w) A (Builtin.SmallTypes.nextOf (.ref i2)) Q' E' s')
    (hE : ∀ h' tk e, (∀ c o, c ≠ z → c ≠ TO → c ≠ i1 → c ≠ i2 → s.heap.get? c = some o → h'.get? c = some o) → (∃ o, h'.get? e = some o ∧ o.cls = .type "StopIteration") → E (.ref e) { s with heap := h', toks := tk }) :
    wpAny (model prog w) A (Builtin.«zip.__next__» ⟨[.ref z], []⟩) Q E s := by
  obtain ⟨hp, g, d, tk0, os⟩ := s
  show wpAny _ _ (field (.ref z) 2 >>= _) _ _ _
  refine wpAny_bind (wpAny_field hz rfl (x := .bool false) rfl ?_)
  show wpAny _ _ (field (.ref z) 3 >>= _) _ _ _
  refine wpAny_bind (wpAny_field hz rfl (x := .ref TI) rfl ?_)
  refine wpAny_bind (wpAny_seqItems hTI rfl ?_)
  show wpAny _ _ (Builtin.SmallTypes.ownedTupleIsFree (.ref z) >>= _) _ _ _
  refine wpAny_bind (freeG hz hx0 ?_ fun h₁ T hz₁ hs₁ => ?_)
  · simp only [if_true]
    refine wpAny_bind (wpAny_rule ?_)
    refine wpAny_bind (wpAny_field hz rfl (x := .ref TO) rfl ?_)
    refine wpAny_bind (wpAny_setField_rec hz (by simp) fun g0 hz0 hs0 => ?_)
    replace hz0 : IsZipF g0 z TI TO .ellipsis f0 := hz0
    replace hs0 : Heap.SameBut z hp g0 := hs0
    refine wpAny_bind ?_
    simp only [List.zipIdx_cons, List.zipIdx_nil, List.forIn_cons, List.forIn_nil]
    refine wpAny_bind (wpAny_bind (wpAny_onRaise ?_))
    show wpAny _ _ (Builtin.SmallTypes.nextOf (.ref i1) >>= _) _ _ ⟨g0, g, d, tk0, os⟩
    by_cases hlt1 : i < n1
    · refine wpAny_bind (D1.item i _ _ _ hlt1 (D1.over st1 hs0 S.zf1) fun x1 p1 tk1 hx1 sn1 hp1 => wpAny_pure ?_)
      replace hp1 : Heap.SameBut i1 g0 p1 := hp1
      have hU1 : IsTupOf2 p1 TO a1 a2 := hp1.extBut _ _ S.Ti1 (hs0.extBut _ _ S.TOz hTO)
      refine wpAny_bind (wpAny_seqItems (s := ⟨p1, g, d, tk1, os⟩) hU1 rfl ?_)
      refine wpAny_bind (updateSeq_IsTupOf2 (s := ⟨p1, g, d, tk1, os⟩) hU1 fun g1 hT1 hs1 => ?_)
      replace hT1 : IsTupOf2 g1 TO x1 a2 := hT1
      replace hs1 : Heap.SameBut TO p1 g1 := hs1
      refine wpAny_bind (wpAny_letGo (wpAny_pure ?_))
      have hi2 : ¬ i < n2 := by omega
      refine wpAny_bind (wpAny_bind (wpAny_onRaise ?_))
      show wpAny _ _ (Builtin.SmallTypes.nextOf (.ref i2) >>= _) _ _ ⟨g1, g, d, tk1, os⟩
      refine wpAny_bind (hd2 hi2 ⟨g1, g, d, tk1, os⟩ _ _ (D2.over (D2.over (D2.over st2 hs0 S.zf2) hp1 S.sep1_2) hs1 S.Tf2) fun q e hq he => ?_)
      replace hq : Heap.ExtBut i2 g1 q := hq
      obtain ⟨oe, hoe, hce⟩ := he
      replace hoe : q.get? e = some oe := hoe
      have hzq : IsZipF q z TI TO .ellipsis f0 := hq _ _ S.zi2 (hs1.extBut _ _ S.TOz.symm (hp1.extBut _ _ S.zi1 hz0))
      have hez : e ≠ z := fun x => by subst x; rw [hzq] at hoe; cases hoe; simp at hce
      refine wpAny_setField_rec (s := ⟨q, g, d, tk1, os⟩) hzq (by simp) fun q' _ hq' => ?_
      replace hq' : Heap.SameBut z q q' := hq'
      exact hE q' tk1 e (fun c o cz cT c1 c2 x => hq'.extBut _ _ cz (hq _ _ c2 (hs1.extBut _ _ cT (hp1.extBut _ _ c1 (hs0.extBut _ _ cz x))))) ⟨oe, hq'.extBut _ _ hez hoe, hce⟩
    · have hi1 : ¬ i < n1 := hlt1
      refine wpAny_bind (hd1 hi1 ⟨g0, g, d, tk0, os⟩ _ _ (D1.over st1 hs0 S.zf1) fun q e hq he => ?_)
      replace hq : Heap.ExtBut i1 g0 q := hq
      obtain ⟨oe, hoe, hce⟩ := he
      replace hoe : q.get? e = some oe := hoe
      have hzq : IsZipF q z TI TO .ellipsis f0 := hq _ _ S.zi1 hz0
      have hez : e ≠ z := fun x => by subst x; rw [hzq] at hoe; cases hoe; simp at hce
      refine wpAny_setField_rec (s := ⟨q, g, d, tk0, os⟩) hzq (by simp) fun q' _ hq' => ?_
      replace hq' : Heap.SameBut z q q' := hq'
      exact hE q' tk0 e (fun c o cz cT c1 c2 x => hq'.extBut _ _ cz (hq _ _ c1 (hs0.extBut _ _ cz x))) ⟨oe, hq'.extBut _ _ hez hoe, hce⟩
  · replace hs₁ : Heap.SameBut z hp h₁ := hs₁
    simp only [Bool.false_eq_true, if_false]
    refine wpAny_bind ?_
    rw [← Array.forIn_toList]
    simp only [List.forIn_cons, List.forIn_nil]
    refine wpAny_bind (wpAny_bind (wpAny_holding ?_))
    show wpAny _ _ (Builtin.SmallTypes.nextOf (.ref i1) >>= _) _ _ _
    by_cases hlt1 : i < n1
    · refine wpAny_bind (D1.item i _ _ _ hlt1 (D1.over st1 hs₁ S.zf1) fun x1 p1 tk1 hx1 sn1 hp1 => wpAny_pure ?_)
      replace hp1 : Heap.SameBut i1 h₁ p1 := hp1
      refine wpAny_pure ?_
      have hi2 : ¬ i < n2 := by omega
      refine wpAny_bind (wpAny_bind (wpAny_holding ?_))
      show wpAny _ _ (Builtin.SmallTypes.nextOf (.ref i2) >>= _) _ _ _
      refine wpAny_bind (hd2 hi2 ⟨p1, g, d, tk1, os⟩ _ _ (D2.over (D2.over st2 hs₁ S.zf2) hp1 S.sep1_2) fun q e hq he => ?_)
      exact hE q tk1 e (fun c o cz cT c1 c2 x => hq _ _ c2 (hp1.extBut _ _ c1 (hs₁.extBut _ _ cz x))) he
    · have hi1 : ¬ i < n1 := hlt1
      refine wpAny_bind (hd1 hi1 ⟨h₁, g, d, tk0, os⟩ _ _ (D1.over st1 hs₁ S.zf1) fun q e hq he => ?_)
      exact hE q tk0 e (fun c o cz cT c1 c2 x => hq _ _ c1 (hs₁.extBut _ _ cz x)) he
/-- enumerate, over whatever next gives -/
theorem enumG_next_item {e it : Addr} {c : Int} {old : Value} {Post : Value → Heap → Nat → Prop} {Q : Value → Shared → Prop} (he : IsEnum s.heap e it c old)
    (hn : ∀ (Q' : Value → Shared → Prop), (∀ x h1 tk, Post x h1 tk → Q' x { s with heap := h1, toks := tk }) → wpAny (model prog w) A (Builtin.SmallTypes.nextOf (.ref it)) Q' E s) (hp : ∀ x h1 tk, Post x h1 tk → IsEnum h1 e it c old)
    (hQ : ∀ x h1 tk h', Post x h1 tk → IsEnumOut h' e it (c + 1) x h1.objs.size → h'.get? h1.objs.size = some { cls := .type "tuple", data := .seq #[.int c tk, x] } → h'.objs.size = h1.objs.size + 1 →
      (∀ b o, b ≠ e → h1.get? b = some o → h'.get? b = some o) → Q (.ref h1.objs.size) { s with heap := h', toks := tk + 1 }) :
    wpAny (model prog w) A (Builtin.«enumerate.__next__» ⟨[.ref e], []⟩) (fun fin s' => ∃ v, fin = .done (.ret v) ∧ Q v s') E s := by
  obtain ⟨hp0, g, d, tk₀, os⟩ := s
  show wpAny _ _ (field (.ref e) 2 >>= _) _ _ _
  refine wpAny_bind (wpAny_field he rfl (x := .ref it) rfl ?_)
  refine wpAny_bind (hn _ fun x h₁ tk hP => ?_)
  have he₁ : IsEnum h₁ e it c old := hp x h₁ tk hP
  show wpAny _ _ (field (.ref e) 3 >>= _) _ _ ⟨h₁, g, d, tk, os⟩
  refine wpAny_bind (wpAny_field he₁ rfl (x := rawInt c) rfl ?_)
  show wpAny _ _ (field (.ref e) 4 >>= _) _ _ ⟨h₁, g, d, tk, os⟩
  refine wpAny_bind (wpAny_field he₁ rfl (x := .none) rfl ?_)
  show wpAny _ _ (mkInt c >>= _) _ _ ⟨h₁, g, d, tk, os⟩
  refine wpAny_bind (wpAny_mkInt ?_)
  show wpAny _ _ (setField (.ref e) 3 (rawInt (c + 1)) >>= _) _ _ ⟨h₁, g, d, tk + 1, os⟩
  refine wpAny_bind (wpAny_setField_rec he₁ (by simp) fun h₂ he₂ hs₂ => ?_)
  replace hs₂ : Heap.SameBut e h₁ h₂ := hs₂
  replace he₂ : IsEnum h₂ e it (c + 1) old := he₂
  show wpAny _ _ (setField (.ref e) 4 .none >>= _) _ _ ⟨h₂, g, d, tk + 1, os⟩
  refine wpAny_bind (wpAny_setField_rec he₂ (by simp) fun h₃ he₃ hs₃ => ?_)
  replace hs₃ : Heap.SameBut e h₂ h₃ := hs₃
  replace he₃ : IsEnum h₃ e it (c + 1) old := he₃
  show wpAny _ _ (newTuple [.int c tk, x] >>= _) _ _ ⟨h₃, g, d, tk + 1, os⟩
  refine wpAny_bind (wpAny_newTuple ?_)
  have he₄ : IsEnum (h₃.push { cls := .type "tuple", data := .seq #[.int c tk, x] }) e it (c + 1) old := Heap.get?_push_of_some _ he₃
  generalize hh₄ : h₃.push { cls := .type "tuple", data := .seq #[.int c tk, x] } = h₄ at he₄
  have hsz : h₃.objs.size = h₁.objs.size := by rw [hs₃.1, hs₂.1]
  have hel : e < h₁.objs.size := Heap.lt_size he₁
  have ht₄ : h₄.get? h₁.objs.size = some { cls := .type "tuple", data := .seq #[.int c tk, x] } := by rw [← hh₄, ← hsz]; exact Heap.get?_push_size _ rfl
  have hz₄ : h₄.objs.size = h₁.objs.size + 1 := by rw [← hh₄, Heap.size_push, hsz]
  have hk₄ : ∀ b o, b ≠ e → h₁.get? b = some o → h₄.get? b = some o := fun b o hbe hb => by
    rw [← hh₄]; exact Heap.get?_push_of_some _ (hs₃.extBut b o hbe (hs₂.extBut b o hbe hb))
  show wpAny _ _ (Builtin.SmallTypes.ownedTupleIsFree (.ref e) >>= _) _ _ ⟨h₄, g, d, tk + 1, os⟩
  rw [hsz]
  clear hh₄ he₃ hs₃ he₂ hs₂ hsz h₃ h₂
  refine wpAny_bind ?_
  unfold Builtin.SmallTypes.ownedTupleIsFree
  refine wpAny_bind (wpAny_field he₄ rfl (x := .none) rfl (wpAny_pure ?_))
  simp only [if_true]
  refine wpAny_bind (wpAny_rule ?_)
  refine wpAny_bind (wpAny_field he₄ rfl (x := old) rfl ?_)
  refine wpAny_bind (wpAny_setField_rec he₄ (by simp) fun h₅ he₅ hs₅ => ?_)
  replace hs₅ : Heap.SameBut e h₄ h₅ := hs₅
  replace he₅ : IsEnum h₅ e it (c + 1) x := he₅
  show wpAny _ _ (Builtin.SmallTypes.ownedTupleHandOut (.ref e) (.ref h₁.objs.size) >>= _) _ _ ⟨h₅, g, d, tk + 1, os⟩
  refine wpAny_bind ?_
  unfold Builtin.SmallTypes.ownedTupleHandOut
  refine wpAny_bind (wpAny_setField_rec he₅ (by simp) fun h₆ he₆ hs₆ => ?_)
  replace hs₆ : Heap.SameBut e h₅ h₆ := hs₆
  replace he₆ : IsEnumOut h₆ e it (c + 1) x h₁.objs.size := he₆
  refine wpAny_setField_rec he₆ (by simp) fun h₇ he₇ hs₇ => ?_
  replace hs₇ : Heap.SameBut e h₆ h₇ := hs₇
  replace he₇ : IsEnumOut h₇ e it (c + 1) x h₁.objs.size := he₇
  refine wpAny_bind (wpAny_letGo (wpAny_pure ⟨_, rfl, hQ x h₁ tk h₇ hP he₇ ?_ ?_ ?_⟩))
  · exact hs₇.extBut _ _ (Nat.ne_of_gt hel) (hs₆.extBut _ _ (Nat.ne_of_gt hel) (hs₅.extBut _ _ (Nat.ne_of_gt hel) ht₄))
  · rw [hs₇.1, hs₆.1, hs₅.1, hz₄]
  · exact fun b o hbe hb => hs₇.extBut b o hbe (hs₆.extBut b o hbe (hs₅.extBut b o hbe (hk₄ b o hbe hb)))
end
end W3

set_option Elab.async false
set_option linter.all false
set_option maxRecDepth 100000
set_option maxHeartbeats 4000000
/-! W3s: enumerate(zip(a, b)): the turn. -/
namespace W3
open PySem PySem.Spec L2

def ItEz (K : PySem.W.Frag) (a b : Addr) : It :=
  ⟨fun i H => ∃ (xs ys : List V) (x y : V), SqT K H a xs ∧ SqT K H b ys ∧ xs[i]? = some x ∧ ys[i]? = some y,
    fun i H v H' => ∃ T U x y, v = .ref U ∧ H T = none ∧ upd H T (.tup [x, y]) U = none ∧ H' = upd (upd H T (.tup [x, y])) U (.tup [.int (i : Nat), .ref T]) ∧ (∀ xs, SqT K H a xs → xs[i]? = some x) ∧ ∀ ys, SqT K H b ys → ys[i]? = some y,
    fun i H => ∃ xs ys : List V, SqT K H a xs ∧ SqT K H b ys ∧ (xs.length ≤ i ∨ ys.length ≤ i)⟩
structure EzApart (e z TI TO i1 i2 a b : Addr) : Prop where
  ez : e ≠ z
  eTI : e ≠ TI
  eTO : e ≠ TO
  e1 : e ≠ i1
  e2 : e ≠ i2
theorem sep_of {z TI TO i1 i2 a b : Addr} (D : ZipApart z TI TO i1 i2 a b) : ZipSep2 z TI TO i1 i2 [i1, a] [i2, b] where
  TIz := D.TIz
  TOz := D.TOz
  TITO := D.TITO
  TIi1 := D.TIi1
  mem1 := by simp
  zf1 := by simp [D.i1z.symm, D.l1z.symm]
  Tf1 := by simp [D.TOi1, D.l1TO.symm]
  TIi2 := D.TIi2
  mem2 := by simp
  zf2 := by simp [D.i2z.symm, D.l2z.symm]
  Tf2 := by simp [D.TOi2, D.l2TO.symm]
  sep1_2 := by simp [D.i12, D.l2i1.symm]
  sep2_1 := by simp [D.i12.symm, D.l1i2.symm]
def EzSt (e z TI TO i1 i2 a b : Addr) (i : Nat) (h : Heap) : Prop :=
  (∃ old, IsEnum h e z ((i : Nat) : Int) old) ∧ (∃ (x0 : Value) (f0 : Bool), IsZipF h z TI TO x0 f0 ∧ (x0 = .none ∨ ∃ T : Addr, x0 = rawInt T)) ∧ IsPair h TI (.ref i1) (.ref i2) ∧ (∃ x y, IsPair h TO x y) ∧ h.IsTupleIter i1 a i ∧ h.IsTupleIter i2 b i
section
variable {prog : Program} {w : World} {A : Around} {E : Value → Shared → Prop} {s : Shared}
theorem nextOf_zip {z TI TO : Addr} {x0 : Value} {f0 : Bool} {Q : Value → Shared → Prop} (hz : IsZipF s.heap z TI TO x0 f0)
    (h : wpAny (model prog w) A.in1 (Builtin.«zip.__next__» ⟨[.ref z], []⟩) (fun fin s' => ∃ v, fin = .done (.ret v) ∧ Q v s') E s) : wpAny (model prog w) A (Builtin.SmallTypes.nextOf (.ref z)) Q E s := by
  have hT : s.TypeIs (.ref z) "zip" := ⟨_, hz, rfl⟩
  unfold Builtin.SmallTypes.nextOf
  refine wpAny_bind (wpAny_callSpecial?_slot (name := Str.ofString "__next__") hT F.slot_zip_next
    (wpAny_call_entry F.slot_zip_next hT F.entry_zip_next ?_ (F.args_zip_next_1 _)))
  refine thn h fun fin s' q => ?_
  obtain ⟨v, e, q⟩ := q
  exact ⟨v, e, wpAny_pure q⟩
end
theorem turn_ez {P : Program} {w : World} {K : PySem.W.Frag} {elts : List Expr} {kk : Nat} {tpos : Pos} {a b e z TI TO i1 i2 : Addr} (D : ZipApart z TI TO i1 i2 a b) (N : EzApart e z TI TO i1 i2 a b) :
    Turn P w K (.Tuple elts kk tpos) (ItEz K a b) [e, z, TI, TO, i1, i2] e (EzSt e z TI TO i1 i2 a b) where
  mem := by simp
  obj := fun i h st c hc => by
    obtain ⟨⟨old, he⟩, ⟨x0, f0, hz, _⟩, hTI, ⟨x, y, hTO⟩, ⟨o1, e1, _, d1⟩, ⟨o2, e2, _, d2⟩⟩ := st
    have e' : c = e ∨ c = z ∨ c = TI ∨ c = TO ∨ c = i1 ∨ c = i2 := by simpa using hc
    rcases e' with q | q | q | q | q | q
    · rw [q]; exact ⟨_, he, fun v q => nomatch q⟩
    · rw [q]; exact ⟨_, hz, fun v q => nomatch q⟩
    · rw [q]; exact ⟨_, hTI, fun v q => nomatch q⟩
    · rw [q]; exact ⟨_, hTO, fun v q => nomatch q⟩
    · rw [q]; exact ⟨o1, e1, fun v q => by rw [d1] at q; cases q⟩
    · rw [q]; exact ⟨o2, e2, fun v q => by rw [d2] at q; cases q⟩
  keep := fun i h h' st k => by
    obtain ⟨⟨old, he⟩, ⟨x0, f0, hz, hx0⟩, hTI, ⟨x, y, hTO⟩, h1, h2⟩ := st
    exact ⟨⟨old, k e (by simp) _ he⟩, ⟨x0, f0, k z (by simp) _ hz, hx0⟩, k TI (by simp) _ hTI, ⟨x, y, k TO (by simp) _ hTO⟩, h1.at fun o q => k i1 (by simp) o q, h2.at fun o q => k i2 (by simp) o q⟩
  item := by
    intro X hP hw hK hc i pins s σ H E I hf st hg
    subst hP hw hK
    obtain ⟨⟨old, he⟩, ⟨x0, f0, hz, hx0⟩, hTI, ⟨x', y', hTO⟩, h1, h2⟩ := st
    obtain ⟨xs, ys, x, y, hqx, hqy, hx, hy⟩ := hg
    obtain ⟨its, rv, p, _⟩ := I.tuple hqx
    obtain ⟨its2, rv2, p2, _⟩ := I.tuple hqy
    obtain ⟨u, hu, ru⟩ := rv.get hx
    obtain ⟨u2, hu2, ru2⟩ := rv2.get hy
    have hlt1 : i < its.toArray.size := by
      have := (List.getElem?_eq_some_iff.mp hu).1
      simpa using this
    have hlt2 : i < its2.toArray.size := by
      have := (List.getElem?_eq_some_iff.mp hu2).1
      simpa using this
    have hel : e < s.heap.objs.size := Heap.lt_size he
    have S := sep_of D
    have lt : ∀ c ∈ [e, z, TI, TO, i1, i2], c < s.heap.objs.size := fun c hcm => by
      have e' : c = e ∨ c = z ∨ c = TI ∨ c = TO ∨ c = i1 ∨ c = i2 := by simpa using hcm
      rcases e' with q | q | q | q | q | q
      · rw [q]; exact hel
      · rw [q]; exact Heap.lt_size hz
      · rw [q]; exact Heap.lt_size hTI
      · rw [q]; exact Heap.lt_size hTO
      · rw [q]; obtain ⟨_, e1, _⟩ := h1; exact Heap.lt_size e1
      · rw [q]; obtain ⟨_, e2, _⟩ := h2; exact Heap.lt_size e2
    have hT : s.TypeIs (.ref e) "enumerate" := ⟨_, he, rfl⟩
    unfold pyNext
    refine wpAny_bind (wpAny_attempt (wpAny_callSpecial?_slot (name := Str.ofString "__next__") hT F.slot_enumerate_next
      (wpAny_call_entry F.slot_enumerate_next hT F.entry_enumerate_next ?_ (F.args_enumerate_next_1 _))))
    refine enumG_next_item (Post := fun v h1' tk => v = .ref s.heap.objs.size ∧ (∃ (T : Addr) (f' : Bool), IsZipF h1' z TI TO (rawInt T) f') ∧ (∃ b1 b2, IsPair h1' TO b1 b2) ∧ h1'.IsTupleIter i1 a (i + 1) ∧ h1'.IsTupleIter i2 b (i + 1) ∧
      IsPair h1' s.heap.objs.size u u2 ∧ h1'.objs.size = s.heap.objs.size + 1 ∧ (∀ c o, c ≠ z → c ≠ TO → c ≠ i1 → c ≠ i2 → s.heap.get? c = some o → h1'.get? c = some o)) he (fun Q' q => ?_) (fun x h1' tk q => q.2.2.2.2.2.2.2 _ _ N.ez N.eTO N.e1 N.e2 he) ?_
    · refine nextOf_zip hz (zipG_next_item S (Draws.tuple (A := X.A.in1.in1) (I.ok.hd hc) i1 a D.l1i1 its.toArray) (Draws.tuple (A := X.A.in1.in1) (I.ok.hd hc) i2 b D.l2i2 its2.toArray) hz hx0 hTI hTO ⟨h1, p⟩ ⟨h2, p2⟩ hlt1 hlt2 fun x1 x2 h' tk T f' q1 q2 q3 q4 q5 q6 q7 q8 q9 => ?_)
      have e1 : x1 = u := by
        have z1 : its.toArray[i]? = some u := by simpa using hu
        exact Option.some.inj (q1.symm.trans z1)
      have e2 : x2 = u2 := by
        have z1 : its2.toArray[i]? = some u2 := by simpa using hu2
        exact Option.some.inj (q2.symm.trans z1)
      subst e1 e2
      exact q _ _ _ ⟨rfl, ⟨T, f', q3⟩, q4, q5.1, q6.1, q7, q8, q9⟩
    · rintro _ h1' tk h' ⟨rfl, ⟨T, f', q3⟩, ⟨b1, b2, q4⟩, q5, q6, q7, q8, q9⟩ ho hU hsz hk
      refine wpAny_pure ⟨_, rfl, wpAny_letOwnedTupleGo_enum (s := { s with heap := h', toks := tk + 1 }) ho fun h'' he' sb => ?_⟩
      have newT : ObjOk X.prog X.w (upd H s.heap.objs.size (.tup [x, y])) h1' s.heap.objs.size (.tup [x, y]) :=
        ⟨by show 2 ≤ sizeLine; decide, [u, u2], .cons ru (.cons ru2 .nil), ⟨_, q7, rfl, _, rfl⟩⟩
      have I1 : Inv X pins σ (upd H s.heap.objs.size (.tup [x, y])) { s with heap := h1', toks := tk } :=
        I.turnedNew (t' := tk) (ch := [e, z, TI, TO, i1, i2]) (fun c o hb q => q9 c o (fun q' => hb (by simp [q'])) (fun q' => hb (by simp [q'])) (fun q' => hb (by simp [q'])) (fun q' => hb (by simp [q'])) q) hf (Nat.le_refl _) newT
      have hel1 : e < h1'.objs.size := by rw [q8]; exact Nat.lt_succ_of_lt hel
      have hk2 : ∀ b o, b ≠ e → h1'.get? b = some o → h''.get? b = some o := fun b o n q => (sb.2 b n).trans (hk b o n q)
      have hf1 : ∀ b ∈ [e, z, TI, TO, i1, i2], FpOk X pins (upd H s.heap.objs.size (.tup [x, y])) b := fun c hcm => by
        refine ⟨?_, (hf c hcm).2⟩
        rw [upd_ne (Nat.ne_of_lt (lt c hcm))]
        exact (hf c hcm).1
      have hU2 : h''.get? h1'.objs.size = some { cls := .type "tuple", data := .seq #[.int (i : Nat) tk, .ref s.heap.objs.size] } := (sb.2 _ (Nat.ne_of_gt hel1)).trans hU
      have newU : ObjOk X.prog X.w (upd (upd H s.heap.objs.size (.tup [x, y])) h1'.objs.size (.tup [.int (i : Nat), .ref s.heap.objs.size])) h'' h1'.objs.size (.tup [.int (i : Nat), .ref s.heap.objs.size]) :=
        ⟨by show 2 ≤ sizeLine; decide, [.int (i : Nat) tk, .ref s.heap.objs.size], .cons ⟨_, rfl⟩ (.cons rfl .nil), ⟨_, hU2, rfl, _, rfl⟩⟩
      have I2 : Inv X pins σ (upd (upd H s.heap.objs.size (.tup [x, y])) h1'.objs.size (.tup [.int (i : Nat), .ref s.heap.objs.size])) { s with heap := h'', toks := tk + 1 } :=
        I1.turnedNew (t' := tk + 1) (ch := [e, z, TI, TO, i1, i2]) (fun c o hb q => hk2 c o (fun q' => hb (by simp [q'])) q) hf1 (Nat.le_refl _) newU
      refine ⟨.ref h1'.objs.size, _, I2, rfl, ⟨s.heap.objs.size, h1'.objs.size, x, y, rfl, I.hok.fresh (Nat.le_refl _), I1.hok.fresh (Nat.le_refl _), rfl, fun l hl => by rw [I.tuple_inj hl hqx]; exact hx, fun l hl => by rw [I.tuple_inj hl hqy]; exact hy⟩, ⟨⟨.ref s.heap.objs.size, ?_⟩, ⟨_, f', hk2 _ _ N.ez.symm q3, .inr ⟨T, rfl⟩⟩, ?_, ⟨b1, b2, hk2 _ _ N.eTO.symm q4⟩, q5.at fun o q => hk2 _ o N.e1.symm q, q6.at fun o q => hk2 _ o N.e2.symm q⟩, fun c hcm => ?_⟩
      · have e1 : ((i + 1 : Nat) : Int) = (i : Int) + 1 := by omega
        rw [e1]; exact he'
      · exact hk2 _ _ N.eTI.symm (q9 _ _ D.TIz D.TITO D.TIi1 D.TIi2 hTI)
      · rw [upd_ne (Nat.ne_of_lt (by rw [q8]; exact Nat.lt_succ_of_lt (lt c hcm)))]
        exact (hf1 c hcm).1
  done := by
    intro X hP hw hK hc i pins s σ H E I hf st hg
    subst hP hw hK
    obtain ⟨⟨old, he⟩, ⟨x0, f0, hz, hx0⟩, hTI, ⟨x', y', hTO⟩, h1, h2⟩ := st
    obtain ⟨xs, ys, hqx, hqy, hend⟩ := hg
    obtain ⟨its, rv, p, _⟩ := I.tuple hqx
    obtain ⟨its2, rv2, p2, _⟩ := I.tuple hqy
    have l1 := rv.length
    have l2 := rv2.length
    have S := sep_of D
    have hT : s.TypeIs (.ref e) "enumerate" := ⟨_, he, rfl⟩
    unfold pyNext
    refine wpAny_bind (wpAny_attempt (wpAny_callSpecial?_slot (name := Str.ofString "__next__") hT F.slot_enumerate_next
      (wpAny_call_entry F.slot_enumerate_next hT F.entry_enumerate_next ?_ (F.args_enumerate_next_1 _))))
    show wpAny _ _ (field (.ref e) 2 >>= _) _ _ _
    refine wpAny_bind (wpAny_field he rfl (x := .ref z) rfl ?_)
    refine wpAny_bind (nextOf_zip hz (zipG_next_end S (Draws.tuple (A := X.A.in1.in1) (I.ok.hd hc) i1 a D.l1i1 its.toArray) (Draws.tuple (A := X.A.in1.in1) (I.ok.hd hc) i2 b D.l2i2 its2.toArray) hz hx0 hTI hTO ⟨h1, p⟩ ⟨h2, p2⟩ (by
      rcases hend with q | q
      · exact .inl (by rw [List.size_toArray]; omega)
      · exact .inr (by rw [List.size_toArray]; omega))
      (fun n s' Q' E' st h => RZ.nextOf_tuple_end (I.ok.hd hc) st.1 st.2 (Array.getElem?_eq_none (Nat.not_lt.mp n)) h) (fun n s' Q' E' st h => RZ.nextOf_tuple_end (I.ok.hd hc) st.1 st.2 (Array.getElem?_eq_none (Nat.not_lt.mp n)) h) fun h' tk x hk he' => ?_))
    obtain ⟨o, ho, hcl⟩ := he'
    refine wpAny_bind (wpAny_isInstance (T := "StopIteration") (b := true) ⟨o, ho, hcl⟩ isSubtype_stop ?_)
    exact wpAny_pure ⟨rfl, I.turnedL (t' := tk) (ch := [e, z, TI, TO, i1, i2]) (fun c o hb q =>
      hk c o (fun q' => hb (by simp [q'])) (fun q' => hb (by simp [q'])) (fun q' => hb (by simp [q'])) (fun q' => hb (by simp [q'])) q) hf⟩
  self := fun A i s Q E st h => let ⟨⟨_, he⟩, _⟩ := st; wpAny_pyIter_enum he h
end W3

set_option Elab.async false
set_option linter.all false
set_option maxRecDepth 100000
set_option maxHeartbeats 4000000
/-! W3t: enumerate(zip(a, b)): how it begins. -/
namespace W3
open PySem PySem.Spec L2

theorem meets_enumS {z TI TO : Addr} {f0 : Value} :
    Meets (Builtin.«enumerate.__new__» ⟨[.type "enumerate", .ref z], []⟩) (fun _ R s => IsZip s.heap z TI TO f0 ∧
      R (.ok (.ret (.ref s.heap.objs.size))) { s with heap := s.heap.push { cls := .type "enumerate", data := .fields #[.none, .bool false, .ref z, rawInt 0, .none, .none] } }) :=
  .of_wp fun prog w A R s h => by
    obtain ⟨hp, g, d, tk, os⟩ := s; obtain ⟨h1, h⟩ := h
    have hsub := sub_enumerate
    have q1 : ∀ {A' : Around} {E : Value → Shared → Prop} {Q : Value → Shared → Prop}, Q (.ref z) ⟨hp, g, d, tk, os⟩ → wpAny (model prog w) A' (pyIter (.ref z)) Q E ⟨hp, g, d, tk, os⟩ :=
      fun q => wpAny_pyIter_zip (s := ⟨hp, g, d, tk, os⟩) h1 q
    wp_walk using q1
    refine wpAny_stack_any fun st => wpAny_pure ?_
    split
    · rename_i c _ _ _ _ _
      cases (c == Value.type "enumerate")
      · wp_walk using q1
        exact ⟨_, rfl, h⟩
      · wp_walk using q1
        exact ⟨_, rfl, h⟩
    · wp_walk using q1
      exact ⟨_, rfl, h⟩
theorem enumS_begins {prog : Program} {w : World} {A : Around} {E : Value → Shared → Prop} {s : Shared} {z TI TO : Addr} {f0 : Value} {Q : Value → Shared → Prop} (h1 : IsZip s.heap z TI TO f0)
    (h : ∀ h', IsEnum h' s.heap.objs.size z 0 .none → h'.objs.size = s.heap.objs.size + 1 → (∀ b o, s.heap.get? b = some o → h'.get? b = some o) → Q (.ref s.heap.objs.size) { s with heap := h' }) :
    wpAny (model prog w) A (call (.type "enumerate") [.ref z]) Q E s := by
  refine callType_new F.called_enumerate (by decide) (F.typeCall_enumerate_1 _) (F.newCall_enumerate_1 _) (fun obj => F.args_object_init_2 obj _) F.entry_enumerate_new
    (meets_enumS (TI := TI) (TO := TO) (f0 := f0)) ⟨h1, ?_⟩
  have he : IsEnum (s.heap.push { cls := .type "enumerate", data := .fields #[.none, .bool false, .ref z, rawInt 0, .none, .none] }) s.heap.objs.size z 0 .none := Heap.get?_push_size _ rfl
  exact ⟨⟨_, he, rfl⟩, h _ he (Heap.size_push ..) fun b o x => Heap.get?_push_of_some _ x⟩
def iEzA (K : PySem.W.Frag) (ta : TA) : TI := fun σ H R => ta σ H fun vs H1 => ∃ a b xs ys, vs = [.ref a, .ref b] ∧ SqT K H1 a xs ∧ SqT K H1 b ys ∧ R (ItEz K a b) H1
theorem pi_ez {X : Cx} {e e2 : Expr} {ta : TA} {p p2 pos pos2 tpos : Pos} {elts : List Expr} {kk : Nat} (hg : Gl X "enumerate") (hm : X.mg "enumerate" = none) (hg2 : Gl X "zip") (hm2 : X.mg "zip" = none) (ha : PA X [e, e2] ta)
    (hs : starEach [e, e2] X.env = (false, eval e X.env) :: starEach [e2] X.env := by rfl) (hpl : (backTo pos2 (starEach [e2] X.env)).any (·.1) = false := by rfl)
    (hs1 : starEach [.Call (.Name "zip" p2) [e, e2] [] pos2] X.env = (false, eval (.Call (.Name "zip" p2) [e, e2] [] pos2) X.env) :: starEach [] X.env := by rfl) :
    PI X (.Tuple elts kk tpos) (.Call (.Name "enumerate" p) [.Call (.Name "zip" p2) [e, e2] [] pos2] [] pos) (iEzA X.K ta) := by
  refine ⟨fun pins s σ H R I h => ?_⟩
  refine PyProof.Rows.Call_ (ld_blt I hg hm PyProof.Rows.boot_enumerate (PyProof.Rows.callWith_type1 (PyProof.Rows.args_cons ?_ hs1) hs1 rfl))
  refine PyProof.Rows.Call_ (ld_blt I hg2 hm2 PyProof.Rows.boot_zip (PyProof.Rows.callWith_type1 (thn (ha.run pos2 pins s σ H _ I h) fun us s1 ⟨vs, H1, I1, r1, q1⟩ => ?_) hs hpl))
  obtain ⟨a, b, xs, ys, ex, hqx, hqy, q⟩ := q1
  subst ex
  cases r1 with
  | cons r rr =>
    cases rr with
    | cons r' rr =>
      cases rr
      cases r
      cases r'
      obtain ⟨its, rv, p1, _⟩ := I1.tuple hqx
      obtain ⟨its2, rv2, p2, _⟩ := I1.tuple hqy
      obtain ⟨o1, ho1, _⟩ := id p1
      obtain ⟨o2, ho2, _⟩ := id p2
      refine RZ.call_zipT (show s1.heap.IsTuple a its.toArray from p1) (show s1.heap.IsTuple b its2.toArray from p2) fun h' hz hTI hTO h1 h2 hsz hk => ?_
      refine PyProof.Rows.args_nil (enumS_begins (s := { s1 with heap := h' }) hz fun h'' he hsz2 hk2 => wpAny_pyIter_enum he ?_)
      have I2 : Inv X pins σ H1 { s1 with heap := h' } := I1.kept (t' := s1.toks) hk
      have I3 : Inv X pins σ H1 { s1 with heap := h'' } := I1.kept (t' := s1.toks) fun b o z => hk2 b o (hk b o z)
      have D := PySem.W.ktu_apart s1.heap.objs.size a b (Heap.lt_size ho1) (Heap.lt_size ho2)
      have N : EzApart h'.objs.size (s1.heap.objs.size + 4) (s1.heap.objs.size + 2) (s1.heap.objs.size + 3) s1.heap.objs.size (s1.heap.objs.size + 1) a b := by
        rw [hsz]
        constructor <;> (intro z; have z' : (s1.heap.objs.size + 5 : Nat) = _ := z; omega)
      refine ⟨h'.objs.size, [h'.objs.size, s1.heap.objs.size + 4, s1.heap.objs.size + 2, s1.heap.objs.size + 3, s1.heap.objs.size, s1.heap.objs.size + 1], _, _, H1, rfl, I3, turn_ez D N, ⟨⟨.none, he⟩, ⟨_, _, hk2 _ _ hz, .inl rfl⟩, hk2 _ _ hTI, ⟨_, _, hk2 _ _ hTO⟩, h1.at fun o q => hk2 _ o q, h2.at fun o q => hk2 _ o q⟩, fun c hcm => ?_, q⟩
      have e' : c = h'.objs.size ∨ c = s1.heap.objs.size + 4 ∨ c = s1.heap.objs.size + 2 ∨ c = s1.heap.objs.size + 3 ∨ c = s1.heap.objs.size ∨ c = s1.heap.objs.size + 1 := by simpa using hcm
      have hle : s1.heap.objs.size ≤ c := by
        rw [hsz] at e'
        rcases e' with z | z | z | z | z | z <;> (rw [z]; first | exact Nat.le_refl _ | exact Nat.le_add_right _ _)
      exact I1.fpOk hle (I1.hok.fresh hle)
section
variable {g : G} {S : Addr → Prop} {H : Hp}
theorem yields_ez {a b : Addr} {xs ys : List V} {ds es : List D} (k : SOk g S H) (ea : SqT g.K H a xs) (eb : SqT g.K H b ys) (ra : DqAll g S H xs ds) (rb : DqAll g S H ys es) : Yields g S (ItEz g.K a b) (enumL (zipL ds es)) H := fun S2 h2 i H1 p => by
  have e1 : SqT g.K H1 a xs := p.seqT (k.mu2 h2) ea
  have e2 : SqT g.K H1 b ys := p.seqT (k.mu2 h2) eb
  have r1 := (ra.av h2).pres (k.mu2 h2) p
  have r2 := (rb.av h2).pres (k.mu2 h2) p
  have l1 := ra.length
  have l2 := rb.length
  refine ⟨fun d hd => ?_, fun hd => ⟨xs, ys, e1, e2, ?_⟩⟩
  · obtain ⟨d0, hd0, rfl⟩ := enumL_get hd
    obtain ⟨d1, d2, q1, q2, rfl⟩ := zipL_get hd0
    obtain ⟨v1, hv1, rv1⟩ := r1.get q1
    obtain ⟨v2, hv2, rv2⟩ := r2.get q2
    refine ⟨⟨xs, ys, v1, v2, e1, e2, hv1, hv2⟩, fun x H2 y => ?_⟩
    obtain ⟨T, U, x1, x2, rfl, nT, nU, e, f1, f2⟩ := y
    have : x1 = v1 := Option.some.inj ((f1 xs e1).symm.trans hv1)
    subst this
    have : x2 = v2 := Option.some.inj ((f2 ys e2).symm.trans hv2)
    subst this
    obtain ⟨sm, rT⟩ := dq_pair nT rfl rv1 rv2
    obtain ⟨sm2, rU⟩ := dq_pair nU e (.int _) rT
    exact ⟨fun b o z => sm2 b o (sm b o z), rU⟩
  · rw [enumL_len] at hd
    unfold zipL at hd
    rw [List.length_zipWith] at hd
    omega
end
def ezD : List D → Option (List D)
  | [.tuple ds, .tuple es] => some (enumL (zipL ds es))
  | _ => none
section
variable {X : Cx} {W : XW} {e a b : Expr} {ga : AV} {p p2 pos pos2 tpos : Pos} {elts : List Expr} {kk : Nat}
theorem i_ez (hg : Gl X "enumerate") (hm : X.mg "enumerate" = none) (hg2 : Gl X "zip") (hm2 : X.mg "zip" = none) (ha : PAD X W [a, b] ga)
    (hs : starEach [a, b] X.env = (false, eval a X.env) :: starEach [b] X.env := by rfl) (hpl : (backTo pos2 (starEach [b] X.env)).any (·.1) = false := by rfl)
    (hs1 : starEach [.Call (.Name "zip" p2) [a, b] [] pos2] X.env = (false, eval (.Call (.Name "zip" p2) [a, b] [] pos2) X.env) :: starEach [] X.env := by rfl) :
    PID X W (.Tuple elts kk tpos) (.Call (.Name "enumerate" p) [.Call (.Name "zip" p2) [a, b] [] pos2] [] pos) (iRg ezD ga) := ⟨(pi_ez hg hm hg2 hm2 ha.pa hs hpl hs1).con fun σ H R ⟨g, S, η, s, at_, q⟩ =>
  tA.mk at_ ((Res.bind q).imp fun ds H1 s1 e1 k1 q1 vs at1 rs => by
    obtain ⟨xs, hx, q2⟩ := Res.lift q1
    have q3 := q2 H1 Ext.refl k1
    unfold ezD at hx
    split at hx
    · cases hx
      cases rs with
      | cons r1 r2 =>
        cases r2 with
        | cons r2 r3 =>
          cases r3
          cases r1 with
          | tup e1 a1 =>
            cases r2 with
            | tup e2 a2 => exact ⟨_, _, _, _, rfl, at_.gK ▸ e1.seqT, at_.gK ▸ e2.seqT, at_.gK ▸ q3 _ (yields_ez at1.sok e1.seqT e2.seqT a1 a2)⟩
    · cases hx)⟩
end
end W3

set_option Elab.async false
set_option linter.all false
set_option maxRecDepth 100000
set_option maxHeartbeats 4000000
/-! W3u: dicts, the empty one of either kind; dict comprehensions. -/
namespace W3
open PySem PySem.Spec L2
open PyProof.Rows hiding St

section
variable {P : Program} {w : World} {H : Hp} {h : Heap} {a : Addr}
theorem dk0_dt (ob : ObjOk P w H h a (.dK [])) (H' : Hp) : ObjOk P w H' h a (.dT []) := by
  obtain ⟨z, y, vs, rel, o, es, ep, h1, h2, h3, h4, h5, h6⟩ := ob
  cases rel
  refine ⟨z, y, [], .nil, o, es, ep, h1, h2, h3, ?_, List.nodup_nil⟩
  have : es.toList.length = 0 := h5.length
  rw [List.length_eq_zero_iff.mp this]
  rfl
theorem dt0_dk (ob : ObjOk P w H h a (.dT [])) (H' : Hp) : ObjOk P w H' h a (.dK []) := by
  obtain ⟨z, y, xs, rel, o, es, ep, h1, h2, h3, h4, h5⟩ := ob
  cases rel
  have e : es = #[] := Array.toList_eq_nil_iff.mp h4
  subst e
  exact ⟨z, y, [], .nil, o, #[], ep, h1, h2, h3, fun x hx => by simp at hx, .nil, List.nodup_nil⟩
end
section
variable {X : Cx} {pins : List (Addr × Obj)} {σ : L2.St} {H : Hp} {s : Shared} {a : Addr}
theorem upd_back {o o' : HO} (e : H a = some o) : upd (upd H a o') a o = H := by
  rw [upd_upd]
  funext b
  unfold upd
  split
  · rename_i q
    rw [q, e]
  · rfl
theorem kindT (I : Inv X pins σ H s) (e : H a = some (.dK [])) : Inv X pins σ (upd H a (.dT [])) s :=
  d_write (h' := s.heap) (t' := s.toks) I (by rw [e]; exact True.intro) (Heap.SameBut.refl _ _) (let ⟨_, _, _, _, q, _, _, hq, _⟩ := I.hok a _ e; ⟨q, hq⟩) (dk0_dt (I.hok a _ e) _)
theorem kindK (I : Inv X pins σ H s) (e : H a = some (.dT [])) : Inv X pins σ (upd H a (.dK [])) s :=
  d_write (h' := s.heap) (t' := s.toks) I (by rw [e]; exact True.intro) (Heap.SameBut.refl _ _) (let ⟨_, _, _, _, q, _, _, hq, _⟩ := I.hok a _ e; ⟨q, hq⟩) (dt0_dk (I.hok a _ e) _)
theorem unkindT (I : Inv X pins σ (upd H a (.dT [])) s) (e : H a = some (.dK [])) : Inv X pins σ H s := by
  have := kindK I (a := a) upd_same
  rwa [upd_back e] at this
theorem unkindK (I : Inv X pins σ (upd H a (.dK [])) s) (e : H a = some (.dT [])) : Inv X pins σ H s := by
  have := kindT I (a := a) upd_same
  rwa [upd_back e] at this
end
/-- or: it is empty, and the key is of the other kind -/
def DGetW (H : Hp) (a : Addr) (y : V) (o : Option V) : Prop := DGet H a y o ∨ (o = none ∧ Rd H a (.dK []) ∧ ∃ (b : Addr) (ks : List Key), y = .ref b ∧ H b = some (.tup (ks.map kV))) ∨ (o = none ∧ Rd H a (.dT []) ∧ ∃ k, y = kV k)
def DPutW (H : Hp) (a : Addr) (y v : V) (H' : Hp) : Prop := DPut H a y v H' ∨ (H a = some (.dK []) ∧ DPut (upd H a (.dT [])) a y v H') ∨ (H a = some (.dT []) ∧ DPut (upd H a (.dK [])) a y v H')
section
variable {X : Cx} {pins : List (Addr × Obj)} {σ : L2.St} {H : Hp} {s : Shared} {a : Addr} {y v : V} {u r : Value} {o : Option V} {A : Around} {E : Value → Shared → Prop}
theorem dt0_of (I : Inv X pins σ H s) (e : Rd H a (.dK [])) : (a == sysModules) = false ∧ s.heap.DictOfH (tupleKind (mixKind X.prog X.w)) a [] := by
  obtain ⟨z, y, xs, rel, o, es, ep, h1, h2, h3, h4, h5⟩ := dk0_dt (e.ok I.hok) H
  cases rel
  exact ⟨y, o, es, ep, h1, h2, h3, h4, (fun x hx => nomatch hx), h5⟩
theorem dk0_of (I : Inv X pins σ H s) (e : Rd H a (.dT [])) : (a == sysModules) = false ∧ s.heap.DictOf (mixKind X.prog X.w) a [] := by
  obtain ⟨z, y, vs, rel, dd⟩ := dt0_dk (e.ok I.hok) H
  cases rel
  exact ⟨y, dd⟩
theorem d_inW {Q : Value → Shared → Prop} (hu : A.units + 1 < cLine) (I : Inv X pins σ H s) (g : DGetW H a y o) (ry : RelV y u) (h : ∀ s', Inv X pins σ H s' → Q (.bool o.isSome) s') : wpAny (model X.prog X.w) A (compareOp .In u (.ref a)) Q E s := by
  rcases g with g | ⟨rfl, e, b, ks, rfl, eb⟩ | ⟨rfl, e, k, rfl⟩
  · exact d_in hu I g ry h
  · obtain ⟨hd, dd⟩ := dt0_of I e
    cases ry
    exact wpAny_in_heap (tupleKind_room_in1 hu) (key_of I.hok eb) hd dd (h _ (I.tok _))
  · obtain ⟨hd, dd⟩ := dk0_of I e
    exact wpAny_in_of (kV_is ry) hd dd.mapOf (h _ (I.tok _))
theorem d_notInW {Q : Value → Shared → Prop} (hu : A.units + 1 < cLine) (I : Inv X pins σ H s) (g : DGetW H a y o) (ry : RelV y u) (h : ∀ s', Inv X pins σ H s' → Q (.bool (!o.isSome)) s') : wpAny (model X.prog X.w) A (compareOp .NotIn u (.ref a)) Q E s := by
  rcases g with g | ⟨rfl, e, b, ks, rfl, eb⟩ | ⟨rfl, e, k, rfl⟩
  · exact d_notIn hu I g ry h
  · obtain ⟨hd, dd⟩ := dt0_of I e
    cases ry
    exact wpAny_notIn_heap (tupleKind_room_in1 hu) (key_of I.hok eb) hd dd (h _ (I.tok _))
  · obtain ⟨hd, dd⟩ := dk0_of I e
    exact wpAny_notIn_of (kV_is ry) hd dd.mapOf (h _ (I.tok _))
theorem d_getItemW {Q : Value → Shared → Prop} (hu : A.units + 1 < cLine) (I : Inv X pins σ H s) (g : DGetW H a y (some v)) (ry : RelV y u) (h : ∀ w' s', Inv X pins σ H s' → RelV v w' → Q w' s') : wpAny (model X.prog X.w) A (getItem (.ref a) u) Q E s := by
  rcases g with g | ⟨e, _⟩ | ⟨e, _⟩
  · exact d_getItem hu I g ry h
  · cases e
  · cases e
theorem d_setItemW {H' : Hp} {Q : Unit → Shared → Prop} (hu : A.units + 1 < cLine) (I : Inv X pins σ H s) (g : DPutW H a y v H') (ry : RelV y u) (rv : RelV v r) (h : ∀ s', Inv X pins σ H' s' → Q () s') : wpAny (model X.prog X.w) A (setItem (.ref a) u r) Q E s := by
  rcases g with g | ⟨e, g⟩ | ⟨e, g⟩
  · exact d_setItem hu I g ry rv h
  · exact d_setItem hu (kindT I e) g ry rv h
  · exact d_setItem hu (kindK I e) g ry rv h
/-- a[y] = v by a comprehension -/
theorem d_dictSet1 {H' : Hp} {Q : Unit → Shared → Prop} (hu : A.units < cLine) (I : Inv X pins σ H s) (g : DPut H a y v H') (ry : RelV y u) (rv : RelV v r) (h : ∀ s', Inv X pins σ H' s' → Q () s') :
    wpAny (model X.prog X.w) A (dictSet a u r) Q E s := by
  rcases g with ⟨kvs, k, e, ey, l, eH⟩ | ⟨kvs, k, b, e, ey, eb, l, eH⟩
  · subst ey eH
    obtain ⟨z, hd, vs, rel, dd⟩ := dk_of I.hok e
    have hz : vs.length ≤ sizeLine := by rw [← rel.length]; exact z
    have hl : (putK kvs k v).length ≤ sizeLine := by have := length_putK kvs k v; omega
    refine wpAny_dictSet_pairs (hsz := hz) (kV_is ry) dd fun h' dd' hs => h _ ?_
    have he : ∃ q, h'.get? a = some q := let ⟨q, _, _, hq, _⟩ := dd'; ⟨q, hq⟩
    exact d_write I (by rw [e]; exact True.intro) hs he (dk_new hl hd (rel.put k rv) dd')
  · subst ey eH
    cases (show u = Value.ref b from ry)
    obtain ⟨z, hd, xs, rel, dd⟩ := dt_of I.hok e
    have hz : xs.length ≤ sizeLine := by rw [← Paired.length rel]; exact z
    have hl : (putK kvs k v).length ≤ sizeLine := by have := length_putK kvs k v; omega
    refine wpAny_dictSet_heap (hsz := hz) hu (key_of I.hok eb) dd fun h' dd' hs => h _ ?_
    obtain ⟨q, es, ep, hq, h2, h3, h4, _, h5⟩ := dd'
    refine d_write I (by rw [e]; exact True.intro) hs ⟨q, hq⟩ ⟨hl, hd, _, (rel.put k eb rv).keeps fun c ys ec => ?_, q, es, ep, hq, h2, h3, h4, h5⟩
    rw [upd_ne (ne_of ec e (fun z => nomatch z))]
    exact ec
theorem d_dictSetW {H' : Hp} {Q : Unit → Shared → Prop} (hu : A.units < cLine) (I : Inv X pins σ H s) (g : DPutW H a y v H') (ry : RelV y u) (rv : RelV v r) (h : ∀ s', Inv X pins σ H' s' → Q () s') : wpAny (model X.prog X.w) A (dictSet a u r) Q E s := by
  rcases g with g | ⟨e, g⟩ | ⟨e, g⟩
  · exact d_dictSet1 hu I g ry rv h
  · exact d_dictSet1 hu (kindT I e) g ry rv h
  · exact d_dictSet1 hu (kindK I e) g ry rv h
end
section
variable {X : Cx}
/-- {k: v for target in iter if ..}: D the new dict -/
def tDcW (wi : TI) (g : TG) (tt : TT) (tk tv : TE) (vs : List Nat) : TE := fun σ H Q => wi σ H fun J H1 => ∀ D, H1 D = none → ∃ W : Nat → Nat → Hp → Prop, (∃ m, W 0 m (upd H1 D (.dK []))) ∧ ∀ i m H, W i m H →
  (J.stop i H ∧ Q (.ref D) H) ∨ (J.go i H ∧ ∃ Nx : Hp → Prop, (∀ H', Nx H' → ∃ m', m' < m ∧ W (i + 1) m' H') ∧ ∀ x H', J.yld i H x H' → g x (wipe σ vs) H' fun σ2 H2 => wipe σ2 vs = wipe σ vs ∧ tt σ2 H2 fun b H3 =>
    if b = true then tk σ2 H3 fun y H4 => tv σ2 H4 fun z H5 => ∃ H6, DPutW H5 D y z H6 ∧ Nx H6 else Nx H3)
/-- what holds in the block ahead of each turn -/
def DcB (X : Cx) (Y : Cx) (fp : List Addr) (tn : Nat → Heap → Prop) (W : Nat → Nat → Hp → Prop) (σw : L2.St) (n : Nat) (t : Shared) : Prop := ∃ i Hb, Inv Y [] σw Hb t ∧ tn i t.heap ∧ (∀ b ∈ fp, Hb b = none) ∧ W i n Hb
theorem dcW_core {pins : List (Addr × Obj)} {s : Shared} {σ : L2.St} {H : Hp} {Q : VK} {kx vx tg iter : Expr} {ifs : List Expr} {scope : Scope} {own : List (Str × Nat)} {pos pos' : Pos} {wi : TI} {g : TG} {tt : TT} {tk tv : TE} {use : Option (Value → Sem Unit)} {Qf : Value → Shared → Prop}
    (hc : X.calm = true) (hN : X.N.Nodup) (I : Inv X pins σ H s) (hi : PI X tg iter wi) (ok : BlkOk X.N X.env.scope scope own)
    (hg : ∀ (s : Shared) (H : Hp) (C : Addr) (cl : List (Str × Addr)) (fp : List Addr), PG (X.blk s H scope (compEnvC scope cl C X.env) fp) tg g) (ht : ∀ (s : Shared) (H : Hp) (C : Addr) (cl : List (Str × Addr)) (fp : List Addr), PTs (X.blk s H scope (compEnvC scope cl C X.env) fp) ifs tt)
    (hk : ∀ (s : Shared) (H : Hp) (C : Addr) (cl : List (Str × Addr)) (fp : List Addr), PE (X.blk s H scope (compEnvC scope cl C X.env) fp) kx tk)
    (he : ∀ (s : Shared) (H : Hp) (C : Addr) (cl : List (Str × Addr)) (fp : List Addr), PE (X.blk s H scope (compEnvC scope cl C X.env) fp) vx tv) (hs : ∀ x, foldedSetIterable iter X.env x = pure x)
    (hu : X.A.units < cLine) (h : tDcW wi g tt tk tv (own.map (·.2)) σ H Q)
    (hRR : ∀ D C s' m H', Inv X pins σ H' s' → Q (.ref D) H' → s'.heap.Ns C m → FpOk X pins H' C → compPost (model X.prog X.w) X.A X.xe use Qf (.ref D) C (.ok .next) s') :
    wpAny (model X.prog X.w) X.A (comprehension (.DictComp kx vx [⟨tg, iter, ifs, 0⟩] scope pos) scope X.env pos' newDict false (eval iter X.env) use) Qf X.xe s := by
  have free : ∀ y ∈ scope.names, y.2 = .free → ∃ c, X.env.cells.lookup y.1 = some c := fun y hy e =>
    (ok.free y hy e).elim (fun k => I.ok.has _ (.inl k)) fun k => I.ok.has _ (.inr k)
  refine wpAny_comprehension_free (use := use) rfl hs (closure_ok free) ok.kind (fun y hy e => by rw [ok.uniq y hy, e]) (thn (hi.run pins s σ H _ I h) fun xv s1 hx => thn hx fun itv s2 hit => ?_)
  obtain ⟨it, fp, tn, J, Ht, rfl, It, Tr, t0, ff, q⟩ := hit
  refine wpAny_newObj_type (newEnv_comp ?_)
  -- the new dict, at D
  obtain ⟨D, hD⟩ : ∃ D, D = s2.heap.objs.size := ⟨_, rfl⟩
  rw [← hD]
  obtain ⟨W, ⟨m0, w0⟩, turn⟩ := q D (It.hok.fresh (Nat.le_of_eq hD.symm))
  obtain ⟨sd, hsd⟩ : ∃ sd : Shared, sd = { s2 with heap := s2.heap.push { cls := .type "dict", data := .dict #[] } } := ⟨_, rfl⟩
  have hsh : sd.heap = s2.heap.push { cls := .type "dict", data := .dict #[] } := by rw [hsd]
  obtain ⟨Hd, hHd⟩ : ∃ Hd, Hd = upd Ht D (.dK []) := ⟨_, rfl⟩
  rw [← hHd] at w0
  have Id : Inv X pins σ Hd sd := by
    rw [hsd, hHd]
    refine It.laid (t' := s2.toks) (fun b o e => Heap.get?_push_of_some _ e) (Nat.le_of_eq hD.symm) ?_
    rw [hD]
    exact dk_empty s2.heap It.big
  have below : ∀ b ∈ fp, b < s2.heap.objs.size := fun b hb => let ⟨_, e, _⟩ := Tr.obj _ _ t0 b hb; Heap.lt_size e
  have fd : ∀ b ∈ fp, FpOk X pins Hd b ∧ b < sd.heap.objs.size := fun b hb => by
    have l := below b hb
    refine ⟨⟨?_, (ff b hb).2⟩, by rw [hsh, Heap.size_push]; exact Nat.lt_succ_of_lt l⟩
    rw [hHd, upd_ne (by rw [hD]; exact Nat.ne_of_lt l)]
    exact (ff b hb).1
  have Ib := block_start Id ok hN fd
  -- the block's names
  obtain ⟨ce, hce⟩ : ∃ ce, ce = compEnvC scope (cellsFrom (sd.heap.objs.size + 1) scope.names (cloFrom X.env.cells scope.names [])) sd.heap.objs.size X.env := ⟨_, rfl⟩
  have pg := hg sd Hd sd.heap.objs.size (cellsFrom (sd.heap.objs.size + 1) scope.names (cloFrom X.env.cells scope.names [])) fp
  have pt := ht sd Hd sd.heap.objs.size (cellsFrom (sd.heap.objs.size + 1) scope.names (cloFrom X.env.cells scope.names [])) fp
  have pk := hk sd Hd sd.heap.objs.size (cellsFrom (sd.heap.objs.size + 1) scope.names (cloFrom X.env.cells scope.names [])) fp
  have pv := he sd Hd sd.heap.objs.size (cellsFrom (sd.heap.objs.size + 1) scope.names (cloFrom X.env.cells scope.names [])) fp
  obtain ⟨sb, hsb⟩ : ∃ sb : Shared, sb = { sd with heap := pushCells (sd.heap.push { cls := .type "dict", data := .dict #[] }) scope.names } := ⟨_, rfl⟩
  rw [← hsd]
  show codeAny _ _ (.compStart (.DictComp kx vx [⟨tg, iter, ifs, 0⟩] scope pos) 0 (.ref it) (.ref D) (compEnvC scope (cellsFrom (sd.heap.objs.size + 1) scope.names (cloFrom X.env.cells scope.names [])) sd.heap.objs.size X.env)) (compPost (model X.prog X.w) X.A X.xe use Qf (.ref D) sd.heap.objs.size) { sd with heap := pushCells (sd.heap.push { cls := .type "dict", data := .dict #[] }) scope.names }
  rw [← hce] at Ib pg pt pk pv ⊢
  rw [← hsb] at Ib ⊢
  have cL : ce.locals = sd.heap.objs.size := by rw [hce]; rfl
  have tb : tn 0 sb.heap := Tr.keep _ _ _ t0 fun b _ o e => by
    rw [hsb]
    exact pushCells_keeps _ _ _ _ (Heap.get?_push_of_some _ (by rw [hsh]; exact Heap.get?_push_of_some _ e))
  have nofp : ∀ b ∈ fp, Hd b = none := fun b hb => (fd b hb).1.1
  have atfp : ∀ {σ' : L2.St} {Hb : Hp} {t : Shared}, Inv (X.blk sd Hd scope ce fp) [] σ' Hb t → (∀ b ∈ fp, Hb b = none) → ∀ b ∈ fp, FpOk (X.blk sd Hd scope ce fp) [] Hb b := fun {σ' Hb t} I' hn b hb =>
    ⟨hn b hb, (I'.ok.exf b hb).1, I'.ok.exfs b hb, .inl hb, fun x c e => (I'.ok.exf b hb).2 x c e, fun p hp => absurd (show p ∈ ([] : List (Addr × Obj)) ++ [] from hp) (by simp)⟩
  have loop : codeAny (model X.prog X.w) X.A (.compLoop (.DictComp kx vx [⟨tg, iter, ifs, 0⟩] scope pos) 0 (.ref it) (.ref D) ce) (compPost (model X.prog X.w) X.A X.xe use Qf (.ref D) sd.heap.objs.size) sb := by
    refine compLoop_anyD (DcB X (X.blk sd Hd scope ce fp) fp tn W (wipe σ (own.map (·.2)))) ?_ m0 ⟨0, Hd, Ib, tb, nofp, w0⟩
    rintro n t ⟨i, Hb, I5, tn5, n5, w5⟩
    rcases turn i n Hb w5 with ⟨stop, fin⟩ | ⟨go, Nx, hNx, step⟩
    · refine thnF (Tr.done (X.blk sd Hd scope ce fp) rfl rfl rfl hc i [] t _ Hb (fun _ _ => False) I5 (atfp I5 n5) tn5 stop) fun r t1 ⟨hr, I6⟩ => ?_
      subst hr
      have I7 : Inv X pins σ Hb t1 := Id.call' (ch := fp) I6.os I6.base I6.hok I6.bare fun b hb => let z := (fd b hb).1.2; ⟨z.2.2.1, z.1, z.2.2.2.1, z.2.2.2.2⟩
      have noC : Hb sd.heap.objs.size = none := cL ▸ (show Hb ce.locals = none from I6.free)
      obtain ⟨m, hn, _⟩ := I6.loc
      exact hRR D sd.heap.objs.size t1 m Hb I7 fin (cL ▸ (show t1.heap.Ns ce.locals m from hn)) (Id.fpOk (Nat.le_refl _) noC)
    · refine thnF (Tr.item (X.blk sd Hd scope ce fp) rfl rfl rfl hc i [] t _ Hb (fun _ _ => False) I5 (atfp I5 n5) tn5 go) fun r t1 ⟨u, hr, h6⟩ => ?_
      subst hr
      refine thnF h6 fun _ t2 ⟨x, H7, I7, r7, y7, tn7, n7⟩ => ?_
      refine thnF (pg.run _ t2 _ H7 x u _ (I7.pinned (atfp I7 n7) (Tr.obj _ _ tn7)) r7 (step x H7 y7)) fun _ t3 ⟨σ8, H8, I8, hw8, q8⟩ => ?_
      have next : ∀ {t' : Shared} {H' : Hp}, Inv (X.blk sd Hd scope ce fp) ([] ++ pinsAt fp t2.heap) σ8 H' t' → Nx H' → ∃ m, m < n ∧ DcB X (X.blk sd Hd scope ce fp) fp tn W (wipe σ (own.map (·.2))) m t' := fun {t' H'} I' nx => by
        obtain ⟨m', hm, w'⟩ := hNx H' nx
        have still : ∀ b ∈ fp, ∀ o, t2.heap.get? b = some o → t'.heap.get? b = some o ∧ H' b = none := fun b hb o e =>
          let z := I'.pin (b, o) (List.mem_append_right _ (List.mem_append_right _ (mem_pinsAt hb e)))
          ⟨z.1, z.2.1⟩
        refine ⟨m', hm, i + 1, H', (I'.unpinned (pins := [])).weak (by rw [← hw8, wipe_length]) (fun j v e => (wipe_some (hw8 ▸ e)).1), Tr.keep _ _ _ tn7 fun b hb o e => (still b hb o e).1, fun b hb => ?_, w'⟩
        obtain ⟨o, e, _⟩ := Tr.obj _ _ tn7 b hb
        exact (still b hb o e).2
      refine thnF (pt.run _ t3 σ8 H8 _ I8 q8) fun b t4 ⟨H9, I9, q9⟩ => ?_
      cases b with
      | false =>
        rw [if_neg Bool.false_ne_true] at q9 ⊢
        exact next I9 q9
      | true =>
        rw [if_pos rfl] at q9 ⊢
        exact thnF (pk.run _ t4 σ8 H9 _ I9 q9) fun z t5 ⟨yk, H10, I10, r10, q10⟩ =>
          thnF (pv.run _ t5 σ8 H10 _ I10 q10) fun z2 t6 ⟨yv, H11, I11, r11, H12, pt12, nx⟩ =>
            d_dictSetW (X := X.blk sd Hd scope ce fp) hu I11 pt12 r10 r11 fun t7 I12 => next I12 nx
  exact codeAny_compStart_dict loop (Tr.self X.A 0 _ _ _ tb loop)
/-- as a value -/
theorem pe_dcW {kx vx tg iter : Expr} {ifs : List Expr} {scope : Scope} {own : List (Str × Nat)} {pos : Pos} {wi : TI} {g : TG} {tt : TT} {tk tv : TE} (hu : X.A.units < cLine) (hc : X.calm = true) (hN : X.N.Nodup) (hi : PI X tg iter wi) (ok : BlkOk X.N X.env.scope scope own)
    (hg : ∀ (s : Shared) (H : Hp) (C : Addr) (cl : List (Str × Addr)) (fp : List Addr), PG (X.blk s H scope (compEnvC scope cl C X.env) fp) tg g) (ht : ∀ (s : Shared) (H : Hp) (C : Addr) (cl : List (Str × Addr)) (fp : List Addr), PTs (X.blk s H scope (compEnvC scope cl C X.env) fp) ifs tt)
    (hk : ∀ (s : Shared) (H : Hp) (C : Addr) (cl : List (Str × Addr)) (fp : List Addr), PE (X.blk s H scope (compEnvC scope cl C X.env) fp) kx tk)
    (he : ∀ (s : Shared) (H : Hp) (C : Addr) (cl : List (Str × Addr)) (fp : List Addr), PE (X.blk s H scope (compEnvC scope cl C X.env) fp) vx tv) (hs : ∀ x, foldedSetIterable iter X.env x = pure x := by intro _; rfl) :
    PE X (.DictComp kx vx [⟨tg, iter, ifs, 0⟩] scope pos) (tDcW wi g tt tk tv (own.map (·.2))) := by
  refine ⟨fun pins s σ H Q I h => ?_⟩
  rw [arm_eval_DictComp]
  refine dcW_core hc hN I hi ok hg ht hk he hs hu h fun D C s' m H' I' q hn f => ⟨m, hn, fun h'' sb => ?_⟩
  obtain ⟨f0, f1, f2, f3, f4, f5⟩ := f
  exact ⟨.ref D, H', I'.turned (t' := s'.toks) (fun b o hb e => (sb.2 b hb).trans e) f0 f1 f3 f4 f5, rfl, q⟩
/-- name = {..} on one line, the name a local -/
theorem ps_setDc {i : Nat} {y : Str} {py : Pos} {kx vx tg iter : Expr} {ifs : List Expr} {scope : Scope} {own : List (Str × Nat)} {pos spos : Pos} {wi : TI} {g : TG} {tt : TT} {tk tv : TE} (hu : X.A.units < cLine) (hc : X.calm = true) (hN : X.N.Nodup) (hy : X.N[i]? = some y) (hyl : X.env.scope.names.lookup y = some .local)
    (hsw : swapsWith (.DictComp kx vx [⟨tg, iter, ifs, 0⟩] scope pos) (some (.Name y py)) spos.line X.env = pure true) (hi : PI X tg iter wi) (ok : BlkOk X.N X.env.scope scope own)
    (hg : ∀ (s : Shared) (H : Hp) (C : Addr) (cl : List (Str × Addr)) (fp : List Addr), PG (X.blk s H scope (compEnvC scope cl C X.env) fp) tg g) (ht : ∀ (s : Shared) (H : Hp) (C : Addr) (cl : List (Str × Addr)) (fp : List Addr), PTs (X.blk s H scope (compEnvC scope cl C X.env) fp) ifs tt)
    (hk : ∀ (s : Shared) (H : Hp) (C : Addr) (cl : List (Str × Addr)) (fp : List Addr), PE (X.blk s H scope (compEnvC scope cl C X.env) fp) kx tk)
    (he : ∀ (s : Shared) (H : Hp) (C : Addr) (cl : List (Str × Addr)) (fp : List Addr), PE (X.blk s H scope (compEnvC scope cl C X.env) fp) vx tv) (hs : ∀ x, foldedSetIterable iter X.env x = pure x := by intro _; rfl) :
    PS X (.Assign [.Name y py] (.DictComp kx vx [⟨tg, iter, ifs, 0⟩] scope pos) spos) (tAsg (tDcW wi g tt tk tv (own.map (·.2))) (gName i)) := by
  refine ⟨fun pins s σ H D I h => ?_⟩
  rw [exec_Assign_Name_used _ _ _ _ hsw]
  refine wpAny_bind (wpAny_standAt (wpAny_bind ?_))
  show wpAny _ X.A (do let _ ← comprehension (.DictComp kx vx [⟨tg, iter, ifs, 0⟩] scope pos) scope X.env (firstIterPos [⟨tg, iter, ifs, 0⟩] pos) newDict false (eval iter X.env) (some (assign (.Name y py) X.env))) _ _ s
  have h : tDcW wi g tt tk tv (own.map (·.2)) σ H (fun x H1 => gName i x σ H1 D.nx) := h
  refine wpAny_bind (thn (dcW_core (Qf := fun _ s' => SP X pins D .next s') hc hN I hi ok hg ht hk he hs hu h fun L C s' m H' I' q hn f => ?_) fun _ s' hq => wpAny_pure (wpAny_pure hq))
  show wpAny _ _ (assign (.Name y py) X.env (.ref L)) _ _ _
  refine wpAny_assign_Name (store_ok2 (v := V.ref L) I' hN hy (.inl hyl) rfl (fun s2 I2 ⟨a, sb, ha⟩ => ?_) (.inr hyl))
  obtain ⟨f0, f1, f2, f3, f4, f5⟩ := f
  have haC : C ≠ a := by
    rcases ha with z | z
    · rw [z]; exact f1
    · exact fun e => f4 y a z e.symm
  refine ⟨m, hn.sameBut sb haC, fun h3 sb3 => ?_⟩
  exact ⟨_, H', I2.turned (t' := s2.toks) (fun b o hb e => (sb3.2 b hb).trans e) f0 f1 f3 f4 f5, q⟩
theorem swD_true {kx vx : Expr} {gs : List Comprehension} {scope : Scope} {pos py : Pos} {y : Str} {l : Nat} {env : PySem.Env} (hk : env.scope.kind = .function) (hy : env.scope.names.lookup y = some .local) (hl : (py.line == pos.line) = true)
    (ha : (scope.names.any fun (n, k) => n == y && (k == .local || k == .cell)) = false) : swapsWith (.DictComp kx vx gs scope pos) (some (.Name y py)) l env = pure true := by
  have ky : env.kindOf y = some .local := hy
  have hb : env.blockKind = .function := by unfold Env.blockKind; rw [hk]; rfl
  unfold swapsWith
  simp only [hb, ky, ha, Expr.pos, hl]
  rfl
end
end W3

set_option Elab.async false
set_option linter.all false
set_option maxRecDepth 100000
set_option maxHeartbeats 4000000
/-! W3v: dicts as data: {k: v for ..}, k in d. -/
namespace W3
open PySem PySem.Spec L2

/-! ### keys -/
abbrev UK := Key ⊕ List Key
def uD : UK → D
  | .inl k => kD k
  | .inr ks => ksD ks
def keyK : D → Option Key
  | .int i => some (.inl i)
  | .str x => some (.inr x)
  | _ => none
def keyKs : List D → Option (List Key)
  | [] => some []
  | d :: ds => (keyK d).bind fun k => (keyKs ds).map (k :: ·)
/-- the key that d is -/
def keyR : D → Option UK
  | .int i => some (.inl (.inl i))
  | .str x => some (.inl (.inr x))
  | .tuple ds => (keyKs ds).map .inr
  | _ => none
def isI : D → Bool
  | .int _ => true
  | _ => false
/-- .. where it may be put or looked for -/
def keyU : D → Option UK
  | .tuple ds => if ds.any isI = true then (keyKs ds).map .inr else none
  | d => keyR d
theorem keyK_kD (k : Key) : keyK (kD k) = some k := by cases k <;> rfl
theorem keyKs_map : ∀ ks : List Key, keyKs (ks.map kD) = some ks
  | [] => rfl
  | k :: ks => by
    show (keyK (kD k)).bind _ = _
    rw [keyK_kD, keyKs_map ks]
    rfl
theorem keyR_uD (u : UK) : keyR (uD u) = some u := by
  rcases u with (i | x) | ks
  · rfl
  · rfl
  · show (keyKs (ks.map kD)).map _ = _
    rw [keyKs_map]
    rfl
theorem keyK_eq {d : D} {k : Key} (h : keyK d = some k) : d = kD k := by
  cases d <;> simp [keyK] at h <;> (subst h; rfl)
theorem keyKs_eq : ∀ {ds : List D} {ks : List Key}, keyKs ds = some ks → ds = ks.map kD
  | [], ks, h => by
    have : ks = [] := (Option.some.inj h).symm
    subst this; rfl
  | d :: ds, ks, h => by
    obtain ⟨k, hk, h⟩ := Option.bind_eq_some_iff.mp h
    obtain ⟨r, hr, rfl⟩ := Option.map_eq_some_iff.mp h
    rw [keyK_eq hk, keyKs_eq hr]
    rfl
theorem keyR_eq {d : D} {u : UK} (h : keyR d = some u) : d = uD u := by
  cases d with
  | int i => cases h; rfl
  | str x => cases h; rfl
  | tuple ds =>
    obtain ⟨ks, hk, rfl⟩ := Option.map_eq_some_iff.mp h
    rw [keyKs_eq hk]; rfl
  | _ => cases h
theorem keyU_R {d : D} {u : UK} (h : keyU d = some u) : keyR d = some u := by
  cases d with
  | tuple ds =>
    have h' : (if ds.any isI = true then (keyKs ds).map Sum.inr else none) = some u := h
    by_cases z : ds.any isI = true
    · rw [if_pos z] at h'
      exact h'
    · rw [if_neg z] at h'
      exact nomatch h'
  | _ => exact h
def KeyAt (H : Hp) (y : V) : UK → Prop
  | .inl k => y = kV k
  | .inr ks => ∃ b, y = .ref b ∧ H b = some (.tup (ks.map kV))
theorem dq_keys {g : G} {S : Addr → Prop} {H : Hp} : ∀ {ks : List Key} {xs : List V}, DqAll g S H xs (ks.map kD) → xs = ks.map kV
  | [], _, h => by cases h; rfl
  | k :: ks, _, h => by
    cases h with
    | cons r t =>
      rw [dq_keys t]
      rcases k with i | x
      · cases r; rfl
      · cases r; rfl
theorem key_at {g : G} {S : Addr → Prop} {H : Hp} {y : V} {d : D} {u : UK} (r : Dq g S H y d) (h : keyU d = some u) : KeyAt H y u := by
  have e := keyR_eq (keyU_R h)
  rcases u with (i | x) | ks
  · subst e; cases r; rfl
  · subst e; cases r; rfl
  · subst e
    have hi : (ks.map kD).any isI = true := by
      have h' : (if (ks.map kD).any isI = true then (keyKs (ks.map kD)).map Sum.inr else none) = some (Sum.inr ks) := h
      by_cases z : (ks.map kD).any isI = true
      · exact z
      · rw [if_neg z] at h'
        exact nomatch h'
    cases r with
    | tup t a =>
      have ex := dq_keys a
      rcases t with t | ⟨_, t⟩
      · exact ⟨_, rfl, ex ▸ t⟩
      · exfalso
        obtain ⟨d, hd, e⟩ := List.any_eq_true.mp hi
        obtain ⟨k, hk, rfl⟩ := List.mem_map.mp hd
        rcases k with i | x
        · obtain ⟨z, ez⟩ := t (.int i) (by rw [ex]; exact List.mem_map.mpr ⟨_, hk, rfl⟩)
          cases ez
        · cases e
theorem KeyAt.upd {H : Hp} {y : V} {u : UK} {a : Addr} {o o' : HO} (k : KeyAt H y u) (e : H a = some o) (n : ∀ xs, o ≠ .tup xs) : KeyAt (upd H a o') y u := by
  cases u with
  | inl k' => exact k
  | inr ks =>
    obtain ⟨b, hb, q⟩ := k
    exact ⟨b, hb, by rw [upd_ne (fun z => by rw [z, e] at q; exact n _ (Option.some.inj q))]; exact q⟩
def sameKind : UK → UK → Bool
  | .inl _, .inl _ => true
  | .inr _, .inr _ => true
  | _, _ => false
/-! ### what stands in the heap -/
def DAt (H : Hp) (a : Addr) (l : List (UK × V)) : Prop :=
  (∃ kvs, H a = some (.dK kvs) ∧ l = kvs.map fun p => (.inl p.1, p.2)) ∨ ∃ kvs, H a = some (.dT kvs) ∧ l = kvs.map fun p => (.inr p.1, p.2)
/-- .. to be read -/
def DAtR (H : Hp) (a : Addr) (l : List (UK × V)) : Prop :=
  (∃ kvs, Rd H a (.dK kvs) ∧ l = kvs.map fun p => (.inl p.1, p.2)) ∨ ∃ kvs, Rd H a (.dT kvs) ∧ l = kvs.map fun p => (.inr p.1, p.2)
theorem DAt.r {H : Hp} {a : Addr} {l : List (UK × V)} (d : DAt H a l) : DAtR H a l := by
  rcases d with ⟨kvs, e, q⟩ | ⟨kvs, e, q⟩
  · exact .inl ⟨kvs, .of e, q⟩
  · exact .inr ⟨kvs, .of e, q⟩
def getL (l : List (UK × V)) (u : UK) : Option V := (l.find? fun p => decide (p.1 = u)).map (·.2)
def putL (l : List (UK × V)) (u : UK) (v : V) : List (UK × V) := if (l.any fun p => decide (p.1 = u)) = true then l.map (fun p => if p.1 = u then (p.1, v) else p) else l ++ [(u, v)]
theorem getL_map {κ : Type} [DecidableEq κ] {f : κ → UK} (hf : ∀ a b, f a = f b → a = b) (k : κ) : ∀ kvs : List (κ × V), getL (kvs.map fun p => (f p.1, p.2)) (f k) = valV kvs k
  | [] => rfl
  | p :: r => by
    by_cases e : p.1 = k
    · rw [valV_pos e]
      unfold getL
      rw [List.map_cons, List.find?_cons_of_pos (by simp [e])]
      rfl
    · rw [valV_neg e, ← getL_map hf k r]
      unfold getL
      rw [List.map_cons, List.find?_cons_of_neg (by simp; exact fun z => e (hf _ _ z))]
theorem putL_map {κ : Type} [DecidableEq κ] {f : κ → UK} (hf : ∀ a b, f a = f b → a = b) (k : κ) (v : V) (kvs : List (κ × V)) : putL (kvs.map fun p => (f p.1, p.2)) (f k) v = (putK kvs k v).map fun p => (f p.1, p.2) := by
  have inj : ∀ p : κ × V, (f p.1 = f k) ↔ p.1 = k := fun p => ⟨hf _ _, fun e => by rw [e]⟩
  have e : ((kvs.map fun p => (f p.1, p.2)).any fun p => decide (p.1 = f k)) = kvs.any fun p => decide (p.1 = k) := by
    rw [List.any_map]
    congr 1
    funext p
    exact decide_eq_decide.mpr (inj p)
  unfold putL putK
  rw [e]
  split
  · rw [List.map_map, List.map_map]
    refine List.map_congr_left fun p _ => ?_
    show (if f p.1 = f k then (f p.1, v) else (f p.1, p.2)) = (f (if p.1 = k then (p.1, v) else p).1, (if p.1 = k then (p.1, v) else p).2)
    by_cases z : p.1 = k
    · rw [if_pos ((inj p).mpr z), if_pos z]
    · rw [if_neg fun q => z ((inj p).mp q), if_neg z]
  · rw [List.map_append]; rfl
theorem inl_inj : ∀ a b : Key, (Sum.inl a : UK) = .inl b → a = b := fun a b e => Sum.inl.inj e
theorem inr_inj : ∀ a b : List Key, (Sum.inr a : UK) = .inr b → a = b := fun a b e => Sum.inr.inj e
section
variable {H : Hp} {a : Addr} {l : List (UK × V)} {y v : V} {u : UK}
theorem DAtR.get (d : DAtR H a l) (k : KeyAt H y u) (hk : ∀ p ∈ l, sameKind p.1 u = true) : DGetW H a y (getL l u) := by
  rcases d with ⟨kvs, e, rfl⟩ | ⟨kvs, e, rfl⟩
  · cases u with
    | inl k' =>
      rw [getL_map inl_inj]
      cases (show y = kV k' from k)
      exact .inl (.inl ⟨kvs, k', e, rfl, rfl⟩)
    | inr ks =>
      cases kvs with
      | cons p r => exact absurd (hk (.inl p.1, p.2) (by simp)) (by simp [sameKind])
      | nil =>
        obtain ⟨b, rfl, q⟩ := k
        exact .inr (.inl ⟨rfl, e, b, ks, rfl, q⟩)
  · cases u with
    | inr ks =>
      rw [getL_map inr_inj]
      obtain ⟨b, rfl, q⟩ := k
      exact .inl (.inr ⟨kvs, ks, b, e, rfl, q, rfl⟩)
    | inl k' =>
      cases kvs with
      | cons p r => exact absurd (hk (.inr p.1, p.2) (by simp)) (by simp [sameKind])
      | nil =>
        cases (show y = kV k' from k)
        exact .inr (.inr ⟨rfl, e, k', rfl⟩)
theorem DAt.put (d : DAt H a l) (k : KeyAt H y u) (hk : ∀ p ∈ l, sameKind p.1 u = true) (hl : l.length < sizeLine) : ∃ o', DPutW H a y v (upd H a o') ∧ DAt (upd H a o') a (putL l u v) ∧ Mu o' := by
  have mk : ∀ kvs, Mu (.dK kvs) := fun _ => ⟨fun _ e => (by cases e), fun _ _ e => (by cases e), fun _ e => (by cases e)⟩
  have mt : ∀ kvs, Mu (.dT kvs) := fun _ => ⟨fun _ e => (by cases e), fun _ _ e => (by cases e), fun _ e => (by cases e)⟩
  rcases d with ⟨kvs, e, rfl⟩ | ⟨kvs, e, rfl⟩
  · cases u with
    | inl k' =>
      cases (show y = kV k' from k)
      exact ⟨_, .inl (.k e (by rw [List.length_map] at hl; exact hl)), .inl ⟨_, upd_same, putL_map inl_inj k' v kvs⟩, mk _⟩
    | inr ks =>
      cases kvs with
      | cons p r => exact absurd (hk (.inl p.1, p.2) (by simp)) (by simp [sameKind])
      | nil =>
        obtain ⟨b, rfl, q⟩ := k.upd (o' := .dT []) e (fun _ z => by cases z)
        have x := DPut.t (v := v) upd_same q (Nat.lt_of_le_of_lt (Nat.zero_le _) hl)
        rw [upd_upd] at x
        exact ⟨_, .inr (.inl ⟨e, x⟩), .inr ⟨_, upd_same, putL_map inr_inj ks v []⟩, mt _⟩
  · cases u with
    | inr ks =>
      obtain ⟨b, rfl, q⟩ := k
      exact ⟨_, .inl (.t e q (by rw [List.length_map] at hl; exact hl)), .inr ⟨_, upd_same, putL_map inr_inj ks v kvs⟩, mt _⟩
    | inl k' =>
      cases kvs with
      | cons p r => exact absurd (hk (.inr p.1, p.2) (by simp)) (by simp [sameKind])
      | nil =>
        cases (show y = kV k' from k)
        have x := DPut.k (k := k') (v := v) (a := a) (H := upd H a (.dK [])) upd_same (Nat.lt_of_le_of_lt (Nat.zero_le _) hl)
        rw [upd_upd] at x
        exact ⟨_, .inr (.inr ⟨e, x⟩), .inl ⟨_, upd_same, putL_map inl_inj k' v []⟩, mk _⟩
end
/-! ### as data -/
inductive DRel (g : G) (S : Addr → Prop) (H : Hp) : List (UK × V) → List (D × D) → Prop
  | nil : DRel g S H [] []
  | cons {u : UK} {v : V} {d : D} {l : List (UK × V)} {kd : List (D × D)} : Dq g S H v d → DRel g S H l kd → DRel g S H ((u, v) :: l) ((uD u, d) :: kd)
def hasU (kd : List (D × D)) (u : UK) : Bool := kd.any fun p => decide (keyR p.1 = some u)
def getU (kd : List (D × D)) (u : UK) : Option D := (kd.find? fun p => decide (keyR p.1 = some u)).map (·.2)
def setU (kd : List (D × D)) (u : UK) (d : D) : List (D × D) := if hasU kd u = true then kd.map (fun p => if keyR p.1 = some u then (p.1, d) else p) else kd ++ [(uD u, d)]
def kindsU (kd : List (D × D)) (u : UK) : Bool := kd.all fun p => match keyR p.1 with
  | some u' => sameKind u' u
  | none => false
def putU (kd : List (D × D)) (u : UK) (d : D) : Option (List (D × D)) := if kindsU kd u = true ∧ kd.length < sizeLine then some (setU kd u d) else none
section
variable {g : G} {S : Addr → Prop} {H : Hp} {l : List (UK × V)} {kd : List (D × D)}
theorem DRel.len (r : DRel g S H l kd) : l.length = kd.length := by
  induction r with
  | nil => rfl
  | cons _ _ ih => rw [List.length_cons, List.length_cons, ih]
theorem DRel.kinds {u : UK} (r : DRel g S H l kd) (h : kindsU kd u = true) : ∀ p ∈ l, sameKind p.1 u = true := by
  induction r with
  | nil => intro p hp; cases hp
  | cons q t ih =>
    intro p hp
    unfold kindsU at h
    rw [List.all_cons, Bool.and_eq_true, keyR_uD] at h
    rcases List.mem_cons.mp hp with rfl | hp
    · exact h.1
    · exact ih h.2 p hp
theorem DRel.any (u : UK) (r : DRel g S H l kd) : (l.any fun p => decide (p.1 = u)) = hasU kd u := by
  induction r with
  | nil => rfl
  | @cons u' v d l' kd' q t ih =>
    have e : hasU ((uD u', d) :: kd') u = (decide (keyR (uD u') = some u) || hasU kd' u) := rfl
    rw [List.any_cons, e, ih, keyR_uD]
    congr 1
    exact decide_eq_decide.mpr ⟨fun z => congrArg some z, Option.some.inj⟩
theorem DRel.find {u : UK} (r : DRel g S H l kd) : (getL l u).isSome = (getU kd u).isSome ∧ ∀ d, getU kd u = some d → ∃ v, getL l u = some v ∧ Dq g S H v d := by
  induction r with
  | nil => exact ⟨rfl, fun d h => by cases h⟩
  | @cons u' v d l' kd' q t ih =>
    unfold getL getU
    by_cases e : u' = u
    · rw [List.find?_cons_of_pos (by simp [e]), List.find?_cons_of_pos (by simp [keyR_uD, e])]
      exact ⟨rfl, fun d' h => by cases h; exact ⟨v, rfl, q⟩⟩
    · rw [List.find?_cons_of_neg (by simp [e]), List.find?_cons_of_neg (by simp [keyR_uD]; exact e)]
      exact ih
theorem DRel.map {u : UK} {v : V} {d : D} (r : DRel g S H l kd) (q : Dq g S H v d) : DRel g S H (l.map fun p => if p.1 = u then (p.1, v) else p) (kd.map fun p => if keyR p.1 = some u then (p.1, d) else p) := by
  induction r with
  | nil => exact .nil
  | @cons u' v' d' l' kd' q' t ih =>
    rw [List.map_cons, List.map_cons]
    by_cases e : u' = u
    · rw [if_pos e, if_pos (show keyR (uD u') = some u by rw [keyR_uD, e])]
      exact .cons q ih
    · rw [if_neg e, if_neg (show ¬ keyR (uD u') = some u by rw [keyR_uD]; exact fun z => e (Option.some.inj z))]
      exact .cons q' ih
theorem DRel.push {u : UK} {v : V} {d : D} (r : DRel g S H l kd) (q : Dq g S H v d) : DRel g S H (l ++ [(u, v)]) (kd ++ [(uD u, d)]) := by
  induction r with
  | nil => exact .cons q .nil
  | cons q' t ih => exact .cons q' ih
theorem DRel.put {u : UK} {v : V} {d : D} (r : DRel g S H l kd) (q : Dq g S H v d) : DRel g S H (putL l u v) (setU kd u d) := by
  unfold putL setU
  rw [r.any u]
  split
  · exact r.map q
  · exact r.push q
theorem DRel.imp {S' : Addr → Prop} {H' : Hp} (r : DRel g S H l kd) (h : ∀ v d, Dq g S H v d → Dq g S' H' v d) : DRel g S' H' l kd := by
  induction r with
  | nil => exact .nil
  | cons q t ih => exact .cons (h _ _ q) ih
theorem DRel.keys (r : DRel g S H l kd) : kd.map (·.1) = l.map fun p => uD p.1 := by
  induction r with
  | nil => rfl
  | cons q t ih => rw [List.map_cons, List.map_cons, ih]
theorem DRel.all (r : DRel g S H l kd) : DqAll g S H (l.map (·.2)) (kd.map (·.2)) := by
  induction r with
  | nil => exact .nil
  | cons q t ih => exact .cons q ih
theorem drel_of : ∀ {l : List (UK × V)} {kd : List (D × D)}, kd.map (·.1) = l.map (fun p => uD p.1) → DqAll g S H (l.map (·.2)) (kd.map (·.2)) → DRel g S H l kd
  | [], [], _, _ => .nil
  | [], _ :: _, h, _ => by cases h
  | _ :: _, [], h, _ => by cases h
  | (u, v) :: l, (k, d) :: kd, h, a => by
    have h1 : k = uD u := (List.cons.inj h).1
    subst h1
    cases a with
    | cons r t => exact .cons r (drel_of (List.cons.inj h).2 t)
/-- a dict's data: none for the state's token; ahead of a locked one's stands a sign -/
def unl : List (D × D) → Option (List (D × D))
  | [(.none, .none)] => none
  | (.none, .bool true) :: kd => some kd
  | kd => some kd
theorem kD_none {k : Key} : kD k ≠ .none := by cases k <;> exact fun e => by cases e
theorem unl_keys {kd : List (D × D)} (h : ∀ p ∈ kd, p.1 ≠ .none) : unl kd = some kd := by
  unfold unl
  split
  · exact absurd rfl (h _ List.mem_cons_self)
  · exact absurd rfl (h _ List.mem_cons_self)
  · rfl
theorem unl_K {kd : List (D × D)} {kvs : List (Key × V)} (e : kd.map (·.1) = kvs.map (fun p => kD p.1)) : unl kd = some kd := unl_keys fun p hp z => by
  have : p.1 ∈ kvs.map (fun p => kD p.1) := by rw [← e]; exact List.mem_map.mpr ⟨p, hp, rfl⟩
  obtain ⟨q, _, e'⟩ := List.mem_map.mp this
  rw [z] at e'
  exact kD_none e'
theorem unl_T {kd : List (D × D)} {kvs : List (List Key × V)} (e : kd.map (·.1) = kvs.map (fun p => ksD p.1)) : unl kd = some kd := unl_keys fun p hp z => by
  have : p.1 ∈ kvs.map (fun p => ksD p.1) := by rw [← e]; exact List.mem_map.mpr ⟨p, hp, rfl⟩
  obtain ⟨q, _, e'⟩ := List.mem_map.mp this
  rw [z] at e'
  cases e'
/-- a dict at hand -/
theorem Dq.dict {v : V} {kd kd' : List (D × D)} (r : Dq g S H v (.dict kd)) (n : unl kd = some kd') : ∃ a l, v = .ref a ∧ ¬ S a ∧ DAtR H a l ∧ DRel g S H l kd' := by
  cases r with
  | dk h e k a =>
    rw [unl_K k] at n
    cases n
    exact ⟨_, _, rfl, h, .inl ⟨_, e, rfl⟩, drel_of (by rw [k, List.map_map]; rfl) (by rw [List.map_map]; exact a)⟩
  | dt h e k a =>
    rw [unl_T k] at n
    cases n
    exact ⟨_, _, rfl, h, .inr ⟨_, e, rfl⟩, drel_of (by rw [k, List.map_map]; rfl) (by rw [List.map_map]; exact a)⟩
  | lkk h e k a =>
    cases n
    exact ⟨_, _, rfl, h, .inl ⟨_, .inr ⟨_, e⟩, rfl⟩, drel_of (by rw [k, List.map_map]; rfl) (by rw [List.map_map]; exact a)⟩
  | lkt h e k a =>
    cases n
    exact ⟨_, _, rfl, h, .inr ⟨_, .inr ⟨_, e⟩, rfl⟩, drel_of (by rw [k, List.map_map]; rfl) (by rw [List.map_map]; exact a)⟩
  | st h => cases n
theorem Dq.ofD {a : Addr} (h : ¬ S a) (d : DAt H a l) (r : DRel g S H l kd) : Dq g S H (.ref a) (.dict kd) := by
  rcases d with ⟨kvs, e, rfl⟩ | ⟨kvs, e, rfl⟩
  · exact .dk h (.of e) (by rw [r.keys, List.map_map]; rfl) (by have := r.all; rwa [List.map_map] at this)
  · exact .dt h (.of e) (by rw [r.keys, List.map_map]; rfl) (by have := r.all; rwa [List.map_map] at this)
end
end W3

set_option Elab.async false
set_option linter.all false
set_option maxRecDepth 100000
set_option maxHeartbeats 4000000
/-! W3w: {k: v for ..}; k in d. -/
namespace W3
open PySem PySem.Spec L2

section
variable {g : G} {S : Addr → Prop} {H H' : Hp} {s : DS} {D : Addr} {o o' : HO}
theorem DAt.ob {a : Addr} {l : List (UK × V)} (d : DAt H a l) : ∃ o, H a = some o ∧ Mu o := by
  rcases d with ⟨kvs, e, _⟩ | ⟨kvs, e, _⟩
  · exact ⟨_, e, .dK⟩
  · exact ⟨_, e, .dT⟩
theorem DAt.at' {a : Addr} {l : List (UK × V)} (d : DAt H a l) (k : ∀ o, H a = some o → Mu o → H' a = some o) : DAt H' a l := by
  rcases d with ⟨kvs, e, z⟩ | ⟨kvs, e, z⟩
  · exact .inl ⟨_, k _ e .dK, z⟩
  · exact .inr ⟨_, k _ e .dT, z⟩
end
def dcM (f : GV) (t : BV) (ek ev : EV) (η : Env) : List D → List (D × D) → M (List (D × D))
  | [], acc => M.ret acc
  | d :: ds, acc => match f d η with
    | none => M.bad
    | some η1 => M.bind (t η1) fun b => if b = true then M.bind (ek η1) fun k => M.bind (ev η1) fun v => M.bind (M.lift ((keyU k).bind fun u => putU acc u v)) fun acc' => dcM f t ek ev η ds acc' else dcM f t ek ev η ds acc
/-- no state's token -/
def dictD (kd : List (D × D)) : Option D := match kd with
  | [(.none, .none)] => none
  | kd => some (.dict kd)
def eDc (src : IV) (f : GV) (t : BV) (ek ev : EV) (vs : List Nat) : EV := fun η => M.bind (src η) fun ds => M.bind (noExc (dcM f t ek ev (wipeE η vs) ds [])) fun kd => M.lift (dictD kd)
structure DcSt (K : PySem.W.Frag) (g : G) (S : Addr → Prop) (D : Addr) (H : Hp) (σ : St) (η : Env) (s : DS) (l : List (UK × V)) (kd : List (PyData × PyData)) : Prop where
  here : DAt H D l
  all : DRel g S H l kd
  at_ : At K g S H σ η s
theorem DcSt.ext {K : PySem.W.Frag} {g : G} {S : Addr → Prop} {D : Addr} {H H' : Hp} {σ : St} {η : Env} {s s' : DS} {l : List (UK × V)} {kd : List (PyData × PyData)} (c : DcSt K g S D H σ η s l kd) (ne : ∀ a, g.st = some a → a ≠ D ∧ g.sc ≠ D) (e : Ext g H H') (k : Ok g H' s') : DcSt K g S D H' σ η s' l kd :=
  ⟨c.here.at' fun o q m => e.keep _ _ q (fun z => (ne D z.symm).1 rfl) m.tbl, c.all.imp fun v d r => r.ext c.at_.sok.st c.at_.ok.stl e, c.at_.ext e k⟩
section
variable {X : Cx} {W : XW}
theorem dc_bridge {W : WW} {K : PySem.W.Frag} {g : G} {S : Addr → Prop} {σ : St} {H1 : Hp} {η : Env} {s1 : DS} {f : GV} {t : BV} {ek ev : EV} {vs us : List Nat} {ds : List PyData} {J : It} {Q : VK} (hu : ∀ i ∈ us, i ∈ vs) (at1 : At K g S H1 σ η s1) (hJ : Yields g S J ds H1)
    (q : Res W g H1 (M.bind (noExc (dcM f t ek ev (wipeE η vs) ds [])) (fun kd => M.lift (dictD kd)) s1) fun d H' _ => ∀ v, Dq g S H' v d → Q v H') :
    ∀ D, H1 D = none → ∃ W : Nat → Nat → Hp → Prop, (∃ m, W 0 m (upd H1 D (.dK []))) ∧ ∀ i m H, W i m H →
      (J.stop i H ∧ Q (.ref D) H) ∨ (J.go i H ∧ ∃ Nx : Hp → Prop, (∀ H', Nx H' → ∃ m', m' < m ∧ W (i + 1) m' H') ∧ ∀ x H', J.yld i H x H' → tG K us f x (wipe σ vs) H' fun σ2 H2 => wipe σ2 vs = wipe σ vs ∧ tDT K WF t σ2 H2 fun b H3 =>
        if b = true then tD K WF ek σ2 H3 fun y H4 => tD K WF ev σ2 H4 fun z H5 => ∃ H6, DPutW H5 D y z H6 ∧ Nx H6 else Nx H3) := fun D hD => by
  have ne := at1.ok.ne hD
  have hw : wipe (wipe σ vs) vs = wipe σ vs := (Off.ofwipe vs).wipe
  have hJ1 := hJ.plus (o := .dK []) hD
  have hS : plus S D D := .inr rfl
  have at0 := (at1.plusO hD (o := .dK []) .dK).wipe vs
  let Wv : Nat → Nat → Hp → Prop := fun i m H => m = ds.length - i ∧ i ≤ ds.length ∧ ∃ s l kd, DcSt K g (plus S D) D H (wipe σ vs) (wipeE η vs) s l kd ∧ Ext g H1 H ∧ Pres (plus S D) (upd H1 D (.dK [])) H ∧ Res W g H1 (M.bind (noExc (dcM f t ek ev (wipeE η vs) (ds.drop i) kd)) (fun kd => M.lift (dictD kd)) s) fun d H' _ => ∀ v, Dq g S H' v d → Q v H'
  refine ⟨Wv, ⟨ds.length, by simp, Nat.zero_le _, s1, [], [], ⟨.inl ⟨[], upd_same, rfl⟩, .nil, at0⟩, Ext.same (same_upd hD), .refl, q⟩, fun i m H w => ?_⟩
  obtain ⟨hm, hi, s, l, kd, c, e1, p1, q⟩ := w
  obtain ⟨y1, y2⟩ := hJ1 (plus S D) (fun a h => .inl h) i H p1
  by_cases hlt : i < ds.length
  · have hx : ds[i]? = some ds[i] := List.getElem?_eq_getElem hlt
    obtain ⟨go, yld⟩ := y1 _ hx
    refine .inr ⟨go, fun H' => Wv (i + 1) (ds.length - (i + 1)) H', fun H' h => ⟨_, by omega, h⟩, fun x H' y => ?_⟩
    obtain ⟨sm, rx⟩ := yld x H' y
    have at2 := c.at_.ext (Ext.same sm) (c.at_.ok.same sm)
    have c2 := c.ext ne (Ext.same sm) (c.at_.ok.same sm)
    rw [List.drop_eq_getElem_cons hlt] at q
    unfold dcM at q
    cases hf : f ds[i] (wipeE η vs) with
    | none =>
      rw [hf] at q
      exact q.elim
    | some η1 =>
      rw [hf] at q
      have e2 := e1.trans (Ext.same sm)
      refine ⟨g, _, _, s, ds[i], η1, at2, rx, hf, fun σ2 o2 at3 => ⟨by have := (o2.mono hu).wipe; rw [this, hw], tDT.mk at3 (((Res.nx q).ext e2).imp fun b H3 s3 e3 k3 q3 at4 => ?_)⟩⟩
      have c3 := c2.ext ne e3 k3
      have e13 : Ext g H1 H3 := (e1.trans (Ext.same sm)).trans e3
      have p13 : Pres (plus S D) (upd H1 D (.dK [])) H3 := (p1.trans (Pres.same sm)).trans (e3.pres c2.at_.sok.st)
      split
      · rename_i hb
        rw [if_pos hb] at q3
        refine tD.mk at4 (((Res.nx q3).ext e13).imp fun dk H4 s4 e4 k4 q4 y at5 ry => ?_)
        have c4 := c3.ext ne e4 k4
        refine tD.mk at5 (((Res.nx q4).ext (e13.trans e4)).imp fun dv H5 s5 e5 k5 q5 z at6 rz => ?_)
        have c5 := c4.ext ne e5 k5
        have ry5 := ry.ext at5.sok.st at5.ok.stl e5
        have e15 : Ext g H1 H5 := (e13.trans e4).trans e5
        have p15 := (p13.trans (e4.pres c3.at_.sok.st)).trans (e5.pres c4.at_.sok.st)
        have q5' := Res.nx q5
        obtain ⟨kd', hk, q6⟩ := Res.lift q5'
        obtain ⟨u, hku, hput⟩ := Option.bind_eq_some_iff.mp hk
        unfold putU at hput
        split at hput
        · rename_i cc
          cases hput
          obtain ⟨o', pw, da, mo⟩ := c5.here.put (v := z) (key_at ry5 hku) (c5.all.kinds cc.1) (by rw [c5.all.len]; exact cc.2)
          obtain ⟨o, ho, _⟩ := c5.here.ob
          have mu := c5.at_.sok.mu D o hS ho
          have p5 : Pres (plus S D) H5 (upd H5 D o') := .updO hS ho mu
          exact ⟨_, pw, rfl, hlt, s5, _, _, ⟨da, (c5.all.put rz).imp fun v d r => r.pres c5.at_.sok.mu p5, c5.at_.updO hS ho mo ne⟩, e15.updN hD at1.ok.stl, p15.trans p5, q6 H5 e15 k5⟩
        · cases hput
      · rename_i hb
        rw [if_neg hb] at q3
        exact ⟨rfl, hlt, s3, _, _, c3, e13, p13, q3⟩
  · have e : i = ds.length := by omega
    subst e
    rw [List.drop_length] at q
    have q' : Res W g H1 (M.lift (dictD kd) s) fun d H' _ => ∀ v, Dq g S H' v d → Q v H' := q
    obtain ⟨z, hz, q2⟩ := Res.lift q'
    refine .inl ⟨y2 (Nat.le_refl _), ?_⟩
    unfold dictD at hz
    split at hz
    · cases hz
    · cases hz
      exact q2 H e1 c.at_.ok (.ref D) (.ofD (not_S at1.sok hD) c.here (c.all.imp fun v d r => r.anti fun a h => .inl h))
variable {kx vx tg iter : Expr} {ifs : List Expr} {scope : Scope} {own : List (Str × Nat)} {pos : Pos} {src : IV} {f : GV} {t : BV} {ek ev : EV} {us : List Nat} {k : Nat}
/-- {k: v for tg in iter if ..} -/
theorem d_dc (hr : Room k X.A) (hc : X.calm = true) (hN : X.N.Nodup) (ok : BlkOk X.N X.env.scope scope own) (hu : ∀ i ∈ us, i ∈ own.map (·.2)) (hi : PID X W tg iter src)
    (hg : Blk X scope fun Y => PGD Y us tg f) (ht : Blk X scope fun Y => PTsD Y WF ifs t) (hk : Blk X scope fun Y => PED Y WF kx ek) (he : Blk X scope fun Y => PED Y WF vx ev) (hs : ∀ x, foldedSetIterable iter X.env x = pure x := by intro _; rfl) :
    PED X W (.DictComp kx vx [⟨tg, iter, ifs, 0⟩] scope pos) (eDc src f t ek ev (own.map (·.2))) := ⟨(pe_dcW (by have := hr.units; omega) hc hN hi.pi ok (fun s H C cl fp => (hg s H C cl fp).pg) (fun s H C cl fp => (ht s H C cl fp).pt) (fun s H C cl fp => (hk s H C cl fp).pe) (fun s H C cl fp => (he s H C cl fp).pe) hs).con fun σ H Q ⟨g, S, η, s, at_, q⟩ =>
  ⟨g, S, η, s, at_, (Res.bind q).imp fun ds H1 s1 e1 k1 q1 J hJ => dc_bridge hu (at_.ext e1 k1) hJ q1⟩⟩
variable {O : List Nat} {vs : Option (List Nat)} {Ob Or : List Nat} {y : Str} {py spos : Pos}
theorem s_setDc (i : Nat) (hr : Room k X.A) (hc : X.calm = true) (hN : X.N.Nodup) (ok : BlkOk X.N X.env.scope scope own) (hu : ∀ i ∈ us, i ∈ own.map (·.2)) (hi : PID X W tg iter src)
    (hg : Blk X scope fun Y => PGD Y us tg f) (ht : Blk X scope fun Y => PTsD Y WF ifs t) (hk' : Blk X scope fun Y => PED Y WF kx ek) (he : Blk X scope fun Y => PED Y WF vx ev) (hy : X.N[i]? = some y := by rfl) (hyl : X.env.scope.names.lookup y = some .local := by rfl) (hO : decide (i ∉ O) = true := by rfl) (hv : inV vs [i] = true := by rfl)
    (hk : X.env.scope.kind = .function := by rfl) (hl : (py.line == pos.line) = true := by rfl) (ha : (scope.names.any fun (n, k) => n == y && (k == .local || k == .cell)) = false := by decide) (hs : ∀ x, foldedSetIterable iter X.env x = pure x := by intro _; rfl) :
    PSD X W vs O O Ob Or (.Assign [.Name y py] (.DictComp kx vx [⟨tg, iter, ifs, 0⟩] scope pos) spos) (fSet O i (eDc src f t ek ev (own.map (·.2)))) :=
  ⟨(ps_setDc (by have := hr.units; omega) hc hN hy hyl (swD_true hk hyl hl ha) hi.pi ok (fun s H C cl fp => (hg s H C cl fp).pg) (fun s H C cl fp => (ht s H C cl fp).pt) (fun s H C cl fp => (hk' s H C cl fp).pe) (fun s H C cl fp => (he s H C cl fp).pe) hs).con fun σ H E ⟨g, Sb, H0, σ0, η, s, a, q⟩ => by
    have key : tD X.K W (eDc src f t ek ev (own.map (·.2))) σ H fun x H1 => gName i x σ H1 E.nx := modeA a q fun S v d H' s' a' at' r st r' q' => set_bridge hO hv a' at' r st q' rfl
    obtain ⟨g', S', η', s', at', q'⟩ := key
    exact ⟨g', S', η', s', at', (Res.bind q').imp fun ds H1 s1 e1 k1 q1 J hJ => dc_bridge hu (at'.ext e1 k1) hJ q1⟩⟩
end
/-! ### k in d -/
def dInB (d : D) (kd : List (D × D)) : Option Bool := (keyU d).bind fun u => if kindsU kd u = true then some (getU kd u).isSome else none
def inAD (d e : D) : Option D := match e with
  | .dict kd => (unl kd).bind fun kd => (dInB d kd).map .bool
  | e => inD d e
def ninAD (d e : D) : Option D := match e with
  | .dict kd => (unl kd).bind fun kd => (dInB d kd).map fun b => .bool (!b)
  | e => ninD d e
def rInW (b : Bool) : R2 := fun y x H Q => ∃ a o, x = .ref a ∧ DGetW H a y o ∧ Q (.bl (o.isSome == b)) H
theorem op_inW {X : Cx} {k : Nat} (hr : Room k X.A) : OpR X (compareOp .In) (rInW true) := by
  intro pins s σ H x y v u Q I rx ry h
  obtain ⟨a, o, rfl, g, q⟩ := h
  cases ry
  refine d_inW (by have := room65 hr; omega) I g rx fun s' I' => ⟨.bl o.isSome, _, I', rfl, ?_⟩
  cases hb : o.isSome <;> rw [hb] at q <;> exact q
theorem op_ninW {X : Cx} {k : Nat} (hr : Room k X.A) : OpR X (compareOp .NotIn) (rInW false) := by
  intro pins s σ H x y v u Q I rx ry h
  obtain ⟨a, o, rfl, g, q⟩ := h
  cases ry
  refine d_notInW (by have := room65 hr; omega) I g rx fun s' I' => ⟨.bl (!o.isSome), _, I', rfl, ?_⟩
  cases hb : o.isSome <;> rw [hb] at q <;> exact q
theorem dIn_at {g : G} {S : Addr → Prop} {H : Hp} {x y : V} {d : D} {kd kd' : List (D × D)} {b : Bool} (rx : Dq g S H x d) (ry : Dq g S H y (.dict kd)) (n : unl kd = some kd') (h : dInB d kd' = some b) : ∃ a o, y = .ref a ∧ DGetW H a x o ∧ o.isSome = b := by
  obtain ⟨a, l, rfl, _, da, dr⟩ := ry.dict n
  obtain ⟨u, hu, h⟩ := Option.bind_eq_some_iff.mp h
  split at h
  · rename_i c
    cases h
    exact ⟨a, _, rfl, da.get (key_at rx hu) (dr.kinds c), dr.find.1⟩
  · cases h
theorem c_inA {X : Cx} {k : Nat} (hr : Room k X.A) : CmpOk X .In inAD := by
  obtain ⟨r, h1, h2⟩ := (c_in hr).r
  refine ⟨_, (op_inW hr).or h1, fun g S H s x y d e z Q hK so ok rx ry h q => ?_⟩
  unfold inAD at h
  split at h
  · obtain ⟨kd', n, h⟩ := Option.bind_eq_some_iff.mp h
    obtain ⟨b, hb, rfl⟩ := Option.map_eq_some_iff.mp h
    obtain ⟨a, o, e1, e2, e3⟩ := dIn_at rx ry n hb
    refine .inl ⟨a, o, e1, e2, ?_⟩
    rw [e3]
    have := q H _ Ext.refl ok (.bl b)
    cases b <;> exact this
  · exact .inr (h2 g S H s x y d _ z Q hK so ok rx ry h q)
theorem c_ninA {X : Cx} {k : Nat} (hr : Room k X.A) : CmpOk X .NotIn ninAD := by
  obtain ⟨r, h1, h2⟩ := (c_nin hr).r
  refine ⟨_, (op_ninW hr).or h1, fun g S H s x y d e z Q hK so ok rx ry h q => ?_⟩
  unfold ninAD at h
  split at h
  · obtain ⟨kd', n, h⟩ := Option.bind_eq_some_iff.mp h
    obtain ⟨b, hb, rfl⟩ := Option.map_eq_some_iff.mp h
    obtain ⟨a, o, e1, e2, e3⟩ := dIn_at rx ry n hb
    refine .inl ⟨a, o, e1, e2, ?_⟩
    rw [e3]
    have := q H _ Ext.refl ok (.bl (!b))
    cases b <;> exact this
  · exact .inr (h2 g S H s x y d _ z Q hK so ok rx ry h q)
end W3

set_option Elab.async false
set_option linter.all false
set_option maxRecDepth 100000
set_option maxHeartbeats 4000000
/-! W3z: the end. -/
namespace W3
open PySem PySem.Spec L2
open PyProof.Rows hiding St

/-- what the top's text tells of a def -/
structure FunK (K : PySem.W.Frag) (x : Str) (st : Stmt) : Prop where
  ex : ∃ (f : Addr) (fd : FuncData), PySem.W.nsIn K mainGlobals x = some (some (.ref f)) ∧ Fun K x x st f fd
theorem fk_mk {K : PySem.W.Frag} {x : Str} {st : Stmt} {f : Addr} {oc : Value} {od an : Option Addr} {osl : Array (Option Value)} {kV doc pm cdv ct : Value} (a : PySem.W.nsIn K mainGlobals x = some (some (.ref f)))
    (l : K.lookup f = some ⟨oc, od, .func (PySem.W.fnOf x x (defArgs st) (defBody st) (defScope st) .none kV doc pm an cdv ct), osl⟩) (c : PySem.W.codeIn K cdv x = true) (k : PySem.W.keepIn K (.ref f) = true) : FunK K x st := ⟨_, _, a, fun_mk l c k⟩
theorem FunK.has {K : PySem.W.Frag} {x : Str} {st : Stmt} {h : Heap} {mg : Str → Option Value} (F : FunK K x st) (X : K.In h) (G : h.Ns mainGlobals mg) : FunHas K mg x st := by
  obtain ⟨f, fd, a, F⟩ := F.ex
  exact ⟨f, fd, F, PySem.W.mg_of X G a⟩
theorem FunK.hasG {K : PySem.W.Frag} {x : Str} {st : Stmt} {h base : Heap} {mg : Str → Option Value} (F : FunK K x st) (X : K.In h) (G : h.Ns mainGlobals mg) (hx : x ∈ gexNames) (hn : ∃ c P, PySem.W.tabIn K x = some (c, P)) (T : ∀ c P, PySem.W.tabIn K x = some (c, P) → GxR.TabB base mg c P) : FunHasG K mg base x st := by
  obtain ⟨f, fd, a, F⟩ := F.ex
  obtain ⟨c, P, t⟩ := hn
  refine ⟨f, fd, F, PySem.W.mg_of X G a, c, P, ?_, T c P t, ?_⟩
  · obtain ⟨oc, od, kV, dc, pm, an, cdv, ct, osl, e, lk, _⟩ := F.ex
    unfold PySem.W.tabIn at t
    rw [a] at t
    simp only [lk] at t
    split at t
    · rename_i c' hc
      split at t
      · split at t
        · cases t
          exact hc
        · cases t
      · cases t
    · cases t
  · unfold tabsOf
    exact List.mem_filterMap.mpr ⟨x, hx, by rw [t]; rfl⟩
/-- what the top's text tells of a class of exceptions -/
structure ExcK (K : PySem.W.Frag) (x : Str) : Prop where
  ex : ∃ (C : Addr), PySem.W.nsIn K mainGlobals x = some (some (.ref C)) ∧ PySem.W.excIn K C [.type "ValueError", .type "Exception", .type "BaseException", .type "object"] "ValueError.__new__" = true ∧ PySem.W.keepIn K (.ref C) = true ∧ PySem.W.subIn K (.ref C) (.type "BaseException") = some true ∧ PySem.W.typeIn K (.ref C) = some (.type "type") ∧
    PySem.W.isClsIn K C = true ∧ PySem.W.subIn K (.ref C) (.ref C) = some true
theorem ek_mk {K : PySem.W.Frag} {x : Str} {C : Addr} (a : PySem.W.nsIn K mainGlobals x = some (some (.ref C))) (e : PySem.W.excIn K C [.type "ValueError", .type "Exception", .type "BaseException", .type "object"] "ValueError.__new__" = true) (k : PySem.W.keepIn K (.ref C) = true) (s : PySem.W.subIn K (.ref C) (.type "BaseException") = some true)
    (t : PySem.W.typeIn K (.ref C) = some (.type "type")) (i : PySem.W.isClsIn K C = true) (r : PySem.W.subIn K (.ref C) (.ref C) = some true) : ExcK K x := ⟨C, a, e, k, s, t, i, r⟩
theorem ExcK.has {K : PySem.W.Frag} {x : Str} {h : Heap} {mg : Str → Option Value} (F : ExcK K x) (X : K.In h) (G : h.Ns mainGlobals mg) : ExcHas K mg x := by
  obtain ⟨C, a, e, k, s, t, i, r⟩ := F.ex
  refine ⟨C, _, _, _, _, PySem.F.excBase_ValueError, e, PySem.W.mg_of X G a, k, s, t, ?_⟩
  have e1 : (PySem.W.subIn K (.ref C) (.type "BaseException") == some true) = true := by rw [s] <;> rfl
  have e2 : ((PySem.W.clsIn K C).isSome && PySem.W.typeIn K (.ref C) == some (.type "type")) = true := by
    have i' : (PySem.W.clsIn K C).isSome = true := i
    rw [i', t] <;> rfl
  show (if (PySem.W.subIn K (.ref C) (.type "BaseException") == some true) = true then (if ((PySem.W.clsIn K C).isSome && PySem.W.typeIn K (.ref C) == some (.type "type")) = true then PySem.W.subIn K (.ref C) (.ref C) else none) else none) = some true
  rw [if_pos e1, if_pos e2]
  exact r
theorem ck_int {K : PySem.W.Frag} {x : Str} {n : Int} {h : Heap} {mg : Str → Option Value} (a : ∃ t, PySem.W.nsIn K mainGlobals x = some (some (.int n t))) (X : K.In h) (G : h.Ns mainGlobals mg) : ∃ t, mg x = some (.int n t) := let ⟨t, e⟩ := a; ⟨t, PySem.W.mg_of X G e⟩
theorem ck_str {K : PySem.W.Frag} {x z : Str} {h : Heap} {mg : Str → Option Value} (a : ∃ t, PySem.W.nsIn K mainGlobals x = some (some (.str z t))) (X : K.In h) (G : h.Ns mainGlobals mg) : ∃ t, mg x = some (.str z t) := let ⟨t, e⟩ := a; ⟨t, PySem.W.mg_of X G e⟩
theorem ci_mk {K : PySem.W.Frag} {x : Str} {n : Int} {t : Nat} (a : PySem.W.nsIn K mainGlobals x = some (some (.int n t))) : ∃ t, PySem.W.nsIn K mainGlobals x = some (some (.int n t)) := ⟨t, a⟩
theorem cs_mk {K : PySem.W.Frag} {x z : Str} {t : Nat} (a : PySem.W.nsIn K mainGlobals x = some (some (.str z t))) : ∃ t, PySem.W.nsIn K mainGlobals x = some (some (.str z t)) := ⟨t, a⟩
def tabOk (K : PySem.W.Frag) (x : Str) : Bool := match PySem.W.tabIn K x with
  | some (_, P) => (K.lookup P).isNone
  | none => false
theorem tb_mk {K : PySem.W.Frag} {x : Str} (h : tabOk K x = true) : ∃ c P, PySem.W.tabIn K x = some (c, P) ∧ K.lookup P = none := by
  unfold tabOk at h
  split at h
  · rename_i c P e
    exact ⟨c, P, e, Option.isNone_iff_eq_none.mp h⟩
  · cases h
/-- the law's def -/
theorem law_fd {K : PySem.W.Frag} {st : Stmt} {h : Heap} {mg : Str → Option Value} {fa : Addr} (F : FunK K "law" st) (X : K.In h) (G : h.Ns mainGlobals mg) (hfa : mg "law" = some (.ref fa))
    (hb : ∀ (kV doc pm : Value) (an : Option Addr) (cdv ct : Value) (s : Shared) (v : Value), BindsTo s (PySem.W.fnOf "law" "law" (defArgs st) (defBody st) (defScope st) .none kV doc pm an cdv ct) ⟨[v], []⟩ [("script", v)]) :
    ∃ fd : FuncData, Fun K "law" "law" st fa fd ∧ ∀ (s : Shared) (v : Value), BindsTo s fd ⟨[v], []⟩ [("script", v)] := by
  obtain ⟨f, fd, a, F⟩ := F.ex
  have e := hfa.symm.trans (PySem.W.mg_of X G a)
  cases e
  refine ⟨fd, F, ?_⟩
  obtain ⟨oc, od, kV, dc, pm, an, cdv, ct, osl, e, _, _⟩ := F.ex
  subst e
  exact fun s v => hb kV dc pm an cdv ct s v
theorem walk_W3 {l : PySem.W.OpenLaw} {n k : Nat} {q : Program} {loose : List Str} {XP : (Str → Option Value) → Heap → Prop} {YP : World → Heap → Prop} {d : DefRec} {K : Params → PySem.W.Frag} {x : Str}
    (hn : l.most = some n) (hn2 : n ≤ sizeLine) (hdf : d.params.defaults = []) (hr : Room k callerA) (hrec : ∀ x ∈ gexNames, ((recsOf q).find? fun e => e.name == x).isSome = true) (hY : ∀ (w : World) (h : Heap), YP w h → (K w.params).In h)
    (F : ∀ (w : World) (mg : Str → Option Value) (fa : Addr) (h : Heap), (K w.params).In h → h.Ns mainGlobals mg → mg d.name = some (.ref fa) →
      (∀ x ∈ gexNames, ∃ c P, PySem.W.tabIn (K w.params) x = some (c, P) ∧ (K w.params).lookup P = none) ∧ ∃ fd : FuncData, (∀ (s : Shared) (u : Value), BindsTo s fd ⟨[u], []⟩ [(x, u)]) ∧
        ∀ base : Heap, (K w.params).In base → base.Ns mainGlobals mg → (∀ x ∈ gexNames, ∀ c P, PySem.W.tabIn (K w.params) x = some (c, P) → GxR.TabB base mg c P) → FnOk l.prog w (K w.params) mg base (L2.CX l.prog w) k fa fd [x] (spLaw (K w.params) n)) :
    PySem.W.WalkO q loose XP YP l.row.toRowW d [] (fun f vs => PySem.call f vs) := by
  refine Att.attach_callB hn hdf fun w s₀ s₁ mg mb fa o pm cd doc a vs ns G Y ho hd hcd hmg hobj hints hlen hbits hg => ?_
  have KX := hY w _ Y
  obtain ⟨hN, fd, hb, hF⟩ := F w mg fa _ KX G.T.g hmg
  have mem : ∀ p ∈ gexNames.filterMap (PySem.W.tabIn (K w.params)), ∃ x ∈ gexNames, PySem.W.tabIn (K w.params) x = some p := fun p hp => List.mem_filterMap.mp hp
  have T : ∀ p ∈ gexNames.filterMap (PySem.W.tabIn (K w.params)), PySem.W.CodeHd s₁.heap p.1 p.2 ∧ s₁.heap.get? p.2 = some (PySem.W.tabObj #[]) := fun p hp => by
    obtain ⟨x, hx, e⟩ := mem p hp
    obtain ⟨d', hd'⟩ := Option.isSome_iff_exists.mp (hrec x hx)
    exact PySem.W.tab_of G.T KX hd' e
  refine LamX.law_callTs (sp := spLaw (K w.params) n) (cs := gexNames.filterMap (PySem.W.tabIn (K w.params))) KX G.T.g G.T.b G.T.builtins G.T.nolimit hg (fun p hp => (T p hp).2) (fun p hp => ?_) (fun p hp => (T p hp).1) G.T.bmain hobj hints (Nat.le_trans hlen hn2) hr
    (fun base hb1 hb2 hT => hF base hb1 hb2 fun x hx c P e => ?_) hb (fun H hH hS => ⟨a, ns, rfl, hS, hlen, fun P hP => ?_, fun _ => rfl⟩) fun H e s' h => ?_
  · obtain ⟨x, hx, e⟩ := mem p hp
    obtain ⟨c, P, e2, e3⟩ := hN x hx
    rw [e] at e2
    cases e2
    exact e3
  · have t := hT (c, P) (List.mem_filterMap.mpr ⟨x, hx, e⟩)
    exact ⟨t.code, t.bm, t.gP⟩
  · unfold tabsOf at hP
    obtain ⟨x, hx, e⟩ := List.mem_filterMap.mp hP
    obtain ⟨p, e1, e2⟩ := Option.map_eq_some_iff.mp e
    subst e2
    exact ⟨#[], hH p (List.mem_filterMap.mpr ⟨x, hx, e1⟩), by trivial⟩
  · obtain ⟨_, _, _, _, _, _, _, _, _, _, _, _, z⟩ := h
    exact z
end W3

set_option Elab.async false
set_option linter.all false
set_option maxRecDepth 100000
set_option maxHeartbeats 4000000
/-! Q1: reckoning with what the functions compute. -/
namespace W3
open PySem PySem.Spec L2

def B__law_draw : SV :=
  fSeq (fIf (bCmp ltD (e2 ixD (eV 0) (eC (.int 0))) (eV 1))
      (fSeq (fSetI 2 (e2 ixD (eV 0) (eC (.int 1)))) (fSeq (fStoD 1 (e2 addD (eV 2) (eC (.int 1)))) (fSeq (fSetI 3 (eC (.int 0)))
        (fSeq (fIf (bCmp ltD (eV 2) (eCl lenD (aC (e2 ixD (eV 0) (eC (.int 2))) aN))) (fSeq (fSetI 3 (e2 ixD (e2 ixD (eV 0) (eC (.int 2))) (eV 2))) fNil) fNil)
        (fSeq (fIf (bCmp geD (eV 3) (e2 powD (eC (.int 10)) (eC (.int 18)))) (fSeq (fStoD 0 (eV 3)) fNil)
          (fSeq (fStoD 3 (e2 modD (eCl intCD (aC (e2 mulD (e2 addD (e2 addD (e2 addD (e2 ixD (eV 0) (eC (.int 3))) (e2 modD (eCl intCD (aC (eV 3) aN)) (eC (.int 2147483629)))) (eV 2)) (eC (.int 1))) (eC (.int 48271))) aN)) (eC (.int 2147483647))))
          (fSeq (fSetI 4 (e2 modD (eCl intCD (aC (e2 addD (e2 mulD (e2 ixD (eV 0) (eC (.int 3))) (eC (.int 69621))) (eC (.int 11))) aN)) (eC (.int 2147483629))))
          (fSeq (fStoD 0 (e2 addD (e2 mulD (eV 4) (eC (.int 2147483647))) (e2 modD (eCl intCD (aC (e2 addD (e2 mulD (eV 4) (eC (.int 30011))) (e2 ixD (eV 0) (eC (.int 3)))) aN)) (eC (.int 2147483587))))) fNil)))) fNil)))))
      fNil)
    (fSeq (fSetI 5 (e2 modD (eCl intCD (aC (e2 ixD (eV 0) (eC (.int 0))) aN)) (eV 1)))
    (fSeq (fStoD 0 (e2 fdivD (e2 ixD (eV 0) (eC (.int 0))) (eV 1)))
    (fSeq (fRet (eV 5)) fNil)))
def F__law_draw : FD := drawF B__law_draw 4

theorem bind_okk {α β : Type} {m : M α} {k : α → M β} {s s' : DS} {x : α} (h : m s = .ok x s') : M.bind m k s = k x s' := by
  unfold M.bind; rw [h]
@[simp] theorem ret_at {α : Type} (x : α) (s : DS) : M.ret x s = .ok x s := rfl
@[simp] theorem boolD_b (b : Bool) : boolD (.bool b) = some b := rfl
theorem some_bind' {α β : Type} (x : α) (f : α → Option β) : (some x).bind f = f x := rfl
theorem modD_pos {i j : Int} (h : 0 < j) : modD (.int i) (.int j) = some (.int (i % j)) := if_pos h
theorem fdivD_pos {i j : Int} (h : 0 < j) (h' : j < 1073741824) : fdivD (.int i) (.int j) = some (.int (i / j)) := if_pos ⟨h, .inl h'⟩
theorem mulD_r {i j : Int} (h : small64 j) : mulD (.int i) (.int j) = some (.int (i * j)) := if_pos (.inr (.inl h))
theorem mulD_l {i j : Int} (h : small64 i) : mulD (.int i) (.int j) = some (.int (i * j)) := if_pos (.inl h)
@[simp] theorem addD_i (i j : Int) : addD (.int i) (.int j) = some (.int (i + j)) := rfl
@[simp] theorem subD_i (i j : Int) : subD (.int i) (.int j) = some (.int (i - j)) := rfl
@[simp] theorem ltD_i (i j : Int) : ltD (.int i) (.int j) = some (.bool (decide (i < j))) := rfl
@[simp] theorem leD_i (i j : Int) : leD (.int i) (.int j) = some (.bool (decide (i ≤ j))) := rfl
@[simp] theorem gtD_i (i j : Int) : gtD (.int i) (.int j) = some (.bool (decide (j < i))) := rfl
@[simp] theorem geD_i (i j : Int) : geD (.int i) (.int j) = some (.bool (decide (j ≤ i))) := rfl
@[simp] theorem intCD_i (i : Int) : intCD [.int i] = some (.int i) := rfl
@[simp] theorem lenD_l (ds : List D) : lenD [.list ds] = some (.int ds.length) := rfl
@[simp] theorem lenD_t (ds : List D) : lenD [.tuple ds] = some (.int ds.length) := rfl
@[simp] theorem st0 (a b c : Int) (ns : List Int) : ixD (stD a b c ns) (.int 0) = some (.int a) := rfl
@[simp] theorem st1 (a b c : Int) (ns : List Int) : ixD (stD a b c ns) (.int 1) = some (.int b) := rfl
@[simp] theorem st2 (a b c : Int) (ns : List Int) : ixD (stD a b c ns) (.int 2) = some (.list (ns.map .int)) := rfl
@[simp] theorem st3 (a b c : Int) (ns : List Int) : ixD (stD a b c ns) (.int 3) = some (.int c) := rfl
def seqK (w : SV) : Fl → M Fl
  | .nx η => w η
  | .bk η => M.ret (.bk η)
  | .ct η => M.ret (.ct η)
  | .rt d η => M.ret (.rt d η)
/-! the forms, unfolded by simp -/
section
variable (η : Env) (i : Nat) (d : D) (f h : EV) (c k : BV) (u w : SV) (op : D → D → Option D) (o1 : D → Option D) (oc : List D → Option D) (ga : AV)
@[simp] theorem eC_s : eC d η = M.ret d := rfl
@[simp] theorem eV_s : eV i η = M.lift (η[i]?.join) := rfl
@[simp] theorem e2_s : e2 op f h η = M.bind (f η) fun x => M.bind (h η) fun y => M.lift (op x y) := rfl
@[simp] theorem e1_s : e1 o1 f η = M.bind (f η) fun x => M.lift (o1 x) := rfl
@[simp] theorem aN_s : aN η = M.ret [] := rfl
@[simp] theorem aC_s : aC f ga η = M.bind (f η) fun d => M.bind (ga η) fun ds => M.ret (d :: ds) := rfl
@[simp] theorem eCl_s : eCl oc ga η = M.bind (ga η) fun ds => M.lift (oc ds) := rfl
@[simp] theorem eTup_s : eTup ga η = M.bind (ga η) fun ds => M.lift (if ds.length ≤ sizeLine then some (PyData.tuple ds) else none) := rfl
@[simp] theorem eLst_s : eLst ga η = M.bind (ga η) fun ds => M.lift (if ds.length ≤ sizeLine then some (PyData.list ds) else none) := rfl
@[simp] theorem eOwn_s (n : Nat) (F : FD) : eOwn n F ga η = M.bind (ga η) fun ds => if ds.length = n then F ds else M.bad := rfl
@[simp] theorem bT_s : bT f η = M.bind (f η) fun d => M.lift (truthD d) := rfl
@[simp] theorem bNot_s : bNot c η = M.bind (c η) fun b => M.ret (!b) := rfl
@[simp] theorem bAnd_s : bAnd c k η = M.bind (c η) fun b => if b = true then k η else M.ret false := rfl
@[simp] theorem bOr_s : bOr c k η = M.bind (c η) fun b => if b = true then M.ret true else k η := rfl
@[simp] theorem eAnd_s : eAnd f h η = M.bind (f η) fun d => M.bind (M.lift (truthD d)) fun b => if b = true then h η else M.ret d := rfl
@[simp] theorem eOr_s : eOr f h η = M.bind (f η) fun d => M.bind (M.lift (truthD d)) fun b => if b = true then M.ret d else h η := rfl
@[simp] theorem eNot_s : eNot f η = M.bind (f η) fun d => M.bind (M.lift (truthD d)) fun b => M.ret (.bool (!b)) := rfl
@[simp] theorem eIf_s : eIf c f h η = M.bind (c η) fun b => if b = true then f η else h η := rfl
@[simp] theorem bCmp_s : bCmp op f h η = M.bind (f η) fun x => M.bind (h η) fun y => M.lift ((op x y).bind boolD) := rfl
@[simp] theorem bYes_s : bYes η = M.ret true := rfl
@[simp] theorem eSl_s (l h' s : OV) : eSl f l h' s η = M.bind (f η) fun d => M.bind (l η) fun lo => M.bind (h' η) fun hi => M.bind (s η) fun c => M.lift (slD d lo hi c) := rfl
@[simp] theorem oN_s : oN η = M.ret none := rfl
@[simp] theorem oS_s : oS f η = M.bind (f η) fun d => M.lift ((intD d).map some) := rfl
@[simp] theorem iS_s : iS f η = M.bind (f η) fun d => M.lift (itemsD d) := rfl
@[simp] theorem iRg_s (r : List D → Option (List D)) : iRg r ga η = M.bind (ga η) fun ds => M.lift (r ds) := rfl
@[simp] theorem gN_s : gN i d η = some (η.set i (some d)) := rfl
@[simp] theorem gTp_s (g : GVs) (ds : List D) : gTp g (.tuple ds) η = g ds η := rfl
@[simp] theorem gCn_s (g : GV) (r : GVs) (ds : List D) : gCn g r (d :: ds) η = (g d η).bind (r ds) := rfl
@[simp] theorem gNl_s : gNl [] η = some η := rfl
@[simp] theorem fNil_s : fNil η = M.ret (.nx η) := rfl
@[simp] theorem seqK_nx : seqK w (.nx η) = w η := rfl
@[simp] theorem seqK_rt : seqK w (.rt d η) = M.ret (.rt d η) := rfl
@[simp] theorem seqK_bk : seqK w (.bk η) = M.ret (.bk η) := rfl
@[simp] theorem seqK_ct : seqK w (.ct η) = M.ret (.ct η) := rfl
@[simp] theorem fSeq_s : fSeq u w η = M.bind (u η) (seqK w) := by
  show M.bind (u η) _ = M.bind (u η) _
  refine congrArg (M.bind (u η)) (funext fun fl => ?_)
  cases fl <;> rfl
@[simp] theorem fExpr_s : fExpr f η = M.bind (f η) fun _ => M.ret (.nx η) := rfl
@[simp] theorem fRet_s : fRet f η = M.bind (f η) fun d => M.ret (.rt d η) := rfl
@[simp] theorem fIf_s : fIf c u w η = M.bind (c η) fun b => if b = true then u η else w η := rfl
@[simp] theorem fAsg_s (O : List Nat) (gv : GV) : fAsg O f gv η = M.bind (f (wipeE η O)) fun d => M.bind (M.lift (gv d η)) fun η' => M.ret (.nx η') := rfl
@[simp] theorem fSet_s (O : List Nat) : fSet O i f η = M.bind (f (wipeE η O)) fun d => M.ret (.nx (η.set i (some d))) := rfl
@[simp] theorem fRaise_s (x : Str) : fRaise x η = M.raise x .none := rfl
@[simp] theorem wipe_nil : wipeE η [] = η := rfl
@[simp] theorem wipe_cons (v : Nat) (vs : List Nat) : wipeE η (v :: vs) = (wipeE η vs).set v none := rfl
@[simp] theorem fSetI_s : fSetI i f η = M.bind (f η) fun d => M.bind (M.lift (isIntE i d η)) fun η' => M.ret (.nx η') := rfl
@[simp] theorem fStoD_s : fStoD i f η = M.bind (f η) fun d => M.bind (M.lift (stoD i d η)) fun η' => M.ret (.nx η') := rfl
end
@[simp] theorem ret_bind_s {α β : Type} (x : α) (k : α → M β) : M.bind (M.ret x) k = k x := rfl
@[simp] theorem raise_bind_s {α β : Type} (c : Str) (p : D) (k : α → M β) : M.bind (M.raise c p : M α) k = M.raise c p := rfl
@[simp] theorem lift_some_s {α : Type} (x : α) : M.lift (some x) = M.ret x := rfl
@[simp] theorem bind_assoc_s {α β γ : Type} (m : M α) (k : α → M β) (l : β → M γ) : M.bind (M.bind m k) l = M.bind m fun x => M.bind (k x) l := bind_assoc m k l
@[simp] theorem sto0 (a b c z : Int) (ns : List Int) (r : Env) : stoD 0 (.int z) (some (stD a b c ns) :: r) = some (some (stD z b c ns) :: r) := rfl
@[simp] theorem sto1 (a b c z : Int) (ns : List Int) (r : Env) : stoD 1 (.int z) (some (stD a b c ns) :: r) = some (some (stD a z c ns) :: r) := rfl
@[simp] theorem sto3 (a b c z : Int) (ns : List Int) (r : Env) : stoD 3 (.int z) (some (stD a b c ns) :: r) = some (some (stD a b z ns) :: r) := rfl
@[simp] theorem isInt_i (i : Nat) (z : Int) (η : Env) : isIntE i (.int z) η = some (η.set i (some (.int z))) := rfl
theorem small_of {j : Int} (h : decide (-(18446744073709551616) < j ∧ j < 18446744073709551616) = true) : small64 j := of_decide_eq_true h
theorem pow1018 : powD (.int 10) (.int 18) = some (.int (10 ^ 18)) := rfl
@[simp] theorem mul1 (i : Int) : mulD (.int i) (.int 48271) = some (.int (i * 48271)) := mulD_r (by decide)
@[simp] theorem mul2 (i : Int) : mulD (.int i) (.int 69621) = some (.int (i * 69621)) := mulD_r (by decide)
@[simp] theorem mul3 (i : Int) : mulD (.int i) (.int 2147483647) = some (.int (i * 2147483647)) := mulD_r (by decide)
@[simp] theorem mul4 (i : Int) : mulD (.int i) (.int 30011) = some (.int (i * 30011)) := mulD_r (by decide)
theorem atI_list {α : Type} {xs : List α} {i : Int} (h0 : 0 ≤ i) (h1 : i < xs.length) : ∃ x, atI xs i = some x ∧ xs[i.toNat]? = some x := by
  have hl : i.toNat < xs.length := by omega
  refine ⟨xs[i.toNat], ?_, List.getElem?_eq_getElem hl⟩
  unfold atI ixN
  rw [if_pos h0, if_pos h1]
  exact List.getElem?_eq_getElem hl
@[simp] theorem pw18 : powD (.int 10) (.int 18) = some (.int 1000000000000000000) := rfl
theorem draw_key (n : Int) (h0 : 0 < n) (h1 : n < 1073741824) (a b c : Int) (ns : List Int) (hb : 0 ≤ b) : ∃ a' b' c' w0, 0 ≤ b' ∧ B__law_draw [some (stD a b c ns), some (.int n), none, none, none, none] = M.ret (.rt (.int (a' % n)) (some (stD (a' / n) b' c' ns) :: w0)) := by
  unfold B__law_draw
  by_cases h : a < n
  · by_cases hl : b < ns.length
    · obtain ⟨x, e1, e2⟩ := atI_list (xs := ns.map PyData.int) hb (by simpa using hl)
      rw [List.getElem?_map] at e2
      obtain ⟨z, _, e3⟩ := Option.map_eq_some_iff.mp e2
      have e4 : ixD (.list (ns.map PyData.int)) (.int b) = some (.int z) := by
        rw [e3]; exact e1
      by_cases hc : (1000000000000000000 : Int) ≤ z
      · exact ⟨z, b + 1, c, _, by omega, by simp [h, hl, e4, hc, modD_pos h0, fdivD_pos h0 h1]; rfl⟩
      · refine ⟨_, b + 1, _, _, by omega, by simp [h, hl, e4, hc, modD_pos, fdivD_pos, h0, h1]; rfl⟩
    · refine ⟨_, b + 1, _, _, by omega, by simp [h, hl, modD_pos, fdivD_pos, h0, h1]; rfl⟩
  · exact ⟨a, b, c, _, hb, by simp [h, modD_pos h0, fdivD_pos h0 h1]; rfl⟩
theorem draw_at (n : Int) (h0 : 0 < n) (h1 : n < 1073741824) (s : DS) (hb : 0 ≤ s.b) : ∃ k s', F__law_draw [stTok, .int n] s = .ok (.int k) s' ∧ 0 ≤ s'.b ∧ 0 ≤ k ∧ k < n := by
  obtain ⟨a', b', c', w0, hb', e⟩ := draw_key n h0 h1 s.a s.b s.c s.ns hb
  refine ⟨a' % n, ⟨a' / n, b', c', s.ns⟩, ?_, hb', Int.emod_nonneg _ (by omega), Int.emod_lt_of_pos _ h0⟩
  unfold F__law_draw drawF
  have e' : B__law_draw (some (stD s.a s.b s.c s.ns) :: some (.int n) :: List.replicate 4 none) s = .ok (.rt (.int (a' % n)) (some (stD (a' / n) b' c' s.ns) :: w0)) s := congrFun e s
  dsimp only
  rw [if_pos (show isTok stTok = true from rfl), e']
  rfl
/-! ### what ends well, whatever the law's state -/
def Yld {α : Type} (m : M α) (P : α → Prop) : Prop := ∀ s : DS, 0 ≤ s.b → ∃ x s', m s = .ok x s' ∧ 0 ≤ s'.b ∧ P x
section
variable {α β : Type} {m : M α} {k : α → M β} {P : α → Prop} {Q : β → Prop} {x : α}
theorem Yld.ret (h : P x) : Yld (M.ret x) P := fun s hs => ⟨x, s, rfl, hs, h⟩
theorem Yld.bind (h : Yld m P) (hk : ∀ x, P x → Yld (k x) Q) : Yld (M.bind m k) Q := fun s hs => by
  obtain ⟨x, s1, e, h1, p⟩ := h s hs
  obtain ⟨y, s2, e2, h2, q⟩ := hk x p s1 h1
  exact ⟨y, s2, by rw [bind_okk e]; exact e2, h2, q⟩
theorem Yld.imp {P' : α → Prop} (h : Yld m P) (i : ∀ x, P x → P' x) : Yld m P' := fun s hs => let ⟨x, s', e, h1, p⟩ := h s hs; ⟨x, s', e, h1, i x p⟩
theorem Yld.noExc (h : Yld m P) : Yld (W3.noExc m) P := fun s hs => by
  obtain ⟨x, s', e, h1, p⟩ := h s hs
  exact ⟨x, s', by unfold W3.noExc; rw [e], h1, p⟩
theorem Yld.draw {n : Int} (h0 : 0 < n) (h1 : n < 1073741824) : Yld (F__law_draw [stTok, .int n]) fun d => ∃ k, d = .int k ∧ 0 ≤ k ∧ k < n := fun s hs => by
  obtain ⟨k, s', e, a, b, c⟩ := draw_at n h0 h1 s hs
  exact ⟨_, s', e, a, k, rfl, b, c⟩
end
end W3

set_option Elab.async false
set_option linter.all false
set_option maxRecDepth 100000
set_option maxHeartbeats 4000000
/-! Q2: tuples by place. -/
namespace W3
open PySem PySem.Spec L2

/-- g 0, .., g (n - 1) -/
def rl (n : Nat) (g : Int → D) : List D := (List.range n).map fun i : Nat => g (i : Int)
def tup (n : Nat) (g : Int → D) : D := .tuple (rl n g)
@[simp] theorem rl_len (n : Nat) (g : Int → D) : (rl n g).length = n := by unfold rl; rw [List.length_map, List.length_range]
theorem rl_get {n : Nat} {g : Int → D} {i : Nat} (h : i < n) : (rl n g)[i]? = some (g i) := by
  unfold rl
  rw [List.getElem?_map, List.getElem?_range h]; rfl
theorem rl_congr {n m : Nat} {g h : Int → D} (e : n = m) (c : ∀ i : Int, 0 ≤ i → i < n → g i = h i) : rl n g = rl m h := by
  subst e
  unfold rl
  refine List.map_congr_left fun i hi => c i (by omega) ?_
  have := List.mem_range.mp hi
  omega
theorem tup_congr {n m : Nat} {g h : Int → D} (e : n = m) (c : ∀ i : Int, 0 ≤ i → i < n → g i = h i) : tup n g = tup m h := by
  unfold tup; rw [rl_congr e c]
theorem rl_of {n : Nat} {g : Int → D} {ds : List D} (hl : ds.length = n) (h : ∀ i : Nat, i < n → ds[i]? = some (g i)) : ds = rl n g := by
  refine List.ext_getElem? fun i => ?_
  by_cases c : i < n
  · rw [h i c, rl_get c]
  · rw [List.getElem?_eq_none (by omega), List.getElem?_eq_none (by rw [rl_len]; omega)]
@[simp] theorem lenD_tup (n : Nat) (g : Int → D) : lenD [tup n g] = some (.int n) := by
  show some (PyData.int (rl n g).length) = _
  rw [rl_len]
@[simp] theorem itemsD_tup (n : Nat) (g : Int → D) : itemsD (tup n g) = some (rl n g) := rfl
theorem ixD_tup {n : Nat} {g : Int → D} {k : Int} (h0 : 0 ≤ k) (h1 : k < n) : ixD (tup n g) (.int k) = some (g k) := by
  show atI (rl n g) k = _
  obtain ⟨x, e1, e2⟩ := atI_list (xs := rl n g) h0 (by rw [rl_len]; exact h1)
  rw [e1, ← e2, rl_get (by omega)]
  congr 2
  omega
theorem rgD_rl (lo : Int) (n : Nat) : rgD lo n = rl n fun i => .int (lo + i) := rfl
theorem range1 {n : Nat} (h : n ≤ sizeLine) : rangeD1 [.int n] = some (rl n fun i => .int i) := by
  have h' := h
  rw [sizeLine_eq] at h'
  have c : rgOk 0 (n : Int) := ⟨by omega, by omega, by omega, by omega, by rw [Int.sub_zero, Int.toNat_natCast]; exact h⟩
  unfold rangeD1
  dsimp only
  rw [if_pos c]
  rw [rgD_rl]
  congr 1
  exact rl_congr (by omega) fun i _ _ => by rw [Int.zero_add]
theorem range2 {lo hi : Int} {n : Nat} (e : hi = lo + n) (h : n ≤ sizeLine) (b0 : -1000000000 ≤ lo) (b1 : lo ≤ 1000000000) : rangeD2 [.int lo, .int hi] = some (rl n fun i => .int (lo + i)) := by
  have h' := h
  rw [sizeLine_eq] at h'
  subst e
  have e2 : (lo + (n : Int) - lo).toNat = n := by omega
  have c : rgOk lo (lo + n) := ⟨by omega, by omega, by omega, by omega, by rw [e2]; exact h⟩
  unfold rangeD2
  dsimp only
  rw [if_pos c, e2, rgD_rl]
/-! comprehensions -/
theorem lcM_rl {f : GV} {t : BV} {e : EV} {η : Env} {n : Nat} {g h : Int → D} (hb : ∀ i : Int, 0 ≤ i → i < n → ∃ η1, f (g i) η = some η1 ∧ t η1 = M.ret true ∧ e η1 = M.ret (h i)) : lcM f t e η (rl n g) = M.ret (rl n h) := by
  unfold rl
  have key : ∀ l : List Nat, (∀ i ∈ l, i < n) → lcM f t e η (l.map fun i : Nat => g (i : Int)) = M.ret (l.map fun i : Nat => h (i : Int)) := by
    intro l
    induction l with
    | nil => intro _; rfl
    | cons a l ih =>
      intro hl
      obtain ⟨η1, e1, e2, e3⟩ := hb a (by omega) (by have := hl a List.mem_cons_self; omega)
      rw [List.map_cons]
      unfold lcM
      rw [e1]
      dsimp only
      rw [e2, ret_bind, if_pos rfl, e3, ret_bind, ih fun i hi => hl i (List.mem_cons_of_mem _ hi), ret_bind]
      rfl
  exact key _ fun i hi => List.mem_range.mp hi
theorem eLc_rl {src : IV} {f : GV} {t : BV} {e : EV} {vs : List Nat} {η : Env} {n : Nat} {g h : Int → D} (hs : src η = M.ret (rl n g)) (hn : n ≤ sizeLine) (hb : ∀ i : Int, 0 ≤ i → i < n → ∃ η1, f (g i) (wipeE η vs) = some η1 ∧ t η1 = M.ret true ∧ e η1 = M.ret (h i)) : eLc src f t e vs η = M.ret (.list (rl n h)) := by
  unfold eLc
  rw [hs, ret_bind, lcM_rl hb, noExc_ret, ret_bind]
  unfold finL
  rw [rl_len, if_pos hn]; rfl
/-- tuple([.. for ..]) -/
theorem tc_rl {src : IV} {f : GV} {t : BV} {e : EV} {vs : List Nat} {η : Env} {n : Nat} {g h : Int → D} (hs : src η = M.ret (rl n g)) (hn : n ≤ sizeLine) (hb : ∀ i : Int, 0 ≤ i → i < n → ∃ η1, f (g i) (wipeE η vs) = some η1 ∧ t η1 = M.ret true ∧ e η1 = M.ret (h i)) : eCl tupleD (aC (eLc src f t e vs) aN) η = M.ret (tup n h) := by
  rw [eCl_s, aC_s, eLc_rl hs hn hb]
  rfl
theorem tc1 {src : IV} {j : Nat} {e : EV} {vs : List Nat} {η : Env} {n : Nat} {g h : Int → D} (hs : src η = M.ret (rl n g)) (hn : n ≤ sizeLine) (hb : ∀ i : Int, 0 ≤ i → i < n → e ((wipeE η vs).set j (some (g i))) = M.ret (h i)) : eCl tupleD (aC (eLc src (gN j) bYes e vs) aN) η = M.ret (tup n h) :=
  tc_rl hs hn fun i h0 h1 => ⟨_, rfl, rfl, hb i h0 h1⟩
/-! with draws -/
theorem lcM_yld {f : GV} {t : BV} {e : EV} {η : Env} {n : Nat} {g : Int → D} {P : D → Prop} (hb : ∀ i : Int, 0 ≤ i → i < n → ∃ η1, f (g i) η = some η1 ∧ t η1 = M.ret true ∧ Yld (e η1) P) : Yld (lcM f t e η (rl n g)) fun ds => ds.length = n ∧ ∀ d ∈ ds, P d := by
  unfold rl
  have key : ∀ l : List Nat, (∀ i ∈ l, i < n) → Yld (lcM f t e η (l.map fun i : Nat => g (i : Int))) fun ds => ds.length = l.length ∧ ∀ d ∈ ds, P d := by
    intro l
    induction l with
    | nil => intro _; exact .ret ⟨rfl, fun d h => nomatch h⟩
    | cons a l ih =>
      intro hl
      obtain ⟨η1, e1, e2, e3⟩ := hb a (by omega) (by have := hl a List.mem_cons_self; omega)
      rw [List.map_cons]
      unfold lcM
      rw [e1]
      dsimp only
      rw [e2, ret_bind, if_pos rfl]
      refine e3.bind fun y hy => (ih fun i hi => hl i (List.mem_cons_of_mem _ hi)).bind fun r hr => .ret ⟨by rw [List.length_cons, List.length_cons, hr.1], fun d hd => ?_⟩
      rcases List.mem_cons.mp hd with rfl | hd
      · exact hy
      · exact hr.2 d hd
  exact (key _ fun i hi => List.mem_range.mp hi).imp fun ds h => ⟨by rw [h.1, List.length_range], h.2⟩
theorem pick_rl {β : Type} {Q : β → Prop} {G : β → D} (y0 : β) (h0 : Q y0) {ds : List D} (h : ∀ d ∈ ds, ∃ y, Q y ∧ d = G y) : ∃ u : Int → β, (∀ i, Q (u i)) ∧ ds = rl ds.length fun i => G (u i) := by
  have : ∀ i : Nat, ∃ y, Q y ∧ ∀ d, ds[i]? = some d → d = G y := fun i => by
    cases e : ds[i]? with
    | none => exact ⟨y0, h0, fun d h => by cases h⟩
    | some d =>
      obtain ⟨y, h1, h2⟩ := h d (List.mem_of_getElem? e)
      exact ⟨y, h1, fun d' h => by cases h; exact h2⟩
  refine ⟨fun i => Classical.choose (this i.toNat), fun i => (Classical.choose_spec (this i.toNat)).1, rl_of rfl fun i hi => ?_⟩
  have e : ds[i]? = some ds[i] := List.getElem?_eq_getElem hi
  rw [e]
  have := (Classical.choose_spec (this i)).2 _ e
  rw [this]
theorem tc_yld {β : Type} {Q : β → Prop} {G : β → D} (y0 : β) (h0 : Q y0) {src : IV} {j : Nat} {e : EV} {vs : List Nat} {η : Env} {n : Nat} {g : Int → D} (hs : src η = M.ret (rl n g)) (hn : n ≤ sizeLine) (hb : ∀ i : Int, 0 ≤ i → i < n → Yld (e ((wipeE η vs).set j (some (g i)))) fun d => ∃ y, Q y ∧ d = G y) :
    Yld (eCl tupleD (aC (eLc src (gN j) bYes e vs) aN) η) fun d => ∃ u : Int → β, (∀ i, Q (u i)) ∧ d = tup n fun i => G (u i) := by
  rw [eCl_s, aC_s]
  unfold eLc
  rw [hs, ret_bind]
  simp only [bind_assoc_s]
  refine (lcM_yld (P := fun d => ∃ y, Q y ∧ d = G y) fun i h0 h1 => ⟨_, rfl, rfl, hb i h0 h1⟩).noExc.bind fun ds hd => ?_
  unfold finL
  rw [hd.1, if_pos hn]
  obtain ⟨u, hu, e⟩ := pick_rl y0 h0 hd.2
  refine .ret ⟨u, hu, ?_⟩
  unfold tup
  rw [hd.1] at e
  rw [← e]
/-! defs -/
theorem runF_ret {n m : Nat} {f : SV} {ds : List D} {d : D} {η : Env} (hl : ds.length = n) (h : f (ds.map some ++ List.replicate (m - n) none) = M.ret (.rt d η)) : runF n m f ds = M.ret d := by
  unfold runF
  rw [if_pos hl, h]; rfl
end W3

set_option Elab.async false
set_option linter.all false
set_option maxRecDepth 100000
set_option maxHeartbeats 4000000
/-! Q3: slices, sums, pairs, loops of tuples by place. -/
namespace W3
open PySem PySem.Spec L2

theorem slK_rev (n : Nat) : slK n none none (some (-1)) = ((n : Int) - 1, -1, n) := by
  have e1 : Builtin.Slice.sliceAdjust none none (-1) (n : Int) = ((n : Int) - 1, -1) := rfl
  have e2 : Builtin.Slice.slicePlaces ((n : Int) - 1) (-1) (-1) = n := by
    unfold Builtin.Slice.slicePlaces
    rw [if_neg (by decide)]
    by_cases c : ((n : Int) - 1 > -1)
    · rw [if_pos c, show (-(-1 : Int)) = 1 from rfl, Int.ediv_one]
      omega
    · rw [if_neg c]
      omega
  show ((Builtin.Slice.sliceAdjust none none (-1) (n : Int)).1, (-1 : Int), Builtin.Slice.slicePlaces (Builtin.Slice.sliceAdjust none none (-1) (n : Int)).1 (Builtin.Slice.sliceAdjust none none (-1) (n : Int)).2 (-1)) = _
  rw [e1]
  dsimp only
  rw [e2]
theorem fm_some {α : Type} {f : Nat → Option α} {u : Nat → α} : ∀ {l : List Nat}, (∀ m ∈ l, f m = some (u m)) → l.filterMap f = l.map u
  | [], _ => rfl
  | a :: l, h => by
    rw [List.filterMap_cons, h a List.mem_cons_self, List.map_cons]
    dsimp only
    rw [fm_some fun m hm => h m (List.mem_cons_of_mem _ hm)]
theorem pick_map {α : Type} {xs : List α} {a c : Int} {k : Nat} {u : Nat → α} (h : ∀ m : Nat, m < k → xs[(a + (m : Int) * c).toNat]? = some (u m)) : pickL xs a c k = (List.range k).map u := by
  unfold pickL
  exact fm_some fun m hm => h m (List.mem_range.mp hm)
theorem rev_tup {n : Nat} {g : Int → D} : slD (tup n g) none none (some (-1)) = some (tup n fun i => g ((n : Int) - 1 - i)) := by
  show (if (some (-1) : Option Int) = some 0 then none else some (PyData.tuple (sliceL (rl n g) none none (some (-1))))) = _
  rw [if_neg (by decide)]
  unfold tup sliceL
  rw [rl_len, slK_rev]
  dsimp only
  rw [pick_map (u := fun m : Nat => g ((n : Int) - 1 - (m : Int))) fun m hm => by
    rw [rl_get (by omega)]
    congr 2
    omega]
  rfl
theorem add_tup {n m : Nat} {g h : Int → D} (l : n + m ≤ sizeLine) : addD (tup n g) (tup m h) = some (tup (n + m) fun i => if i < n then g i else h (i - n)) := by
  show (if (rl n g).length + (rl m h).length ≤ sizeLine then some (PyData.tuple (rl n g ++ rl m h)) else none) = _
  rw [rl_len, rl_len, if_pos l]
  congr 2
  refine rl_of (by rw [List.length_append, rl_len, rl_len]) fun i hi => ?_
  by_cases c : i < n
  · rw [List.getElem?_append_left (by rw [rl_len]; exact c), rl_get c, if_pos (by omega)]
  · rw [List.getElem?_append_right (by rw [rl_len]; omega), rl_len, rl_get (by omega), if_neg (by omega)]
    congr 2
    omega
theorem rep_get {α : Type} (xs : List α) : ∀ (k i : Nat), i < k * xs.length → (List.replicate k xs).flatten[i]? = xs[i % xs.length]?
  | 0, i, h => by omega
  | k + 1, i, h => by
    rw [List.replicate_succ, List.flatten_cons]
    by_cases c : i < xs.length
    · rw [List.getElem?_append_left c, Nat.mod_eq_of_lt c]
    · rw [List.getElem?_append_right (by omega), rep_get xs k (i - xs.length) (by
        rw [Nat.succ_mul] at h
        omega)]
      congr 1
      exact (Nat.mod_eq_sub_mod (by omega)).symm
theorem mul_tup {n k : Nat} {g : Int → D} (l : n * k ≤ sizeLine) (hk : k ≤ 1000000) : mulD (tup n g) (.int k) = some (tup (n * k) fun i => g (i % n)) := by
  have c : repOk (rl n g).length (k : Int) := ⟨by omega, by omega, by rw [rl_len, Int.toNat_natCast]; exact l⟩
  show (if repOk (rl n g).length (k : Int) then some (PyData.tuple (List.replicate (k : Int).toNat (rl n g)).flatten) else none) = _
  rw [if_pos c, Int.toNat_natCast]
  congr 2
  refine rl_of (by simp [Nat.mul_comm]) fun i hi => ?_
  rw [rep_get _ _ _ (by rw [rl_len, Nat.mul_comm]; exact hi), rl_len]
  rw [rl_get (Nat.mod_lt _ (by
    cases n with
    | zero => simp at hi
    | succ n => omega))]
  congr 2
theorem mul_lst {n k : Nat} {g : Int → D} (l : n * k ≤ sizeLine) (hk : k ≤ 1000000) : mulD (.list (rl n g)) (.int k) = some (.list (rl (n * k) fun i => g (i % n))) := by
  have c : repOk (rl n g).length (k : Int) := ⟨by omega, by omega, by rw [rl_len, Int.toNat_natCast]; exact l⟩
  show (if repOk (rl n g).length (k : Int) then some (PyData.list (List.replicate (k : Int).toNat (rl n g)).flatten) else none) = _
  rw [if_pos c, Int.toNat_natCast]
  congr 2
  refine rl_of (by simp [Nat.mul_comm]) fun i hi => ?_
  rw [rep_get _ _ _ (by rw [rl_len, Nat.mul_comm]; exact hi), rl_len]
  rw [rl_get (Nat.mod_lt _ (by
    cases n with
    | zero => simp at hi
    | succ n => omega))]
  congr 2
theorem zip_rl {n : Nat} {g h : Int → D} : zipL (rl n g) (rl n h) = rl n fun i => .tuple [g i, h i] := by
  refine rl_of (by unfold zipL; rw [List.length_zipWith, rl_len, rl_len, Nat.min_self]) fun i hi => ?_
  unfold zipL
  rw [List.getElem?_zipWith, rl_get hi, rl_get hi]
theorem zipD_tup {n : Nat} {g h : Int → D} : zipD [tup n g, tup n h] = some (rl n fun i => .tuple [g i, h i]) := by
  show some (zipL (rl n g) (rl n h)) = _
  rw [zip_rl]
theorem enum_rl {n : Nat} {g : Int → D} : enumL (rl n g) = rl n fun i => .tuple [.int i, g i] := by
  refine rl_of (by rw [enumL_len, rl_len]) fun i hi => ?_
  unfold enumL
  rw [List.getElem?_zipWith, rl_get hi, rl_len, List.getElem?_range hi]
/-! equality -/
structure Sh (k : Nat) (d : D) : Prop where
  can : d.canLay0 = true
  dep : d.depth ≤ k
structure ShL (k : Nat) (ds : List D) : Prop where
  can : PyData.canLayAll0 ds = true
  dep : PyData.depthAll ds ≤ k
theorem Sh.mono {k j : Nat} {d : D} (h : Sh k d) (hk : k ≤ j) : Sh j d := ⟨h.can, Nat.le_trans h.dep hk⟩
theorem Sh.int {i : Int} : Sh 0 (.int i) := ⟨rfl, Nat.le_refl _⟩
theorem Sh.bool {b : Bool} : Sh 0 (.bool b) := ⟨rfl, Nat.le_refl _⟩
theorem Sh.none : Sh 0 .none := ⟨rfl, Nat.le_refl _⟩
theorem ShL.nil {k : Nat} : ShL k [] := ⟨rfl, Nat.zero_le _⟩
theorem ShL.cons {k : Nat} {d : D} {ds : List D} (h : Sh k d) (t : ShL k ds) : ShL k (d :: ds) := ⟨by
  unfold PyData.canLayAll0
  rw [h.can, t.can]; rfl, by
  unfold PyData.depthAll
  exact Nat.max_le.mpr ⟨h.dep, t.dep⟩⟩
theorem ShL.of {k : Nat} : ∀ {ds : List D}, (∀ d ∈ ds, Sh k d) → ShL k ds
  | [], _ => .nil
  | d :: ds, h => .cons (h d List.mem_cons_self) (.of fun e he => h e (List.mem_cons_of_mem _ he))
theorem Sh.tuple {k : Nat} {ds : List D} (h : ShL k ds) : Sh (k + 1) (.tuple ds) := ⟨by
  unfold PyData.canLay0
  exact h.can, by
  unfold PyData.depth
  exact Nat.succ_le_succ h.dep⟩
theorem Sh.list {k : Nat} {ds : List D} (h : ShL k ds) : Sh (k + 1) (.list ds) := ⟨by
  unfold PyData.canLay0
  exact h.can, by
  unfold PyData.depth
  exact Nat.succ_le_succ h.dep⟩
theorem Sh.tup {k n : Nat} {g : Int → D} (h : ∀ i : Int, 0 ≤ i → i < n → Sh k (g i)) : Sh (k + 1) (W3.tup n g) := .tuple (.of fun d hd => by
  unfold rl at hd
  obtain ⟨i, hi, rfl⟩ := List.mem_map.mp hd
  have := List.mem_range.mp hi
  exact h i (by omega) (by omega))
theorem Sh.ok {k : Nat} {d : D} (h : Sh k d) (hk : k ≤ 64 := by decide) : SeqAt.shaped d = true := by
  unfold SeqAt.shaped
  rw [h.can, decide_eq_true (Nat.le_trans h.dep hk)]; rfl
theorem eqD_sh {k j : Nat} {d e : D} (h : Sh k d) (h' : Sh j e) (hk : k ≤ 64 := by decide) (hj : j ≤ 64 := by decide) : eqD d e = some (.bool (PyData.eqv d e)) := by
  unfold eqD; rw [if_pos ⟨h.ok hk, h'.ok hj⟩]
theorem neD_sh {k j : Nat} {d e : D} (h : Sh k d) (h' : Sh j e) (hk : k ≤ 64 := by decide) (hj : j ≤ 64 := by decide) : neD d e = some (.bool (!PyData.eqv d e)) := by
  unfold neD; rw [if_pos ⟨h.ok hk, h'.ok hj⟩]
theorem Sh.refl {k : Nat} {d : D} (h : Sh k d) : PyData.eqv d d = true := SeqAt.eqv_refl d h.can
theorem eqD_same {k : Nat} {d : D} (h : Sh k d) (hk : k ≤ 64 := by decide) : eqD d d = some (.bool true) := by rw [eqD_sh h h hk hk, h.refl]
theorem neD_same {k : Nat} {d : D} (h : Sh k d) (hk : k ≤ 64 := by decide) : neD d d = some (.bool false) := by rw [neD_sh h h hk hk, h.refl]; rfl
@[simp] theorem eqD_i (i j : Int) : eqD (.int i) (.int j) = some (.bool (i == j)) := by rw [eqD_sh .int .int]; simp [PyData.eqv]
@[simp] theorem neD_i (i j : Int) : neD (.int i) (.int j) = some (.bool (!(i == j))) := by rw [neD_sh .int .int]; simp [PyData.eqv]
@[simp] theorem eqD_b (i j : Bool) : eqD (.bool i) (.bool j) = some (.bool (i == j)) := by rw [eqD_sh .bool .bool]; simp [PyData.eqv]
@[simp] theorem neD_b (i j : Bool) : neD (.bool i) (.bool j) = some (.bool (!(i == j))) := by rw [neD_sh .bool .bool]; simp [PyData.eqv]
theorem eqvAll_get : ∀ {xs ys : List D} {i : Nat} {x y : D}, xs[i]? = some x → ys[i]? = some y → PyData.eqv x y = false → PyData.eqvAll xs ys = false
  | x :: xs, y :: ys, 0, _, _, h1, h2, h => by
    cases h1; cases h2
    unfold PyData.eqvAll
    rw [h]; rfl
  | x :: xs, y :: ys, i + 1, _, _, h1, h2, h => by
    unfold PyData.eqvAll
    rw [eqvAll_get (i := i) (by simpa using h1) (by simpa using h2) h, Bool.and_false]
  | [], _, i, _, _, h1, _, _ => by simp at h1
  | _ :: _, [], i, _, _, _, h2, _ => by simp at h2
theorem eqvAll_len : ∀ {xs ys : List D}, xs.length ≠ ys.length → PyData.eqvAll xs ys = false
  | [], [], h => absurd rfl h
  | [], _ :: _, _ => by unfold PyData.eqvAll; rfl
  | _ :: _, [], _ => by unfold PyData.eqvAll; rfl
  | x :: xs, y :: ys, h => by
    unfold PyData.eqvAll
    rw [eqvAll_len (fun z => h (by rw [List.length_cons, List.length_cons, z])), Bool.and_false]
theorem eqv_tup_ne {n m : Nat} {g h : Int → D} {i : Int} (h0 : 0 ≤ i) (h1 : i < n) (h2 : i < m) (e : PyData.eqv (g i) (h i) = false) : PyData.eqv (tup n g) (tup m h) = false := by
  unfold tup PyData.eqv
  have e' : ((i.toNat : Nat) : Int) = i := by omega
  exact eqvAll_get (i := i.toNat) (rl_get (by omega)) (rl_get (by omega)) (by rw [e']; exact e)
theorem eqv_tup_len {n m : Nat} {g h : Int → D} (e : n ≠ m) : PyData.eqv (tup n g) (tup m h) = false := by
  unfold tup PyData.eqv
  exact eqvAll_len (by rw [rl_len, rl_len]; exact e)
/-! sums -/
def sumI (n : Nat) (h : Int → Int) : Int := ((List.range n).map fun i : Nat => h (i : Int)).sum
theorem ints_rl {n : Nat} {h : Int → Int} : intsD (rl n fun i => .int (h i)) = some ((List.range n).map fun i : Nat => h (i : Int)) := by
  unfold rl
  have key : ∀ l : List Nat, intsD (l.map fun i : Nat => PyData.int (h (i : Int))) = some (l.map fun i : Nat => h (i : Int)) := by
    intro l
    induction l with
    | nil => rfl
    | cons a l ih =>
      rw [List.map_cons, List.map_cons]
      show (intsD _).map _ = _
      rw [ih]; rfl
  exact key _
theorem sumD_rl {n : Nat} {h : Int → Int} : sumD [.list (rl n fun i => .int (h i))] = some (.int (sumI n h)) := by
  show (intsD _).map _ = _
  rw [ints_rl]; rfl
theorem sumD_tup {n : Nat} {h : Int → Int} : sumD [tup n fun i => .int (h i)] = some (.int (sumI n h)) := by
  show (intsD _).map _ = _
  rw [ints_rl]; rfl
theorem sumI_succ (n : Nat) (h : Int → Int) : sumI (n + 1) h = sumI n h + h n := by
  unfold sumI
  rw [List.range_succ, List.map_append, List.sum_append]
  simp
theorem sumI_zero (h : Int → Int) : sumI 0 h = 0 := rfl
theorem sumI_congr {n m : Nat} {g h : Int → Int} (e : n = m) (c : ∀ i : Int, 0 ≤ i → i < n → g i = h i) : sumI n g = sumI m h := by
  subst e
  induction n with
  | zero => rfl
  | succ n ih => rw [sumI_succ, sumI_succ, ih fun i h0 h1 => c i h0 (by omega), c n (by omega) (by omega)]
theorem sumI_add (n : Nat) (g h : Int → Int) : sumI n (fun i => g i + h i) = sumI n g + sumI n h := by
  induction n with
  | zero => rfl
  | succ n ih => rw [sumI_succ, sumI_succ, sumI_succ, ih]; omega
theorem sumI_const (n : Nat) (c : Int) : sumI n (fun _ => c) = n * c := by
  induction n with
  | zero => simp [sumI_zero]
  | succ n ih => rw [sumI_succ, ih, Int.natCast_succ, Int.add_mul, Int.one_mul]
theorem sumI_sub (n : Nat) (g h : Int → Int) : sumI n (fun i => g i - h i) = sumI n g - sumI n h := by
  induction n with
  | zero => rfl
  | succ n ih => rw [sumI_succ, sumI_succ, sumI_succ, ih]; omega
theorem sumI_swap (n m : Nat) (f : Int → Int → Int) : sumI n (fun i => sumI m fun j => f i j) = sumI m fun j => sumI n fun i => f i j := by
  induction n with
  | zero => 
    rw [sumI_zero, sumI_congr (h := fun _ => 0) rfl fun i _ _ => sumI_zero _, sumI_const]; simp
  | succ n ih =>
    rw [sumI_succ, ih, ← sumI_add]
    exact sumI_congr rfl fun j _ _ => (sumI_succ n _).symm
end W3

set_option Elab.async false
set_option linter.all false
set_option maxRecDepth 100000
set_option maxHeartbeats 4000000
/-! W4a: sorted, min, max, any, all of data. -/
namespace W3
open PySem PySem.Spec L2
open PySem.W (EachIs dataLt dataLe AllAlike Sortable alike)
section
variable {prog : Program} {w : World} {A : Around} {E : Value → Shared → Prop} {s : Shared}
/-- a tuple's items are taken out -/
theorem col_tup {t : Addr} {us : List Value} {R : List Value → Shared → Prop} (ht : PyProof.Rows.IsTup s.heap t us.toArray) (hz : us.length ≤ sizeLine)
    (k : ∀ h' tk, (∀ b o, s.heap.get? b = some o → h'.get? b = some o) → R us { s with heap := h', toks := tk }) : wpAny (model prog w) A (collect (.ref t)) R E s := by
  obtain ⟨o, ho, hc, n, hd⟩ := ht
  unfold collect
  refine wpAny_bind (wpAny_runValue (codeAny_builtin PyProof.Rows.entry_proto_collect' ?_))
  show wpAny _ _ (do again (.builtin "list.__iadd__" ⟨[← newList [], .ref t], []⟩)) _ _ s
  refine wpAny_bind (wpAny_newList (wpAny_pure ⟨Code.quiet_builtin _ (by decide +kernel), codeAny_builtin PyProof.Rows.entry_list_iadd' ?_⟩))
  have e1 : (s.heap.push (PyProof.Rows.seqObj "list" #[] 0)).get? t = some o := Heap.get?_push_of_some _ ho
  have e2 : (s.heap.push (PyProof.Rows.seqObj "list" #[] 0)).get? s.heap.objs.size = some (PyProof.Rows.seqObj "list" #[] 0) := Heap.get?_push_size _ rfl
  show wpAny _ _ (Builtin.List.listExtendWith (.ref s.heap.objs.size) (.ref t) (.ref s.heap.objs.size)) _ _ { s with heap := s.heap.push (PyProof.Rows.seqObj "list" #[] 0) }
  unfold Builtin.List.listExtendWith
  refine wpAny_bind (wpAny_typeOf (T := "tuple") ⟨o, e1, hc⟩ ?_)
  have tt : (Value.type "tuple" == Value.type "tuple") = true := rfl
  rw [if_pos (by rw [tt, Bool.or_true])]
  refine wpAny_bind (PyProof.Rows.listItems_at e1 hd (wpAny_bind (PyProof.Rows.listItems_at e2 rfl ?_)))
  rw [if_neg (by simp)]
  refine wpAny_bind (PyProof.Rows.listUpdate_at e2 rfl (wpAny_pure ?_) (Nat.zero_le _) (by rw [Array.empty_append, List.size_toArray]; omega))
  refine wpAny_bind (wpAny_load (PyProof.Rows.get?_update_seq e2 _) ?_)
  have es : ((#[] : Array Value) ++ us.toArray).toList = us := by simp
  show wpAny _ _ (pure ((#[] : Array Value) ++ us.toArray).toList) R E _
  rw [es]
  refine wpAny_pure (k _ _ fun b u q => ?_)
  have hb := Heap.lt_size q
  rw [Heap.get?_update_ne _ _ _ _ (Nat.ne_of_lt hb)]
  exact Heap.get?_push_of_some _ q
/-- sorted of what can be collected -/
theorem sorted_col {u : Value} {its : List Value} {ps : List (V × PyData)} {Q : Value → Shared → Prop}
    (col : ∀ (R : List Value → Shared → Prop) (E : Value → Shared → Prop), (∀ h' tk, (∀ b o, s.heap.get? b = some o → h'.get? b = some o) → R its { s with heap := h', toks := tk }) → wpAny (model prog w) A.in1 (collect u) R E s)
    (er : EachIs (fun v (p : V × PyData) => RelV p.1 v) its ps) (rd : EachIs (fun v (p : V × PyData) => ∃ as, Reads s.heap v p.2 as) its ps) (hal : AllAlike (ps.map (·.2))) (hk : Sortable (ps.map (·.2))) (hu : ∀ p ∈ ps, A.units + 2 + p.2.depth < cLine) (hz : ps.length ≤ sizeLine)
    (h : ∀ (h1 : Heap) (tk : Nat) (h' : Heap) (out : List Value) (c : Nat), (∀ b o, s.heap.get? b = some o → h1.get? b = some o) → (∀ b o, h1.get? b = some o → h'.get? b = some o) → h'.get? h1.objs.size = some (PyProof.Rows.seqObj "list" out.toArray c) → EachIs (fun v (p : V × PyData) => RelV p.1 v) out (ps.mergeSort (dataLe false (·.2))) → Q (.ref h1.objs.size) { s with heap := h', toks := tk }) :
    wpAny (model prog w) A (call (.builtin "sorted") [u]) Q E s := by
  refine Calls.call_function_entry PyProof.Rows.kind_sorted PyProof.Rows.plain_sorted PyProof.Rows.entry_sorted (PyProof.Rows.args_sorted1 _) ?_
  unfold Builtin.«sorted»
  refine wpAny_bind (m := checkCount "sorted" 1 1 _) (wpAny_pure ?_)
  have hl : its.length = ps.length := er.length
  refine wpAny_bind (col _ _ fun h1 tk k1 => wpAny_bind (wpAny_newList ?_ (by rw [hl]; exact hz)))
  have ho : (h1.push (PyProof.Rows.seqObj "list" its.toArray 0)).get? h1.objs.size = some (PyProof.Rows.seqObj "list" its.toArray 0) := Heap.get?_push_size _ rfl
  have k2 : ∀ b o, s.heap.get? b = some o → (h1.push (PyProof.Rows.seqObj "list" its.toArray 0)).get? b = some o := fun b o e => Heap.get?_push_of_some _ (k1 b o e)
  have lt1 : ∀ b o, s.heap.get? b = some o → b < h1.objs.size := fun b o e => Heap.lt_size (k1 b o e)
  have ksort : ∀ b o, s.heap.get? b = some o → (PySem.W.sortingHeap (h1.push (PyProof.Rows.seqObj "list" its.toArray 0)) h1.objs.size its).get? b = some o := fun b o e => PySem.W.sortingHeap_old (Nat.ne_of_lt (lt1 b o e)) (k2 b o e)
  have rd' : EachIs (fun v (p : V × PyData) => ∃ as, Reads (PySem.W.sortingHeap (h1.push (PyProof.Rows.seqObj "list" its.toArray 0)) h1.objs.size its) v p.2 as) its ps := rd.mono fun v p ⟨as, r⟩ => ⟨as, PyProof.Rows.Reads.keeps ksort r⟩
  have srt := PySem.W.sortVals_data (h' := PySem.W.sortingHeap (h1.push (PyProof.Rows.seqObj "list" its.toArray 0)) h1.objs.size its) (enc := fun p : V × PyData => p.2) false er rd' hal
  show wpAny _ _ _ _ _ { s with heap := h1.push (PyProof.Rows.seqObj "list" its.toArray 0), toks := tk }
  refine wpAny_bind (wpAny_holding (wpAny_call_entry PyProof.Rows.slot_list_sort ⟨_, ho, rfl⟩ PyProof.Rows.entry_list_sort
    (PySem.W.list_sort_vals (s := { s with heap := h1.push (PyProof.Rows.seqObj "list" its.toArray 0), toks := tk }) (κ := PySem.W.dataKind (PySem.W.sortingHeap (h1.push (PyProof.Rows.seqObj "list" its.toArray 0)) h1.objs.size its) (ps.map (·.2))) ho
      (PySem.W.SortsAt.data (PySem.W.each_map (R := fun v d => ∃ as, Reads (PySem.W.sortingHeap (h1.push (PyProof.Rows.seqObj "list" its.toArray 0)) h1.objs.size its) v d as) (fun p : V × PyData => p.2) rd') hal hk fun d hd => ?_) (by rw [hl]; exact hz) ⟨_, rfl, wpAny_pure ?_⟩) (PyProof.Rows.args_list_sort _)))
  · obtain ⟨p, hp, rfl⟩ := List.mem_map.mp hd
    exact hu p hp
  · obtain ⟨c, hc⟩ := PyProof.Rows.sortedHeap_at (vs := its) (out := (PySem.W.sortVals (PySem.W.dataKind (PySem.W.sortingHeap (h1.push (PyProof.Rows.seqObj "list" its.toArray 0)) h1.objs.size its) (ps.map (·.2))) false its its).toArray) ho
    refine ⟨_, rfl, h h1 tk _ _ c k1 (fun b o e => ?_) hc srt⟩
    have lt := Heap.lt_size e
    rw [PyProof.Rows.sortedHeap_old (Nat.ne_of_lt lt) (by rw [PyProof.Rows.size_push']; exact Nat.lt_succ_of_lt lt)]
    exact Heap.get?_push_of_some _ e
end
/-! ### what a list, a tuple, a dict has -/
section
variable {X : Cx} {g : G} {S : Addr → Prop} {H : Hp} {s : Shared} {pins : List (Addr × Obj)} {σ : St}
theorem dq_kV (k : Key) : Dq g S H (kV k) (kD k) := by
  cases k with
  | inl i => exact .int i
  | inr x => exact .str x
/-- a dict's keys, as they stand -/
theorem dict_raw {a : Addr} {l : List (UK × V)} (I : Inv X pins σ H s) (hd : DAtR H a l) : ∃ (o : Obj) (es : Array DictEntry) (ep : Nat) (ys : List V), s.heap.get? a = some o ∧ o.ExactDict ∧ o.data = .dict es ep ∧ (a == sysModules) = false ∧ es.size ≤ sizeLine ∧
    Vals ys (es.toList.map (·.key)) ∧ ∀ (g : G) (S : Addr → Prop), DqAll g S H ys (l.map fun p => uD p.1) := by
  rcases hd with ⟨kvs, e, rfl⟩ | ⟨kvs, e, rfl⟩
  · obtain ⟨z, lo, vs, rk, o, es, ep, ho, hx, hdt, _, hp, _⟩ := (show ObjOk X.prog X.w H s.heap a (.dK kvs) from e.ok I.hok)
    have key : ∀ {el : List DictEntry} {vs : List (Key × Value)} {kvs : List (Key × V)}, Pairs (mixKind X.prog X.w) el vs → KV kvs vs → Vals (kvs.map fun p => kV p.1) (el.map (·.key)) ∧ el.length = kvs.length := by
      intro el vs kvs h
      induction h generalizing kvs with
      | nil => intro r; cases r; exact ⟨.nil, rfl⟩
      | cons h1 _ _ ih =>
        intro r
        cases r with
        | cons r1 r2 =>
          obtain ⟨i1, i2⟩ := ih r2
          refine ⟨.cons ?_ i1, by simp [i2]⟩
          have q := keyIs_rel h1
          rw [← r1.1] at q
          exact q
    obtain ⟨k1, k2⟩ := key hp rk
    refine ⟨o, es, ep, _, ho, hx, hdt, lo, by rw [← Array.length_toList, k2]; exact z, k1, fun g S => ?_⟩
    clear k1 k2 key hp rk z e
    induction kvs with
    | nil => exact .nil
    | cons p t ih =>
      exact .cons (dq_kV p.1) ih
  · obtain ⟨z, lo, xs, pr, o, es, ep, ho, hx, hdt, he, _⟩ := (show ObjOk X.prog X.w H s.heap a (.dT kvs) from e.ok I.hok)
    have key : ∀ {kvs : List (List Key × V)} {xs : List (List Key × Addr × Value)}, KT H kvs xs → Vals (xs.map fun x => V.ref x.2.1) ((xs.map (entryOfKey (tupleKind (mixKind X.prog X.w)))).map (·.key)) ∧ kvs.length = xs.length ∧ ∀ (g : G) (S : Addr → Prop), DqAll g S H (xs.map fun x => V.ref x.2.1) (kvs.map fun p => ksD p.1) := by
      intro kvs xs h
      induction h with
      | nil => exact ⟨.nil, rfl, fun _ _ => .nil⟩
      | cons r _ ih =>
        obtain ⟨i1, i2, i3⟩ := ih
        refine ⟨.cons (show _ = _ from rfl) i1, by simp [i2], fun g S => .cons (.tup (.of r.2.1) ?_) (i3 g S)⟩
        rename_i p q _ _ _
        generalize p.1 = ks
        induction ks with
        | nil => exact .nil
        | cons k t ih =>
          exact .cons (dq_kV k) ih
    obtain ⟨k1, k2, k3⟩ := key pr
    refine ⟨o, es, ep, _, ho, hx, hdt, lo, by rw [← Array.length_toList, he, List.length_map, ← k2]; exact z, by rw [he]; exact k1, fun g S => ?_⟩
    have := k3 g S
    rw [List.map_map]
    exact this
end
/-! ### calls by what they do to data -/
def rD (K : PySem.W.Frag) (f : List D → Option D) : List V → Hp → VK → Prop := fun vs H Q => ∃ (g : G) (S : Addr → Prop) (s : DS) (ds : List D) (z : D), g.K = K ∧ SOk g S H ∧ Ok g H s ∧ DqAll g S H vs ds ∧ f ds = some z ∧ ∀ H' v, Ext g H H' → Ok g H' s → Dq g S H' v z → Q v H'
theorem CallOk.of {X : Cx} {fn : Value} {f : List D → Option D} (h : CallR X fn (rD X.K f)) : CallOk X fn f := ⟨_, h, fun g S H s xs ds z Q hK so ok r e q => ⟨g, S, s, ds, z, hK, so, ok, r, e, q⟩⟩
/-- the items of a list, of a tuple, the keys of a dict -/
def seqOf : D → Option (List D)
  | .list ds => some ds
  | .tuple ds => some ds
  | .dict kd => (unl kd).map fun kd => kd.map (·.1)
  | _ => none
theorem seqOf_dict {kd : List (D × D)} {ds : List D} (h : seqOf (.dict kd) = some ds) : ∃ kd', unl kd = some kd' ∧ ds = kd'.map (·.1) := by
  obtain ⟨kd', h1, h2⟩ := Option.map_eq_some_iff.mp (show (unl kd).map (fun kd => kd.map (·.1)) = some ds from h)
  exact ⟨kd', h1, h2.symm⟩
section
variable {X : Cx} {g : G} {S : Addr → Prop} {H : Hp} {s : Shared} {pins : List (Addr × Obj)} {σ : St}
/-- they can be collected -/
theorem col_seq {x : V} {d : D} {ds : List D} {u : Value} (hc : X.calm = true) (I : Inv X pins σ H s) (hK : g.K = X.K) (r : Dq g S H x d) (ru : RelV x u) (h : seqOf d = some ds) : ∃ (xs : List V) (its : List Value), DqAll g S H xs ds ∧ Vals xs its ∧ its.length ≤ sizeLine ∧
    ∀ (R : List Value → Shared → Prop) (E : Value → Shared → Prop), (∀ h' tk, (∀ b o, s.heap.get? b = some o → h'.get? b = some o) → R its { s with heap := h', toks := tk }) → wpAny (model X.prog X.w) X.A.in1 (collect u) R E s := by
  have dict : ∀ {v : V} {kd kd' : List (D × D)}, Dq g S H v (.dict kd) → unl kd = some kd' → RelV v u → ∃ (xs : List V) (its : List Value), DqAll g S H xs (kd'.map (·.1)) ∧ Vals xs its ∧ its.length ≤ sizeLine ∧
      ∀ (R : List Value → Shared → Prop) (E : Value → Shared → Prop), (∀ h' tk, (∀ b o, s.heap.get? b = some o → h'.get? b = some o) → R its { s with heap := h', toks := tk }) → wpAny (model X.prog X.w) X.A.in1 (collect u) R E s := by
    intro v kd kd' r n ru
    obtain ⟨a, l, rfl, _, da, dr⟩ := r.dict n
    cases ru
    obtain ⟨o, es, ep, ys, ho, hx, hdt, lo, z, k1, k3⟩ := dict_raw I da
    refine ⟨ys, _, ?_, k1, by rw [List.length_map, Array.length_toList]; exact z, fun R E k => PySem.W.kdu_collect (A := X.A.in1) (kdl_raw lo hx hdt) (I.ok.hd hc) ho z fun h' tk acc hk hacc => ?_⟩
    · have := k3 g S
      rw [dr.keys]
      exact this
    · have e : acc.toList = es.toList.map (·.key) := by
        apply List.ext_getElem?
        intro j
        rw [List.getElem?_map]
        cases hj : acc.toList[j]? with
        | none =>
          have h1 := List.getElem?_eq_none_iff.mp hj
          rw [List.getElem?_eq_none (by rw [Array.length_toList] at h1 ⊢; have := hacc.1; omega)]
          rfl
        | some v =>
          obtain ⟨en, hen, hv⟩ := hacc.2 j v (by rw [← Array.getElem?_toList]; exact hj)
          rw [Array.getElem?_toList, hen, hv]
          rfl
      rw [e]
      exact k h' tk hk
  cases r with
  | lst n e a =>
    cases h
    cases ru
    obtain ⟨its, rv, pl, hz⟩ := I.list (.of e)
    refine ⟨_, its, a, rv, by rw [← rv.length]; exact hz, fun R E k => PyProof.Rows.collect_list pl.isList (k _ _ fun b o e => ?_) (by rw [← rv.length]; exact hz)⟩
    have lt := Heap.lt_size e
    rw [Heap.get?_update_ne _ _ _ _ (Nat.ne_of_lt lt)]
    exact Heap.get?_push_of_some _ e
  | tup e a =>
    cases h
    cases ru
    obtain ⟨its, rv, pl, hz⟩ := I.tuple (hK ▸ e.seqT)
    exact ⟨_, its, a, rv, by rw [← rv.length]; exact hz, fun R E k => col_tup pl (by rw [← rv.length]; exact hz) k⟩
  | dk n e q a =>
    obtain ⟨kd', n1, rfl⟩ := seqOf_dict h
    exact dict (Dq.dk n e q a) n1 ru
  | dt n e q a =>
    obtain ⟨kd', n1, rfl⟩ := seqOf_dict h
    exact dict (Dq.dt n e q a) n1 ru
  | lkk n e q a =>
    obtain ⟨kd', n1, rfl⟩ := seqOf_dict h
    exact dict (Dq.lkk n e q a) n1 ru
  | lkt n e q a =>
    obtain ⟨kd', n1, rfl⟩ := seqOf_dict h
    exact dict (Dq.lkt n e q a) n1 ru
  | st e =>
    obtain ⟨kd', n1, _⟩ := seqOf_dict h
    cases n1
  | _ => cases h
end
/-! ### the order -/
theorem lt_swo : SrtO.Swo dataLt := by
  refine ⟨fun x y h => ?_, fun x y z h1 h2 => ?_⟩
  · cases q : dataLt y x with
    | false => rfl
    | true =>
      have t := PyProof.Rows.lex_trans (O := PyProof.Rows.itemOrd) _ _ _ h q
      have i := PyProof.Rows.lex_irrefl (O := PyProof.Rows.itemOrd) (PySem.W.keyToks x)
      rw [i] at t
      cases t
  · cases q : dataLt z x with
    | false => rfl
    | true =>
      rcases PyProof.Rows.lex_negTrans (O := PyProof.Rows.itemOrd) _ (PySem.W.keyToks y) _ q with t | t
      · have t' : dataLt z y = true := t
        rw [h2] at t'
        cases t'
      · have t' : dataLt y x = true := t
        rw [h1] at t'
        cases t'
/-- put into its place, behind equal ones -/
def insD (d : D) : List D → List D
  | [] => [d]
  | x :: l => if dataLt d x = true then d :: x :: l else x :: insD d l
def srtR : List D → List D → List D
  | acc, [] => acc
  | acc, d :: ds => srtR (insD d acc) ds
/-- sorted, by putting one after the other into its place -/
def srtD (ds : List D) : List D := srtR [] ds
theorem insD_mem {d y : D} : ∀ {l : List D}, y ∈ insD d l ↔ y = d ∨ y ∈ l
  | [] => by simp [insD]
  | x :: l => by
    unfold insD
    split
    · simp
    · rw [List.mem_cons, List.mem_cons, insD_mem]
      constructor
      · rintro (h | h | h)
        · exact .inr (.inl h)
        · exact .inl h
        · exact .inr (.inr h)
      · rintro (h | h | h)
        · exact .inr (.inl h)
        · exact .inl h
        · exact .inr (.inr h)
theorem insD_srt {d : D} : ∀ {l : List D}, SrtO.Srtd dataLt l → SrtO.Srtd dataLt (insD d l)
  | [], _ => SrtO.srtd_one d
  | x :: l, h => by
    unfold insD
    split
    · rename_i c
      refine List.pairwise_cons.mpr ⟨fun y hy => ?_, h⟩
      exact lt_swo.asym _ _ (lt_swo.lt_all h c y hy)
    · rename_i c
      have c' : dataLt d x = false := by simpa using c
      refine List.pairwise_cons.mpr ⟨fun y hy => ?_, insD_srt (List.pairwise_cons.mp h).2⟩
      rcases insD_mem.mp hy with rfl | hy
      · exact c'
      · exact SrtO.srtd_head h y hy
theorem insD_stb {d : D} : ∀ {l : List D}, SrtO.Srtd dataLt l → SrtO.Stb dataLt (insD d l) (l ++ [d])
  | [], _ => .refl _
  | x :: l, h => by
    unfold insD
    split
    · rename_i c
      exact SrtO.Stb.swap lt_swo (A := [d]) (B := x :: l) fun a ha b hb => by rw [List.mem_singleton.mp ha]; exact lt_swo.lt_all h c b hb
    · exact SrtO.Stb.app (a := [x]) (b := [x]) (c := insD d l) (d := l ++ [d]) (.refl [x]) (insD_stb (List.pairwise_cons.mp h).2)
theorem srtR_ok : ∀ (ds acc : List D), SrtO.Srtd dataLt acc → SrtO.Srtd dataLt (srtR acc ds) ∧ SrtO.Stb dataLt (srtR acc ds) (acc ++ ds)
  | [], acc, h => ⟨h, by rw [List.append_nil]; exact .refl _⟩
  | d :: ds, acc, h => by
    obtain ⟨h1, h2⟩ := srtR_ok ds (insD d acc) (insD_srt h)
    refine ⟨h1, h2.trans ?_⟩
    have e : acc ++ d :: ds = (acc ++ [d]) ++ ds := by simp
    rw [e]
    exact (insD_stb h).app (.refl ds)
theorem srtD_srt (ds : List D) : SrtO.Srtd dataLt (srtD ds) := (srtR_ok ds [] .nil).1
theorem srtD_stb (ds : List D) : SrtO.Stb dataLt (srtD ds) ds := (srtR_ok ds [] .nil).2
theorem srtD_perm (ds : List D) : (srtD ds).Perm ds := (srtD_stb ds).perm
theorem le_id : ∀ a b : D, dataLe false (id : D → D) a b = !dataLt b a := fun a b => rfl
theorem le_tot (a b : D) : (dataLe false (id : D → D) a b || dataLe false (id : D → D) b a) = true := by
  rw [le_id, le_id]
  cases h : dataLt b a with
  | false => rfl
  | true => rw [lt_swo.asym _ _ h]; rfl
theorem le_tr (a b c : D) (h1 : dataLe false (id : D → D) a b = true) (h2 : dataLe false (id : D → D) b c = true) : dataLe false (id : D → D) a c = true := by
  rw [le_id] at *
  rw [lt_swo.tr a b c (by simpa using h1) (by simpa using h2)]; rfl
theorem msort_stb (ds : List D) : SrtO.Stb dataLt (ds.mergeSort (dataLe false id)) ds := by
  refine ⟨List.mergeSort_perm _ _, fun x => ?_⟩
  have pw : (ds.filter (SrtO.eqv dataLt x)).Pairwise fun a b => dataLe false (id : D → D) a b = true := by
    refine List.Pairwise.imp_of_mem (R := fun _ _ => True) (fun {a b} ha hb _ => ?_) (List.pairwise_of_forall fun _ _ => trivial)
    have h1 := SrtO.eqv_iff.mp (List.mem_filter.mp ha).2
    have h2 := SrtO.eqv_iff.mp (List.mem_filter.mp hb).2
    rw [le_id, lt_swo.tr a x b h1.1 h2.2]
    rfl
  have sl := List.sublist_mergeSort le_tr le_tot pw (List.filter_sublist (l := ds))
  have sl2 := sl.filter (SrtO.eqv dataLt x)
  rw [List.filter_filter] at sl2
  simp only [Bool.and_self] at sl2
  refine (sl2.eq_of_length ?_).symm
  exact ((List.mergeSort_perm ds (dataLe false id)).filter _).length_eq.symm
theorem srtD_eq (ds : List D) : ds.mergeSort (dataLe false id) = srtD ds := by
  refine SrtO.stb_uniq lt_swo ?_ (srtD_srt ds) ((msort_stb ds).trans ⟨(srtD_perm ds).symm, fun x => ((srtD_stb ds).cls x).symm⟩)
  refine (List.pairwise_mergeSort le_tr le_tot ds).imp fun {a b} h => ?_
  rw [le_id] at h
  simpa using h
/-! ### sorted, min, max, any, all -/
def alikes (ds : List D) : Bool := ds.all fun d => ds.all fun e => alike d e
def isTup1 : D → Bool
  | .tuple (_ :: _) => true
  | _ => false
def notTN : D → Bool
  | .none => false
  | .tuple _ => false
  | _ => true
def sortOk (ds : List D) : Bool := alikes ds && (ds.all isTup1 || ds.all notTN) && ds.all SeqAt.shaped
theorem alikes_all {ds : List D} (h : alikes ds = true) : AllAlike ds := fun d hd e he => by
  have h1 := List.all_eq_true.mp h d hd
  exact List.all_eq_true.mp h1 e he
theorem sortOk_of {ds : List D} (h : sortOk ds = true) : AllAlike ds ∧ Sortable ds ∧ ∀ d ∈ ds, SeqAt.shaped d = true := by
  unfold sortOk at h
  rw [Bool.and_eq_true, Bool.and_eq_true, Bool.or_eq_true] at h
  refine ⟨alikes_all h.1.1, ?_, fun d hd => List.all_eq_true.mp h.2 d hd⟩
  rcases h.1.2 with c | c
  · refine .inl fun d hd => ?_
    have := List.all_eq_true.mp c d hd
    unfold isTup1 at this
    split at this
    · exact ⟨_, _, rfl⟩
    · cases this
  · refine .inr fun d hd => ?_
    have := List.all_eq_true.mp c d hd
    constructor
    · rintro rfl
      cases this
    · rintro xs rfl
      cases this
def sortedD : List D → Option D
  | [d] => (seqOf d).bind fun ds => if sortOk ds = true then some (.list (srtD ds)) else none
  | _ => none
section
variable {X : Cx} {g : G} {S : Addr → Prop} {H : Hp} {s : Shared} {pins : List (Addr × Obj)} {σ : St}
theorem each_pairs (I : Inv X pins σ H s) (hK : g.K = X.K) : ∀ {xs : List V} {ds : List D} {its : List Value}, DqAll g S H xs ds → Vals xs its → (∀ d ∈ ds, SeqAt.shaped d = true) →
    EachIs (fun v (p : V × PyData) => RelV p.1 v) its (xs.zip ds) ∧ EachIs (fun v (p : V × PyData) => ∃ as, Reads s.heap v p.2 as) its (xs.zip ds) ∧ (xs.zip ds).map (·.2) = ds ∧ (∀ p ∈ xs.zip ds, Dq g S H p.1 p.2) ∧ (xs.zip ds).length = ds.length
  | _, _, _, .nil, .nil, _ => ⟨.nil, .nil, rfl, (fun p h => by simp at h), rfl⟩
  | _, _, _, .cons (v := v) (d := d) r t, .cons ru tu, h => by
    obtain ⟨h1, h2, h3, h4, h5⟩ := each_pairs I hK t tu fun d hd => h d (List.mem_cons_of_mem _ hd)
    refine ⟨.cons ru h1, .cons (Dp.reads I d v _ (hK ▸ r.dp d v (SeqAt.canLay_of_shaped (h d List.mem_cons_self))) ru) h2, by simp [h3], fun p hp => ?_, by simp [h5]⟩
    rcases List.mem_cons.mp hp with rfl | hp
    · exact r
    · exact h4 p hp
theorem vals_each : ∀ {out : List Value} {ps : List (V × PyData)}, EachIs (fun v (p : V × PyData) => RelV p.1 v) out ps → Vals (ps.map (·.1)) out
  | _, _, .nil => .nil
  | _, _, .cons r t => .cons r (vals_each t)
theorem dqall_pairs : ∀ {ps : List (V × PyData)}, (∀ p ∈ ps, Dq g S H p.1 p.2) → DqAll g S H (ps.map (·.1)) (ps.map (·.2))
  | [], _ => .nil
  | p :: ps, h => .cons (h p List.mem_cons_self) (dqall_pairs fun q hq => h q (List.mem_cons_of_mem _ hq))
end
theorem k_sorted {X : Cx} {k : Nat} (hr : Room k X.A) (hc : X.calm = true) : CallOk X (.builtin "sorted") sortedD := .of fun pins s σ H vs us Q I r h => by
  obtain ⟨g, S, s0, ds, z, hK, so, ok, rv, hz, q⟩ := h
  unfold sortedD at hz
  split at hz
  · obtain ⟨es, h1, h2⟩ := Option.bind_eq_some_iff.mp hz
    split at h2
    · rename_i c
      cases h2
      cases rv with
      | cons r1 r2 =>
        cases r2
        obtain ⟨u, rfl, ru⟩ := vals1 r
        obtain ⟨xs, its, ra, rx, hl, col⟩ := col_seq hc I hK r1 ru h1
        obtain ⟨c1, c2, c3⟩ := sortOk_of c
        obtain ⟨e1, e2, e3, e4, e5⟩ := each_pairs I hK ra rx c3
        refine sorted_col col e1 e2 (by rw [e3]; exact c1) (by rw [e3]; exact c2) (fun p hp => ?_) (by rw [e5, ← ra.length, rx.length]; exact hl) fun h1 tk h' out c k1 k2 ho eo => ?_
        · have hd : p.2 ∈ es := by rw [← e3]; exact List.mem_map.mpr ⟨p, hp, rfl⟩
          have := SeqAt.depth_of_shaped (c3 _ hd)
          have := hr.un
          omega
        · have I1 : Inv X pins σ H { s with heap := h1, toks := tk } := I.kept k1
          have hv := vals_each eo
          have hz : ((xs.zip es).mergeSort (dataLe false (·.2))).length ≤ sizeLine := by rw [(List.mergeSort_perm _ _).length_eq, e5, ← ra.length, rx.length]; exact hl
          have em : ((xs.zip es).mergeSort (dataLe false (·.2))).map (·.2) = srtD es := by
            rw [List.map_mergeSort (f := fun p : V × PyData => p.2) (r := dataLe false (fun p : V × PyData => p.2)) (s := dataLe false (id : D → D)) fun a _ b _ => rfl, e3, srtD_eq]
          have rd := dqall_pairs (g := g) (S := S) (H := H) (ps := (xs.zip es).mergeSort (dataLe false (·.2))) fun p hp => e4 p ((List.mergeSort_perm _ _).mem_iff.mp hp)
          rw [em] at rd
          have hp := I1.hok.fresh (Nat.le_refl _)
          obtain ⟨x1, x2, x3⟩ := new_lst ok so rd hp
          exact ⟨.ref h1.objs.size, _, I1.laid (t' := tk) k2 (Nat.le_refl _) (show ObjOk X.prog X.w _ h' _ (.lst _) from ⟨by rw [List.length_map]; exact hz, out, c, hv, ho⟩), rfl, q _ _ x1 x2 x3⟩
    · cases h2
  · cases hz
def extrD (f : D → List D → D) : List D → Option D
  | [.list (x :: xs)] => if alikes (x :: xs) = true ∧ (x :: xs).all (fun d => notNone d && SeqAt.shaped d) = true then some (f x xs) else none
  | [.tuple (x :: xs)] => if alikes (x :: xs) = true ∧ (x :: xs).all (fun d => notNone d && SeqAt.shaped d) = true then some (f x xs) else none
  | _ => none
theorem extr_ok {xs : List D} {x : D} (h : alikes (x :: xs) = true ∧ (x :: xs).all (fun d => notNone d && SeqAt.shaped d) = true) : PySem.W.AlikeAll (x :: xs) ∧ (∀ d ∈ x :: xs, SeqAt.shaped d = true) ∧ PyData.depthAll (x :: xs) ≤ 64 := by
  have h2 : ∀ d ∈ x :: xs, notNone d = true ∧ SeqAt.shaped d = true := fun d hd => by
    have := List.all_eq_true.mp h.2 d hd
    rw [Bool.and_eq_true] at this
    exact this
  refine ⟨⟨alikes_all h.1, fun d hd e => ?_⟩, fun d hd => (h2 d hd).2, ?_⟩
  · have := (h2 d hd).1
    rw [e] at this
    cases this
  · have key : ∀ l : List D, (∀ d ∈ l, SeqAt.shaped d = true) → PyData.depthAll l ≤ 64 := fun l => by
      induction l with
      | nil => intro _; simp [PyData.depthAll]
      | cons d l ih =>
        intro h
        have h1 := SeqAt.depth_of_shaped (h d List.mem_cons_self)
        have h3 := ih fun e he => h e (List.mem_cons_of_mem _ he)
        simp only [PyData.depthAll]
        omega
    exact key _ fun d hd => (h2 d hd).2
theorem foldl_mem {f : D → D → Bool} : ∀ (xs : List D) (x : D), xs.foldl (fun a y => if f a y = true then y else a) x ∈ x :: xs
  | [], x => List.mem_cons_self
  | y :: xs, x => by
    rw [List.foldl_cons]
    split
    · exact List.mem_cons_of_mem _ (foldl_mem xs y)
    · rcases List.mem_cons.mp (foldl_mem xs x) with h | h
      · rw [h]; exact List.mem_cons_self
      · exact List.mem_cons_of_mem _ (List.mem_cons_of_mem _ h)
section
variable {X : Cx} {g : G} {S : Addr → Prop} {H : Hp} {s : Shared} {pins : List (Addr × Obj)} {σ : St} {s0 : DS}
/-- the item that min or max gives out stands for the data that it is -/
theorem extr_back {xs : List V} {ds : List D} {its : List Value} {i : Nat} {v : Value} {y : D} {h' : Heap} {bs : List Addr} (I : Inv X pins σ H s) (hK : g.K = X.K) (r : DqAll g S H xs ds) (rv : Vals xs its) (hs : ∀ d ∈ ds, SeqAt.shaped d = true) (al : AllAlike ds) (hy : y ∈ ds)
    (e : its[i]? = some v) (rd : Reads h' v y bs) (k : ∀ b o, s.heap.get? b = some o → h'.get? b = some o) : ∃ x, RelV x v ∧ Dq g S H x y := by
  have hl : i < xs.length := by
    have := rv.length
    have : i < its.length := by
      by_cases c : i < its.length
      · exact c
      · rw [List.getElem?_eq_none (by omega)] at e
        cases e
    omega
  obtain ⟨u, e1, ru⟩ := rv.get (List.getElem?_eq_getElem hl)
  rw [e] at e1
  cases e1
  obtain ⟨d, e2, rdq⟩ := r.get' (List.getElem?_eq_getElem hl)
  have hd := List.mem_of_getElem? e2
  obtain ⟨as, r2⟩ := Dp.reads I d _ _ (hK ▸ rdq.dp d _ (SeqAt.canLay_of_shaped (hs d hd))) ru
  have r3 := PyProof.Rows.Reads.keeps k r2
  have ed := PySem.W.alike_unique _ _ _ _ _ (al _ hy _ hd) rd r3
  exact ⟨_, ru, ed ▸ rdq⟩
end
theorem all_canLay : ∀ {ds : List D}, (∀ d ∈ ds, SeqAt.shaped d = true) → PyData.canLayAll0 ds = true
  | [], _ => rfl
  | d :: ds, h => by
    simp only [PyData.canLayAll0, Bool.and_eq_true]
    exact ⟨SeqAt.canLay_of_shaped (h d List.mem_cons_self), all_canLay fun e he => h e (List.mem_cons_of_mem _ he)⟩
theorem tup_isTuple {h : Heap} {a : Addr} {vs : Array Value} (t : PyProof.Rows.IsTup h a vs) : h.IsTuple a vs := t
def minCD (ds : List D) : Option D := match ds with
  | [.int i, .int j] => some (.int (if j < i then j else i))
  | ds => extrD PySem.W.minD ds
theorem k_min {X : Cx} {k : Nat} (hr : Room k X.A) (hc : X.calm = true) : CallOk X (.builtin "min") minCD := by
  have gen : CallR X (.builtin "min") (rD X.K (extrD PySem.W.minD)) := fun pins s σ H vs us Q I r h => by
    obtain ⟨g, S, s0, ds, z, hK, so, ok, rv, hz, q⟩ := h
    have mem : ∀ (x : D) (xs : List D), PySem.W.minD x xs ∈ x :: xs := fun x xs => foldl_mem (f := fun a y => dataLt y a) xs x
    unfold extrD at hz
    split at hz
    · rename_i x xs
      split at hz
      · rename_i c
        cases hz
        obtain ⟨al, sh, dp⟩ := extr_ok c
        cases rv with
        | cons r1 r2 =>
          cases r2
          obtain ⟨u, rfl, ru⟩ := vals1 r
          cases r1 with
          | lst n e a =>
            cases ru
            obtain ⟨its, rx, pl, hz⟩ := I.list (.of e)
            obtain ⟨as, ra⟩ := Dp.readsAll I _ _ _ (hK ▸ a.dp _ _ (all_canLay sh)) rx
            refine PySem.W.min_list_data (I.ok.hd hc) pl.isList (by simpa using ra) al (by have := hr.un; omega) fun i v h' tk bs hi rd kp => ?_
            obtain ⟨y, h1, h2⟩ := extr_back I hK a rx sh al.1 (mem x xs) (by simpa using hi) rd kp
            exact ⟨y, H, I.kept kp, h1, q H y Ext.refl ok h2⟩
      · cases hz
    · rename_i x xs
      split at hz
      · rename_i c
        cases hz
        obtain ⟨al, sh, dp⟩ := extr_ok c
        cases rv with
        | cons r1 r2 =>
          cases r2
          obtain ⟨u, rfl, ru⟩ := vals1 r
          cases r1 with
          | tup e a =>
            cases ru
            obtain ⟨its, rx, pl, hz⟩ := I.tuple (hK ▸ e.seqT)
            obtain ⟨as, ra⟩ := Dp.readsAll I _ _ _ (hK ▸ a.dp _ _ (all_canLay sh)) rx
            refine PySem.W.min_tuple_data (I.ok.hd hc) (tup_isTuple pl) (by simpa using ra) al (by have := hr.un; omega) fun i v h' tk bs hi rd kp => ?_
            obtain ⟨y, h1, h2⟩ := extr_back I hK a rx sh al.1 (mem x xs) (by simpa using hi) rd kp
            exact ⟨y, H, I.kept kp, h1, q H y Ext.refl ok h2⟩
      · cases hz
    · cases hz
  refine ⟨_, gen.or (call_min2 hc), ?_⟩
  intro g S H s xs ds z Q hK so ok r h q
  unfold minCD at h
  split at h
  · cases h
    cases r with
    | cons r1 r2 =>
      cases r2 with
      | cons r2 r3 =>
        cases r3
        cases r1
        cases r2
        exact .inr ⟨_, _, rfl, q H _ Ext.refl ok (.int _)⟩
  · exact .inl ⟨g, S, s, ds, z, hK, so, ok, r, h, q⟩
def maxCD (ds : List D) : Option D := match ds with
  | [.int i, .int j] => some (.int (if j > i then j else i))
  | ds => extrD PySem.W.maxD ds
theorem k_max {X : Cx} {k : Nat} (hr : Room k X.A) (hc : X.calm = true) : CallOk X (.builtin "max") maxCD := by
  have gen : CallR X (.builtin "max") (rD X.K (extrD PySem.W.maxD)) := fun pins s σ H vs us Q I r h => by
    obtain ⟨g, S, s0, ds, z, hK, so, ok, rv, hz, q⟩ := h
    have mem : ∀ (x : D) (xs : List D), PySem.W.maxD x xs ∈ x :: xs := fun x xs => foldl_mem (f := fun a y => dataLt a y) xs x
    unfold extrD at hz
    split at hz
    · rename_i x xs
      split at hz
      · rename_i c
        cases hz
        obtain ⟨al, sh, dp⟩ := extr_ok c
        cases rv with
        | cons r1 r2 =>
          cases r2
          obtain ⟨u, rfl, ru⟩ := vals1 r
          cases r1 with
          | lst n e a =>
            cases ru
            obtain ⟨its, rx, pl, hz⟩ := I.list (.of e)
            obtain ⟨as, ra⟩ := Dp.readsAll I _ _ _ (hK ▸ a.dp _ _ (all_canLay sh)) rx
            refine PySem.W.max_list_data (I.ok.hd hc) pl.isList (by simpa using ra) al (by have := hr.un; omega) fun i v h' tk bs hi rd kp => ?_
            obtain ⟨y, h1, h2⟩ := extr_back I hK a rx sh al.1 (mem x xs) (by simpa using hi) rd kp
            exact ⟨y, H, I.kept kp, h1, q H y Ext.refl ok h2⟩
      · cases hz
    · rename_i x xs
      split at hz
      · rename_i c
        cases hz
        obtain ⟨al, sh, dp⟩ := extr_ok c
        cases rv with
        | cons r1 r2 =>
          cases r2
          obtain ⟨u, rfl, ru⟩ := vals1 r
          cases r1 with
          | tup e a =>
            cases ru
            obtain ⟨its, rx, pl, hz⟩ := I.tuple (hK ▸ e.seqT)
            obtain ⟨as, ra⟩ := Dp.readsAll I _ _ _ (hK ▸ a.dp _ _ (all_canLay sh)) rx
            refine PySem.W.max_tuple_data (I.ok.hd hc) (tup_isTuple pl) (by simpa using ra) al (by have := hr.un; omega) fun i v h' tk bs hi rd kp => ?_
            obtain ⟨y, h1, h2⟩ := extr_back I hK a rx sh al.1 (mem x xs) (by simpa using hi) rd kp
            exact ⟨y, H, I.kept kp, h1, q H y Ext.refl ok h2⟩
      · cases hz
    · cases hz
  refine ⟨_, gen.or (call_max2 hc), ?_⟩
  intro g S H s xs ds z Q hK so ok r h q
  unfold maxCD at h
  split at h
  · cases h
    cases r with
    | cons r1 r2 =>
      cases r2 with
      | cons r2 r3 =>
        cases r3
        cases r1
        cases r2
        exact .inr ⟨_, _, rfl, q H _ Ext.refl ok (.int _)⟩
  · exact .inl ⟨g, S, s, ds, z, hK, so, ok, r, h, q⟩
def boolsD : List D → Option (List Bool)
  | [] => some []
  | .bool b :: r => (boolsD r).map (b :: ·)
  | _ :: _ => none
theorem DqAll.bools {g : G} {S : Addr → Prop} {H : Hp} : ∀ {vs : List V} {ds : List D} {bs : List Bool}, DqAll g S H vs ds → boolsD ds = some bs → vs = bs.map V.bl
  | _, _, _, .nil, h => by cases h; rfl
  | _, _, bs, .cons r t, h => by
    cases r with
    | bl b =>
      obtain ⟨ms, h1, h2⟩ := Option.map_eq_some_iff.mp (show (boolsD _).map (b :: ·) = some bs from h)
      subst h2
      rw [DqAll.bools t h1]
      rfl
    | _ => cases h
def anyCD : List D → Option D
  | [.list ds] => (boolsD ds).map fun bs => .bool (bs.any id)
  | _ => none
def allCD : List D → Option D
  | [.list ds] => (boolsD ds).map fun bs => .bool (bs.all id)
  | _ => none
theorem k_any {X : Cx} (hc : X.calm = true) : CallOk X (.builtin "any") anyCD := ⟨_, cr_any hc, by
  intro g S H s xs ds z Q hK so ok r h q
  unfold anyCD at h
  split at h
  · obtain ⟨bs, h1, h2⟩ := Option.map_eq_some_iff.mp h
    subst h2
    cases r with
    | cons r1 r2 =>
      cases r2
      cases r1 with
      | lst n e a =>
        have e' := a.bools h1
        subst e'
        exact ⟨_, bs, rfl, .of e, q H _ Ext.refl ok (.bl _)⟩
  · cases h⟩
theorem k_all {X : Cx} (hc : X.calm = true) : CallOk X (.builtin "all") allCD := ⟨_, cr_all hc, by
  intro g S H s xs ds z Q hK so ok r h q
  unfold allCD at h
  split at h
  · obtain ⟨bs, h1, h2⟩ := Option.map_eq_some_iff.mp h
    subst h2
    cases r with
    | cons r1 r2 =>
      cases r2
      cases r1 with
      | lst n e a =>
        have e' := a.bools h1
        subst e'
        exact ⟨_, bs, rfl, .of e, q H _ Ext.refl ok (.bl _)⟩
  · cases h⟩
end W3

set_option Elab.async false
set_option linter.all false
set_option maxRecDepth 100000
set_option maxHeartbeats 4000000
/-! W4b: a, b = x, y; some of them ours. -/
namespace W3
open PySem PySem.Spec L2

/-- the values of argument lists, some of them new and ours -/
inductive PendA (g : G) (S : Addr → Prop) (H : Hp) : List Bool → List V → List D → List Addr → Prop
  | nil : PendA g S H [] [] [] []
  | pl {fl : List Bool} {v : V} {d : D} {vs : List V} {ds : List D} {As : List Addr} : Dq g S H v d → PendA g S H fl vs ds As → PendA g S H (false :: fl) (v :: vs) (d :: ds) As
  | ow {fl : List Bool} {a : Addr} {d : D} {vs : List V} {ds : List D} {As : List Addr} : OwnV g S H a d → PendA g S H fl vs ds As → PendA g S H (true :: fl) (.ref a :: vs) (d :: ds) (a :: As)
theorem PendA.imp {g : G} {S S' : Addr → Prop} {H H' : Hp} {fl : List Bool} {vs : List V} {ds : List D} {As : List Addr} (p : PendA g S H fl vs ds As) (i : ∀ v d, Dq g S H v d → Dq g S' H' v d) (j : ∀ a d, a ∈ As → OwnV g S H a d → OwnV g S' H' a d) : PendA g S' H' fl vs ds As := by
  induction p with
  | nil => exact .nil
  | pl r _ ih => exact .pl (i _ _ r) (ih j)
  | ow r _ ih => exact .ow (j _ _ List.mem_cons_self r) (ih fun a d h => j a d (List.mem_cons_of_mem _ h))
structure Pend (g : G) (S : Addr → Prop) (H H' : Hp) (fl : List Bool) (vs : List V) (ds : List D) (As : List Addr) : Prop where
  nd : As.Nodup
  fr : ∀ a ∈ As, H a = none
  all : PendA g (plusL S As) H' fl vs ds As
def tAF (K : PySem.W.Frag) (W : XW) (fl : List Bool) (f : AV) : TA := fun σ H Q => ∃ g S η s, At K g S H σ η s ∧ Res (W σ) g H (f η s) fun ds H' _ => ∀ vs As, Pend g S H H' fl vs ds As → Q vs H'
structure PAF (X : Cx) (W : XW) (fl : List Bool) (es : List Expr) (f : AV) : Prop where
  pa : PA X es (tAF X.K W fl f)
section
variable {X : Cx} {W : XW} {a b e : Expr} {es : List Expr} {fa fb : EV} {ga : AV} {pos : Pos} {fl : List Bool}
theorem plusL_nil {S : Addr → Prop} {b : Addr} (h : plusL S [] b) : S b := h.elim id fun z => nomatch z
theorem af_nil : PAF X W [] [] aN := ⟨pa_nil.con fun σ H Q ⟨g, S, η, s, at_, q⟩ => Res.here (x := ([] : List D)) q at_.ok [] [] ⟨.nil, (fun a h => nomatch h), .nil⟩⟩
theorem af_pl (ha : PED X W e fa) (hr : PAF X W fl es ga) (hs : starEach (e :: es) X.env = (false, eval e X.env) :: starEach es X.env := by rfl) : PAF X W (false :: fl) (e :: es) (aC fa ga) := ⟨(pa_cons ha.pe hr.pa hs).con fun σ H Q ⟨g, S, η, s, at_, q⟩ =>
  tD.mk at_ ((Res.bind q).imp fun d H1 s1 e1 k1 q1 v at1 r =>
    ⟨g, S, η, s1, at1, (Res.bind0 q1).imp fun ds H2 s2 e2 k2 q2 vs As p => q2 H2 e2 k2 (v :: vs) As ⟨p.nd, fun c hc => e1.none_ at_.ok.stl (p.fr c hc), .pl ((r.av fun c hc => hc.elim .inl fun z => .inr (p.fr c z)).ext (fun c z => .inl (at1.sok.st c z)) at1.ok.stl e2) p.all⟩⟩)⟩
/-- where a new one of ours stands -/
theorem At.plusV {K : PySem.W.Frag} {g : G} {S : Addr → Prop} {H H' : Hp} {σ : St} {η : Env} {s s' : DS} {D : Addr} {d : PyData} (at_ : At K g S H σ η s) (n : H D = none) (e : Ext g H H') (k : Ok g H' s') (o : OwnV g (W3.plus S D) H' D d) : At K g (W3.plus S D) H' σ η s' := by
  obtain ⟨ob, h, m⟩ := o.ob
  refine ⟨at_.gK, ⟨fun c z => .inl (at_.sok.st c z), fun c hc => ?_⟩, fun i d h => ?_, k, at_.len⟩
  · rcases hc with hc | hc
    · exact (at_.sok.ext e at_.ok.stl).trk c hc
    · subst hc
      exact ⟨_, h, m⟩
  · obtain ⟨v, h1, h2⟩ := at_.rep i d h
    exact ⟨v, h1, (h2.av (plus_av n)).ext (fun c z => .inl (at_.sok.st c z)) at_.ok.stl e⟩
theorem af_ow (ha : PEF X W e fa) (hr : PAF X W fl es ga) (hs : starEach (e :: es) X.env = (false, eval e X.env) :: starEach es X.env := by rfl) : PAF X W (true :: fl) (e :: es) (aC fa ga) := ⟨(pa_cons ha.pe hr.pa hs).con fun σ H Q ⟨g, S, η, s, at_, q⟩ =>
  ⟨g, S, η, s, at_, (Res.bind q).imp fun d H1 s1 e1 k1 q1 D n o => by
    show tAF X.K W fl ga σ H1 _
    have at1 := at_.plusV n e1 k1 o
    refine ⟨g, plus S D, η, s1, at1, (Res.bind0 q1).imp fun ds H2 s2 e2 k2 q2 vs As p => q2 H2 e2 k2 (.ref D :: vs) (D :: As) ⟨?_, fun c hc => ?_, ?_⟩⟩
    · refine List.nodup_cons.mpr ⟨fun z => ?_, p.nd⟩
      obtain ⟨ob, h, _⟩ := o.ob
      rw [p.fr D z] at h
      cases h
    · rcases List.mem_cons.mp hc with z | z
      · rw [z]; exact n
      · exact e1.none_ at_.ok.stl (p.fr c z)
    · have sub : ∀ c, plusL S (D :: As) c → plusL (plus S D) As c := fun c hc => by
        rcases hc with hc | hc
        · exact .inl (.inl hc)
        · rcases List.mem_cons.mp hc with hc | hc
          · exact .inl (.inr hc)
          · exact .inr hc
      have nD : some D ≠ g.st := fun z => by
        have := at_.sok.trk D (at_.sok.st D z.symm)
        obtain ⟨ob, h, _⟩ := this
        rw [n] at h
        cases h
      refine .ow ?_ (p.all.imp (fun v d r => r.anti sub) fun a d _ o => o.anti sub)
      refine (o.imp (S' := plusL (plus S D) As) (H' := H2) (fun o h m => e2.keep _ _ h nD m.tbl) fun vs ds r => (r.av fun c hc => hc.elim .inl fun z => .inr (p.fr c z)).ext (fun c z => .inl (.inl (at_.sok.st c z))) at1.ok.stl e2).anti sub⟩⟩
end
/-! ### they are stored -/
section
variable {K : PySem.W.Frag} {g : G} {Sb : Addr → Prop} {H0 H H' : Hp} {vs : Option (List Nat)} {σ0 σ : St} {O : List Nat} {η : Env} {s s' : DS} {OA : List (Nat × Addr)}
/-- the slots that get new ones of ours -/
def ownI : List Bool → List Nat → List Nat → List Nat
  | true :: fl, i :: is, O => ownI fl is (i :: O)
  | false :: fl, _ :: is, O => ownI fl is O
  | _, _, O => O
def setI : List Nat → List V → St → St
  | i :: is, v :: vs, σ => setI is vs (σ.set i (some v))
  | _, _, σ => σ
def setE : List Bool → List Nat → List D → Env → Option Env
  | true :: fl, i :: is, d :: ds, η => (ownE i d η).bind (setE fl is ds)
  | false :: fl, i :: is, d :: ds, η => setE fl is ds (η.set i (some d))
  | [], [], [], η => some η
  | _, _, _, _ => none
/-- with a greater S, while they are stored -/
structure OwnC (K : PySem.W.Frag) (g : G) (Sb S : Addr → Prop) (H0 : Hp) (O : List Nat) (H : Hp) (σ : St) (η : Env) (s : DS) (OA : List (Nat × Addr)) : Prop where
  names : OA.map (·.1) = O
  inj : ∀ p ∈ OA, ∀ q ∈ OA, p.2 = q.2 ∨ p.1 = q.1 → p = q
  fr : ∀ p ∈ OA, ¬ Sb p.2 ∧ H0 p.2 = none
  at_ : At K g S H σ (wipeE η O) s
  own : ∀ p ∈ OA, OwnAt g S H σ η p.1 p.2
theorem OwnC.set {S : Addr → Prop} (b : OwnC K g Sb S H0 O H σ η s OA) {i : Nat} {v : V} {d : PyData} (hi : i ∉ O) (r : Dq g S H v d) : OwnC K g Sb S H0 O H (σ.set i (some v)) (η.set i (some d)) s OA :=
  ⟨b.names, b.inj, b.fr, by rw [wipeE_set hi]; exact b.at_.set r, fun p hp => by
    have ne : i ≠ p.1 := fun z => hi (by rw [← b.names, z]; exact List.mem_map.mpr ⟨p, hp, rfl⟩)
    obtain ⟨o1, dp, o2, o3⟩ := b.own p hp
    exact ⟨by rw [List.getElem?_set_ne ne]; exact o1, dp, by rw [List.getElem?_set_ne ne]; exact o2, o3⟩⟩
theorem OwnC.more {S : Addr → Prop} (b : OwnC K g Sb S H0 O H σ η s OA) {i : Nat} {D : Addr} {d : PyData} (hi : i ∉ O) (hl : i < η.length) (hl2 : σ.length = η.length) (n : ¬ Sb D ∧ H0 D = none) (nA : D ∉ OA.map (·.2)) (r : OwnV g S H D d) : OwnC K g Sb S H0 (i :: O) H (σ.set i (some (.ref D))) (η.set i (some d)) s ((i, D) :: OA) := by
  refine ⟨by rw [List.map_cons, b.names], fun p hp q hq h => ?_, fun p hp => ?_, ⟨b.at_.gK, b.at_.sok, fun j e hj => ?_, b.at_.ok, ?_⟩, fun p hp => ?_⟩
  · rcases List.mem_cons.mp hp with hp | hp <;> rcases List.mem_cons.mp hq with hq | hq
    · rw [hp, hq]
    · subst hp
      rcases h with h | h
      · exact absurd (List.mem_map.mpr ⟨q, hq, h.symm⟩) nA
      · exact absurd (by rw [← b.names]; exact List.mem_map.mpr ⟨q, hq, h.symm⟩) hi
    · subst hq
      rcases h with h | h
      · exact absurd (List.mem_map.mpr ⟨p, hp, h⟩) nA
      · exact absurd (by rw [← b.names]; exact List.mem_map.mpr ⟨p, hp, h⟩) hi
    · exact b.inj p hp q hq h
  · rcases List.mem_cons.mp hp with hp | hp
    · subst hp
      exact n
    · exact b.fr p hp
  · obtain ⟨n1, n2⟩ := wipeE_some hj
    have ne : i ≠ j := fun z => n1 (by rw [z]; exact List.mem_cons_self)
    rw [List.getElem?_set_ne ne] at n2 ⊢
    exact b.at_.rep j e (by rw [wipeE_out fun z => n1 (List.mem_cons_of_mem _ z)]; exact n2)
  · rw [wipeE_length, List.length_set, List.length_set]
    exact hl2
  · rcases List.mem_cons.mp hp with hp | hp
    · subst hp
      exact ⟨by rw [List.getElem?_set_self (by rw [hl2]; exact hl)], d, by rw [List.getElem?_set_self hl], r⟩
    · have ne : i ≠ p.1 := fun z => hi (by rw [← b.names, z]; exact List.mem_map.mpr ⟨p, hp, rfl⟩)
      obtain ⟨o1, dp, o2, o3⟩ := b.own p hp
      exact ⟨by rw [List.getElem?_set_ne ne]; exact o1, dp, by rw [List.getElem?_set_ne ne]; exact o2, o3⟩
theorem OwnC.len {S : Addr → Prop} (b : OwnC K g Sb S H0 O H σ η s OA) : σ.length = η.length := by rw [b.at_.len, wipeE_length]
theorem store_go {S : Addr → Prop} {fl : List Bool} {ws : List V} {ds : List D} {As : List Addr} (p : PendA g S H fl ws ds As) : ∀ {is : List Nat} {O : List Nat} {σ : St} {η η' : Env} {OA : List (Nat × Addr)}, As.Nodup → (∀ a ∈ As, ¬ Sb a ∧ H0 a = none ∧ a ∉ OA.map (·.2)) → OwnC K g Sb S H0 O H σ η s OA →
    (∀ i ∈ is, i ∉ O) → is.Nodup → setE fl is ds η = some η' → ∃ OA', OwnC K g Sb S H0 (ownI fl is O) H (setI is ws σ) η' s OA' ∧ ∀ q ∈ OA', q ∈ OA ∨ q.2 ∈ As := by
  induction p with
  | nil =>
    intro is O σ η η' OA _ _ b _ _ h
    cases is with
    | nil => cases h; exact ⟨OA, b, fun q h => .inl h⟩
    | cons i is => cases h
  | pl r _ ih =>
    intro is O σ η η' OA nd fr b hO hi h
    cases is with
    | nil => cases h
    | cons i is => exact ih nd fr (b.set (hO i List.mem_cons_self) r) (fun j hj => hO j (List.mem_cons_of_mem _ hj)) (List.nodup_cons.mp hi).2 h
  | ow o _ ih =>
    intro is O σ η η' OA nd fr b hO hi h
    cases is with
    | nil => cases h
    | cons i is =>
      obtain ⟨η1, h1, h2⟩ := Option.bind_eq_some_iff.mp (show (ownE i _ η).bind _ = some η' from h)
      obtain ⟨hl, rfl⟩ := ownE_some h1
      have f1 := fr _ List.mem_cons_self
      obtain ⟨OA', b', c'⟩ := ih (List.nodup_cons.mp nd).2 (fun a ha => ⟨(fr a (List.mem_cons_of_mem _ ha)).1, (fr a (List.mem_cons_of_mem _ ha)).2.1, fun z => by
        rcases List.mem_cons.mp z with z | z
        · have z' : a = _ := z
          exact (List.nodup_cons.mp nd).1 (by rw [z'] at ha; exact ha)
        · exact (fr a (List.mem_cons_of_mem _ ha)).2.2 z⟩) (b.more (hO i List.mem_cons_self) hl b.len ⟨f1.1, f1.2.1⟩ f1.2.2 o) (fun j hj z => by
          rcases List.mem_cons.mp z with z | z
          · exact (List.nodup_cons.mp hi).1 (z ▸ hj)
          · exact hO j (List.mem_cons_of_mem _ hj) z) (List.nodup_cons.mp hi).2 h2
      refine ⟨OA', b', fun q hq => ?_⟩
      rcases c' q hq with z | z
      · rcases List.mem_cons.mp z with z | z
        · exact .inr (by rw [z]; exact List.mem_cons_self)
        · exact .inl z
      · exact .inr (List.mem_cons_of_mem _ z)
theorem PendA.mu {S : Addr → Prop} {fl : List Bool} {ws : List V} {ds : List D} {As : List Addr} (p : PendA g S H fl ws ds As) : ∀ a ∈ As, ∃ o, H a = some o ∧ Mu o := by
  induction p with
  | nil => intro a h; cases h
  | pl _ _ ih => exact ih
  | ow o _ ih =>
    intro a h
    rcases List.mem_cons.mp h with h | h
    · rw [h]; exact o.ob
    · exact ih a h
theorem setI_off : ∀ (is : List Nat) (ws : List V) (σ : St), Off is σ (setI is ws σ)
  | [], _, σ => by unfold setI; exact .refl
  | _ :: _, [], σ => by unfold setI; exact .refl
  | i :: is, v :: ws, σ => by
    have h1 : Off (i :: is) σ (σ.set i (some v)) := ⟨List.length_set, fun j hj => List.getElem?_set_ne fun z => hj (by rw [z]; exact List.mem_cons_self)⟩
    exact h1.trans ((setI_off is ws _).mono fun j hj => List.mem_cons_of_mem _ hj)
theorem store_par {fl : List Bool} {ws : List V} {ds : List D} {As : List Addr} {is : List Nat} {η' : Env} (a : AtS K g Sb H0 vs σ0 O H σ η s) (b : OwnB K g Sb H0 O H σ η s OA) (e : Ext g H H') (k : Ok g H' s') (p : Pend g (plusL Sb (OA.map (·.2))) H H' fl ws ds As)
    (hO : ∀ i ∈ is, i ∉ O) (hi : is.Nodup) (hv : inV vs is = true) (h : setE fl is ds η = some η') : AtS K g Sb H0 vs σ0 (ownI fl is O) H' (setI is ws σ) η' s' := by
  have nS : ∀ c ∈ As, ¬ plusL Sb (OA.map (·.2)) c := fun c hc => not_S b.at_.sok (p.fr c hc)
  have up : ∀ v d, Dq g (plusL Sb (OA.map (·.2))) H v d → Dq g (plusL (plusL Sb (OA.map (·.2))) As) H' v d := fun v d r => (r.av fun c hc => hc.elim .inl fun z => .inr (p.fr c z)).ext (fun c z => .inl (b.at_.sok.st c z)) b.at_.ok.stl e
  have upA : ∀ us es, DqAll g (plusL Sb (OA.map (·.2))) H us es → DqAll g (plusL (plusL Sb (OA.map (·.2))) As) H' us es := fun us es r => (r.av fun c hc => hc.elim .inl fun z => .inr (p.fr c z)).ext (fun c z => .inl (b.at_.sok.st c z)) b.at_.ok.stl e
  have c0 : OwnC K g Sb (plusL (plusL Sb (OA.map (·.2))) As) H0 O H' σ η s' OA := by
    refine ⟨b.names, b.inj, b.fr, ⟨b.at_.gK, ⟨fun c z => .inl (b.at_.sok.st c z), fun c hc => ?_⟩, fun i d hd => ?_, k, b.at_.len⟩, fun q hq => ?_⟩
    · rcases hc with hc | hc
      · exact (b.at_.sok.ext e b.at_.ok.stl).trk c hc
      · exact p.all.mu c hc
    · obtain ⟨v, h1, h2⟩ := b.at_.rep i d hd
      exact ⟨v, h1, up v d h2⟩
    · obtain ⟨o1, dq, o2, o3⟩ := b.own q hq
      exact ⟨o1, dq, o2, o3.imp (fun o h m => e.keep _ _ h (fun z => (b.fr q hq).1 (a.hs _ z.symm)) m.tbl) upA⟩
  obtain ⟨OA', c1, c2⟩ := store_go p.all p.nd (fun c hc => ⟨fun z => nS c hc (.inl z), a.ext.none_ (fun b e => (a.h0 b e).1) (p.fr c hc), fun z => nS c hc (.inr z)⟩) c0 hO hi h
  have sub : ∀ c, plusL Sb (OA'.map (·.2)) c → plusL (plusL Sb (OA.map (·.2))) As c := fun c hc => by
    rcases hc with hc | hc
    · exact .inl (.inl hc)
    · obtain ⟨q, hq, rfl⟩ := List.mem_map.mp hc
      rcases c2 q hq with z | z
      · exact .inl (.inr (List.mem_map.mpr ⟨q, z, rfl⟩))
      · exact .inr z
  exact OwnB.ats (OA := OA') ⟨c1.names, c1.inj, c1.fr, c1.at_.anti sub fun c z => .inl (a.hs c z), fun q hq => by
    obtain ⟨o1, dq, o2, o3⟩ := c1.own q hq
    exact ⟨o1, dq, o2, o3.anti sub⟩⟩ (a.ext.trans e) a.h0 (a.trk.step hv (setI_off is ws σ))
end
/-! ### the statements -/
section
variable {X : Cx} {W : XW} {vs : Option (List Nat)} {O On Ob Or : List Nat} {a b c : Expr} {ga : AV} {pos : Pos} {fl : List Bool}
def fPar (O : List Nat) (fl : List Bool) (is : List Nat) (ga : AV) : SV := fun η => M.bind (ga (wipeE η O)) fun ds => M.bind (M.lift (setE fl is ds η)) fun η' => M.ret (.nx η')
theorem PendA.len {g : G} {S : Addr → Prop} {H : Hp} {fl : List Bool} {ws : List V} {ds : List D} {As : List Addr} (p : PendA g S H fl ws ds As) : ws.length = fl.length := by
  induction p with
  | nil => rfl
  | pl _ _ ih => simp [ih]
  | ow _ _ ih => simp [ih]
theorem par_bridge {K : PySem.W.Frag} {g : G} {Sb : Addr → Prop} {H0 H : Hp} {σ0 σ : St} {η : Env} {s : DS} {E : Ends} {is : List Nat} (hO : is.all (fun i => decide (i ∉ O)) = true) (hi : is.Nodup) (hv : inV vs is = true) (a : AtS K g Sb H0 vs σ0 O H σ η s) (q : Res (WS W vs σ0) g H0 (fPar O fl is ga η s) (SQ K g Sb H0 vs σ0 (ownI fl is O) Ob Or E)) :
    tAF K W fl ga σ H fun ws H1 => ws.length = fl.length ∧ E.nx (setI is ws σ) H1 := by
  obtain ⟨OA, b⟩ := a.ob
  refine ⟨g, _, _, s, b.at_, (((Res.bind0 q).ext a.ext).wk a.trk).imp fun ds H1 s1 x1 k1 q1 ws As p => ?_⟩
  obtain ⟨η', hη, q2⟩ := Res.lift (Res.bind0 q1)
  have a' := store_par (is := is) a b x1 k1 p (fun i hi => by simpa using List.all_eq_true.mp hO i hi) hi hv hη
  exact ⟨p.all.len, Res.ret0 (x := Fl.nx η') (q2 H1 (a.ext.trans x1) k1) a' _ a'⟩
variable {x y z : Str} {px py pz pt : Pos}
theorem s_par {kt k2 : Nat} {pt2 : Pos} (i j : Nat) (hc : X.calm = true) (hN : X.N.Nodup) (ha : PAF X W fl [a, b] ga) (hfl : fl.length = 2 := by rfl) (hi : X.N[i]? = some x := by rfl) (hj : X.N[j]? = some y := by rfl) (hO : [i, j].all (fun i => decide (i ∉ O)) = true := by rfl) (hij : [i, j].Nodup := by decide) (hv : inV vs [i, j] = true := by rfl)
    (hx : X.env.scope.names.lookup x = some .local := by rfl) (hy : X.env.scope.names.lookup y = some .local := by rfl)
    (hw : swappedStores [.Tuple [.Name x px, .Name y py] kt pt] (.Tuple [a, b] k2 pt2) X.env = pure (some [x, y]) := by rfl)
    (hs : swapsWithSole [.Tuple [.Name x px, .Name y py] kt pt] (.Tuple [a, b] k2 pt2) pos.line X.env = pure false := by rfl) :
    PSD X W vs O (ownI fl [i, j] O) Ob Or (.Assign [.Tuple [.Name x px, .Name y py] kt pt] (.Tuple [a, b] k2 pt2) pos) (fPar O fl [i, j] ga) :=
  ⟨(ps_par hc hN hi hj (by simpa using hij) hx hy ha.pa hw hs).con fun σ H E ⟨g, Sb, H0, σ0, η, s, a, q⟩ => by
    obtain ⟨g', S', η', s', at', q'⟩ := par_bridge hO hij hv a q
    refine ⟨g', S', η', s', at', q'.imp fun ds H1 s1 x1 k1 q1 ws As p => ?_⟩
    obtain ⟨hl, q2⟩ := q1 ws As p
    rw [hfl] at hl
    match ws, hl with
    | [v, w], _ => exact ⟨v, w, rfl, q2⟩⟩
theorem s_par3 {kt k2 : Nat} {pt2 : Pos} (i j l : Nat) (hc : X.calm = true) (hN : X.N.Nodup) (ha : PAF X W fl [a, b, c] ga) (hfl : fl.length = 3 := by rfl) (hi : X.N[i]? = some x := by rfl) (hj : X.N[j]? = some y := by rfl) (hl : X.N[l]? = some z := by rfl) (hO : [i, j, l].all (fun i => decide (i ∉ O)) = true := by rfl) (hij : [i, j, l].Nodup := by decide) (hv : inV vs [i, j, l] = true := by rfl)
    (hx : X.env.scope.names.lookup x = some .local := by rfl) (hy : X.env.scope.names.lookup y = some .local := by rfl) (hz : X.env.scope.names.lookup z = some .local := by rfl)
    (hw : swappedStores [.Tuple [.Name x px, .Name y py, .Name z pz] kt pt] (.Tuple [a, b, c] k2 pt2) X.env = pure (some [x, y, z]) := by rfl)
    (hs : swapsWithSole [.Tuple [.Name x px, .Name y py, .Name z pz] kt pt] (.Tuple [a, b, c] k2 pt2) pos.line X.env = pure false := by rfl) :
    PSD X W vs O (ownI fl [i, j, l] O) Ob Or (.Assign [.Tuple [.Name x px, .Name y py, .Name z pz] kt pt] (.Tuple [a, b, c] k2 pt2) pos) (fPar O fl [i, j, l] ga) := by
  have n1 : i ≠ j ∧ i ≠ l ∧ j ≠ l := by
    simp at hij
    omega
  refine ⟨(ps_par3 hc hN hi hj hl n1.1 n1.2.1 n1.2.2 hx hy hz ha.pa hw hs).con fun σ H E ⟨g, Sb, H0, σ0, η, s, a, q⟩ => ?_⟩
  obtain ⟨g', S', η', s', at', q'⟩ := par_bridge hO hij hv a q
  refine ⟨g', S', η', s', at', q'.imp fun ds H1 s1 x1 k1 q1 ws As p => ?_⟩
  obtain ⟨hl, q2⟩ := q1 ws As p
  rw [hfl] at hl
  match ws, hl with
  | [u, v, w], _ => exact ⟨u, v, w, rfl, q2⟩
end
end W3

set_option Elab.async false
set_option linter.all false
set_option maxRecDepth 100000
set_option maxHeartbeats 4000000
/-! W4c: methods by data; what reads a dict. -/
namespace W3
open PySem PySem.Spec L2

/-! ### methods -/
def tyD (T : String) : D → Bool
  | .str _ => T == "str"
  | .list _ => T == "list"
  | .tuple _ => T == "tuple"
  | .dict kd => T == "dict" && (unl kd).isSome
  | _ => false
/-- what stands for data of that type -/
def tyW (K : PySem.W.Frag) (T : String) (x : V) (H : Hp) : Prop := ∃ (g : G) (S : Addr → Prop) (d : D), g.K = K ∧ Dq g S H x d ∧ tyD T d = true
theorem tup_new {h : Heap} {a : Addr} {vs : Array Value} {o : Obj} (ho : h.get? a = some o) (hd : o.dict = none) : ∃ ob, h.get? a = some ob ∧ ob.dict = none := ⟨o, ho, hd⟩
theorem tyW_list {X : Cx} : TyOk X "list" (tyW X.K "list") := by
  intro pins σ H s x v I r ⟨g, S, d, hK, q, t⟩
  cases q with
  | lst n e a => exact tyV_is I r (.inl ⟨rfl, _, .of e⟩)
  | _ => first | (exact absurd t (by decide)) | (simp [tyD] at t)
theorem tyW_str {X : Cx} : TyOk X "str" (tyW X.K "str") := by
  intro pins σ H s x v I r ⟨g, S, d, hK, q, t⟩
  cases q with
  | str z => exact tyV_is I r rfl
  | _ => first | (exact absurd t (by decide)) | (simp [tyD] at t)
theorem tyW_dict {X : Cx} : TyOk X "dict" (tyW X.K "dict") := by
  intro pins σ H s x v I r ⟨g, S, d, hK, q, t⟩
  have key : ∀ {v' : V} {kd : List (D × D)}, Dq g S H v' (.dict kd) → (unl kd).isSome = true → RelV v' v → s.TypeIs v "dict" ∧ ∀ a, v = .ref a → ∃ ob, s.heap.get? a = some ob ∧ ob.dict = none := by
    intro v' kd q t r
    obtain ⟨kd', hk⟩ := Option.isSome_iff_exists.mp t
    obtain ⟨a, l, rfl, _, da, _⟩ := q.dict hk
    cases r
    obtain ⟨o, es, ep, ys, ho, hx, hdt, _⟩ := dict_raw I da
    refine ⟨⟨o, ho, hx.1⟩, fun b e => ?_⟩
    cases e
    exact ⟨o, ho, hx.2.1⟩
  have t2 : ∀ kd, tyD "dict" (.dict kd) = true → (unl kd).isSome = true := fun kd h => by
    simpa [tyD] using h
  cases q with
  | dk n e w a => exact key (.dk n e w a) (t2 _ t) r
  | dt n e w a => exact key (.dt n e w a) (t2 _ t) r
  | lkk n e w a => exact key (.lkk n e w a) (t2 _ t) r
  | lkt n e w a => exact key (.lkt n e w a) (t2 _ t) r
  | st e => exact absurd t (by decide)
  | _ => first | (exact absurd t (by decide)) | (simp [tyD] at t)
end W3

set_option Elab.async false
set_option linter.all false
set_option maxRecDepth 100000
set_option maxHeartbeats 4000000
/-! W4d: calls without arguments, tuples of texts known at the top, extend, list(range). -/
namespace W3
open PySem PySem.Spec L2

section
variable {X : Cx} {W : XW} {e : Expr} {pos : Pos}
theorem d_own0 {x : Str} {k : Nat} {F : FD} {p : Pos} (hF : Has X.prog X.w X.K X.mg X.base k x 0 F) (hr : Room k X.A) (tk : TkW X W) (hg : Gl X x := by rfl) (hdb : (x == ("__debug__" : Str)) = false := by decide) : PED X W (.Call (.Name x p) [] [] pos) (eOwn 0 F aN) := by
  obtain ⟨f, fd, ps, h1, h2, h3, h4⟩ := hF.ex
  refine ⟨⟨fun pins s σ H Q I ⟨g, S, η, s1, at_, q⟩ => ?_⟩⟩
  refine wpAny_Call_Name_kw (ld_glob I hg h2 ?_ hdb)
  refine PySem.W.callWith_K0 I.kIn h3 (run_fnS (us := []) (vs := []) h1 hr h4 (passAt tk σ) I .nil ?_)
  exact ⟨g, S, [], s1, at_.gK, at_.sok, at_.ok, .nil, rfl, q.weak fun c p H' hw cls d hx => ⟨c, p, hx, hw⟩⟩
end
/-! ### a tuple of texts that the top made -/
def strV : Value → Str → Bool
  | .str z _, y => decide (z = y)
  | _, _ => false
theorem strV_rel {u : Value} {y : Str} (h : strV u y = true) : RelV (.str y) u := by
  unfold strV at h
  split at h
  · have e := of_decide_eq_true h
    subst e
    exact ⟨_, rfl⟩
  · cases h
def valsStr : List Value → List Str → Bool
  | [], [] => true
  | u :: r, y :: t => strV u y && valsStr r t
  | _, _ => false
theorem valsStr_vals : ∀ {us : List Value} {zs : List Str}, valsStr us zs = true → Vals (zs.map V.str) us
  | [], [], _ => .nil
  | [], _ :: _, h => by cases h
  | _ :: _, [], h => by cases h
  | u :: r, y :: t, h => by
    have h' : (strV u y && valsStr r t) = true := h
    rw [Bool.and_eq_true] at h'
    exact .cons (strV_rel h'.1) (valsStr_vals h'.2)
def strTupOk (K : PySem.W.Frag) (x : Str) (zs : List Str) : Bool := match PySem.W.nsIn K mainGlobals x with
  | some (some (.ref a)) => match K.lookup a with
    | some ⟨.type "tuple", _, .seq its _, _⟩ => decide (its.size ≤ 1000) && valsStr its.toList zs
    | _ => false
  | _ => false
structure TupHas (K : PySem.W.Frag) (mg : Str → Option Value) (x : Str) (zs : List Str) : Prop where
  ex : ∃ a, mg x = some (.ref a) ∧ ∀ H, TupAt K H a (zs.map V.str)
structure TupK (K : PySem.W.Frag) (x : Str) (zs : List Str) : Prop where
  ok : strTupOk K x zs = true
theorem TupK.has {K : PySem.W.Frag} {x : Str} {zs : List Str} {h : Heap} {mg : Str → Option Value} (T : TupK K x zs) (X : K.In h) (G : h.Ns mainGlobals mg) : TupHas K mg x zs := by
  have t := T.ok
  unfold strTupOk at t
  split at t
  · rename_i a ha
    split at t
    · rename_i dd its n sl hl
      rw [Bool.and_eq_true] at t
      refine ⟨a, PySem.W.mg_of X G ha, fun H => .inr ⟨.inr ⟨_, its, n, hl, rfl, rfl, ?_, valsStr_vals t.2⟩, fun v hv => ?_⟩⟩
      · have := of_decide_eq_true t.1
        rw [sizeLine_eq]
        omega
      · obtain ⟨z, _, e⟩ := List.mem_map.mp hv
        exact ⟨z, e.symm⟩
    · cases t
  · cases t
section
variable {X : Cx} {W : XW} {e : Expr} {pos : Pos}
theorem dqall_strs {g : G} {S : Addr → Prop} {H : Hp} : ∀ zs : List Str, DqAll g S H (zs.map V.str) (zs.map PyData.str)
  | [] => .nil
  | z :: zs => .cons (.str z) (dqall_strs zs)
theorem d_gt {x : Str} {zs : List Str} (h : TupHas X.K X.mg x zs) (hg : Gl X x := by rfl) (hd : (x == ("__debug__" : Str)) = false := by decide) : PED X W (.Name x pos) (eC (.tuple (zs.map PyData.str))) := by
  obtain ⟨a, h1, h2⟩ := h.ex
  refine ⟨(pe_glob (v := .ref a) hg h1 rfl hd).con fun σ H Q ⟨g, S, η, s, at_, q⟩ => q H Ext.refl at_.ok (.ref a) (.tup (at_.gK ▸ h2 H) (dqall_strs zs))⟩
end
/-! ### x.extend(e) -/
def extE (i : Nat) (d : D) (η : Env) : Option Env := match d, η[i]? with
  | .list es, some (some (.list ds)) => if ds.length + es.length ≤ sizeLine then some (η.set i (some (.list (ds ++ es)))) else none
  | _, _ => none
def fExt (O : List Nat) (i : Nat) (fe : EV) : SV := fun η => M.bind (M.lift (lstAt i η)) fun _ => M.bind (fe (wipeE η O)) fun d => M.bind (M.lift (extE i d η)) fun η' => M.ret (.nx η')
section
variable {X : Cx} {W : XW} {vs : Option (List Nat)} {O On Ob Or : List Nat} {e : Expr} {fe : EV} {pos : Pos}
theorem s_ext {x : Str} {pn pa pc : Pos} (i : Nat) (he : PED X W e fe) (hi : X.N[i]? = some x := by rfl) (hvis : Vis X.env.scope x := by first | exact Or.inl rfl | exact Or.inr (Or.inl rfl) | exact Or.inr (Or.inr rfl)) (hO : decide (i ∈ O) = true := by rfl) (hd : (x == ("__debug__" : Str)) = false := by decide) (hcd : (x == ("__classdict__" : Str)) = false := by decide)
    (hs : swapsWith (.Call (.Attribute (.Name x pn) "extend" pa) [e] [] pc) none pos.line X.env = pure false := by rfl)
    (hbase : attributeBase (.Name x pn) "extend" X.env (eval (.Name x pn) X.env) = eval (.Name x pn) X.env := by rfl)
    (hfew : ((backTo pc (starEach [e] X.env)).all (fun x => !x.1) && (backToKw pc (keywordEach [] X.env)).all (fun x => x.1.isSome) && decide ([e].length + ([] : List Keyword).length + (if ([] : List Keyword).isEmpty then 0 else 1) < 30)) = true := by rfl)
    (hline : (pa.endLine == pc.line) = true := by rfl) (hst : starEach [e] X.env = (false, eval e X.env) :: starEach [] X.env := by rfl) (hplain : (backTo pc (starEach [] X.env)).any (·.1) = false := by rfl) :
    PSD X W vs O O Ob Or (.Expr (.Call (.Attribute (.Name x pn) "extend" pa) [e] [] pc) pos) (fExt O i fe) :=
  ⟨(ps_expr (pe_bm PySem.F.plainAttrs_list PySem.F.slot_list_extend PySem.F.type_list_extend mt_extend (pe_var hi hvis hd hcd) (pa_cons he.pe pa_nil hst) hbase hfew hline hst hplain) hs).con fun σ H E ⟨g, Sb, H0, σ0, η, s, a, q⟩ => by
    obtain ⟨OA, b⟩ := a.ob
    obtain ⟨p, hp, rfl⟩ := b.get hO
    obtain ⟨_, hu, q⟩ := Res.lift (Res.bind0 q)
    have q := q H a.ext a.ok
    obtain ⟨ds, o2'⟩ := lstAt_some hu
    obtain ⟨o1, d0, o2, o3⟩ := b.own p hp
    rw [o2'] at o2
    cases o2
    obtain ⟨xs, o3, o4⟩ := o3.isList
    refine ⟨_, o1, .inl ⟨rfl, xs, .of o3⟩, modeO a b q fun v d H' s' a' b' r q' => ?_⟩
    obtain ⟨η', hη, q2⟩ := Res.lift (Res.bind0 q')
    obtain ⟨o1, d0, o2, o3⟩ := b'.own p hp
    rw [o2'] at o2
    cases o2
    obtain ⟨xs, o3, o4⟩ := o3.isList
    unfold extE at hη
    rw [o2'] at hη
    split at hη
    · rename_i es ds' h1 h2
      cases h2
      split at hη
      · rename_i hz
        cases hη
        cases r with
        | lst n e a =>
          refine ⟨_, _, xs, _, rfl, rfl, o3, e, by rw [o4.length, a.length]; exact hz, ?_⟩
          have aw := a'.write b' hp (o4.append a) (lt_of_get o2')
          exact Res.ret0 (x := Fl.nx _) (q2 H' a'.ext a'.ok) aw _ aw
      · cases hη
    · cases hη⟩
end
theorem bt_sorted : bootBuiltins "sorted" = some (.builtin "sorted") := by decide +kernel
theorem bt_max : bootBuiltins "max" = some (.builtin "max") := by decide +kernel
theorem bt_min : bootBuiltins "min" = some (.builtin "min") := by decide +kernel
/-! ### len of a dict -/
theorem len_dT {X : Cx} {pins : List (Addr × Obj)} {σ : St} {H : Hp} {s : Shared} {A : Around} {E : Value → Shared → Prop} {a : Addr} {kvs : List (List Key × V)} {Q : Value → Shared → Prop} (I : Inv X pins σ H s) (e : Rd H a (.dT kvs)) (h : ∀ t s', Inv X pins σ H s' → Q (.int kvs.length t) s') : wpAny (model X.prog X.w) A (call (.builtin "len") [.ref a]) Q E s := by
  obtain ⟨z, hd, ys, rel, dd⟩ := dt_rd I.hok e
  have el : kvs.length = ys.length := Paired.length rel
  refine call_len_dictH hd dd (by rw [← el]; rw [sizeLine_eq] at z; omega) ?_
  rw [← el]
  exact h _ _ (I.tok _)
def lenA (ds : List D) : Option D := match ds with
  | [.dict kd] => (unl kd).map fun k => .int k.length
  | ds => lenD ds
def lenK : List D → Option D
  | [.dict kd] => (unl kd).map fun k => .int k.length
  | _ => none
theorem k_lenA {X : Cx} : CallOk X (.builtin "len") lenA := by
  obtain ⟨r, h1, h2⟩ := (k_len (X := X)).r
  have gen : CallR X (.builtin "len") (rD X.K lenK) := fun pins s σ H vs us Q I r h => by
    obtain ⟨g, S, s0, ds, z, hK, so, ok, rv, hz, q⟩ := h
    unfold lenK at hz
    split at hz
    · obtain ⟨kd', hk, rfl⟩ := Option.map_eq_some_iff.mp hz
      cases rv with
      | cons r1 r2 =>
        cases r2
        obtain ⟨u, rfl, ru⟩ := vals1 r
        obtain ⟨a, l, rfl, _, da, dr⟩ := r1.dict hk
        cases ru
        rcases da with ⟨kvs, e, rfl⟩ | ⟨kvs, e, rfl⟩
        · refine d_len I e fun t s' I' => ⟨.int _, H, I', ⟨t, rfl⟩, ?_⟩
          have := dr.len
          rw [List.length_map] at this
          rw [this]
          exact q H _ Ext.refl ok (.int _)
        · refine len_dT I e fun t s' I' => ⟨.int _, H, I', ⟨t, rfl⟩, ?_⟩
          have := dr.len
          rw [List.length_map] at this
          rw [this]
          exact q H _ Ext.refl ok (.int _)
    · cases hz
  refine ⟨_, gen.or h1, fun g S H s xs ds z Q hK so ok rv hz q => ?_⟩
  unfold lenA at hz
  split at hz
  · exact .inl ⟨g, S, s, _, z, hK, so, ok, rv, hz, q⟩
  · exact .inr (h2 g S H s xs _ z Q hK so ok rv hz q)
/-! ### > of data -/
def rGtD (K : PySem.W.Frag) : R2 := fun x y H Q => ∃ d e, Dp K H x d ∧ Dp K H y e ∧ SeqAt.shaped d = true ∧ PySem.W.alike d e = true ∧ d ≠ .none ∧ Q (.bl (PySem.W.dataLt e d)) H
theorem op_gtData {X : Cx} (hu : X.A.units + 64 < cLine) : OpR X (compareOp .Gt) (rGtD X.K) := by
  intro pins s σ H x y v u Q I rx ry h
  obtain ⟨d, e, hd, he, sd, al, nn, q⟩ := h
  obtain ⟨as, r1⟩ := Dp.reads I d x v hd rx
  obtain ⟨bs, r2⟩ := Dp.reads I e y u he ry
  have h1 := SeqAt.depth_of_shaped sd
  exact PySem.W.rcGt_alike d e X.A s v u as bs r1 r2 al nn (by have : min d.depth e.depth ≤ d.depth := Nat.min_le_left _ _; omega) X.prog X.w X.xe _ ⟨.bl _, H, I, rfl, q⟩
def gtA : D → D → Option D
  | .int i, .int j => some (.bool (decide (j < i)))
  | d, e => if SeqAt.shaped d = true ∧ SeqAt.shaped e = true ∧ PySem.W.alike d e = true ∧ notNone d = true then some (.bool (PySem.W.dataLt e d)) else none
theorem c_gtA {X : Cx} {k : Nat} (hr : Room k X.A) : CmpOk X .Gt gtA := ⟨_, op_gt.or (op_gtData hr.units), by
  intro g S H s x y d e z Q hK so ok rx ry h q
  have gen : (if SeqAt.shaped d = true ∧ SeqAt.shaped e = true ∧ PySem.W.alike d e = true ∧ notNone d = true then some (PyData.bool (PySem.W.dataLt e d)) else none) = some z → rGtD X.K x y H Q := by
    intro h
    split at h
    · rename_i c
      cases h
      refine ⟨d, e, hK ▸ rx.dp d x (SeqAt.canLay_of_shaped c.1), hK ▸ ry.dp e y (SeqAt.canLay_of_shaped c.2.1), c.1, c.2.2.1, fun e' => ?_, q H _ Ext.refl ok (.bl _)⟩
      rw [e'] at c
      exact absurd c.2.2.2 (by decide)
    · cases h
  unfold gtA at h
  split at h
  · cases h
    cases rx
    cases ry
    exact .inl ⟨_, _, rfl, rfl, q H _ Ext.refl ok (.bl _)⟩
  · exact .inr (gen h)⟩
end W3

set_option Elab.async false
set_option linter.all false
set_option maxRecDepth 100000
set_option maxHeartbeats 4000000
/-! what the functions compute -/
namespace W3
open PySem PySem.Spec L2
def B_common_divisor : SV := (fSeq (fWh 1000000000000 (bT (eV 1)) (fPar [] [false, false] [0, 1] (aC (eV 1) (aC (e2 modD (eV 0) (eV 1)) aN)))) (fRet (eCl absD (aC (eV 0) aN))))
def F_common_divisor : FD := runF 2 2 B_common_divisor
def B_common_multiple : SV := (fRet (e2 mulD (e2 fdivD (eV 0) (eOwn 2 F_common_divisor (aC (eV 0) (aC (eV 1) aN)))) (eV 1)))
def F_common_multiple : FD := runF 2 2 B_common_multiple
def B_size_of : SV := (fRet (eTup (aC (eCl lenD (aC (eV 0) aN)) (aC (eCl lenD (aC (e2 ixD (eV 0) (eC (.int 0))) aN)) aN))))
def F_size_of : FD := runF 1 1 B_size_of
def B_other_face : SV := (fRet (eCl tupleD (aC (eLc (iS (eV 0)) (gN 2) bYes (eCl tupleD (aC (eLc (iS (eV 2)) (gN 1) bYes (e2 subD (eC (.int 1)) (eV 1)) [1]) aN)) [2]) aN)))
def F_other_face : FD := runF 1 3 B_other_face
def B_exchanged : SV := (fRet (eCl tupleD (aC (eLc (iRg rangeD1 (aC (eCl lenD (aC (e2 ixD (eV 0) (eC (.int 0))) aN)) aN)) (gN 2) bYes (eCl tupleD (aC (eLc (iS (eV 0)) (gN 1) bYes (e2 subD (eC (.int 1)) (e2 ixD (eV 1) (eV 2))) [1]) aN)) [2]) aN)))
def F_exchanged : FD := runF 1 3 B_exchanged
def B_flipped : SV := (fRet (eCl tupleD (aC (eLc (iS (eV 0)) (gN 1) bYes (eSl (eV 1) oN oN (oS (e1 negD (eC (.int 1))))) [1]) aN)))
def F_flipped : FD := runF 1 2 B_flipped
def B_upside_down : SV := (fRet (eSl (eV 0) oN oN (oS (e1 negD (eC (.int 1))))))
def F_upside_down : FD := runF 1 1 B_upside_down
def B_half_turned : SV := (fRet (eOwn 1 F_upside_down (aC (eOwn 1 F_flipped (aC (eV 0) aN)) aN)))
def F_half_turned : FD := runF 1 1 B_half_turned
def B_shifted : SV := (fSeq (fAsg [] (eOwn 1 F_size_of (aC (eV 0) aN)) (gTp (gCn (gN 3) (gCn (gN 4) gNl)))) (fRet (eCl tupleD (aC (eLc (iRg rangeD1 (aC (eV 3) aN)) (gN 6) bYes (eCl tupleD (aC (eLc (iRg rangeD1 (aC (eV 4) aN)) (gN 5) bYes (e2 ixD (e2 ixD (eV 0) (e2 modD (e2 subD (eV 6) (eV 1)) (eV 3))) (e2 modD (e2 subD (eV 5) (eV 2)) (eV 4))) [5]) aN)) [6]) aN))))
def F_shifted : FD := runF 3 7 B_shifted
def B_repeated : SV := (fRet (eCl tupleD (aC (e2 mulD (eLc (iS (eV 0)) (gN 3) bYes (e2 mulD (eV 3) (eV 2)) [3]) (eV 1)) aN)))
def F_repeated : FD := runF 3 4 B_repeated
def B_is_period : SV := (fRet (e2 eqD (eOwn 3 F_shifted (aC (eV 0) (aC (eV 1) (aC (eV 2) aN)))) (eV 0)))
def F_is_period : FD := runF 3 3 B_is_period
def B_periods_of : SV := (fSeq (fAsg [] (eOwn 1 F_size_of (aC (eV 0) aN)) (gTp (gCn (gN 1) (gCn (gN 2) gNl)))) (fRet (eLc2 (iRg rangeD1 (aC (eV 1) aN)) (gN 3) bYes (iRg rangeD1 (aC (eV 2) aN)) (gN 4) (bT (eOwn 3 F_is_period (aC (eV 0) (aC (eV 3) (aC (eV 4) aN))))) (eTup (aC (eV 3) (aC (eV 4) aN))) [3, 4] [4])))
def F_periods_of : FD := runF 1 5 B_periods_of
def B_basis_of : SV := (fSeq (fAsg [] (eOwn 1 F_size_of (aC (eV 0) aN)) (gTp (gCn (gN 1) (gCn (gN 2) gNl)))) (fSeq (fSet [] 3 (eCl minCD (aC (eLc (iRg rangeD2 (aC (eC (.int 1)) (aC (e2 addD (eV 2) (eC (.int 1))) aN))) (gN 4) (bT (eOwn 3 F_is_period (aC (eV 0) (aC (eC (.int 0)) (aC (eV 4) aN))))) (eV 4) [4]) aN))) (fSeq (fFor [] (iRg rangeD2 (aC (eC (.int 1)) (aC (e2 addD (eV 1) (eC (.int 1))) aN))) (gN 5) (fFor [] (iRg rangeD1 (aC (eV 3) aN)) (gN 6) (fIf (bT (eOwn 3 F_is_period (aC (eV 0) (aC (eV 5) (aC (eV 6) aN))))) (fRet (eTup (aC (eTup (aC (eV 5) (aC (eV 6) aN))) (aC (eTup (aC (eC (.int 0)) (aC (eV 3) aN))) aN)))) fNil))) (fRet (eTup (aC (eTup (aC (eV 1) (aC (eC (.int 0)) aN))) (aC (eTup (aC (eC (.int 0)) (aC (eV 3) aN))) aN)))))))
def F_basis_of : FD := runF 1 7 B_basis_of
def B_area_of : SV := (fSeq (fAsg [] (eOwn 1 F_basis_of (aC (eV 0) aN)) (gTp (gCn (gN 1) (gCn (gN 2) gNl)))) (fRet (e2 mulD (e2 ixD (eV 1) (eC (.int 0))) (e2 ixD (eV 2) (eC (.int 1))))))
def F_area_of : FD := runF 1 3 B_area_of
def B_straight_size : SV := (fSeq (fAsg [] (eOwn 1 F_size_of (aC (eV 0) aN)) (gTp (gCn (gN 1) (gCn (gN 2) gNl)))) (fSeq (fSet [] 3 (eCl minCD (aC (eLc (iRg rangeD2 (aC (eC (.int 1)) (aC (e2 addD (eV 1) (eC (.int 1))) aN))) (gN 4) (bT (eOwn 3 F_is_period (aC (eV 0) (aC (eV 4) (aC (eC (.int 0)) aN))))) (eV 4) [4]) aN))) (fSeq (fSet [] 5 (eCl minCD (aC (eLc (iRg rangeD2 (aC (eC (.int 1)) (aC (e2 addD (eV 2) (eC (.int 1))) aN))) (gN 4) (bT (eOwn 3 F_is_period (aC (eV 0) (aC (eC (.int 0)) (aC (eV 4) aN))))) (eV 4) [4]) aN))) (fRet (eTup (aC (eV 3) (aC (eV 5) aN)))))))
def F_straight_size : FD := runF 1 6 B_straight_size
def B_least_repeat : SV := (fSeq (fAsg [] (eOwn 1 F_straight_size (aC (eV 0) aN)) (gTp (gCn (gN 1) (gCn (gN 2) gNl)))) (fRet (eCl tupleD (aC (eLc (iS (eSl (eV 0) oN (oS (eV 1)) oN)) (gN 3) bYes (eSl (eV 3) oN (oS (eV 2)) oN) [3]) aN))))
def F_least_repeat : FD := runF 1 4 B_least_repeat
def B_are_one : SV := (fRet (e2 eqD (eOwn 1 F_least_repeat (aC (eV 0) aN)) (eOwn 1 F_least_repeat (aC (eV 1) aN))))
def F_are_one : FD := runF 2 2 B_are_one
def B_moved_first : SV := (fSeq (fSet [] 1 (eOwn 1 F_least_repeat (aC (eV 0) aN))) (fSeq (fAsg [] (eOwn 1 F_size_of (aC (eV 1) aN)) (gTp (gCn (gN 2) (gCn (gN 3) gNl)))) (fRet (eCl minCD (aC (eLc2 (iRg rangeD1 (aC (eV 2) aN)) (gN 4) bYes (iRg rangeD1 (aC (eV 3) aN)) (gN 5) bYes (eOwn 3 F_shifted (aC (eV 1) (aC (eV 4) (aC (eV 5) aN)))) [4, 5] [5]) aN)))))
def F_moved_first : FD := runF 1 6 B_moved_first
def B_are_moved : SV := (fRet (e2 eqD (eOwn 1 F_moved_first (aC (eV 0) aN)) (eOwn 1 F_moved_first (aC (eV 1) aN))))
def F_are_moved : FD := runF 2 2 B_are_moved
def B_move_between : SV := (fSeq (fPar [] [false, false] [2, 3] (aC (eOwn 1 F_least_repeat (aC (eV 0) aN)) (aC (eOwn 1 F_least_repeat (aC (eV 1) aN)) aN))) (fSeq (fIf (bCmp neD (eOwn 1 F_size_of (aC (eV 2) aN)) (eOwn 1 F_size_of (aC (eV 3) aN))) (fRet (eC .none)) fNil) (fSeq (fAsg [] (eOwn 1 F_size_of (aC (eV 2) aN)) (gTp (gCn (gN 4) (gCn (gN 5) gNl)))) (fSeq (fFor [] (iRg rangeD1 (aC (eV 4) aN)) (gN 6) (fFor [] (iRg rangeD1 (aC (eV 5) aN)) (gN 7) (fIf (bCmp eqD (eOwn 3 F_shifted (aC (eV 2) (aC (eV 6) (aC (eV 7) aN)))) (eV 3)) (fRet (eTup (aC (eV 6) (aC (eV 7) aN)))) fNil))) (fRet (eC .none))))))
def F_move_between : FD := runF 2 8 B_move_between
def B_common_size : SV := (fSeq (fPar [] [false, false] [2, 3] (aC (eOwn 1 F_straight_size (aC (eV 0) aN)) (aC (eOwn 1 F_straight_size (aC (eV 1) aN)) aN))) (fRet (eTup (aC (eOwn 2 F_common_multiple (aC (e2 ixD (eV 2) (eC (.int 0))) (aC (e2 ixD (eV 3) (eC (.int 0))) aN))) (aC (eOwn 2 F_common_multiple (aC (e2 ixD (eV 2) (eC (.int 1))) (aC (e2 ixD (eV 3) (eC (.int 1))) aN))) aN)))))
def F_common_size : FD := runF 2 4 B_common_size
def B_places_alike : SV := (fSeq (fAsg [] (eOwn 1 F_size_of (aC (eV 0) aN)) (gTp (gCn (gN 2) (gCn (gN 3) gNl)))) (fRet (eCl sortedD (aC (eLc (iS (eOwn 1 F_periods_of (aC (eV 0) aN))) (gTp (gCn (gN 4) (gCn (gN 5) gNl))) bYes (eTup (aC (e2 modD (e2 addD (e2 ixD (eV 1) (eC (.int 0))) (eV 4)) (eV 2)) (aC (e2 modD (e2 addD (e2 ixD (eV 1) (eC (.int 1))) (eV 5)) (eV 3)) aN))) [4, 5]) aN))))
def F_places_alike : FD := runF 2 6 B_places_alike
def B_counts_of_columns : SV := (fSeq (fSet [] 1 (eDc (iRg rangeD1 (aC (eCl lenD (aC (e2 ixD (eV 0) (eC (.int 0))) aN)) aN)) (gN 3) bYes (eCl tupleD (aC (eLc (iS (eV 0)) (gN 2) bYes (e2 ixD (eV 2) (eV 3)) [2]) aN)) (eC (.bool true)) [3])) (fRet (eTup (aC (eCl lenA (aC (eV 1) aN)) (aC (eCl lenA (aC (eDc (iS (eV 0)) (gN 2) bYes (eV 2) (eC (.bool true)) [2]) aN)) aN)))))
def F_counts_of_columns : FD := runF 1 4 B_counts_of_columns
def B_moved_row : SV := (fSeq (fSet [] 2 (eCl lenD (aC (eV 0) aN))) (fRet (eCl tupleD (aC (eLc (iRg rangeD1 (aC (eV 2) aN)) (gN 3) bYes (e2 ixD (eV 0) (e2 modD (e2 subD (eV 3) (eV 1)) (eV 2))) [3]) aN))))
def F_moved_row : FD := runF 2 4 B_moved_row
def B_step_of : SV := (fSeq (fSet [] 1 (eCl lenD (aC (e2 ixD (eV 0) (eC (.int 0))) aN))) (fSeq (fFor [] (iRg rangeD1 (aC (eV 1) aN)) (gN 2) (fIf (bT (eGen false (iRg rangeD1 (aC (eCl lenD (aC (eV 0) aN)) aN)) (gN 3) bYes (e2 eqD (eOwn 2 F_moved_row (aC (e2 ixD (eV 0) (e2 subD (eV 3) (eC (.int 1)))) (aC (eV 2) aN))) (e2 ixD (eV 0) (eV 3))) [3])) (fRet (eV 2)) fNil)) (fRet (eC .none))))
def F_step_of : FD := runF 1 4 B_step_of
def B_from_step : SV := (fRet (eCl tupleD (aC (eLc (iRg rangeD1 (aC (eV 2) aN)) (gN 3) bYes (eOwn 2 F_moved_row (aC (eV 0) (aC (e2 mulD (eV 1) (eV 3)) aN))) [3]) aN)))
def F_from_step : FD := runF 3 4 B_from_step
def B_closing_picks : SV := (fSeq (fSet [] 2 (eCl lenD (aC (eV 0) aN))) (fSeq (fSet [] 3 (eC (.int 1))) (fSeq (fWh 1000000000000 (bCmp neD (eOwn 2 F_moved_row (aC (eV 0) (aC (e2 mulD (eV 1) (eV 3)) aN))) (eV 0)) (fAug [] 3 addI (eC (.int 1)))) (fRet (eV 3)))))
def F_closing_picks : FD := runF 2 4 B_closing_picks
def B_turned : SV := (fSeq (fIf (bCmp eqD (eV 1) (eC (.str "same"))) (fRet (eV 0)) fNil) (fSeq (fIf (bCmp eqD (eV 1) (eC (.str "flip"))) (fRet (eOwn 1 F_flipped (aC (eV 0) aN))) fNil) (fSeq (fIf (bCmp eqD (eV 1) (eC (.str "upside"))) (fRet (eOwn 1 F_upside_down (aC (eV 0) aN))) fNil) (fSeq (fIf (bCmp eqD (eV 1) (eC (.str "half"))) (fRet (eOwn 1 F_half_turned (aC (eV 0) aN))) fNil) (fSeq (fIf (bCmp eqD (eV 1) (eC (.str "swap"))) (fRet (eOwn 1 F_exchanged (aC (eV 0) aN))) fNil) (fSeq (fIf (bCmp eqD (eV 1) (eC (.str "quarter"))) (fRet (eOwn 1 F_flipped (aC (eOwn 1 F_exchanged (aC (eV 0) aN)) aN))) fNil) (fSeq (fIf (bCmp eqD (eV 1) (eC (.str "back"))) (fRet (eOwn 1 F_upside_down (aC (eOwn 1 F_exchanged (aC (eV 0) aN)) aN))) fNil) (fRet (eOwn 1 F_half_turned (aC (eOwn 1 F_exchanged (aC (eV 0) aN)) aN))))))))))
def F_turned : FD := runF 2 2 B_turned
def B_followed : SV := (fSeq (fSet [] 2 (eTup (aC (eTup (aC (eC (.int 1)) (aC (eC (.int 0)) (aC (eC (.int 0)) aN)))) (aC (eTup (aC (eC (.int 1)) (aC (eC (.int 1)) (aC (eC (.int 0)) aN)))) aN)))) (fSeq (fSet [] 3 (eOwn 2 F_turned (aC (eOwn 2 F_turned (aC (eV 2) (aC (eV 0) aN))) (aC (eV 1) aN)))) (fSeq (fFor [] (iS (eC (.tuple ((["same", "flip", "upside", "half", "swap", "quarter", "back", "cross"] : List Str).map PyData.str)))) (gN 4) (fIf (bCmp eqD (eOwn 2 F_turned (aC (eV 2) (aC (eV 4) aN))) (eV 3)) (fRet (eV 4)) fNil)) (fRet (eC .none)))))
def F_followed : FD := runF 2 5 B_followed
def B_symmetries_of : SV := (fSeq (fSet [] 1 (eOwn 1 F_least_repeat (aC (eV 0) aN))) (fSeq (fSet [] 2 (eOwn 1 F_moved_first (aC (eV 1) aN))) (fSeq (fOwn [] 3 (eLst aN)) (fSeq (fFor [3] (iS (eC (.tuple ((["same", "flip", "upside", "half", "swap", "quarter", "back", "cross"] : List Str).map PyData.str)))) (gN 4) (fSeq (fSet [3] 5 (eOwn 2 F_turned (aC (eV 1) (aC (eV 4) aN)))) (fFor [3] (iS (eTup (aC (eC (.int 0)) (aC (eC (.int 1)) aN)))) (gN 6) (fIf (bCmp eqD (eOwn 1 F_moved_first (aC (eIf (bT (eV 6)) (eOwn 1 F_other_face (aC (eV 5) aN)) (eV 5)) aN)) (eV 2)) (fApp [3] 3 (eTup (aC (eV 4) (aC (eV 6) aN)))) fNil)))) (fRet (eV 3))))))
def F_symmetries_of : FD := runF 1 7 B_symmetries_of
def B_moves_for : SV := (fSeq (fSet [] 3 (eOwn 1 F_least_repeat (aC (eV 0) aN))) (fSeq (fSet [] 4 (eOwn 2 F_turned (aC (eV 3) (aC (eV 1) aN)))) (fSeq (fSet [] 4 (eIf (bT (eV 2)) (eOwn 1 F_other_face (aC (eV 4) aN)) (eV 4))) (fSeq (fIf (bCmp neD (eOwn 1 F_size_of (aC (eV 4) aN)) (eOwn 1 F_size_of (aC (eV 3) aN))) (fRet (eLst aN)) fNil) (fSeq (fAsg [] (eOwn 1 F_size_of (aC (eV 3) aN)) (gTp (gCn (gN 5) (gCn (gN 6) gNl)))) (fRet (eLc2 (iRg rangeD1 (aC (eV 5) aN)) (gN 7) bYes (iRg rangeD1 (aC (eV 6) aN)) (gN 8) (bCmp eqD (eOwn 3 F_shifted (aC (eV 4) (aC (eV 7) (aC (eV 8) aN)))) (eV 3)) (eTup (aC (eV 7) (aC (eV 8) aN))) [7, 8] [8])))))))
def F_moves_for : FD := runF 3 9 B_moves_for
def B_first_form : SV := (fSeq (fSet [] 1 (eOwn 1 F_least_repeat (aC (eV 0) aN))) (fSeq (fOwn [] 2 (eLst aN)) (fSeq (fFor [2] (iS (eC (.tuple ((["same", "flip", "upside", "half", "swap", "quarter", "back", "cross"] : List Str).map PyData.str)))) (gN 3) (fSeq (fSet [2] 4 (eOwn 2 F_turned (aC (eV 1) (aC (eV 3) aN)))) (fExt [2] 2 (eLst (aC (eOwn 1 F_moved_first (aC (eV 4) aN)) (aC (eOwn 1 F_moved_first (aC (eOwn 1 F_other_face (aC (eV 4) aN)) aN)) aN)))))) (fRet (eCl minCD (aC (eV 2) aN))))))
def F_first_form : FD := runF 1 5 B_first_form
def B_are_one_kind : SV := (fRet (e2 eqD (eOwn 1 F_first_form (aC (eV 0) aN)) (eOwn 1 F_first_form (aC (eV 1) aN))))
def F_are_one_kind : FD := runF 2 2 B_are_one_kind
def B_is_alike_behind : SV := (fRet (e2 inAD (eTup (aC (eC (.str "flip")) (aC (eC (.int 1)) aN))) (eOwn 1 F_symmetries_of (aC (eV 0) aN))))
def F_is_alike_behind : FD := runF 1 1 B_is_alike_behind
def B_is_swappable : SV := (fRet (eGen true (iS (eOwn 1 F_symmetries_of (aC (eV 0) aN))) (gTp (gCn (gN 1) (gCn (gN 2) gNl))) bYes (e2 inAD (eV 1) (eTup (aC (eC (.str "swap")) (aC (eC (.str "quarter")) (aC (eC (.str "back")) (aC (eC (.str "cross")) aN)))))) [1, 2]))
def F_is_swappable : FD := runF 1 3 B_is_swappable
def B_count_symmetries : SV := (fRet (eCl lenD (aC (eOwn 1 F_symmetries_of (aC (eV 0) aN)) aN)))
def F_count_symmetries : FD := runF 1 1 B_count_symmetries
def B__law_cloth : SV := (fRet (eCl tupleD (aC (eLc (iRg rangeD1 (aC (eV 1) aN)) (gN 4) bYes (eCl tupleD (aC (eLc (iRg rangeD1 (aC (eV 2) aN)) (gN 3) bYes (eOwn 2 F__law_draw (aC (eV 0) (aC (eC (.int 2)) aN))) [3]) aN)) [4]) aN)))
def F__law_cloth : FD := runF 3 5 B__law_cloth
def B__law_same : SV := (fRet (eAnd (e2 eqD (e2 isD (eV 0) (eC (.bool true))) (eV 1)) (e2 neD (e2 isD (eV 0) (eC (.bool false))) (eV 1))))
def F__law_same : FD := runF 2 2 B__law_same
def B__law_words : SV := (fRet (eLst (aC (eC (.str "same")) (aC (eC (.str "flip")) (aC (eC (.str "upside")) (aC (eC (.str "half")) (aC (eC (.str "swap")) (aC (eC (.str "quarter")) (aC (eC (.str "back")) (aC (eC (.str "cross")) aN))))))))))
def F__law_words : FD := runF 0 0 B__law_words
def B__law_repeats : SV := (fSeq (fAsg [] (eOwn 1 F_size_of (aC (eV 1) aN)) (gTp (gCn (gN 2) (gCn (gN 3) gNl)))) (fSeq (fSet [] 4 (eOwn 2 F__law_draw (aC (eV 0) (aC (eC (.int 9)) aN)))) (fSeq (fSet [] 5 (eOwn 2 F__law_draw (aC (eV 0) (aC (eC (.int 9)) aN)))) (fSeq (fSet [] 6 (eOwn 3 F_repeated (aC (eV 1) (aC (e2 addD (eC (.int 1)) (eOwn 2 F__law_draw (aC (eV 0) (aC (eC (.int 3)) aN)))) (aC (e2 addD (eC (.int 1)) (eOwn 2 F__law_draw (aC (eV 0) (aC (eC (.int 3)) aN)))) aN))))) (fSeq (fSet [] 7 (eOwn 3 F_shifted (aC (eV 1) (aC (eV 4) (aC (eV 5) aN))))) (fSeq (fSet [] 8 (eOwn 1 F_least_repeat (aC (eV 1) aN))) (fSeq (fIf (bOr (bCmp neD (eOwn 1 F_least_repeat (aC (eV 6) aN)) (eV 8)) (bOr (bNot (bT (eOwn 2 F__law_same (aC (eOwn 2 F_are_one (aC (eV 1) (aC (eV 6) aN))) (aC (eC (.bool true)) aN))))) (bOr (bCmp neD (eOwn 1 F_basis_of (aC (eV 6) aN)) (eOwn 1 F_basis_of (aC (eV 1) aN))) (bCmp neD (eOwn 1 F_area_of (aC (eV 7) aN)) (eOwn 1 F_area_of (aC (eV 1) aN)))))) (fRet (eC (.bool false))) fNil) (fSeq (fIf (bOr (bCmp neD (eOwn 1 F_basis_of (aC (eV 7) aN)) (eOwn 1 F_basis_of (aC (eV 1) aN))) (bCmp neD (eOwn 1 F_straight_size (aC (eV 1) aN)) (eOwn 1 F_size_of (aC (eV 8) aN)))) (fRet (eC (.bool false))) fNil) (fSeq (fAsg [] (eOwn 1 F_basis_of (aC (eV 1) aN)) (gTp (gCn (gN 9) (gCn (gN 10) gNl)))) (fSeq (fSet [] 11 (eOwn 1 F_periods_of (aC (eV 1) aN))) (fSeq (fSet [] 12 (eLc (iS (eLc (iRg rangeD1 (aC (e2 mulD (eV 2) (eV 3)) aN)) (gN 15) bYes (eTup (aC (e2 fdivD (eV 15) (eV 3)) (aC (e2 modD (eCl intCD (aC (eV 15) aN)) (eV 3)) aN))) [15])) (gTp (gCn (gN 13) (gCn (gN 14) gNl))) (bCmp eqD (eOwn 3 F_shifted (aC (eV 1) (aC (eV 13) (aC (eV 14) aN)))) (eV 1)) (eTup (aC (eV 13) (aC (eV 14) aN))) [13, 14])) (fSeq (fIf (bOr (bCmp neD (eV 11) (eV 12)) (bOr (bCmp neD (e2 ixD (eV 10) (eC (.int 0))) (eC (.int 0))) (bOr (bCmp neD (eOwn 1 F_area_of (aC (eV 1) aN)) (e2 mulD (e2 ixD (eV 9) (eC (.int 0))) (e2 ixD (eV 10) (eC (.int 1))))) (bCmp neD (e2 mulD (eV 2) (eV 3)) (e2 mulD (eOwn 1 F_area_of (aC (eV 1) aN)) (eCl lenD (aC (eV 11) aN))))))) (fRet (eC (.bool false))) fNil) (fSeq (fIf (bT (eCl anyCD (aC (eLc (iS (eLst (aC (eV 9) (aC (eV 10) aN)))) (gN 16) bYes (eNot (eOwn 2 F__law_same (aC (eOwn 3 F_is_period (aC (eV 1) (aC (e2 ixD (eV 16) (eC (.int 0))) (aC (e2 ixD (eV 16) (eC (.int 1))) aN)))) (aC (eC (.bool true)) aN)))) [16]) aN))) (fRet (eC (.bool false))) fNil) (fSeq (fSet [] 17 (eLst aN)) (fSeq (fFor [] (iRg rangeD1 (aC (e2 fdivD (eV 2) (e2 ixD (eV 9) (eC (.int 0)))) aN)) (gN 13) (fFor [] (iRg rangeD1 (aC (e2 fdivD (eV 3) (e2 ixD (eV 10) (eC (.int 1)))) aN)) (gN 14) (fSeq (fSet [] 16 (eTup (aC (e2 modD (eCl intCD (aC (e2 mulD (eV 13) (e2 ixD (eV 9) (eC (.int 0)))) aN)) (eV 2)) (aC (e2 modD (eCl intCD (aC (e2 addD (e2 mulD (eV 13) (e2 ixD (eV 9) (eC (.int 1)))) (e2 mulD (eV 14) (e2 ixD (eV 10) (eC (.int 1))))) aN)) (eV 3)) aN)))) (fSet [] 17 (e2 addD (eV 17) (eIf (bCmp ninAD (eV 16) (eV 17)) (eLst (aC (eV 16) aN)) (eLst aN))))))) (fSeq (fIf (bCmp neD (eCl sortedD (aC (eV 17) aN)) (eV 11)) (fRet (eC (.bool false))) fNil) (fSeq (fSet [] 18 (eTup (aC (eOwn 2 F__law_draw (aC (eV 0) (aC (eV 2) aN))) (aC (eOwn 2 F__law_draw (aC (eV 0) (aC (eV 3) aN))) aN)))) (fSeq (fSet [] 19 (eOwn 2 F_places_alike (aC (eV 1) (aC (eV 18) aN)))) (fSeq (fIf (bOr (bCmp neD (eCl lenD (aC (eV 19) aN)) (eCl lenD (aC (eV 11) aN))) (bOr (bCmp ninAD (eV 18) (eV 19)) (bOr (bT (eCl anyCD (aC (eLc (iS (eV 19)) (gTp (gCn (gN 20) (gCn (gN 21) gNl))) bYes (e2 neD (e2 ixD (e2 ixD (eV 1) (eV 20)) (eV 21)) (e2 ixD (e2 ixD (eV 1) (e2 ixD (eV 18) (eC (.int 0)))) (e2 ixD (eV 18) (eC (.int 1))))) [20, 21]) aN))) (bCmp neD (eOwn 2 F_places_alike (aC (eV 1) (aC (e2 ixD (eV 19) (e1 negD (eC (.int 1)))) aN))) (eV 19))))) (fRet (eC (.bool false))) fNil) (fSeq (fIf (bOr (bNot (bT (eOwn 2 F__law_same (aC (eOwn 2 F_are_moved (aC (eV 1) (aC (eV 7) aN))) (aC (eC (.bool true)) aN))))) (bCmp neD (eOwn 1 F_moved_first (aC (eV 7) aN)) (eOwn 1 F_moved_first (aC (eV 1) aN)))) (fRet (eC (.bool false))) fNil) (fSeq (fIf (bCmp neD (eOwn 1 F_moved_first (aC (eV 1) aN)) (eCl minCD (aC (eLc (iS (eLc (iRg rangeD1 (aC (e2 mulD (eCl lenD (aC (eV 8) aN)) (eCl lenD (aC (e2 ixD (eV 8) (eC (.int 0))) aN))) aN)) (gN 15) bYes (eTup (aC (e2 fdivD (eV 15) (eCl lenD (aC (e2 ixD (eV 8) (eC (.int 0))) aN))) (aC (e2 modD (eCl intCD (aC (eV 15) aN)) (eCl lenD (aC (e2 ixD (eV 8) (eC (.int 0))) aN))) aN))) [15])) (gTp (gCn (gN 13) (gCn (gN 14) gNl))) bYes (eOwn 3 F_shifted (aC (eV 8) (aC (eV 13) (aC (eV 14) aN)))) [13, 14]) aN))) (fRet (eC (.bool false))) fNil) (fSeq (fSet [] 22 (eOwn 2 F_move_between (aC (eV 1) (aC (eV 7) aN)))) (fSeq (fIf (bOr (bCmp isD (eV 22) (eC .none)) (bOr (bCmp neD (eOwn 1 F_least_repeat (aC (eOwn 3 F_shifted (aC (eV 8) (aC (e2 ixD (eV 22) (eC (.int 0))) (aC (e2 ixD (eV 22) (eC (.int 1))) aN)))) aN)) (eOwn 1 F_least_repeat (aC (eV 7) aN))) (bCmp gtA (eV 22) (eTup (aC (e2 modD (eCl intCD (aC (eV 4) aN)) (eCl lenD (aC (eV 8) aN))) (aC (e2 modD (eCl intCD (aC (eV 5) aN)) (eCl lenD (aC (e2 ixD (eV 8) (eC (.int 0))) aN))) aN)))))) (fRet (eC (.bool false))) fNil) (fSeq (fSet [] 23 (eOwn 3 F__law_cloth (aC (eV 0) (aC (e2 addD (eC (.int 1)) (eOwn 2 F__law_draw (aC (eV 0) (aC (eC (.int 4)) aN)))) (aC (e2 addD (eC (.int 1)) (eOwn 2 F__law_draw (aC (eV 0) (aC (eC (.int 4)) aN)))) aN))))) (fSeq (fSet [] 13 (eOwn 1 F_straight_size (aC (eV 1) aN))) (fSeq (fSet [] 14 (eOwn 1 F_straight_size (aC (eV 23) aN))) (fSeq (fIf (bOr (bCmp neD (eOwn 2 F_common_size (aC (eV 1) (aC (eV 23) aN))) (eTup (aC (eOwn 2 F_common_multiple (aC (e2 ixD (eV 13) (eC (.int 0))) (aC (e2 ixD (eV 14) (eC (.int 0))) aN))) (aC (eOwn 2 F_common_multiple (aC (e2 ixD (eV 13) (eC (.int 1))) (aC (e2 ixD (eV 14) (eC (.int 1))) aN))) aN)))) (bCmp neD (e2 isD (eOwn 2 F_move_between (aC (eV 1) (aC (eV 23) aN))) (eC .none)) (e2 isnD (eOwn 2 F_are_moved (aC (eV 1) (aC (eV 23) aN))) (eC (.bool true))))) (fRet (eC (.bool false))) fNil) (fRet (e2 eqD (eOwn 1 F_counts_of_columns (aC (eV 6) aN)) (eOwn 1 F_counts_of_columns (aC (eV 1) aN)))))))))))))))))))))))))))))))
def F__law_repeats : FD := runF 2 24 B__law_repeats
def B__law_turned : SV := (fSeq (fSet [] 2 (eOwn 0 F__law_words aN)) (fSeq (fSet [] 3 (e2 ixD (eV 2) (eOwn 2 F__law_draw (aC (eV 0) (aC (eC (.int 8)) aN))))) (fSeq (fSet [] 4 (e2 ixD (eV 2) (eOwn 2 F__law_draw (aC (eV 0) (aC (eC (.int 8)) aN))))) (fSeq (fSet [] 5 (e2 ixD (eV 2) (eOwn 2 F__law_draw (aC (eV 0) (aC (eC (.int 8)) aN))))) (fSeq (fSet [] 6 (eOwn 2 F_followed (aC (eV 3) (aC (eV 4) aN)))) (fSeq (fIf (bOr (bCmp neD (eOwn 2 F_turned (aC (eOwn 2 F_turned (aC (eV 1) (aC (eV 3) aN))) (aC (eV 4) aN))) (eOwn 2 F_turned (aC (eV 1) (aC (eV 6) aN)))) (bOr (bCmp neD (eOwn 2 F_followed (aC (eV 6) (aC (eV 5) aN))) (eOwn 2 F_followed (aC (eV 3) (aC (eOwn 2 F_followed (aC (eV 4) (aC (eV 5) aN))) aN)))) (bCmp neD (eOwn 2 F_followed (aC (eC (.str "same")) (aC (eV 3) aN))) (eV 3)))) (fRet (eC (.bool false))) fNil) (fSeq (fIf (bOr (bCmp neD (eOwn 2 F_turned (aC (eV 1) (aC (eC (.str "swap")) aN))) (eOwn 1 F_exchanged (aC (eV 1) aN))) (bOr (bCmp neD (eOwn 2 F_turned (aC (eV 1) (aC (eC (.str "flip")) aN))) (eOwn 1 F_flipped (aC (eV 1) aN))) (bOr (bCmp neD (eOwn 2 F_turned (aC (eV 1) (aC (eC (.str "upside")) aN))) (eOwn 1 F_upside_down (aC (eV 1) aN))) (bCmp neD (eOwn 2 F_turned (aC (eV 1) (aC (eC (.str "quarter")) aN))) (eOwn 1 F_flipped (aC (eOwn 1 F_exchanged (aC (eV 1) aN)) aN)))))) (fRet (eC (.bool false))) fNil) (fSeq (fSet [] 7 (eOwn 1 F_symmetries_of (aC (eV 1) aN))) (fSeq (fSet [] 8 (eOwn 2 F__law_draw (aC (eV 0) (aC (eC (.int 2)) aN)))) (fSeq (fSet [] 9 (eOwn 3 F_shifted (aC (eOwn 2 F_turned (aC (eIf (bCmp eqD (eV 8) (eC (.int 1))) (eOwn 1 F_other_face (aC (eV 1) aN)) (eV 1)) (aC (eV 3) aN))) (aC (eOwn 2 F__law_draw (aC (eV 0) (aC (eC (.int 5)) aN))) (aC (eOwn 2 F__law_draw (aC (eV 0) (aC (eC (.int 5)) aN))) aN))))) (fSeq (fIf (bOr (bCmp neD (eOwn 1 F_count_symmetries (aC (eV 1) aN)) (eCl lenD (aC (eV 7) aN))) (bOr (bCmp neD (e2 modD (eCl intCD (aC (eC (.int 16)) aN)) (eCl lenD (aC (eV 7) aN))) (eC (.int 0))) (bOr (bCmp ninAD (eTup (aC (eC (.str "same")) (aC (eC (.int 0)) aN))) (eV 7)) (bCmp neD (eOwn 1 F_count_symmetries (aC (eV 9) aN)) (eCl lenD (aC (eV 7) aN)))))) (fRet (eC (.bool false))) fNil) (fSeq (fIf (bOr (bCmp neD (eOwn 1 F_first_form (aC (eV 9) aN)) (eOwn 1 F_first_form (aC (eV 1) aN))) (bNot (bT (eOwn 2 F__law_same (aC (eOwn 2 F_are_one_kind (aC (eV 1) (aC (eV 9) aN))) (aC (eC (.bool true)) aN)))))) (fRet (eC (.bool false))) fNil) (fSeq (fFor [] (iS (eV 7)) (gTp (gCn (gN 10) (gCn (gN 11) gNl))) (fFor [] (iS (eV 7)) (gTp (gCn (gN 12) (gCn (gN 13) gNl))) (fIf (bCmp ninAD (eTup (aC (eOwn 2 F_followed (aC (eV 10) (aC (eV 12) aN))) (aC (e2 modD (eCl intCD (aC (e2 addD (eV 11) (eV 13)) aN)) (eC (.int 2))) aN))) (eV 7)) (fRet (eC (.bool false))) fNil))) (fSeq (fSet [] 14 (eOwn 1 F_least_repeat (aC (eV 1) aN))) (fSeq (fFor [] (iS (eV 2)) (gN 10) (fFor [] (iRg rangeD1 (aC (eC (.int 2)) aN)) (gN 11) (fSeq (fSet [] 15 (eOwn 2 F_turned (aC (eIf (bCmp eqD (eV 11) (eC (.int 1))) (eOwn 1 F_other_face (aC (eV 14) aN)) (eV 14)) (aC (eV 10) aN)))) (fSeq (fSet [] 16 (eLc (iRg rangeD1 (aC (e2 mulD (eCl lenD (aC (eV 14) aN)) (eCl lenD (aC (e2 ixD (eV 14) (eC (.int 0))) aN))) aN)) (gN 17) bYes (eTup (aC (e2 fdivD (eV 17) (eCl lenD (aC (e2 ixD (eV 14) (eC (.int 0))) aN))) (aC (e2 modD (eCl intCD (aC (eV 17) aN)) (eCl lenD (aC (e2 ixD (eV 14) (eC (.int 0))) aN))) aN))) [17])) (fSeq (fSet [] 18 (eLc (iS (eV 16)) (gTp (gCn (gN 19) (gCn (gN 20) gNl))) (bAnd (bCmp eqD (eOwn 1 F_size_of (aC (eV 15) aN)) (eOwn 1 F_size_of (aC (eV 14) aN))) (bCmp eqD (eOwn 3 F_shifted (aC (eV 15) (aC (eV 19) (aC (eV 20) aN)))) (eV 14))) (eTup (aC (eV 19) (aC (eV 20) aN))) [19, 20])) (fIf (bOr (bCmp neD (eOwn 3 F_moves_for (aC (eV 1) (aC (eV 10) (aC (eV 11) aN)))) (eV 18)) (bCmp neD (e2 inAD (eTup (aC (eV 10) (aC (eV 11) aN))) (eV 7)) (e2 gtA (eCl lenD (aC (eV 18) aN)) (eC (.int 0))))) (fRet (eC (.bool false))) fNil)))))) (fSeq (fIf (bOr (bNot (bT (eOwn 2 F__law_same (aC (eOwn 1 F_is_swappable (aC (eV 1) aN)) (aC (eCl anyCD (aC (eLc (iS (eV 7)) (gN 21) bYes (e2 inAD (e2 ixD (eV 21) (eC (.int 0))) (eLst (aC (eC (.str "swap")) (aC (eC (.str "quarter")) (aC (eC (.str "back")) (aC (eC (.str "cross")) aN)))))) [21]) aN)) aN))))) (bNot (bT (eOwn 2 F__law_same (aC (eOwn 1 F_is_alike_behind (aC (eV 1) aN)) (aC (e2 inAD (eTup (aC (eC (.str "flip")) (aC (eC (.int 1)) aN))) (eV 7)) aN)))))) (fRet (eC (.bool false))) fNil) (fSeq (fSet [] 22 (eOwn 3 F__law_cloth (aC (eV 0) (aC (eCl lenD (aC (eV 1) aN)) (aC (eCl lenD (aC (e2 ixD (eV 1) (eC (.int 0))) aN)) aN))))) (fRet (eAnd (eOwn 2 F__law_same (aC (eOwn 2 F_are_one_kind (aC (eV 1) (aC (eV 22) aN))) (aC (e2 eqD (eOwn 1 F_first_form (aC (eV 1) aN)) (eOwn 1 F_first_form (aC (eV 22) aN))) aN))) (e2 eqD (eOwn 1 F_first_form (aC (eOwn 1 F_first_form (aC (eV 1) aN)) aN)) (eOwn 1 F_first_form (aC (eV 1) aN))))))))))))))))))))))
def F__law_turned : FD := runF 2 23 B__law_turned
def B_law : SV := (fSeq (fSet [] 2 (eOwn 3 F__law_cloth (aC (eV 1) (aC (e2 addD (eC (.int 1)) (eOwn 2 F__law_draw (aC (eV 1) (aC (eC (.int 6)) aN)))) (aC (e2 addD (eC (.int 1)) (eOwn 2 F__law_draw (aC (eV 1) (aC (eC (.int 6)) aN)))) aN))))) (fSeq (fSet [] 2 (eIf (bCmp eqD (eOwn 2 F__law_draw (aC (eV 1) (aC (eC (.int 3)) aN))) (eC (.int 0))) (eOwn 3 F_from_step (aC (e2 ixD (eV 2) (eC (.int 0))) (aC (eOwn 2 F__law_draw (aC (eV 1) (aC (eC (.int 4)) aN))) (aC (eCl lenD (aC (eV 2) aN)) aN)))) (eV 2))) (fSeq (fIf (bOr (bNot (bT (eOwn 2 F__law_repeats (aC (eV 1) (aC (eV 2) aN))))) (bNot (bT (eOwn 2 F__law_turned (aC (eV 1) (aC (eV 2) aN)))))) (fRet (eC (.bool false))) fNil) (fSeq (fSet [] 3 (e2 ixD (eV 2) (eC (.int 0)))) (fSeq (fSet [] 4 (eOwn 2 F__law_draw (aC (eV 1) (aC (eC (.int 7)) aN)))) (fSeq (fSet [] 5 (eOwn 2 F_closing_picks (aC (eV 3) (aC (eV 4) aN)))) (fSeq (fSet [] 6 (eOwn 3 F_from_step (aC (eV 3) (aC (eV 4) (aC (eV 5) aN))))) (fSeq (fSet [] 7 (eOwn 1 F_step_of (aC (eV 6) aN))) (fSeq (fIf (bOr (bCmp neD (eCl lenD (aC (eV 6) aN)) (eV 5)) (bOr (bCmp neD (eOwn 2 F_moved_row (aC (e2 ixD (eV 6) (e1 negD (eC (.int 1)))) (aC (eV 4) aN))) (eV 3)) (bOr (bT (eCl anyCD (aC (eLc (iRg rangeD2 (aC (eC (.int 1)) (aC (eV 5) aN))) (gN 8) bYes (e2 eqD (eOwn 2 F_moved_row (aC (eV 3) (aC (e2 mulD (eV 4) (eV 8)) aN))) (eV 3)) [8]) aN))) (bOr (bCmp isD (eV 7) (eC .none)) (bCmp neD (eOwn 3 F_from_step (aC (eV 3) (aC (eV 7) (aC (eV 5) aN)))) (eV 6)))))) (fRet (eC (.bool false))) fNil) (fSeq (fIf (bOr (bCmp neD (eOwn 2 F_moved_row (aC (eOwn 2 F_moved_row (aC (eV 3) (aC (eV 4) aN))) (aC (e2 subD (eC (.int 0)) (eV 4)) aN))) (eV 3)) (bCmp gtA (eV 7) (e2 modD (eCl intCD (aC (eV 4) aN)) (eCl lenD (aC (eV 3) aN))))) (fRet (eC (.bool false))) fNil) (fSeq (fSet [] 9 (eOwn 1 F_step_of (aC (eV 2) aN))) (fSeq (fSet [] 10 (eLc (iRg rangeD1 (aC (eCl lenD (aC (eV 3) aN)) aN)) (gN 8) (bNot (bT (eCl anyCD (aC (eLc (iRg rangeD1 (aC (eCl lenD (aC (eV 2) aN)) aN)) (gN 11) bYes (e2 neD (eOwn 2 F_moved_row (aC (e2 ixD (eV 2) (e2 subD (eV 11) (eC (.int 1)))) (aC (eV 8) aN))) (e2 ixD (eV 2) (eV 11))) [11]) aN)))) (eV 8) [8])) (fRet (e2 eqD (eV 9) (eIf (bCmp gtA (eCl lenD (aC (eV 10) aN)) (eC (.int 0))) (e2 ixD (eV 10) (eC (.int 0))) (eC .none))))))))))))))))
end W3

set_option Elab.async false
set_option linter.all false
set_option maxRecDepth 100000
set_option maxHeartbeats 4000000
namespace W3
open PySem PySem.Spec L2
/-! the text of the program -/
def topS (i : Nat) : Stmt := PySem.Challenge.pw_wovenwhole_k05_cloths_without_end_under.main.body.getD i (.Pass ⟨0, 0, 0, 0⟩)
abbrev s_common_divisor : Stmt := topS 1
abbrev s_common_multiple : Stmt := topS 2
abbrev s_size_of : Stmt := topS 4
abbrev s_other_face : Stmt := topS 5
abbrev s_exchanged : Stmt := topS 6
abbrev s_flipped : Stmt := topS 7
abbrev s_upside_down : Stmt := topS 8
abbrev s_half_turned : Stmt := topS 9
abbrev s_shifted : Stmt := topS 10
abbrev s_repeated : Stmt := topS 11
abbrev s_is_period : Stmt := topS 14
abbrev s_periods_of : Stmt := topS 13
abbrev s_basis_of : Stmt := topS 15
abbrev s_area_of : Stmt := topS 16
abbrev s_straight_size : Stmt := topS 18
abbrev s_least_repeat : Stmt := topS 17
abbrev s_are_one : Stmt := topS 19
abbrev s_moved_first : Stmt := topS 20
abbrev s_are_moved : Stmt := topS 21
abbrev s_move_between : Stmt := topS 22
abbrev s_common_size : Stmt := topS 23
abbrev s_places_alike : Stmt := topS 24
abbrev s_counts_of_columns : Stmt := topS 25
abbrev s_moved_row : Stmt := topS 27
abbrev s_step_of : Stmt := topS 26
abbrev s_from_step : Stmt := topS 28
abbrev s_closing_picks : Stmt := topS 29
abbrev s_turned : Stmt := topS 32
abbrev s_followed : Stmt := topS 33
abbrev s_symmetries_of : Stmt := topS 34
abbrev s_moves_for : Stmt := topS 35
abbrev s_first_form : Stmt := topS 36
abbrev s_are_one_kind : Stmt := topS 37
abbrev s_is_alike_behind : Stmt := topS 38
abbrev s_is_swappable : Stmt := topS 39
abbrev s_count_symmetries : Stmt := topS 40
abbrev s__law_draw : Stmt := topS 42
abbrev s__law_cloth : Stmt := topS 43
abbrev s__law_same : Stmt := topS 44
abbrev s__law_words : Stmt := topS 45
abbrev s__law_repeats : Stmt := topS 46
abbrev s__law_turned : Stmt := topS 47
abbrev s_law : Stmt := topS 48
theorem sc_common_divisor : FnScope ["one", "two"] ["one", "two"] (defScope s_common_divisor) := ⟨rfl, rfl, rfl, by decide +kernel, rfl, by decide +kernel, by decide +kernel⟩
theorem sc_common_multiple : FnScope ["one", "two"] ["one", "two"] (defScope s_common_multiple) := ⟨rfl, rfl, rfl, by decide +kernel, rfl, by decide +kernel, by decide +kernel⟩
theorem sc_size_of : FnScope ["cloth"] ["cloth"] (defScope s_size_of) := ⟨rfl, rfl, rfl, by decide +kernel, rfl, by decide +kernel, by decide +kernel⟩
theorem sc_other_face : FnScope ["cloth", "cell", "row"] ["cloth"] (defScope s_other_face) := ⟨rfl, rfl, rfl, by decide +kernel, rfl, by decide +kernel, by decide +kernel⟩
theorem sc_exchanged : FnScope ["cloth", "row", "end"] ["cloth"] (defScope s_exchanged) := ⟨rfl, rfl, rfl, by decide +kernel, rfl, by decide +kernel, by decide +kernel⟩
theorem sc_flipped : FnScope ["cloth", "row"] ["cloth"] (defScope s_flipped) := ⟨rfl, rfl, rfl, by decide +kernel, rfl, by decide +kernel, by decide +kernel⟩
theorem sc_upside_down : FnScope ["cloth"] ["cloth"] (defScope s_upside_down) := ⟨rfl, rfl, rfl, by decide +kernel, rfl, by decide +kernel, by decide +kernel⟩
theorem sc_half_turned : FnScope ["cloth"] ["cloth"] (defScope s_half_turned) := ⟨rfl, rfl, rfl, by decide +kernel, rfl, by decide +kernel, by decide +kernel⟩
theorem sc_shifted : FnScope ["cloth", "down", "right", "picks", "ends", "end", "pick"] ["cloth", "down", "right"] (defScope s_shifted) := ⟨rfl, rfl, rfl, by decide +kernel, rfl, by decide +kernel, by decide +kernel⟩
theorem sc_repeated : FnScope ["cloth", "down", "right", "row"] ["cloth", "down", "right"] (defScope s_repeated) := ⟨rfl, rfl, rfl, by decide +kernel, rfl, by decide +kernel, by decide +kernel⟩
theorem sc_is_period : FnScope ["cloth", "down", "right"] ["cloth", "down", "right"] (defScope s_is_period) := ⟨rfl, rfl, rfl, by decide +kernel, rfl, by decide +kernel, by decide +kernel⟩
theorem sc_periods_of : FnScope ["cloth", "picks", "ends", "down", "right"] ["cloth"] (defScope s_periods_of) := ⟨rfl, rfl, rfl, by decide +kernel, rfl, by decide +kernel, by decide +kernel⟩
theorem sc_basis_of : FnScope ["cloth", "picks", "ends", "right", "step", "down", "side"] ["cloth"] (defScope s_basis_of) := ⟨rfl, rfl, rfl, by decide +kernel, rfl, by decide +kernel, by decide +kernel⟩
theorem sc_area_of : FnScope ["cloth", "first", "second"] ["cloth"] (defScope s_area_of) := ⟨rfl, rfl, rfl, by decide +kernel, rfl, by decide +kernel, by decide +kernel⟩
theorem sc_straight_size : FnScope ["cloth", "picks", "ends", "down", "step", "right"] ["cloth"] (defScope s_straight_size) := ⟨rfl, rfl, rfl, by decide +kernel, rfl, by decide +kernel, by decide +kernel⟩
theorem sc_least_repeat : FnScope ["cloth", "picks", "ends", "row"] ["cloth"] (defScope s_least_repeat) := ⟨rfl, rfl, rfl, by decide +kernel, rfl, by decide +kernel, by decide +kernel⟩
theorem sc_are_one : FnScope ["one", "two"] ["one", "two"] (defScope s_are_one) := ⟨rfl, rfl, rfl, by decide +kernel, rfl, by decide +kernel, by decide +kernel⟩
theorem sc_moved_first : FnScope ["cloth", "made", "picks", "ends", "down", "right"] ["cloth"] (defScope s_moved_first) := ⟨rfl, rfl, rfl, by decide +kernel, rfl, by decide +kernel, by decide +kernel⟩
theorem sc_are_moved : FnScope ["one", "two"] ["one", "two"] (defScope s_are_moved) := ⟨rfl, rfl, rfl, by decide +kernel, rfl, by decide +kernel, by decide +kernel⟩
theorem sc_move_between : FnScope ["one", "two", "first", "second", "picks", "ends", "down", "right"] ["one", "two"] (defScope s_move_between) := ⟨rfl, rfl, rfl, by decide +kernel, rfl, by decide +kernel, by decide +kernel⟩
theorem sc_common_size : FnScope ["one", "two", "first", "second"] ["one", "two"] (defScope s_common_size) := ⟨rfl, rfl, rfl, by decide +kernel, rfl, by decide +kernel, by decide +kernel⟩
theorem sc_places_alike : FnScope ["cloth", "place", "picks", "ends", "down", "right"] ["cloth", "place"] (defScope s_places_alike) := ⟨rfl, rfl, rfl, by decide +kernel, rfl, by decide +kernel, by decide +kernel⟩
theorem sc_counts_of_columns : FnScope ["cloth", "columns", "row", "end"] ["cloth"] (defScope s_counts_of_columns) := ⟨rfl, rfl, rfl, by decide +kernel, rfl, by decide +kernel, by decide +kernel⟩
theorem sc_moved_row : FnScope ["row", "right", "many", "place"] ["row", "right"] (defScope s_moved_row) := ⟨rfl, rfl, rfl, by decide +kernel, rfl, by decide +kernel, by decide +kernel⟩
theorem sc_step_of : FnScope ["cloth", "ends", "right", "pick"] ["cloth"] (defScope s_step_of) := ⟨rfl, rfl, rfl, by decide +kernel, rfl, by decide +kernel, by decide +kernel⟩
theorem sc_from_step : FnScope ["row", "right", "picks", "pick"] ["row", "right", "picks"] (defScope s_from_step) := ⟨rfl, rfl, rfl, by decide +kernel, rfl, by decide +kernel, by decide +kernel⟩
theorem sc_closing_picks : FnScope ["row", "right", "many", "picks"] ["row", "right"] (defScope s_closing_picks) := ⟨rfl, rfl, rfl, by decide +kernel, rfl, by decide +kernel, by decide +kernel⟩
theorem sc_turned : FnScope ["cloth", "word"] ["cloth", "word"] (defScope s_turned) := ⟨rfl, rfl, rfl, by decide +kernel, rfl, by decide +kernel, by decide +kernel⟩
theorem sc_followed : FnScope ["one", "two", "probe", "made", "word"] ["one", "two"] (defScope s_followed) := ⟨rfl, rfl, rfl, by decide +kernel, rfl, by decide +kernel, by decide +kernel⟩
theorem sc_symmetries_of : FnScope ["cloth", "made", "wanted", "found", "word", "one", "face"] ["cloth"] (defScope s_symmetries_of) := ⟨rfl, rfl, rfl, by decide +kernel, rfl, by decide +kernel, by decide +kernel⟩
theorem sc_moves_for : FnScope ["cloth", "word", "face", "made", "one", "picks", "ends", "down", "right"] ["cloth", "word", "face"] (defScope s_moves_for) := ⟨rfl, rfl, rfl, by decide +kernel, rfl, by decide +kernel, by decide +kernel⟩
theorem sc_first_form : FnScope ["cloth", "made", "rows", "word", "one"] ["cloth"] (defScope s_first_form) := ⟨rfl, rfl, rfl, by decide +kernel, rfl, by decide +kernel, by decide +kernel⟩
theorem sc_are_one_kind : FnScope ["one", "two"] ["one", "two"] (defScope s_are_one_kind) := ⟨rfl, rfl, rfl, by decide +kernel, rfl, by decide +kernel, by decide +kernel⟩
theorem sc_is_alike_behind : FnScope ["cloth"] ["cloth"] (defScope s_is_alike_behind) := ⟨rfl, rfl, rfl, by decide +kernel, rfl, by decide +kernel, by decide +kernel⟩
theorem sc_is_swappable : FnScope ["cloth", "word", "_"] ["cloth"] (defScope s_is_swappable) := ⟨rfl, rfl, rfl, by decide +kernel, rfl, by decide +kernel, by decide +kernel⟩
theorem sc_count_symmetries : FnScope ["cloth"] ["cloth"] (defScope s_count_symmetries) := ⟨rfl, rfl, rfl, by decide +kernel, rfl, by decide +kernel, by decide +kernel⟩
theorem sc__law_draw : FnScope ["state", "limit", "position", "cell", "mixed", "digit"] ["state", "limit"] (defScope s__law_draw) := ⟨rfl, rfl, rfl, by decide +kernel, rfl, by decide +kernel, by decide +kernel⟩
theorem sc__law_cloth : FnScope ["state", "picks", "ends", "end", "pick"] ["state", "picks", "ends"] (defScope s__law_cloth) := ⟨rfl, rfl, rfl, by decide +kernel, rfl, by decide +kernel, by decide +kernel⟩
theorem sc__law_same : FnScope ["told", "due"] ["told", "due"] (defScope s__law_same) := ⟨rfl, rfl, rfl, by decide +kernel, rfl, by decide +kernel, by decide +kernel⟩
theorem sc__law_words : FnScope [] [] (defScope s__law_words) := ⟨rfl, rfl, rfl, by decide +kernel, rfl, by decide +kernel, by decide +kernel⟩
theorem sc__law_repeats : FnScope ["state", "one", "picks", "ends", "down", "right", "wide", "moved", "least", "first", "second", "periods", "due", "a", "b", "code", "step", "made", "place", "alike", "p", "e", "told", "other"] ["state", "one"] (defScope s__law_repeats) := ⟨rfl, rfl, rfl, by decide +kernel, rfl, by decide +kernel, by decide +kernel⟩
theorem sc__law_turned : FnScope ["state", "one", "words", "first", "second", "third", "both", "found", "face", "moved", "word", "turn", "other", "more", "least", "made", "moves", "code", "due", "a", "b", "row", "drawn"] ["state", "one"] (defScope s__law_turned) := ⟨rfl, rfl, rfl, by decide +kernel, rfl, by decide +kernel, by decide +kernel⟩
theorem sc_law : FnScope ["script", "state", "one", "row", "right", "many", "cloth", "step", "k", "told", "due", "p"] ["script"] (defScope s_law) := ⟨rfl, rfl, rfl, by decide +kernel, rfl, by decide +kernel, by decide +kernel⟩
structure Fx (K : PySem.W.Frag) (mg : Str → Option Value) (base : Heap) : Prop where
  f_common_divisor : FunHas K mg "common_divisor" s_common_divisor
  f_common_multiple : FunHas K mg "common_multiple" s_common_multiple
  f_size_of : FunHas K mg "size_of" s_size_of
  f_other_face : FunHas K mg "other_face" s_other_face
  f_exchanged : FunHas K mg "exchanged" s_exchanged
  f_flipped : FunHas K mg "flipped" s_flipped
  f_upside_down : FunHas K mg "upside_down" s_upside_down
  f_half_turned : FunHas K mg "half_turned" s_half_turned
  f_shifted : FunHas K mg "shifted" s_shifted
  f_repeated : FunHas K mg "repeated" s_repeated
  f_is_period : FunHas K mg "is_period" s_is_period
  f_periods_of : FunHas K mg "periods_of" s_periods_of
  f_basis_of : FunHas K mg "basis_of" s_basis_of
  f_area_of : FunHas K mg "area_of" s_area_of
  f_straight_size : FunHas K mg "straight_size" s_straight_size
  f_least_repeat : FunHas K mg "least_repeat" s_least_repeat
  f_are_one : FunHas K mg "are_one" s_are_one
  f_moved_first : FunHas K mg "moved_first" s_moved_first
  f_are_moved : FunHas K mg "are_moved" s_are_moved
  f_move_between : FunHas K mg "move_between" s_move_between
  f_common_size : FunHas K mg "common_size" s_common_size
  f_places_alike : FunHas K mg "places_alike" s_places_alike
  f_counts_of_columns : FunHas K mg "counts_of_columns" s_counts_of_columns
  f_moved_row : FunHas K mg "moved_row" s_moved_row
  f_step_of : FunHasG K mg base "step_of" s_step_of
  f_from_step : FunHas K mg "from_step" s_from_step
  f_closing_picks : FunHas K mg "closing_picks" s_closing_picks
  f_turned : FunHas K mg "turned" s_turned
  f_followed : FunHas K mg "followed" s_followed
  f_symmetries_of : FunHas K mg "symmetries_of" s_symmetries_of
  f_moves_for : FunHas K mg "moves_for" s_moves_for
  f_first_form : FunHas K mg "first_form" s_first_form
  f_are_one_kind : FunHas K mg "are_one_kind" s_are_one_kind
  f_is_alike_behind : FunHas K mg "is_alike_behind" s_is_alike_behind
  f_is_swappable : FunHasG K mg base "is_swappable" s_is_swappable
  f_count_symmetries : FunHas K mg "count_symmetries" s_count_symmetries
  f__law_draw : FunHas K mg "_law_draw" s__law_draw
  f__law_cloth : FunHas K mg "_law_cloth" s__law_cloth
  f__law_same : FunHas K mg "_law_same" s__law_same
  f__law_words : FunHas K mg "_law_words" s__law_words
  f__law_repeats : FunHas K mg "_law_repeats" s__law_repeats
  f__law_turned : FunHas K mg "_law_turned" s__law_turned
  b_abs : mg "abs" = none
  b_all : mg "all" = none
  b_any : mg "any" = none
  b_int : mg "int" = none
  b_len : mg "len" = none
  b_list : mg "list" = none
  b_min : mg "min" = none
  b_range : mg "range" = none
  b_sorted : mg "sorted" = none
  b_tuple : mg "tuple" = none
  c_WORDS : TupHas K mg "WORDS" ["same", "flip", "upside", "half", "swap", "quarter", "back", "cross"]
section
variable {P : Program} {w : World} {K : PySem.W.Frag} {mg : Str → Option Value} {base : Heap}
theorem H_common_divisor (T : Fx K mg base) : Has P w K mg base 1 "common_divisor" 2 F_common_divisor := has_of (N := ["one", "two"]) (ps := ["one", "two"]) T.f_common_divisor sc_common_divisor (fun _ _ _ _ _ _ us hl => match us, hl with | [_, _], _ => rfl) fun f cdv A outer s H E hr =>
  ((ss_cons (s_while 1000000000000 po_def (t_v (d_var 1)) (ss_one (s_par 0 1 (by rfl) sc_common_divisor.nd (af_pl (d_var 1) (af_pl (d_mod (d_var 0) (d_var 1)) af_nil))))) (ss_one (s_ret (d_fn k_abs (by rfl) T.b_abs bt_abs (a_cons (d_var 0) a_nil))))) : PSsD _ _ none [] [] [] [] _ B_common_divisor)
theorem H_common_multiple (T : Fx K mg base) : Has P w K mg base 2 "common_multiple" 2 F_common_multiple := has_of (N := ["one", "two"]) (ps := ["one", "two"]) T.f_common_multiple sc_common_multiple (fun _ _ _ _ _ _ us hl => match us, hl with | [_, _], _ => rfl) fun f cdv A outer s H E hr =>
  ((ss_one (s_ret (d_mul (d_fdiv (d_var 0) (d_own ((H_common_divisor T).mono (by decide)) hr tk_def (a_cons (d_var 0) (a_cons (d_var 1) a_nil)))) (d_var 1)))) : PSsD _ _ none [] [] [] [] _ B_common_multiple)
theorem H_size_of (T : Fx K mg base) : Has P w K mg base 1 "size_of" 1 F_size_of := has_of (N := ["cloth"]) (ps := ["cloth"]) T.f_size_of sc_size_of (fun _ _ _ _ _ _ us hl => match us, hl with | [_], _ => rfl) fun f cdv A outer s H E hr =>
  ((ss_one (s_ret (d_tup (a_cons (d_fn k_len (by rfl) T.b_len bt_len (a_cons (d_var 0) a_nil)) (a_cons (d_fn k_len (by rfl) T.b_len bt_len (a_cons (d_ix (d_var 0) d_int) a_nil)) a_nil))))) : PSsD _ _ none [] [] [] [] _ B_size_of)
theorem H_other_face (T : Fx K mg base) : Has P w K mg base 1 "other_face" 1 F_other_face := has_of (N := ["cloth", "cell", "row"]) (ps := ["cloth"]) T.f_other_face sc_other_face (fun _ _ _ _ _ _ us hl => match us, hl with | [_], _ => rfl) fun f cdv A outer s H E hr =>
  ((ss_one (s_ret (d_ty k_tuple (by rfl) T.b_tuple bt_tuple (a_cons (d_lc (by rfl) sc_other_face.nd (blkOk_by (own := [("row", 2)]) (by rfl)) (by decide) (i_seq (d_var 0)) (fun _ _ _ _ _ => (g_name 2 sc_other_face.nd)) (fun _ _ _ _ _ => ts_nil) (fun _ _ _ _ _ => (d_ty k_tuple (by rfl) T.b_tuple bt_tuple (a_cons (d_lc (by rfl) sc_other_face.nd (blkOk_by (own := [("cell", 1)]) (by rfl)) (by decide) (i_seq (d_var 2)) (fun _ _ _ _ _ => (g_name 1 sc_other_face.nd)) (fun _ _ _ _ _ => ts_nil) (fun _ _ _ _ _ => (d_sub d_int (d_var 1)))) a_nil)))) a_nil)))) : PSsD _ _ none [] [] [] [] _ B_other_face)
theorem H_exchanged (T : Fx K mg base) : Has P w K mg base 1 "exchanged" 1 F_exchanged := has_of (N := ["cloth", "row", "end"]) (ps := ["cloth"]) T.f_exchanged sc_exchanged (fun _ _ _ _ _ _ us hl => match us, hl with | [_], _ => rfl) fun f cdv A outer s H E hr =>
  ((ss_one (s_ret (d_ty k_tuple (by rfl) T.b_tuple bt_tuple (a_cons (d_lc (by rfl) sc_exchanged.nd (blkOk_by (own := [("end", 2)]) (by rfl)) (by decide) (i_rg1 (by rfl) T.b_range (a_cons (d_fn k_len (by rfl) T.b_len bt_len (a_cons (d_ix (d_var 0) d_int) a_nil)) a_nil)) (fun _ _ _ _ _ => (g_name 2 sc_exchanged.nd)) (fun _ _ _ _ _ => ts_nil) (fun _ _ _ _ _ => (d_ty k_tuple (by rfl) T.b_tuple bt_tuple (a_cons (d_lc (by rfl) sc_exchanged.nd (blkOk_by (own := [("row", 1)]) (by rfl)) (by decide) (i_seq (d_var 0)) (fun _ _ _ _ _ => (g_name 1 sc_exchanged.nd)) (fun _ _ _ _ _ => ts_nil) (fun _ _ _ _ _ => (d_sub d_int (d_ix (d_var 1) (d_var 2))))) a_nil)))) a_nil)))) : PSsD _ _ none [] [] [] [] _ B_exchanged)
theorem H_flipped (T : Fx K mg base) : Has P w K mg base 1 "flipped" 1 F_flipped := has_of (N := ["cloth", "row"]) (ps := ["cloth"]) T.f_flipped sc_flipped (fun _ _ _ _ _ _ us hl => match us, hl with | [_], _ => rfl) fun f cdv A outer s H E hr =>
  ((ss_one (s_ret (d_ty k_tuple (by rfl) T.b_tuple bt_tuple (a_cons (d_lc (by rfl) sc_flipped.nd (blkOk_by (own := [("row", 1)]) (by rfl)) (by decide) (i_seq (d_var 0)) (fun _ _ _ _ _ => (g_name 1 sc_flipped.nd)) (fun _ _ _ _ _ => ts_nil) (fun _ _ _ _ _ => (d_sl (d_var 1) o_none o_none (o_some (d_neg d_int))))) a_nil)))) : PSsD _ _ none [] [] [] [] _ B_flipped)
theorem H_upside_down (T : Fx K mg base) : Has P w K mg base 1 "upside_down" 1 F_upside_down := has_of (N := ["cloth"]) (ps := ["cloth"]) T.f_upside_down sc_upside_down (fun _ _ _ _ _ _ us hl => match us, hl with | [_], _ => rfl) fun f cdv A outer s H E hr =>
  ((ss_one (s_ret (d_sl (d_var 0) o_none o_none (o_some (d_neg d_int))))) : PSsD _ _ none [] [] [] [] _ B_upside_down)
theorem H_half_turned (T : Fx K mg base) : Has P w K mg base 2 "half_turned" 1 F_half_turned := has_of (N := ["cloth"]) (ps := ["cloth"]) T.f_half_turned sc_half_turned (fun _ _ _ _ _ _ us hl => match us, hl with | [_], _ => rfl) fun f cdv A outer s H E hr =>
  ((ss_one (s_ret (d_own ((H_upside_down T).mono (by decide)) hr tk_def (a_cons (d_own ((H_flipped T).mono (by decide)) hr tk_def (a_cons (d_var 0) a_nil)) a_nil)))) : PSsD _ _ none [] [] [] [] _ B_half_turned)
theorem H_shifted (T : Fx K mg base) : Has P w K mg base 2 "shifted" 3 F_shifted := has_of (N := ["cloth", "down", "right", "picks", "ends", "end", "pick"]) (ps := ["cloth", "down", "right"]) T.f_shifted sc_shifted (fun _ _ _ _ _ _ us hl => match us, hl with | [_, _, _], _ => rfl) fun f cdv A outer s H E hr =>
  ((ss_cons (s_asg (d_own ((H_size_of T).mono (by decide)) hr tk_def (a_cons (d_var 0) a_nil)) (g_tup2 (by rfl) (g_name 3 sc_shifted.nd) (g_name 4 sc_shifted.nd))) (ss_one (s_ret (d_ty k_tuple (by rfl) T.b_tuple bt_tuple (a_cons (d_lc (by rfl) sc_shifted.nd (blkOk_by (own := [("pick", 6)]) (by rfl)) (by decide) (i_rg1 (by rfl) T.b_range (a_cons (d_var 3) a_nil)) (fun _ _ _ _ _ => (g_name 6 sc_shifted.nd)) (fun _ _ _ _ _ => ts_nil) (fun _ _ _ _ _ => (d_ty k_tuple (by rfl) T.b_tuple bt_tuple (a_cons (d_lc (by rfl) sc_shifted.nd (blkOk_by (own := [("end", 5)]) (by rfl)) (by decide) (i_rg1 (by rfl) T.b_range (a_cons (d_var 4) a_nil)) (fun _ _ _ _ _ => (g_name 5 sc_shifted.nd)) (fun _ _ _ _ _ => ts_nil) (fun _ _ _ _ _ => (d_ix (d_ix (d_var 0) (d_mod (d_sub (d_var 6) (d_var 1)) (d_var 3))) (d_mod (d_sub (d_var 5) (d_var 2)) (d_var 4))))) a_nil)))) a_nil))))) : PSsD _ _ none [] [] [] [] _ B_shifted)
theorem H_repeated (T : Fx K mg base) : Has P w K mg base 1 "repeated" 3 F_repeated := has_of (N := ["cloth", "down", "right", "row"]) (ps := ["cloth", "down", "right"]) T.f_repeated sc_repeated (fun _ _ _ _ _ _ us hl => match us, hl with | [_, _, _], _ => rfl) fun f cdv A outer s H E hr =>
  ((ss_one (s_ret (d_ty k_tuple (by rfl) T.b_tuple bt_tuple (a_cons (d_mul (d_lc (by rfl) sc_repeated.nd (blkOk_by (own := [("row", 3)]) (by rfl)) (by decide) (i_seq (d_var 0)) (fun _ _ _ _ _ => (g_name 3 sc_repeated.nd)) (fun _ _ _ _ _ => ts_nil) (fun _ _ _ _ _ => (d_mul (d_var 3) (d_var 2)))) (d_var 1)) a_nil)))) : PSsD _ _ none [] [] [] [] _ B_repeated)
theorem H_is_period (T : Fx K mg base) : Has P w K mg base 3 "is_period" 3 F_is_period := has_of (N := ["cloth", "down", "right"]) (ps := ["cloth", "down", "right"]) T.f_is_period sc_is_period (fun _ _ _ _ _ _ us hl => match us, hl with | [_, _, _], _ => rfl) fun f cdv A outer s H E hr =>
  ((ss_one (s_ret (d_cmp (c_eq hr) (d_own ((H_shifted T).mono (by decide)) hr tk_def (a_cons (d_var 0) (a_cons (d_var 1) (a_cons (d_var 2) a_nil)))) (d_var 0)))) : PSsD _ _ none [] [] [] [] _ B_is_period)
theorem H_periods_of (T : Fx K mg base) : Has P w K mg base 4 "periods_of" 1 F_periods_of := has_of (N := ["cloth", "picks", "ends", "down", "right"]) (ps := ["cloth"]) T.f_periods_of sc_periods_of (fun _ _ _ _ _ _ us hl => match us, hl with | [_], _ => rfl) fun f cdv A outer s H E hr =>
  ((ss_cons (s_asg (d_own ((H_size_of T).mono (by decide)) hr tk_def (a_cons (d_var 0) a_nil)) (g_tup2 (by rfl) (g_name 1 sc_periods_of.nd) (g_name 2 sc_periods_of.nd))) (ss_one (s_ret (d_lc2 (vs1 := [4]) (by rfl) sc_periods_of.nd (blkOk_by (own := [("down", 3), ("right", 4)]) (by rfl)) (by decide) (by decide) (by decide) (i_rg1 (by rfl) T.b_range (a_cons (d_var 1) a_nil)) (fun _ _ _ _ _ => (g_name 3 sc_periods_of.nd)) (fun _ _ _ _ _ => ts_nil) (fun _ _ _ _ _ => (i_rg1 (by rfl) T.b_range (a_cons (d_var 2) a_nil))) (fun _ _ _ _ _ => (g_name 4 sc_periods_of.nd)) (fun _ _ _ _ _ => (ts_one (t_v (d_own ((H_is_period T).mono (by decide)) hr tk_wf (a_cons (d_var 0) (a_cons (d_var 3) (a_cons (d_var 4) a_nil))))))) (fun _ _ _ _ _ => (d_tup (a_cons (d_var 3) (a_cons (d_var 4) a_nil)))))))) : PSsD _ _ none [] [] [] [] _ B_periods_of)
theorem H_basis_of (T : Fx K mg base) : Has P w K mg base 4 "basis_of" 1 F_basis_of := has_of (N := ["cloth", "picks", "ends", "right", "step", "down", "side"]) (ps := ["cloth"]) T.f_basis_of sc_basis_of (fun _ _ _ _ _ _ us hl => match us, hl with | [_], _ => rfl) fun f cdv A outer s H E hr =>
  ((ss_cons (s_asg (d_own ((H_size_of T).mono (by decide)) hr tk_def (a_cons (d_var 0) a_nil)) (g_tup2 (by rfl) (g_name 1 sc_basis_of.nd) (g_name 2 sc_basis_of.nd))) (ss_cons (s_set 3 sc_basis_of.nd (d_fn (k_min hr (by rfl)) (by rfl) T.b_min bt_min (a_cons (d_lc (by rfl) sc_basis_of.nd (blkOk_by (own := [("step", 4)]) (by rfl)) (by decide) (i_rg2 (by rfl) T.b_range (a_cons d_int (a_cons (d_add (d_var 2) d_int) a_nil))) (fun _ _ _ _ _ => (g_name 4 sc_basis_of.nd)) (fun _ _ _ _ _ => (ts_one (t_v (d_own ((H_is_period T).mono (by decide)) hr tk_wf (a_cons (d_var 0) (a_cons d_int (a_cons (d_var 4) a_nil))))))) (fun _ _ _ _ _ => (d_var 4))) a_nil))) (ss_cons (s_for po_def (by rfl) (i_rg2 (by rfl) T.b_range (a_cons d_int (a_cons (d_add (d_var 1) d_int) a_nil))) (g_name 5 sc_basis_of.nd) (ss_one (s_for po_def (by rfl) (i_rg1 (by rfl) T.b_range (a_cons (d_var 3) a_nil)) (g_name 6 sc_basis_of.nd) (ss_one (s_if (t_v (d_own ((H_is_period T).mono (by decide)) hr tk_def (a_cons (d_var 0) (a_cons (d_var 5) (a_cons (d_var 6) a_nil))))) (ss_one (s_ret (d_tup (a_cons (d_tup (a_cons (d_var 5) (a_cons (d_var 6) a_nil))) (a_cons (d_tup (a_cons d_int (a_cons (d_var 3) a_nil))) a_nil))))) (ss_nil)))))) (ss_one (s_ret (d_tup (a_cons (d_tup (a_cons (d_var 1) (a_cons d_int a_nil))) (a_cons (d_tup (a_cons d_int (a_cons (d_var 3) a_nil))) a_nil)))))))) : PSsD _ _ none [] [] [] [] _ B_basis_of)
theorem H_area_of (T : Fx K mg base) : Has P w K mg base 5 "area_of" 1 F_area_of := has_of (N := ["cloth", "first", "second"]) (ps := ["cloth"]) T.f_area_of sc_area_of (fun _ _ _ _ _ _ us hl => match us, hl with | [_], _ => rfl) fun f cdv A outer s H E hr =>
  ((ss_cons (s_asg (d_own ((H_basis_of T).mono (by decide)) hr tk_def (a_cons (d_var 0) a_nil)) (g_tup2 (by rfl) (g_name 1 sc_area_of.nd) (g_name 2 sc_area_of.nd))) (ss_one (s_ret (d_mul (d_ix (d_var 1) d_int) (d_ix (d_var 2) d_int))))) : PSsD _ _ none [] [] [] [] _ B_area_of)
theorem H_straight_size (T : Fx K mg base) : Has P w K mg base 4 "straight_size" 1 F_straight_size := has_of (N := ["cloth", "picks", "ends", "down", "step", "right"]) (ps := ["cloth"]) T.f_straight_size sc_straight_size (fun _ _ _ _ _ _ us hl => match us, hl with | [_], _ => rfl) fun f cdv A outer s H E hr =>
  ((ss_cons (s_asg (d_own ((H_size_of T).mono (by decide)) hr tk_def (a_cons (d_var 0) a_nil)) (g_tup2 (by rfl) (g_name 1 sc_straight_size.nd) (g_name 2 sc_straight_size.nd))) (ss_cons (s_set 3 sc_straight_size.nd (d_fn (k_min hr (by rfl)) (by rfl) T.b_min bt_min (a_cons (d_lc (by rfl) sc_straight_size.nd (blkOk_by (own := [("step", 4)]) (by rfl)) (by decide) (i_rg2 (by rfl) T.b_range (a_cons d_int (a_cons (d_add (d_var 1) d_int) a_nil))) (fun _ _ _ _ _ => (g_name 4 sc_straight_size.nd)) (fun _ _ _ _ _ => (ts_one (t_v (d_own ((H_is_period T).mono (by decide)) hr tk_wf (a_cons (d_var 0) (a_cons (d_var 4) (a_cons d_int a_nil))))))) (fun _ _ _ _ _ => (d_var 4))) a_nil))) (ss_cons (s_set 5 sc_straight_size.nd (d_fn (k_min hr (by rfl)) (by rfl) T.b_min bt_min (a_cons (d_lc (by rfl) sc_straight_size.nd (blkOk_by (own := [("step", 4)]) (by rfl)) (by decide) (i_rg2 (by rfl) T.b_range (a_cons d_int (a_cons (d_add (d_var 2) d_int) a_nil))) (fun _ _ _ _ _ => (g_name 4 sc_straight_size.nd)) (fun _ _ _ _ _ => (ts_one (t_v (d_own ((H_is_period T).mono (by decide)) hr tk_wf (a_cons (d_var 0) (a_cons d_int (a_cons (d_var 4) a_nil))))))) (fun _ _ _ _ _ => (d_var 4))) a_nil))) (ss_one (s_ret (d_tup (a_cons (d_var 3) (a_cons (d_var 5) a_nil)))))))) : PSsD _ _ none [] [] [] [] _ B_straight_size)
theorem H_least_repeat (T : Fx K mg base) : Has P w K mg base 5 "least_repeat" 1 F_least_repeat := has_of (N := ["cloth", "picks", "ends", "row"]) (ps := ["cloth"]) T.f_least_repeat sc_least_repeat (fun _ _ _ _ _ _ us hl => match us, hl with | [_], _ => rfl) fun f cdv A outer s H E hr =>
  ((ss_cons (s_asg (d_own ((H_straight_size T).mono (by decide)) hr tk_def (a_cons (d_var 0) a_nil)) (g_tup2 (by rfl) (g_name 1 sc_least_repeat.nd) (g_name 2 sc_least_repeat.nd))) (ss_one (s_ret (d_ty k_tuple (by rfl) T.b_tuple bt_tuple (a_cons (d_lc (by rfl) sc_least_repeat.nd (blkOk_by (own := [("row", 3)]) (by rfl)) (by decide) (i_seq (d_sl (d_var 0) o_none (o_some (d_var 1)) o_none)) (fun _ _ _ _ _ => (g_name 3 sc_least_repeat.nd)) (fun _ _ _ _ _ => ts_nil) (fun _ _ _ _ _ => (d_sl (d_var 3) o_none (o_some (d_var 2)) o_none))) a_nil))))) : PSsD _ _ none [] [] [] [] _ B_least_repeat)
theorem H_are_one (T : Fx K mg base) : Has P w K mg base 6 "are_one" 2 F_are_one := has_of (N := ["one", "two"]) (ps := ["one", "two"]) T.f_are_one sc_are_one (fun _ _ _ _ _ _ us hl => match us, hl with | [_, _], _ => rfl) fun f cdv A outer s H E hr =>
  ((ss_one (s_ret (d_cmp (c_eq hr) (d_own ((H_least_repeat T).mono (by decide)) hr tk_def (a_cons (d_var 0) a_nil)) (d_own ((H_least_repeat T).mono (by decide)) hr tk_def (a_cons (d_var 1) a_nil))))) : PSsD _ _ none [] [] [] [] _ B_are_one)
theorem H_moved_first (T : Fx K mg base) : Has P w K mg base 6 "moved_first" 1 F_moved_first := has_of (N := ["cloth", "made", "picks", "ends", "down", "right"]) (ps := ["cloth"]) T.f_moved_first sc_moved_first (fun _ _ _ _ _ _ us hl => match us, hl with | [_], _ => rfl) fun f cdv A outer s H E hr =>
  ((ss_cons (s_set 1 sc_moved_first.nd (d_own ((H_least_repeat T).mono (by decide)) hr tk_def (a_cons (d_var 0) a_nil))) (ss_cons (s_asg (d_own ((H_size_of T).mono (by decide)) hr tk_def (a_cons (d_var 1) a_nil)) (g_tup2 (by rfl) (g_name 2 sc_moved_first.nd) (g_name 3 sc_moved_first.nd))) (ss_one (s_ret (d_fn (k_min hr (by rfl)) (by rfl) T.b_min bt_min (a_cons (d_lc2 (vs1 := [5]) (by rfl) sc_moved_first.nd (blkOk_by (own := [("down", 4), ("right", 5)]) (by rfl)) (by decide) (by decide) (by decide) (i_rg1 (by rfl) T.b_range (a_cons (d_var 2) a_nil)) (fun _ _ _ _ _ => (g_name 4 sc_moved_first.nd)) (fun _ _ _ _ _ => ts_nil) (fun _ _ _ _ _ => (i_rg1 (by rfl) T.b_range (a_cons (d_var 3) a_nil))) (fun _ _ _ _ _ => (g_name 5 sc_moved_first.nd)) (fun _ _ _ _ _ => ts_nil) (fun _ _ _ _ _ => (d_own ((H_shifted T).mono (by decide)) hr tk_wf (a_cons (d_var 1) (a_cons (d_var 4) (a_cons (d_var 5) a_nil)))))) a_nil)))))) : PSsD _ _ none [] [] [] [] _ B_moved_first)
theorem H_are_moved (T : Fx K mg base) : Has P w K mg base 7 "are_moved" 2 F_are_moved := has_of (N := ["one", "two"]) (ps := ["one", "two"]) T.f_are_moved sc_are_moved (fun _ _ _ _ _ _ us hl => match us, hl with | [_, _], _ => rfl) fun f cdv A outer s H E hr =>
  ((ss_one (s_ret (d_cmp (c_eq hr) (d_own ((H_moved_first T).mono (by decide)) hr tk_def (a_cons (d_var 0) a_nil)) (d_own ((H_moved_first T).mono (by decide)) hr tk_def (a_cons (d_var 1) a_nil))))) : PSsD _ _ none [] [] [] [] _ B_are_moved)
theorem H_move_between (T : Fx K mg base) : Has P w K mg base 6 "move_between" 2 F_move_between := has_of (N := ["one", "two", "first", "second", "picks", "ends", "down", "right"]) (ps := ["one", "two"]) T.f_move_between sc_move_between (fun _ _ _ _ _ _ us hl => match us, hl with | [_, _], _ => rfl) fun f cdv A outer s H E hr =>
  ((ss_cons (s_par 2 3 (by rfl) sc_move_between.nd (af_pl (d_own ((H_least_repeat T).mono (by decide)) hr tk_def (a_cons (d_var 0) a_nil)) (af_pl (d_own ((H_least_repeat T).mono (by decide)) hr tk_def (a_cons (d_var 1) a_nil)) af_nil))) (ss_cons (s_if (t_cmp (c_ne hr) (d_own ((H_size_of T).mono (by decide)) hr tk_def (a_cons (d_var 2) a_nil)) (d_own ((H_size_of T).mono (by decide)) hr tk_def (a_cons (d_var 3) a_nil))) (ss_one (s_ret d_non)) (ss_nil)) (ss_cons (s_asg (d_own ((H_size_of T).mono (by decide)) hr tk_def (a_cons (d_var 2) a_nil)) (g_tup2 (by rfl) (g_name 4 sc_move_between.nd) (g_name 5 sc_move_between.nd))) (ss_cons (s_for po_def (by rfl) (i_rg1 (by rfl) T.b_range (a_cons (d_var 4) a_nil)) (g_name 6 sc_move_between.nd) (ss_one (s_for po_def (by rfl) (i_rg1 (by rfl) T.b_range (a_cons (d_var 5) a_nil)) (g_name 7 sc_move_between.nd) (ss_one (s_if (t_cmp (c_eq hr) (d_own ((H_shifted T).mono (by decide)) hr tk_def (a_cons (d_var 2) (a_cons (d_var 6) (a_cons (d_var 7) a_nil)))) (d_var 3)) (ss_one (s_ret (d_tup (a_cons (d_var 6) (a_cons (d_var 7) a_nil))))) (ss_nil)))))) (ss_one (s_ret d_non)))))) : PSsD _ _ none [] [] [] [] _ B_move_between)
theorem H_common_size (T : Fx K mg base) : Has P w K mg base 5 "common_size" 2 F_common_size := has_of (N := ["one", "two", "first", "second"]) (ps := ["one", "two"]) T.f_common_size sc_common_size (fun _ _ _ _ _ _ us hl => match us, hl with | [_, _], _ => rfl) fun f cdv A outer s H E hr =>
  ((ss_cons (s_par 2 3 (by rfl) sc_common_size.nd (af_pl (d_own ((H_straight_size T).mono (by decide)) hr tk_def (a_cons (d_var 0) a_nil)) (af_pl (d_own ((H_straight_size T).mono (by decide)) hr tk_def (a_cons (d_var 1) a_nil)) af_nil))) (ss_one (s_ret (d_tup (a_cons (d_own ((H_common_multiple T).mono (by decide)) hr tk_def (a_cons (d_ix (d_var 2) d_int) (a_cons (d_ix (d_var 3) d_int) a_nil))) (a_cons (d_own ((H_common_multiple T).mono (by decide)) hr tk_def (a_cons (d_ix (d_var 2) d_int) (a_cons (d_ix (d_var 3) d_int) a_nil))) a_nil)))))) : PSsD _ _ none [] [] [] [] _ B_common_size)
theorem H_places_alike (T : Fx K mg base) : Has P w K mg base 5 "places_alike" 2 F_places_alike := has_of (N := ["cloth", "place", "picks", "ends", "down", "right"]) (ps := ["cloth", "place"]) T.f_places_alike sc_places_alike (fun _ _ _ _ _ _ us hl => match us, hl with | [_, _], _ => rfl) fun f cdv A outer s H E hr =>
  ((ss_cons (s_asg (d_own ((H_size_of T).mono (by decide)) hr tk_def (a_cons (d_var 0) a_nil)) (g_tup2 (by rfl) (g_name 2 sc_places_alike.nd) (g_name 3 sc_places_alike.nd))) (ss_one (s_ret (d_fn (k_sorted hr (by rfl)) (by rfl) T.b_sorted bt_sorted (a_cons (d_lc (by rfl) sc_places_alike.nd (blkOk_by (own := [("down", 4), ("right", 5)]) (by rfl)) (by decide) (i_seq (d_own ((H_periods_of T).mono (by decide)) hr tk_def (a_cons (d_var 0) a_nil))) (fun _ _ _ _ _ => (g_tup2 (by rfl) (g_name 4 sc_places_alike.nd) (g_name 5 sc_places_alike.nd))) (fun _ _ _ _ _ => ts_nil) (fun _ _ _ _ _ => (d_tup (a_cons (d_mod (d_add (d_ix (d_var 1) d_int) (d_var 4)) (d_var 2)) (a_cons (d_mod (d_add (d_ix (d_var 1) d_int) (d_var 5)) (d_var 3)) a_nil))))) a_nil))))) : PSsD _ _ none [] [] [] [] _ B_places_alike)
theorem H_counts_of_columns (T : Fx K mg base) : Has P w K mg base 1 "counts_of_columns" 1 F_counts_of_columns := has_of (N := ["cloth", "columns", "row", "end"]) (ps := ["cloth"]) T.f_counts_of_columns sc_counts_of_columns (fun _ _ _ _ _ _ us hl => match us, hl with | [_], _ => rfl) fun f cdv A outer s H E hr =>
  ((ss_cons (s_setDc 1 hr (by rfl) sc_counts_of_columns.nd (blkOk_by (own := [("end", 3)]) (by rfl)) (by decide) (i_rg1 (by rfl) T.b_range (a_cons (d_fn k_len (by rfl) T.b_len bt_len (a_cons (d_ix (d_var 0) d_int) a_nil)) a_nil)) (fun _ _ _ _ _ => (g_name 3 sc_counts_of_columns.nd)) (fun _ _ _ _ _ => ts_nil) (fun _ _ _ _ _ => (d_ty k_tuple (by rfl) T.b_tuple bt_tuple (a_cons (d_lc (by rfl) sc_counts_of_columns.nd (blkOk_by (own := [("row", 2)]) (by rfl)) (by decide) (i_seq (d_var 0)) (fun _ _ _ _ _ => (g_name 2 sc_counts_of_columns.nd)) (fun _ _ _ _ _ => ts_nil) (fun _ _ _ _ _ => (d_ix (d_var 2) (d_var 3)))) a_nil))) (fun _ _ _ _ _ => d_bl)) (ss_one (s_ret (d_tup (a_cons (d_fn k_lenA (by rfl) T.b_len bt_len (a_cons (d_var 1) a_nil)) (a_cons (d_fn k_lenA (by rfl) T.b_len bt_len (a_cons (d_dc hr (by rfl) sc_counts_of_columns.nd (blkOk_by (own := [("row", 2)]) (by rfl)) (by decide) (i_seq (d_var 0)) (fun _ _ _ _ _ => (g_name 2 sc_counts_of_columns.nd)) (fun _ _ _ _ _ => ts_nil) (fun _ _ _ _ _ => (d_var 2)) (fun _ _ _ _ _ => d_bl)) a_nil)) a_nil)))))) : PSsD _ _ none [] [] [] [] _ B_counts_of_columns)
theorem H_moved_row (T : Fx K mg base) : Has P w K mg base 1 "moved_row" 2 F_moved_row := has_of (N := ["row", "right", "many", "place"]) (ps := ["row", "right"]) T.f_moved_row sc_moved_row (fun _ _ _ _ _ _ us hl => match us, hl with | [_, _], _ => rfl) fun f cdv A outer s H E hr =>
  ((ss_cons (s_set 2 sc_moved_row.nd (d_fn k_len (by rfl) T.b_len bt_len (a_cons (d_var 0) a_nil))) (ss_one (s_ret (d_ty k_tuple (by rfl) T.b_tuple bt_tuple (a_cons (d_lc (by rfl) sc_moved_row.nd (blkOk_by (own := [("place", 3)]) (by rfl)) (by decide) (i_rg1 (by rfl) T.b_range (a_cons (d_var 2) a_nil)) (fun _ _ _ _ _ => (g_name 3 sc_moved_row.nd)) (fun _ _ _ _ _ => ts_nil) (fun _ _ _ _ _ => (d_ix (d_var 0) (d_mod (d_sub (d_var 3) (d_var 1)) (d_var 2))))) a_nil))))) : PSsD _ _ none [] [] [] [] _ B_moved_row)
theorem H_step_of (T : Fx K mg base) : Has P w K mg base 3 "step_of" 1 F_step_of := has_ofG (N := ["cloth", "ends", "right", "pick"]) (ps := ["cloth"]) T.f_step_of sc_step_of (fun _ _ _ _ _ _ us hl => match us, hl with | [_], _ => rfl) fun f cdv hG A outer s H E hr =>
  ((ss_cons (s_set 1 sc_step_of.nd (d_fn k_len (by rfl) T.b_len bt_len (a_cons (d_ix (d_var 0) d_int) a_nil))) (ss_cons (s_for po_def (by rfl) (i_rg1 (by rfl) T.b_range (a_cons (d_var 1) a_nil)) (g_name 2 sc_step_of.nd) (ss_one (s_if (t_v (d_all1 hr (by rfl) ⟨hG⟩ sc_step_of.nd (blkOk_by (own := [("pick", 3)]) (by rfl)) ⟨rfl, rfl, by decide⟩ (by decide) (by rfl) T.b_all (i_rg1 (by rfl) T.b_range (a_cons (d_fn k_len (by rfl) T.b_len bt_len (a_cons (d_var 0) a_nil)) a_nil)) (fun _ _ _ _ _ _ _ _ hr => (g_name 3 sc_step_of.nd)) (fun _ _ _ _ _ _ _ _ hr => ts_nil) (fun _ _ _ _ _ _ _ _ hr => (d_cmp (c_eq hr) (d_own ((H_moved_row T).mono (by decide)) hr tk_wf (a_cons (d_ix (d_var 0) (d_sub (d_var 3) d_int)) (a_cons (d_var 2) a_nil))) (d_ix (d_var 0) (d_var 3)))))) (ss_one (s_ret (d_var 2))) (ss_nil)))) (ss_one (s_ret d_non)))) : PSsD _ _ none [] [] [] [] _ B_step_of)
theorem H_from_step (T : Fx K mg base) : Has P w K mg base 2 "from_step" 3 F_from_step := has_of (N := ["row", "right", "picks", "pick"]) (ps := ["row", "right", "picks"]) T.f_from_step sc_from_step (fun _ _ _ _ _ _ us hl => match us, hl with | [_, _, _], _ => rfl) fun f cdv A outer s H E hr =>
  ((ss_one (s_ret (d_ty k_tuple (by rfl) T.b_tuple bt_tuple (a_cons (d_lc (by rfl) sc_from_step.nd (blkOk_by (own := [("pick", 3)]) (by rfl)) (by decide) (i_rg1 (by rfl) T.b_range (a_cons (d_var 2) a_nil)) (fun _ _ _ _ _ => (g_name 3 sc_from_step.nd)) (fun _ _ _ _ _ => ts_nil) (fun _ _ _ _ _ => (d_own ((H_moved_row T).mono (by decide)) hr tk_wf (a_cons (d_var 0) (a_cons (d_mul (d_var 1) (d_var 3)) a_nil))))) a_nil)))) : PSsD _ _ none [] [] [] [] _ B_from_step)
theorem H_closing_picks (T : Fx K mg base) : Has P w K mg base 2 "closing_picks" 2 F_closing_picks := has_of (N := ["row", "right", "many", "picks"]) (ps := ["row", "right"]) T.f_closing_picks sc_closing_picks (fun _ _ _ _ _ _ us hl => match us, hl with | [_, _], _ => rfl) fun f cdv A outer s H E hr =>
  ((ss_cons (s_set 2 sc_closing_picks.nd (d_fn k_len (by rfl) T.b_len bt_len (a_cons (d_var 0) a_nil))) (ss_cons (s_set 3 sc_closing_picks.nd d_int) (ss_cons (s_while 1000000000000 po_def (t_cmp (c_ne hr) (d_own ((H_moved_row T).mono (by decide)) hr tk_def (a_cons (d_var 0) (a_cons (d_mul (d_var 1) (d_var 3)) a_nil))) (d_var 0)) (ss_one (s_aug 3 sc_closing_picks.nd ipk_add d_int))) (ss_one (s_ret (d_var 3)))))) : PSsD _ _ none [] [] [] [] _ B_closing_picks)
theorem H_turned (T : Fx K mg base) : Has P w K mg base 3 "turned" 2 F_turned := has_of (N := ["cloth", "word"]) (ps := ["cloth", "word"]) T.f_turned sc_turned (fun _ _ _ _ _ _ us hl => match us, hl with | [_, _], _ => rfl) fun f cdv A outer s H E hr =>
  ((ss_cons (s_if (t_cmp (c_eq hr) (d_var 1) d_str) (ss_one (s_ret (d_var 0))) (ss_nil)) (ss_cons (s_if (t_cmp (c_eq hr) (d_var 1) d_str) (ss_one (s_ret (d_own ((H_flipped T).mono (by decide)) hr tk_def (a_cons (d_var 0) a_nil)))) (ss_nil)) (ss_cons (s_if (t_cmp (c_eq hr) (d_var 1) d_str) (ss_one (s_ret (d_own ((H_upside_down T).mono (by decide)) hr tk_def (a_cons (d_var 0) a_nil)))) (ss_nil)) (ss_cons (s_if (t_cmp (c_eq hr) (d_var 1) d_str) (ss_one (s_ret (d_own ((H_half_turned T).mono (by decide)) hr tk_def (a_cons (d_var 0) a_nil)))) (ss_nil)) (ss_cons (s_if (t_cmp (c_eq hr) (d_var 1) d_str) (ss_one (s_ret (d_own ((H_exchanged T).mono (by decide)) hr tk_def (a_cons (d_var 0) a_nil)))) (ss_nil)) (ss_cons (s_if (t_cmp (c_eq hr) (d_var 1) d_str) (ss_one (s_ret (d_own ((H_flipped T).mono (by decide)) hr tk_def (a_cons (d_own ((H_exchanged T).mono (by decide)) hr tk_def (a_cons (d_var 0) a_nil)) a_nil)))) (ss_nil)) (ss_cons (s_if (t_cmp (c_eq hr) (d_var 1) d_str) (ss_one (s_ret (d_own ((H_upside_down T).mono (by decide)) hr tk_def (a_cons (d_own ((H_exchanged T).mono (by decide)) hr tk_def (a_cons (d_var 0) a_nil)) a_nil)))) (ss_nil)) (ss_one (s_ret (d_own ((H_half_turned T).mono (by decide)) hr tk_def (a_cons (d_own ((H_exchanged T).mono (by decide)) hr tk_def (a_cons (d_var 0) a_nil)) a_nil))))))))))) : PSsD _ _ none [] [] [] [] _ B_turned)
theorem H_followed (T : Fx K mg base) : Has P w K mg base 4 "followed" 2 F_followed := has_of (N := ["one", "two", "probe", "made", "word"]) (ps := ["one", "two"]) T.f_followed sc_followed (fun _ _ _ _ _ _ us hl => match us, hl with | [_, _], _ => rfl) fun f cdv A outer s H E hr =>
  ((ss_cons (s_set 2 sc_followed.nd (d_tup (a_cons (d_tup (a_cons d_int (a_cons d_int (a_cons d_int a_nil)))) (a_cons (d_tup (a_cons d_int (a_cons d_int (a_cons d_int a_nil)))) a_nil)))) (ss_cons (s_set 3 sc_followed.nd (d_own ((H_turned T).mono (by decide)) hr tk_def (a_cons (d_own ((H_turned T).mono (by decide)) hr tk_def (a_cons (d_var 2) (a_cons (d_var 0) a_nil))) (a_cons (d_var 1) a_nil)))) (ss_cons (s_for po_def (by rfl) (i_seq (d_gt T.c_WORDS)) (g_name 4 sc_followed.nd) (ss_one (s_if (t_cmp (c_eq hr) (d_own ((H_turned T).mono (by decide)) hr tk_def (a_cons (d_var 2) (a_cons (d_var 4) a_nil))) (d_var 3)) (ss_one (s_ret (d_var 4))) (ss_nil)))) (ss_one (s_ret d_non))))) : PSsD _ _ none [] [] [] [] _ B_followed)
theorem H_symmetries_of (T : Fx K mg base) : Has P w K mg base 7 "symmetries_of" 1 F_symmetries_of := has_of (N := ["cloth", "made", "wanted", "found", "word", "one", "face"]) (ps := ["cloth"]) T.f_symmetries_of sc_symmetries_of (fun _ _ _ _ _ _ us hl => match us, hl with | [_], _ => rfl) fun f cdv A outer s H E hr =>
  ((ss_cons (s_set 1 sc_symmetries_of.nd (d_own ((H_least_repeat T).mono (by decide)) hr tk_def (a_cons (d_var 0) a_nil))) (ss_cons (s_set 2 sc_symmetries_of.nd (d_own ((H_moved_first T).mono (by decide)) hr tk_def (a_cons (d_var 1) a_nil))) (ss_cons (s_own 3 sc_symmetries_of.nd (f_lst a_nil)) (ss_cons (s_for po_def (by rfl) (i_seq (d_gt T.c_WORDS)) (g_name 4 sc_symmetries_of.nd) (ss_cons (s_set 5 sc_symmetries_of.nd (d_own ((H_turned T).mono (by decide)) hr tk_def (a_cons (d_var 1) (a_cons (d_var 4) a_nil)))) (ss_one (s_for po_def (by rfl) (i_seq (d_tup (a_cons d_int (a_cons d_int a_nil)))) (g_name 6 sc_symmetries_of.nd) (ss_one (s_if (t_cmp (c_eq hr) (d_own ((H_moved_first T).mono (by decide)) hr tk_def (a_cons (d_if (t_v (d_var 6)) (d_own ((H_other_face T).mono (by decide)) hr tk_def (a_cons (d_var 5) a_nil)) (d_var 5)) a_nil)) (d_var 2)) (ss_one (s_app 3 (d_tup (a_cons (d_var 4) (a_cons (d_var 6) a_nil))))) (ss_nil))))))) (ss_one (s_ret (d_var 3))))))) : PSsD _ _ none [] [] [] [] _ B_symmetries_of)
theorem H_moves_for (T : Fx K mg base) : Has P w K mg base 6 "moves_for" 3 F_moves_for := has_of (N := ["cloth", "word", "face", "made", "one", "picks", "ends", "down", "right"]) (ps := ["cloth", "word", "face"]) T.f_moves_for sc_moves_for (fun _ _ _ _ _ _ us hl => match us, hl with | [_, _, _], _ => rfl) fun f cdv A outer s H E hr =>
  ((ss_cons (s_set 3 sc_moves_for.nd (d_own ((H_least_repeat T).mono (by decide)) hr tk_def (a_cons (d_var 0) a_nil))) (ss_cons (s_set 4 sc_moves_for.nd (d_own ((H_turned T).mono (by decide)) hr tk_def (a_cons (d_var 3) (a_cons (d_var 1) a_nil)))) (ss_cons (s_set 4 sc_moves_for.nd (d_if (t_v (d_var 2)) (d_own ((H_other_face T).mono (by decide)) hr tk_def (a_cons (d_var 4) a_nil)) (d_var 4))) (ss_cons (s_if (t_cmp (c_ne hr) (d_own ((H_size_of T).mono (by decide)) hr tk_def (a_cons (d_var 4) a_nil)) (d_own ((H_size_of T).mono (by decide)) hr tk_def (a_cons (d_var 3) a_nil))) (ss_one (s_ret (d_lst a_nil))) (ss_nil)) (ss_cons (s_asg (d_own ((H_size_of T).mono (by decide)) hr tk_def (a_cons (d_var 3) a_nil)) (g_tup2 (by rfl) (g_name 5 sc_moves_for.nd) (g_name 6 sc_moves_for.nd))) (ss_one (s_ret (d_lc2 (vs1 := [8]) (by rfl) sc_moves_for.nd (blkOk_by (own := [("down", 7), ("right", 8)]) (by rfl)) (by decide) (by decide) (by decide) (i_rg1 (by rfl) T.b_range (a_cons (d_var 5) a_nil)) (fun _ _ _ _ _ => (g_name 7 sc_moves_for.nd)) (fun _ _ _ _ _ => ts_nil) (fun _ _ _ _ _ => (i_rg1 (by rfl) T.b_range (a_cons (d_var 6) a_nil))) (fun _ _ _ _ _ => (g_name 8 sc_moves_for.nd)) (fun _ _ _ _ _ => (ts_one (t_cmp (c_eq hr) (d_own ((H_shifted T).mono (by decide)) hr tk_wf (a_cons (d_var 4) (a_cons (d_var 7) (a_cons (d_var 8) a_nil)))) (d_var 3)))) (fun _ _ _ _ _ => (d_tup (a_cons (d_var 7) (a_cons (d_var 8) a_nil)))))))))))) : PSsD _ _ none [] [] [] [] _ B_moves_for)
theorem H_first_form (T : Fx K mg base) : Has P w K mg base 7 "first_form" 1 F_first_form := has_of (N := ["cloth", "made", "rows", "word", "one"]) (ps := ["cloth"]) T.f_first_form sc_first_form (fun _ _ _ _ _ _ us hl => match us, hl with | [_], _ => rfl) fun f cdv A outer s H E hr =>
  ((ss_cons (s_set 1 sc_first_form.nd (d_own ((H_least_repeat T).mono (by decide)) hr tk_def (a_cons (d_var 0) a_nil))) (ss_cons (s_own 2 sc_first_form.nd (f_lst a_nil)) (ss_cons (s_for po_def (by rfl) (i_seq (d_gt T.c_WORDS)) (g_name 3 sc_first_form.nd) (ss_cons (s_set 4 sc_first_form.nd (d_own ((H_turned T).mono (by decide)) hr tk_def (a_cons (d_var 1) (a_cons (d_var 3) a_nil)))) (ss_one (s_ext 2 (d_lst (a_cons (d_own ((H_moved_first T).mono (by decide)) hr tk_def (a_cons (d_var 4) a_nil)) (a_cons (d_own ((H_moved_first T).mono (by decide)) hr tk_def (a_cons (d_own ((H_other_face T).mono (by decide)) hr tk_def (a_cons (d_var 4) a_nil)) a_nil)) a_nil))))))) (ss_one (s_ret (d_fn (k_min hr (by rfl)) (by rfl) T.b_min bt_min (a_cons (d_var 2) a_nil))))))) : PSsD _ _ none [] [] [] [] _ B_first_form)
theorem H_are_one_kind (T : Fx K mg base) : Has P w K mg base 8 "are_one_kind" 2 F_are_one_kind := has_of (N := ["one", "two"]) (ps := ["one", "two"]) T.f_are_one_kind sc_are_one_kind (fun _ _ _ _ _ _ us hl => match us, hl with | [_, _], _ => rfl) fun f cdv A outer s H E hr =>
  ((ss_one (s_ret (d_cmp (c_eq hr) (d_own ((H_first_form T).mono (by decide)) hr tk_def (a_cons (d_var 0) a_nil)) (d_own ((H_first_form T).mono (by decide)) hr tk_def (a_cons (d_var 1) a_nil))))) : PSsD _ _ none [] [] [] [] _ B_are_one_kind)
theorem H_is_alike_behind (T : Fx K mg base) : Has P w K mg base 8 "is_alike_behind" 1 F_is_alike_behind := has_of (N := ["cloth"]) (ps := ["cloth"]) T.f_is_alike_behind sc_is_alike_behind (fun _ _ _ _ _ _ us hl => match us, hl with | [_], _ => rfl) fun f cdv A outer s H E hr =>
  ((ss_one (s_ret (d_cmp (c_inA hr) (d_tup (a_cons d_str (a_cons d_int a_nil))) (d_own ((H_symmetries_of T).mono (by decide)) hr tk_def (a_cons (d_var 0) a_nil))))) : PSsD _ _ none [] [] [] [] _ B_is_alike_behind)
theorem H_is_swappable (T : Fx K mg base) : Has P w K mg base 9 "is_swappable" 1 F_is_swappable := has_ofG (N := ["cloth", "word", "_"]) (ps := ["cloth"]) T.f_is_swappable sc_is_swappable (fun _ _ _ _ _ _ us hl => match us, hl with | [_], _ => rfl) fun f cdv hG A outer s H E hr =>
  ((ss_one (s_ret (d_any1 hr (by rfl) ⟨hG⟩ sc_is_swappable.nd (blkOk_by (own := [("word", 1), ("_", 2)]) (by rfl)) ⟨rfl, rfl, by decide⟩ (by decide) (by rfl) T.b_any (i_seq (d_own ((H_symmetries_of T).mono (by decide)) hr tk_def (a_cons (d_var 0) a_nil))) (fun _ _ _ _ _ _ _ _ hr => (g_tup2 (by rfl) (g_name 1 sc_is_swappable.nd) (g_name 2 sc_is_swappable.nd))) (fun _ _ _ _ _ _ _ _ hr => ts_nil) (fun _ _ _ _ _ _ _ _ hr => (d_cmp (c_inA hr) (d_var 1) (d_tup (a_cons d_str (a_cons d_str (a_cons d_str (a_cons d_str a_nil)))))))))) : PSsD _ _ none [] [] [] [] _ B_is_swappable)
theorem H_count_symmetries (T : Fx K mg base) : Has P w K mg base 8 "count_symmetries" 1 F_count_symmetries := has_of (N := ["cloth"]) (ps := ["cloth"]) T.f_count_symmetries sc_count_symmetries (fun _ _ _ _ _ _ us hl => match us, hl with | [_], _ => rfl) fun f cdv A outer s H E hr =>
  ((ss_one (s_ret (d_fn k_len (by rfl) T.b_len bt_len (a_cons (d_own ((H_symmetries_of T).mono (by decide)) hr tk_def (a_cons (d_var 0) a_nil)) a_nil)))) : PSsD _ _ none [] [] [] [] _ B_count_symmetries)
theorem H__law_draw (T : Fx K mg base) : Has P w K mg base 1 "_law_draw" 2 F__law_draw := has_draw (Ns := ["position", "cell", "mixed", "digit"]) T.f__law_draw sc__law_draw (fun _ _ _ _ _ _ us hl => match us, hl with | [_, _], _ => rfl) fun f cdv A outer s H E hr =>
  (dr_cons (dr_if (t_cmp (c_lt hr) (d_ix (d_var 0) d_int) (d_var 1))
      (dr_cons (dr_set 2 sc__law_draw.nd (d_ix (d_var 0) d_int)) (dr_cons (dr_sto 1 (d_add (d_var 2) d_int)) (dr_cons (dr_set 3 sc__law_draw.nd d_int)
        (dr_cons (dr_if (t_cmp (c_lt hr) (d_var 2) (d_fn k_len (by rfl) T.b_len bt_len (a_cons (d_ix (d_var 0) d_int) a_nil))) (dr_cons (dr_set 3 sc__law_draw.nd (d_ix (d_ix (d_var 0) d_int) (d_var 2))) dr_nil) dr_nil)
        (dr_cons (dr_if (t_cmp c_ge (d_var 3) (d_pow d_int d_int)) (dr_cons (dr_sto 0 (d_var 3)) dr_nil)
          (dr_cons (dr_sto 3 (d_mod (d_ty k_int (by rfl) T.b_int bt_int (a_cons (d_mul (d_add (d_add (d_add (d_ix (d_var 0) d_int) (d_mod (d_ty k_int (by rfl) T.b_int bt_int (a_cons (d_var 3) a_nil)) d_int)) (d_var 2)) d_int) d_int) a_nil)) d_int))
          (dr_cons (dr_set 4 sc__law_draw.nd (d_mod (d_ty k_int (by rfl) T.b_int bt_int (a_cons (d_add (d_mul (d_ix (d_var 0) d_int) d_int) d_int) a_nil)) d_int))
          (dr_cons (dr_sto 0 (d_add (d_mul (d_var 4) d_int) (d_mod (d_ty k_int (by rfl) T.b_int bt_int (a_cons (d_add (d_mul (d_var 4) d_int) (d_ix (d_var 0) d_int)) a_nil)) d_int))) dr_nil)))) dr_nil)))))
      dr_nil)
    (dr_cons (dr_set 5 sc__law_draw.nd (d_mod (d_ty k_int (by rfl) T.b_int bt_int (a_cons (d_ix (d_var 0) d_int) a_nil)) (d_var 1)))
    (dr_cons (dr_sto 0 (d_fdiv (d_ix (d_var 0) d_int) (d_var 1)))
    (dr_cons (dr_ret (d_var 5)) dr_nil))) : PDsD _ _ B__law_draw)

theorem H__law_cloth (T : Fx K mg base) : Has P w K mg base 2 "_law_cloth" 3 F__law_cloth := has_of (N := ["state", "picks", "ends", "end", "pick"]) (ps := ["state", "picks", "ends"]) T.f__law_cloth sc__law_cloth (fun _ _ _ _ _ _ us hl => match us, hl with | [_, _, _], _ => rfl) fun f cdv A outer s H E hr =>
  ((ss_one (s_ret (d_ty k_tuple (by rfl) T.b_tuple bt_tuple (a_cons (d_lc (by rfl) sc__law_cloth.nd (blkOk_by (own := [("pick", 4)]) (by rfl)) (by decide) (i_rg1 (by rfl) T.b_range (a_cons (d_var 1) a_nil)) (fun _ _ _ _ _ => (g_name 4 sc__law_cloth.nd)) (fun _ _ _ _ _ => ts_nil) (fun _ _ _ _ _ => (d_ty k_tuple (by rfl) T.b_tuple bt_tuple (a_cons (d_lc (by rfl) sc__law_cloth.nd (blkOk_by (own := [("end", 3)]) (by rfl)) (by decide) (i_rg1 (by rfl) T.b_range (a_cons (d_var 2) a_nil)) (fun _ _ _ _ _ => (g_name 3 sc__law_cloth.nd)) (fun _ _ _ _ _ => ts_nil) (fun _ _ _ _ _ => (d_own ((H__law_draw T).mono (by decide)) hr tk_wf (a_cons (d_var 0) (a_cons d_int a_nil))))) a_nil)))) a_nil)))) : PSsD _ _ none [] [] [] [] _ B__law_cloth)
theorem H__law_same (T : Fx K mg base) : Has P w K mg base 1 "_law_same" 2 F__law_same := has_of (N := ["told", "due"]) (ps := ["told", "due"]) T.f__law_same sc__law_same (fun _ _ _ _ _ _ us hl => match us, hl with | [_, _], _ => rfl) fun f cdv A outer s H E hr =>
  ((ss_one (s_ret (d_and (d_cmp (c_eq hr) (d_cmp (c_is) (d_var 0) d_bl) (d_var 1)) (d_one (d_cmp (c_ne hr) (d_cmp (c_is) (d_var 0) d_bl) (d_var 1)))))) : PSsD _ _ none [] [] [] [] _ B__law_same)
theorem H__law_words (T : Fx K mg base) : Has P w K mg base 1 "_law_words" 0 F__law_words := has_of (N := []) (ps := []) T.f__law_words sc__law_words (fun _ _ _ _ _ _ us hl => match us, hl with | [], _ => rfl) fun f cdv A outer s H E hr =>
  ((ss_one (s_ret (d_lst (a_cons d_str (a_cons d_str (a_cons d_str (a_cons d_str (a_cons d_str (a_cons d_str (a_cons d_str (a_cons d_str a_nil))))))))))) : PSsD _ _ none [] [] [] [] _ B__law_words)
theorem H__law_repeats (T : Fx K mg base) : Has P w K mg base 8 "_law_repeats" 2 F__law_repeats := has_of (N := ["state", "one", "picks", "ends", "down", "right", "wide", "moved", "least", "first", "second", "periods", "due", "a", "b", "code", "step", "made", "place", "alike", "p", "e", "told", "other"]) (ps := ["state", "one"]) T.f__law_repeats sc__law_repeats (fun _ _ _ _ _ _ us hl => match us, hl with | [_, _], _ => rfl) fun f cdv A outer s H E hr =>
  ((ss_cons (s_asg (d_own ((H_size_of T).mono (by decide)) hr tk_def (a_cons (d_var 1) a_nil)) (g_tup2 (by rfl) (g_name 2 sc__law_repeats.nd) (g_name 3 sc__law_repeats.nd))) (ss_cons (s_set 4 sc__law_repeats.nd (d_own ((H__law_draw T).mono (by decide)) hr tk_def (a_cons (d_var 0) (a_cons d_int a_nil)))) (ss_cons (s_set 5 sc__law_repeats.nd (d_own ((H__law_draw T).mono (by decide)) hr tk_def (a_cons (d_var 0) (a_cons d_int a_nil)))) (ss_cons (s_set 6 sc__law_repeats.nd (d_own ((H_repeated T).mono (by decide)) hr tk_def (a_cons (d_var 1) (a_cons (d_add d_int (d_own ((H__law_draw T).mono (by decide)) hr tk_def (a_cons (d_var 0) (a_cons d_int a_nil)))) (a_cons (d_add d_int (d_own ((H__law_draw T).mono (by decide)) hr tk_def (a_cons (d_var 0) (a_cons d_int a_nil)))) a_nil))))) (ss_cons (s_set 7 sc__law_repeats.nd (d_own ((H_shifted T).mono (by decide)) hr tk_def (a_cons (d_var 1) (a_cons (d_var 4) (a_cons (d_var 5) a_nil))))) (ss_cons (s_set 8 sc__law_repeats.nd (d_own ((H_least_repeat T).mono (by decide)) hr tk_def (a_cons (d_var 1) a_nil))) (ss_cons (s_if (w_or (t_cmp (c_ne hr) (d_own ((H_least_repeat T).mono (by decide)) hr tk_def (a_cons (d_var 6) a_nil)) (d_var 8)) (w_or (t_not (t_v (d_own ((H__law_same T).mono (by decide)) hr tk_def (a_cons (d_own ((H_are_one T).mono (by decide)) hr tk_def (a_cons (d_var 1) (a_cons (d_var 6) a_nil))) (a_cons d_bl a_nil))))) (w_or (t_cmp (c_ne hr) (d_own ((H_basis_of T).mono (by decide)) hr tk_def (a_cons (d_var 6) a_nil)) (d_own ((H_basis_of T).mono (by decide)) hr tk_def (a_cons (d_var 1) a_nil))) (w_or1 (t_cmp (c_ne hr) (d_own ((H_area_of T).mono (by decide)) hr tk_def (a_cons (d_var 7) a_nil)) (d_own ((H_area_of T).mono (by decide)) hr tk_def (a_cons (d_var 1) a_nil))))))).ptd (ss_one (s_ret d_bl)) (ss_nil)) (ss_cons (s_if (w_or (t_cmp (c_ne hr) (d_own ((H_basis_of T).mono (by decide)) hr tk_def (a_cons (d_var 7) a_nil)) (d_own ((H_basis_of T).mono (by decide)) hr tk_def (a_cons (d_var 1) a_nil))) (w_or1 (t_cmp (c_ne hr) (d_own ((H_straight_size T).mono (by decide)) hr tk_def (a_cons (d_var 1) a_nil)) (d_own ((H_size_of T).mono (by decide)) hr tk_def (a_cons (d_var 8) a_nil))))).ptd (ss_one (s_ret d_bl)) (ss_nil)) (ss_cons (s_asg (d_own ((H_basis_of T).mono (by decide)) hr tk_def (a_cons (d_var 1) a_nil)) (g_tup2 (by rfl) (g_name 9 sc__law_repeats.nd) (g_name 10 sc__law_repeats.nd))) (ss_cons (s_set 11 sc__law_repeats.nd (d_own ((H_periods_of T).mono (by decide)) hr tk_def (a_cons (d_var 1) a_nil))) (ss_cons (s_setLc 12 (by rfl) sc__law_repeats.nd (blkOk_by (own := [("a", 13), ("b", 14)]) (by rfl)) (by decide) (i_seq (d_lc (by rfl) sc__law_repeats.nd (blkOk_by (own := [("code", 15)]) (by rfl)) (by decide) (i_rg1 (by rfl) T.b_range (a_cons (d_mul (d_var 2) (d_var 3)) a_nil)) (fun _ _ _ _ _ => (g_name 15 sc__law_repeats.nd)) (fun _ _ _ _ _ => ts_nil) (fun _ _ _ _ _ => (d_tup (a_cons (d_fdiv (d_var 15) (d_var 3)) (a_cons (d_mod (d_ty k_int (by rfl) T.b_int bt_int (a_cons (d_var 15) a_nil)) (d_var 3)) a_nil)))))) (fun _ _ _ _ _ => (g_tup2 (by rfl) (g_name 13 sc__law_repeats.nd) (g_name 14 sc__law_repeats.nd))) (fun _ _ _ _ _ => (ts_one (t_cmp (c_eq hr) (d_own ((H_shifted T).mono (by decide)) hr tk_wf (a_cons (d_var 1) (a_cons (d_var 13) (a_cons (d_var 14) a_nil)))) (d_var 1)))) (fun _ _ _ _ _ => (d_tup (a_cons (d_var 13) (a_cons (d_var 14) a_nil))))) (ss_cons (s_if (w_or (t_cmp (c_ne hr) (d_var 11) (d_var 12)) (w_or (t_cmp (c_ne hr) (d_ix (d_var 10) d_int) d_int) (w_or (t_cmp (c_ne hr) (d_own ((H_area_of T).mono (by decide)) hr tk_def (a_cons (d_var 1) a_nil)) (d_mul (d_ix (d_var 9) d_int) (d_ix (d_var 10) d_int))) (w_or1 (t_cmp (c_ne hr) (d_mul (d_var 2) (d_var 3)) (d_mul (d_own ((H_area_of T).mono (by decide)) hr tk_def (a_cons (d_var 1) a_nil)) (d_fn k_len (by rfl) T.b_len bt_len (a_cons (d_var 11) a_nil)))))))).ptd (ss_one (s_ret d_bl)) (ss_nil)) (ss_cons (s_if (t_v (d_fn (k_any (by rfl)) (by rfl) T.b_any bt_any (a_cons (d_lc (by rfl) sc__law_repeats.nd (blkOk_by (own := [("step", 16)]) (by rfl)) (by decide) (i_seq (d_lst (a_cons (d_var 9) (a_cons (d_var 10) a_nil)))) (fun _ _ _ _ _ => (g_name 16 sc__law_repeats.nd)) (fun _ _ _ _ _ => ts_nil) (fun _ _ _ _ _ => (d_not (d_own ((H__law_same T).mono (by decide)) hr tk_wf (a_cons (d_own ((H_is_period T).mono (by decide)) hr tk_wf (a_cons (d_var 1) (a_cons (d_ix (d_var 16) d_int) (a_cons (d_ix (d_var 16) d_int) a_nil)))) (a_cons d_bl a_nil)))))) a_nil))) (ss_one (s_ret d_bl)) (ss_nil)) (ss_cons (s_set 17 sc__law_repeats.nd (d_lst a_nil)) (ss_cons (s_for po_def (by rfl) (i_rg1 (by rfl) T.b_range (a_cons (d_fdiv (d_var 2) (d_ix (d_var 9) d_int)) a_nil)) (g_name 13 sc__law_repeats.nd) (ss_one (s_for po_def (by rfl) (i_rg1 (by rfl) T.b_range (a_cons (d_fdiv (d_var 3) (d_ix (d_var 10) d_int)) a_nil)) (g_name 14 sc__law_repeats.nd) (ss_cons (s_set 16 sc__law_repeats.nd (d_tup (a_cons (d_mod (d_ty k_int (by rfl) T.b_int bt_int (a_cons (d_mul (d_var 13) (d_ix (d_var 9) d_int)) a_nil)) (d_var 2)) (a_cons (d_mod (d_ty k_int (by rfl) T.b_int bt_int (a_cons (d_add (d_mul (d_var 13) (d_ix (d_var 9) d_int)) (d_mul (d_var 14) (d_ix (d_var 10) d_int))) a_nil)) (d_var 3)) a_nil)))) (ss_one (s_set 17 sc__law_repeats.nd (d_add (d_var 17) (d_if (t_cmp (c_ninA hr) (d_var 16) (d_var 17)) (d_lst (a_cons (d_var 16) a_nil)) (d_lst a_nil))))))))) (ss_cons (s_if (t_cmp (c_ne hr) (d_fn (k_sorted hr (by rfl)) (by rfl) T.b_sorted bt_sorted (a_cons (d_var 17) a_nil)) (d_var 11)) (ss_one (s_ret d_bl)) (ss_nil)) (ss_cons (s_set 18 sc__law_repeats.nd (d_tup (a_cons (d_own ((H__law_draw T).mono (by decide)) hr tk_def (a_cons (d_var 0) (a_cons (d_var 2) a_nil))) (a_cons (d_own ((H__law_draw T).mono (by decide)) hr tk_def (a_cons (d_var 0) (a_cons (d_var 3) a_nil))) a_nil)))) (ss_cons (s_set 19 sc__law_repeats.nd (d_own ((H_places_alike T).mono (by decide)) hr tk_def (a_cons (d_var 1) (a_cons (d_var 18) a_nil)))) (ss_cons (s_if (w_or (t_cmp (c_ne hr) (d_fn k_len (by rfl) T.b_len bt_len (a_cons (d_var 19) a_nil)) (d_fn k_len (by rfl) T.b_len bt_len (a_cons (d_var 11) a_nil))) (w_or (t_cmp (c_ninA hr) (d_var 18) (d_var 19)) (w_or (t_v (d_fn (k_any (by rfl)) (by rfl) T.b_any bt_any (a_cons (d_lc (by rfl) sc__law_repeats.nd (blkOk_by (own := [("p", 20), ("e", 21)]) (by rfl)) (by decide) (i_seq (d_var 19)) (fun _ _ _ _ _ => (g_tup2 (by rfl) (g_name 20 sc__law_repeats.nd) (g_name 21 sc__law_repeats.nd))) (fun _ _ _ _ _ => ts_nil) (fun _ _ _ _ _ => (d_cmp (c_ne hr) (d_ix (d_ix (d_var 1) (d_var 20)) (d_var 21)) (d_ix (d_ix (d_var 1) (d_ix (d_var 18) d_int)) (d_ix (d_var 18) d_int))))) a_nil))) (w_or1 (t_cmp (c_ne hr) (d_own ((H_places_alike T).mono (by decide)) hr tk_def (a_cons (d_var 1) (a_cons (d_ix (d_var 19) (d_neg d_int)) a_nil))) (d_var 19)))))).ptd (ss_one (s_ret d_bl)) (ss_nil)) (ss_cons (s_if (w_or (t_not (t_v (d_own ((H__law_same T).mono (by decide)) hr tk_def (a_cons (d_own ((H_are_moved T).mono (by decide)) hr tk_def (a_cons (d_var 1) (a_cons (d_var 7) a_nil))) (a_cons d_bl a_nil))))) (w_or1 (t_cmp (c_ne hr) (d_own ((H_moved_first T).mono (by decide)) hr tk_def (a_cons (d_var 7) a_nil)) (d_own ((H_moved_first T).mono (by decide)) hr tk_def (a_cons (d_var 1) a_nil))))).ptd (ss_one (s_ret d_bl)) (ss_nil)) (ss_cons (s_if (t_cmp (c_ne hr) (d_own ((H_moved_first T).mono (by decide)) hr tk_def (a_cons (d_var 1) a_nil)) (d_fn (k_min hr (by rfl)) (by rfl) T.b_min bt_min (a_cons (d_lc (by rfl) sc__law_repeats.nd (blkOk_by (own := [("a", 13), ("b", 14)]) (by rfl)) (by decide) (i_seq (d_lc (by rfl) sc__law_repeats.nd (blkOk_by (own := [("code", 15)]) (by rfl)) (by decide) (i_rg1 (by rfl) T.b_range (a_cons (d_mul (d_fn k_len (by rfl) T.b_len bt_len (a_cons (d_var 8) a_nil)) (d_fn k_len (by rfl) T.b_len bt_len (a_cons (d_ix (d_var 8) d_int) a_nil))) a_nil)) (fun _ _ _ _ _ => (g_name 15 sc__law_repeats.nd)) (fun _ _ _ _ _ => ts_nil) (fun _ _ _ _ _ => (d_tup (a_cons (d_fdiv (d_var 15) (d_fn k_len (by rfl) T.b_len bt_len (a_cons (d_ix (d_var 8) d_int) a_nil))) (a_cons (d_mod (d_ty k_int (by rfl) T.b_int bt_int (a_cons (d_var 15) a_nil)) (d_fn k_len (by rfl) T.b_len bt_len (a_cons (d_ix (d_var 8) d_int) a_nil))) a_nil)))))) (fun _ _ _ _ _ => (g_tup2 (by rfl) (g_name 13 sc__law_repeats.nd) (g_name 14 sc__law_repeats.nd))) (fun _ _ _ _ _ => ts_nil) (fun _ _ _ _ _ => (d_own ((H_shifted T).mono (by decide)) hr tk_wf (a_cons (d_var 8) (a_cons (d_var 13) (a_cons (d_var 14) a_nil)))))) a_nil))) (ss_one (s_ret d_bl)) (ss_nil)) (ss_cons (s_set 22 sc__law_repeats.nd (d_own ((H_move_between T).mono (by decide)) hr tk_def (a_cons (d_var 1) (a_cons (d_var 7) a_nil)))) (ss_cons (s_if (w_or (t_cmp (c_is) (d_var 22) d_non) (w_or (t_cmp (c_ne hr) (d_own ((H_least_repeat T).mono (by decide)) hr tk_def (a_cons (d_own ((H_shifted T).mono (by decide)) hr tk_def (a_cons (d_var 8) (a_cons (d_ix (d_var 22) d_int) (a_cons (d_ix (d_var 22) d_int) a_nil)))) a_nil)) (d_own ((H_least_repeat T).mono (by decide)) hr tk_def (a_cons (d_var 7) a_nil))) (w_or1 (t_cmp (c_gtA hr) (d_var 22) (d_tup (a_cons (d_mod (d_ty k_int (by rfl) T.b_int bt_int (a_cons (d_var 4) a_nil)) (d_fn k_len (by rfl) T.b_len bt_len (a_cons (d_var 8) a_nil))) (a_cons (d_mod (d_ty k_int (by rfl) T.b_int bt_int (a_cons (d_var 5) a_nil)) (d_fn k_len (by rfl) T.b_len bt_len (a_cons (d_ix (d_var 8) d_int) a_nil))) a_nil))))))).ptd (ss_one (s_ret d_bl)) (ss_nil)) (ss_cons (s_set 23 sc__law_repeats.nd (d_own ((H__law_cloth T).mono (by decide)) hr tk_def (a_cons (d_var 0) (a_cons (d_add d_int (d_own ((H__law_draw T).mono (by decide)) hr tk_def (a_cons (d_var 0) (a_cons d_int a_nil)))) (a_cons (d_add d_int (d_own ((H__law_draw T).mono (by decide)) hr tk_def (a_cons (d_var 0) (a_cons d_int a_nil)))) a_nil))))) (ss_cons (s_set 13 sc__law_repeats.nd (d_own ((H_straight_size T).mono (by decide)) hr tk_def (a_cons (d_var 1) a_nil))) (ss_cons (s_set 14 sc__law_repeats.nd (d_own ((H_straight_size T).mono (by decide)) hr tk_def (a_cons (d_var 23) a_nil))) (ss_cons (s_if (w_or (t_cmp (c_ne hr) (d_own ((H_common_size T).mono (by decide)) hr tk_def (a_cons (d_var 1) (a_cons (d_var 23) a_nil))) (d_tup (a_cons (d_own ((H_common_multiple T).mono (by decide)) hr tk_def (a_cons (d_ix (d_var 13) d_int) (a_cons (d_ix (d_var 14) d_int) a_nil))) (a_cons (d_own ((H_common_multiple T).mono (by decide)) hr tk_def (a_cons (d_ix (d_var 13) d_int) (a_cons (d_ix (d_var 14) d_int) a_nil))) a_nil)))) (w_or1 (t_cmp (c_ne hr) (d_cmp (c_is) (d_own ((H_move_between T).mono (by decide)) hr tk_def (a_cons (d_var 1) (a_cons (d_var 23) a_nil))) d_non) (d_cmp (c_isn) (d_own ((H_are_moved T).mono (by decide)) hr tk_def (a_cons (d_var 1) (a_cons (d_var 23) a_nil))) d_bl)))).ptd (ss_one (s_ret d_bl)) (ss_nil)) (ss_one (s_ret (d_cmp (c_eq hr) (d_own ((H_counts_of_columns T).mono (by decide)) hr tk_def (a_cons (d_var 6) a_nil)) (d_own ((H_counts_of_columns T).mono (by decide)) hr tk_def (a_cons (d_var 1) a_nil)))))))))))))))))))))))))))))))) : PSsD _ _ none [] [] [] [] _ B__law_repeats)
theorem H__law_turned (T : Fx K mg base) : Has P w K mg base 10 "_law_turned" 2 F__law_turned := has_of (N := ["state", "one", "words", "first", "second", "third", "both", "found", "face", "moved", "word", "turn", "other", "more", "least", "made", "moves", "code", "due", "a", "b", "row", "drawn"]) (ps := ["state", "one"]) T.f__law_turned sc__law_turned (fun _ _ _ _ _ _ us hl => match us, hl with | [_, _], _ => rfl) fun f cdv A outer s H E hr =>
  ((ss_cons (s_set 2 sc__law_turned.nd (d_own0 ((H__law_words T).mono (by decide)) hr tk_def)) (ss_cons (s_set 3 sc__law_turned.nd (d_ix (d_var 2) (d_own ((H__law_draw T).mono (by decide)) hr tk_def (a_cons (d_var 0) (a_cons d_int a_nil))))) (ss_cons (s_set 4 sc__law_turned.nd (d_ix (d_var 2) (d_own ((H__law_draw T).mono (by decide)) hr tk_def (a_cons (d_var 0) (a_cons d_int a_nil))))) (ss_cons (s_set 5 sc__law_turned.nd (d_ix (d_var 2) (d_own ((H__law_draw T).mono (by decide)) hr tk_def (a_cons (d_var 0) (a_cons d_int a_nil))))) (ss_cons (s_set 6 sc__law_turned.nd (d_own ((H_followed T).mono (by decide)) hr tk_def (a_cons (d_var 3) (a_cons (d_var 4) a_nil)))) (ss_cons (s_if (w_or (t_cmp (c_ne hr) (d_own ((H_turned T).mono (by decide)) hr tk_def (a_cons (d_own ((H_turned T).mono (by decide)) hr tk_def (a_cons (d_var 1) (a_cons (d_var 3) a_nil))) (a_cons (d_var 4) a_nil))) (d_own ((H_turned T).mono (by decide)) hr tk_def (a_cons (d_var 1) (a_cons (d_var 6) a_nil)))) (w_or (t_cmp (c_ne hr) (d_own ((H_followed T).mono (by decide)) hr tk_def (a_cons (d_var 6) (a_cons (d_var 5) a_nil))) (d_own ((H_followed T).mono (by decide)) hr tk_def (a_cons (d_var 3) (a_cons (d_own ((H_followed T).mono (by decide)) hr tk_def (a_cons (d_var 4) (a_cons (d_var 5) a_nil))) a_nil)))) (w_or1 (t_cmp (c_ne hr) (d_own ((H_followed T).mono (by decide)) hr tk_def (a_cons d_str (a_cons (d_var 3) a_nil))) (d_var 3))))).ptd (ss_one (s_ret d_bl)) (ss_nil)) (ss_cons (s_if (w_or (t_cmp (c_ne hr) (d_own ((H_turned T).mono (by decide)) hr tk_def (a_cons (d_var 1) (a_cons d_str a_nil))) (d_own ((H_exchanged T).mono (by decide)) hr tk_def (a_cons (d_var 1) a_nil))) (w_or (t_cmp (c_ne hr) (d_own ((H_turned T).mono (by decide)) hr tk_def (a_cons (d_var 1) (a_cons d_str a_nil))) (d_own ((H_flipped T).mono (by decide)) hr tk_def (a_cons (d_var 1) a_nil))) (w_or (t_cmp (c_ne hr) (d_own ((H_turned T).mono (by decide)) hr tk_def (a_cons (d_var 1) (a_cons d_str a_nil))) (d_own ((H_upside_down T).mono (by decide)) hr tk_def (a_cons (d_var 1) a_nil))) (w_or1 (t_cmp (c_ne hr) (d_own ((H_turned T).mono (by decide)) hr tk_def (a_cons (d_var 1) (a_cons d_str a_nil))) (d_own ((H_flipped T).mono (by decide)) hr tk_def (a_cons (d_own ((H_exchanged T).mono (by decide)) hr tk_def (a_cons (d_var 1) a_nil)) a_nil))))))).ptd (ss_one (s_ret d_bl)) (ss_nil)) (ss_cons (s_set 7 sc__law_turned.nd (d_own ((H_symmetries_of T).mono (by decide)) hr tk_def (a_cons (d_var 1) a_nil))) (ss_cons (s_set 8 sc__law_turned.nd (d_own ((H__law_draw T).mono (by decide)) hr tk_def (a_cons (d_var 0) (a_cons d_int a_nil)))) (ss_cons (s_set 9 sc__law_turned.nd (d_own ((H_shifted T).mono (by decide)) hr tk_def (a_cons (d_own ((H_turned T).mono (by decide)) hr tk_def (a_cons (d_if (t_cmp (c_eq hr) (d_var 8) d_int) (d_own ((H_other_face T).mono (by decide)) hr tk_def (a_cons (d_var 1) a_nil)) (d_var 1)) (a_cons (d_var 3) a_nil))) (a_cons (d_own ((H__law_draw T).mono (by decide)) hr tk_def (a_cons (d_var 0) (a_cons d_int a_nil))) (a_cons (d_own ((H__law_draw T).mono (by decide)) hr tk_def (a_cons (d_var 0) (a_cons d_int a_nil))) a_nil))))) (ss_cons (s_if (w_or (t_cmp (c_ne hr) (d_own ((H_count_symmetries T).mono (by decide)) hr tk_def (a_cons (d_var 1) a_nil)) (d_fn k_len (by rfl) T.b_len bt_len (a_cons (d_var 7) a_nil))) (w_or (t_cmp (c_ne hr) (d_mod (d_ty k_int (by rfl) T.b_int bt_int (a_cons d_int a_nil)) (d_fn k_len (by rfl) T.b_len bt_len (a_cons (d_var 7) a_nil))) d_int) (w_or (t_cmp (c_ninA hr) (d_tup (a_cons d_str (a_cons d_int a_nil))) (d_var 7)) (w_or1 (t_cmp (c_ne hr) (d_own ((H_count_symmetries T).mono (by decide)) hr tk_def (a_cons (d_var 9) a_nil)) (d_fn k_len (by rfl) T.b_len bt_len (a_cons (d_var 7) a_nil))))))).ptd (ss_one (s_ret d_bl)) (ss_nil)) (ss_cons (s_if (w_or (t_cmp (c_ne hr) (d_own ((H_first_form T).mono (by decide)) hr tk_def (a_cons (d_var 9) a_nil)) (d_own ((H_first_form T).mono (by decide)) hr tk_def (a_cons (d_var 1) a_nil))) (w_or1 (t_not (t_v (d_own ((H__law_same T).mono (by decide)) hr tk_def (a_cons (d_own ((H_are_one_kind T).mono (by decide)) hr tk_def (a_cons (d_var 1) (a_cons (d_var 9) a_nil))) (a_cons d_bl a_nil))))))).ptd (ss_one (s_ret d_bl)) (ss_nil)) (ss_cons (s_for po_def (by rfl) (i_seq (d_var 7)) (g_tup2 (by rfl) (g_name 10 sc__law_turned.nd) (g_name 11 sc__law_turned.nd)) (ss_one (s_for po_def (by rfl) (i_seq (d_var 7)) (g_tup2 (by rfl) (g_name 12 sc__law_turned.nd) (g_name 13 sc__law_turned.nd)) (ss_one (s_if (t_cmp (c_ninA hr) (d_tup (a_cons (d_own ((H_followed T).mono (by decide)) hr tk_def (a_cons (d_var 10) (a_cons (d_var 12) a_nil))) (a_cons (d_mod (d_ty k_int (by rfl) T.b_int bt_int (a_cons (d_add (d_var 11) (d_var 13)) a_nil)) d_int) a_nil))) (d_var 7)) (ss_one (s_ret d_bl)) (ss_nil)))))) (ss_cons (s_set 14 sc__law_turned.nd (d_own ((H_least_repeat T).mono (by decide)) hr tk_def (a_cons (d_var 1) a_nil))) (ss_cons (s_for po_def (by rfl) (i_seq (d_var 2)) (g_name 10 sc__law_turned.nd) (ss_one (s_for po_def (by rfl) (i_rg1 (by rfl) T.b_range (a_cons d_int a_nil)) (g_name 11 sc__law_turned.nd) (ss_cons (s_set 15 sc__law_turned.nd (d_own ((H_turned T).mono (by decide)) hr tk_def (a_cons (d_if (t_cmp (c_eq hr) (d_var 11) d_int) (d_own ((H_other_face T).mono (by decide)) hr tk_def (a_cons (d_var 14) a_nil)) (d_var 14)) (a_cons (d_var 10) a_nil)))) (ss_cons (s_setLc 16 (by rfl) sc__law_turned.nd (blkOk_by (own := [("code", 17)]) (by rfl)) (by decide) (i_rg1 (by rfl) T.b_range (a_cons (d_mul (d_fn k_len (by rfl) T.b_len bt_len (a_cons (d_var 14) a_nil)) (d_fn k_len (by rfl) T.b_len bt_len (a_cons (d_ix (d_var 14) d_int) a_nil))) a_nil)) (fun _ _ _ _ _ => (g_name 17 sc__law_turned.nd)) (fun _ _ _ _ _ => ts_nil) (fun _ _ _ _ _ => (d_tup (a_cons (d_fdiv (d_var 17) (d_fn k_len (by rfl) T.b_len bt_len (a_cons (d_ix (d_var 14) d_int) a_nil))) (a_cons (d_mod (d_ty k_int (by rfl) T.b_int bt_int (a_cons (d_var 17) a_nil)) (d_fn k_len (by rfl) T.b_len bt_len (a_cons (d_ix (d_var 14) d_int) a_nil))) a_nil))))) (ss_cons (s_setLc 18 (by rfl) sc__law_turned.nd (blkOk_by (own := [("a", 19), ("b", 20)]) (by rfl)) (by decide) (i_seq (d_var 16)) (fun _ _ _ _ _ => (g_tup2 (by rfl) (g_name 19 sc__law_turned.nd) (g_name 20 sc__law_turned.nd))) (fun _ _ _ _ _ => (ts_one (w_and (t_cmp (c_eq hr) (d_own ((H_size_of T).mono (by decide)) hr tk_wf (a_cons (d_var 15) a_nil)) (d_own ((H_size_of T).mono (by decide)) hr tk_wf (a_cons (d_var 14) a_nil))) (w_and1 (t_cmp (c_eq hr) (d_own ((H_shifted T).mono (by decide)) hr tk_wf (a_cons (d_var 15) (a_cons (d_var 19) (a_cons (d_var 20) a_nil)))) (d_var 14)))).ptd)) (fun _ _ _ _ _ => (d_tup (a_cons (d_var 19) (a_cons (d_var 20) a_nil))))) (ss_one (s_if (w_or (t_cmp (c_ne hr) (d_own ((H_moves_for T).mono (by decide)) hr tk_def (a_cons (d_var 1) (a_cons (d_var 10) (a_cons (d_var 11) a_nil)))) (d_var 18)) (w_or1 (t_cmp (c_ne hr) (d_cmp (c_inA hr) (d_tup (a_cons (d_var 10) (a_cons (d_var 11) a_nil))) (d_var 7)) (d_cmp (c_gtA hr) (d_fn k_len (by rfl) T.b_len bt_len (a_cons (d_var 18) a_nil)) d_int)))).ptd (ss_one (s_ret d_bl)) (ss_nil))))))))) (ss_cons (s_if (w_or (t_not (t_v (d_own ((H__law_same T).mono (by decide)) hr tk_def (a_cons (d_own ((H_is_swappable T).mono (by decide)) hr tk_def (a_cons (d_var 1) a_nil)) (a_cons (d_fn (k_any (by rfl)) (by rfl) T.b_any bt_any (a_cons (d_lc (by rfl) sc__law_turned.nd (blkOk_by (own := [("row", 21)]) (by rfl)) (by decide) (i_seq (d_var 7)) (fun _ _ _ _ _ => (g_name 21 sc__law_turned.nd)) (fun _ _ _ _ _ => ts_nil) (fun _ _ _ _ _ => (d_cmp (c_inA hr) (d_ix (d_var 21) d_int) (d_lst (a_cons d_str (a_cons d_str (a_cons d_str (a_cons d_str a_nil)))))))) a_nil)) a_nil))))) (w_or1 (t_not (t_v (d_own ((H__law_same T).mono (by decide)) hr tk_def (a_cons (d_own ((H_is_alike_behind T).mono (by decide)) hr tk_def (a_cons (d_var 1) a_nil)) (a_cons (d_cmp (c_inA hr) (d_tup (a_cons d_str (a_cons d_int a_nil))) (d_var 7)) a_nil))))))).ptd (ss_one (s_ret d_bl)) (ss_nil)) (ss_cons (s_set 22 sc__law_turned.nd (d_own ((H__law_cloth T).mono (by decide)) hr tk_def (a_cons (d_var 0) (a_cons (d_fn k_len (by rfl) T.b_len bt_len (a_cons (d_var 1) a_nil)) (a_cons (d_fn k_len (by rfl) T.b_len bt_len (a_cons (d_ix (d_var 1) d_int) a_nil)) a_nil))))) (ss_one (s_ret (d_and (d_own ((H__law_same T).mono (by decide)) hr tk_def (a_cons (d_own ((H_are_one_kind T).mono (by decide)) hr tk_def (a_cons (d_var 1) (a_cons (d_var 22) a_nil))) (a_cons (d_cmp (c_eq hr) (d_own ((H_first_form T).mono (by decide)) hr tk_def (a_cons (d_var 1) a_nil)) (d_own ((H_first_form T).mono (by decide)) hr tk_def (a_cons (d_var 22) a_nil))) a_nil))) (d_one (d_cmp (c_eq hr) (d_own ((H_first_form T).mono (by decide)) hr tk_def (a_cons (d_own ((H_first_form T).mono (by decide)) hr tk_def (a_cons (d_var 1) a_nil)) a_nil)) (d_own ((H_first_form T).mono (by decide)) hr tk_def (a_cons (d_var 1) a_nil)))))))))))))))))))))))) : PSsD _ _ none [] [] [] [] _ B__law_turned)
theorem H_law (T : Fx K mg base) {f : Addr} {fd : FuncData} (F : Fun K "law" "law" s_law f fd) (hp : ∀ ns : List Int, ns.length ≤ 63 → ∃ η' s', B_law (none :: some stTok :: List.replicate 10 none) ⟨0, 0, 1, ns⟩ = .ok (.rt (.bool true) η') s') : FnOk P w K mg base (L2.CX P w) 11 f fd ["script"] (spLaw K 63) := law_ok (Ns := ["one", "row", "right", "many", "cloth", "step", "k", "told", "due", "p"]) F sc_law rfl (fun cdv A outer s H E => law_first sc_law.nd rfl rfl (by first | exact Or.inl rfl | exact Or.inr (Or.inl rfl) | exact Or.inr (Or.inr rfl)) (by first | exact .inl rfl | exact .inr rfl) (by rfl) T.b_list) (fun cdv A outer s H E hr =>
  ((ss_cons (s_set 2 sc_law.nd (d_own ((H__law_cloth T).mono (by decide)) hr tk_def (a_cons (d_var 1) (a_cons (d_add d_int (d_own ((H__law_draw T).mono (by decide)) hr tk_def (a_cons (d_var 1) (a_cons d_int a_nil)))) (a_cons (d_add d_int (d_own ((H__law_draw T).mono (by decide)) hr tk_def (a_cons (d_var 1) (a_cons d_int a_nil)))) a_nil))))) (ss_cons (s_set 2 sc_law.nd (d_if (t_cmp (c_eq hr) (d_own ((H__law_draw T).mono (by decide)) hr tk_def (a_cons (d_var 1) (a_cons d_int a_nil))) d_int) (d_own ((H_from_step T).mono (by decide)) hr tk_def (a_cons (d_ix (d_var 2) d_int) (a_cons (d_own ((H__law_draw T).mono (by decide)) hr tk_def (a_cons (d_var 1) (a_cons d_int a_nil))) (a_cons (d_fn k_len (by rfl) T.b_len bt_len (a_cons (d_var 2) a_nil)) a_nil)))) (d_var 2))) (ss_cons (s_if (w_or (t_not (t_v (d_own ((H__law_repeats T).mono (by decide)) hr tk_def (a_cons (d_var 1) (a_cons (d_var 2) a_nil))))) (w_or1 (t_not (t_v (d_own ((H__law_turned T).mono (by decide)) hr tk_def (a_cons (d_var 1) (a_cons (d_var 2) a_nil))))))).ptd (ss_one (s_ret d_bl)) (ss_nil)) (ss_cons (s_set 3 sc_law.nd (d_ix (d_var 2) d_int)) (ss_cons (s_set 4 sc_law.nd (d_own ((H__law_draw T).mono (by decide)) hr tk_def (a_cons (d_var 1) (a_cons d_int a_nil)))) (ss_cons (s_set 5 sc_law.nd (d_own ((H_closing_picks T).mono (by decide)) hr tk_def (a_cons (d_var 3) (a_cons (d_var 4) a_nil)))) (ss_cons (s_set 6 sc_law.nd (d_own ((H_from_step T).mono (by decide)) hr tk_def (a_cons (d_var 3) (a_cons (d_var 4) (a_cons (d_var 5) a_nil))))) (ss_cons (s_set 7 sc_law.nd (d_own ((H_step_of T).mono (by decide)) hr tk_def (a_cons (d_var 6) a_nil))) (ss_cons (s_if (w_or (t_cmp (c_ne hr) (d_fn k_len (by rfl) T.b_len bt_len (a_cons (d_var 6) a_nil)) (d_var 5)) (w_or (t_cmp (c_ne hr) (d_own ((H_moved_row T).mono (by decide)) hr tk_def (a_cons (d_ix (d_var 6) (d_neg d_int)) (a_cons (d_var 4) a_nil))) (d_var 3)) (w_or (t_v (d_fn (k_any (by rfl)) (by rfl) T.b_any bt_any (a_cons (d_lc (by rfl) sc_law.nd (blkOk_by (own := [("k", 8)]) (by rfl)) (by decide) (i_rg2 (by rfl) T.b_range (a_cons d_int (a_cons (d_var 5) a_nil))) (fun _ _ _ _ _ => (g_name 8 sc_law.nd)) (fun _ _ _ _ _ => ts_nil) (fun _ _ _ _ _ => (d_cmp (c_eq hr) (d_own ((H_moved_row T).mono (by decide)) hr tk_wf (a_cons (d_var 3) (a_cons (d_mul (d_var 4) (d_var 8)) a_nil))) (d_var 3)))) a_nil))) (w_or (t_cmp (c_is) (d_var 7) d_non) (w_or1 (t_cmp (c_ne hr) (d_own ((H_from_step T).mono (by decide)) hr tk_def (a_cons (d_var 3) (a_cons (d_var 7) (a_cons (d_var 5) a_nil)))) (d_var 6))))))).ptd (ss_one (s_ret d_bl)) (ss_nil)) (ss_cons (s_if (w_or (t_cmp (c_ne hr) (d_own ((H_moved_row T).mono (by decide)) hr tk_def (a_cons (d_own ((H_moved_row T).mono (by decide)) hr tk_def (a_cons (d_var 3) (a_cons (d_var 4) a_nil))) (a_cons (d_sub d_int (d_var 4)) a_nil))) (d_var 3)) (w_or1 (t_cmp (c_gtA hr) (d_var 7) (d_mod (d_ty k_int (by rfl) T.b_int bt_int (a_cons (d_var 4) a_nil)) (d_fn k_len (by rfl) T.b_len bt_len (a_cons (d_var 3) a_nil)))))).ptd (ss_one (s_ret d_bl)) (ss_nil)) (ss_cons (s_set 9 sc_law.nd (d_own ((H_step_of T).mono (by decide)) hr tk_def (a_cons (d_var 2) a_nil))) (ss_cons (s_setLc 10 (by rfl) sc_law.nd (blkOk_by (own := [("k", 8)]) (by rfl)) (by decide) (i_rg1 (by rfl) T.b_range (a_cons (d_fn k_len (by rfl) T.b_len bt_len (a_cons (d_var 3) a_nil)) a_nil)) (fun _ _ _ _ _ => (g_name 8 sc_law.nd)) (fun _ _ _ _ _ => (ts_one (t_not (t_v (d_fn (k_any (by rfl)) (by rfl) T.b_any bt_any (a_cons (d_lc (by rfl) sc_law.nd (blkOk_by (own := [("p", 11)]) (by rfl)) (by decide) (i_rg1 (by rfl) T.b_range (a_cons (d_fn k_len (by rfl) T.b_len bt_len (a_cons (d_var 2) a_nil)) a_nil)) (fun _ _ _ _ _ => (g_name 11 sc_law.nd)) (fun _ _ _ _ _ => ts_nil) (fun _ _ _ _ _ => (d_cmp (c_ne hr) (d_own ((H_moved_row T).mono (by decide)) hr tk_wf (a_cons (d_ix (d_var 2) (d_sub (d_var 11) d_int)) (a_cons (d_var 8) a_nil))) (d_ix (d_var 2) (d_var 11))))) a_nil)))))) (fun _ _ _ _ _ => (d_var 8))) (ss_one (s_ret (d_cmp (c_eq hr) (d_var 9) (d_if (t_cmp (c_gtA hr) (d_fn k_len (by rfl) T.b_len bt_len (a_cons (d_var 10) a_nil)) d_int) (d_ix (d_var 10) d_int) d_non)))))))))))))))) : PSsD _ _ none [] [] [] [] _ B_law)) hp
end
end W3

set_option Elab.async false
set_option linter.all false
set_option maxRecDepth 100000
set_option maxHeartbeats 4000000
/-! PB: what serves the plain laws. -/
namespace W3
open PySem PySem.Spec L2
@[simp] theorem gtA_i (i j : Int) : gtA (.int i) (.int j) = some (.bool (decide (j < i))) := rfl
end W3
/-! Pk00: the plain law. -/
namespace W3
open PySem PySem.Spec L2

@[simp] theorem sz0 : (0 ≤ sizeLine) = True := by simp
@[simp] theorem sz1 : (1 ≤ sizeLine) = True := by rw [sizeLine_eq]; simp
@[simp] theorem sz2 : (2 ≤ sizeLine) = True := by rw [sizeLine_eq]; simp
@[simp] theorem sz3 : (3 ≤ sizeLine) = True := by rw [sizeLine_eq]; simp
@[simp] theorem sz4 : (4 ≤ sizeLine) = True := by rw [sizeLine_eq]; simp
abbrev row (e : Nat) (h : Int → Int) : D := tup e fun j => .int (h j)
abbrev cl (p e : Nat) (f : Int → Int → Int) : D := tup p fun i => row e (f i)
def Sm (n : Nat) : Prop := n ≤ 100000
theorem Sm.sz {n : Nat} (h : Sm n) : n ≤ sizeLine := by unfold Sm at h; rw [sizeLine_eq]; omega
theorem sh_row {e : Nat} {h : Int → Int} : Sh 1 (row e h) := .tup fun _ _ _ => .int
theorem sh_cl {p e : Nat} {f : Int → Int → Int} : Sh 2 (cl p e f) := .tup fun _ _ _ => sh_row
theorem cl_congr {p e p' e' : Nat} {f g : Int → Int → Int} (hp : p = p') (he : e = e') (h : ∀ i j : Int, 0 ≤ i → i < p → 0 ≤ j → j < e → f i j = g i j) : cl p e f = cl p' e' g :=
  tup_congr hp fun i h0 h1 => tup_congr he fun j g0 g1 => by rw [h i j h0 h1 g0 g1]
theorem seq_ret {u w : SV} {η η' : Env} {r : Fl} (h1 : u η = M.ret (.nx η')) (h2 : w η' = M.ret r) : fSeq u w η = M.ret r := by
  rw [fSeq_s, h1, ret_bind, seqK_nx, h2]
theorem ret_ret {x : EV} {η : Env} {d : D} (h : x η = M.ret d) : fRet x η = M.ret (.rt d η) := by
  rw [fRet_s, h, ret_bind]
@[simp] theorem negD_i (i : Int) : negD (.int i) = some (.int (-i)) := rfl
@[simp] theorem intD_i (i : Int) : intD (.int i) = some i := rfl
theorem rev_at {k n : Nat} {g : Int → D} {η : Env} (h : η[k]? = some (some (tup n g))) : eSl (eV k) oN oN (oS (e1 negD (eC (.int 1)))) η = M.ret (tup n fun i => g ((n : Int) - 1 - i)) := by
  simp [h, rev_tup]
theorem ix_at {n : Nat} {g : Int → D} {k : Int} {a b : EV} {η : Env} (ha : a η = M.ret (tup n g)) (hb : b η = M.ret (.int k)) (h0 : 0 ≤ k) (h1 : k < n) : e2 ixD a b η = M.ret (g k) := by
  rw [e2_s, ha, ret_bind, hb, ret_bind, ixD_tup h0 h1]; rfl
theorem rg1_at {n : Nat} {a : EV} {η : Env} (h : a η = M.ret (.int n)) (hn : Sm n) : iRg rangeD1 (aC a aN) η = M.ret (rl n fun i => .int i) := by
  rw [iRg_s, aC_s, h, ret_bind, aN_s, ret_bind, ret_bind, range1 hn.sz, lift_some]
theorem rg2_at {lo hi : Int} {n : Nat} {a b : EV} {η : Env} (h : a η = M.ret (.int lo)) (h' : b η = M.ret (.int hi)) (e : hi = lo + n) (hn : Sm n) (b0 : -1000000000 ≤ lo) (b1 : lo ≤ 1000000000) : iRg rangeD2 (aC a (aC b aN)) η = M.ret (rl n fun i => .int (lo + i)) := by
  rw [iRg_s, aC_s, h, ret_bind, aC_s, h', ret_bind, aN_s, ret_bind, ret_bind, ret_bind, range2 e hn.sz b0 b1, lift_some]
section
variable {p e : Nat} {f g : Int → Int → Int}
theorem cl0 (hp : 0 < p) : ixD (cl p e f) (.int 0) = some (row e (f 0)) := ixD_tup (by omega) (by omega)
theorem len0 {η : Env} {k : Nat} (h : η[k]? = some (some (cl p e f))) (hp : 0 < p) : eCl lenD (aC (e2 ixD (eV k) (eC (.int 0))) aN) η = M.ret (.int e) := by
  simp [h, cl0 hp]
theorem mod_lt {k : Int} {n : Nat} (h : 0 < n) : 0 ≤ k % n ∧ k % n < n := ⟨Int.emod_nonneg _ (by omega), Int.emod_lt_of_pos _ (by omega)⟩
theorem ix2_at {k : Nat} {a b : EV} {i j : Int} {η : Env} (h : η[k]? = some (some (cl p e f))) (ha : a η = M.ret (.int i)) (hb : b η = M.ret (.int j)) (i0 : 0 ≤ i) (i1 : i < p) (j0 : 0 ≤ j) (j1 : j < e) : e2 ixD (e2 ixD (eV k) a) b η = M.ret (.int (f i j)) :=
  ix_at (n := e) (g := fun j => .int (f i j)) (ix_at (n := p) (g := fun i => row e (f i)) (by simp [h]) ha i0 i1) hb j0 j1
end
end W3
namespace W3
open PySem PySem.Spec L2
/-! loops -/
theorem forGo_inv {gv : GV} {f : SV} {n : Nat} {g : Int → D} (Iv : Nat → Env → Prop) (hs : ∀ (i : Nat) η, i < n → Iv i η → ∃ η1 η2, gv (g i) η = some η1 ∧ f η1 = M.ret (.nx η2) ∧ Iv (i + 1) η2) {η : Env} (h0 : Iv 0 η) : ∃ η', forGo gv f (rl n g) η = M.ret (.nx η') ∧ Iv n η' := by
  have key : ∀ (m i : Nat) (η : Env), i + m = n → Iv i η → ∃ η', forGo gv f ((rl n g).drop i) η = M.ret (.nx η') ∧ Iv n η' := by
    intro m
    induction m with
    | zero =>
      intro i η e h
      have : i = n := by omega
      subst this
      rw [List.drop_of_length_le (by rw [rl_len]; exact Nat.le_refl _)]
      exact ⟨η, rfl, h⟩
    | succ m ih =>
      intro i η e h
      have hi : i < n := by omega
      obtain ⟨η1, η2, e1, e2, h2⟩ := hs i η hi h
      obtain ⟨η', e3, h3⟩ := ih (i + 1) η2 (by omega) h2
      have hl : i < (rl n g).length := by rw [rl_len]; exact hi
      have hx : (rl n g)[i] = g i := by
        have := rl_get (g := g) hi
        rw [List.getElem?_eq_getElem hl] at this
        exact Option.some.inj this
      refine ⟨η', ?_, h3⟩
      rw [List.drop_eq_getElem_cons hl, hx]
      unfold forGo
      rw [e1, lift_some, ret_bind, e2, ret_bind]
      exact e3
  exact key n 0 η (by omega) h0
theorem for_inv {O : List Nat} {src : IV} {gv : GV} {f : SV} {n : Nat} {g : Int → D} {η : Env} (Iv : Nat → Env → Prop) (hsrc : src (wipeE η O) = M.ret (rl n g)) (hs : ∀ (i : Nat) η, i < n → Iv i η → ∃ η1 η2, gv (g i) η = some η1 ∧ f η1 = M.ret (.nx η2) ∧ Iv (i + 1) η2) (h0 : Iv 0 η) : ∃ η', fFor O src gv f η = M.ret (.nx η') ∧ Iv n η' := by
  unfold fFor
  rw [hsrc, ret_bind]
  exact forGo_inv Iv hs h0
section
variable {p e : Nat} {f g : Int → Int → Int}
theorem div_lt {k : Int} {n m : Nat} (h0 : 0 ≤ k) (h1 : k < n * m) (h : 0 < m) : 0 ≤ k / m ∧ k / m < n := ⟨Int.ediv_nonneg h0 (by omega), Int.ediv_lt_of_lt_mul (by omega) h1⟩
theorem mul_at {n k : Nat} {g : Int → D} {a b : EV} {η : Env} (ha : a η = M.ret (tup n g)) (hb : b η = M.ret (.int k)) (l : Sm (n * k)) (hk : k ≤ 1000) : e2 mulD a b η = M.ret (tup (n * k) fun i => g (i % n)) := by
  rw [e2_s, ha, ret_bind, hb, ret_bind, mul_tup l.sz (by omega), lift_some]
theorem mul_atl {n k : Nat} {g : Int → D} {a b : EV} {η : Env} (ha : a η = M.ret (.list (rl n g))) (hb : b η = M.ret (.int k)) (l : Sm (n * k)) (hk : k ≤ 1000) : e2 mulD a b η = M.ret (.list (rl (n * k) fun i => g (i % n))) := by
  rw [e2_s, ha, ret_bind, hb, ret_bind, mul_lst l.sz (by omega), lift_some]
theorem add_at {n m : Nat} {g h : Int → D} {a b : EV} {η : Env} (ha : a η = M.ret (tup n g)) (hb : b η = M.ret (tup m h)) (l : Sm (n + m)) : e2 addD a b η = M.ret (tup (n + m) fun i => if i < n then g i else h (i - n)) := by
  rw [e2_s, ha, ret_bind, hb, ret_bind, add_tup l.sz, lift_some]
theorem zip_at {k l n : Nat} {g h : Int → D} {η : Env} (hk : η[k]? = some (some (tup n g))) (hl : η[l]? = some (some (tup n h))) : iRg zipD (aC (eV k) (aC (eV l) aN)) η = M.ret (rl n fun i => .tuple [g i, h i]) := by
  simp [hk, hl, zipD_tup]
theorem tcz {src : IV} {a b : Nat} {x : EV} {vs : List Nat} {η : Env} {n : Nat} {g1 g2 h : Int → D} (hs : src η = M.ret (rl n fun i => .tuple [g1 i, g2 i])) (hn : n ≤ sizeLine) (hb : ∀ i : Int, 0 ≤ i → i < n → x (((wipeE η vs).set a (some (g1 i))).set b (some (g2 i))) = M.ret (h i)) : eCl tupleD (aC (eLc src (gTp (gCn (gN a) (gCn (gN b) gNl))) bYes x vs) aN) η = M.ret (tup n h) :=
  tc_rl hs hn fun i h0 h1 => ⟨_, rfl, rfl, hb i h0 h1⟩
theorem pair_sh {a b : Int} : Sh 1 (.tuple [.int a, .int b]) := .tuple (.cons .int (.cons .int .nil))
theorem eqv_pair {a b c d : Int} : PyData.eqv (.tuple [.int a, .int b]) (.tuple [.int c, .int d]) = ((a == c) && (b == d)) := by
  simp [PyData.eqv, PyData.eqvAll]
theorem tab4 (a b c d : Int) : (PyData.tuple [.int a, .int b, .int c, .int d]) = tup 4 fun k => .int (if k = 0 then a else if k = 1 then b else if k = 2 then c else d) := rfl
end
end W3

namespace W3
open PySem PySem.Spec L2
theorem rl_succ (n : Nat) (g : Int → D) : rl n g ++ [g n] = rl (n + 1) g := by
  unfold rl
  rw [List.range_succ, List.map_append]; rfl
theorem app_rl {i n : Nat} {g : Int → D} {η : Env} (h : η[i]? = some (some (.list (rl n g)))) (hn : Sm (n + 1)) : appE i (g n) η = some (η.set i (some (.list (rl (n + 1) g)))) := by
  have hl : (rl n g).length < sizeLine := by have := hn.sz; rw [rl_len]; omega
  unfold appE
  rw [h]
  dsimp only
  rw [if_pos hl, rl_succ]
section
variable {p e u v : Nat} {f a b : Int → Int → Int}
def setR (u v : Nat) (f a b : Int → Int → Int) : Int → Int → Int := fun i j => if f (i / u) (j / v) ≠ 0 then a (i % u) (j % v) else b (i % u) (j % v)
theorem place_div {i k : Int} {u : Nat} (hk : 0 ≤ k) (hk' : k < u) : (i * u + k) / u = i ∧ (i * u + k) % u = k := by
  constructor
  · rw [Int.add_comm, Int.add_mul_ediv_right _ _ (by omega), Int.ediv_eq_zero_of_lt hk hk', Int.zero_add]
  · rw [Int.add_comm, Int.add_mul_emod_self_right, Int.emod_eq_of_lt hk hk']
end
end W3

namespace W3
open PySem PySem.Spec L2
theorem lc2M_rl {f : GV} {t : BV} {src1 : IV} {f1 : GV} {t1 : BV} {x : EV} {vs1 : List Nat} {η : Env} {n m : Nat} {g H : Int → D} (hb : ∀ i : Nat, i < n → ∃ η1 g1, f (g i) η = some η1 ∧ t η1 = M.ret true ∧ src1 η1 = M.ret (rl m g1) ∧ ∀ j : Int, 0 ≤ j → j < m → ∃ η2, f1 (g1 j) (wipeE η1 vs1) = some η2 ∧ t1 η2 = M.ret true ∧ x η2 = M.ret (H ((i : Int) * m + j))) :
    lc2M f t src1 f1 t1 x vs1 η (rl n g) = M.ret (rl (n * m) H) := by
  have key : ∀ l : List Nat, (∀ i ∈ l, i < n) → lc2M f t src1 f1 t1 x vs1 η (l.map fun i : Nat => g (i : Int)) = M.ret (l.map fun i : Nat => rl m fun j => H ((i : Int) * m + j)).flatten := by
    intro l
    induction l with
    | nil => intro _; rfl
    | cons a l ih =>
      intro hl
      obtain ⟨η1, g1, e1, e2, e3, e4⟩ := hb a (hl a List.mem_cons_self)
      rw [List.map_cons, List.map_cons, List.flatten_cons]
      unfold lc2M
      rw [e1]
      dsimp only
      rw [e2, ret_bind, if_pos rfl, e3, ret_bind, lcM_rl (h := fun j => H ((a : Int) * m + j)) e4, ret_bind, ih fun i hi => hl i (List.mem_cons_of_mem _ hi), ret_bind]
  have fl : ∀ k : Nat, ((List.range k).map fun i : Nat => rl m fun j => H ((i : Int) * m + j)).flatten = rl (k * m) H := by
    intro k
    induction k with
    | zero => rw [Nat.zero_mul]; rfl
    | succ k ih =>
      rw [List.range_succ, List.map_append, List.flatten_append, ih, List.map_cons, List.map_nil, List.flatten_cons, List.flatten_nil, List.append_nil]
      refine rl_of (by rw [List.length_append, rl_len, rl_len, Nat.succ_mul]) fun i hi => ?_
      by_cases c : i < k * m
      · rw [List.getElem?_append_left (by rw [rl_len]; exact c), rl_get c]
      · rw [Nat.succ_mul] at hi
        rw [List.getElem?_append_right (by rw [rl_len]; omega), rl_len, rl_get (by omega)]
        congr 2
        have : ((k * m : Nat) : Int) = (k : Int) * m := Int.natCast_mul k m
        omega
  rw [show rl n g = (List.range n).map fun i : Nat => g (i : Int) from rfl, key _ fun i hi => List.mem_range.mp hi, fl]
theorem eLc2_rl {src : IV} {f : GV} {t : BV} {src1 : IV} {f1 : GV} {t1 : BV} {x : EV} {vs vs1 : List Nat} {η : Env} {n m : Nat} {g H : Int → D} (hs : src η = M.ret (rl n g)) (hn : n * m ≤ sizeLine) (hb : ∀ i : Nat, i < n → ∃ η1 g1, f (g i) (wipeE η vs) = some η1 ∧ t η1 = M.ret true ∧ src1 η1 = M.ret (rl m g1) ∧ ∀ j : Int, 0 ≤ j → j < m → ∃ η2, f1 (g1 j) (wipeE η1 vs1) = some η2 ∧ t1 η2 = M.ret true ∧ x η2 = M.ret (H ((i : Int) * m + j))) :
    eLc2 src f t src1 f1 t1 x vs vs1 η = M.ret (.list (rl (n * m) H)) := by
  unfold eLc2
  rw [hs, ret_bind, lc2M_rl hb, noExc_ret, ret_bind]
  unfold finL
  rw [rl_len, if_pos hn]; rfl
section
variable {p e : Nat} {f g : Int → Int → Int}
theorem mulD_sm {x y : Int} (hx : 0 ≤ x ∧ x ≤ 100000) : mulD (.int x) (.int y) = some (.int (x * y)) := mulD_l (by
  have h1 := hx.1
  have h2 := hx.2
  exact ⟨by omega, by omega⟩)
/-! the first of what is sought -/
theorem forGo_hit {gv : GV} {f : SV} {n i0 : Nat} {g : Int → D} {d : D} (Iv : Nat → Env → Prop) (hi0 : i0 < n) (hs : ∀ (i : Nat) η, i < i0 → Iv i η → ∃ η1 η2, gv (g i) η = some η1 ∧ f η1 = M.ret (.nx η2) ∧ Iv (i + 1) η2) (hh : ∀ η, Iv i0 η → ∃ η1 η2, gv (g i0) η = some η1 ∧ f η1 = M.ret (.rt d η2)) {η : Env} (h0 : Iv 0 η) :
    ∃ η', forGo gv f (rl n g) η = M.ret (.rt d η') := by
  have item : ∀ i : Nat, (hi : i < n) → (rl n g).drop i = g i :: (rl n g).drop (i + 1) := fun i hi => by
    have hl : i < (rl n g).length := by rw [rl_len]; exact hi
    have hx : (rl n g)[i] = g i := by
      have := rl_get (g := g) hi
      rw [List.getElem?_eq_getElem hl] at this
      exact Option.some.inj this
    rw [List.drop_eq_getElem_cons hl, hx]
  have key : ∀ (m i : Nat) (η : Env), i + m = i0 → Iv i η → ∃ η', forGo gv f ((rl n g).drop i) η = M.ret (.rt d η') := by
    intro m
    induction m with
    | zero =>
      intro i η e h
      have : i = i0 := by omega
      subst this
      obtain ⟨η1, η2, e1, e2⟩ := hh η h
      rw [item i hi0]
      unfold forGo
      rw [e1, lift_some, ret_bind, e2, ret_bind]
      exact ⟨η2, rfl⟩
    | succ m ih =>
      intro i η e h
      obtain ⟨η1, η2, e1, e2, h2⟩ := hs i η (by omega) h
      obtain ⟨η', e3⟩ := ih (i + 1) η2 (by omega) h2
      rw [item i (by omega)]
      unfold forGo
      rw [e1, lift_some, ret_bind, e2, ret_bind]
      exact ⟨η', e3⟩
  exact key i0 0 η (by omega) h0
theorem for_hit {O : List Nat} {src : IV} {gv : GV} {f : SV} {n i0 : Nat} {g : Int → D} {d : D} {η : Env} (Iv : Nat → Env → Prop) (hsrc : src (wipeE η O) = M.ret (rl n g)) (hi0 : i0 < n) (hs : ∀ (i : Nat) η, i < i0 → Iv i η → ∃ η1 η2, gv (g i) η = some η1 ∧ f η1 = M.ret (.nx η2) ∧ Iv (i + 1) η2) (hh : ∀ η, Iv i0 η → ∃ η1 η2, gv (g i0) η = some η1 ∧ f η1 = M.ret (.rt d η2)) (h0 : Iv 0 η) :
    ∃ η', fFor O src gv f η = M.ret (.rt d η') := by
  unfold fFor
  rw [hsrc, ret_bind]
  exact forGo_hit Iv hi0 hs hh h0
theorem ez_at {k l n : Nat} {g h : Int → D} {η : Env} (hk : η[k]? = some (some (tup n g))) (hl : η[l]? = some (some (tup n h))) : iRg ezD (aC (eV k) (aC (eV l) aN)) η = M.ret (rl n fun i => .tuple [.int i, .tuple [g i, h i]]) := by
  have : ezD [tup n g, tup n h] = some (rl n fun i => .tuple [.int i, .tuple [g i, h i]]) := by
    show some (enumL (zipL (rl n g) (rl n h))) = _
    rw [zip_rl, enum_rl]
  simp [hk, hl, this]
def innerU : SV := fFor [] (iRg ezD (aC (eV 3) (aC (eV 4) aN))) (gTp (gCn (gN 5) (gCn (gTp (gCn (gN 6) (gCn (gN 7) gNl))) gNl))) (fIf (bCmp neD (eV 6) (eV 7)) (fRet (eTup (aC (eV 2) (aC (eV 5) aN)))) fNil)
theorem first_in_row {i : Int} (x5 x6 x7 : Option D) :
    ((∀ j : Nat, j < e → f i j = g i j) → ∃ y5 y6 y7, innerU [some (cl p e f), some (cl p e g), some (.int i), some (row e (f i)), some (row e (g i)), x5, x6, x7] = M.ret (.nx [some (cl p e f), some (cl p e g), some (.int i), some (row e (f i)), some (row e (g i)), y5, y6, y7])) ∧
    (∀ j0 : Nat, j0 < e → (∀ j : Nat, j < j0 → f i j = g i j) → f i j0 ≠ g i j0 → ∃ η', innerU [some (cl p e f), some (cl p e g), some (.int i), some (row e (f i)), some (row e (g i)), x5, x6, x7] = M.ret (.rt (.tuple [.int i, .int j0]) η')) := by
  have step : ∀ (j : Nat) (y5 y6 y7 : Option D), f i j = g i j → ∃ η1 η2, (gTp (gCn (gN 5) (gCn (gTp (gCn (gN 6) (gCn (gN 7) gNl))) gNl))) (.tuple [.int j, .tuple [.int (f i j), .int (g i j)]]) [some (cl p e f), some (cl p e g), some (.int i), some (row e (f i)), some (row e (g i)), y5, y6, y7] = some η1 ∧
      (fIf (bCmp neD (eV 6) (eV 7)) (fRet (eTup (aC (eV 2) (aC (eV 5) aN)))) fNil) η1 = M.ret (.nx η2) ∧ ∃ z5 z6 z7, η2 = [some (cl p e f), some (cl p e g), some (.int i), some (row e (f i)), some (row e (g i)), z5, z6, z7] := fun j y5 y6 y7 h =>
    ⟨_, _, rfl, by simp [h]; rfl, _, _, _, rfl⟩
  refine ⟨fun h => ?_, fun j0 h1 h2 h3 => ?_⟩
  · obtain ⟨η', e1, y5, y6, y7, e2⟩ := for_inv (g := fun j => .tuple [.int j, .tuple [.int (f i j), .int (g i j)]]) (gv := gTp (gCn (gN 5) (gCn (gTp (gCn (gN 6) (gCn (gN 7) gNl))) gNl))) (f := fIf (bCmp neD (eV 6) (eV 7)) (fRet (eTup (aC (eV 2) (aC (eV 5) aN)))) fNil) (fun j η => ∃ y5 y6 y7, η = [some (cl p e f), some (cl p e g), some (.int i), some (row e (f i)), some (row e (g i)), y5, y6, y7]) (O := []) (n := e) (η := [some (cl p e f), some (cl p e g), some (.int i), some (row e (f i)), some (row e (g i)), x5, x6, x7]) (src := iRg ezD (aC (eV 3) (aC (eV 4) aN))) (ez_at (g := fun j => .int (f i j)) (h := fun j => .int (g i j)) rfl rfl) (fun j η hj ⟨y5, y6, y7, eη⟩ => by rw [eη]; exact step j y5 y6 y7 (h j hj)) ⟨x5, x6, x7, rfl⟩
    exact ⟨y5, y6, y7, by rw [← e2]; exact e1⟩
  · exact for_hit (g := fun j => .tuple [.int j, .tuple [.int (f i j), .int (g i j)]]) (fun j η => ∃ y5 y6 y7, η = [some (cl p e f), some (cl p e g), some (.int i), some (row e (f i)), some (row e (g i)), y5, y6, y7]) (ez_at (g := fun j => .int (f i j)) (h := fun j => .int (g i j)) rfl rfl) h1 (fun j η hj ⟨y5, y6, y7, eη⟩ => by rw [eη]; exact step j y5 y6 y7 (h2 j hj)) (fun η ⟨y5, y6, y7, eη⟩ => by
      rw [eη]
      exact ⟨_, _, rfl, by simp [h3]; rfl⟩) ⟨x5, x6, x7, rfl⟩
end
end W3

namespace W3
open PySem PySem.Spec L2
section
variable {p e : Nat} {f g : Int → Int → Int}
theorem lcM_fl {f : GV} {t : BV} {x : EV} {η : Env} {n : Nat} {g h : Int → D} {c : Int → Bool} (hb : ∀ i : Nat, i < n → ∃ η1, f (g i) η = some η1 ∧ t η1 = M.ret (c i) ∧ (c i = true → x η1 = M.ret (h i))) : lcM f t x η (rl n g) = M.ret (((List.range n).filter fun i : Nat => c i).map fun i : Nat => h i) := by
  have key : ∀ l : List Nat, (∀ i ∈ l, i < n) → lcM f t x η (l.map fun i : Nat => g (i : Int)) = M.ret ((l.filter fun i : Nat => c i).map fun i : Nat => h i) := by
    intro l
    induction l with
    | nil => intro _; rfl
    | cons a l ih =>
      intro hl
      obtain ⟨η1, e1, e2, e3⟩ := hb a (hl a List.mem_cons_self)
      rw [List.map_cons]
      unfold lcM
      rw [e1]
      dsimp only
      rw [e2, ret_bind]
      by_cases z : c a = true
      · rw [if_pos z, e3 z, ret_bind, ih fun i hi => hl i (List.mem_cons_of_mem _ hi), ret_bind, List.filter_cons_of_pos (p := fun i : Nat => c i) z]
        rfl
      · rw [if_neg z, ih fun i hi => hl i (List.mem_cons_of_mem _ hi), List.filter_cons_of_neg (p := fun i : Nat => c i) z]
  exact key _ fun i hi => List.mem_range.mp hi
/-! places -/
def pr (q : Int × Int) : D := .tuple [.int q.1, .int q.2]
def ku (q : Int × Int) : UK := .inr [.inl q.1, .inl q.2]
theorem ku_inj {q r : Int × Int} (h : ku q = ku r) : q = r := by
  unfold ku at h
  have h1 := Sum.inr.inj h
  have h2 := (List.cons.inj h1).1
  have h3 := (List.cons.inj (List.cons.inj h1).2).1
  exact Prod.ext (Sum.inl.inj h2) (Sum.inl.inj h3)
@[simp] theorem keyU_pr (q : Int × Int) : keyU (pr q) = some (ku q) := rfl
@[simp] theorem keyR_pr (q : Int × Int) : keyR (pr q) = some (ku q) := rfl
def okP (kd : List (D × D)) : Prop := ∀ x ∈ kd, ∃ q, x.1 = pr q
theorem kinds_ok {kd : List (D × D)} (h : okP kd) (q : Int × Int) : kindsU kd (ku q) = true := by
  unfold kindsU
  refine List.all_eq_true.mpr fun x hx => ?_
  obtain ⟨r, e⟩ := h x hx
  rw [e]
  rfl
theorem get_has (kd : List (D × D)) (u : UK) : (getU kd u).isSome = hasU kd u := by
  unfold getU hasU
  rw [Option.isSome_map]
  induction kd with
  | nil => rfl
  | cons x r ih =>
    rw [List.any_cons]
    by_cases c : keyR x.1 = some u
    · rw [List.find?_cons_of_pos (by simp [c])]
      simp [c]
    · rw [List.find?_cons_of_neg (by simp [c]), ih]
      simp [c]
theorem set_has {kd : List (D × D)} (q r : Int × Int) (d : D) : hasU (setU kd (ku q) d) (ku r) = (hasU kd (ku r) || decide (q = r)) := by
  unfold setU
  by_cases c : hasU kd (ku q) = true
  · rw [if_pos c]
    have e : hasU (kd.map fun x => if keyR x.1 = some (ku q) then (x.1, d) else x) (ku r) = hasU kd (ku r) := by
      unfold hasU
      rw [List.any_map]
      congr 1
      funext x
      show decide (keyR (if keyR x.1 = some (ku q) then (x.1, d) else x).1 = some (ku r)) = _
      split <;> rfl
    rw [e]
    by_cases z : q = r
    · subst z; rw [c]; rfl
    · rw [decide_eq_false z, Bool.or_false]
  · rw [if_neg c]
    unfold hasU
    rw [List.any_append, List.any_cons, List.any_nil, Bool.or_false]
    congr 1
    have : keyR (uD (ku q)) = some (ku q) := keyR_uD _
    show decide (keyR (uD (ku q)) = some (ku r)) = _
    rw [this]
    exact decide_eq_decide.mpr ⟨fun z => ku_inj (Option.some.inj z), fun z => by rw [z]⟩
theorem set_ok {kd : List (D × D)} (h : okP kd) (q : Int × Int) (d : D) : okP (setU kd (ku q) d) ∧ (setU kd (ku q) d).length ≤ kd.length + 1 := by
  unfold setU
  by_cases c : hasU kd (ku q) = true
  · rw [if_pos c]
    refine ⟨fun x hx => ?_, by rw [List.length_map]; omega⟩
    obtain ⟨y, hy, e⟩ := List.mem_map.mp hx
    obtain ⟨r, er⟩ := h y hy
    refine ⟨r, ?_⟩
    rw [← e]
    split <;> exact er
  · rw [if_neg c]
    refine ⟨fun x hx => ?_, by rw [List.length_append]; exact Nat.le_refl _⟩
    rcases List.mem_append.mp hx with z | z
    · exact h x z
    · rw [List.mem_singleton.mp z]
      exact ⟨q, rfl⟩
theorem dc_pairs {η : Env} {k : Nat} (hk : k < η.length) : ∀ (L : List (Int × Int)) (acc : List (D × D)), okP acc → acc.length + L.length ≤ 100000 → ∃ kd, dcM (gN k) bYes (eV k) (eC (.bool true)) η (L.map pr) acc = M.ret kd ∧ okP kd ∧ ∀ q, hasU kd (ku q) = (hasU acc (ku q) || decide (q ∈ L))
  | [], acc, h, _ => ⟨acc, rfl, h, fun q => by simp⟩
  | r :: L, acc, h, hl => by
    rw [List.length_cons] at hl
    obtain ⟨s1, s2⟩ := set_ok h r (.bool true)
    obtain ⟨kd, e1, e2, e3⟩ := dc_pairs hk L (setU acc (ku r) (.bool true)) s1 (by omega)
    refine ⟨kd, ?_, e2, fun q => ?_⟩
    · rw [List.map_cons]
      unfold dcM
      rw [gN_s]
      dsimp only
      have ev : eV k (η.set k (some (pr r))) = M.ret (pr r) := by
        rw [eV_s, List.getElem?_set_self hk]; rfl
      have ep : ((keyU (pr r)).bind fun u => putU acc u (.bool true)) = some (setU acc (ku r) (.bool true)) := by
        rw [keyU_pr]
        show putU acc (ku r) (.bool true) = _
        unfold putU
        rw [if_pos ⟨kinds_ok h r, by rw [sizeLine_eq]; omega⟩]
      rw [bYes_s, ret_bind, if_pos rfl, ev, ret_bind, eC_s, ret_bind, ep, lift_some, ret_bind]
      exact e1
    · rw [e3, set_has]
      by_cases z : r = q
      · subst z; simp
      · have z' : ¬ q = r := fun w => z w.symm
        simp [z, z']
theorem notok {kd : List (D × D)} (h : okP kd) : kd ≠ [(.none, .none)] := fun z => by
  subst z
  obtain ⟨q, e⟩ := h _ List.mem_cons_self
  cases e
theorem dictD_ok {kd : List (D × D)} (h : okP kd) : dictD kd = some (.dict kd) := by
  unfold dictD
  split
  · exact absurd rfl (notok h)
  · rfl
theorem unl_ok {kd : List (D × D)} (h : okP kd) : unl kd = some kd := unl_keys fun p hp z => by
  obtain ⟨q, e⟩ := h p hp
  rw [e] at z
  cases z
theorem inAD_ok {kd : List (D × D)} (h : okP kd) (q : Int × Int) : inAD (pr q) (.dict kd) = some (.bool (hasU kd (ku q))) := by
  have e : dInB (pr q) kd = some (hasU kd (ku q)) := by
    unfold dInB
    rw [keyU_pr]
    show (if kindsU kd (ku q) = true then some (getU kd (ku q)).isSome else none) = _
    rw [if_pos (kinds_ok h q), get_has]
  show ((unl kd).bind fun kd => (dInB (pr q) kd).map PyData.bool) = _
  rw [unl_ok h]
  show (dInB (pr q) kd).map PyData.bool = _
  rw [e]
  rfl

end
end W3

namespace W3
open PySem PySem.Spec L2
theorem glM_all {stop : Bool} {f : GV} {t : BV} {x : EV} {η : Env} : ∀ {ds : List D} (m : Nat), (∀ d ∈ ds, ∃ η1, f d η = some η1 ∧ t η1 = M.ret true ∧ x η1 = M.ret (.bool (!stop))) → glM stop f t x η (m + ds.length) ds = M.ret (some m)
  | [], m, _ => by unfold glM; rfl
  | d :: ds, m, h => by
    obtain ⟨η1, e1, e2, e3⟩ := h d List.mem_cons_self
    rw [List.length_cons, ← Nat.add_assoc]
    unfold glM
    rw [e1]
    dsimp only
    rw [e2, ret_bind, if_pos rfl, e3, ret_bind]
    show M.bind (M.ret (!stop)) _ = _
    rw [ret_bind, if_neg (by cases stop <;> decide)]
    exact glM_all m fun d hd => h d (List.mem_cons_of_mem _ hd)
theorem glM_hit {stop : Bool} {f : GV} {t : BV} {x : EV} {η : Env} : ∀ {ds : List D} {d0 : D} {es : List D} (m : Nat), (∀ d ∈ ds, ∃ η1, f d η = some η1 ∧ t η1 = M.ret true ∧ x η1 = M.ret (.bool (!stop))) → (∃ η1, f d0 η = some η1 ∧ t η1 = M.ret true ∧ x η1 = M.ret (.bool stop)) → glM stop f t x η (m + ds.length + 1) (ds ++ d0 :: es) = M.ret none
  | [], d0, es, m, _, ⟨η1, e1, e2, e3⟩ => by
    rw [List.nil_append]
    unfold glM
    rw [e1]
    dsimp only
    rw [e2, ret_bind, if_pos rfl, e3, ret_bind]
    show M.bind (M.ret stop) _ = _
    rw [ret_bind, if_pos rfl]
  | d :: ds, d0, es, m, h, h' => by
    obtain ⟨η1, e1, e2, e3⟩ := h d List.mem_cons_self
    rw [List.cons_append, List.length_cons, ← Nat.add_assoc]
    unfold glM
    rw [e1]
    dsimp only
    rw [e2, ret_bind, if_pos rfl, e3, ret_bind]
    show M.bind (M.ret (!stop)) _ = _
    rw [ret_bind, if_neg (by cases stop <;> decide)]
    exact glM_hit m (fun d hd => h d (List.mem_cons_of_mem _ hd)) h'
theorem gl2M_all {stop : Bool} {f : GV} {t : BV} {src1 : IV} {f1 : GV} {t1 : BV} {x : EV} {vs1 : List Nat} {η : Env} {k : Nat} : ∀ {ds : List D} (m : Nat), (∀ d ∈ ds, ∃ η1 es, f d η = some η1 ∧ t η1 = M.ret true ∧ src1 η1 = M.ret es ∧ es.length = k ∧ ∀ d' ∈ es, ∃ η2, f1 d' (wipeE η1 vs1) = some η2 ∧ t1 η2 = M.ret true ∧ x η2 = M.ret (.bool (!stop))) →
    gl2M stop f t src1 f1 t1 x vs1 η (m + ds.length * k) ds = M.ret (some m)
  | [], m, _ => by unfold gl2M; simp
  | d :: ds, m, h => by
    obtain ⟨η1, es, e1, e2, e3, e4, e5⟩ := h d List.mem_cons_self
    have en : m + (d :: ds).length * k = (m + ds.length * k) + es.length := by rw [List.length_cons, Nat.succ_mul, e4]; omega
    rw [en]
    unfold gl2M
    rw [e1]
    dsimp only
    rw [e2, ret_bind, if_pos rfl, e3, ret_bind, glM_all _ e5, ret_bind]
    exact gl2M_all m fun d hd => h d (List.mem_cons_of_mem _ hd)
theorem mem_rl {n : Nat} {g : Int → D} {d : D} (h : d ∈ rl n g) : ∃ i : Nat, i < n ∧ d = g i := by
  unfold rl at h
  obtain ⟨i, hi, e⟩ := List.mem_map.mp h
  exact ⟨i, List.mem_range.mp hi, e.symm⟩
theorem isi_t (ds : List D) : isiD "tuple" (.tuple ds) = some (.bool true) := rfl
theorem isi_l (ds : List D) : isiD "tuple" (.list ds) = some (.bool false) := by
  show some (PyData.bool ("list" == "tuple" || ("list" == "bool" && "tuple" == "int"))) = _
  simp
theorem isi_i (i : Int) : isiD "int" (.int i) = some (.bool true) := rfl
theorem isi_b (i : Int) : isiD "bool" (.int i) = some (.bool false) := by
  show some (PyData.bool ("int" == "bool" || ("int" == "bool" && "bool" == "int"))) = _
  simp
@[simp] theorem truth_b (b : Bool) : truthD (.bool b) = some b := rfl
@[simp] theorem isN_i (i : Int) : isD (.int i) .none = some (.bool false) := rfl
section
variable {p e : Nat} {f g : Int → Int → Int}
theorem chain64 {x : EV} {η : Env} {n : Nat} (h : x η = M.ret (.int n)) (h0 : 0 < n) (h1 : n ≤ 64) : bChain leD leD (eC (.int 1)) x (eC (.int 64)) η = M.ret true := by
  unfold bChain
  have a : (1 : Int) ≤ n := by omega
  have b : (n : Int) ≤ 64 := by omega
  rw [eC_s, ret_bind, h, ret_bind, leD_i]
  simp [a, b]
end
end W3

namespace W3
open PySem PySem.Spec L2
/-! the forms of a law's def -/
section
variable {η η' : Env} {c k : BV} {u w : SV} {x y z : EV} {F : FD} {a b d d' : D} {P : D → Prop} {Q : Fl → Prop}
theorem v_at {i : Nat} (h : η[i]? = some (some d)) : eV i η = M.ret d := by rw [eV_s, h]; rfl
theorem own1 (h1 : x η = M.ret a) (h : F [a] = M.ret d) : eOwn 1 F (aC x aN) η = M.ret d := by
  rw [eOwn_s, aC_s, h1]; exact h
theorem own2 (h1 : x η = M.ret a) (h2 : y η = M.ret b) (h : F [a, b] = M.ret d) : eOwn 2 F (aC x (aC y aN)) η = M.ret d := by
  rw [eOwn_s, aC_s, h1, aC_s, h2]; exact h
theorem own3 {c : D} (h1 : x η = M.ret a) (h2 : y η = M.ret b) (h3 : z η = M.ret c) (h : F [a, b, c] = M.ret d) : eOwn 3 F (aC x (aC y (aC z aN))) η = M.ret d := by
  rw [eOwn_s, aC_s, h1, aC_s, h2, aC_s, h3]; exact h
theorem add_i {i j : Int} (h1 : x η = M.ret (.int i)) (h2 : y η = M.ret (.int j)) : e2 addD x y η = M.ret (.int (i + j)) := by rw [e2_s, h1, ret_bind, h2]; rfl
theorem sub_i {i j : Int} (h1 : x η = M.ret (.int i)) (h2 : y η = M.ret (.int j)) : e2 subD x y η = M.ret (.int (i - j)) := by rw [e2_s, h1, ret_bind, h2]; rfl
theorem mul_i {i j : Int} (hi : 0 ≤ i ∧ i ≤ 100000) (h1 : x η = M.ret (.int i)) (h2 : y η = M.ret (.int j)) : e2 mulD x y η = M.ret (.int (i * j)) := by rw [e2_s, h1, ret_bind, h2, ret_bind, mulD_sm hi]; rfl
theorem pair_at (h1 : x η = M.ret a) (h2 : y η = M.ret b) : eTup (aC x (aC y aN)) η = M.ret (.tuple [a, b]) := by simp [h1, h2]
theorem eq_ii {i j : Int} (h1 : x η = M.ret (.int i)) (h2 : y η = M.ret (.int j)) : e2 eqD x y η = M.ret (.bool (i == j)) := by rw [e2_s, h1, ret_bind, h2, ret_bind, eqD_i]; rfl
theorem ne_f {n : Nat} (h1 : x η = M.ret d) (h2 : y η = M.ret d') (hs : Sh n d) (e : d = d') (hn : n ≤ 64 := by decide) : bCmp neD x y η = M.ret false := by
  subst e
  rw [bCmp_s, h1, ret_bind, h2, ret_bind, neD_same hs hn]; rfl
theorem or_f (h1 : c η = M.ret false) (h2 : k η = M.ret false) : bOr c k η = M.ret false := by rw [bOr_s, h1, ret_bind, if_neg Bool.false_ne_true, h2]
theorem not_f (h1 : x η = M.ret (.bool true)) : bNot (bT x) η = M.ret false := by rw [bNot_s, bT_s, h1]; rfl
theorem no_t (h1 : x η = M.ret (.bool false)) : bT x η = M.ret false := by rw [bT_s, h1]; rfl
theorem if_f (h1 : c η = M.ret false) : fIf c u fNil η = M.ret (.nx η) := by rw [fIf_s, h1, ret_bind, if_neg Bool.false_ne_true]; rfl
theorem seq_y (h1 : u η = M.ret (.nx η')) (h2 : Yld (w η') Q) : Yld (fSeq u w η) Q := by rw [fSeq_s, h1, ret_bind, seqK_nx]; exact h2
theorem set_y {i : Nat} {R : D → Prop} (h1 : Yld (x η) R) (h2 : ∀ d, R d → Yld (w (η.set i (some d))) Q) : Yld (fSeq (fSet [] i x) w η) Q := by
  rw [fSeq_s, fSet_s, wipe_nil, bind_assoc_s]
  exact h1.bind fun d hd => h2 d hd
theorem set_p {i : Nat} (h1 : x η = M.ret d) (h2 : Yld (w (η.set i (some d))) Q) : Yld (fSeq (fSet [] i x) w η) Q := set_y (R := fun d' => d' = d) (by rw [h1]; exact .ret rfl) fun d' e => by rw [e]; exact h2
theorem ret_y (h : x η = M.ret d) (hp : P d) : Yld (fRet x η) fun fl => ∃ d η', fl = .rt d η' ∧ P d := by rw [fRet_s, h, ret_bind]; exact .ret ⟨d, η, rfl, hp⟩
theorem ret_yy (h : Yld (x η) P) : Yld (fRet x η) fun fl => ∃ d η', fl = .rt d η' ∧ P d := by rw [fRet_s]; exact h.bind fun d hd => .ret ⟨d, η, rfl, hd⟩
theorem runF_y {n m : Nat} {f : SV} {ds : List D} (hl : ds.length = n) (h : Yld (f (ds.map some ++ List.replicate (m - n) none)) fun fl => ∃ d η', fl = .rt d η' ∧ P d) : Yld (runF n m f ds) P := by
  unfold runF
  rw [if_pos hl]
  exact h.bind fun fl ⟨d, η', e, hp⟩ => by rw [e]; exact .ret hp
theorem draw_y {n : Int} (h0 : 0 < n) (h1 : n < 1073741824) (hx : x η = M.ret stTok) : Yld (eOwn 2 F__law_draw (aC x (aC (eC (.int n)) aN)) η) fun d => ∃ k, d = .int k ∧ 0 ≤ k ∧ k < n := by
  rw [eOwn_s, aC_s, hx]
  exact Yld.draw h0 h1
theorem draw_sub {n m : Int} (h0 : 0 < n) (h1 : n < 1073741824) (hx : x η = M.ret stTok) : Yld (e2 subD (eOwn 2 F__law_draw (aC x (aC (eC (.int n)) aN))) (eC (.int m)) η) fun d => ∃ k, d = .int k ∧ -m ≤ k ∧ k < n - m := by
  rw [e2_s]
  refine (draw_y h0 h1 hx).bind fun d ⟨k, e, a, b⟩ => ?_
  rw [e]
  exact .ret ⟨k - m, rfl, by omega, by omega⟩
theorem draw_add {n m : Int} (h0 : 0 < n) (h1 : n < 1073741824) (hx : x η = M.ret stTok) : Yld (e2 addD (eC (.int m)) (eOwn 2 F__law_draw (aC x (aC (eC (.int n)) aN))) η) fun d => ∃ k, d = .int k ∧ m ≤ k ∧ k < n + m := by
  rw [e2_s]
  refine (draw_y h0 h1 hx).bind fun d ⟨k, e, a, b⟩ => ?_
  rw [e]
  exact .ret ⟨m + k, rfl, by omega, by omega⟩
end
section
variable {p e : Nat} {f g : Int → Int → Int}
theorem mod_back {i n : Int} (h0 : 0 ≤ i) (h1 : i < n) : i % n = i := Int.emod_eq_of_lt h0 h1
theorem shift_back {i d : Int} {n : Nat} (h0 : 0 ≤ i) (h1 : i < n) : ((i - (0 - d)) % n - d) % n = i := by
  rw [Int.emod_sub_emod, show i - (0 - d) - d = i by omega, mod_back h0 h1]
theorem neg_mod {x : Int} {n : Nat} (h : 0 < n) : ((n : Int) - 1 - x) % n = (n : Int) - 1 - x % n := by
  obtain ⟨a, b⟩ := mod_lt (k := x) h
  have e1 := Int.emod_add_mul_ediv x n
  have e2 : (n : Int) - 1 - x = ((n : Int) - 1 - x % n) + n * (-(x / n)) := by
    rw [Int.mul_neg]; omega
  rw [e2, Int.add_mul_emod_self_left, mod_back (by omega) (by omega)]
theorem sum_neg : (sumI p fun i => sumI e fun j => 1 - f i j) = (p : Int) * e - sumI p fun i => sumI e fun j => f i j := by
  have : (sumI p fun i => sumI e fun j => 1 - f i j) = sumI p fun i => (e : Int) - sumI e fun j => f i j := sumI_congr rfl fun i _ _ => by
    rw [sumI_sub, sumI_const, Int.mul_one]
  rw [this, sumI_sub, sumI_const]
theorem one_at {x : EV} {η : Env} {d : D} (h : x η = M.ret d) : eTup (aC x aN) η = M.ret (tup 1 fun _ => d) := by
  simp [h]; rfl
end
end W3

namespace W3
open PySem PySem.Spec L2
section
variable {η : Env} {x y : EV} {P Q : D → Prop} {a b d : D}
theorem pair_y (h1 : Yld (x η) P) (h2 : Yld (y η) Q) : Yld (eTup (aC x (aC y aN)) η) fun d => ∃ a b, d = .tuple [a, b] ∧ P a ∧ Q b := by
  rw [eTup_s, aC_s, aC_s]
  simp only [bind_assoc_s]
  refine h1.bind fun a ha => h2.bind fun b hb => ?_
  rw [aN_s, ret_bind, ret_bind, ret_bind]
  show Yld (M.lift (if 2 ≤ sizeLine then some (PyData.tuple [a, b]) else none)) _
  rw [if_pos (by rw [sizeLine_eq]; omega)]
  exact .ret ⟨a, b, rfl, ha, hb⟩
theorem fst_at (h : x η = M.ret (.tuple [a, b])) : e2 ixD x (eC (.int 0)) η = M.ret a := by rw [e2_s, h, ret_bind]; rfl
theorem snd_at (h : x η = M.ret (.tuple [a, b])) : e2 ixD x (eC (.int 1)) η = M.ret b := by rw [e2_s, h, ret_bind]; rfl
theorem draw_to {n i : Int} (h0 : 0 < n) (h1 : n < 1073741824) (hy : y η = M.ret (.int i)) (hx : x η = M.ret stTok) : Yld (e2 addD y (eOwn 2 F__law_draw (aC x (aC (eC (.int n)) aN))) η) fun d => ∃ k, d = .int (i + k) ∧ 0 ≤ k ∧ k < n := by
  rw [e2_s, hy, ret_bind]
  refine (draw_y h0 h1 hx).bind fun d ⟨k, e, a, b⟩ => ?_
  rw [e]
  exact .ret ⟨k, rfl, a, b⟩
end
section
variable {p e : Nat} {f g : Int → Int → Int}
theorem mod_mod {x : Int} {n m : Nat} : (x % ((n * m : Nat) : Int)) % n = x % n := by
  rw [Int.natCast_mul]
  exact Int.emod_emod_of_dvd x (Int.dvd_mul_right _ _)
theorem sum_block (n m : Nat) (hm : 0 < m) (h : Int → Int) : sumI (n * m) (fun i => h (i / m)) = m * sumI n h := by
  induction n with
  | zero => rw [Nat.zero_mul, sumI_zero, sumI_zero, Int.mul_zero]
  | succ n ih =>
    have key : ∀ k : Nat, k ≤ m → sumI (n * m + k) (fun i => h (i / m)) = sumI (n * m) (fun i => h (i / m)) + k * h n := by
      intro k
      induction k with
      | zero => intro _; rw [Nat.add_zero]; simp
      | succ k ihk =>
        intro hk
        rw [← Nat.add_assoc, sumI_succ, ihk (by omega)]
        have : ((n * m + k : Nat) : Int) / m = n := by
          rw [Int.natCast_add, Int.natCast_mul]
          exact (place_div (by omega) (by omega)).1
        rw [this, Int.natCast_succ, Int.add_mul, Int.one_mul]
        omega
    rw [Nat.succ_mul, key m (Nat.le_refl _), ih, sumI_succ, Int.mul_add]
def bes (e : Nat) (f g : Int → Int → Int) : Int → Int → Int := fun i j => if j < e then f i j else g i (j - e)
def bel (p : Nat) (f g : Int → Int → Int) : Int → Int → Int := fun i j => if i < p then f i j else g (i - p) j
theorem sumI_app (n m : Nat) (h : Int → Int) : sumI (n + m) h = sumI n h + sumI m fun i => h (n + i) := by
  induction m with
  | zero => rw [Nat.add_zero, sumI_zero, Int.add_zero]
  | succ m ih => rw [← Nat.add_assoc, sumI_succ, ih, sumI_succ, Int.natCast_add]; omega
theorem sumI_mul (n : Nat) (c : Int) (h : Int → Int) : sumI n (fun i => c * h i) = c * sumI n h := by
  induction n with
  | zero => rw [sumI_zero, sumI_zero, Int.mul_zero]
  | succ n ih => rw [sumI_succ, ih, sumI_succ, Int.mul_add]
theorem eq_t {x y : EV} {η : Env} {n : Nat} {d d' : D} (h1 : x η = M.ret d) (h2 : y η = M.ret d') (hs : Sh n d) (e : d = d') (hn : n ≤ 64 := by decide) : e2 eqD x y η = M.ret (.bool true) := by
  subst e
  rw [e2_s, h1, ret_bind, h2, ret_bind, eqD_same hs hn]; rfl
theorem and_t {x y : EV} {η : Env} {d : D} (h1 : x η = M.ret (.bool true)) (h2 : y η = M.ret d) : eAnd x y η = M.ret d := by
  rw [eAnd_s, h1]; exact h2
theorem half_place {j : Int} {r : Nat} (j0 : 0 ≤ j) (hr : 0 < r) : (j / r) / 2 = j / ((r + r : Nat) : Int) ∧ ((j / r) % 2 = 0 ↔ j % ((r + r : Nat) : Int) < r) := by
  have h := mod_lt (k := j) (n := r + r) (by omega)
  have e1 := Int.emod_add_mul_ediv j ((r + r : Nat) : Int)
  generalize j % ((r + r : Nat) : Int) = t at h e1 ⊢
  generalize j / ((r + r : Nat) : Int) = q at e1 ⊢
  have e2 : j = (2 * q) * r + t := by
    rw [← e1, Int.natCast_add, Int.add_mul, show (2 : Int) * q * r = r * q + r * q by rw [Int.mul_assoc, Int.mul_comm q r]; omega]
    omega
  by_cases c : t < (r : Int)
  · have e3 : j / r = 2 * q := by rw [e2]; exact (place_div h.1 c).1
    rw [e3]
    exact ⟨by omega, by omega⟩
  · have e4 : j = (2 * q + 1) * r + (t - r) := by rw [Int.add_mul, Int.one_mul]; omega
    have e3 : j / r = 2 * q + 1 := by rw [e4]; exact (place_div (by omega) (by rw [Int.natCast_add] at h; omega)).1
    rw [e3]
    exact ⟨by omega, by omega⟩
theorem full_at {η : Env} {k d r : Nat} {c : Int} (hd : η[5]? = some (some (.int d))) (hr : η[6]? = some (some (.int r))) (sd : Sm d) (sr : Sm (1 * r)) (r1 : r ≤ 1000) : eCl tupleD (aC (eLc (iRg rangeD1 (aC (eV 5) aN)) (gN 14) bYes (e2 mulD (eTup (aC (eC (.int c)) aN)) (eV 6)) [14]) aN) η = M.ret (cl d r fun _ _ => c) := by
  refine tc1 (rg1_at (v_at hd) sd) sd.sz fun i _ _ => ?_
  have q := mul_at (n := 1) (k := r) (g := fun _ => .int c) (a := eTup (aC (eC (.int c)) aN)) (b := eV 6) (η := (wipeE η [14]).set 14 (some (.int i))) (one_at rfl) (v_at (by
    rw [wipe_cons, wipe_nil, List.set_set, List.getElem?_set_ne (by decide)]
    exact hr)) sr r1
  rw [q, Nat.one_mul]
end
end W3

namespace W3
open PySem PySem.Spec L2
section
variable {f h : SV} {η η' : Env} {us : List Nat} {c : Str} {p : D} {x : Fl}
theorem try_raise (h1 : f η = M.raise c p) (hp : noL p = true) : fTry c us f h η = noExc (h (wipeE η us)) := by
  funext s
  unfold fTry
  rw [h1]
  show (if c = c ∧ noL p = true then noExc (h (wipeE η us)) s else .bad) = _
  rw [if_pos ⟨rfl, hp⟩]
theorem try_ok (h1 : f η = M.ret x) : fTry c us f h η = M.ret x := by
  funext s
  unfold fTry
  rw [h1]; rfl
end
section
variable {p e p' e' : Nat} {f g a b : Int → Int → Int}
end
end W3

namespace W3
open PySem PySem.Spec L2
section
variable {p e : Nat} {f g k : Int → Int → Int}
def cf (e : Nat) (f g : Int → Int → Int) : Nat → Bool := fun i => !(f ((i : Int) / e) ((i : Int) % e) == g ((i : Int) / e) ((i : Int) % e))
def apL (p e : Nat) (f g : Int → Int → Int) : List (Int × Int) := ((List.range (p * e)).filter (cf e f g)).map fun i : Nat => ((i : Int) / e, (i : Int) % e)
theorem apL_mem (g0 : 0 < e) {i j : Int} (i0 : 0 ≤ i) (i1 : i < p) (j0 : 0 ≤ j) (j1 : j < e) : (i, j) ∈ apL p e f g ↔ f i j ≠ g i j := by
  obtain ⟨q1, q2⟩ := place_div (i := i) j0 j1
  unfold apL
  rw [List.mem_map]
  constructor
  · rintro ⟨n, hn, h⟩
    have h1 := congrArg Prod.fst h
    have h2 := congrArg Prod.snd h
    dsimp only at h1 h2
    have hc := (List.mem_filter.mp hn).2
    unfold cf at hc
    rw [h1, h2] at hc
    simpa using hc
  · intro h
    have hm : 0 ≤ i * e := Int.mul_nonneg i0 (by omega)
    refine ⟨(i * e + j).toNat, List.mem_filter.mpr ⟨List.mem_range.mpr ?_, ?_⟩, ?_⟩
    · have h1 : (i + 1) * (e : Int) ≤ p * e := Int.mul_le_mul_of_nonneg_right (by omega) (by omega)
      rw [Int.add_mul, Int.one_mul] at h1
      have h2 : ((p * e : Nat) : Int) = (p : Int) * e := Int.natCast_mul p e
      omega
    · unfold cf
      rw [Int.toNat_of_nonneg (by omega), q1, q2]
      simpa using h
    · rw [Int.toNat_of_nonneg (by omega), q1, q2]
theorem apL_len : (apL p e f g).length ≤ p * e := by
  unfold apL
  rw [List.length_map]
  exact Nat.le_trans (List.length_filter_le _ _) (by rw [List.length_range]; exact Nat.le_refl _)
end
end W3

namespace W3
open PySem PySem.Spec L2
section
variable {p e : Nat} {f g k : Int → Int → Int}
theorem b01 {x y : Int} (hx : x = 0 ∨ x = 1) (hy : y = 0 ∨ y = 1) : (x * y = 0 ∨ x * y = 1) ∧ (x + y - x * y = 0 ∨ x + y - x * y = 1) ∧ (x + y - 2 * (x * y) = 0 ∨ x + y - 2 * (x * y) = 1) ∧ (1 - x = 0 ∨ 1 - x = 1) := by
  rcases hx with rfl | rfl <;> rcases hy with rfl | rfl <;> simp
theorem tup4_at {x0 x1 x2 x3 : EV} {η : Env} {a b c d : Int} (h0 : x0 η = M.ret (.int a)) (h1 : x1 η = M.ret (.int b)) (h2 : x2 η = M.ret (.int c)) (h3 : x3 η = M.ret (.int d)) : eTup (aC x0 (aC x1 (aC x2 (aC x3 aN)))) η = M.ret (tup 4 fun k => .int (if k = 0 then a else if k = 1 then b else if k = 2 then c else d)) := by
  rw [← tab4]
  simp [h0, h1, h2, h3]
theorem own3t {F : FD} {x y z : EV} {η : Env} {a b c d : D} (h1 : x η = M.ret a) (h2 : y η = M.ret b) (h3 : z η = M.ret c) (h : F [a, b, c] = M.ret d) : eOwn 3 F (aC x (aC y (aC z aN))) η = M.ret d := own3 h1 h2 h3 h
theorem eLc_fl {src : IV} {f : GV} {t : BV} {x : EV} {vs : List Nat} {η : Env} {n : Nat} {g h : Int → D} {c : Int → Bool} (hs : src η = M.ret (rl n g)) (hn : n ≤ sizeLine) (hb : ∀ i : Nat, i < n → ∃ η1, f (g i) (wipeE η vs) = some η1 ∧ t η1 = M.ret (c i) ∧ (c i = true → x η1 = M.ret (h i))) : eLc src f t x vs η = M.ret (.list (((List.range n).filter fun i : Nat => c i).map fun i : Nat => h i)) := by
  show M.bind (src η) _ = _
  rw [hs, ret_bind, lcM_fl hb, noExc_ret, ret_bind]
  unfold finL
  rw [if_pos (by
    rw [List.length_map]
    exact Nat.le_trans (List.length_filter_le _ _) (by rw [List.length_range]; exact hn))]
  rfl
theorem ap_at {η : Env} (h0 : 0 < p) (g0 : 0 < e) (hp : p ≤ 60) (he : e ≤ 60) (e1 : η[1]? = some (some (cl p e f))) (e2' : η[2]? = some (some (cl p e g))) (e4 : η[4]? = some (some (.int p))) (e5 : η[5]? = some (some (.int e))) (hl : 11 < η.length) :
    eLc (iS (eLc (iRg rangeD1 (aC (e2 mulD (eV 4) (eV 5)) aN)) (gN 7) bYes (eTup (aC (e2 fdivD (eV 7) (eV 5)) (aC (e2 modD (eCl intCD (aC (eV 7) aN)) (eV 5)) aN))) [7])) (gTp (gCn (gN 10) (gCn (gN 9) gNl))) (bCmp neD (e2 ixD (e2 ixD (eV 1) (eV 10)) (eV 9)) (e2 ixD (e2 ixD (eV 2) (eV 10)) (eV 9))) (eTup (aC (eV 10) (aC (eV 9) aN))) [10, 9] η = M.ret (.list ((apL p e f g).map pr)) := by
  have hpe : p * e ≤ 60 * 60 := Nat.mul_le_mul hp he
  have spe : Sm (p * e) := by unfold Sm; omega
  have s1 : eLc (iRg rangeD1 (aC (e2 mulD (eV 4) (eV 5)) aN)) (gN 7) bYes (eTup (aC (e2 fdivD (eV 7) (eV 5)) (aC (e2 modD (eCl intCD (aC (eV 7) aN)) (eV 5)) aN))) [7] η = M.ret (.list (rl (p * e) fun i => .tuple [.int (i / e), .int (i % e)])) := by
    refine eLc_rl (g := fun i => .int i) (rg1_at (n := p * e) ?_ spe) spe.sz fun i _ _ => ⟨_, rfl, rfl, ?_⟩
    · rw [mul_i ⟨by omega, by omega⟩ (v_at e4) (v_at e5), Int.natCast_mul]
    · have q7 : ((wipeE η [7]).set 7 (some (.int i)))[7]? = some (some (PyData.int i)) := by
        rw [wipe_cons, wipe_nil, List.getElem?_set_self (by rw [List.length_set]; omega)]
      have q5 : ((wipeE η [7]).set 7 (some (.int i)))[5]? = some (some (PyData.int e)) := by
        rw [wipe_cons, wipe_nil, List.set_set, List.getElem?_set_ne (by decide)]; exact e5
      refine pair_at ?_ ?_
      · rw [e2_s, v_at q7, ret_bind, v_at q5, ret_bind, fdivD_pos (by omega) (by omega), lift_some]
      · rw [e2_s, eCl_s, aC_s, v_at q7, ret_bind, aN_s, ret_bind, ret_bind, intCD_i, lift_some, ret_bind, v_at q5, ret_bind, modD_pos (by omega), lift_some]
  have hs : iS (eLc (iRg rangeD1 (aC (e2 mulD (eV 4) (eV 5)) aN)) (gN 7) bYes (eTup (aC (e2 fdivD (eV 7) (eV 5)) (aC (e2 modD (eCl intCD (aC (eV 7) aN)) (eV 5)) aN))) [7]) η = M.ret (rl (p * e) fun i => .tuple [.int (i / e), .int (i % e)]) := by
    rw [iS_s, s1]; rfl
  have key := eLc_fl (f := gTp (gCn (gN 10) (gCn (gN 9) gNl))) (t := bCmp neD (e2 ixD (e2 ixD (eV 1) (eV 10)) (eV 9)) (e2 ixD (e2 ixD (eV 2) (eV 10)) (eV 9))) (x := eTup (aC (eV 10) (aC (eV 9) aN))) (vs := [10, 9]) (h := fun i => .tuple [.int (i / e), .int (i % e)]) (c := fun i => !(f (i / e) (i % e) == g (i / e) (i % e))) hs spe.sz fun i hi => by
    have l10 : 10 < η.length := by omega
    have d1 := div_lt (k := (i : Int)) (n := p) (m := e) (by omega) (by rw [← Int.natCast_mul]; omega) g0
    have m1 := mod_lt (k := (i : Int)) g0
    refine ⟨((wipeE η [10, 9]).set 10 (some (.int ((i : Int) / e)))).set 9 (some (.int ((i : Int) % e))), rfl, ?_, fun _ => ?_⟩
    · have q9 : (((wipeE η [10, 9]).set 10 (some (PyData.int ((i : Int) / e)))).set 9 (some (.int ((i : Int) % e))))[9]? = some (some (.int ((i : Int) % e))) := List.getElem?_set_self (by simp; omega)
      have q10 : (((wipeE η [10, 9]).set 10 (some (PyData.int ((i : Int) / e)))).set 9 (some (.int ((i : Int) % e))))[10]? = some (some (.int ((i : Int) / e))) := by
        rw [List.getElem?_set_ne (by decide)]
        exact List.getElem?_set_self (by simp; omega)
      have q1 : (((wipeE η [10, 9]).set 10 (some (PyData.int ((i : Int) / e)))).set 9 (some (.int ((i : Int) % e))))[1]? = some (some (cl p e f)) := by
        simp; exact e1
      have q2 : (((wipeE η [10, 9]).set 10 (some (PyData.int ((i : Int) / e)))).set 9 (some (.int ((i : Int) % e))))[2]? = some (some (cl p e g)) := by
        simp; exact e2'
      rw [bCmp_s, ix2_at q1 (v_at q10) (v_at q9) d1.1 d1.2 m1.1 m1.2, ret_bind, ix2_at q2 (v_at q10) (v_at q9) d1.1 d1.2 m1.1 m1.2, ret_bind, neD_i]
      rfl
    · refine pair_at (v_at ?_) (v_at ?_)
      · rw [List.getElem?_set_ne (by decide)]
        exact List.getElem?_set_self (by simp; omega)
      · exact List.getElem?_set_self (by simp; omega)
  rw [key]
  unfold apL cf
  rw [List.map_map]
  rfl
def hdP : List (Int × Int) → D
  | [] => .none
  | q :: _ => pr q
theorem ap_if {L : List (Int × Int)} {η : Env} (h : η[11]? = some (some (.list (L.map pr)))) : eIf (bCmp gtA (eCl lenD (aC (eV 11) aN)) (eC (.int 0))) (e2 ixD (eV 11) (eC (.int 0))) (eC .none) η = M.ret (hdP L) := by
  cases L with
  | nil =>
    rw [eIf_s, bCmp_s, eCl_s, aC_s, v_at h]
    rfl
  | cons q r =>
    have hx : ixD (.list ((q :: r).map pr)) (.int 0) = some (pr q) := by
      obtain ⟨x, e1, e2⟩ := atI_list (xs := (q :: r).map pr) (i := 0) (by omega) (by rw [List.length_map, List.length_cons]; omega)
      have : x = pr q := by
        have e3 : some (pr q) = some x := e2
        exact (Option.some.inj e3).symm
      rw [← this]
      exact e1
    have hc : bCmp gtA (eCl lenD (aC (eV 11) aN)) (eC (.int 0)) η = M.ret true := by
      rw [bCmp_s, eCl_s, aC_s, v_at h]
      show M.lift ((gtA (.int (((q :: r).map pr).length : Nat)) (.int 0)).bind boolD) = _
      rw [gtA_i, decide_eq_true (by rw [List.length_map, List.length_cons]; omega)]
      rfl
    rw [eIf_s, hc, ret_bind, if_pos rfl, e2_s, v_at h, ret_bind, eC_s, ret_bind, hx, lift_some]
    rfl
theorem ap_sh {L : List (Int × Int)} : Sh 1 (hdP L) := by
  cases L with
  | nil => exact Sh.none.mono (by omega)
  | cons q r => exact pair_sh
end
end W3

namespace W3
open PySem PySem.Spec L2
section
variable {p e : Nat} {f g : Int → Int → Int}
def plP : Int → Int → Int := fun i j => 1 - (i + j) % 2
end
end W3

namespace W3
open PySem PySem.Spec L2
section
variable {η : Env} {c k : BV} {u w : SV} {x y z v : EV} {F : FD} {a b d : D} {P : D → Prop} {Q : Fl → Prop}
theorem or_y (h1 : Yld (c η) (· = false)) (h2 : Yld (k η) (· = false)) : Yld (bOr c k η) (· = false) := by
  rw [bOr_s]
  exact h1.bind fun b e => by rw [e, if_neg Bool.false_ne_true]; exact h2
theorem not_y (h : Yld (x η) fun d => d = .bool true) : Yld (bNot (bT x) η) (· = false) := by
  rw [bNot_s, bT_s, bind_assoc_s]
  exact h.bind fun d e => by rw [e]; exact .ret rfl
theorem f_y (h : c η = M.ret false) : Yld (c η) (· = false) := by rw [h]; exact .ret rfl
theorem if_y (h : Yld (c η) (· = false)) (h2 : Yld (w η) Q) : Yld (fSeq (fIf c u fNil) w η) Q := by
  rw [fSeq_s, fIf_s, bind_assoc_s]
  exact h.bind fun b e => by rw [e, if_neg Bool.false_ne_true]; exact h2
theorem own2y (h1 : x η = M.ret a) (h2 : y η = M.ret b) (h : Yld (F [a, b]) P) : Yld (eOwn 2 F (aC x (aC y aN)) η) P := by
  rw [eOwn_s, aC_s, h1, aC_s, h2]; exact h
theorem own3y {c : D} (h1 : x η = M.ret a) (h2 : y η = M.ret b) (h3 : z η = M.ret c) (h : Yld (F [a, b, c]) P) : Yld (eOwn 3 F (aC x (aC y (aC z aN))) η) P := by
  rw [eOwn_s, aC_s, h1, aC_s, h2, aC_s, h3]; exact h
theorem own4y {c : D} {R : D → Prop} (h1 : x η = M.ret a) (h2 : y η = M.ret b) (h3 : z η = M.ret c) (h4 : Yld (v η) R) (h : ∀ d, R d → Yld (F [a, b, c, d]) P) : Yld (eOwn 4 F (aC x (aC y (aC z (aC v aN)))) η) P := by
  rw [eOwn_s, aC_s, h1, aC_s, h2, aC_s, h3, aC_s]
  simp only [ret_bind, bind_assoc_s]
  exact h4.bind fun d hd => h d hd
end
end W3

namespace W3
open PySem PySem.Spec L2
theorem pl_shift {n m : Nat} {k l i j : Int} : (plP ((i - k) % ((2 * n : Nat) : Int)) ((j - l) % ((2 * m : Nat) : Int)) = plP i j ∧ (k + l) % 2 = 0) ∨ (plP ((i - k) % ((2 * n : Nat) : Int)) ((j - l) % ((2 * m : Nat) : Int)) = 1 - plP i j ∧ (k + l) % 2 = 1) := by
  have h1 : ((i - k) % ((2 * n : Nat) : Int)) % 2 = (i - k) % 2 := by
    have := mod_mod (x := i - k) (n := 2) (m := n)
    exact this
  have h2 : ((j - l) % ((2 * m : Nat) : Int)) % 2 = (j - l) % 2 := by
    have := mod_mod (x := j - l) (n := 2) (m := m)
    exact this
  generalize (i - k) % ((2 * n : Nat) : Int) = a at h1 ⊢
  generalize (j - l) % ((2 * m : Nat) : Int) = b at h2 ⊢
  unfold plP
  omega
theorem moved_eq {n m : Nat} (k l : Int) : (cl (2 * n) (2 * m) fun i j => plP ((i - k) % ((2 * n : Nat) : Int)) ((j - l) % ((2 * m : Nat) : Int))) = cl (2 * n) (2 * m) plP ∨ (cl (2 * n) (2 * m) fun i j => plP ((i - k) % ((2 * n : Nat) : Int)) ((j - l) % ((2 * m : Nat) : Int))) = cl (2 * n) (2 * m) fun i j => 1 - plP i j := by
  by_cases h : (k + l) % 2 = 0
  · refine .inl (cl_congr rfl rfl fun i j _ _ _ _ => ?_)
    rcases pl_shift (n := n) (m := m) (k := k) (l := l) (i := i) (j := j) with ⟨e, _⟩ | ⟨_, e⟩
    · exact e
    · omega
  · refine .inr (cl_congr rfl rfl fun i j _ _ _ _ => ?_)
    rcases pl_shift (n := n) (m := m) (k := k) (l := l) (i := i) (j := j) with ⟨_, e⟩ | ⟨e, _⟩
    · omega
    · exact e
theorem nin_f {x y z : EV} {η : Env} {a b d : D} {n : Nat} (hx : x η = M.ret d) (hy : y η = M.ret a) (hz : z η = M.ret b) (sd : Sh n d) (sa : Sh n a) (sb : Sh n b) (hn : n ≤ 60) (h : (PyData.eqv a d || PyData.eqv b d) = true) : bCmp ninAD x (eLst (aC y (aC z aN))) η = M.ret false := by
  have t : eLst (aC y (aC z aN)) η = M.ret (.list [a, b]) := by simp [hy, hz]
  have sh : SeqAt.shaped (.list [a, b]) = true := (Sh.list (.cons sa (.cons sb .nil))).ok (by omega)
  have e1 : ninAD d (.list [a, b]) = some (.bool false) := by
    show (inB d (.list [a, b])).map (fun q => PyData.bool (!q)) = _
    unfold inB
    show (if SeqAt.shaped d = true ∧ SeqAt.shaped (.list [a, b]) = true then some _ else none : Option Bool).map (fun q => PyData.bool (!q)) = _
    rw [if_pos ⟨sd.ok (by omega), sh⟩]
    simp at h
    simp
    rcases h with h | h <;> simp [h]
  rw [bCmp_s, hx, ret_bind, t, ret_bind, e1]; rfl
def chg : Int → Int → Int := fun i j => if (i, j) ∈ [((0 : Int), (0 : Int))] then 1 - plP i j else plP i j
theorem chg_ne {n m : Nat} (hn : 0 < n) (hm : 1 < m) : (PyData.eqv (cl n m plP) (cl n m chg) || PyData.eqv (cl n m fun i j => 1 - plP i j) (cl n m chg)) = false := by
  have a : PyData.eqv (.int (plP 0 0)) (.int (chg 0 0)) = false := by decide
  have b : PyData.eqv (.int (1 - plP 0 1)) (.int (chg 0 1)) = false := by decide
  have a2 : PyData.eqv (cl n m plP) (cl n m chg) = false := eqv_tup_ne (i := 0) (by omega) (by omega) (by omega) (eqv_tup_ne (i := 0) (by omega) (by omega) (by omega) a)
  have b2 : PyData.eqv (cl n m fun i j => 1 - plP i j) (cl n m chg) = false := eqv_tup_ne (i := 0) (by omega) (by omega) (by omega) (eqv_tup_ne (i := 1) (by omega) (by omega) (by omega) b)
  rw [a2, b2]; rfl
end W3


set_option Elab.async false
set_option linter.all false
set_option maxRecDepth 100000
set_option maxHeartbeats 4000000
/-! PC: least of data, slices from the front, trees of whole numbers. -/
namespace W3
open PySem PySem.Spec L2
open PySem.W (dataLt)
theorem foldl_least {p : D → D → Bool} (hp : ∀ x y, p x y = dataLt y x) : ∀ (xs : List D) (x : D), (xs.foldl (fun a y => if p a y = true then y else a) x ∈ x :: xs) ∧ ∀ y ∈ x :: xs, dataLt y (xs.foldl (fun a y => if p a y = true then y else a) x) = false
  | [], x => ⟨List.mem_cons_self, fun y hy => by rw [List.mem_singleton.mp hy]; exact lt_swo.refl x⟩
  | z :: xs, x => by
    rw [List.foldl_cons]
    by_cases c : p x z = true
    · rw [if_pos c]
      obtain ⟨h1, h2⟩ := foldl_least hp xs z
      refine ⟨List.mem_cons_of_mem _ h1, fun y hy => ?_⟩
      rcases List.mem_cons.mp hy with rfl | hy
      · rw [hp] at c
        exact lt_swo.tr _ _ _ (h2 z List.mem_cons_self) (lt_swo.asym _ _ c)
      · exact h2 y hy
    · rw [if_neg c]
      obtain ⟨h1, h2⟩ := foldl_least hp xs x
      refine ⟨?_, fun y hy => ?_⟩
      · rcases List.mem_cons.mp h1 with h | h
        · rw [h]; exact List.mem_cons_self
        · exact List.mem_cons_of_mem _ (List.mem_cons_of_mem _ h)
      · rcases List.mem_cons.mp hy with rfl | hy
        · exact h2 _ List.mem_cons_self
        · rcases List.mem_cons.mp hy with rfl | hy
          · rw [hp] at c
            exact lt_swo.tr _ _ _ (h2 x List.mem_cons_self) (by simpa using c)
          · exact h2 y (List.mem_cons_of_mem _ hy)
theorem minCD_list (L : List D) : minCD [.list L] = extrD PySem.W.minD [.list L] := rfl
theorem maxCD_list (L : List D) : maxCD [.list L] = extrD PySem.W.maxD [.list L] := rfl
def plainL (L : List D) : Prop := alikes L = true ∧ ∀ d ∈ L, notNone d = true ∧ SeqAt.shaped d = true
theorem plainL.ok {L : List D} (h : plainL L) : (L.all fun d => notNone d && SeqAt.shaped d) = true := List.all_eq_true.mpr fun d hd => by
  rw [Bool.and_eq_true]
  exact h.2 d hd
theorem minD_ok {L : List D} {m : D} (h : plainL L) (hm : m ∈ L) (hl : ∀ x ∈ L, dataLt x m = false) (inj : ∀ x ∈ L, dataLt x m = false → dataLt m x = false → x = m) : minCD [.list L] = some m := by
  rw [minCD_list]
  cases L with
  | nil => cases hm
  | cons x xs =>
    show (if alikes (x :: xs) = true ∧ (x :: xs).all (fun d => notNone d && SeqAt.shaped d) = true then some (PySem.W.minD x xs) else none) = some m
    rw [if_pos ⟨h.1, h.ok⟩]
    obtain ⟨h1, h2⟩ := foldl_least (p := fun a y => dataLt y a) (fun _ _ => rfl) xs x
    exact congrArg some (inj _ h1 (hl _ h1) (h2 m hm))
theorem maxD_ok {L : List D} {m : D} (h : plainL L) (hm : m ∈ L) (hl : ∀ x ∈ L, dataLt m x = false) (inj : ∀ x ∈ L, dataLt x m = false → dataLt m x = false → x = m) : maxCD [.list L] = some m := by
  rw [maxCD_list]
  cases L with
  | nil => cases hm
  | cons x xs =>
    show (if alikes (x :: xs) = true ∧ (x :: xs).all (fun d => notNone d && SeqAt.shaped d) = true then some (PySem.W.maxD x xs) else none) = some m
    rw [if_pos ⟨h.1, h.ok⟩]
    have key : ∀ (xs : List D) (x : D), (xs.foldl (fun a y => if dataLt a y = true then y else a) x ∈ x :: xs) ∧ ∀ y ∈ x :: xs, dataLt (xs.foldl (fun a y => if dataLt a y = true then y else a) x) y = false := by
      intro xs
      induction xs with
      | nil => exact fun x => ⟨List.mem_cons_self, fun y hy => by rw [List.mem_singleton.mp hy]; exact lt_swo.refl x⟩
      | cons z xs ih =>
        intro x
        rw [List.foldl_cons]
        by_cases c : dataLt x z = true
        · rw [if_pos c]
          obtain ⟨h1, h2⟩ := ih z
          refine ⟨List.mem_cons_of_mem _ h1, fun y hy => ?_⟩
          rcases List.mem_cons.mp hy with rfl | hy
          · exact lt_swo.tr _ _ _ (lt_swo.asym _ _ c) (h2 z List.mem_cons_self)
          · exact h2 y hy
        · rw [if_neg c]
          obtain ⟨h1, h2⟩ := ih x
          refine ⟨?_, fun y hy => ?_⟩
          · rcases List.mem_cons.mp h1 with h | h
            · rw [h]; exact List.mem_cons_self
            · exact List.mem_cons_of_mem _ (List.mem_cons_of_mem _ h)
          · rcases List.mem_cons.mp hy with rfl | hy
            · exact h2 _ List.mem_cons_self
            · rcases List.mem_cons.mp hy with rfl | hy
              · exact lt_swo.tr _ _ _ (by simpa using c) (h2 x List.mem_cons_self)
              · exact h2 y (List.mem_cons_of_mem _ hy)
    obtain ⟨h1, h2⟩ := key xs x
    exact congrArg some (inj _ h1 (h2 m hm) (hl _ h1))
/-! whole numbers -/
theorem lt_int (a b : Int) : dataLt (.int a) (.int b) = decide (a < b) := PySem.W.dataLt_int a b
theorem plain_ints (L : List Int) : plainL (L.map .int) := by
  refine ⟨List.all_eq_true.mpr fun d hd => List.all_eq_true.mpr fun e he => ?_, fun d hd => ?_⟩
  · obtain ⟨i, _, rfl⟩ := List.mem_map.mp hd
    obtain ⟨j, _, rfl⟩ := List.mem_map.mp he
    rfl
  · obtain ⟨i, _, rfl⟩ := List.mem_map.mp hd
    exact ⟨rfl, Sh.int.ok⟩
theorem int_inj {m : Int} {L : List Int} : ∀ x ∈ L.map PyData.int, dataLt x (.int m) = false → dataLt (.int m) x = false → x = .int m := fun x hx h1 h2 => by
  obtain ⟨i, _, rfl⟩ := List.mem_map.mp hx
  rw [lt_int] at h1 h2
  have a := of_decide_eq_false h1
  have b := of_decide_eq_false h2
  rw [show i = m by omega]
theorem minI_ok {L : List Int} {m : Int} (hm : m ∈ L) (hl : ∀ x ∈ L, m ≤ x) : minCD [.list (L.map .int)] = some (.int m) :=
  minD_ok (plain_ints L) (List.mem_map.mpr ⟨m, hm, rfl⟩) (fun x hx => by
    obtain ⟨i, hi, rfl⟩ := List.mem_map.mp hx
    rw [lt_int]
    exact decide_eq_false (by have := hl i hi; omega)) int_inj
theorem maxI_ok {L : List Int} {m : Int} (hm : m ∈ L) (hl : ∀ x ∈ L, x ≤ m) : maxCD [.list (L.map .int)] = some (.int m) :=
  maxD_ok (plain_ints L) (List.mem_map.mpr ⟨m, hm, rfl⟩) (fun x hx => by
    obtain ⟨i, hi, rfl⟩ := List.mem_map.mp hx
    rw [lt_int]
    exact decide_eq_false (by have := hl i hi; omega)) int_inj
/-- the first that passes -/
theorem min_first {n k : Nat} {c : Int → Bool} {lo : Int} (hk : k < n) (h : c k = true) (hn : ∀ j : Nat, j < k → c j = false) : minCD [.list (((List.range n).filter fun i : Nat => c i).map fun i : Nat => .int (lo + i))] = some (.int (lo + k)) := by
  have e : (((List.range n).filter fun i : Nat => c i).map fun i : Nat => PyData.int (lo + i)) = (((List.range n).filter fun i : Nat => c i).map fun i : Nat => (lo + i : Int)).map PyData.int := by rw [List.map_map]; rfl
  rw [e]
  refine minI_ok (List.mem_map.mpr ⟨k, List.mem_filter.mpr ⟨List.mem_range.mpr hk, h⟩, rfl⟩) fun x hx => ?_
  obtain ⟨i, hi, rfl⟩ := List.mem_map.mp hx
  obtain ⟨_, h2⟩ := List.mem_filter.mp hi
  have : k ≤ i := Nat.le_of_not_lt fun z => by rw [hn i z] at h2; cases h2
  omega
/-! slices from the front -/
theorem take_rl {n k : Nat} {g : Int → D} (h : k ≤ n) : (rl n g).take k = rl k g := by
  unfold rl
  rw [← List.map_take, List.take_range, Nat.min_eq_left h]
/-- where a bound of a slice lies -/
def clipN (n : Nat) (v : Int) : Nat := if v < 0 then (v + n).toNat else min v.toNat n
theorem clip_eq (n : Nat) (v : Int) : (if v < 0 then max (v + n) 0 else min v n : Int) = clipN n v := by
  unfold clipN
  by_cases c : v < 0
  · rw [if_pos c, if_pos c]; omega
  · rw [if_neg c, if_neg c]; omega
theorem slK_up (n : Nat) (lo hi : Option Int) : slK n lo hi none = ((((lo.map (clipN n)).getD 0 : Nat) : Int), 1, ((hi.map (clipN n)).getD n) - ((lo.map (clipN n)).getD 0)) := by
  have e1 : Builtin.Slice.sliceAdjust lo hi 1 (n : Int) = ((((lo.map (clipN n)).getD 0 : Nat) : Int), (((hi.map (clipN n)).getD n : Nat) : Int)) := by
    unfold Builtin.Slice.sliceAdjust
    cases lo with
    | none =>
      cases hi with
      | none => rfl
      | some b => exact Prod.ext rfl (clip_eq n b)
    | some a =>
      cases hi with
      | none => exact Prod.ext (clip_eq n a) rfl
      | some b => exact Prod.ext (clip_eq n a) (clip_eq n b)
  have e2 : ∀ a b : Nat, Builtin.Slice.slicePlaces (a : Int) (b : Int) 1 = b - a := fun a b => by
    unfold Builtin.Slice.slicePlaces
    rw [if_pos (by decide), Int.ediv_one]
    by_cases c : (a : Int) < b
    · rw [if_pos c]; omega
    · rw [if_neg c]; omega
  unfold slK
  show ((Builtin.Slice.sliceAdjust lo hi 1 n).1, (1 : Int), Builtin.Slice.slicePlaces (Builtin.Slice.sliceAdjust lo hi 1 n).1 (Builtin.Slice.sliceAdjust lo hi 1 n).2 1) = _
  rw [e1, e2]
theorem clipN_le (n : Nat) (v : Int) : clipN n v ≤ n ∨ v < 0 := by
  unfold clipN
  by_cases c : v < 0
  · exact .inr c
  · rw [if_neg c]
    exact .inl (Nat.min_le_right _ _)
theorem pick_up {α : Type} (xs : List α) (a : Nat) : ∀ k : Nat, pickL xs a 1 k = (xs.drop a).take k
  | 0 => by unfold pickL; simp
  | k + 1 => by
    have ih := pick_up xs a k
    unfold pickL at ih ⊢
    rw [List.range_succ, List.filterMap_append, ih, List.take_succ, List.getElem?_drop]
    congr 1
    rw [List.filterMap_cons, List.filterMap_nil, show ((a : Int) + (k : Int) * 1).toNat = a + k by omega]
    cases xs[a + k]? <;> rfl
theorem slice_up {α : Type} (xs : List α) (lo hi : Option Int) : sliceL xs lo hi none = (xs.drop ((lo.map (clipN xs.length)).getD 0)).take ((hi.map (clipN xs.length)).getD xs.length - (lo.map (clipN xs.length)).getD 0) := by
  unfold sliceL
  rw [slK_up]
  exact pick_up _ _ _
theorem slD_tup (ds : List D) (lo hi : Option Int) : slD (.tuple ds) lo hi none = some (.tuple ((ds.drop ((lo.map (clipN ds.length)).getD 0)).take ((hi.map (clipN ds.length)).getD ds.length - (lo.map (clipN ds.length)).getD 0))) := by
  show (if (none : Option Int) = some 0 then none else some (PyData.tuple (sliceL ds lo hi none))) = _
  rw [if_neg (by decide), slice_up]
theorem slD_lst (ds : List D) (lo hi : Option Int) : slD (.list ds) lo hi none = some (.list ((ds.drop ((lo.map (clipN ds.length)).getD 0)).take ((hi.map (clipN ds.length)).getD ds.length - (lo.map (clipN ds.length)).getD 0))) := by
  show (if (none : Option Int) = some 0 then none else some (PyData.list (sliceL ds lo hi none))) = _
  rw [if_neg (by decide), slice_up]
theorem clipN_nat {n k : Nat} (h : k ≤ n) : clipN n (k : Int) = k := by
  unfold clipN
  rw [if_neg (by omega)]
  omega
/-- x[:k] -/
theorem take_tup {n k : Nat} {g : Int → D} (h : k ≤ n) : slD (tup n g) none (some (k : Int)) none = some (tup k g) := by
  unfold tup
  rw [slD_tup]
  show some (PyData.tuple (((rl n g).drop 0).take (clipN (rl n g).length k - 0))) = _
  rw [rl_len, clipN_nat h, List.drop_zero, Nat.sub_zero, take_rl h]
/-! trees of whole numbers -/
inductive IT : D → Prop
  | int (i : Int) : IT (.int i)
  | tup {ds : List D} : (∀ d ∈ ds, IT d) → IT (.tuple ds)
theorem it_cl {p e : Nat} {f : Int → Int → Int} : IT (cl p e f) := .tup fun d hd => by
  obtain ⟨i, _, rfl⟩ := mem_rl hd
  refine .tup fun d hd => ?_
  obtain ⟨j, _, rfl⟩ := mem_rl hd
  exact .int _
theorem IT.eqv {x : D} (h : IT x) : ∀ {y : D}, IT y → PyData.eqv x y = true → x = y := by
  induction h with
  | int i =>
    intro y hy e
    cases hy with
    | int j => rw [show i = j by simpa [PyData.eqv] using e]
    | tup _ => simp [PyData.eqv] at e
  | tup hs ih =>
    rename_i ds
    intro y hy e
    cases hy with
    | int j => simp [PyData.eqv] at e
    | tup hs' =>
      rename_i es
      have e' : PyData.eqvAll ds es = true := by simpa [PyData.eqv] using e
      have key : ∀ (ds es : List D), (∀ d ∈ ds, ∀ {y : D}, IT y → PyData.eqv d y = true → d = y) → (∀ d ∈ es, IT d) → PyData.eqvAll ds es = true → ds = es := by
        intro ds
        induction ds with
        | nil =>
          intro es _ _ h
          cases es with
          | nil => rfl
          | cons _ _ => simp [PyData.eqvAll] at h
        | cons d ds ihd =>
          intro es i1 i2 h
          cases es with
          | nil => simp [PyData.eqvAll] at h
          | cons y es =>
            rw [PyData.eqvAll, Bool.and_eq_true] at h
            rw [i1 d List.mem_cons_self (i2 y List.mem_cons_self) h.1, ihd es (fun d hd => i1 d (List.mem_cons_of_mem _ hd)) (fun d hd => i2 d (List.mem_cons_of_mem _ hd)) h.2]
      rw [key ds es ih hs' e']
/-- the order tells alike ones apart -/
theorem lt_total {x y : D} (al : PySem.W.alike x y = true) (h1 : dataLt x y = false) (h2 : dataLt y x = false) : PyData.eqv x y = true := by
  have e : PySem.W.keyToks x = PySem.W.keyToks y := PyProof.Rows.lex_total (O := PyProof.Rows.itemOrd) _ _ h1 h2
  cases q : PyData.eqv x y with
  | true => rfl
  | false =>
    have := (PySem.W.toks_eqv x y al).2 q [] [Sum.inl 0]
    rw [e, List.append_nil, PyProof.Rows.lex_irrefl] at this
    have pre : ∀ l : List (Int ⊕ List Nat), PyProof.Rows.lexLt PyProof.Rows.itemOrd l (l ++ [Sum.inl 0]) = true := fun l => by
      induction l with
      | nil => rfl
      | cons a l ih =>
        rw [List.cons_append, PyProof.Rows.lex_cons]
        have : PyProof.Rows.itemOrd.blt a a = false := PyProof.Rows.itemOrd.irrefl a
        rw [this, ih]
        rfl
    rw [pre] at this
    cases this
/-- the least of some alike trees of whole numbers -/
noncomputable def minOf (S : D → Prop) : D := @dite _ (∃ m, S m ∧ ∀ x, S x → dataLt x m = false) (Classical.propDecidable _) (fun h => Classical.choose h) fun _ => .none
theorem minOf_ok {S : D → Prop} {L : List D} (hS : ∀ x, S x ↔ x ∈ L) (h : plainL L) (hi : ∀ x ∈ L, IT x) (h0 : L ≠ []) : minCD [.list L] = some (minOf S) ∧ S (minOf S) ∧ ∀ x, S x → dataLt x (minOf S) = false := by
  have ex : ∃ m, S m ∧ ∀ x, S x → dataLt x m = false := by
    cases L with
    | nil => exact absurd rfl h0
    | cons x xs =>
      obtain ⟨h1, h2⟩ := foldl_least (p := fun a y => dataLt y a) (fun _ _ => rfl) xs x
      exact ⟨_, (hS _).mpr h1, fun y hy => h2 y ((hS y).mp hy)⟩
  have e : minOf S = Classical.choose ex := by unfold minOf; rw [dif_pos ex]
  obtain ⟨s1, s2⟩ := Classical.choose_spec ex
  rw [← e] at s1 s2
  refine ⟨minD_ok h ((hS _).mp s1) (fun x hx => s2 x ((hS x).mpr hx)) fun x hx a b => ?_, s1, s2⟩
  have al := alikes_all h.1 x hx _ ((hS _).mp s1)
  exact (hi x hx).eqv (hi _ ((hS _).mp s1)) (lt_total al a b)
end W3

set_option Elab.async false
set_option linter.all false
set_option maxRecDepth 100000
set_option maxHeartbeats 4000000
/-! PD: two clauses with a test, lists of pairs, sorted lists. -/
namespace W3
open PySem PySem.Spec L2
open PySem.W (dataLt)
theorem lc2M_fl {f : GV} {t : BV} {src1 : IV} {f1 : GV} {t1 : BV} {x : EV} {vs1 : List Nat} {η : Env} {n m : Nat} {g : Int → D} {c : Nat → Nat → Bool} {H : Nat → Nat → D}
    (hb : ∀ i : Nat, i < n → ∃ η1 g1, f (g i) η = some η1 ∧ t η1 = M.ret true ∧ src1 η1 = M.ret (rl m g1) ∧ ∀ j : Nat, j < m → ∃ η2, f1 (g1 j) (wipeE η1 vs1) = some η2 ∧ t1 η2 = M.ret (c i j) ∧ (c i j = true → x η2 = M.ret (H i j))) :
    lc2M f t src1 f1 t1 x vs1 η (rl n g) = M.ret (((List.range (n * m)).filter fun k : Nat => c (k / m) (k % m)).map fun k : Nat => H (k / m) (k % m)) := by
  have key : ∀ l : List Nat, (∀ i ∈ l, i < n) → lc2M f t src1 f1 t1 x vs1 η (l.map fun i : Nat => g (i : Int)) = M.ret (l.map fun i : Nat => (((List.range m).filter fun j => c i j).map fun j => H i j)).flatten := by
    intro l
    induction l with
    | nil => intro _; rfl
    | cons a l ih =>
      intro hl
      obtain ⟨η1, g1, e1, e2, e3, e4⟩ := hb a (hl a List.mem_cons_self)
      rw [List.map_cons, List.map_cons, List.flatten_cons]
      unfold lc2M
      rw [e1]
      dsimp only
      rw [e2, ret_bind, if_pos rfl, e3, ret_bind, lcM_fl (c := fun j => c a j.toNat) (h := fun j => H a j.toNat) e4, ret_bind, ih fun i hi => hl i (List.mem_cons_of_mem _ hi), ret_bind]
      rfl
  have fl : ∀ k : Nat, ((List.range k).map fun i : Nat => (((List.range m).filter fun j => c i j).map fun j => H i j)).flatten = ((List.range (k * m)).filter fun k : Nat => c (k / m) (k % m)).map fun k : Nat => H (k / m) (k % m) := by
    intro k
    induction k with
    | zero => rw [Nat.zero_mul]; rfl
    | succ k ih =>
      rw [List.range_succ, List.map_append, List.flatten_append, ih, List.map_cons, List.map_nil, List.flatten_cons, List.flatten_nil, List.append_nil, Nat.succ_mul, List.range_add, List.filter_append, List.map_append]
      congr 1
      rw [List.filter_map, List.map_map]
      have q : ∀ j ∈ List.range m, (k * m + j) / m = k ∧ (k * m + j) % m = j := fun j hj => by
        have hj := List.mem_range.mp hj
        have hm : 0 < m := by omega
        rw [Nat.mul_comm k m, Nat.mul_add_div hm, Nat.mul_add_mod, Nat.div_eq_of_lt hj, Nat.mod_eq_of_lt hj]
        exact ⟨rfl, rfl⟩
      have q1 : (List.range m).filter (fun j => c k j) = (List.range m).filter ((fun k => c (k / m) (k % m)) ∘ fun x => k * m + x) := by
        apply List.filter_congr
        intro j hj
        show c k j = c ((k * m + j) / m) ((k * m + j) % m)
        rw [(q j hj).1, (q j hj).2]
      rw [q1]
      apply List.map_congr_left
      intro j hj
      have hj' := (List.mem_filter.mp hj).1
      show H k j = H ((k * m + j) / m) ((k * m + j) % m)
      rw [(q j hj').1, (q j hj').2]
  rw [show rl n g = (List.range n).map fun i : Nat => g (i : Int) from rfl, key _ fun i hi => List.mem_range.mp hi, fl]
theorem eLc2_fl {src : IV} {f : GV} {t : BV} {src1 : IV} {f1 : GV} {t1 : BV} {x : EV} {vs vs1 : List Nat} {η : Env} {n m : Nat} {g : Int → D} {c : Nat → Nat → Bool} {H : Nat → Nat → D} (hs : src η = M.ret (rl n g)) (hn : n * m ≤ sizeLine)
    (hb : ∀ i : Nat, i < n → ∃ η1 g1, f (g i) (wipeE η vs) = some η1 ∧ t η1 = M.ret true ∧ src1 η1 = M.ret (rl m g1) ∧ ∀ j : Nat, j < m → ∃ η2, f1 (g1 j) (wipeE η1 vs1) = some η2 ∧ t1 η2 = M.ret (c i j) ∧ (c i j = true → x η2 = M.ret (H i j))) :
    eLc2 src f t src1 f1 t1 x vs vs1 η = M.ret (.list (((List.range (n * m)).filter fun k : Nat => c (k / m) (k % m)).map fun k : Nat => H (k / m) (k % m))) := by
  unfold eLc2
  rw [hs, ret_bind, lc2M_fl hb, noExc_ret, ret_bind]
  unfold finL
  rw [List.length_map, if_pos (Nat.le_trans (List.length_filter_le _ _) (by rw [List.length_range]; exact hn))]
  rfl
/-! pairs -/
theorem pr_inj {q r : Int × Int} (h : pr q = pr r) : q = r := by
  unfold pr at h
  injection h with h
  injection h with h1 h2
  injection h2 with h2 _
  injection h1 with h1
  injection h2 with h2
  exact Prod.ext h1 h2
theorem sh_pr {q : Int × Int} : Sh 1 (pr q) := .tuple (.cons .int (.cons .int .nil))
theorem it_pr {q : Int × Int} : IT (pr q) := .tup fun d hd => by
  rcases List.mem_cons.mp hd with rfl | hd
  · exact .int _
  · rw [List.mem_singleton.mp hd]; exact .int _
theorem eqv_pr {q r : Int × Int} : PyData.eqv (pr q) (pr r) = decide (q = r) := by
  rw [show pr q = .tuple [.int q.1, .int q.2] from rfl, show pr r = .tuple [.int r.1, .int r.2] from rfl, eqv_pair]
  by_cases c : q = r
  · subst c; simp
  · rw [decide_eq_false c]
    cases h : (q.1 == r.1 && q.2 == r.2) with
    | false => rfl
    | true =>
      rw [Bool.and_eq_true, beq_iff_eq, beq_iff_eq] at h
      exact absurd (Prod.ext h.1 h.2) c
def ltp (q r : Int × Int) : Prop := q.1 < r.1 ∨ (q.1 = r.1 ∧ q.2 < r.2)
theorem lt_pr {q r : Int × Int} : dataLt (pr q) (pr r) = decide (q.1 < r.1 ∨ (q.1 = r.1 ∧ q.2 < r.2)) := PySem.W.dataLt_ii _ _ _ _
theorem any_pr (q : Int × Int) : ∀ L : List (Int × Int), ((L.map pr).any fun d => PyData.eqv d (pr q)) = decide (q ∈ L)
  | [] => rfl
  | r :: L => by
    rw [List.map_cons, List.any_cons, eqv_pr, any_pr q L]
    by_cases c : r = q
    · subst c; simp
    · have c' : ¬ q = r := fun z => c z.symm
      simp [c, c']
theorem sh_prs {L : List (Int × Int)} : Sh 2 (.list (L.map pr)) := .list (.of fun d hd => by
  obtain ⟨q, _, rfl⟩ := List.mem_map.mp hd
  exact sh_pr)
theorem inAD_prs (q : Int × Int) (L : List (Int × Int)) : inAD (pr q) (.list (L.map pr)) = some (.bool (decide (q ∈ L))) := by
  show (inB (pr q) (.list (L.map pr))).map PyData.bool = _
  unfold inB
  show (if SeqAt.shaped (pr q) = true ∧ SeqAt.shaped (.list (L.map pr)) = true then some ((L.map pr).any fun d => PyData.eqv d (pr q)) else none).map PyData.bool = _
  rw [if_pos ⟨sh_pr.ok, sh_prs.ok⟩, any_pr]
  rfl
theorem ninAD_prs (q : Int × Int) (L : List (Int × Int)) : ninAD (pr q) (.list (L.map pr)) = some (.bool (!decide (q ∈ L))) := by
  show (inB (pr q) (.list (L.map pr))).map (fun b => PyData.bool (!b)) = _
  unfold inB
  show (if SeqAt.shaped (pr q) = true ∧ SeqAt.shaped (.list (L.map pr)) = true then some ((L.map pr).any fun d => PyData.eqv d (pr q)) else none).map (fun b => PyData.bool (!b)) = _
  rw [if_pos ⟨sh_pr.ok, sh_prs.ok⟩, any_pr]
  rfl
/-! sorted -/
theorem srt_eq {L L' : List D} (hp : L'.Perm L) (hs : SrtO.Srtd dataLt L') (inj : ∀ x ∈ L, ∀ y ∈ L, dataLt x y = false → dataLt y x = false → x = y) : srtD L = L' := by
  refine SrtO.stb_uniq lt_swo (srtD_srt L) hs ((srtD_stb L).trans ⟨hp.symm, fun x => ?_⟩)
  by_cases ex : ∃ u, u ∈ L ∧ SrtO.eqv dataLt x u = true
  · obtain ⟨u, hu, eu⟩ := ex
    have all : ∀ M : List D, M.Perm L → M.filter (SrtO.eqv dataLt x) = List.replicate (M.filter (SrtO.eqv dataLt x)).length u := fun M hM => by
      refine List.eq_replicate_iff.mpr ⟨rfl, fun v hv => ?_⟩
      obtain ⟨v1, v2⟩ := List.mem_filter.mp hv
      have v1 := hM.mem_iff.mp v1
      have a := SrtO.eqv_iff.mp eu
      have b := SrtO.eqv_iff.mp v2
      exact inj v v1 u hu (lt_swo.tr _ _ _ a.1 b.2) (lt_swo.tr _ _ _ b.1 a.2)
    rw [all L (List.Perm.refl _), all L' hp, (hp.filter _).length_eq]
  · have no : ∀ M : List D, M.Perm L → M.filter (SrtO.eqv dataLt x) = [] := fun M hM => List.filter_eq_nil_iff.mpr fun u hu q => ex ⟨u, hM.mem_iff.mp hu, q⟩
    rw [no L (List.Perm.refl _), no L' hp]
theorem pr_anti {L : List (Int × Int)} : ∀ x ∈ L.map pr, ∀ y ∈ L.map pr, dataLt x y = false → dataLt y x = false → x = y := fun x hx y hy h1 h2 => by
  obtain ⟨q, _, rfl⟩ := List.mem_map.mp hx
  obtain ⟨r, _, rfl⟩ := List.mem_map.mp hy
  rw [lt_pr] at h1 h2
  have a := of_decide_eq_false h1
  have b := of_decide_eq_false h2
  rw [show q = r from Prod.ext (by omega) (by omega)]
theorem sortOk_prs (L : List (Int × Int)) : sortOk (L.map pr) = true := by
  unfold sortOk
  have a : alikes (L.map pr) = true := List.all_eq_true.mpr fun d hd => List.all_eq_true.mpr fun e he => by
    obtain ⟨q, _, rfl⟩ := List.mem_map.mp hd
    obtain ⟨r, _, rfl⟩ := List.mem_map.mp he
    rfl
  have b : (L.map pr).all isTup1 = true := List.all_eq_true.mpr fun d hd => by
    obtain ⟨q, _, rfl⟩ := List.mem_map.mp hd
    rfl
  have c : (L.map pr).all SeqAt.shaped = true := List.all_eq_true.mpr fun d hd => by
    obtain ⟨q, _, rfl⟩ := List.mem_map.mp hd
    exact sh_pr.ok
  rw [a, b, c]
  rfl
/-- sorted(L), L pairs; L' the same ones in order -/
theorem sorted_prs {L L' : List (Int × Int)} (hp : L'.Perm L) (hs : L'.Pairwise ltp) : sortedD [.list (L.map pr)] = some (.list (L'.map pr)) := by
  show (if sortOk (L.map pr) = true then some (PyData.list (srtD (L.map pr))) else none) = _
  rw [if_pos (sortOk_prs L), srt_eq (hp.map pr) ?_ pr_anti]
  refine List.pairwise_map.mpr (hs.imp fun {q r} h => ?_)
  rw [lt_pr]
  exact decide_eq_false (by unfold ltp at h; omega)
end W3

set_option Elab.async false
set_option linter.all false
set_option maxRecDepth 100000
set_option maxHeartbeats 4000000
/-! PE: loops that end of themselves, all and any, dicts of keys. -/
namespace W3
open PySem PySem.Spec L2
/-! while -/
theorem wh_go {c : BV} {f : SV} (Iv : Nat → Env → Prop) (Q : Env → Prop) (hs : ∀ m η, Iv m η → (c η = M.ret false ∧ Q η) ∨ (c η = M.ret true ∧ ∃ η' m', m' < m ∧ f η = M.ret (.nx η') ∧ Iv m' η')) : ∀ (n m : Nat) η, Iv m η → m < n → ∃ η', whGo c f n η = M.ret (.nx η') ∧ Q η'
  | 0, m, η, _, h => absurd h (by omega)
  | n + 1, m, η, hi, h => by
    unfold whGo
    rcases hs m η hi with ⟨e, q⟩ | ⟨e, η', m', hm, e2, hi'⟩
    · exact ⟨η, by rw [e, ret_bind, if_neg Bool.false_ne_true], q⟩
    · obtain ⟨η2, e3, q⟩ := wh_go Iv Q hs n m' η' hi' (by omega)
      exact ⟨η2, by rw [e, ret_bind, if_pos rfl, e2, ret_bind]; exact e3, q⟩
theorem wh_inv {N : Nat} {c : BV} {f : SV} {η : Env} (Iv : Nat → Env → Prop) (Q : Env → Prop) (hs : ∀ m η, Iv m η → (c η = M.ret false ∧ Q η) ∨ (c η = M.ret true ∧ ∃ η' m', m' < m ∧ f η = M.ret (.nx η') ∧ Iv m' η')) {m : Nat} (h : Iv m η) (hm : m < N) : ∃ η', fWh N c f η = M.ret (.nx η') ∧ Q η' := wh_go Iv Q hs N m η h hm
/-! all and any over what a loop gives -/
theorem glM_val {stop : Bool} {f : GV} {t : BV} {x : EV} {η : Env} {c : D → Bool} : ∀ {ds : List D}, (∀ d ∈ ds, ∃ η1, f d η = some η1 ∧ t η1 = M.ret true ∧ x η1 = M.ret (.bool (c d))) → glM stop f t x η ds.length ds = M.ret (if (ds.any fun d => c d == stop) = true then none else some 0)
  | [], h => by unfold glM; rfl
  | d :: ds, h => by
    obtain ⟨η1, e1, e2, e3⟩ := h d List.mem_cons_self
    rw [List.length_cons]
    unfold glM
    rw [e1]
    dsimp only
    rw [e2, ret_bind, if_pos rfl, e3, ret_bind]
    show M.bind (M.ret (c d)) _ = _
    rw [ret_bind, List.any_cons]
    by_cases z : c d = stop
    · rw [if_pos z, z, beq_self_eq_true, Bool.true_or, if_pos rfl]
    · rw [if_neg z, beq_eq_false_iff_ne.mpr z, Bool.false_or]
      exact glM_val fun d hd => h d (List.mem_cons_of_mem _ hd)
theorem gen_val {stop : Bool} {src : IV} {f : GV} {t : BV} {x : EV} {vs : List Nat} {η : Env} {ds : List D} {c : D → Bool} (hs : src η = M.ret ds) (h : ∀ d ∈ ds, ∃ η1, f d (wipeE η vs) = some η1 ∧ t η1 = M.ret true ∧ x η1 = M.ret (.bool (c d))) : eGen stop src f t x vs η = M.ret (.bool (if (ds.any fun d => c d == stop) = true then stop else !stop)) := by
  unfold eGen
  rw [hs, ret_bind, glM_val h, noExc_ret, ret_bind]
  split <;> rfl
theorem any_rl {n : Nat} {g : Int → D} {c : D → Bool} : ((rl n g).any c) = true ↔ ∃ i : Nat, i < n ∧ c (g i) = true := by
  unfold rl
  rw [List.any_map, List.any_eq_true]
  exact ⟨fun ⟨i, hi, h⟩ => ⟨i, List.mem_range.mp hi, h⟩, fun ⟨i, hi, h⟩ => ⟨i, List.mem_range.mpr hi, h⟩⟩
/-! lists of truths -/
theorem bools_map {α : Type} (L : List α) (c : α → Bool) : boolsD (L.map fun a => .bool (c a)) = some (L.map c) := by
  induction L with
  | nil => rfl
  | cons a L ih =>
    rw [List.map_cons]
    show (boolsD _).map (c a :: ·) = _
    rw [ih]; rfl
theorem any_map {α : Type} (L : List α) (c : α → Bool) : anyCD [.list (L.map fun a => .bool (c a))] = some (.bool (L.any c)) := by
  show (boolsD _).map (fun bs => PyData.bool (bs.any id)) = _
  rw [bools_map]
  show some (PyData.bool ((L.map c).any id)) = _
  rw [List.any_map]; rfl
theorem any_list {src : IV} {f : GV} {x : EV} {vs : List Nat} {η : Env} {α : Type} {L : List α} {g : α → D} {c : α → Bool} (hs : src η = M.ret (L.map g)) (hl : L.length ≤ sizeLine) (h : ∀ a ∈ L, ∃ η1, f (g a) (wipeE η vs) = some η1 ∧ x η1 = M.ret (.bool (c a))) : eCl anyCD (aC (eLc src f bYes x vs) aN) η = M.ret (.bool (L.any c)) := by
  have key : ∀ L : List α, (∀ a ∈ L, ∃ η1, f (g a) (wipeE η vs) = some η1 ∧ x η1 = M.ret (.bool (c a))) → lcM f bYes x (wipeE η vs) (L.map g) = M.ret (L.map fun a => .bool (c a)) := by
    intro L
    induction L with
    | nil => intro _; rfl
    | cons a L ih =>
      intro h
      obtain ⟨η1, e1, e2⟩ := h a List.mem_cons_self
      rw [List.map_cons, List.map_cons]
      unfold lcM
      rw [e1]
      dsimp only
      rw [bYes_s, ret_bind, if_pos rfl, e2, ret_bind, ih fun a ha => h a (List.mem_cons_of_mem _ ha), ret_bind]
  have e1 : eLc src f bYes x vs η = M.ret (.list (L.map fun a => .bool (c a))) := by
    unfold eLc
    rw [hs, ret_bind, key L h, noExc_ret, ret_bind]
    unfold finL
    rw [List.length_map, if_pos hl]
    rfl
  rw [eCl_s, aC_s, e1]
  show M.lift (anyCD [.list _]) = _
  rw [any_map]
  rfl
theorem list_list {src : IV} {f : GV} {t : BV} {x : EV} {vs : List Nat} {η : Env} {α : Type} {L : List α} {g h : α → D} {c : α → Bool} (hs : src η = M.ret (L.map g)) (hl : L.length ≤ sizeLine) (hb : ∀ a ∈ L, ∃ η1, f (g a) (wipeE η vs) = some η1 ∧ t η1 = M.ret (c a) ∧ (c a = true → x η1 = M.ret (h a))) : eLc src f t x vs η = M.ret (.list ((L.filter c).map h)) := by
  have key : ∀ L : List α, (∀ a ∈ L, ∃ η1, f (g a) (wipeE η vs) = some η1 ∧ t η1 = M.ret (c a) ∧ (c a = true → x η1 = M.ret (h a))) → lcM f t x (wipeE η vs) (L.map g) = M.ret ((L.filter c).map h) := by
    intro L
    induction L with
    | nil => intro _; rfl
    | cons a L ih =>
      intro hb
      obtain ⟨η1, e1, e2, e3⟩ := hb a List.mem_cons_self
      rw [List.map_cons]
      unfold lcM
      rw [e1]
      dsimp only
      rw [e2, ret_bind]
      by_cases z : c a = true
      · rw [if_pos z, e3 z, ret_bind, ih fun a ha => hb a (List.mem_cons_of_mem _ ha), ret_bind, List.filter_cons_of_pos z]
        rfl
      · rw [if_neg z, ih fun a ha => hb a (List.mem_cons_of_mem _ ha), List.filter_cons_of_neg z]
  unfold eLc
  rw [hs, ret_bind, key L hb, noExc_ret, ret_bind]
  unfold finL
  rw [List.length_map, if_pos (Nat.le_trans (List.length_filter_le _ _) hl)]
  rfl
/-! dicts of rows -/
def kl (l : List Int) : UK := .inr (l.map .inl)
theorem kl_inj {l m : List Int} (h : kl l = kl m) : l = m := by
  have h1 := Sum.inr.inj h
  exact (List.map_inj_right fun _ _ z => Sum.inl.inj z).mp h1
theorem keyKs_ints : ∀ l : List Int, keyKs (l.map .int) = some (l.map .inl)
  | [] => rfl
  | i :: l => by
    show (keyK (.int i)).bind (fun k => (keyKs (l.map .int)).map (k :: ·)) = _
    rw [keyKs_ints l]; rfl
theorem keyU_kl {l : List Int} (h : l ≠ []) : keyU (.tuple (l.map .int)) = some (kl l) := by
  show (if (l.map PyData.int).any isI = true then (keyKs (l.map .int)).map Sum.inr else none) = _
  rw [if_pos (by
    cases l with
    | nil => exact absurd rfl h
    | cons i l => rfl), keyKs_ints]
  rfl
theorem keyR_kl {l : List Int} : keyR (.tuple (l.map .int)) = some (kl l) := by
  show (keyKs (l.map .int)).map Sum.inr = _
  rw [keyKs_ints]; rfl
theorem uD_kl {l : List Int} : keyR (uD (kl l)) = some (kl l) := keyR_uD _
def okL (kd : List (D × D)) : Prop := ∀ x ∈ kd, ∃ l : List Int, keyR x.1 = some (kl l)
theorem okL.kinds {kd : List (D × D)} (h : okL kd) (l : List Int) : kindsU kd (kl l) = true := by
  unfold kindsU
  refine List.all_eq_true.mpr fun x hx => ?_
  obtain ⟨r, e⟩ := h x hx
  rw [e]
  rfl
theorem okL.none {kd : List (D × D)} (h : okL kd) : ∀ x ∈ kd, x.1 ≠ .none := fun x hx z => by
  obtain ⟨l, e⟩ := h x hx
  rw [z] at e
  cases e
theorem okL.dictD {kd : List (D × D)} (h : okL kd) : dictD kd = some (.dict kd) := by
  unfold W3.dictD
  split
  · exact absurd rfl (h.none _ List.mem_cons_self)
  · rfl
theorem okL.len {kd : List (D × D)} (h : okL kd) : lenA [.dict kd] = some (.int kd.length) := by
  show (unl kd).map (fun k => PyData.int k.length) = _
  rw [unl_keys h.none]
  rfl
theorem setL {kd : List (D × D)} (h : okL kd) (l : List Int) (d : D) : okL (setU kd (kl l) d) ∧ (setU kd (kl l) d).length = (if hasU kd (kl l) = true then kd.length else kd.length + 1) ∧ ∀ m, hasU (setU kd (kl l) d) (kl m) = (hasU kd (kl m) || decide (l = m)) := by
  unfold setU
  by_cases c : hasU kd (kl l) = true
  · rw [if_pos c, if_pos c]
    refine ⟨fun x hx => ?_, List.length_map _, fun m => ?_⟩
    · obtain ⟨y, hy, e⟩ := List.mem_map.mp hx
      obtain ⟨r, er⟩ := h y hy
      refine ⟨r, ?_⟩
      rw [← e]
      split <;> exact er
    · have e : hasU (kd.map fun x => if keyR x.1 = some (kl l) then (x.1, d) else x) (kl m) = hasU kd (kl m) := by
        unfold hasU
        rw [List.any_map]
        congr 1
        funext x
        show decide (keyR (if keyR x.1 = some (kl l) then (x.1, d) else x).1 = some (kl m)) = _
        split <;> rfl
      rw [e]
      by_cases z : l = m
      · subst z; rw [c]; rfl
      · rw [decide_eq_false z, Bool.or_false]
  · rw [if_neg c, if_neg c]
    refine ⟨fun x hx => ?_, List.length_append, fun m => ?_⟩
    · rcases List.mem_append.mp hx with z | z
      · exact h x z
      · rw [List.mem_singleton.mp z]
        exact ⟨l, uD_kl⟩
    · unfold hasU
      rw [List.any_append, List.any_cons, List.any_nil, Bool.or_false]
      congr 1
      show decide (keyR (uD (kl l)) = some (kl m)) = _
      rw [uD_kl]
      exact decide_eq_decide.mpr ⟨fun z => kl_inj (Option.some.inj z), fun z => by rw [z]⟩
/-- how many are first -/
def nF (k : Nat → List Int) (n : Nat) : Nat := ((List.range n).filter fun j => decide (∀ i, i < j → k i ≠ k j)).length
theorem nF_zero {k : Nat → List Int} : nF k 0 = 0 := rfl
theorem nF_succ {k : Nat → List Int} {n : Nat} : nF k (n + 1) = nF k n + if ∀ i, i < n → k i ≠ k n then 1 else 0 := by
  unfold nF
  rw [List.range_succ, List.filter_append, List.length_append]
  congr 1
  by_cases c : ∀ i, i < n → k i ≠ k n
  · rw [if_pos c, List.filter_cons_of_pos (by rw [decide_eq_true c])]
    rfl
  · rw [if_neg c, List.filter_cons_of_neg (by rw [decide_eq_false c]; exact Bool.false_ne_true)]
    rfl
theorem nF_le {k : Nat → List Int} {n : Nat} : nF k n ≤ n := by
  unfold nF
  exact Nat.le_trans (List.length_filter_le _ _) (by rw [List.length_range]; exact Nat.le_refl _)
theorem dc_rows {f : GV} {ek : EV} {η : Env} {n : Nat} {g : Int → D} {k : Nat → List Int} (hn : n ≤ 100000) (hk : ∀ i : Nat, i < n → k i ≠ [] ∧ ∃ η1, f (g i) η = some η1 ∧ ek η1 = M.ret (.tuple ((k i).map .int))) : ∃ kd, dcM f bYes ek (eC (.bool true)) η (rl n g) [] = M.ret kd ∧ okL kd ∧ kd.length = nF k n := by
  have key : ∀ (m i : Nat) (acc : List (D × D)), i + m = n → okL acc → acc.length = nF k i → (∀ l, hasU acc (kl l) = decide (∃ j, j < i ∧ k j = l)) → ∃ kd, dcM f bYes ek (eC (.bool true)) η ((rl n g).drop i) acc = M.ret kd ∧ okL kd ∧ kd.length = nF k n := by
    intro m
    induction m with
    | zero =>
      intro i acc e h1 h2 h3
      have : i = n := by omega
      subst this
      rw [List.drop_of_length_le (by rw [rl_len]; exact Nat.le_refl _)]
      exact ⟨acc, rfl, h1, h2⟩
    | succ m ih =>
      intro i acc e h1 h2 h3
      have hi : i < n := by omega
      obtain ⟨k0, η1, e1, e2⟩ := hk i hi
      have hl : i < (rl n g).length := by rw [rl_len]; exact hi
      have hx : (rl n g)[i] = g i := by
        have := rl_get (g := g) hi
        rw [List.getElem?_eq_getElem hl] at this
        exact Option.some.inj this
      obtain ⟨s1, s2, s3⟩ := setL h1 (k i) (.bool true)
      obtain ⟨kd, r1, r2⟩ := ih (i + 1) (setU acc (kl (k i)) (.bool true)) (by omega) s1 (by
        rw [s2, nF_succ, h2, h3]
        by_cases c : ∃ j, j < i ∧ k j = k i
        · rw [if_pos (decide_eq_true c), if_neg fun z => (by obtain ⟨j, a, b⟩ := c; exact z j a b)]
          rfl
        · rw [if_neg (by rw [decide_eq_false c]; exact Bool.false_ne_true), if_pos fun j a b => c ⟨j, a, b⟩]) fun l => by
        rw [s3, h3]
        by_cases c : ∃ j, j < i ∧ k j = l
        · rw [decide_eq_true c, Bool.true_or, decide_eq_true]
          obtain ⟨j, a, b⟩ := c
          exact ⟨j, by omega, b⟩
        · rw [decide_eq_false c, Bool.false_or]
          exact decide_eq_decide.mpr ⟨fun z => ⟨i, by omega, z⟩, fun ⟨j, a, b⟩ => by
            rcases Nat.lt_or_ge j i with q | q
            · exact absurd ⟨j, q, b⟩ c
            · rw [show j = i by omega] at b; exact b⟩
      refine ⟨kd, ?_, r2⟩
      rw [List.drop_eq_getElem_cons hl, hx]
      unfold dcM
      rw [e1]
      dsimp only
      have ep : ((keyU (.tuple ((k i).map .int))).bind fun u => putU acc u (.bool true)) = some (setU acc (kl (k i)) (.bool true)) := by
        rw [keyU_kl k0]
        show putU acc (kl (k i)) (.bool true) = _
        unfold putU
        have := nF_le (k := k) (n := i)
        rw [if_pos ⟨h1.kinds _, by rw [h2, sizeLine_eq]; omega⟩]
      rw [bYes_s, ret_bind, if_pos rfl, e2, ret_bind, eC_s, ret_bind, ep, lift_some, ret_bind]
      exact r1
  exact key n 0 [] (by omega) (fun x hx => by cases hx) rfl fun l => by
    rw [decide_eq_false (by rintro ⟨j, h, _⟩; omega)]
    rfl
theorem eDc_rows {src : IV} {f : GV} {ek : EV} {vs : List Nat} {η : Env} {n : Nat} {g : Int → D} {k : Nat → List Int} (hs : src η = M.ret (rl n g)) (hn : n ≤ 100000) (hk : ∀ i : Nat, i < n → k i ≠ [] ∧ ∃ η1, f (g i) (wipeE η vs) = some η1 ∧ ek η1 = M.ret (.tuple ((k i).map .int))) : ∃ kd, eDc src f bYes ek (eC (.bool true)) vs η = M.ret (.dict kd) ∧ lenA [.dict kd] = some (.int (nF k n)) := by
  obtain ⟨kd, h1, h2, h3⟩ := dc_rows hn hk
  refine ⟨kd, ?_, by rw [h2.len, h3]⟩
  unfold eDc
  rw [hs, ret_bind, h1, noExc_ret, ret_bind, h2.dictD]
  rfl
/-- a period leaves the first ones -/
theorem nF_per {k k' : Nat → List Int} {n m : Nat} (hm : ∀ i j, i < m → j < m → (k i = k j ↔ k' i = k' j)) (hp : ∀ j, n ≤ j → j < m → ∃ i, i < j ∧ k i = k j) (hle : n ≤ m) : nF k m = nF k' n := by
  have h1 : ∀ q, q + n ≤ m → nF k (q + n) = nF k n := by
    intro q
    induction q with
    | zero => intro _; rw [Nat.zero_add]
    | succ q ih =>
      intro hq
      rw [show q + 1 + n = q + n + 1 by omega, nF_succ, ih (by omega), if_neg fun z => (by
        obtain ⟨i, a, b⟩ := hp (q + n) (by omega) (by omega)
        exact z i a b)]
      rfl
  rw [show m = (m - n) + n by omega, h1 _ (by omega)]
  unfold nF
  congr 1
  apply List.filter_congr
  intro j hj
  have hj := List.mem_range.mp hj
  exact decide_eq_decide.mpr ⟨fun z i hi q => z i hi ((hm i j (by omega) (by omega)).mpr q), fun z i hi q => z i hi ((hm i j (by omega) (by omega)).mp q)⟩
end W3

set_option Elab.async false
set_option linter.all false
set_option maxRecDepth 100000
set_option maxHeartbeats 4000000
/-! Pk05: cloths without an end, as functions of two whole numbers. -/
namespace W3
open PySem PySem.Spec L2

noncomputable def tb (P : Prop) : Bool := @decide P (Classical.propDecidable P)
theorem tb_t {P : Prop} (h : P) : tb P = true := @decide_eq_true P (Classical.propDecidable P) h
theorem tb_f {P : Prop} (h : ¬ P) : tb P = false := @decide_eq_false P (Classical.propDecidable P) h
theorem tb_iff {P : Prop} : tb P = true ↔ P := ⟨fun h => @of_decide_eq_true P (Classical.propDecidable P) h, tb_t⟩
theorem tb_no {P : Prop} : tb P = false ↔ ¬ P := ⟨fun h p => (by rw [tb_t p] at h; cases h), tb_f⟩
theorem tb_congr {P Q : Prop} (h : P ↔ Q) : tb P = tb Q := by
  by_cases p : P
  · rw [tb_t p, tb_t (h.mp p)]
  · rw [tb_f p, tb_f fun q => p (h.mpr q)]
/-! least numbers -/
theorem ex_least {P : Nat → Prop} (h : ∃ n, P n) : ∃ n, P n ∧ ∀ m, m < n → ¬ P m := by
  obtain ⟨n, hn⟩ := h
  induction n using Nat.strongRecOn with
  | _ n ih =>
    by_cases c : ∃ m, m < n ∧ P m
    · obtain ⟨m, h1, h2⟩ := c
      exact ih m h1 h2
    · exact ⟨n, hn, fun m hm hp => c ⟨m, hm, hp⟩⟩
noncomputable def least (P : Nat → Prop) : Nat := @dite _ (∃ n, P n) (Classical.propDecidable _) (fun h => Classical.choose (ex_least h)) fun _ => 0
theorem least_ok {P : Nat → Prop} (h : ∃ n, P n) : P (least P) ∧ ∀ m, m < least P → ¬ P m := by
  have e : least P = Classical.choose (ex_least h) := by unfold least; rw [dif_pos h]
  rw [e]
  exact Classical.choose_spec (ex_least h)
theorem least_eq {P : Nat → Prop} {n : Nat} (h : P n) (hm : ∀ m, m < n → ¬ P m) : least P = n := by
  obtain ⟨h1, h2⟩ := least_ok ⟨n, h⟩
  rcases Nat.lt_trichotomy (least P) n with c | c | c
  · exact absurd h1 (hm _ c)
  · exact c
  · exact absurd h (h2 _ c)
theorem least_le {P : Nat → Prop} {n : Nat} (h : P n) : least P ≤ n := by
  obtain ⟨h1, h2⟩ := least_ok ⟨n, h⟩
  exact Nat.le_of_not_lt fun c => h2 _ c h
/-! cloths without an end -/
abbrev Z2 := Int → Int → Int
def shf (F : Z2) (a b : Int) : Z2 := fun i j => F (i - a) (j - b)
def Per (F : Z2) (a b : Int) : Prop := shf F a b = F
theorem shf_shf (F : Z2) (a b c d : Int) : shf (shf F a b) c d = shf F (a + c) (b + d) := by
  funext i j
  show F (i - c - a) (j - d - b) = F (i - (a + c)) (j - (b + d))
  rw [show i - c - a = i - (a + c) by omega, show j - d - b = j - (b + d) by omega]
theorem shf_zero (F : Z2) : shf F 0 0 = F := by
  funext i j
  show F (i - 0) (j - 0) = F i j
  rw [Int.sub_zero, Int.sub_zero]
section
variable {F : Z2}
theorem Per.zero : Per F 0 0 := shf_zero F
theorem Per.add {a b c d : Int} (h : Per F a b) (h' : Per F c d) : Per F (a + c) (b + d) := by
  show shf F (a + c) (b + d) = F
  rw [← shf_shf, show shf F a b = F from h]
  exact h'
theorem Per.neg {a b : Int} (h : Per F a b) : Per F (-a) (-b) := by
  have e : shf (shf F a b) (-a) (-b) = F := by
    rw [shf_shf, Int.add_right_neg, Int.add_right_neg, shf_zero]
  rw [show shf F a b = F from h] at e
  exact e
theorem Per.sub {a b c d : Int} (h : Per F a b) (h' : Per F c d) : Per F (a - c) (b - d) := by
  rw [Int.sub_eq_add_neg, Int.sub_eq_add_neg]
  exact h.add h'.neg
theorem Per.muln {a b : Int} (h : Per F a b) : ∀ n : Nat, Per F (n * a) (n * b)
  | 0 => by rw [Int.natCast_zero, Int.zero_mul, Int.zero_mul]; exact .zero
  | n + 1 => by
    have := (Per.muln h n).add h
    rw [show ((n + 1 : Nat) : Int) * a = n * a + a by rw [Int.natCast_add, Int.add_mul]; omega, show ((n + 1 : Nat) : Int) * b = n * b + b by rw [Int.natCast_add, Int.add_mul]; omega]
    exact this
theorem Per.mul {a b : Int} (h : Per F a b) (n : Int) : Per F (n * a) (n * b) := by
  rcases Int.le_total 0 n with c | c
  · obtain ⟨k, rfl⟩ := Int.eq_ofNat_of_zero_le c
    exact h.muln k
  · obtain ⟨k, e⟩ := Int.eq_ofNat_of_zero_le (show 0 ≤ -n by omega)
    have := (h.muln k).neg
    rw [← e, ← Int.neg_mul, ← Int.neg_mul, Int.neg_neg] at this
    exact this
theorem Per.at {a b : Int} (h : Per F a b) (i j : Int) : F (i - a) (j - b) = F i j := congrFun (congrFun h i) j
theorem Per.of {a b : Int} (h : ∀ i j, F (i - a) (j - b) = F i j) : Per F a b := funext fun i => funext fun j => h i j
theorem per_shf {a b c d : Int} : Per (shf F a b) c d ↔ Per F c d := by
  constructor
  · intro h
    refine .of fun i j => ?_
    have := h.at (i + a) (j + b)
    have e : F (i + a - c - a) (j + b - d - b) = F (i + a - a) (j + b - b) := this
    rw [show i + a - c - a = i - c by omega, show j + b - d - b = j - d by omega, show i + a - a = i by omega, show j + b - b = j by omega] at e
    exact e
  · intro h
    show shf (shf F a b) c d = shf F a b
    rw [shf_shf, Int.add_comm a c, Int.add_comm b d, ← shf_shf, show shf F c d = F from h]
end
structure Pd (p e : Nat) (F : Z2) : Prop where
  p0 : 0 < p
  e0 : 0 < e
  dn : Per F p 0
  rt : Per F 0 e
/-- f, repeated -/
def wrp (p e : Nat) (f : Z2) : Z2 := fun i j => f (i % p) (j % e)
theorem wrp_pd {p e : Nat} {f : Z2} (hp : 0 < p) (he : 0 < e) : Pd p e (wrp p e f) := ⟨hp, he, .of fun i j => by
  show f ((i - p) % p) ((j - 0) % e) = f (i % p) (j % e)
  rw [Int.sub_emod_right, Int.sub_zero], .of fun i j => by
  show f ((i - 0) % p) ((j - e) % e) = f (i % p) (j % e)
  rw [Int.sub_emod_right, Int.sub_zero]⟩
theorem wrp_cl {p e : Nat} {f : Z2} : cl p e f = cl p e (wrp p e f) := cl_congr rfl rfl fun i j i0 i1 j0 j1 => by
  show f i j = f (i % p) (j % e)
  rw [Int.emod_eq_of_lt i0 i1, Int.emod_eq_of_lt j0 j1]
section
variable {p e : Nat} {F G : Z2}
theorem Pd.mod (h : Pd p e F) (i j : Int) : F (i % p) (j % e) = F i j := by
  have h1 := (h.dn.mul (i / p)).at i j
  have h2 := (h.rt.mul (j / e)).at (i % p) j
  rw [Int.mul_zero, Int.sub_zero] at h1 h2
  have e1 : i - i / p * p = i % p := by
    have := Int.emod_add_mul_ediv i p
    rw [Int.mul_comm] at this
    omega
  have e2 : j - j / e * e = j % e := by
    have := Int.emod_add_mul_ediv j e
    rw [Int.mul_comm] at this
    omega
  rw [e1] at h1
  rw [e2] at h2
  rw [h2, h1]
theorem Pd.shf (h : Pd p e F) (a b : Int) : Pd p e (shf F a b) := ⟨h.p0, h.e0, per_shf.mpr h.dn, per_shf.mpr h.rt⟩
/-- equal on one repeat -/
theorem Pd.ext (h : Pd p e F) (h' : Pd p e G) (k : ∀ i j : Int, 0 ≤ i → i < p → 0 ≤ j → j < e → F i j = G i j) : F = G := by
  funext i j
  rw [← h.mod i j, ← h'.mod i j]
  exact k _ _ (mod_lt h.p0).1 (mod_lt h.p0).2 (mod_lt h.e0).1 (mod_lt h.e0).2
theorem Pd.big (h : Pd p e F) {m n : Nat} (hm : 0 < m) (hn : 0 < n) : Pd (p * m) (e * n) F := ⟨Nat.mul_pos h.p0 hm, Nat.mul_pos h.e0 hn, by
  have := h.dn.mul m
  rw [Int.mul_zero, Int.mul_comm, ← Int.natCast_mul] at this
  exact this, by
  have := h.rt.mul n
  rw [Int.mul_zero, Int.mul_comm, ← Int.natCast_mul] at this
  exact this⟩
end
/-! the straight repeat -/
noncomputable def P0 (F : Z2) : Nat := least fun n => 0 < n ∧ Per F n 0
noncomputable def E0 (F : Z2) : Nat := least fun n => 0 < n ∧ Per F 0 n
section
variable {p e : Nat} {F : Z2}
theorem Pd.p_ok (h : Pd p e F) : (0 < P0 F ∧ Per F (P0 F) 0) ∧ ∀ m, m < P0 F → ¬ (0 < m ∧ Per F m 0) := least_ok (P := fun n : Nat => 0 < n ∧ Per F n 0) ⟨p, h.p0, h.dn⟩
theorem Pd.e_ok (h : Pd p e F) : (0 < E0 F ∧ Per F 0 (E0 F)) ∧ ∀ m, m < E0 F → ¬ (0 < m ∧ Per F 0 m) := least_ok (P := fun n : Nat => 0 < n ∧ Per F 0 n) ⟨e, h.e0, h.rt⟩
theorem Pd.p_le (h : Pd p e F) : P0 F ≤ p := least_le (P := fun n : Nat => 0 < n ∧ Per F n 0) ⟨h.p0, h.dn⟩
theorem Pd.e_le (h : Pd p e F) : E0 F ≤ e := least_le (P := fun n : Nat => 0 < n ∧ Per F 0 n) ⟨h.e0, h.rt⟩
theorem Pd.lr (h : Pd p e F) : Pd (P0 F) (E0 F) F := ⟨h.p_ok.1.1, h.e_ok.1.1, h.p_ok.1.2, h.e_ok.1.2⟩
theorem P0_shf {a b : Int} : P0 (shf F a b) = P0 F := by
  unfold P0
  congr 1
  funext n
  rw [per_shf]
theorem E0_shf {a b : Int} : E0 (shf F a b) = E0 F := by
  unfold E0
  congr 1
  funext n
  rw [per_shf]
/-- what a step down that is a period divides into -/
theorem Pd.p_dvd (h : Pd p e F) {n : Int} (hn : Per F n 0) : n % P0 F = 0 := by
  have h1 := h.p_ok
  have h2 := hn.sub (h1.1.2.mul (n / P0 F))
  rw [Int.mul_zero, Int.sub_zero] at h2
  have e1 : n - n / P0 F * P0 F = n % P0 F := by
    have := Int.emod_add_mul_ediv n (P0 F)
    rw [Int.mul_comm] at this
    omega
  rw [e1] at h2
  have b := mod_lt (k := n) h1.1.1
  obtain ⟨k, hk⟩ := Int.eq_ofNat_of_zero_le b.1
  rw [hk] at h2 b ⊢
  rcases Nat.eq_zero_or_pos k with c | c
  · rw [c]; rfl
  · exact absurd ⟨c, h2⟩ (h1.2 k (by omega))
theorem Pd.e_dvd (h : Pd p e F) {n : Int} (hn : Per F 0 n) : n % E0 F = 0 := by
  have h1 := h.e_ok
  have h2 := hn.sub (h1.1.2.mul (n / E0 F))
  rw [Int.mul_zero, Int.sub_zero] at h2
  have e1 : n - n / E0 F * E0 F = n % E0 F := by
    have := Int.emod_add_mul_ediv n (E0 F)
    rw [Int.mul_comm] at this
    omega
  rw [e1] at h2
  have b := mod_lt (k := n) h1.1.1
  obtain ⟨k, hk⟩ := Int.eq_ofNat_of_zero_le b.1
  rw [hk] at h2 b ⊢
  rcases Nat.eq_zero_or_pos k with c | c
  · rw [c]; rfl
  · exact absurd ⟨c, h2⟩ (h1.2 k (by omega))
end
/-! the basis -/
noncomputable def Ab (F : Z2) : Nat := least fun n => 0 < n ∧ ∃ r : Int, Per F n r
noncomputable def Bb (F : Z2) : Nat := least fun r => Per F (Ab F) r
section
variable {p e : Nat} {F : Z2}
theorem Pd.a_ok (h : Pd p e F) : (0 < Ab F ∧ ∃ r : Int, Per F (Ab F) r) ∧ ∀ m, m < Ab F → ¬ (0 < m ∧ ∃ r : Int, Per F m r) := least_ok (P := fun n : Nat => 0 < n ∧ ∃ r : Int, Per F n r) ⟨p, h.p0, 0, h.dn⟩
theorem Pd.a_le (h : Pd p e F) : Ab F ≤ p := least_le (P := fun n : Nat => 0 < n ∧ ∃ r : Int, Per F n r) ⟨h.p0, 0, h.dn⟩
/-- a side may be taken below the step right -/
theorem Pd.side (h : Pd p e F) {n r : Int} (hr : Per F n r) : Per F n (r % E0 F) := by
  have h2 := hr.sub (h.e_ok.1.2.mul (r / E0 F))
  rw [Int.mul_zero, Int.sub_zero] at h2
  have e1 : r - r / E0 F * E0 F = r % E0 F := by
    have := Int.emod_add_mul_ediv r (E0 F)
    rw [Int.mul_comm] at this
    omega
  rw [e1] at h2
  exact h2
theorem Pd.b_ok (h : Pd p e F) : Per F (Ab F) (Bb F) ∧ Bb F < E0 F ∧ ∀ m, m < Bb F → ¬ Per F (Ab F) m := by
  obtain ⟨r, hr⟩ := h.a_ok.1.2
  have b := mod_lt (k := r) h.e_ok.1.1
  obtain ⟨k, hk⟩ := Int.eq_ofNat_of_zero_le b.1
  have hs := h.side hr
  rw [hk] at hs b
  have h2 := least_ok (P := fun r : Nat => Per F (Ab F) r) ⟨k, hs⟩
  refine ⟨h2.1, ?_, h2.2⟩
  have := least_le (P := fun r : Nat => Per F (Ab F) r) hs
  show least (fun r : Nat => Per F (Ab F) r) < _
  omega
theorem Ab_shf {a b : Int} : Ab (shf F a b) = Ab F := by
  unfold Ab
  congr 1
  funext n
  simp only [per_shf]
theorem Bb_shf {a b : Int} : Bb (shf F a b) = Bb F := by
  unfold Bb
  congr 1
  funext n
  rw [per_shf, Ab_shf]
/-- the periods -/
theorem Pd.lat (h : Pd p e F) (d r : Int) : Per F d r ↔ ∃ k m : Int, d = k * Ab F ∧ r = k * Bb F + m * E0 F := by
  constructor
  · intro hr
    have ha := h.a_ok
    have hb := h.b_ok
    have h2 := hr.sub (hb.1.mul (d / Ab F))
    have e1 : d - d / Ab F * Ab F = d % Ab F := by
      have := Int.emod_add_mul_ediv d (Ab F)
      rw [Int.mul_comm] at this
      omega
    rw [e1] at h2
    have b := mod_lt (k := d) ha.1.1
    have z : d % Ab F = 0 := by
      obtain ⟨k, hk⟩ := Int.eq_ofNat_of_zero_le b.1
      rw [hk] at h2 b ⊢
      rcases Nat.eq_zero_or_pos k with c | c
      · rw [c]; rfl
      · exact absurd ⟨c, _, h2⟩ (ha.2 k (by omega))
    rw [z] at h2
    have z2 := h.e_dvd h2
    refine ⟨d / Ab F, (r - d / Ab F * Bb F) / E0 F, by omega, ?_⟩
    have := Int.emod_add_mul_ediv (r - d / Ab F * Bb F) (E0 F)
    rw [Int.mul_comm (E0 F : Int)] at this
    omega
  · rintro ⟨k, m, rfl, rfl⟩
    have := (h.b_ok.1.mul k).add (h.e_ok.1.2.mul m)
    rw [Int.mul_zero, Int.add_zero] at this
    exact this
end
end W3

set_option Elab.async false
set_option linter.all false
set_option maxRecDepth 100000
set_option maxHeartbeats 4000000
/-! Pk05b: what the functions of cloths compute. -/
namespace W3
open PySem PySem.Spec L2

section
variable {p e : Nat} {f g : Int → Int → Int}
theorem size_of_cl (hp : 0 < p) : F_size_of [cl p e f] = M.ret (.tuple [.int p, .int e]) := by
  unfold F_size_of B_size_of
  refine runF_ret (η := [some (cl p e f)]) rfl ?_
  simp [cl0 hp]
theorem other_face_cl (hp : Sm p) (he : Sm e) : F_other_face [cl p e f] = M.ret (cl p e fun i j => 1 - f i j) := by
  unfold F_other_face B_other_face
  exact runF_ret (η := [some (cl p e f), none, none]) rfl (ret_ret (tc1 rfl hp.sz fun i _ _ => tc1 rfl he.sz fun j _ _ => rfl))
theorem flipped_cl (hp : Sm p) : F_flipped [cl p e f] = M.ret (cl p e fun i j => f i ((e : Int) - 1 - j)) := by
  unfold F_flipped B_flipped
  exact runF_ret (η := [some (cl p e f), none]) rfl (ret_ret (tc1 rfl hp.sz fun i _ _ => rev_at (n := e) (g := fun j => .int (f i j)) rfl))
theorem upside_down_cl : F_upside_down [cl p e f] = M.ret (cl p e fun i j => f ((p : Int) - 1 - i) j) := by
  unfold F_upside_down B_upside_down
  exact runF_ret (η := [some (cl p e f)]) rfl (ret_ret (rev_at (n := p) (g := fun i => row e (f i)) rfl))
theorem half_turned_cl (hp : Sm p) : F_half_turned [cl p e f] = M.ret (cl p e fun i j => f ((p : Int) - 1 - i) ((e : Int) - 1 - j)) := by
  unfold F_half_turned B_half_turned
  refine runF_ret (η := [some (cl p e f)]) rfl (ret_ret ?_)
  simp [flipped_cl hp, upside_down_cl]
theorem exchanged_cl (h0 : 0 < p) (hp : Sm p) (he : Sm e) : F_exchanged [cl p e f] = M.ret (cl e p fun i j => 1 - f j i) := by
  unfold F_exchanged B_exchanged
  refine runF_ret (η := [some (cl p e f), none, none]) rfl (ret_ret (tc1 (rg1_at (len0 rfl h0) he) he.sz fun i i0 i1 => tc1 rfl hp.sz fun j _ _ => ?_))
  rw [e2_s, ix_at (n := e) (g := fun i => .int (f j i)) rfl rfl i0 i1]
  rfl
theorem asg_size {k a b : Nat} {η : Env} (h : η[k]? = some (some (cl p e f))) (h0 : 0 < p) : fAsg [] (eOwn 1 F_size_of (aC (eV k) aN)) (gTp (gCn (gN a) (gCn (gN b) gNl))) η = M.ret (.nx ((η.set a (some (.int p))).set b (some (.int e)))) := by
  simp [h, size_of_cl h0]
theorem shifted_cl {d r : Int} (h0 : 0 < p) (g0 : 0 < e) (hp : Sm p) (he : Sm e) : F_shifted [cl p e f, .int d, .int r] = M.ret (cl p e fun i j => f ((i - d) % p) ((j - r) % e)) := by
  unfold F_shifted B_shifted
  refine runF_ret rfl (seq_ret (asg_size (k := 0) (p := p) (e := e) (f := f) rfl h0) (ret_ret (tc1 (rg1_at rfl hp) hp.sz fun i _ _ => tc1 (rg1_at rfl he) he.sz fun j _ _ => ?_)))
  refine ix2_at (p := p) (e := e) (f := f) (i := (i - d) % p) (j := (j - r) % e) rfl ?_ ?_ (mod_lt h0).1 (mod_lt h0).2 (mod_lt g0).1 (mod_lt g0).2
  · simp [modD_pos, h0]
  · simp [modD_pos, g0]
end
end W3
namespace W3
open PySem PySem.Spec L2
section
variable {p e : Nat} {f g : Int → Int → Int}
theorem repeated_cl {d r : Nat} (hd : d ≤ 1000) (hr : r ≤ 1000) (hp : Sm (p * d)) (he : Sm (e * r)) (hpp : Sm p) : F_repeated [cl p e f, .int d, .int r] = M.ret (cl (p * d) (e * r) fun i j => f (i % p) (j % e)) := by
  unfold F_repeated B_repeated
  refine runF_ret (η := [some (cl p e f), some (.int d), some (.int r), none]) rfl (ret_ret ?_)
  have h1 : eLc (iS (eV 0)) (gN 3) bYes (e2 mulD (eV 3) (eV 2)) [3] [some (cl p e f), some (.int d), some (.int r), none] = M.ret (.list (rl p fun i => row (e * r) fun j => f i (j % e))) :=
    eLc_rl (g := fun i => row e (f i)) rfl hpp.sz fun i _ _ => ⟨_, rfl, rfl, mul_at (n := e) (g := fun j => .int (f i j)) rfl rfl he hr⟩
  have h2 := mul_atl (b := eV 1) (k := d) h1 rfl hp hd
  show eCl tupleD _ [some (cl p e f), some (.int d), some (.int r), none] = _
  rw [eCl_s, aC_s, h2]
  rfl
end
end W3

namespace W3
open PySem PySem.Spec L2
section
variable {η η' : Env} {c k : BV} {u w : SV} {x y z : EV} {F : FD} {a b d d' : D} {P : D → Prop} {Q : Fl → Prop}
theorem same_at (i j : Bool) : F__law_same [.bool i, .bool j] = M.ret (.bool (i == j)) := by
  unfold F__law_same B__law_same
  refine runF_ret (η := [some (.bool i), some (.bool j)]) rfl (ret_ret ?_)
  have h1 : ∀ i b : Bool, isD (.bool i) (.bool b) = some (.bool (decide (i = b))) := fun i b => rfl
  cases i <;> cases j <;> simp [h1]
end
section
variable {p e : Nat} {f g : Int → Int → Int}
theorem same_self (b : Bool) : F__law_same [.bool b, .bool b] = M.ret (.bool true) := by
  rw [same_at]; cases b <;> rfl
end
end W3

namespace W3
open PySem PySem.Spec L2
section
variable {f h : SV} {η η' : Env} {us : List Nat} {c : Str} {p : D} {x : Fl}
end
section
variable {p e p' e' : Nat} {f g a b : Int → Int → Int}
theorem cloth_y (hp : Sm p) (he : Sm e) : Yld (F__law_cloth [stTok, .int p, .int e]) fun d => ∃ f : Int → Int → Int, (∀ i j, f i j = 0 ∨ f i j = 1) ∧ d = cl p e f := by
  unfold F__law_cloth B__law_cloth
  refine runF_y rfl (ret_yy ?_)
  refine (tc_yld (β := Int → Int) (Q := fun h => ∀ j, h j = 0 ∨ h j = 1) (G := fun h => row e h) (fun _ => 0) (fun _ => .inl rfl) (n := p) (g := fun i => .int i) (rg1_at rfl hp) hp.sz fun i _ _ => ?_).imp fun d ⟨u, hu, e1⟩ => ⟨u, hu, e1⟩
  refine (tc_yld (β := Int) (Q := fun k => k = 0 ∨ k = 1) (G := fun k => .int k) 0 (.inl rfl) (n := e) (g := fun i => .int i) (rg1_at rfl he) he.sz fun j _ _ => ?_).imp fun d ⟨u, hu, e1⟩ => ⟨u, hu, e1⟩
  exact (draw_y (by decide) (by decide) rfl).imp fun d ⟨k, e1, k0, k1⟩ => ⟨k, by omega, e1⟩
end
end W3


set_option Elab.async false
set_option linter.all false
set_option maxRecDepth 100000
set_option maxHeartbeats 4000000
/-! Pk05c: repeats. -/
namespace W3
open PySem PySem.Spec L2
theorem fset_ret {i : Nat} {x : EV} {η : Env} {d : D} (h : x η = M.ret d) : fSet [] i x η = M.ret (.nx (η.set i (some d))) := by
  rw [fSet_s, wipe_nil, h]; rfl
section
variable {p e : Nat} {F G : Z2}
theorem shifted_P (h : Pd p e F) (hp : Sm p) (he : Sm e) {d r : Int} : F_shifted [cl p e F, .int d, .int r] = M.ret (cl p e (shf F d r)) := by
  rw [shifted_cl h.p0 h.e0 hp he]
  exact congrArg M.ret (cl_congr rfl rfl fun i j _ _ _ _ => h.mod _ _)
theorem eqv_clf {f g : Z2} : PyData.eqv (cl p e f) (cl p e g) = tb (∀ i j : Int, 0 ≤ i → i < p → 0 ≤ j → j < e → f i j = g i j) := by
  by_cases c : ∀ i j : Int, 0 ≤ i → i < p → 0 ≤ j → j < e → f i j = g i j
  · rw [tb_t c, cl_congr rfl rfl c]
    exact sh_cl.refl
  · rw [tb_f c]
    cases q : PyData.eqv (cl p e f) (cl p e g) with
    | false => rfl
    | true =>
      refine absurd (fun i j i0 i1 j0 j1 => ?_) c
      have e1 := it_cl.eqv it_cl q
      have h1 : ixD (cl p e f) (.int i) = ixD (cl p e g) (.int i) := by rw [e1]
      rw [ixD_tup i0 i1, ixD_tup i0 i1] at h1
      have h2 : ixD (row e (f i)) (.int j) = ixD (row e (g i)) (.int j) := by rw [Option.some.inj h1]
      rw [ixD_tup j0 j1, ixD_tup j0 j1] at h2
      exact PyData.int.inj (Option.some.inj h2)
theorem eqv_P (hF : Pd p e F) (hG : Pd p e G) : PyData.eqv (cl p e F) (cl p e G) = tb (F = G) := by
  rw [eqv_clf]
  exact tb_congr ⟨hF.ext hG, fun z => by subst z; exact fun _ _ _ _ _ _ => rfl⟩
theorem eqv_sz {p' e' : Nat} {f g : Z2} (h0 : 0 < p) (h1 : 0 < p') (h : p ≠ p' ∨ e ≠ e') : PyData.eqv (cl p e f) (cl p' e' g) = false := by
  rcases h with h | h
  · exact eqv_tup_len h
  · exact eqv_tup_ne (i := 0) (by omega) (by omega) (by omega) (eqv_tup_len h)
theorem is_period_P (h : Pd p e F) (hp : Sm p) (he : Sm e) {d r : Int} : F_is_period [cl p e F, .int d, .int r] = M.ret (.bool (tb (Per F d r))) := by
  unfold F_is_period B_is_period
  refine runF_ret (η := [some (cl p e F), some (.int d), some (.int r)]) rfl (ret_ret ?_)
  rw [e2_s, own3 rfl rfl rfl (shifted_P h hp he), ret_bind, v_at (d := cl p e F) rfl, ret_bind, eqD_sh sh_cl sh_cl, eqv_P (h.shf d r) h]
  rfl
/-- the least step that is a period -/
theorem least_step {η : Env} {n k : Nat} {y : EV} {P : Nat → Prop} {t : BV} (hn : Sm n) (hx : y η = M.ret (.int n)) (ht : ∀ i : Nat, i < n → t ((wipeE η [4]).set 4 (some (.int (1 + i)))) = M.ret (tb (P (1 + i)))) (hv : ∀ d : D, ((wipeE η [4]).set 4 (some d))[4]? = some (some d)) (h0 : ¬ P 0) (hk : P k) (hm : ∀ m, m < k → ¬ P m) (hl : k ≤ n) :
    eCl minCD (aC (eLc (iRg rangeD2 (aC (eC (.int 1)) (aC (e2 addD y (eC (.int 1))) aN))) (gN 4) t (eV 4) [4]) aN) η = M.ret (.int k) := by
  have k0 : 0 < k := Nat.pos_of_ne_zero fun z => h0 (z ▸ hk)
  have hs : iRg rangeD2 (aC (eC (.int 1)) (aC (e2 addD y (eC (.int 1))) aN)) η = M.ret (rl n fun i => .int (1 + i)) := rg2_at (lo := 1) (hi := (n : Int) + 1) rfl (add_i hx rfl) (by omega) hn (by omega) (by omega)
  have e1 := eLc_fl (vs := [4]) (x := eV 4) (f := gN 4) (t := t) (g := fun i => .int (1 + i)) (h := fun i => .int (1 + i)) (c := fun i => tb (P (1 + i).toNat)) hs hn.sz fun i hi => ⟨_, rfl, by rw [ht i hi]; congr 2, fun _ => v_at (hv _)⟩
  rw [eCl_s, aC_s, e1]
  show M.lift (minCD [.list _]) = _
  rw [min_first (c := fun i => tb (P (1 + i).toNat)) (n := n) (k := k - 1) (lo := 1) (by omega) (tb_t (by rw [show (1 + ((k - 1 : Nat) : Int)).toNat = k by omega]; exact hk)) fun j hj => tb_f (by rw [show (1 + (j : Int)).toNat = 1 + j by omega]; exact hm _ (by omega))]
  rw [show (1 + ((k - 1 : Nat) : Int)) = k by omega]
  rfl
theorem straight_P (h : Pd p e F) (hp : Sm p) (he : Sm e) : F_straight_size [cl p e F] = M.ret (.tuple [.int (P0 F), .int (E0 F)]) := by
  unfold F_straight_size B_straight_size
  refine runF_ret rfl (seq_ret (asg_size (k := 0) (p := p) (e := e) (f := F) rfl h.p0) (seq_ret (fset_ret (d := .int (P0 F)) ?_) (seq_ret (fset_ret (d := .int (E0 F)) ?_) (ret_ret (pair_at rfl rfl)))))
  · refine least_step (P := fun n : Nat => 0 < n ∧ Per F n 0) hp rfl (fun i _ => ?_) (fun d => rfl) (fun z => absurd z.1 (by decide)) h.p_ok.1 h.p_ok.2 h.p_le
    rw [bT_s, own3 (a := cl p e F) rfl rfl rfl (is_period_P h hp he), ret_bind]
    refine congrArg M.ret (tb_congr ⟨fun z => ⟨by omega, ?_⟩, fun z => ?_⟩)
    · rw [Int.natCast_add]; exact z
    · have := z.2; rw [Int.natCast_add] at this; exact this
  · refine least_step (P := fun n : Nat => 0 < n ∧ Per F 0 n) he rfl (fun i _ => ?_) (fun d => rfl) (fun z => absurd z.1 (by decide)) h.e_ok.1 h.e_ok.2 h.e_le
    rw [bT_s, own3 (a := cl p e F) rfl rfl rfl (is_period_P h hp he), ret_bind]
    refine congrArg M.ret (tb_congr ⟨fun z => ⟨by omega, ?_⟩, fun z => ?_⟩)
    · rw [Int.natCast_add]; exact z
    · have := z.2; rw [Int.natCast_add] at this; exact this
theorem take_at {n k : Nat} {g : Int → D} {a b : EV} {η : Env} (ha : a η = M.ret (tup n g)) (hb : b η = M.ret (.int k)) (h : k ≤ n) : eSl a oN (oS b) oN η = M.ret (tup k g) := by
  rw [eSl_s, ha, ret_bind, oN_s, ret_bind, oS_s, hb]
  show M.lift (slD (tup n g) none (some (k : Int)) none) = _
  rw [take_tup h]; rfl
theorem least_P (h : Pd p e F) (hp : Sm p) (he : Sm e) : F_least_repeat [cl p e F] = M.ret (cl (P0 F) (E0 F) F) := by
  unfold F_least_repeat B_least_repeat
  have s1 : Sm (P0 F) := Nat.le_trans h.p_le hp
  refine runF_ret (η := [some (cl p e F), some (.int (P0 F)), some (.int (E0 F)), none]) rfl (seq_ret ?_ (ret_ret (tc1 (n := P0 F) (g := fun i => row e (F i)) ?_ s1.sz fun i _ _ => ?_)))
  · rw [fAsg_s, wipe_nil, own1 (a := cl p e F) rfl (straight_P h hp he)]
    rfl
  · rw [iS_s, take_at (n := p) (g := fun i => row e (F i)) rfl rfl h.p_le]
    rfl
  · exact take_at (n := e) (g := fun j => .int (F i j)) rfl rfl h.e_le
theorem are_one_P {p' e' : Nat} (hF : Pd p e F) (hG : Pd p' e' G) (hp : Sm p) (he : Sm e) (hp' : Sm p') (he' : Sm e') : F_are_one [cl p e F, cl p' e' G] = M.ret (.bool (tb (F = G))) := by
  unfold F_are_one B_are_one
  refine runF_ret (η := [some (cl p e F), some (cl p' e' G)]) rfl (ret_ret ?_)
  rw [e2_s, own1 rfl (least_P hF hp he), ret_bind, own1 rfl (least_P hG hp' he'), ret_bind, eqD_sh sh_cl sh_cl]
  by_cases c : P0 F = P0 G ∧ E0 F = E0 G
  · have hG' := hG.lr
    rw [← c.1, ← c.2] at hG' ⊢
    rw [eqv_P hF.lr hG']
    rfl
  · rw [eqv_sz hF.lr.p0 hG.lr.p0 (by omega), tb_f fun z => c (by rw [z]; exact ⟨rfl, rfl⟩)]
    rfl
end
end W3

set_option Elab.async false
set_option linter.all false
set_option maxRecDepth 100000
set_option maxHeartbeats 4000000
/-! Pk05d: the basis, the periods. -/
namespace W3
open PySem PySem.Spec L2
theorem seq_rt {u w : SV} {η η' : Env} {d : D} (h : u η = M.ret (.rt d η')) : fSeq u w η = M.ret (.rt d η') := by
  rw [fSeq_s, h]; rfl
theorem if_t {c : BV} {u w : SV} {η : Env} {r : Fl} (h : c η = M.ret true) (h2 : u η = M.ret r) : fIf c u w η = M.ret r := by
  rw [fIf_s, h, ret_bind, if_pos rfl, h2]
theorem if_n {c : BV} {u w : SV} {η : Env} {r : Fl} (h : c η = M.ret false) (h2 : w η = M.ret r) : fIf c u w η = M.ret r := by
  rw [fIf_s, h, ret_bind, if_neg Bool.false_ne_true, h2]
section
variable {p e : Nat} {F G : Z2}
noncomputable def basD (F : Z2) : D := .tuple [.tuple [.int (Ab F), .int (Bb F)], .tuple [.int 0, .int (E0 F)]]
theorem basis_P (h : Pd p e F) (hp : Sm p) (he : Sm e) : F_basis_of [cl p e F] = M.ret (basD F) := by
  unfold F_basis_of B_basis_of
  have sE : Sm (E0 F) := Nat.le_trans h.e_le he
  have a0 := h.a_ok.1.1
  have al := h.a_le
  have main : ∃ η', fFor [] (iRg rangeD2 (aC (eC (.int 1)) (aC (e2 addD (eV 1) (eC (.int 1))) aN))) (gN 5) (fFor [] (iRg rangeD1 (aC (eV 3) aN)) (gN 6) (fIf (bT (eOwn 3 F_is_period (aC (eV 0) (aC (eV 5) (aC (eV 6) aN))))) (fRet (eTup (aC (eTup (aC (eV 5) (aC (eV 6) aN))) (aC (eTup (aC (eC (.int 0)) (aC (eV 3) aN))) aN)))) fNil))
      [some (cl p e F), some (.int p), some (.int e), some (.int (E0 F)), none, none, none] = M.ret (.rt (basD F) η') := by
    refine for_hit (n := p) (i0 := Ab F - 1) (g := fun i => .int (1 + i)) (fun _ η => ∃ x y, η = [some (cl p e F), some (.int p), some (.int e), some (.int (E0 F)), none, x, y]) (rg2_at (lo := 1) (hi := (p : Int) + 1) rfl rfl (by omega) hp (by omega) (by omega)) (by omega) ?_ ?_ ⟨none, none, rfl⟩
    · rintro i η hi ⟨x, y, rfl⟩
      obtain ⟨η2, h1, h2⟩ := for_inv (O := []) (src := iRg rangeD1 (aC (eV 3) aN)) (gv := gN 6) (f := fIf (bT (eOwn 3 F_is_period (aC (eV 0) (aC (eV 5) (aC (eV 6) aN))))) (fRet (eTup (aC (eTup (aC (eV 5) (aC (eV 6) aN))) (aC (eTup (aC (eC (.int 0)) (aC (eV 3) aN))) aN)))) fNil)
        (n := E0 F) (g := fun j => .int j) (η := [some (cl p e F), some (.int p), some (.int e), some (.int (E0 F)), none, some (.int (1 + i)), y]) (fun _ η => ∃ y, η = [some (cl p e F), some (.int p), some (.int e), some (.int (E0 F)), none, some (.int (1 + i)), y]) (rg1_at rfl sE)
        (by
          rintro j η hj ⟨y, rfl⟩
          refine ⟨_, _, rfl, if_f ?_, ⟨_, rfl⟩⟩
          rw [bT_s, own3 (a := cl p e F) rfl rfl rfl (is_period_P h hp he), ret_bind, tb_f fun z => h.a_ok.2 (1 + i) (by omega) ⟨by omega, (j : Int), by rw [Int.natCast_add]; exact z⟩]
          rfl) ⟨y, rfl⟩
      obtain ⟨y', rfl⟩ := h2
      exact ⟨_, _, rfl, h1, ⟨_, y', rfl⟩⟩
    · rintro η ⟨x, y, rfl⟩
      have e1 : (1 + ((Ab F - 1 : Nat) : Int)) = Ab F := by omega
      obtain ⟨η2, h1⟩ := for_hit (O := []) (src := iRg rangeD1 (aC (eV 3) aN)) (gv := gN 6) (f := fIf (bT (eOwn 3 F_is_period (aC (eV 0) (aC (eV 5) (aC (eV 6) aN))))) (fRet (eTup (aC (eTup (aC (eV 5) (aC (eV 6) aN))) (aC (eTup (aC (eC (.int 0)) (aC (eV 3) aN))) aN)))) fNil)
        (n := E0 F) (i0 := Bb F) (g := fun j => .int j) (d := basD F) (η := [some (cl p e F), some (.int p), some (.int e), some (.int (E0 F)), none, some (.int (Ab F)), y]) (fun _ η => ∃ y, η = [some (cl p e F), some (.int p), some (.int e), some (.int (E0 F)), none, some (.int (Ab F)), y]) (rg1_at rfl sE) h.b_ok.2.1
        (by
          rintro j η hj ⟨y, rfl⟩
          refine ⟨_, _, rfl, if_f ?_, ⟨_, rfl⟩⟩
          rw [bT_s, own3 (a := cl p e F) rfl rfl rfl (is_period_P h hp he), ret_bind, tb_f fun z => h.b_ok.2.2 j hj z]
          rfl)
        (by
          rintro η ⟨y, rfl⟩
          refine ⟨_, _, rfl, if_t ?_ (ret_ret (pair_at (pair_at rfl rfl) (pair_at rfl rfl)))⟩
          rw [bT_s, own3 (a := cl p e F) rfl rfl rfl (is_period_P h hp he), ret_bind, tb_t h.b_ok.1]
          rfl) ⟨y, rfl⟩
      refine ⟨_, η2, rfl, ?_⟩
      show fFor [] _ _ _ [some (cl p e F), some (.int p), some (.int e), some (.int (E0 F)), none, some (.int (1 + ((Ab F - 1 : Nat) : Int))), y] = _
      rw [e1]
      exact h1
  obtain ⟨η', hm⟩ := main
  refine runF_ret rfl (seq_ret (asg_size (k := 0) (p := p) (e := e) (f := F) rfl h.p0) (seq_ret (fset_ret (d := .int (E0 F)) ?_) (seq_rt hm)))
  refine least_step (P := fun n : Nat => 0 < n ∧ Per F 0 n) he rfl (fun i _ => ?_) (fun d => rfl) (fun z => absurd z.1 (by decide)) h.e_ok.1 h.e_ok.2 h.e_le
  rw [bT_s, own3 (a := cl p e F) rfl rfl rfl (is_period_P h hp he), ret_bind]
  refine congrArg M.ret (tb_congr ⟨fun z => ⟨by omega, ?_⟩, fun z => ?_⟩)
  · rw [Int.natCast_add]; exact z
  · have := z.2; rw [Int.natCast_add] at this; exact this
theorem area_P (h : Pd p e F) (hp : p ≤ 1000) (he : e ≤ 1000) : F_area_of [cl p e F] = M.ret (.int (Ab F * E0 F)) := by
  unfold F_area_of B_area_of
  have h1 := h.a_le
  refine runF_ret (η := [some (cl p e F), some (.tuple [.int (Ab F), .int (Bb F)]), some (.tuple [.int 0, .int (E0 F)])]) rfl (seq_ret ?_ (ret_ret ?_))
  · rw [fAsg_s, wipe_nil, own1 (a := cl p e F) rfl (basis_P h (Nat.le_trans hp (by decide)) (Nat.le_trans he (by decide)))]
    rfl
  · exact mul_i (i := (Ab F : Int)) (j := (E0 F : Int)) (by omega) rfl rfl
/-- the periods within the repeat -/
noncomputable def perL (p e : Nat) (F : Z2) : List (Int × Int) := ((List.range (p * e)).filter fun k : Nat => tb (Per F ((k / e : Nat) : Int) ((k % e : Nat) : Int))).map fun k : Nat => (((k / e : Nat) : Int), ((k % e : Nat) : Int))
theorem periods_P (h : Pd p e F) (hp : p ≤ 1000) (he : e ≤ 1000) : F_periods_of [cl p e F] = M.ret (.list ((perL p e F).map pr)) := by
  unfold F_periods_of B_periods_of
  have sp : Sm p := Nat.le_trans hp (by decide)
  have se : Sm e := Nat.le_trans he (by decide)
  refine runF_ret rfl (seq_ret (asg_size (k := 0) (p := p) (e := e) (f := F) rfl h.p0) (ret_ret ?_))
  have big : p * e ≤ sizeLine := by
    have := Nat.mul_le_mul hp he
    rw [sizeLine_eq]; omega
  rw [eLc2_fl (n := p) (m := e) (g := fun i => .int i) (c := fun i j => tb (Per F (i : Int) (j : Int))) (H := fun i j => pr (i, j)) (rg1_at rfl sp) big fun i hi => ⟨_, fun j => .int j, rfl, rfl, rg1_at rfl se, fun j hj => ⟨_, rfl, ?_, fun _ => pair_at rfl rfl⟩⟩]
  · unfold perL
    rw [List.map_map]
    rfl
  · rw [bT_s, own3 (a := cl p e F) rfl rfl rfl (is_period_P h sp se), ret_bind]
    rfl
theorem mem_perL (h : Pd p e F) {d r : Int} : (d, r) ∈ perL p e F ↔ 0 ≤ d ∧ d < p ∧ 0 ≤ r ∧ r < e ∧ Per F d r := by
  unfold perL
  constructor
  · intro hm
    obtain ⟨k, hk, ek⟩ := List.mem_map.mp hm
    obtain ⟨k1, k2⟩ := List.mem_filter.mp hk
    have k1 := List.mem_range.mp k1
    injection ek with ed er
    subst ed er
    have m1 := Nat.mod_lt k h.e0
    have m2 : k / e < p := Nat.div_lt_of_lt_mul (by rw [Nat.mul_comm]; exact k1)
    exact ⟨Int.natCast_nonneg _, Int.ofNat_lt.mpr m2, Int.natCast_nonneg _, Int.ofNat_lt.mpr m1, tb_iff.mp k2⟩
  · rintro ⟨d0, d1, r0, r1, hp⟩
    obtain ⟨a, rfl⟩ := Int.eq_ofNat_of_zero_le d0
    obtain ⟨b, rfl⟩ := Int.eq_ofNat_of_zero_le r0
    have ha : a < p := by omega
    have hb : b < e := by omega
    have q1 : (a * e + b) / e = a := by rw [Nat.mul_comm a e, Nat.mul_add_div h.e0, Nat.div_eq_of_lt hb]; rfl
    have q2 : (a * e + b) % e = b := by rw [Nat.mul_comm a e, Nat.mul_add_mod, Nat.mod_eq_of_lt hb]
    refine List.mem_map.mpr ⟨a * e + b, List.mem_filter.mpr ⟨List.mem_range.mpr ?_, ?_⟩, by rw [q1, q2]⟩
    · have := Nat.mul_le_mul_right e (show a + 1 ≤ p from ha)
      rw [Nat.succ_mul] at this
      omega
    · rw [q1, q2]
      exact tb_t hp
theorem perL_lt (h : 0 < e) : (perL p e F).Pairwise ltp := by
  unfold perL
  refine List.pairwise_map.mpr (List.Pairwise.imp_of_mem (R := fun i j : Nat => i < j) (fun {i j} _ _ hij => ?_) (List.Pairwise.filter _ List.pairwise_lt_range))
  unfold ltp
  dsimp only
  have a := Nat.div_add_mod i e
  have b := Nat.div_add_mod j e
  have c := Nat.div_le_div_right (c := e) (Nat.le_of_lt hij)
  rcases Nat.lt_or_ge (i / e) (j / e) with q | q
  · exact .inl (by omega)
  · have q' : i / e = j / e := by omega
    rw [q'] at a
    exact .inr ⟨by omega, by omega⟩
end
end W3

set_option Elab.async false
set_option linter.all false
set_option maxRecDepth 100000
set_option maxHeartbeats 4000000
/-! Pk05e: the steps that a basis makes, moved firsts. -/
namespace W3
open PySem PySem.Spec L2
open PySem.W (dataLt)
section
variable {p e : Nat} {F G : Z2}
theorem Pd.p_mul (h : Pd p e F) : ∃ m : Nat, p = Ab F * m := by
  obtain ⟨k, m, e1, _⟩ := (h.lat p 0).mp h.dn
  have a0 := h.a_ok.1.1
  have k0 : 0 ≤ k := by
    rcases Int.le_total 0 k with c | c
    · exact c
    · have : k * (Ab F : Int) ≤ 0 := Int.mul_nonpos_of_nonpos_of_nonneg c (by omega)
      have := h.p0
      omega
  obtain ⟨n, rfl⟩ := Int.eq_ofNat_of_zero_le k0
  refine ⟨n, ?_⟩
  rw [← Int.natCast_mul] at e1
  have := Int.ofNat.inj e1
  rw [this, Nat.mul_comm]
theorem Pd.e_mul (h : Pd p e F) : ∃ n : Nat, e = E0 F * n := by
  have := h.e_dvd h.rt
  have d : (E0 F : Int) ∣ (e : Int) := Int.dvd_of_emod_eq_zero this
  obtain ⟨n, hn⟩ := Int.ofNat_dvd.mp d
  exact ⟨n, hn⟩
noncomputable def stp (p e : Nat) (F : Z2) (a b : Nat) : Int × Int := (((a : Int) * Ab F) % p, ((a : Int) * Bb F + (b : Int) * E0 F) % e)
/-- the steps, in the order of their making -/
noncomputable def stL (p e : Nat) (F : Z2) (n : Nat) (k : Nat) : List (Int × Int) := (List.range k).map fun c => stp p e F (c / n) (c % n)
theorem stp_first (h : Pd p e F) {m a : Nat} (hm : p = Ab F * m) (ha : a < m) {b : Nat} : (stp p e F a b).1 = a * Ab F := by
  show ((a : Int) * Ab F) % p = _
  refine Int.emod_eq_of_lt (Int.mul_nonneg (by omega) (by omega)) ?_
  rw [hm, ← Int.natCast_mul, Nat.mul_comm]
  exact Int.ofNat_lt.mpr (Nat.mul_lt_mul_of_pos_left ha h.a_ok.1.1)
theorem stp_inj (h : Pd p e F) {m n a b a' b' : Nat} (hm : p = Ab F * m) (hn : e = E0 F * n) (ha : a < m) (ha' : a' < m) (hb : b < n) (hb' : b' < n) (hq : stp p e F a b = stp p e F a' b') : a = a' ∧ b = b' := by
  have h1 := congrArg (·.1) hq
  rw [stp_first h hm ha, stp_first h hm ha'] at h1
  have a0 := h.a_ok.1.1
  have ea : (a : Int) = a' := Int.eq_of_mul_eq_mul_right (by omega) h1
  have ea' : a = a' := by omega
  subst ea'
  refine ⟨rfl, ?_⟩
  have h2 : ((a : Int) * Bb F + (b : Int) * E0 F) % e = ((a : Int) * Bb F + (b' : Int) * E0 F) % e := congrArg (·.2) hq
  have c0 := h.e_ok.1.1
  have d : (e : Int) ∣ ((a : Int) * Bb F + (b : Int) * E0 F) - ((a : Int) * Bb F + (b' : Int) * E0 F) := Int.dvd_of_emod_eq_zero (Int.emod_eq_emod_iff_emod_sub_eq_zero.mp h2)
  rw [show ((a : Int) * Bb F + (b : Int) * E0 F) - ((a : Int) * Bb F + (b' : Int) * E0 F) = ((b : Int) - b') * E0 F by rw [Int.sub_mul]; omega, hn, Int.natCast_mul, Int.mul_comm] at d
  have d2 : (n : Int) ∣ (b : Int) - b' := Int.dvd_of_mul_dvd_mul_right (by omega) d
  have z : (b : Int) - b' = 0 := by
    obtain ⟨q, hq⟩ := d2
    rcases Int.lt_trichotomy q 0 with c | c | c
    · have : (n : Int) * q ≤ (n : Int) * (-1) := Int.mul_le_mul_of_nonneg_left (by omega) (by omega)
      omega
    · rw [hq, c, Int.mul_zero]
    · have : (n : Int) * 1 ≤ (n : Int) * q := Int.mul_le_mul_of_nonneg_left (by omega) (by omega)
      omega
  omega
theorem stL_nodup (h : Pd p e F) {m n : Nat} (hm : p = Ab F * m) (hn : e = E0 F * n) {k : Nat} (hk : k ≤ m * n) : (stL p e F n k).Nodup := by
  unfold stL
  refine List.pairwise_map.mpr (List.Pairwise.imp_of_mem (R := fun i j : Nat => i < j) (fun {i j} hi hj hij hq => ?_) List.pairwise_lt_range)
  have hi := List.mem_range.mp hi
  have hj := List.mem_range.mp hj
  have n0 : 0 < n := Nat.pos_of_ne_zero fun z => by rw [z, Nat.mul_zero] at hk; omega
  have q := stp_inj h hm hn (Nat.div_lt_of_lt_mul (by rw [Nat.mul_comm]; omega)) (Nat.div_lt_of_lt_mul (by rw [Nat.mul_comm]; omega)) (Nat.mod_lt i n0) (Nat.mod_lt j n0) hq
  have a := Nat.div_add_mod i n
  have b := Nat.div_add_mod j n
  rw [q.1, q.2] at a
  omega
theorem mem_stL (h : Pd p e F) {m n : Nat} (hm : p = Ab F * m) (hn : e = E0 F * n) (q : Int × Int) : q ∈ stL p e F n (m * n) ↔ q ∈ perL p e F := by
  obtain ⟨d, r⟩ := q
  rw [mem_perL h]
  have n0 : 0 < n := Nat.pos_of_ne_zero fun z => by rw [z, Nat.mul_zero] at hn; have := h.e0; omega
  have a0 := h.a_ok.1.1
  have c0 := h.e_ok.1.1
  constructor
  · intro hq
    obtain ⟨k, hk, ek⟩ := List.mem_map.mp hq
    have hk := List.mem_range.mp hk
    have ha : k / n < m := Nat.div_lt_of_lt_mul (by rw [Nat.mul_comm]; exact hk)
    have h1 := congrArg (·.1) ek
    rw [stp_first h hm ha] at h1
    have h2 : (((k / n : Nat) : Int) * Bb F + ((k % n : Nat) : Int) * E0 F) % e = r := congrArg (·.2) ek
    have h1 : ((k / n : Nat) : Int) * Ab F = d := h1
    have b1 := mod_lt (k := ((k / n : Nat) : Int) * Bb F + ((k % n : Nat) : Int) * E0 F) h.e0
    rw [h2] at b1
    refine ⟨by rw [← h1]; exact Int.mul_nonneg (Int.natCast_nonneg _) (Int.natCast_nonneg _), ?_, b1.1, b1.2, ?_⟩
    · rw [← h1, hm, ← Int.natCast_mul, Nat.mul_comm]
      exact Int.ofNat_lt.mpr (Nat.mul_lt_mul_of_pos_left ha a0)
    · have p1 : Per F d (((k / n : Nat) : Int) * Bb F + ((k % n : Nat) : Int) * E0 F) := (h.lat _ _).mpr ⟨_, _, h1.symm, rfl⟩
      have p2 := p1.sub (h.rt.mul ((((k / n : Nat) : Int) * Bb F + ((k % n : Nat) : Int) * E0 F) / e))
      rw [Int.mul_zero, Int.sub_zero] at p2
      have := Int.emod_add_mul_ediv (((k / n : Nat) : Int) * Bb F + ((k % n : Nat) : Int) * E0 F) e
      rw [h2, Int.mul_comm] at this
      rw [show r = ((k / n : Nat) : Int) * Bb F + ((k % n : Nat) : Int) * E0 F - (((k / n : Nat) : Int) * Bb F + ((k % n : Nat) : Int) * E0 F) / e * e by omega]
      exact p2
  · rintro ⟨d0, d1, r0, r1, hp⟩
    obtain ⟨k, l, ek, el⟩ := (h.lat _ _).mp hp
    have k0 : 0 ≤ k := by
      rcases Int.le_total 0 k with c | c
      · exact c
      · rcases Int.lt_or_eq_of_le c with c | c
        · have : k * (Ab F : Int) ≤ (-1) * (Ab F : Int) := Int.mul_le_mul_of_nonneg_right (by omega) (by omega)
          omega
        · omega
    obtain ⟨a, rfl⟩ := Int.eq_ofNat_of_zero_le k0
    have ha : a < m := by
      rw [ek, hm, ← Int.natCast_mul, Nat.mul_comm] at d1
      exact Nat.lt_of_mul_lt_mul_left (Int.ofNat_lt.mp d1)
    have bl := mod_lt (k := l) n0
    obtain ⟨b, hb⟩ := Int.eq_ofNat_of_zero_le bl.1
    rw [hb] at bl
    have hb1 : b < n := by omega
    refine List.mem_map.mpr ⟨a * n + b, List.mem_range.mpr ?_, ?_⟩
    · have := Nat.mul_le_mul_right n (show a + 1 ≤ m from ha)
      rw [Nat.succ_mul] at this
      omega
    · have q1 : (a * n + b) / n = a := by rw [Nat.mul_comm a n, Nat.mul_add_div n0, Nat.div_eq_of_lt hb1]; rfl
      have q2 : (a * n + b) % n = b := by rw [Nat.mul_comm a n, Nat.mul_add_mod, Nat.mod_eq_of_lt hb1]
      rw [q1, q2]
      refine Prod.ext ((stp_first h hm ha).trans ek.symm) ?_
      show ((a : Int) * Bb F + (b : Int) * E0 F) % e = r
      rw [← Int.emod_eq_of_lt r0 r1, el]
      refine Int.emod_eq_emod_iff_emod_sub_eq_zero.mpr (Int.emod_eq_zero_of_dvd ?_)
      have := Int.emod_add_mul_ediv l n
      rw [hb] at this
      refine ⟨-(l / n), ?_⟩
      rw [hn, Int.natCast_mul, show (a : Int) * Bb F + (b : Int) * E0 F - ((a : Int) * Bb F + l * E0 F) = ((b : Int) - l) * E0 F by rw [Int.sub_mul]; omega, show (b : Int) - l = (n : Int) * (-(l / n)) by rw [Int.mul_neg]; omega, Int.mul_comm ((n : Int) * -(l / n)), Int.mul_assoc]
theorem perL_nodup (h : 0 < e) : (perL p e F).Nodup := (perL_lt h).imp fun {q r} z => by
  intro c
  subst c
  unfold ltp at z
  omega
theorem stL_perm (h : Pd p e F) {m n : Nat} (hm : p = Ab F * m) (hn : e = E0 F * n) : (perL p e F).Perm (stL p e F n (m * n)) :=
  (List.perm_ext_iff_of_nodup (perL_nodup h.e0) (stL_nodup h hm hn (Nat.le_refl _))).mpr fun q => (mem_stL h hm hn q).symm
theorem perL_len (h : Pd p e F) {m n : Nat} (hm : p = Ab F * m) (hn : e = E0 F * n) : (perL p e F).length = m * n := by
  rw [(stL_perm h hm hn).length_eq]
  unfold stL
  rw [List.length_map, List.length_range]
/-! moved firsts -/
def Mv (F G : Z2) : Prop := ∃ a b : Int, G = shf F a b
theorem Mv.refl : Mv F F := ⟨0, 0, (shf_zero F).symm⟩
theorem Mv.symm (h : Mv F G) : Mv G F := by
  obtain ⟨a, b, rfl⟩ := h
  exact ⟨-a, -b, by rw [shf_shf, Int.add_right_neg, Int.add_right_neg, shf_zero]⟩
theorem Mv.trans {K : Z2} (h : Mv F G) (h' : Mv G K) : Mv F K := by
  obtain ⟨a, b, rfl⟩ := h
  obtain ⟨c, d, rfl⟩ := h'
  exact ⟨a + c, b + d, shf_shf _ _ _ _ _⟩
def MS (F : Z2) (x : D) : Prop := ∃ a b : Int, x = cl (P0 F) (E0 F) (shf F a b)
noncomputable def MF (F : Z2) : D := minOf (MS F)
theorem MS_mv (h : Mv F G) : MS F = MS G := by
  obtain ⟨a, b, rfl⟩ := h
  funext x
  unfold MS
  rw [P0_shf, E0_shf]
  refine propext ⟨?_, ?_⟩
  · rintro ⟨c, d, rfl⟩
    exact ⟨c - a, d - b, by rw [shf_shf, show a + (c - a) = c by omega, show b + (d - b) = d by omega]⟩
  · rintro ⟨c, d, rfl⟩
    exact ⟨a + c, b + d, by rw [shf_shf]⟩
theorem MF_mv (h : Mv F G) : MF F = MF G := by unfold MF; rw [MS_mv h]
theorem plain_cls {L : List D} (h : ∀ x ∈ L, ∃ p e f, x = cl p e f) : plainL L := by
  have al : ∀ {p e p' e' : Nat} {f g : Z2}, PySem.W.alike (cl p e f) (cl p' e' g) = true := by
    intro p e p' e' f g
    have aa : ∀ (xs ys : List D), (∀ x ∈ xs, ∀ y ∈ ys, PySem.W.alike x y = true) → PySem.W.alikeAll xs ys = true := by
      intro xs
      induction xs with
      | nil => intro ys _; simp [PySem.W.alikeAll]
      | cons x xs ih =>
        intro ys h
        cases ys with
        | nil => simp [PySem.W.alikeAll]
        | cons y ys =>
          rw [PySem.W.alikeAll, Bool.and_eq_true]
          exact ⟨h x List.mem_cons_self y List.mem_cons_self, ih ys fun a ha b hb => h a (List.mem_cons_of_mem _ ha) b (List.mem_cons_of_mem _ hb)⟩
    show PySem.W.alikeAll (rl p _) (rl p' _) = true
    refine aa _ _ fun x hx y hy => ?_
    obtain ⟨i, _, rfl⟩ := mem_rl hx
    obtain ⟨j, _, rfl⟩ := mem_rl hy
    show PySem.W.alikeAll (rl e _) (rl e' _) = true
    refine aa _ _ fun x hx y hy => ?_
    obtain ⟨i, _, rfl⟩ := mem_rl hx
    obtain ⟨j, _, rfl⟩ := mem_rl hy
    rfl
  refine ⟨List.all_eq_true.mpr fun d hd => List.all_eq_true.mpr fun d' hd' => ?_, fun d hd => ?_⟩
  · obtain ⟨p, e, f, rfl⟩ := h d hd
    obtain ⟨p', e', f', rfl⟩ := h d' hd'
    exact al
  · obtain ⟨p, e, f, rfl⟩ := h d hd
    exact ⟨rfl, sh_cl.ok⟩
/-- shifts, within the least repeat -/
theorem Pd.shf_mod (h : Pd p e F) (a b : Int) : W3.shf F a b = W3.shf F (a % p) (b % e) := by
  have h1 := h.dn.mul (a / p)
  have h2 := h.rt.mul (b / e)
  have h3 := h1.add h2
  rw [Int.mul_zero, Int.mul_zero, Int.add_zero, Int.zero_add] at h3
  have e1 := Int.emod_add_mul_ediv a p
  have e2 := Int.emod_add_mul_ediv b e
  rw [Int.mul_comm] at e1 e2
  have : W3.shf (W3.shf F (a / p * p) (b / e * e)) (a % p) (b % e) = W3.shf F a b := by
    rw [shf_shf, show a / p * p + a % p = a by omega, show b / e * e + b % e = b by omega]
  rw [← this, show W3.shf F (a / p * p) (b / e * e) = F from h3]
theorem MF_ok (h : Pd p e F) (hp : p ≤ 1000) (he : e ≤ 1000) (f : List D) (hf : f = (List.range (P0 F * E0 F)).map fun k : Nat => cl (P0 F) (E0 F) (shf F ((k / E0 F : Nat) : Int) ((k % E0 F : Nat) : Int))) : minCD [.list f] = some (MF F) ∧ MS F (MF F) ∧ ∀ x, MS F x → dataLt x (MF F) = false := by
  have h' := h.lr
  refine minOf_ok (fun x => ?_) (plain_cls fun x hx => ?_) (fun x hx => ?_) ?_
  · rw [hf]
    constructor
    · rintro ⟨a, b, rfl⟩
      have ha := mod_lt (k := a) h'.p0
      have hb := mod_lt (k := b) h'.e0
      rw [h'.shf_mod a b]
      obtain ⟨c, hc⟩ := Int.eq_ofNat_of_zero_le ha.1
      obtain ⟨d, hd⟩ := Int.eq_ofNat_of_zero_le hb.1
      rw [hc] at ha ⊢
      rw [hd] at hb ⊢
      have hb1 : d < E0 F := by omega
      have ha1 : c < P0 F := by omega
      refine List.mem_map.mpr ⟨c * E0 F + d, List.mem_range.mpr ?_, ?_⟩
      · have := Nat.mul_le_mul_right (E0 F) (show c + 1 ≤ P0 F from ha1)
        rw [Nat.succ_mul] at this
        omega
      · rw [show (c * E0 F + d) / E0 F = c by rw [Nat.mul_comm c, Nat.mul_add_div h'.e0, Nat.div_eq_of_lt hb1]; rfl, show (c * E0 F + d) % E0 F = d by rw [Nat.mul_comm c, Nat.mul_add_mod, Nat.mod_eq_of_lt hb1]]
    · intro hx
      obtain ⟨k, _, rfl⟩ := List.mem_map.mp hx
      exact ⟨_, _, rfl⟩
  · rw [hf] at hx
    obtain ⟨k, _, rfl⟩ := List.mem_map.mp hx
    exact ⟨_, _, _, rfl⟩
  · rw [hf] at hx
    obtain ⟨k, _, rfl⟩ := List.mem_map.mp hx
    exact it_cl
  · rw [hf]
    intro z
    have := congrArg List.length z
    rw [List.length_map, List.length_range, List.length_nil] at this
    have := Nat.mul_pos h'.p0 h'.e0
    omega
end
end W3

set_option Elab.async false
set_option linter.all false
set_option maxRecDepth 100000
set_option maxHeartbeats 4000000
/-! Pk05f: moved cloths. -/
namespace W3
open PySem PySem.Spec L2
open PySem.W (dataLt)
section
variable {p e : Nat} {F G : Z2}
theorem filter_true {α : Type} (l : List α) : (l.filter fun _ => true) = l := List.filter_eq_self.mpr fun _ _ => rfl
theorem big_ok (hp : p ≤ 1000) (he : e ≤ 1000) : p * e ≤ sizeLine := by
  have := Nat.mul_le_mul hp he
  rw [sizeLine_eq]; omega
theorem moved_first_P (h : Pd p e F) (hp : p ≤ 1000) (he : e ≤ 1000) : F_moved_first [cl p e F] = M.ret (MF F) := by
  unfold F_moved_first B_moved_first
  have sp : Sm p := Nat.le_trans hp (by decide)
  have se : Sm e := Nat.le_trans he (by decide)
  have p1 := Nat.le_trans h.p_le hp
  have e1 := Nat.le_trans h.e_le he
  have sp' : Sm (P0 F) := Nat.le_trans p1 (by decide)
  have se' : Sm (E0 F) := Nat.le_trans e1 (by decide)
  refine runF_ret rfl (seq_ret (fset_ret (own1 (a := cl p e F) rfl (least_P h sp se))) (seq_ret (asg_size (k := 1) (p := P0 F) (e := E0 F) (f := F) rfl h.lr.p0) (ret_ret ?_)))
  have hl := eLc2_fl (src := iRg rangeD1 (aC (eV 2) aN)) (f := gN 4) (t := bYes) (src1 := iRg rangeD1 (aC (eV 3) aN)) (f1 := gN 5) (t1 := bYes) (x := eOwn 3 F_shifted (aC (eV 1) (aC (eV 4) (aC (eV 5) aN)))) (vs := [4, 5]) (vs1 := [5])
    (η := [some (cl p e F), some (cl (P0 F) (E0 F) F), some (.int (P0 F)), some (.int (E0 F)), none, none]) (n := P0 F) (m := E0 F) (g := fun i => .int i) (c := fun _ _ => true) (H := fun i j => cl (P0 F) (E0 F) (shf F i j)) (rg1_at rfl sp') (big_ok p1 e1)
    fun i hi => ⟨_, fun j => .int j, rfl, rfl, rg1_at rfl se', fun j hj => ⟨_, rfl, rfl, fun _ => own3 rfl rfl rfl (shifted_P h.lr sp' se')⟩⟩
  show eCl minCD _ [some (cl p e F), some (cl (P0 F) (E0 F) F), some (.int (P0 F)), some (.int (E0 F)), none, none] = _
  rw [eCl_s, aC_s, hl]
  show M.lift (minCD [.list _]) = _
  rw [(MF_ok h hp he _ (by rw [filter_true])).1]
  rfl
theorem MF_form (h : Pd p e F) : ∃ a b : Int, MF F = cl (P0 F) (E0 F) (shf F a b) ∧ ∀ x, MS F x → dataLt x (MF F) = false := by
  have h' : Pd (P0 F) (E0 F) F := h.lr
  have key : ∃ m, MS F m ∧ ∀ x, MS F x → dataLt x m = false := by
    have hL : ∀ x, MS F x ↔ x ∈ (List.range (P0 F * E0 F)).map fun k : Nat => cl (P0 F) (E0 F) (shf F ((k / E0 F : Nat) : Int) ((k % E0 F : Nat) : Int)) := fun x => by
      constructor
      · rintro ⟨a, b, rfl⟩
        have ha := mod_lt (k := a) h'.p0
        have hb := mod_lt (k := b) h'.e0
        rw [h'.shf_mod a b]
        obtain ⟨c, hc⟩ := Int.eq_ofNat_of_zero_le ha.1
        obtain ⟨d, hd⟩ := Int.eq_ofNat_of_zero_le hb.1
        rw [hc] at ha ⊢
        rw [hd] at hb ⊢
        have hb1 : d < E0 F := by omega
        have ha1 : c < P0 F := by omega
        refine List.mem_map.mpr ⟨c * E0 F + d, List.mem_range.mpr ?_, ?_⟩
        · have := Nat.mul_le_mul_right (E0 F) (show c + 1 ≤ P0 F from ha1)
          rw [Nat.succ_mul] at this
          omega
        · rw [show (c * E0 F + d) / E0 F = c by rw [Nat.mul_comm c, Nat.mul_add_div h'.e0, Nat.div_eq_of_lt hb1]; rfl, show (c * E0 F + d) % E0 F = d by rw [Nat.mul_comm c, Nat.mul_add_mod, Nat.mod_eq_of_lt hb1]]
      · intro hx
        obtain ⟨k, _, rfl⟩ := List.mem_map.mp hx
        exact ⟨_, _, rfl⟩
    have ne : (List.range (P0 F * E0 F)).map (fun k : Nat => cl (P0 F) (E0 F) (shf F ((k / E0 F : Nat) : Int) ((k % E0 F : Nat) : Int))) ≠ [] := fun z => by
      have := congrArg List.length z
      rw [List.length_map, List.length_range, List.length_nil] at this
      have := Nat.mul_pos h'.p0 h'.e0
      omega
    cases hq : (List.range (P0 F * E0 F)).map (fun k : Nat => cl (P0 F) (E0 F) (shf F ((k / E0 F : Nat) : Int) ((k % E0 F : Nat) : Int))) with
    | nil => exact absurd hq ne
    | cons x xs =>
      rw [hq] at hL
      obtain ⟨h1, h2⟩ := foldl_least (p := fun a y => dataLt y a) (fun _ _ => rfl) xs x
      exact ⟨_, (hL _).mpr h1, fun y hy => h2 y ((hL y).mp hy)⟩
  have e : MF F = Classical.choose key := by unfold MF minOf; rw [dif_pos key]
  obtain ⟨⟨a, b, hab⟩, h2⟩ := Classical.choose_spec key
  rw [← e] at hab h2
  exact ⟨a, b, hab, h2⟩
/-- cloths of one size that are one are one without an end -/
theorem cl_inj {p' e' : Nat} (hF : Pd p e F) (hG : Pd p' e' G) (h : cl p e F = cl p' e' G) : p = p' ∧ e = e' ∧ F = G := by
  have l1 : lenD [cl p e F] = lenD [cl p' e' G] := by rw [h]
  rw [lenD_tup, lenD_tup] at l1
  injection l1 with l1
  injection l1 with l1
  have l1 : p = p' := by omega
  subst l1
  have c0 : ixD (cl p e F) (.int 0) = ixD (cl p e' G) (.int 0) := by rw [h]
  rw [cl0 hF.p0, cl0 hF.p0] at c0
  have l2 : lenD [row e (F 0)] = lenD [row e' (G 0)] := by rw [Option.some.inj c0]
  rw [lenD_tup, lenD_tup] at l2
  injection l2 with l2
  injection l2 with l2
  have l2 : e = e' := by omega
  subst l2
  refine ⟨rfl, rfl, ?_⟩
  have q : PyData.eqv (cl p e F) (cl p e G) = true := by rw [h]; exact sh_cl.refl
  rw [eqv_P hF hG] at q
  exact tb_iff.mp q
theorem MF_iff {p' e' : Nat} (hF : Pd p e F) (hG : Pd p' e' G) : MF F = MF G ↔ Mv F G := by
  constructor
  · intro h
    obtain ⟨a, b, e1, _⟩ := MF_form hF
    obtain ⟨c, d, e2, _⟩ := MF_form hG
    rw [e1, e2] at h
    obtain ⟨_, _, e3⟩ := cl_inj (hF.lr.shf a b) (hG.lr.shf c d) h
    exact Mv.trans ⟨a, b, rfl⟩ (e3 ▸ (Mv.symm ⟨c, d, rfl⟩))
  · exact MF_mv
theorem MF_it (h : Pd p e F) : IT (MF F) ∧ Sh 2 (MF F) := by
  obtain ⟨a, b, e1, _⟩ := MF_form h
  rw [e1]
  exact ⟨it_cl, sh_cl⟩
theorem MF_eqv {p' e' : Nat} (hF : Pd p e F) (hG : Pd p' e' G) : PyData.eqv (MF F) (MF G) = tb (Mv F G) := by
  by_cases c : Mv F G
  · rw [tb_t c, MF_mv c]
    exact (MF_it hG).2.refl
  · rw [tb_f c]
    cases q : PyData.eqv (MF F) (MF G) with
    | false => rfl
    | true => exact absurd ((MF_iff hF hG).mp ((MF_it hF).1.eqv (MF_it hG).1 q)) c
theorem are_moved_P {p' e' : Nat} (hF : Pd p e F) (hG : Pd p' e' G) (hp : p ≤ 1000) (he : e ≤ 1000) (hp' : p' ≤ 1000) (he' : e' ≤ 1000) : F_are_moved [cl p e F, cl p' e' G] = M.ret (.bool (tb (Mv F G))) := by
  unfold F_are_moved B_are_moved
  refine runF_ret (η := [some (cl p e F), some (cl p' e' G)]) rfl (ret_ret ?_)
  rw [e2_s, own1 rfl (moved_first_P hF hp he), ret_bind, own1 rfl (moved_first_P hG hp' he'), ret_bind, eqD_sh (MF_it hF).2 (MF_it hG).2, MF_eqv hF hG]
  rfl
theorem Mv.sz (h : Mv F G) : P0 F = P0 G ∧ E0 F = E0 G := by
  obtain ⟨a, b, rfl⟩ := h
  exact ⟨P0_shf.symm, E0_shf.symm⟩
theorem sz_ne {a b c d : Nat} (h : ¬ (a = c ∧ b = d)) {x y : EV} {η : Env} (hx : x η = M.ret (.tuple [.int a, .int b])) (hy : y η = M.ret (.tuple [.int c, .int d])) : bCmp neD x y η = M.ret true := by
  rw [bCmp_s, hx, ret_bind, hy, ret_bind, neD_sh pair_sh pair_sh, eqv_pair]
  have : ((a : Int) == c && (b : Int) == d) = false := by
    cases q : ((a : Int) == c && (b : Int) == d) with
    | false => rfl
    | true =>
      rw [Bool.and_eq_true, beq_iff_eq, beq_iff_eq] at q
      exact absurd ⟨by omega, by omega⟩ h
  rw [this]
  rfl
theorem fpar2_ret {i j : Nat} {x y : EV} {η : Env} {a b : D} (h1 : x η = M.ret a) (h2 : y η = M.ret b) : fPar [] [false, false] [i, j] (aC x (aC y aN)) η = M.ret (.nx ((η.set i (some a)).set j (some b))) := by
  unfold fPar
  rw [wipe_nil, aC_s, h1, aC_s]
  simp only [ret_bind]
  rw [h2]
  rfl
abbrev mbB : SV := fIf (bCmp eqD (eOwn 3 F_shifted (aC (eV 2) (aC (eV 6) (aC (eV 7) aN)))) (eV 3)) (fRet (eTup (aC (eV 6) (aC (eV 7) aN)))) fNil
abbrev mbE (c d X : D) (x y : Option D) (p e : Int) (Y : D) : Env := [some c, some d, some X, some Y, some (.int p), some (.int e), x, y]
theorem mb_one {X Y : D} {c d : D} (hF : Pd p e F) (hG : Pd p e G) (hp : Sm p) (he : Sm e) (a b : Nat) : (shf F a b = G → mbB (mbE c d (cl p e F) (some (.int a)) (some (.int b)) p e (cl p e G)) = M.ret (.rt (pr (a, b)) (mbE c d (cl p e F) (some (.int a)) (some (.int b)) p e (cl p e G)))) ∧ (¬ shf F a b = G → mbB (mbE c d (cl p e F) (some (.int a)) (some (.int b)) p e (cl p e G)) = M.ret (.nx (mbE c d (cl p e F) (some (.int a)) (some (.int b)) p e (cl p e G)))) := by
  have hc : (bCmp eqD (eOwn 3 F_shifted (aC (eV 2) (aC (eV 6) (aC (eV 7) aN)))) (eV 3)) (mbE c d (cl p e F) (some (.int a)) (some (.int b)) p e (cl p e G)) = M.ret (tb (shf F a b = G)) := by
    rw [bCmp_s, own3 (a := cl p e F) rfl rfl rfl (shifted_P hF hp he), ret_bind, v_at (d := cl p e G) rfl, ret_bind, eqD_sh sh_cl sh_cl, eqv_P (hF.shf a b) hG]
    rfl
  refine ⟨fun h => if_t (by rw [hc, tb_t h]) (ret_ret (pair_at rfl rfl)), fun h => if_f (by rw [hc, tb_f h])⟩
theorem mb_no {c d : D} (hF : Pd p e F) (hG : Pd p e G) (hp : Sm p) (he : Sm e) (a : Nat) (x : Option D) (h : ∀ b : Nat, b < e → ¬ shf F a b = G) : ∃ z, fFor [] (iRg rangeD1 (aC (eV 5) aN)) (gN 7) mbB (mbE c d (cl p e F) (some (.int a)) x p e (cl p e G)) = M.ret (.nx (mbE c d (cl p e F) (some (.int a)) z p e (cl p e G))) := by
  obtain ⟨η, h1, y, rfl⟩ := for_inv (O := []) (src := iRg rangeD1 (aC (eV 5) aN)) (gv := gN 7) (f := mbB) (n := e) (g := fun j => .int j) (η := mbE c d (cl p e F) (some (.int a)) x p e (cl p e G)) (fun _ η => ∃ y, η = mbE c d (cl p e F) (some (.int a)) y p e (cl p e G)) (rg1_at rfl he) (by
    rintro j η hj ⟨y, rfl⟩
    exact ⟨_, _, rfl, (mb_one (X := c) (Y := c) hF hG hp he a j).2 (h j hj), _, rfl⟩) ⟨x, rfl⟩
  exact ⟨y, h1⟩
theorem mb_yes {c d : D} (hF : Pd p e F) (hG : Pd p e G) (hp : Sm p) (he : Sm e) (a b : Nat) (hb : b < e) (x : Option D) (h : ∀ b' : Nat, b' < b → ¬ shf F a b' = G) (h2 : shf F a b = G) : ∃ η', fFor [] (iRg rangeD1 (aC (eV 5) aN)) (gN 7) mbB (mbE c d (cl p e F) (some (.int a)) x p e (cl p e G)) = M.ret (.rt (pr (a, b)) η') :=
  for_hit (O := []) (src := iRg rangeD1 (aC (eV 5) aN)) (gv := gN 7) (f := mbB) (n := e) (i0 := b) (g := fun j => .int j) (η := mbE c d (cl p e F) (some (.int a)) x p e (cl p e G)) (fun _ η => ∃ y, η = mbE c d (cl p e F) (some (.int a)) y p e (cl p e G)) (rg1_at rfl he) hb (by
    rintro j η hj ⟨y, rfl⟩
    exact ⟨_, _, rfl, (mb_one (X := c) (Y := c) hF hG hp he a j).2 (h j hj), _, rfl⟩) (by
    rintro η ⟨y, rfl⟩
    exact ⟨_, _, rfl, (mb_one (X := c) (Y := c) hF hG hp he a b).1 h2⟩) ⟨x, rfl⟩
theorem mb_all {c d : D} (hF : Pd p e F) (hG : Pd p e G) (hp : Sm p) (he : Sm e) (x y : Option D) (h : ∀ a b : Nat, a < p → b < e → ¬ shf F a b = G) : ∃ η, fFor [] (iRg rangeD1 (aC (eV 4) aN)) (gN 6) (fFor [] (iRg rangeD1 (aC (eV 5) aN)) (gN 7) mbB) (mbE c d (cl p e F) x y p e (cl p e G)) = M.ret (.nx η) := by
  obtain ⟨η, h1, _⟩ := for_inv (O := []) (src := iRg rangeD1 (aC (eV 4) aN)) (gv := gN 6) (f := fFor [] (iRg rangeD1 (aC (eV 5) aN)) (gN 7) mbB) (n := p) (g := fun j => .int j) (η := mbE c d (cl p e F) x y p e (cl p e G)) (fun _ η => ∃ x y, η = mbE c d (cl p e F) x y p e (cl p e G)) (rg1_at rfl hp) (by
    rintro j η hj ⟨x, y, rfl⟩
    obtain ⟨z, hz⟩ := mb_no (c := c) (d := d) hF hG hp he j y fun b hb => h j b hj hb
    exact ⟨_, _, rfl, hz, _, _, rfl⟩) ⟨x, y, rfl⟩
  exact ⟨η, h1⟩
theorem mb_hit {c d : D} (hF : Pd p e F) (hG : Pd p e G) (hp : Sm p) (he : Sm e) (x y : Option D) (a b : Nat) (ha : a < p) (hb : b < e) (h : ∀ a' b' : Nat, a' < a → b' < e → ¬ shf F a' b' = G) (h' : ∀ b' : Nat, b' < b → ¬ shf F a b' = G) (h2 : shf F a b = G) : ∃ η, fFor [] (iRg rangeD1 (aC (eV 4) aN)) (gN 6) (fFor [] (iRg rangeD1 (aC (eV 5) aN)) (gN 7) mbB) (mbE c d (cl p e F) x y p e (cl p e G)) = M.ret (.rt (pr (a, b)) η) :=
  for_hit (O := []) (src := iRg rangeD1 (aC (eV 4) aN)) (gv := gN 6) (f := fFor [] (iRg rangeD1 (aC (eV 5) aN)) (gN 7) mbB) (n := p) (i0 := a) (g := fun j => .int j) (η := mbE c d (cl p e F) x y p e (cl p e G)) (fun _ η => ∃ x y, η = mbE c d (cl p e F) x y p e (cl p e G)) (rg1_at rfl hp) ha (by
    rintro j η hj ⟨x, y, rfl⟩
    obtain ⟨z, hz⟩ := mb_no (c := c) (d := d) hF hG hp he j y fun b hb => h j b hj hb
    exact ⟨_, _, rfl, hz, _, _, rfl⟩) (by
    rintro η ⟨x, y, rfl⟩
    obtain ⟨η', e1⟩ := mb_yes (c := c) (d := d) hF hG hp he a b hb y h' h2
    exact ⟨_, _, rfl, e1⟩) ⟨x, y, rfl⟩
theorem Mv.first (h : Pd p e F) (hm : Mv F G) : ∃ a b : Nat, a < p ∧ b < e ∧ shf F a b = G ∧ (∀ a' b' : Nat, a' < a → b' < e → ¬ shf F a' b' = G) ∧ ∀ b' : Nat, b' < b → ¬ shf F a b' = G := by
  have ex : ∃ a : Nat, a < p ∧ ∃ b : Nat, b < e ∧ shf F a b = G := by
    obtain ⟨a, b, hab⟩ := hm
    have ha := mod_lt (k := a) h.p0
    have hb := mod_lt (k := b) h.e0
    rw [h.shf_mod a b] at hab
    obtain ⟨c, hc⟩ := Int.eq_ofNat_of_zero_le ha.1
    obtain ⟨d, hd⟩ := Int.eq_ofNat_of_zero_le hb.1
    rw [hc] at ha hab
    rw [hd] at hb hab
    exact ⟨c, by omega, d, by omega, hab.symm⟩
  obtain ⟨a, ⟨ha, hb⟩, h1⟩ := ex_least ex
  obtain ⟨b, ⟨hb, e1⟩, h2⟩ := ex_least hb
  exact ⟨a, b, ha, hb, e1, fun a' b' h3 h4 h5 => h1 a' h3 ⟨by omega, b', h4, h5⟩, fun b' h3 h5 => h2 b' h3 ⟨by omega, h5⟩⟩
/-- the first move -/
theorem move_between_P {p' e' : Nat} (hF : Pd p e F) (hG : Pd p' e' G) (hp : p ≤ 1000) (he : e ≤ 1000) (hp' : p' ≤ 1000) (he' : e' ≤ 1000) :
    (¬ Mv F G → F_move_between [cl p e F, cl p' e' G] = M.ret .none) ∧ (Mv F G → ∃ a b : Nat, F_move_between [cl p e F, cl p' e' G] = M.ret (pr (a, b)) ∧ a < P0 F ∧ b < E0 F ∧ shf F a b = G ∧ (∀ a' b' : Nat, a' < a → b' < E0 F → ¬ shf F a' b' = G) ∧ ∀ b' : Nat, b' < b → ¬ shf F a b' = G) := by
  have sp : Sm p := Nat.le_trans hp (by decide)
  have se : Sm e := Nat.le_trans he (by decide)
  have sp2 : Sm p' := Nat.le_trans hp' (by decide)
  have se2 : Sm e' := Nat.le_trans he' (by decide)
  have sp' : Sm (P0 F) := Nat.le_trans hF.p_le sp
  have se' : Sm (E0 F) := Nat.le_trans hF.e_le se
  by_cases hs : P0 F = P0 G ∧ E0 F = E0 G
  · have hG' := hG.lr
    have hl := least_P hG sp2 se2
    rw [← hs.1, ← hs.2] at hG' hl
    have hc : (bCmp neD (eOwn 1 F_size_of (aC (eV 2) aN)) (eOwn 1 F_size_of (aC (eV 3) aN))) [some (cl p e F), some (cl p' e' G), some (cl (P0 F) (E0 F) F), some (cl (P0 F) (E0 F) G), none, none, none, none] = M.ret false := by
      rw [bCmp_s, own1 (a := cl (P0 F) (E0 F) F) rfl (size_of_cl hF.lr.p0), ret_bind, own1 (a := cl (P0 F) (E0 F) G) rfl (size_of_cl hF.lr.p0), ret_bind, neD_sh pair_sh pair_sh, eqv_pair, beq_self_eq_true, beq_self_eq_true]
      rfl
    have go : ∀ r η', (fFor [] (iRg rangeD1 (aC (eV 4) aN)) (gN 6) (fFor [] (iRg rangeD1 (aC (eV 5) aN)) (gN 7) mbB) (mbE (cl p e F) (cl p' e' G) (cl (P0 F) (E0 F) F) none none (P0 F) (E0 F) (cl (P0 F) (E0 F) G)) = M.ret (.rt r η') → F_move_between [cl p e F, cl p' e' G] = M.ret r) ∧ (fFor [] (iRg rangeD1 (aC (eV 4) aN)) (gN 6) (fFor [] (iRg rangeD1 (aC (eV 5) aN)) (gN 7) mbB) (mbE (cl p e F) (cl p' e' G) (cl (P0 F) (E0 F) F) none none (P0 F) (E0 F) (cl (P0 F) (E0 F) G)) = M.ret (.nx η') → F_move_between [cl p e F, cl p' e' G] = M.ret .none) := by
      intro r η'
      unfold F_move_between B_move_between
      constructor
      · intro h
        exact runF_ret rfl (seq_ret (fpar2_ret (own1 (a := cl p e F) rfl (least_P hF sp se)) (own1 (a := cl p' e' G) rfl hl)) (seq_ret (if_f hc) (seq_ret (asg_size (k := 2) (p := P0 F) (e := E0 F) (f := F) rfl hF.lr.p0) (seq_rt h))))
      · intro h
        exact runF_ret rfl (seq_ret (fpar2_ret (own1 (a := cl p e F) rfl (least_P hF sp se)) (own1 (a := cl p' e' G) rfl hl)) (seq_ret (if_f hc) (seq_ret (asg_size (k := 2) (p := P0 F) (e := E0 F) (f := F) rfl hF.lr.p0) (seq_ret h (ret_ret rfl)))))
    constructor
    · intro h
      obtain ⟨η', h1⟩ := mb_all (c := cl p e F) (d := cl p' e' G) hF.lr hG' sp' se' none none fun a b _ _ z => h ⟨a, b, z.symm⟩
      exact (go .none η').2 h1
    · intro h
      obtain ⟨a, b, ha, hb, h1, h2, h3⟩ := h.first hF.lr
      obtain ⟨η', h4⟩ := mb_hit (c := cl p e F) (d := cl p' e' G) hF.lr hG' sp' se' none none a b ha hb h2 h3 h1
      exact ⟨a, b, (go _ η').1 h4, ha, hb, h1, h2, h3⟩
  · refine ⟨fun _ => ?_, fun z => absurd z.sz hs⟩
    unfold F_move_between B_move_between
    refine runF_ret rfl (seq_ret (fpar2_ret (own1 (a := cl p e F) rfl (least_P hF sp se)) (own1 (a := cl p' e' G) rfl (least_P hG sp2 se2))) (seq_rt (if_t (sz_ne hs (own1 (a := cl (P0 F) (E0 F) F) rfl (size_of_cl hF.lr.p0)) (own1 (a := cl (P0 G) (E0 G) G) rfl (size_of_cl hG.lr.p0))) (ret_ret rfl))))
end
end W3

set_option Elab.async false
set_option linter.all false
set_option maxRecDepth 100000
set_option maxHeartbeats 4000000
/-! Pk05g: common sizes, places alike, counts, rows moved. -/
namespace W3
open PySem PySem.Spec L2
theorem modD_nat {a b : Nat} (h : 0 < b) : modD (.int a) (.int b) = some (.int ((a % b : Nat) : Int)) := by
  rw [modD_pos (by omega)]; rfl
theorem divisor_P {a b : Nat} (hb : b ≤ 1000000) : F_common_divisor [.int a, .int b] = M.ret (.int (Nat.gcd a b : Nat)) := by
  unfold F_common_divisor B_common_divisor
  obtain ⟨η', h1, h2⟩ := wh_inv (N := 1000000000000) (c := bT (eV 1)) (f := fPar [] [false, false] [0, 1] (aC (eV 1) (aC (e2 modD (eV 0) (eV 1)) aN)))
    (fun m η => ∃ x : Nat, η = [some (.int x), some (.int m)] ∧ Nat.gcd x m = Nat.gcd a b) (fun η => η = [some (.int (Nat.gcd a b : Nat)), some (.int 0)]) (by
      rintro m η ⟨x, rfl, hg⟩
      rcases Nat.eq_zero_or_pos m with rfl | hm
      · refine .inl ⟨rfl, ?_⟩
        rw [Nat.gcd_zero_right] at hg
        rw [hg]; rfl
      · refine .inr ⟨?_, _, x % m, Nat.mod_lt x hm, fpar2_ret (i := 0) (j := 1) (a := .int m) (b := .int ((x % m : Nat) : Int)) rfl ?_, m, rfl, ?_⟩
        · rw [bT_s]
          show M.lift (some ((m : Int) != 0)) = _
          rw [show ((m : Int) != 0) = true from bne_iff_ne.mpr (by omega)]
          rfl
        · rw [e2_s]
          show M.lift (modD (.int x) (.int m)) = _
          rw [modD_nat hm]; rfl
        · rw [← hg, Nat.gcd_comm m, ← Nat.gcd_rec, Nat.gcd_comm]) (m := b) (η := [some (.int a), some (.int b)]) ⟨a, rfl, rfl⟩ (by omega)
  subst h2
  refine runF_ret rfl (seq_ret h1 (ret_ret ?_))
  show M.lift (absD [.int (Nat.gcd a b : Nat)]) = _
  rfl
/-- what common_multiple gives -/
def cmul (a b : Nat) : Int := (a : Int) / (Nat.gcd a b : Nat) * b
theorem multiple_P {a b : Nat} (ha : a ≤ 100000) (hb : b ≤ 100000) (hb0 : 0 < b) : F_common_multiple [.int a, .int b] = M.ret (.int (cmul a b)) := by
  unfold F_common_multiple B_common_multiple
  refine runF_ret (η := [some (.int a), some (.int b)]) rfl (ret_ret ?_)
  have g0 : 0 < Nat.gcd a b := Nat.gcd_pos_of_pos_right a hb0
  have gl : Nat.gcd a b ≤ b := Nat.le_of_dvd hb0 (Nat.gcd_dvd_right a b)
  have q0 : (a : Int) / (Nat.gcd a b : Nat) = ((a / Nat.gcd a b : Nat) : Int) := rfl
  have q1 : a / Nat.gcd a b ≤ a := Nat.div_le_self _ _
  refine mul_i (i := (a : Int) / (Nat.gcd a b : Nat)) (j := b) ⟨by rw [q0]; exact Int.natCast_nonneg _, by rw [q0]; exact Int.ofNat_le.mpr (Nat.le_trans q1 ha)⟩ ?_ rfl
  rw [e2_s, v_at (d := .int a) rfl, ret_bind, own2 (a := .int a) (b := .int b) rfl rfl (divisor_P (by omega)), ret_bind, fdivD_pos (by omega) (by omega)]
  rfl
section
variable {p e : Nat} {F G : Z2}
theorem common_size_P {p' e' : Nat} (hF : Pd p e F) (hG : Pd p' e' G) (hp : Sm p) (he : Sm e) (hp' : Sm p') (he' : Sm e') : F_common_size [cl p e F, cl p' e' G] = M.ret (.tuple [.int (cmul (P0 F) (P0 G)), .int (cmul (E0 F) (E0 G))]) := by
  unfold F_common_size B_common_size
  have a1 := Nat.le_trans hF.p_le hp
  have a2 := Nat.le_trans hF.e_le he
  have a3 := Nat.le_trans hG.p_le hp'
  have a4 := Nat.le_trans hG.e_le he'
  refine runF_ret rfl (seq_ret (fpar2_ret (own1 (a := cl p e F) rfl (straight_P hF hp he)) (own1 (a := cl p' e' G) rfl (straight_P hG hp' he'))) (ret_ret (pair_at (own2 (a := .int (P0 F)) (b := .int (P0 G)) ?_ ?_ (multiple_P a1 a3 hG.lr.p0)) (own2 (a := .int (E0 F)) (b := .int (E0 G)) ?_ ?_ (multiple_P a2 a4 hG.lr.e0)))))
  · exact fst_at rfl
  · exact fst_at rfl
  · exact snd_at rfl
  · exact snd_at rfl
/-! places alike -/
noncomputable def plL (p e : Nat) (F : Z2) (a b : Int) : List (Int × Int) := ((List.range (p * e)).filter fun k : Nat => tb (Per F (((k / e : Nat) : Int) - a) (((k % e : Nat) : Int) - b))).map fun k : Nat => (((k / e : Nat) : Int), ((k % e : Nat) : Int))
theorem mem_plL (h : Pd p e F) {a b d r : Int} : (d, r) ∈ plL p e F a b ↔ 0 ≤ d ∧ d < p ∧ 0 ≤ r ∧ r < e ∧ Per F (d - a) (r - b) := by
  unfold plL
  constructor
  · intro hm
    obtain ⟨k, hk, ek⟩ := List.mem_map.mp hm
    obtain ⟨k1, k2⟩ := List.mem_filter.mp hk
    have k1 := List.mem_range.mp k1
    injection ek with ed er
    subst ed er
    have m1 := Nat.mod_lt k h.e0
    have m2 : k / e < p := Nat.div_lt_of_lt_mul (by rw [Nat.mul_comm]; exact k1)
    exact ⟨Int.natCast_nonneg _, Int.ofNat_lt.mpr m2, Int.natCast_nonneg _, Int.ofNat_lt.mpr m1, tb_iff.mp k2⟩
  · rintro ⟨d0, d1, r0, r1, hp⟩
    obtain ⟨c, rfl⟩ := Int.eq_ofNat_of_zero_le d0
    obtain ⟨g, rfl⟩ := Int.eq_ofNat_of_zero_le r0
    have ha : c < p := by omega
    have hb : g < e := by omega
    have q1 : (c * e + g) / e = c := by rw [Nat.mul_comm c e, Nat.mul_add_div h.e0, Nat.div_eq_of_lt hb]; rfl
    have q2 : (c * e + g) % e = g := by rw [Nat.mul_comm c e, Nat.mul_add_mod, Nat.mod_eq_of_lt hb]
    refine List.mem_map.mpr ⟨c * e + g, List.mem_filter.mpr ⟨List.mem_range.mpr ?_, ?_⟩, by rw [q1, q2]⟩
    · have := Nat.mul_le_mul_right e (show c + 1 ≤ p from ha)
      rw [Nat.succ_mul] at this
      omega
    · rw [q1, q2]
      exact tb_t hp
theorem plL_lt {a b : Int} (h : 0 < e) : (plL p e F a b).Pairwise ltp := by
  unfold plL
  refine List.pairwise_map.mpr (List.Pairwise.imp_of_mem (R := fun i j : Nat => i < j) (fun {i j} _ _ hij => ?_) (List.Pairwise.filter _ List.pairwise_lt_range))
  unfold ltp
  dsimp only
  have a := Nat.div_add_mod i e
  have b := Nat.div_add_mod j e
  have c := Nat.div_le_div_right (c := e) (Nat.le_of_lt hij)
  rcases Nat.lt_or_ge (i / e) (j / e) with q | q
  · exact .inl (by omega)
  · have q' : i / e = j / e := by omega
    rw [q'] at a
    exact .inr ⟨by omega, by omega⟩
theorem ltp_nodup {L : List (Int × Int)} (h : L.Pairwise ltp) : L.Nodup := h.imp fun {q r} z => by
  intro c
  subst c
  unfold ltp at z
  omega
noncomputable def plU (p e : Nat) (F : Z2) (a b : Int) : List (Int × Int) := (perL p e F).map fun q => ((a + q.1) % p, (b + q.2) % e)
/-- a period, within the repeat -/
theorem Pd.per_mod (h : Pd p e F) {a b : Int} : Per F (a % p) (b % e) ↔ Per F a b := by
  unfold Per
  rw [← h.shf_mod]
theorem Pd.per_cg (h : Pd p e F) {a b c d : Int} (h1 : a % p = c % p) (h2 : b % e = d % e) (hp : Per F a b) : Per F c d := by
  rw [← h.per_mod, ← h1, ← h2, h.per_mod]; exact hp
theorem sub_mod_mod {x y n : Int} : (x % n - y) % n = (x - y) % n := by rw [Int.emod_sub_emod]
theorem plU_perm (h : Pd p e F) (a b : Int) : (plL p e F a b).Perm (plU p e F a b) := by
  have nd : (plU p e F a b).Nodup := by
    unfold plU
    refine List.pairwise_map.mpr (List.Pairwise.imp_of_mem (R := ltp) (fun {q r} hq hr hqr z => ?_) (perL_lt h.e0))
    obtain ⟨q1, q2, q3, q4, _⟩ := (mem_perL h (d := q.1) (r := q.2)).mp hq
    obtain ⟨r1, r2, r3, r4, _⟩ := (mem_perL h (d := r.1) (r := r.2)).mp hr
    injection z with z1 z2
    have w1 : q.1 = r.1 := by
      have := Int.emod_emod_of_dvd (q.1) (Int.dvd_refl (p : Int))
      have e1 : ((a + q.1) - a) % (p : Int) = ((a + r.1) - a) % (p : Int) := by rw [← Int.emod_sub_emod, z1, Int.emod_sub_emod]
      rw [show a + q.1 - a = q.1 by omega, show a + r.1 - a = r.1 by omega, Int.emod_eq_of_lt q1 q2, Int.emod_eq_of_lt r1 r2] at e1
      exact e1
    have w2 : q.2 = r.2 := by
      have e1 : ((b + q.2) - b) % (e : Int) = ((b + r.2) - b) % (e : Int) := by rw [← Int.emod_sub_emod, z2, Int.emod_sub_emod]
      rw [show b + q.2 - b = q.2 by omega, show b + r.2 - b = r.2 by omega, Int.emod_eq_of_lt q3 q4, Int.emod_eq_of_lt r3 r4] at e1
      exact e1
    unfold ltp at hqr
    omega
  refine (List.perm_ext_iff_of_nodup (ltp_nodup (plL_lt h.e0)) nd).mpr fun ⟨d, r⟩ => ?_
  rw [mem_plL h]
  unfold plU
  rw [List.mem_map]
  constructor
  · rintro ⟨d0, d1, r0, r1, hp⟩
    refine ⟨((d - a) % p, (r - b) % e), (mem_perL h).mpr ⟨(mod_lt h.p0).1, (mod_lt h.p0).2, (mod_lt h.e0).1, (mod_lt h.e0).2, h.per_mod.mpr hp⟩, ?_⟩
    refine Prod.ext ?_ ?_
    · show (a + (d - a) % p) % p = d
      rw [Int.add_emod_emod, show a + (d - a) = d by omega, Int.emod_eq_of_lt d0 d1]
    · show (b + (r - b) % e) % e = r
      rw [Int.add_emod_emod, show b + (r - b) = r by omega, Int.emod_eq_of_lt r0 r1]
  · rintro ⟨⟨x, y⟩, hq, hz⟩
    obtain ⟨q1, q2, q3, q4, q5⟩ := (mem_perL h).mp hq
    injection hz with z1 z2
    subst z1 z2
    refine ⟨(mod_lt h.p0).1, (mod_lt h.p0).2, (mod_lt h.e0).1, (mod_lt h.e0).2, h.per_cg ?_ ?_ q5⟩
    · show x % p = ((a + x) % p - a) % p
      rw [Int.emod_sub_emod, show a + x - a = x by omega]
    · show y % e = ((b + y) % e - b) % e
      rw [Int.emod_sub_emod, show b + y - b = y by omega]
theorem perL_le : (perL p e F).length ≤ p * e := by
  unfold perL
  rw [List.length_map]
  exact Nat.le_trans (List.length_filter_le _ _) (by rw [List.length_range]; exact Nat.le_refl _)
theorem list_map {src : IV} {f : GV} {x : EV} {vs : List Nat} {η : Env} {α : Type} {L : List α} {g h : α → D} (hs : src η = M.ret (L.map g)) (hl : L.length ≤ sizeLine) (hb : ∀ a ∈ L, ∃ η1, f (g a) (wipeE η vs) = some η1 ∧ x η1 = M.ret (h a)) : eLc src f bYes x vs η = M.ret (.list (L.map h)) := by
  have := list_list (c := fun _ => true) (t := bYes) (f := f) (x := x) (h := h) hs hl fun a ha => (by
    obtain ⟨η1, e1, e2⟩ := hb a ha
    exact ⟨η1, e1, bYes_s _, fun _ => e2⟩)
  rw [this, filter_true]
theorem places_P (h : Pd p e F) (hp : p ≤ 1000) (he : e ≤ 1000) {a b : Int} : F_places_alike [cl p e F, pr (a, b)] = M.ret (.list ((plL p e F a b).map pr)) := by
  unfold F_places_alike B_places_alike
  have sp : Sm p := Nat.le_trans hp (by decide)
  have se : Sm e := Nat.le_trans he (by decide)
  refine runF_ret rfl (seq_ret (asg_size (k := 0) (p := p) (e := e) (f := F) rfl h.p0) (ret_ret ?_))
  have e1 := list_map (src := iS (eOwn 1 F_periods_of (aC (eV 0) aN))) (f := gTp (gCn (gN 4) (gCn (gN 5) gNl))) (x := eTup (aC (e2 modD (e2 addD (e2 ixD (eV 1) (eC (.int 0))) (eV 4)) (eV 2)) (aC (e2 modD (e2 addD (e2 ixD (eV 1) (eC (.int 1))) (eV 5)) (eV 3)) aN))) (vs := [4, 5])
    (η := [some (cl p e F), some (pr (a, b)), some (.int p), some (.int e), none, none]) (L := perL p e F) (g := pr) (h := fun q => pr ((a + q.1) % p, (b + q.2) % e)) (by
      rw [iS_s, own1 (a := cl p e F) rfl (periods_P h hp he)]; rfl) (Nat.le_trans perL_le (big_ok hp he)) fun q hq => ⟨_, rfl, pair_at (by
        rw [e2_s, add_i (i := a) (j := q.1) (fst_at rfl) rfl, ret_bind]
        show M.lift (modD (.int (a + q.1)) (.int p)) = _
        rw [modD_pos (by have := h.p0; omega)]; rfl) (by
        rw [e2_s, add_i (i := b) (j := q.2) (snd_at rfl) rfl, ret_bind]
        show M.lift (modD (.int (b + q.2)) (.int e)) = _
        rw [modD_pos (by have := h.e0; omega)]; rfl)⟩
  show eCl sortedD _ [some (cl p e F), some (pr (a, b)), some (.int p), some (.int e), none, none] = _
  rw [eCl_s, aC_s, e1]
  show M.lift (sortedD [.list _]) = _
  rw [show (perL p e F).map (fun q => pr ((a + q.1) % p, (b + q.2) % e)) = (plU p e F a b).map pr by unfold plU; rw [List.map_map]; rfl, sorted_prs (plU_perm h a b) (plL_lt h.e0)]
  rfl
theorem plL_len (h : Pd p e F) (a b : Int) : (plL p e F a b).length = (perL p e F).length := by
  rw [(plU_perm h a b).length_eq]
  unfold plU
  rw [List.length_map]
theorem plL_eq (h : Pd p e F) {a b c d : Int} (hp : Per F (c - a) (d - b)) : plL p e F c d = plL p e F a b := by
  unfold plL
  congr 1
  apply List.filter_congr
  intro k _
  refine tb_congr ⟨fun z => ?_, fun z => ?_⟩
  · have := z.add hp
    rw [show ((k / e : Nat) : Int) - c + (c - a) = ((k / e : Nat) : Int) - a by omega, show ((k % e : Nat) : Int) - d + (d - b) = ((k % e : Nat) : Int) - b by omega] at this
    exact this
  · have := z.sub hp
    rw [show ((k / e : Nat) : Int) - a - (c - a) = ((k / e : Nat) : Int) - c by omega, show ((k % e : Nat) : Int) - b - (d - b) = ((k % e : Nat) : Int) - d by omega] at this
    exact this
/-! counts -/
def colK (p : Nat) (F : Z2) (j : Nat) : List Int := (List.range p).map fun i : Nat => F i j
def rowK (e : Nat) (F : Z2) (i : Nat) : List Int := (List.range e).map fun j : Nat => F i j
theorem rl_ints {n : Nat} {h : Int → Int} : rl n (fun i => .int (h i)) = ((List.range n).map fun i : Nat => h i).map PyData.int := by
  unfold rl
  rw [List.map_map]; rfl
theorem counts_P (h0 : 0 < p) (g0 : 0 < e) (hp : Sm p) (he : Sm e) : F_counts_of_columns [cl p e F] = M.ret (.tuple [.int (nF (colK p F) e), .int (nF (rowK e F) p)]) := by
  unfold F_counts_of_columns B_counts_of_columns
  obtain ⟨kd, h1, h2⟩ := eDc_rows (src := iRg rangeD1 (aC (eCl lenD (aC (e2 ixD (eV 0) (eC (.int 0))) aN)) aN)) (f := gN 3) (ek := eCl tupleD (aC (eLc (iS (eV 0)) (gN 2) bYes (e2 ixD (eV 2) (eV 3)) [2]) aN)) (vs := [3]) (η := [some (cl p e F), none, none, none]) (n := e) (g := fun j => .int j) (k := colK p F) (rg1_at (len0 (p := p) (f := F) rfl h0) he) he fun j hj => ⟨fun z => by
      have := congrArg List.length z
      unfold colK at this
      rw [List.length_map, List.length_range, List.length_nil] at this
      omega, _, rfl, by
      have e1 : eCl tupleD (aC (eLc (iS (eV 0)) (gN 2) bYes (e2 ixD (eV 2) (eV 3)) [2]) aN) [some (cl p e F), none, none, some (.int j)] = M.ret (tup p fun i => .int (F i j)) := tc1 (g := fun i => row e (F i)) rfl hp.sz fun i _ _ => ix_at (n := e) (g := fun j => .int (F i j)) (k := j) rfl rfl (by omega) (by omega)
      unfold colK
      rw [← rl_ints (h := fun i => F i j)]
      exact e1⟩
  obtain ⟨kd2, h3, h4⟩ := eDc_rows (src := iS (eV 0)) (f := gN 2) (ek := eV 2) (vs := [2]) (η := [some (cl p e F), some (.dict kd), none, none]) (n := p) (g := fun i => row e (F i)) (k := rowK e F) rfl hp fun i hi => ⟨fun z => by
      have := congrArg List.length z
      unfold rowK at this
      rw [List.length_map, List.length_range, List.length_nil] at this
      omega, _, rfl, by
      unfold rowK
      rw [← rl_ints (h := fun j => F i j)]
      rfl⟩
  refine runF_ret rfl (seq_ret (fset_ret h1) (ret_ret (pair_at ?_ ?_)))
  · show M.lift (lenA [.dict kd]) = _
    rw [h2]; rfl
  · rw [eCl_s, aC_s]
    show M.bind (M.bind (eDc _ _ _ _ _ _ [some (cl p e F), some (.dict kd), none, none]) _) _ = _
    rw [h3]
    show M.lift (lenA [.dict kd2]) = _
    rw [h4]; rfl
theorem colK_eq (h : Pd p e F) {i j : Nat} : colK p F i = colK p F j ↔ ∀ k : Int, F k i = F k j := by
  unfold colK
  constructor
  · intro z k
    have hm := mod_lt (k := k) h.p0
    obtain ⟨c, hc⟩ := Int.eq_ofNat_of_zero_le hm.1
    have := List.map_inj_left.mp z c (List.mem_range.mpr (by omega))
    rw [← h.mod k i, ← h.mod k j, hc]
    have e1 := h.mod c i
    have e2 := h.mod c j
    rw [Int.emod_eq_of_lt (by omega) (by omega)] at e1 e2
    rw [e1, e2]
    exact this
  · intro z
    exact List.map_congr_left fun k _ => z k
theorem rowK_eq (h : Pd p e F) {i j : Nat} : rowK e F i = rowK e F j ↔ ∀ k : Int, F i k = F j k := by
  unfold rowK
  constructor
  · intro z k
    have hm := mod_lt (k := k) h.e0
    obtain ⟨c, hc⟩ := Int.eq_ofNat_of_zero_le hm.1
    have := List.map_inj_left.mp z c (List.mem_range.mpr (by omega))
    rw [← h.mod i k, ← h.mod j k, hc]
    have e1 := h.mod i c
    have e2 := h.mod j c
    rw [Int.emod_eq_of_lt (a := (c : Int)) (by omega) (by omega)] at e1 e2
    rw [e1, e2]
    exact this
  · intro z
    exact List.map_congr_left fun k _ => z k
theorem counts_big (h : Pd p e F) {m n : Nat} (hm : 0 < m) (hn : 0 < n) : nF (colK (p * m) F) (e * n) = nF (colK p F) e ∧ nF (rowK (e * n) F) (p * m) = nF (rowK e F) p := by
  have hb := h.big hm hn
  refine ⟨nF_per (fun i j _ _ => by rw [colK_eq hb, colK_eq h]) (fun j hj _ => ⟨j - e, by have := h.e0; omega, ?_⟩) (Nat.le_mul_of_pos_right e hn), nF_per (fun i j _ _ => by rw [rowK_eq hb, rowK_eq h]) (fun j hj _ => ⟨j - p, by have := h.p0; omega, ?_⟩) (Nat.le_mul_of_pos_right p hm)⟩
  · rw [colK_eq hb]
    intro k
    have := h.rt.at k j
    rw [Int.sub_zero] at this
    rw [← this, show ((j - e : Nat) : Int) = (j : Int) - e by omega]
  · rw [rowK_eq hb]
    intro k
    have := h.dn.at j k
    rw [Int.sub_zero] at this
    rw [← this, show ((j - p : Nat) : Int) = (j : Int) - p by omega]
end
end W3

set_option Elab.async false
set_option linter.all false
set_option maxRecDepth 100000
set_option maxHeartbeats 4000000
/-! Pk05h: rows moved by steps. -/
namespace W3
open PySem PySem.Spec L2
/-- a row without an end -/
def Wp (n : Nat) (h : Int → Int) : Prop := ∀ j, h (j % n) = h j
theorem Wp.back {n : Nat} {h : Int → Int} (w : Wp n h) (k : Int) : Wp n fun j => h (j - k) := fun j => by
  show h (j % n - k) = h (j - k)
  rw [← w (j % n - k), Int.emod_sub_emod, w]
section
variable {p e : Nat} {F G : Z2} {h g : Int → Int}
theorem Pd.wp (h : Pd p e F) (i : Int) : Wp e (F i) := fun j => by
  rw [← h.mod i (j % e), Int.emod_emod, h.mod]
theorem row_congr (hh : ∀ j : Int, 0 ≤ j → j < e → h j = g j) : row e h = row e g := tup_congr rfl fun j j0 j1 => by rw [hh j j0 j1]
theorem row_eqv (hw : Wp e h) (gw : Wp e g) (e0 : 0 < e) : PyData.eqv (row e h) (row e g) = tb (h = g) := by
  by_cases c : h = g
  · subst c
    rw [tb_t rfl]
    exact sh_row.refl
  · rw [tb_f c]
    cases q : PyData.eqv (row e h) (row e g) with
    | false => rfl
    | true =>
      refine absurd (funext fun j => ?_) c
      have e1 : row e h = row e g := IT.eqv (.tup fun d hd => by obtain ⟨i, _, rfl⟩ := mem_rl hd; exact .int _) (.tup fun d hd => by obtain ⟨i, _, rfl⟩ := mem_rl hd; exact .int _) q
      have m := mod_lt (k := j) e0
      have e2 : ixD (row e h) (.int (j % e)) = ixD (row e g) (.int (j % e)) := by rw [e1]
      rw [ixD_tup m.1 m.2, ixD_tup m.1 m.2] at e2
      have := PyData.int.inj (Option.some.inj e2)
      rw [hw, gw] at this
      exact this
theorem moved_row_P (hw : Wp e h) (e0 : 0 < e) (he : Sm e) {k : Int} : F_moved_row [row e h, .int k] = M.ret (row e fun j => h (j - k)) := by
  unfold F_moved_row B_moved_row
  refine runF_ret rfl (seq_ret (fset_ret (d := .int e) ?_) (ret_ret (tc1 (rg1_at rfl he) he.sz fun j _ _ => ?_)))
  · rw [eCl_s, aC_s]
    show M.lift (lenD [row e h]) = _
    rw [lenD_tup]; rfl
  · have : e2 ixD (eV 0) (e2 modD (e2 subD (eV 3) (eV 1)) (eV 2)) [some (row e h), some (.int k), some (.int e), some (.int j)] = M.ret (.int (h ((j - k) % e))) := by
      refine ix_at (n := e) (g := fun j => .int (h j)) rfl ?_ (mod_lt e0).1 (mod_lt e0).2
      rw [e2_s, sub_i (i := j) (j := k) rfl rfl, ret_bind]
      show M.lift (modD (.int (j - k)) (.int e)) = _
      rw [modD_pos (by omega)]; rfl
    rw [hw] at this
    exact this
theorem from_step_P (hw : Wp e h) (e0 : 0 < e) (he : Sm e) {k : Int} {n : Nat} (hk : 0 ≤ k ∧ k ≤ 100000) (hn : Sm n) : F_from_step [row e h, .int k, .int n] = M.ret (cl n e fun i j => h (j - k * i)) := by
  unfold F_from_step B_from_step
  refine runF_ret (η := [some (row e h), some (.int k), some (.int n), none]) rfl (ret_ret (tc1 (rg1_at rfl hn) hn.sz fun i _ _ => ?_))
  exact own2 (a := row e h) (b := .int (k * i)) rfl (mul_i hk rfl rfl) (moved_row_P hw e0 he)
/-- the steps that make the next picks -/
def Stp (F : Z2) (k : Int) : Prop := Per F 1 k
theorem Stp.iff (h : Pd p e F) {k : Int} : Stp F k ↔ ∀ i : Nat, i < p → (fun j => F ((i : Int) - 1) (j - k)) = F i := by
  constructor
  · intro hs i hi
    funext j
    exact hs.at i j
  · intro hs
    refine .of fun i j => ?_
    have m := mod_lt (k := i) h.p0
    obtain ⟨c, hc⟩ := Int.eq_ofNat_of_zero_le m.1
    have this : F ((c : Int) - 1) (j - k) = F c j := congrFun (hs c (by omega)) j
    rw [← hc] at this
    have e1 := h.mod i j
    have e2 := h.mod i (j % e)
    have x1 : F (i % p) j = F i j := by rw [← h.mod (i % p) j, Int.emod_emod, h.mod]
    have x2 : F (i % p - 1) (j - k) = F (i - 1) (j - k) := by rw [← h.mod (i % p - 1), Int.emod_sub_emod, h.mod]
    rw [x1, x2] at this
    exact this
/-- one row, one less than the next -/
theorem ixD_neg {n : Nat} {g : Int → D} {k : Int} (h0 : k < 0) (h1 : -(n : Int) ≤ k) : ixD (tup n g) (.int k) = some (g (k + n)) := by
  show atI (rl n g) k = _
  unfold atI ixN
  rw [rl_len, if_neg (by omega), if_pos h1]
  show (rl n g)[(k + n).toNat]? = _
  rw [rl_get (by omega)]
  congr 2
  omega
theorem Pd.before (h : Pd p e F) : F ((-1 : Int) + p) = F (-1) := by
  funext j
  have := h.dn.at (-1 + p) j
  rw [Int.sub_zero, show (-1 : Int) + p - p = -1 by omega] at this
  exact this.symm
theorem before_at {x : EV} {η : Env} {k : Nat} (hF : Pd p e F) (h : η[k]? = some (some (cl p e F))) {i : Nat} (hi : i < p) (hx : x η = M.ret (.int i)) : e2 ixD (eV k) (e2 subD x (eC (.int 1))) η = M.ret (row e (F ((i : Int) - 1))) := by
  rw [e2_s, v_at h, ret_bind, sub_i hx (eC_s _ _), ret_bind]
  rcases Nat.eq_zero_or_pos i with rfl | hi0
  · rw [ixD_neg (by omega) (by omega), show ((0 : Nat) : Int) - 1 = -1 by omega, hF.before]; rfl
  · rw [ixD_tup (by omega) (by omega)]; rfl
theorem all_val {c : Bool → Bool} (b : Bool) : (if b = true then false else !false) = !b := by cases b <;> rfl
noncomputable def stpC (F : Z2) (k : Int) : D → Bool
  | .int i => tb ((fun j => F (i - 1) (j - k)) = F i)
  | _ => false
theorem step_test (h : Pd p e F) (hp : Sm p) (he : Sm e) {k : Int} {x y : Option D} : (bT (eGen false (iRg rangeD1 (aC (eCl lenD (aC (eV 0) aN)) aN)) (gN 3) bYes (e2 eqD (eOwn 2 F_moved_row (aC (e2 ixD (eV 0) (e2 subD (eV 3) (eC (.int 1)))) (aC (eV 2) aN))) (e2 ixD (eV 0) (eV 3))) [3])) [some (cl p e F), x, some (.int k), y] = M.ret (tb (Stp F k)) := by
  rw [bT_s, gen_val (ds := rl p fun i => .int i) (c := stpC F k) (rg1_at (by
    rw [eCl_s, aC_s]
    show M.lift (lenD [cl p e F]) = _
    rw [lenD_tup]; rfl) hp) fun d hd => ?_]
  · show M.ret _ = _
    refine congrArg M.ret ?_
    by_cases c : Stp F k
    · rw [tb_t c, if_neg]
      · rfl
      · rw [any_rl]
        rintro ⟨i, hi, z⟩
        rw [show stpC F k (.int i) = true from tb_t ((Stp.iff h).mp c i hi)] at z
        exact absurd z (by decide)
    · rw [tb_f c, if_pos]
      rw [any_rl]
      have : ¬ ∀ i : Nat, i < p → (fun j => F ((i : Int) - 1) (j - k)) = F i := fun z => c ((Stp.iff h).mpr z)
      obtain ⟨i, hi⟩ := Classical.not_forall.mp this
      obtain ⟨hi, z⟩ := Classical.not_imp.mp hi
      exact ⟨i, hi, by rw [show stpC F k (.int i) = false from tb_f z]; rfl⟩
  · obtain ⟨i, hi, rfl⟩ := mem_rl hd
    refine ⟨_, rfl, bYes_s _, ?_⟩
    rw [e2_s, own2 (a := row e (F ((i : Int) - 1))) (b := .int k) (before_at h rfl hi rfl) rfl (moved_row_P (h.wp _) h.e0 he), ret_bind, ix_at (n := p) (g := fun i => row e (F i)) (k := i) rfl rfl (by omega) (by omega), ret_bind, eqD_sh sh_row sh_row, row_eqv ((h.wp _).back k) (h.wp _) h.e0]
    rfl
theorem step_of_P (h : Pd p e F) (hp : Sm p) (he : Sm e) : ((∀ k : Nat, k < e → ¬ Stp F k) → F_step_of [cl p e F] = M.ret .none) ∧ ∀ k : Nat, k < e → Stp F k → (∀ m : Nat, m < k → ¬ Stp F m) → F_step_of [cl p e F] = M.ret (.int k) := by
  unfold F_step_of B_step_of
  constructor
  · intro hn
    obtain ⟨η', h1, x, y, rfl⟩ := for_inv (O := []) (src := iRg rangeD1 (aC (eV 1) aN)) (gv := gN 2) (f := fIf (bT (eGen false (iRg rangeD1 (aC (eCl lenD (aC (eV 0) aN)) aN)) (gN 3) bYes (e2 eqD (eOwn 2 F_moved_row (aC (e2 ixD (eV 0) (e2 subD (eV 3) (eC (.int 1)))) (aC (eV 2) aN))) (e2 ixD (eV 0) (eV 3))) [3])) (fRet (eV 2)) fNil) (n := e) (g := fun j => .int j) (η := [some (cl p e F), some (.int e), none, none]) (fun _ η => ∃ x y, η = [some (cl p e F), some (.int e), x, y]) (rg1_at rfl he) (by
      rintro j η hj ⟨x, y, rfl⟩
      exact ⟨_, _, rfl, if_f ((step_test (x := some (.int e)) (y := y) h hp he).trans (congrArg M.ret (tb_f (hn j hj)))), _, _, rfl⟩) ⟨_, _, rfl⟩
    exact runF_ret rfl (seq_ret (fset_ret (len0 (p := p) (f := F) rfl h.p0)) (seq_ret h1 (ret_ret rfl)))
  · intro k hk hs hm
    obtain ⟨η', h1⟩ := for_hit (O := []) (src := iRg rangeD1 (aC (eV 1) aN)) (gv := gN 2) (f := fIf (bT (eGen false (iRg rangeD1 (aC (eCl lenD (aC (eV 0) aN)) aN)) (gN 3) bYes (e2 eqD (eOwn 2 F_moved_row (aC (e2 ixD (eV 0) (e2 subD (eV 3) (eC (.int 1)))) (aC (eV 2) aN))) (e2 ixD (eV 0) (eV 3))) [3])) (fRet (eV 2)) fNil) (n := e) (i0 := k) (d := .int k) (g := fun j => .int j) (η := [some (cl p e F), some (.int e), none, none]) (fun _ η => ∃ x y, η = [some (cl p e F), some (.int e), x, y]) (rg1_at rfl he) hk (by
      rintro j η hj ⟨x, y, rfl⟩
      exact ⟨_, _, rfl, if_f ((step_test (x := some (.int e)) (y := y) h hp he).trans (congrArg M.ret (tb_f (hm j hj)))), _, _, rfl⟩) (by
      rintro η ⟨x, y, rfl⟩
      exact ⟨_, _, rfl, if_t ((step_test (x := some (.int e)) (y := y) h hp he).trans (congrArg M.ret (tb_t hs))) (ret_ret rfl)⟩) ⟨_, _, rfl⟩
    exact runF_ret rfl (seq_ret (fset_ret (len0 (p := p) (f := F) rfl h.p0)) (seq_rt h1))
theorem closing_P (hw : Wp e h) (e0 : 0 < e) (he : Sm e) {k : Int} (hk : 0 ≤ k ∧ k ≤ 100000) : ∃ n : Nat, F_closing_picks [row e h, .int k] = M.ret (.int n) ∧ 1 ≤ n ∧ n ≤ e ∧ (fun j => h (j - k * n)) = h ∧ ∀ m : Nat, 1 ≤ m → m < n → ¬ (fun j => h (j - k * m)) = h := by
  unfold F_closing_picks B_closing_picks
  have tst : ∀ c : Nat, (bCmp neD (eOwn 2 F_moved_row (aC (eV 0) (aC (e2 mulD (eV 1) (eV 3)) aN))) (eV 0)) [some (row e h), some (.int k), some (.int e), some (.int c)] = M.ret (!tb ((fun j => h (j - k * c)) = h)) := fun c => by
    rw [bCmp_s, own2 (a := row e h) (b := .int (k * c)) rfl (mul_i hk rfl rfl) (moved_row_P hw e0 he), ret_bind, v_at (d := row e h) rfl, ret_bind, neD_sh sh_row sh_row, row_eqv (hw.back _) hw e0]
    rfl
  obtain ⟨η', h1, n, n1, n2, n3, n4, n5⟩ := wh_inv (N := 1000000000000) (c := bCmp neD (eOwn 2 F_moved_row (aC (eV 0) (aC (e2 mulD (eV 1) (eV 3)) aN))) (eV 0)) (f := fAug [] 3 addI (eC (.int 1)))
    (fun m η => ∃ c : Nat, 1 ≤ c ∧ c ≤ e ∧ m = e - c ∧ η = [some (row e h), some (.int k), some (.int e), some (.int c)] ∧ ∀ m : Nat, 1 ≤ m → m < c → ¬ (fun j => h (j - k * m)) = h)
    (fun η => ∃ n : Nat, 1 ≤ n ∧ n ≤ e ∧ η = [some (row e h), some (.int k), some (.int e), some (.int n)] ∧ (fun j => h (j - k * n)) = h ∧ ∀ m : Nat, 1 ≤ m → m < n → ¬ (fun j => h (j - k * m)) = h) (by
      rintro m η ⟨c, c1, c2, rfl, rfl, c3⟩
      by_cases z : (fun j => h (j - k * c)) = h
      · exact .inl ⟨by rw [tst, tb_t z]; rfl, c, c1, c2, rfl, z, c3⟩
      · refine .inr ⟨by rw [tst, tb_f z]; rfl, [some (row e h), some (.int k), some (.int e), some (.int ((c : Int) + 1))], e - (c + 1), ?_, rfl, c + 1, by omega, ?_, rfl, by rw [Int.natCast_add]; rfl, fun m m1 m2 => ?_⟩
        · have : c ≠ e := fun q => z (by
            subst q
            funext j
            rw [← hw, Int.sub_mul_emod_self_right, hw])
          omega
        · have : c ≠ e := fun q => z (by
            subst q
            funext j
            rw [← hw, Int.sub_mul_emod_self_right, hw])
          omega
        · rcases Nat.lt_or_ge m c with q | q
          · exact c3 m m1 q
          · rw [show m = c by omega]; exact z) (m := e - 1) (η := [some (row e h), some (.int k), some (.int e), some (.int 1)]) ⟨1, by omega, by omega, rfl, rfl, fun m a b => by omega⟩ (by unfold Sm at he; omega)
  subst n3
  refine ⟨n, runF_ret rfl (seq_ret (fset_ret (d := .int e) ?_) (seq_ret (fset_ret rfl) (seq_ret h1 (ret_ret rfl)))), n1, n2, n4, n5⟩
  rw [eCl_s, aC_s]
  show M.lift (lenD [row e h]) = _
  rw [lenD_tup]; rfl
end
end W3

set_option Elab.async false
set_option linter.all false
set_option maxRecDepth 100000
set_option maxHeartbeats 4000000
/-! Pk05i: turns of cloths without an end. -/
namespace W3
open PySem PySem.Spec L2
def rf (b : Bool) (i : Int) : Int := if b = true then -1 - i else i
def ng (b : Bool) (v : Int) : Int := if b = true then 1 - v else v
def sg (b : Bool) (i : Int) : Int := if b = true then -i else i
theorem rf_rf (a b : Bool) (i : Int) : rf a (rf b i) = rf (Bool.xor a b) i := by
  cases a <;> cases b <;> simp [rf] <;> omega
theorem ng_ng (a b : Bool) (i : Int) : ng a (ng b i) = ng (Bool.xor a b) i := by
  cases a <;> cases b <;> simp [ng] <;> omega
theorem rf_sub (b : Bool) (i a : Int) : rf b (i - a) = rf b i - sg b a := by
  cases b <;> simp [rf, sg] <;> omega
theorem sg_sg (b : Bool) (i : Int) : sg b (sg b i) = i := by cases b <;> simp [sg]
def Ag (s u f t : Bool) (F : Z2) : Z2 := fun i j => ng (Bool.xor t s) (if s = true then F (rf f j) (rf u i) else F (rf u i) (rf f j))
def b0 (c : Nat) : Bool := c % 2 == 1
def b1 (c : Nat) : Bool := c / 2 % 2 == 1
def b2 (c : Nat) : Bool := c / 4 % 2 == 1
def b3 (c : Nat) : Bool := c / 8 % 2 == 1
def A (c : Nat) (F : Z2) : Z2 := Ag (b3 c) (b2 c) (b1 c) (b0 c) F
def enc (s u f t : Bool) : Nat := 8 * s.toNat + 4 * u.toNat + 2 * f.toNat + t.toNat
def mulc (c d : Nat) : Nat := enc (Bool.xor (b3 c) (b3 d)) (if b3 d = true then Bool.xor (b1 c) (b2 d) else Bool.xor (b2 c) (b2 d)) (if b3 d = true then Bool.xor (b2 c) (b1 d) else Bool.xor (b1 c) (b1 d)) (Bool.xor (b0 c) (b0 d))
theorem b_enc (s u f t : Bool) : b3 (enc s u f t) = s ∧ b2 (enc s u f t) = u ∧ b1 (enc s u f t) = f ∧ b0 (enc s u f t) = t := by
  cases s <;> cases u <;> cases f <;> cases t <;> decide
theorem enc_lt (s u f t : Bool) : enc s u f t < 16 := by
  cases s <;> cases u <;> cases f <;> cases t <;> decide
theorem mulc_lt (c d : Nat) : mulc c d < 16 := enc_lt _ _ _ _
theorem Ag_Ag (s u f t s' u' f' t' : Bool) (F : Z2) : Ag s' u' f' t' (Ag s u f t F) = Ag (Bool.xor s s') (if s' = true then Bool.xor f u' else Bool.xor u u') (if s' = true then Bool.xor u f' else Bool.xor f f') (Bool.xor t t') F := by
  funext i j
  unfold Ag
  cases s' <;> cases s
  · simp only [ng_ng, rf_rf, Bool.xor_false, Bool.false_eq_true, if_false]
    rw [Bool.xor_comm t']
  · simp only [ng_ng, rf_rf, Bool.xor_false, Bool.xor_true, Bool.false_eq_true, if_false, if_true]
    congr 1
    cases t <;> cases t' <;> rfl
  · simp only [ng_ng, rf_rf, Bool.xor_false, Bool.false_xor, Bool.false_eq_true, if_false, if_true]
    congr 1
    cases t <;> cases t' <;> rfl
  · simp only [ng_ng, rf_rf, Bool.xor_false, Bool.xor_true, Bool.not_true, Bool.false_eq_true, if_false, if_true]
    congr 1
    cases t <;> cases t' <;> rfl
theorem A_A (c d : Nat) (F : Z2) : A d (A c F) = A (mulc c d) F := by
  unfold A mulc
  rw [Ag_Ag]
  obtain ⟨e1, e2, e3, e4⟩ := b_enc (Bool.xor (b3 c) (b3 d)) (if b3 d = true then Bool.xor (b1 c) (b2 d) else Bool.xor (b2 c) (b2 d)) (if b3 d = true then Bool.xor (b2 c) (b1 d) else Bool.xor (b1 c) (b1 d)) (Bool.xor (b0 c) (b0 d))
  rw [e1, e2, e3, e4]
theorem A_zero (F : Z2) : A 0 F = F := by
  funext i j
  rfl
def invc (c : Nat) : Nat := enc (b3 c) (if b3 c = true then b1 c else b2 c) (if b3 c = true then b2 c else b1 c) (b0 c)
theorem invc_lt (c : Nat) : invc c < 16 := enc_lt _ _ _ _
theorem mul_inv : ∀ c, c < 16 → mulc c (invc c) = 0 ∧ mulc (invc c) c = 0 := by decide
theorem A_inv {c : Nat} (h : c < 16) (F : Z2) : A (invc c) (A c F) = F ∧ A c (A (invc c) F) = F := by
  rw [A_A, A_A, (mul_inv c h).1, (mul_inv c h).2, A_zero]
  exact ⟨rfl, rfl⟩
theorem A_inj {c : Nat} (h : c < 16) {F G : Z2} (e : A c F = A c G) : F = G := by
  rw [← (A_inv h F).1, e, (A_inv h G).1]
theorem shf_A (c : Nat) (F : Z2) (a b : Int) : shf (A c F) a b = A c (if b3 c = true then shf F (sg (b1 c) b) (sg (b2 c) a) else shf F (sg (b2 c) a) (sg (b1 c) b)) := by
  funext i j
  show A c F (i - a) (j - b) = _
  unfold A Ag
  rw [rf_sub, rf_sub]
  cases b3 c <;> rfl
theorem A_shf (c : Nat) (F : Z2) (a b : Int) : A c (shf F a b) = if b3 c = true then shf (A c F) (sg (b2 c) b) (sg (b1 c) a) else shf (A c F) (sg (b2 c) a) (sg (b1 c) b) := by
  cases h : b3 c
  · rw [if_neg Bool.false_ne_true, shf_A, h, if_neg Bool.false_ne_true, sg_sg, sg_sg]
  · rw [if_pos rfl, shf_A, h, if_pos rfl, sg_sg, sg_sg]
section
variable {p e : Nat} {F G : Z2} {c d : Nat}
theorem Mv.A (h : Mv F G) (c : Nat) : Mv (W3.A c F) (W3.A c G) := by
  obtain ⟨a, b, rfl⟩ := h
  rw [A_shf]
  split
  · exact ⟨_, _, rfl⟩
  · exact ⟨_, _, rfl⟩
theorem Mv.A_iff (hc : c < 16) : Mv (W3.A c F) (W3.A c G) ↔ Mv F G := ⟨fun h => by
  have := h.A (invc c)
  rw [(A_inv hc F).1, (A_inv hc G).1] at this
  exact this, fun h => h.A c⟩
theorem per_A (hc : c < 16) {a b : Int} : Per (A c F) a b ↔ if b3 c = true then Per F (sg (b1 c) b) (sg (b2 c) a) else Per F (sg (b2 c) a) (sg (b1 c) b) := by
  show shf (A c F) a b = A c F ↔ _
  rw [shf_A]
  split
  · exact ⟨fun h => A_inj hc h, fun h => by rw [show shf F (sg (b1 c) b) (sg (b2 c) a) = F from h]⟩
  · exact ⟨fun h => A_inj hc h, fun h => by rw [show shf F (sg (b2 c) a) (sg (b1 c) b) = F from h]⟩
theorem sg_zero (b : Bool) : sg b 0 = 0 := by cases b <;> rfl
theorem per_sgd {b : Bool} {n : Int} : Per F (sg b n) 0 ↔ Per F n 0 := by
  cases b
  · exact Iff.rfl
  · constructor
    · intro h
      have := Per.neg h
      rw [show -(sg true n) = n by simp [sg], Int.neg_zero] at this
      exact this
    · intro h
      have := Per.neg h
      rw [Int.neg_zero] at this
      exact this
theorem per_sgr {b : Bool} {n : Int} : Per F 0 (sg b n) ↔ Per F 0 n := by
  cases b
  · exact Iff.rfl
  · constructor
    · intro h
      have := Per.neg h
      rw [show -(sg true n) = n by simp [sg], Int.neg_zero] at this
      exact this
    · intro h
      have := Per.neg h
      rw [Int.neg_zero] at this
      exact this
theorem per_Ad (hc : c < 16) {n : Int} : Per (A c F) n 0 ↔ if b3 c = true then Per F 0 n else Per F n 0 := by
  rw [per_A hc, sg_zero, per_sgd, per_sgr]
theorem per_Ar (hc : c < 16) {n : Int} : Per (A c F) 0 n ↔ if b3 c = true then Per F n 0 else Per F 0 n := by
  rw [per_A hc, sg_zero, per_sgd, per_sgr]
/-- sizes, turned -/
def tz1 (c p e : Nat) : Nat := if b3 c = true then e else p
def tz2 (c p e : Nat) : Nat := if b3 c = true then p else e
theorem Pd.A (h : Pd p e F) (hc : c < 16) : Pd (tz1 c p e) (tz2 c p e) (W3.A c F) := by
  have h1 : Per (W3.A c F) (tz1 c p e) 0 := by
    rw [per_Ad hc]
    unfold tz1
    cases b3 c
    · exact h.dn
    · exact h.rt
  have h2 : Per (W3.A c F) 0 (tz2 c p e) := by
    rw [per_Ar hc]
    unfold tz2
    cases b3 c
    · exact h.rt
    · exact h.dn
  refine ⟨?_, ?_, h1, h2⟩
  · unfold tz1
    split
    · exact h.e0
    · exact h.p0
  · unfold tz2
    split
    · exact h.p0
    · exact h.e0
theorem P0_A (hc : c < 16) : P0 (A c F) = tz1 c (P0 F) (E0 F) := by
  unfold tz1 P0 E0
  cases h : b3 c
  · rw [if_neg Bool.false_ne_true]
    congr 1
    funext n
    rw [per_Ad hc, h, if_neg Bool.false_ne_true]
  · rw [if_pos rfl]
    congr 1
    funext n
    rw [per_Ad hc, h, if_pos rfl]
theorem E0_A (hc : c < 16) : E0 (A c F) = tz2 c (P0 F) (E0 F) := by
  unfold tz2 P0 E0
  cases h : b3 c
  · rw [if_neg Bool.false_ne_true]
    congr 1
    funext n
    rw [per_Ar hc, h, if_neg Bool.false_ne_true]
  · rw [if_pos rfl]
    congr 1
    funext n
    rw [per_Ar hc, h, if_pos rfl]
/-! the functions that turn -/
theorem Pd.rev_e (h : Pd p e F) (i j : Int) : F i ((e : Int) - 1 - j) = F i (-1 - j) := by
  have := h.rt.at i ((e : Int) - 1 - j)
  rw [Int.sub_zero, show (e : Int) - 1 - j - e = -1 - j by omega] at this
  exact this.symm
theorem Pd.rev_p (h : Pd p e F) (i j : Int) : F ((p : Int) - 1 - i) j = F (-1 - i) j := by
  have := h.dn.at ((p : Int) - 1 - i) j
  rw [Int.sub_zero, show (p : Int) - 1 - i - p = -1 - i by omega] at this
  exact this.symm
theorem other_face_A (hp : Sm p) (he : Sm e) : F_other_face [cl p e F] = M.ret (cl p e (A 1 F)) := other_face_cl hp he
theorem flipped_A (h : Pd p e F) (hp : Sm p) : F_flipped [cl p e F] = M.ret (cl p e (A 2 F)) := by
  rw [flipped_cl hp]
  exact congrArg M.ret (cl_congr rfl rfl fun i j _ _ _ _ => h.rev_e i j)
theorem upside_A (h : Pd p e F) : F_upside_down [cl p e F] = M.ret (cl p e (A 4 F)) := by
  rw [upside_down_cl]
  exact congrArg M.ret (cl_congr rfl rfl fun i j _ _ _ _ => h.rev_p i j)
theorem half_A (h : Pd p e F) (hp : Sm p) : F_half_turned [cl p e F] = M.ret (cl p e (A 6 F)) := by
  rw [half_turned_cl hp]
  exact congrArg M.ret (cl_congr rfl rfl fun i j _ _ _ _ => by rw [h.rev_p, h.rev_e]; rfl)
theorem exchanged_A (h : Pd p e F) (hp : Sm p) (he : Sm e) : F_exchanged [cl p e F] = M.ret (cl e p (A 8 F)) := exchanged_cl h.p0 hp he
/-! words -/
def wd (w : Nat) : D := .str ((["same", "flip", "upside", "half", "swap", "quarter", "back", "cross"] : List Str).getD w "same")
theorem turned_P (h : Pd p e F) (hp : Sm p) (he : Sm e) {w : Nat} (hw : w < 8) : F_turned [cl p e F, wd w] = M.ret (cl (tz1 (2 * w) p e) (tz2 (2 * w) p e) (A (2 * w) F)) := by
  have h8 : Pd e p (A 8 F) := h.A (c := 8) (by decide)
  have hx := exchanged_A h hp he
  have m10 : A 2 (A 8 F) = A 10 F := A_A 8 2 F
  have m12 : A 4 (A 8 F) = A 12 F := A_A 8 4 F
  have m14 : A 6 (A 8 F) = A 14 F := A_A 8 6 F
  have q10 := flipped_A h8 he
  have q12 := upside_A h8
  have q14 := half_A h8 he
  rw [m10] at q10
  rw [m12] at q12
  rw [m14] at q14
  unfold F_turned B_turned
  rcases w with _ | _ | _ | _ | _ | _ | _ | _ | w
  · exact runF_ret rfl (seq_rt (if_t (by kernel_rfl) (ret_ret (by rw [A_zero]; rfl))))
  · exact runF_ret rfl (seq_ret (if_f (by kernel_rfl)) (seq_rt (if_t (by kernel_rfl) (ret_ret (own1 (a := cl p e F) rfl (flipped_A h hp))))))
  · exact runF_ret rfl (seq_ret (if_f (by kernel_rfl)) (seq_ret (if_f (by kernel_rfl)) (seq_rt (if_t (by kernel_rfl) (ret_ret (own1 (a := cl p e F) rfl (upside_A h)))))))
  · exact runF_ret rfl (seq_ret (if_f (by kernel_rfl)) (seq_ret (if_f (by kernel_rfl)) (seq_ret (if_f (by kernel_rfl)) (seq_rt (if_t (by kernel_rfl) (ret_ret (own1 (a := cl p e F) rfl (half_A h hp))))))))
  · exact runF_ret rfl (seq_ret (if_f (by kernel_rfl)) (seq_ret (if_f (by kernel_rfl)) (seq_ret (if_f (by kernel_rfl)) (seq_ret (if_f (by kernel_rfl)) (seq_rt (if_t (by kernel_rfl) (ret_ret (own1 (a := cl p e F) rfl hx))))))))
  · exact runF_ret rfl (seq_ret (if_f (by kernel_rfl)) (seq_ret (if_f (by kernel_rfl)) (seq_ret (if_f (by kernel_rfl)) (seq_ret (if_f (by kernel_rfl)) (seq_ret (if_f (by kernel_rfl)) (seq_rt (if_t (by kernel_rfl) (ret_ret (own1 (own1 (a := cl p e F) rfl hx) q10)))))))))
  · exact runF_ret rfl (seq_ret (if_f (by kernel_rfl)) (seq_ret (if_f (by kernel_rfl)) (seq_ret (if_f (by kernel_rfl)) (seq_ret (if_f (by kernel_rfl)) (seq_ret (if_f (by kernel_rfl)) (seq_ret (if_f (by kernel_rfl)) (seq_rt (if_t (by kernel_rfl) (ret_ret (own1 (own1 (a := cl p e F) rfl hx) q12))))))))))
  · exact runF_ret rfl (seq_ret (if_f (by kernel_rfl)) (seq_ret (if_f (by kernel_rfl)) (seq_ret (if_f (by kernel_rfl)) (seq_ret (if_f (by kernel_rfl)) (seq_ret (if_f (by kernel_rfl)) (seq_ret (if_f (by kernel_rfl)) (seq_ret (if_f (by kernel_rfl)) (ret_ret (own1 (own1 (a := cl p e F) rfl hx) q14)))))))))
  · omega
end
end W3

set_option Elab.async false
set_option linter.all false
set_option maxRecDepth 100000
set_option maxHeartbeats 4000000
/-! Pk05j: symmetries, first forms. -/
namespace W3
open PySem PySem.Spec L2
open PySem.W (dataLt)
theorem followed_P {a b : Nat} (ha : a < 8) (hb : b < 8) : F_followed [wd a, wd b] = M.ret (wd (mulc (2 * a) (2 * b) / 2)) := by
  rcases a with _ | _ | _ | _ | _ | _ | _ | _ | a
  case succ.succ.succ.succ.succ.succ.succ.succ => omega
  all_goals
    rcases b with _ | _ | _ | _ | _ | _ | _ | _ | b
    case succ.succ.succ.succ.succ.succ.succ.succ => omega
    all_goals kernel_rfl
def sy (c : Nat) : D := .tuple [wd (c / 2), .int (c % 2 : Nat)]
theorem wd_eqv : ∀ a, a < 8 → ∀ b, b < 8 → PyData.eqv (wd a) (wd b) = decide (a = b) := by
  intro a ha b hb
  rcases a with _ | _ | _ | _ | _ | _ | _ | _ | a
  case succ.succ.succ.succ.succ.succ.succ.succ => omega
  all_goals
    rcases b with _ | _ | _ | _ | _ | _ | _ | _ | b
    case succ.succ.succ.succ.succ.succ.succ.succ => omega
    all_goals kernel_rfl
theorem wd_words : iS (eC (.tuple ((["same", "flip", "upside", "half", "swap", "quarter", "back", "cross"] : List Str).map PyData.str))) = fun _ => M.ret (rl 8 fun i => wd i.toNat) := by
  funext η
  rfl
theorem sy_eqv {c d : Nat} (hc : c < 16) (hd : d < 16) : PyData.eqv (sy c) (sy d) = decide (c = d) := by
  have e1 : PyData.eqv (sy c) (sy d) = (PyData.eqv (wd (c / 2)) (wd (d / 2)) && ((((c % 2 : Nat) : Int) == ((d % 2 : Nat) : Int)) && true)) := by
    simp [sy, PyData.eqv, PyData.eqvAll]
  rw [e1, wd_eqv _ (by omega) _ (by omega), Bool.and_true]
  by_cases h : c = d
  · subst h; simp
  · rw [decide_eq_false h]
    cases q : (decide (c / 2 = d / 2) && (((c % 2 : Nat) : Int) == ((d % 2 : Nat) : Int))) with
    | false => rfl
    | true =>
      rw [Bool.and_eq_true, decide_eq_true_eq, beq_iff_eq] at q
      exact absurd (by omega) h
theorem sh_wd (w : Nat) : Sh 0 (wd w) := by
  rcases w with _ | _ | _ | _ | _ | _ | _ | _ | w
  all_goals exact ⟨by kernel_rfl, Nat.le_refl _⟩
theorem sh_sy (c : Nat) : Sh 1 (sy c) := .tuple (.cons (sh_wd _) (.cons .int .nil))
theorem any_sy {c : Nat} (hc : c < 16) : ∀ L : List Nat, (∀ d ∈ L, d < 16) → ((L.map sy).any fun d => PyData.eqv d (sy c)) = decide (c ∈ L)
  | [], _ => rfl
  | r :: L, h => by
    rw [List.map_cons, List.any_cons, sy_eqv (h r List.mem_cons_self) hc, any_sy hc L fun d hd => h d (List.mem_cons_of_mem _ hd)]
    by_cases z : r = c
    · subst z; simp
    · have z' : ¬ c = r := fun q => z q.symm
      simp [z, z']
theorem sh_sys {L : List Nat} : Sh 2 (.list (L.map sy)) := .list (.of fun d hd => by
  obtain ⟨q, _, rfl⟩ := List.mem_map.mp hd
  exact sh_sy q)
theorem inAD_sys {c : Nat} {L : List Nat} (hc : c < 16) (h : ∀ d ∈ L, d < 16) : inAD (sy c) (.list (L.map sy)) = some (.bool (decide (c ∈ L))) := by
  show (inB (sy c) (.list (L.map sy))).map PyData.bool = _
  unfold inB
  show (if SeqAt.shaped (sy c) = true ∧ SeqAt.shaped (.list (L.map sy)) = true then some ((L.map sy).any fun d => PyData.eqv d (sy c)) else none).map PyData.bool = _
  rw [if_pos ⟨(sh_sy c).ok, sh_sys.ok⟩, any_sy hc L h]
  rfl
theorem ninAD_sys {c : Nat} {L : List Nat} (hc : c < 16) (h : ∀ d ∈ L, d < 16) : ninAD (sy c) (.list (L.map sy)) = some (.bool (!decide (c ∈ L))) := by
  show (inB (sy c) (.list (L.map sy))).map (fun b => PyData.bool (!b)) = _
  unfold inB
  show (if SeqAt.shaped (sy c) = true ∧ SeqAt.shaped (.list (L.map sy)) = true then some ((L.map sy).any fun d => PyData.eqv d (sy c)) else none).map (fun b => PyData.bool (!b)) = _
  rw [if_pos ⟨(sh_sy c).ok, sh_sys.ok⟩, any_sy hc L h]
  rfl
section
variable {p e : Nat} {F G : Z2}
theorem tz_le {c : Nat} (hp : p ≤ 1000) (he : e ≤ 1000) : tz1 c p e ≤ 1000 ∧ tz2 c p e ≤ 1000 := by
  unfold tz1 tz2
  split <;> exact ⟨by assumption, by assumption⟩
theorem tz_face : ∀ w, w < 8 → b3 (2 * w + 1) = b3 (2 * w) := by decide
theorem mul_face : ∀ w, w < 8 → mulc (2 * w) 1 = 2 * w + 1 := by decide
/-- the other face, where told -/
theorem face_P (h : Pd p e F) (hp : p ≤ 1000) (he : e ≤ 1000) {w : Nat} (hw : w < 8) {j : Nat} (hj : j < 2) {η : Env} {k l : Nat} (h1 : η[k]? = some (some (.int j))) (h2 : η[l]? = some (some (cl (tz1 (2 * w) p e) (tz2 (2 * w) p e) (A (2 * w) F)))) : eIf (bT (eV k)) (eOwn 1 F_other_face (aC (eV l) aN)) (eV l) η = M.ret (cl (tz1 (2 * w + j) p e) (tz2 (2 * w + j) p e) (A (2 * w + j) F)) := by
  have s := tz_le (c := 2 * w) hp he
  rw [eIf_s, bT_s, v_at h1]
  rcases j with _ | _ | j
  · show M.bind (M.ret ((0 : Int) != 0)) _ = _
    rw [ret_bind, if_neg (by decide), v_at h2]
    rfl
  · show M.bind (M.ret ((1 : Int) != 0)) _ = _
    rw [ret_bind, if_pos (by decide), own1 (v_at h2) (other_face_A (Nat.le_trans s.1 (by decide)) (Nat.le_trans s.2 (by decide))), A_A, show 0 + 1 = 1 from rfl, mul_face w hw]
    unfold tz1 tz2
    rw [tz_face w hw]
  · omega
/-! symmetries -/
noncomputable def symL (F : Z2) (n : Nat) : List Nat := (List.range n).filter fun c => tb (Mv F (A c F))
theorem mem_symL {c n : Nat} : c ∈ symL F n ↔ c < n ∧ Mv F (A c F) := by
  unfold symL
  rw [List.mem_filter, List.mem_range]
  exact ⟨fun ⟨a, b⟩ => ⟨a, tb_iff.mp b⟩, fun ⟨a, b⟩ => ⟨a, tb_t b⟩⟩
theorem symL_lt {n : Nat} (hn : n ≤ 16) : ∀ d ∈ symL F n, d < 16 := fun d hd => by
  have := (mem_symL.mp hd).1
  omega
theorem symL_succ {n : Nat} : symL F (n + 1) = symL F n ++ if tb (Mv F (A n F)) = true then [n] else [] := by
  unfold symL
  rw [List.range_succ, List.filter_append]
  congr 1
  by_cases c : tb (Mv F (A n F)) = true
  · rw [if_pos c, List.filter_cons_of_pos (p := fun c => tb (Mv F (A c F))) c]; rfl
  · rw [if_neg c, List.filter_cons_of_neg (p := fun c => tb (Mv F (A c F))) c]; rfl
theorem symL_len {n : Nat} : (symL F n).length ≤ n := by
  unfold symL
  exact Nat.le_trans (List.length_filter_le _ _) (by rw [List.length_range]; exact Nat.le_refl _)
abbrev syI : SV := fIf (bCmp eqD (eOwn 1 F_moved_first (aC (eIf (bT (eV 6)) (eOwn 1 F_other_face (aC (eV 5) aN)) (eV 5)) aN)) (eV 2)) (fApp [3] 3 (eTup (aC (eV 4) (aC (eV 6) aN)))) fNil
theorem syI_P (h : Pd p e F) (hp : p ≤ 1000) (he : e ≤ 1000) {w : Nat} (hw : w < 8) {j : Nat} (hj : j < 2) {x0 x1 : Option D} : syI [x0, x1, some (MF F), some (.list ((symL F (2 * w + j)).map sy)), some (wd w), some (cl (tz1 (2 * w) p e) (tz2 (2 * w) p e) (A (2 * w) F)), some (.int j)] = M.ret (.nx [x0, x1, some (MF F), some (.list ((symL F (2 * w + j + 1)).map sy)), some (wd w), some (cl (tz1 (2 * w) p e) (tz2 (2 * w) p e) (A (2 * w) F)), some (.int j)]) := by
  have hc : 2 * w + j < 16 := by omega
  have s := tz_le (c := 2 * w + j) hp he
  have hA := h.A hc
  have ht : bCmp eqD (eOwn 1 F_moved_first (aC (eIf (bT (eV 6)) (eOwn 1 F_other_face (aC (eV 5) aN)) (eV 5)) aN)) (eV 2) [x0, x1, some (MF F), some (.list ((symL F (2 * w + j)).map sy)), some (wd w), some (cl (tz1 (2 * w) p e) (tz2 (2 * w) p e) (A (2 * w) F)), some (.int j)] = M.ret (tb (Mv F (A (2 * w + j) F))) := by
    rw [bCmp_s, own1 (face_P h hp he hw hj rfl rfl) (moved_first_P hA s.1 s.2), ret_bind, v_at (d := MF F) rfl, ret_bind, eqD_sh (MF_it hA).2 (MF_it h).2, MF_eqv hA h, tb_congr ⟨Mv.symm, Mv.symm⟩]
    rfl
  rw [symL_succ]
  by_cases c : tb (Mv F (A (2 * w + j) F)) = true
  · rw [if_pos c, List.map_append]
    rw [c] at ht
    refine if_t ht ?_
    have e1 : eTup (aC (eV 4) (aC (eV 6) aN)) (wipeE [x0, x1, some (MF F), some (.list ((symL F (2 * w + j)).map sy)), some (wd w), some (cl (tz1 (2 * w) p e) (tz2 (2 * w) p e) (A (2 * w) F)), some (.int j)] [3]) = M.ret (sy (2 * w + j)) := by
      rw [pair_at (a := wd w) (b := .int j) rfl rfl]
      unfold sy
      rw [show (2 * w + j) / 2 = w by omega, show (2 * w + j) % 2 = j by omega]
    unfold fApp
    show M.bind (M.ret ()) _ = _
    rw [ret_bind, e1, ret_bind]
    show M.bind (M.lift (if ((symL F (2 * w + j)).map sy).length < sizeLine then some _ else none)) _ = _
    rw [if_pos (by rw [List.length_map, sizeLine_eq]; have := symL_len (F := F) (n := 2 * w + j); omega)]
    rfl
  · rw [if_neg c, List.append_nil]
    have c' : tb (Mv F (A (2 * w + j) F)) = false := by
      cases q : tb (Mv F (A (2 * w + j) F)) with
      | false => rfl
      | true => exact absurd q c
    rw [c'] at ht
    exact if_f ht
theorem symmetries_P (h : Pd p e F) (hp : p ≤ 1000) (he : e ≤ 1000) : F_symmetries_of [cl p e F] = M.ret (.list ((symL F 16).map sy)) := by
  unfold F_symmetries_of B_symmetries_of
  have sp : Sm p := Nat.le_trans hp (by decide)
  have se : Sm e := Nat.le_trans he (by decide)
  have hl := h.lr
  have p1 := Nat.le_trans h.p_le hp
  have e1 := Nat.le_trans h.e_le he
  have sp' : Sm (P0 F) := Nat.le_trans p1 (by decide)
  have se' : Sm (E0 F) := Nat.le_trans e1 (by decide)
  obtain ⟨η', h1, x4, x5, x6, rfl⟩ := for_inv (O := [3]) (src := iS (eC (.tuple ((["same", "flip", "upside", "half", "swap", "quarter", "back", "cross"] : List Str).map PyData.str)))) (gv := gN 4) (f := fSeq (fSet [3] 5 (eOwn 2 F_turned (aC (eV 1) (aC (eV 4) aN)))) (fFor [3] (iS (eTup (aC (eC (.int 0)) (aC (eC (.int 1)) aN)))) (gN 6) syI)) (n := 8) (g := fun i => wd i.toNat)
    (η := [some (cl p e F), some (cl (P0 F) (E0 F) F), some (MF F), some (.list []), none, none, none]) (fun w η => ∃ x4 x5 x6, η = [some (cl p e F), some (cl (P0 F) (E0 F) F), some (MF F), some (.list ((symL F (2 * w)).map sy)), x4, x5, x6]) (by rw [wd_words]) (by
      rintro w η hw ⟨x4, x5, x6, rfl⟩
      obtain ⟨η2, h2, x, rfl⟩ := for_inv (O := [3]) (src := iS (eTup (aC (eC (.int 0)) (aC (eC (.int 1)) aN)))) (gv := gN 6) (f := syI) (n := 2) (g := fun i => .int i)
        (η := [some (cl p e F), some (cl (P0 F) (E0 F) F), some (MF F), some (.list ((symL F (2 * w)).map sy)), some (wd w), some (cl (tz1 (2 * w) (P0 F) (E0 F)) (tz2 (2 * w) (P0 F) (E0 F)) (A (2 * w) F)), x6])
        (fun j η => ∃ x6, η = [some (cl p e F), some (cl (P0 F) (E0 F) F), some (MF F), some (.list ((symL F (2 * w + j)).map sy)), some (wd w), some (cl (tz1 (2 * w) (P0 F) (E0 F)) (tz2 (2 * w) (P0 F) (E0 F)) (A (2 * w) F)), x6]) (by rw [iS_s, pair_at (a := .int 0) (b := .int 1) rfl rfl]; rfl) (by
          rintro j η hj ⟨x6, rfl⟩
          exact ⟨_, _, rfl, syI_P hl p1 e1 hw hj, _, rfl⟩) ⟨x6, rfl⟩
      refine ⟨_, _, rfl, seq_ret ?_ h2, _, _, _, rfl⟩
      rw [fSet_s]
      have e1 : eOwn 2 F_turned (aC (eV 1) (aC (eV 4) aN)) (wipeE [some (cl p e F), some (cl (P0 F) (E0 F) F), some (MF F), some (.list ((symL F (2 * w)).map sy)), some (wd w), x5, x6] [3]) = M.ret _ := own2 (a := cl (P0 F) (E0 F) F) (b := wd w) rfl rfl (turned_P hl sp' se' hw)
      show M.bind (eOwn 2 F_turned (aC (eV 1) (aC (eV 4) aN)) (wipeE [some (cl p e F), some (cl (P0 F) (E0 F) F), some (MF F), some (.list ((symL F (2 * w)).map sy)), some (wd w), x5, x6] [3])) _ = _
      rw [e1]
      rfl) ⟨none, none, none, rfl⟩
  refine runF_ret rfl (seq_ret (fset_ret (own1 (a := cl p e F) rfl (least_P h sp se))) (seq_ret (fset_ret (own1 (a := cl (P0 F) (E0 F) F) rfl (moved_first_P hl p1 e1))) (seq_ret ?_ (seq_ret h1 (ret_ret rfl)))))
  rfl
/-! moves for -/
def Szs (c : Nat) (F : Z2) : Prop := P0 F = tz1 c (P0 F) (E0 F) ∧ E0 F = tz2 c (P0 F) (E0 F)
noncomputable def mvL (F : Z2) (c : Nat) : List (Int × Int) := if tb (Szs c F) = true then ((List.range (P0 F * E0 F)).filter fun k : Nat => tb (shf (A c F) ((k / E0 F : Nat) : Int) ((k % E0 F : Nat) : Int) = F)).map fun k : Nat => (((k / E0 F : Nat) : Int), ((k % E0 F : Nat) : Int)) else []
theorem size_ne_at {a b c d : Nat} {x y : EV} {η : Env} (hx : x η = M.ret (.tuple [.int a, .int b])) (hy : y η = M.ret (.tuple [.int c, .int d])) : bCmp neD x y η = M.ret (!tb (c = a ∧ d = b)) ∧ bCmp eqD x y η = M.ret (tb (c = a ∧ d = b)) := by
  have : ((a : Int) == c && (b : Int) == d) = tb (c = a ∧ d = b) := by
    by_cases h : c = a ∧ d = b
    · rw [tb_t h, h.1, h.2]; simp
    · rw [tb_f h]
      cases q : ((a : Int) == c && (b : Int) == d) with
      | false => rfl
      | true =>
        rw [Bool.and_eq_true, beq_iff_eq, beq_iff_eq] at q
        exact absurd ⟨by omega, by omega⟩ h
  constructor
  · rw [bCmp_s, hx, ret_bind, hy, ret_bind, neD_sh pair_sh pair_sh, eqv_pair, this]
    rfl
  · rw [bCmp_s, hx, ret_bind, hy, ret_bind, eqD_sh pair_sh pair_sh, eqv_pair, this]
    rfl
theorem moves_for_P (h : Pd p e F) (hp : p ≤ 1000) (he : e ≤ 1000) {w j : Nat} (hw : w < 8) (hj : j < 2) : F_moves_for [cl p e F, wd w, .int j] = M.ret (.list ((mvL F (2 * w + j)).map pr)) := by
  unfold F_moves_for B_moves_for
  have sp : Sm p := Nat.le_trans hp (by decide)
  have se : Sm e := Nat.le_trans he (by decide)
  have hl := h.lr
  have p1 := Nat.le_trans h.p_le hp
  have e1 := Nat.le_trans h.e_le he
  have sp' : Sm (P0 F) := Nat.le_trans p1 (by decide)
  have se' : Sm (E0 F) := Nat.le_trans e1 (by decide)
  have hc : 2 * w + j < 16 := by omega
  have hA := hl.A hc
  have sz := size_ne_at (η := [some (cl p e F), some (wd w), some (.int j), some (cl (P0 F) (E0 F) F), some (cl (tz1 (2 * w + j) (P0 F) (E0 F)) (tz2 (2 * w + j) (P0 F) (E0 F)) (A (2 * w + j) F)), none, none, none, none]) (x := eOwn 1 F_size_of (aC (eV 4) aN)) (y := eOwn 1 F_size_of (aC (eV 3) aN)) (own1 (a := cl (tz1 (2 * w + j) (P0 F) (E0 F)) (tz2 (2 * w + j) (P0 F) (E0 F)) (A (2 * w + j) F)) rfl (size_of_cl hA.p0)) (own1 (a := cl (P0 F) (E0 F) F) rfl (size_of_cl hl.p0))
  unfold mvL
  by_cases c : Szs (2 * w + j) F
  · rw [tb_t c, if_pos rfl]
    rw [show tb (P0 F = tz1 (2 * w + j) (P0 F) (E0 F) ∧ E0 F = tz2 (2 * w + j) (P0 F) (E0 F)) = true from tb_t c] at sz
    rw [← c.1, ← c.2] at sz hA
    have E : cl (tz1 (2 * w + j) (P0 F) (E0 F)) (tz2 (2 * w + j) (P0 F) (E0 F)) (A (2 * w + j) F) = cl (P0 F) (E0 F) (A (2 * w + j) F) := by rw [← c.1, ← c.2]
    refine runF_ret rfl (seq_ret (fset_ret (own1 (a := cl p e F) rfl (least_P h sp se))) (seq_ret (fset_ret (own2 (a := cl (P0 F) (E0 F) F) (b := wd w) rfl rfl (turned_P hl sp' se' hw))) (seq_ret (fset_ret ((face_P hl p1 e1 hw hj rfl rfl).trans (congrArg M.ret E))) (seq_ret (if_f sz.1) (seq_ret (asg_size (k := 3) (p := P0 F) (e := E0 F) (f := F) rfl hl.p0) (ret_ret ?_))))))
    have hl2 := eLc2_fl (src := iRg rangeD1 (aC (eV 5) aN)) (f := gN 7) (t := bYes) (src1 := iRg rangeD1 (aC (eV 6) aN)) (f1 := gN 8) (t1 := bCmp eqD (eOwn 3 F_shifted (aC (eV 4) (aC (eV 7) (aC (eV 8) aN)))) (eV 3)) (x := eTup (aC (eV 7) (aC (eV 8) aN))) (vs := [7, 8]) (vs1 := [8])
      (η := [some (cl p e F), some (wd w), some (.int j), some (cl (P0 F) (E0 F) F), some (cl (P0 F) (E0 F) (A (2 * w + j) F)), some (.int (P0 F)), some (.int (E0 F)), none, none]) (n := P0 F) (m := E0 F) (g := fun i => .int i) (c := fun i k => tb (shf (A (2 * w + j) F) i k = F)) (H := fun i k => pr (i, k)) (rg1_at rfl sp') (big_ok p1 e1)
      fun i hi => ⟨_, fun j => .int j, rfl, rfl, rg1_at rfl se', fun k hk => ⟨_, rfl, by
        rw [bCmp_s, own3 (a := cl (P0 F) (E0 F) (A (2 * w + j) F)) rfl rfl rfl (shifted_P hA sp' se'), ret_bind, v_at (d := cl (P0 F) (E0 F) F) rfl, ret_bind, eqD_sh sh_cl sh_cl, eqv_P (hA.shf i k) hl]
        rfl, fun _ => pair_at rfl rfl⟩⟩
    rw [List.map_map]
    exact hl2
  · rw [tb_f c, if_neg Bool.false_ne_true]
    rw [show tb (P0 F = tz1 (2 * w + j) (P0 F) (E0 F) ∧ E0 F = tz2 (2 * w + j) (P0 F) (E0 F)) = false from tb_f c] at sz
    exact runF_ret rfl (seq_ret (fset_ret (own1 (a := cl p e F) rfl (least_P h sp se))) (seq_ret (fset_ret (own2 (a := cl (P0 F) (E0 F) F) (b := wd w) rfl rfl (turned_P hl sp' se' hw))) (seq_ret (fset_ret (face_P hl p1 e1 hw hj rfl rfl)) (seq_rt (if_t sz.1 (ret_ret rfl))))))
theorem mvL_some (h : Pd p e F) {c : Nat} (hc : c < 16) : (0 < (mvL F c).length) ↔ Mv F (A c F) := by
  have hl := h.lr
  unfold mvL
  constructor
  · intro hm
    by_cases z : Szs c F
    · rw [tb_t z, if_pos rfl] at hm
      obtain ⟨x, hx⟩ := List.exists_mem_of_length_pos hm
      obtain ⟨k, hk, _⟩ := List.mem_map.mp hx
      have := tb_iff.mp (List.mem_filter.mp hk).2
      exact Mv.symm ⟨_, _, this.symm⟩
    · rw [tb_f z, if_neg Bool.false_ne_true] at hm
      exact absurd hm (by decide)
  · intro hm
    have z : Szs c F := by
      have := hm.sz
      rw [P0_A hc, E0_A hc] at this
      exact this
    rw [tb_t z, if_pos rfl]
    have hA := hl.A hc
    rw [← z.1, ← z.2] at hA
    obtain ⟨a, b, ha, hb, h1, _⟩ := hm.symm.first hA
    refine List.length_pos_of_mem (List.mem_map.mpr ⟨a * E0 F + b, List.mem_filter.mpr ⟨List.mem_range.mpr ?_, ?_⟩, rfl⟩)
    · have := Nat.mul_le_mul_right (E0 F) (show a + 1 ≤ P0 F from ha)
      rw [Nat.succ_mul] at this
      omega
    · rw [show (a * E0 F + b) / E0 F = a by rw [Nat.mul_comm a, Nat.mul_add_div hl.e0, Nat.div_eq_of_lt hb]; rfl, show (a * E0 F + b) % E0 F = b by rw [Nat.mul_comm a, Nat.mul_add_mod, Nat.mod_eq_of_lt hb]]
      exact tb_t h1
/-! first forms -/
def FS (F : Z2) (x : D) : Prop := ∃ c, c < 16 ∧ x = MF (A c F)
noncomputable def FF (F : Z2) : D := minOf (FS F)
theorem FF_mv (h : Mv F G) : FF F = FF G := by
  unfold FF
  congr 1
  funext x
  refine propext ⟨?_, ?_⟩
  · rintro ⟨c, hc, rfl⟩
    exact ⟨c, hc, MF_mv (h.A c)⟩
  · rintro ⟨c, hc, rfl⟩
    exact ⟨c, hc, (MF_mv (h.A c)).symm⟩
theorem FF_A {k : Nat} (hk : k < 16) : FF (A k F) = FF F := by
  unfold FF
  congr 1
  funext x
  refine propext ⟨?_, ?_⟩
  · rintro ⟨c, hc, rfl⟩
    exact ⟨mulc k c, mulc_lt _ _, by rw [A_A]⟩
  · rintro ⟨c, hc, rfl⟩
    refine ⟨mulc (invc k) c, mulc_lt _ _, ?_⟩
    rw [← A_A, (A_inv hk F).1]
theorem MF_cl (h : Pd p e F) : ∃ a b : Int, MF F = cl (P0 F) (E0 F) (shf F a b) := by
  obtain ⟨a, b, e1, _⟩ := MF_form h
  exact ⟨a, b, e1⟩
theorem FF_ok (h : Pd p e F) : minCD [.list ((List.range 16).map fun c => MF (A c F))] = some (FF F) ∧ FS F (FF F) := by
  obtain ⟨h1, h2, _⟩ := minOf_ok (S := FS F) (L := (List.range 16).map fun c => MF (A c F)) (fun x => by
    constructor
    · rintro ⟨c, hc, rfl⟩
      exact List.mem_map.mpr ⟨c, List.mem_range.mpr hc, rfl⟩
    · intro hx
      obtain ⟨c, hc, rfl⟩ := List.mem_map.mp hx
      exact ⟨c, List.mem_range.mp hc, rfl⟩) (plain_cls fun x hx => by
      obtain ⟨c, hc, rfl⟩ := List.mem_map.mp hx
      obtain ⟨a, b, e1⟩ := MF_cl (h.A (List.mem_range.mp hc))
      exact ⟨_, _, _, e1⟩) (fun x hx => by
      obtain ⟨c, hc, rfl⟩ := List.mem_map.mp hx
      exact (MF_it (h.A (List.mem_range.mp hc))).1) (by
      intro z
      have := congrArg List.length z
      rw [List.length_map, List.length_range, List.length_nil] at this
      omega)
  exact ⟨h1, h2⟩
theorem FF_cl (h : Pd p e F) (hp : p ≤ 1000) (he : e ≤ 1000) : ∃ (p' e' : Nat) (G : Z2), FF F = cl p' e' G ∧ Pd p' e' G ∧ p' ≤ 1000 ∧ e' ≤ 1000 ∧ FF G = FF F := by
  obtain ⟨c, hc, e1⟩ := (FF_ok h).2
  have hA := h.A hc
  obtain ⟨a, b, e2⟩ := MF_cl hA
  have s := tz_le (c := c) hp he
  refine ⟨_, _, _, e1.trans e2, hA.lr.shf a b, Nat.le_trans hA.p_le s.1, Nat.le_trans hA.e_le s.2, ?_⟩
  rw [← FF_A (F := F) hc]
  exact (FF_mv ⟨a, b, rfl⟩).symm
theorem FF_it (h : Pd p e F) : IT (FF F) ∧ Sh 2 (FF F) := by
  obtain ⟨c, hc, e1⟩ := (FF_ok h).2
  rw [e1]
  exact MF_it (h.A hc)
theorem first_form_P (h : Pd p e F) (hp : p ≤ 1000) (he : e ≤ 1000) : F_first_form [cl p e F] = M.ret (FF F) := by
  unfold F_first_form B_first_form
  have sp : Sm p := Nat.le_trans hp (by decide)
  have se : Sm e := Nat.le_trans he (by decide)
  have hl := h.lr
  have p1 := Nat.le_trans h.p_le hp
  have e1 := Nat.le_trans h.e_le he
  have sp' : Sm (P0 F) := Nat.le_trans p1 (by decide)
  have se' : Sm (E0 F) := Nat.le_trans e1 (by decide)
  obtain ⟨η', h1, x3, x4, rfl⟩ := for_inv (O := [2]) (src := iS (eC (.tuple ((["same", "flip", "upside", "half", "swap", "quarter", "back", "cross"] : List Str).map PyData.str)))) (gv := gN 3) (f := fSeq (fSet [2] 4 (eOwn 2 F_turned (aC (eV 1) (aC (eV 3) aN)))) (fExt [2] 2 (eLst (aC (eOwn 1 F_moved_first (aC (eV 4) aN)) (aC (eOwn 1 F_moved_first (aC (eOwn 1 F_other_face (aC (eV 4) aN)) aN)) aN))))) (n := 8) (g := fun i => wd i.toNat)
    (η := [some (cl p e F), some (cl (P0 F) (E0 F) F), some (.list []), none, none]) (fun w η => ∃ x3 x4, η = [some (cl p e F), some (cl (P0 F) (E0 F) F), some (.list ((List.range (2 * w)).map fun c => MF (A c F))), x3, x4]) (by rw [wd_words]) (by
      rintro w η hw ⟨x3, x4, rfl⟩
      have s := tz_le (c := 2 * w) p1 e1
      have hA := hl.A (c := 2 * w) (by omega)
      have hB := hl.A (c := 2 * w + 1) (by omega)
      have of := other_face_A (p := tz1 (2 * w) (P0 F) (E0 F)) (e := tz2 (2 * w) (P0 F) (E0 F)) (F := A (2 * w) F) (Nat.le_trans s.1 (by decide)) (Nat.le_trans s.2 (by decide))
      rw [A_A, mul_face w hw] at of
      have tz : tz1 (2 * w + 1) (P0 F) (E0 F) = tz1 (2 * w) (P0 F) (E0 F) ∧ tz2 (2 * w + 1) (P0 F) (E0 F) = tz2 (2 * w) (P0 F) (E0 F) := by
        unfold tz1 tz2
        rw [tz_face w hw]
        exact ⟨rfl, rfl⟩
      rw [tz.1, tz.2] at hB
      refine ⟨_, [some (cl p e F), some (cl (P0 F) (E0 F) F), some (.list ((List.range (2 * (w + 1))).map fun c => MF (A c F))), some (wd w), some (cl (tz1 (2 * w) (P0 F) (E0 F)) (tz2 (2 * w) (P0 F) (E0 F)) (A (2 * w) F))], rfl, seq_ret (η' := [some (cl p e F), some (cl (P0 F) (E0 F) F), some (.list ((List.range (2 * w)).map fun c => MF (A c F))), some (wd w), some (cl (tz1 (2 * w) (P0 F) (E0 F)) (tz2 (2 * w) (P0 F) (E0 F)) (A (2 * w) F))]) ?_ ?_, _, _, rfl⟩
      · have q1 : eOwn 2 F_turned (aC (eV 1) (aC (eV 3) aN)) (wipeE [some (cl p e F), some (cl (P0 F) (E0 F) F), some (.list ((List.range (2 * w)).map fun c => MF (A c F))), some (wd w), x4] [2]) = M.ret _ := own2 (a := cl (P0 F) (E0 F) F) (b := wd w) rfl rfl (turned_P hl sp' se' hw)
        show M.bind (eOwn 2 F_turned (aC (eV 1) (aC (eV 3) aN)) (wipeE [some (cl p e F), some (cl (P0 F) (E0 F) F), some (.list ((List.range (2 * w)).map fun c => MF (A c F))), some (wd w), x4] [2])) _ = _
        rw [q1]
        rfl
      · have q1 : eLst (aC (eOwn 1 F_moved_first (aC (eV 4) aN)) (aC (eOwn 1 F_moved_first (aC (eOwn 1 F_other_face (aC (eV 4) aN)) aN)) aN)) (wipeE [some (cl p e F), some (cl (P0 F) (E0 F) F), some (.list ((List.range (2 * w)).map fun c => MF (A c F))), some (wd w), some (cl (tz1 (2 * w) (P0 F) (E0 F)) (tz2 (2 * w) (P0 F) (E0 F)) (A (2 * w) F))] [2]) = M.ret (.list [MF (A (2 * w) F), MF (A (2 * w + 1) F)]) := by
          rw [eLst_s, aC_s, own1 (a := cl (tz1 (2 * w) (P0 F) (E0 F)) (tz2 (2 * w) (P0 F) (E0 F)) (A (2 * w) F)) rfl (moved_first_P hA s.1 s.2), ret_bind, aC_s, own1 (own1 (a := cl (tz1 (2 * w) (P0 F) (E0 F)) (tz2 (2 * w) (P0 F) (E0 F)) (A (2 * w) F)) rfl of) (moved_first_P hB s.1 s.2), ret_bind, aN_s, ret_bind, ret_bind, ret_bind]
          show M.lift (if 2 ≤ sizeLine then some _ else none) = _
          rw [if_pos (by rw [sizeLine_eq]; omega)]
          rfl
        unfold fExt
        show M.bind (M.ret ()) _ = _
        rw [ret_bind, q1, ret_bind]
        show M.bind (M.lift (if ((List.range (2 * w)).map fun c => MF (A c F)).length + 2 ≤ sizeLine then some _ else none)) _ = _
        rw [if_pos (by rw [List.length_map, List.length_range, sizeLine_eq]; omega)]
        have : (List.range (2 * (w + 1))).map (fun c => MF (A c F)) = (List.range (2 * w)).map (fun c => MF (A c F)) ++ [MF (A (2 * w) F), MF (A (2 * w + 1) F)] := by
          rw [show 2 * (w + 1) = 2 * w + 1 + 1 by omega, List.range_succ, List.range_succ, List.append_assoc, List.map_append]
          rfl
        rw [this]
        rfl) ⟨none, none, rfl⟩
  refine runF_ret rfl (seq_ret (fset_ret (own1 (a := cl p e F) rfl (least_P h sp se))) (seq_ret (η' := [some (cl p e F), some (cl (P0 F) (E0 F) F), some (.list []), none, none]) rfl (seq_ret h1 (ret_ret ?_))))
  show M.lift (minCD [.list ((List.range 16).map fun c => MF (A c F))]) = _
  rw [(FF_ok h).1]
  rfl
end
end W3

set_option Elab.async false
set_option linter.all false
set_option maxRecDepth 100000
set_option maxHeartbeats 4000000
/-! Pk05k: how many symmetries. -/
namespace W3
open PySem PySem.Spec L2
def cnt (P : Nat → Bool) : Nat := ((List.range 16).filter P).length
theorem cnt_perm {P : Nat → Bool} {f : Nat → Nat} (h : ((List.range 16).map f).Perm (List.range 16)) : cnt (fun c => P (f c)) = cnt P := by
  unfold cnt
  have := (h.filter P).length_eq
  rw [List.filter_map, List.length_map] at this
  exact this
theorem cnt_congr {P Q : Nat → Bool} (h : ∀ c, c < 16 → P c = Q c) : cnt P = cnt Q := by
  unfold cnt
  congr 1
  apply List.filter_congr
  intro c hc
  exact h c (List.mem_range.mp hc)
theorem cnt_split (P Q : Nat → Bool) : cnt P = cnt (fun c => P c && Q c) + cnt (fun c => P c && !Q c) := by
  unfold cnt
  have key : ∀ L : List Nat, (L.filter P).length = (L.filter fun c => P c && Q c).length + (L.filter fun c => P c && !Q c).length := by
    intro L
    induction L with
    | nil => rfl
    | cons a L ih =>
      rw [List.filter_cons, List.filter_cons, List.filter_cons]
      cases P a <;> cases Q a <;> simp <;> omega
  exact key _
theorem mulc_perm : ∀ k, k < 16 → ((List.range 16).map fun c => mulc k c).Perm (List.range 16) := by
  have : ∀ k, k < 16 → ((List.range 16).map fun c => mulc k c).isPerm (List.range 16) = true := by decide
  exact fun k hk => List.isPerm_iff.mp (this k hk)
def conj (k c : Nat) : Nat := mulc (mulc k c) (invc k)
theorem conj_perm : ∀ k, k < 16 → ((List.range 16).map fun c => conj k c).Perm (List.range 16) := by
  have : ∀ k, k < 16 → ((List.range 16).map fun c => conj k c).isPerm (List.range 16) = true := by decide
  exact fun k hk => List.isPerm_iff.mp (this k hk)
structure Grp (P : Nat → Bool) : Prop where
  one : P 0 = true
  mul : ∀ c d, c < 16 → d < 16 → P c = true → P d = true → P (mulc c d) = true
  inv : ∀ c, c < 16 → P c = true → P (invc c) = true
theorem zero_mul_c : ∀ c, c < 16 → mulc 0 c = c ∧ mulc c 0 = c := by decide
theorem mul_assoc_c : ∀ c, c < 16 → ∀ d, d < 16 → mulc (invc c) (mulc c d) = d := by decide
theorem Grp.half {P X : Nat → Bool} (g : Grp P) (hx : ∀ c d, c < 16 → d < 16 → P c = true → P d = true → X (mulc c d) = Bool.xor (X c) (X d)) : Grp (fun c => P c && !X c) ∧ (cnt P = cnt (fun c => P c && !X c) ∨ cnt P = 2 * cnt (fun c => P c && !X c)) := by
  have x0 : X 0 = false := by
    have := hx 0 0 (by decide) (by decide) g.one g.one
    rw [show mulc 0 0 = 0 from rfl] at this
    cases q : X 0 with
    | false => rfl
    | true => rw [q] at this; cases this
  have xi : ∀ c, c < 16 → P c = true → X (invc c) = X c := fun c hc h => by
    have := hx c (invc c) hc (invc_lt c) h (g.inv c hc h)
    rw [(mul_inv c hc).1, x0] at this
    revert this
    cases X c <;> cases X (invc c) <;> simp
  refine ⟨⟨by rw [g.one, x0]; rfl, fun c d hc hd h1 h2 => ?_, fun c hc h => ?_⟩, ?_⟩
  · rw [Bool.and_eq_true, Bool.not_eq_true'] at h1 h2 ⊢
    refine ⟨g.mul c d hc hd h1.1 h2.1, ?_⟩
    rw [hx c d hc hd h1.1 h2.1, h1.2, h2.2]
    rfl
  · rw [Bool.and_eq_true, Bool.not_eq_true'] at h ⊢
    exact ⟨g.inv c hc h.1, by rw [xi c hc h.1, h.2]⟩
  · by_cases ex : ∃ h, h < 16 ∧ P h = true ∧ X h = true
    · obtain ⟨h, hh, p1, p2⟩ := ex
      right
      rw [cnt_split P X, ← cnt_perm (P := fun c => P c && X c) (mulc_perm h hh)]
      have : cnt (fun c => P (mulc h c) && X (mulc h c)) = cnt (fun c => P c && !X c) := cnt_congr fun c hc => by
        cases q : P c with
        | true => rw [g.mul h c hh hc p1 q, hx h c hh hc p1 q, p2]; simp
        | false =>
          cases r : P (mulc h c) with
          | false => rfl
          | true =>
            have := g.mul (invc h) (mulc h c) (invc_lt h) (mulc_lt h c) (g.inv h hh p1) r
            rw [mul_assoc_c h hh c hc, q] at this
            cases this
      rw [this]
      omega
    · left
      refine cnt_congr fun c hc => ?_
      cases q : P c with
      | false => rfl
      | true =>
        have : X c = false := by
          cases r : X c with
          | false => rfl
          | true => exact absurd ⟨c, hc, q, r⟩ ex
        rw [this]; rfl
theorem bits_zero : ∀ c, c < 16 → ((!b0 c && !b3 c) && !b2 c && !b1 c) = decide (c = 0) := by decide
theorem Grp.cnt {P : Nat → Bool} (g : Grp P) : 16 % cnt P = 0 := by
  have e0 : ∀ c d, b0 (mulc c d) = Bool.xor (b0 c) (b0 d) := fun c d => (b_enc _ _ _ _).2.2.2
  have e3 : ∀ c d, b3 (mulc c d) = Bool.xor (b3 c) (b3 d) := fun c d => (b_enc _ _ _ _).1
  have e2 : ∀ c d, b3 d = false → b2 (mulc c d) = Bool.xor (b2 c) (b2 d) := fun c d h => by
    refine (b_enc _ _ _ _).2.1.trans ?_
    rw [h]; rfl
  have e1 : ∀ c d, b3 d = false → b1 (mulc c d) = Bool.xor (b1 c) (b1 d) := fun c d h => by
    refine (b_enc _ _ _ _).2.2.1.trans ?_
    rw [h]; rfl
  obtain ⟨g1, n1⟩ := g.half (X := b0) fun c d _ _ _ _ => e0 c d
  obtain ⟨g2, n2⟩ := g1.half (X := b3) fun c d _ _ _ _ => e3 c d
  obtain ⟨g3, n3⟩ := g2.half (X := b2) fun c d _ _ _ h => e2 c d (by
    rw [Bool.and_eq_true, Bool.not_eq_true'] at h
    exact h.2)
  obtain ⟨g4, n4⟩ := g3.half (X := b1) fun c d _ _ _ h => e1 c d (by
    rw [Bool.and_eq_true, Bool.and_eq_true, Bool.not_eq_true', Bool.not_eq_true'] at h
    exact h.1.2)
  have z : W3.cnt (fun c => (((P c && !b0 c) && !b3 c) && !b2 c) && !b1 c) = 1 := by
    have : W3.cnt (fun c => (((P c && !b0 c) && !b3 c) && !b2 c) && !b1 c) = W3.cnt (fun c => decide (c = 0)) := cnt_congr fun c hc => by
      have hb := bits_zero c hc
      by_cases q : c = 0
      · subst q
        rw [g.one]; rfl
      · rw [decide_eq_false q] at hb ⊢
        revert hb
        cases P c <;> cases b0 c <;> cases b3 c <;> cases b2 c <;> cases b1 c <;> simp
    rw [this]
    decide
  rw [z] at n4
  have : W3.cnt P = 1 ∨ W3.cnt P = 2 ∨ W3.cnt P = 4 ∨ W3.cnt P = 8 ∨ W3.cnt P = 16 := by omega
  rcases this with h | h | h | h | h <;> rw [h]
section
variable {p e : Nat} {F G : Z2}
theorem sym_grp (F : Z2) : Grp fun c => tb (Mv F (A c F)) := ⟨tb_t (by rw [A_zero]; exact Mv.refl), fun c d hc hd h1 h2 => tb_t (by
    have h1 := tb_iff.mp h1
    have h2 := tb_iff.mp h2
    rw [← A_A]
    exact h2.trans (h1.A d)), fun c hc h => tb_t (by
    have := (tb_iff.mp h).A (invc c)
    rw [(A_inv hc F).1] at this
    exact this.symm)⟩
theorem symL_16 : (symL F 16).length = cnt fun c => tb (Mv F (A c F)) := rfl
theorem sym_16 (F : Z2) : 16 % (symL F 16).length = 0 := (sym_grp F).cnt
theorem sym_pos (F : Z2) : 0 ∈ symL F 16 := mem_symL.mpr ⟨by decide, by rw [A_zero]; exact Mv.refl⟩
theorem sym_mv (h : Mv F G) : symL G 16 = symL F 16 := by
  unfold symL
  apply List.filter_congr
  intro c _
  exact tb_congr ⟨fun z => (h.trans z).trans (h.A c).symm, fun z => (h.symm.trans z).trans (h.A c)⟩
theorem sym_A {k : Nat} (hk : k < 16) : (symL (A k F) 16).length = (symL F 16).length := by
  rw [symL_16, symL_16, ← cnt_perm (P := fun c => tb (Mv F (A c F))) (conj_perm k hk)]
  refine cnt_congr fun c hc => tb_congr ?_
  unfold conj
  rw [← A_A, ← A_A, ← Mv.A_iff (F := A k F) (G := A c (A k F)) (invc_lt k), (A_inv hk F).1]
/-! the rest of the functions -/
theorem are_one_kind_P {p' e' : Nat} (hF : Pd p e F) (hG : Pd p' e' G) (hp : p ≤ 1000) (he : e ≤ 1000) (hp' : p' ≤ 1000) (he' : e' ≤ 1000) : F_are_one_kind [cl p e F, cl p' e' G] = M.ret (.bool (PyData.eqv (FF F) (FF G))) := by
  unfold F_are_one_kind B_are_one_kind
  refine runF_ret (η := [some (cl p e F), some (cl p' e' G)]) rfl (ret_ret ?_)
  rw [e2_s, own1 (a := cl p e F) rfl (first_form_P hF hp he), ret_bind, own1 (a := cl p' e' G) rfl (first_form_P hG hp' he'), ret_bind, eqD_sh (FF_it hF).2 (FF_it hG).2]
  rfl
theorem alike_behind_P (h : Pd p e F) (hp : p ≤ 1000) (he : e ≤ 1000) : F_is_alike_behind [cl p e F] = M.ret (.bool (decide (3 ∈ symL F 16))) := by
  unfold F_is_alike_behind B_is_alike_behind
  refine runF_ret (η := [some (cl p e F)]) rfl (ret_ret ?_)
  rw [e2_s, pair_at (a := wd 1) (b := .int 1) rfl rfl, ret_bind, own1 (a := cl p e F) rfl (symmetries_P h hp he), ret_bind]
  show M.lift (inAD (sy 3) _) = _
  rw [inAD_sys (by decide) (symL_lt (Nat.le_refl _))]
  rfl
/-- among the last four words -/
def lst4 : D → Bool
  | .tuple (x :: _) => [wd 4, wd 5, wd 6, wd 7].any fun d => PyData.eqv d x
  | _ => false
theorem in4_tup (w : Nat) : inAD (wd w) (.tuple [wd 4, wd 5, wd 6, wd 7]) = some (.bool ([wd 4, wd 5, wd 6, wd 7].any fun d => PyData.eqv d (wd w))) := by
  have s : SeqAt.shaped (.tuple [wd 4, wd 5, wd 6, wd 7]) = true := (Sh.tuple (.cons (sh_wd 4) (.cons (sh_wd 5) (.cons (sh_wd 6) (.cons (sh_wd 7) .nil))))).ok
  show (inB (wd w) (.tuple [wd 4, wd 5, wd 6, wd 7])).map PyData.bool = _
  unfold inB
  show (if SeqAt.shaped (wd w) = true ∧ SeqAt.shaped (.tuple [wd 4, wd 5, wd 6, wd 7]) = true then some ([wd 4, wd 5, wd 6, wd 7].any fun d => PyData.eqv d (wd w)) else none).map PyData.bool = _
  rw [if_pos ⟨(sh_wd w).ok, s⟩]
  rfl
theorem in4_lst (w : Nat) : inAD (wd w) (.list [wd 4, wd 5, wd 6, wd 7]) = some (.bool ([wd 4, wd 5, wd 6, wd 7].any fun d => PyData.eqv d (wd w))) := by
  have s : SeqAt.shaped (.list [wd 4, wd 5, wd 6, wd 7]) = true := (Sh.list (.cons (sh_wd 4) (.cons (sh_wd 5) (.cons (sh_wd 6) (.cons (sh_wd 7) .nil))))).ok
  show (inB (wd w) (.list [wd 4, wd 5, wd 6, wd 7])).map PyData.bool = _
  unfold inB
  show (if SeqAt.shaped (wd w) = true ∧ SeqAt.shaped (.list [wd 4, wd 5, wd 6, wd 7]) = true then some ([wd 4, wd 5, wd 6, wd 7].any fun d => PyData.eqv d (wd w)) else none).map PyData.bool = _
  rw [if_pos ⟨(sh_wd w).ok, s⟩]
  rfl
theorem words4_t {η : Env} : eTup (aC (eC (.str "swap")) (aC (eC (.str "quarter")) (aC (eC (.str "back")) (aC (eC (.str "cross")) aN)))) η = M.ret (.tuple [wd 4, wd 5, wd 6, wd 7]) := by
  show M.lift (if 4 ≤ sizeLine then some _ else none) = _
  rw [if_pos (by rw [sizeLine_eq]; omega)]
  rfl
theorem words4_l {η : Env} : eLst (aC (eC (.str "swap")) (aC (eC (.str "quarter")) (aC (eC (.str "back")) (aC (eC (.str "cross")) aN)))) η = M.ret (.list [wd 4, wd 5, wd 6, wd 7]) := by
  show M.lift (if 4 ≤ sizeLine then some _ else none) = _
  rw [if_pos (by rw [sizeLine_eq]; omega)]
  rfl
theorem swappable_P (h : Pd p e F) (hp : p ≤ 1000) (he : e ≤ 1000) : F_is_swappable [cl p e F] = M.ret (.bool ((symL F 16).any fun c => lst4 (sy c))) := by
  unfold F_is_swappable B_is_swappable
  refine runF_ret (η := [some (cl p e F), none, none]) rfl (ret_ret ?_)
  have := gen_val (stop := true) (src := iS (eOwn 1 F_symmetries_of (aC (eV 0) aN))) (f := gTp (gCn (gN 1) (gCn (gN 2) gNl))) (t := bYes) (x := e2 inAD (eV 1) (eTup (aC (eC (.str "swap")) (aC (eC (.str "quarter")) (aC (eC (.str "back")) (aC (eC (.str "cross")) aN)))))) (vs := [1, 2]) (η := [some (cl p e F), none, none]) (ds := (symL F 16).map sy) (c := lst4) (by
      rw [iS_s, own1 (a := cl p e F) rfl (symmetries_P h hp he)]; rfl) fun d hd => (by
      obtain ⟨c, _, rfl⟩ := List.mem_map.mp hd
      refine ⟨_, rfl, bYes_s _, ?_⟩
      rw [e2_s, v_at (d := wd (c / 2)) rfl, ret_bind, words4_t, ret_bind, in4_tup]
      rfl)
  refine this.trans (congrArg M.ret ?_)
  rw [List.any_map]
  have e1 : ((symL F 16).any ((fun d => lst4 d == true) ∘ sy)) = (symL F 16).any fun c => lst4 (sy c) := by
    congr 1
    funext c
    show (lst4 (sy c) == true) = _
    cases lst4 (sy c) <;> rfl
  rw [e1]
  cases ((symL F 16).any fun c => lst4 (sy c)) <;> rfl
theorem count_P (h : Pd p e F) (hp : p ≤ 1000) (he : e ≤ 1000) : F_count_symmetries [cl p e F] = M.ret (.int (symL F 16).length) := by
  unfold F_count_symmetries B_count_symmetries
  refine runF_ret (η := [some (cl p e F)]) rfl (ret_ret ?_)
  rw [eCl_s, aC_s, own1 (a := cl p e F) rfl (symmetries_P h hp he)]
  show M.lift (some (PyData.int ((symL F 16).map sy).length)) = _
  rw [List.length_map]
  rfl
end
end W3

set_option Elab.async false
set_option linter.all false
set_option maxRecDepth 100000
set_option maxHeartbeats 4000000
/-! Pk05l: the law's first half. -/
namespace W3
open PySem PySem.Spec L2
theorem own3yy {F : FD} {x y z : EV} {η : Env} {a : D} {P Q R : D → Prop} (h1 : x η = M.ret a) (h2 : Yld (y η) P) (h3 : Yld (z η) Q) (h : ∀ b c, P b → Q c → Yld (F [a, b, c]) R) : Yld (eOwn 3 F (aC x (aC y (aC z aN))) η) R := by
  rw [eOwn_s, aC_s, h1, ret_bind, aC_s, aC_s, aN_s]
  simp only [ret_bind, bind_assoc_s]
  exact h2.bind fun b hb => h3.bind fun c hc => h b c hb hc
theorem draw_v {x y : EV} {η : Env} {n : Nat} (h0 : 0 < n) (h1 : n < 1000000) (hx : x η = M.ret stTok) (hy : y η = M.ret (.int n)) : Yld (eOwn 2 F__law_draw (aC x (aC y aN)) η) fun d => ∃ k : Nat, d = .int k ∧ k < n := by
  rw [eOwn_s, aC_s, hx, ret_bind, aC_s, hy]
  exact (Yld.draw (n := (n : Int)) (by omega) (by omega)).imp fun d ⟨k, e, a, b⟩ => ⟨k.toNat, by rw [e]; congr 1; omega, by omega⟩
theorem same_tt {X : Bool} (h : X = true) : F__law_same [.bool X, .bool true] = M.ret (.bool true) := by rw [h]; exact same_self true
theorem codes_at {le wi : EV} {v n e : Nat} {η : Env} (hn : Sm n) (e0 : 0 < e) (he : e ≤ 1000) (hv : v < η.length) (hl : le η = M.ret (.int n)) (hw : ∀ i : Int, wi ((wipeE η [v]).set v (some (.int i))) = M.ret (.int e)) : eLc (iRg rangeD1 (aC le aN)) (gN v) bYes (eTup (aC (e2 fdivD (eV v) wi) (aC (e2 modD (eCl intCD (aC (eV v) aN)) wi) aN))) [v] η = M.ret (.list (rl n fun i => pr (i / e, i % e))) := by
  refine eLc_rl (g := fun i => .int i) (rg1_at hl hn) hn.sz fun i _ _ => ⟨_, rfl, rfl, ?_⟩
  have q7 : ((wipeE η [v]).set v (some (.int i)))[v]? = some (some (PyData.int i)) := by
    rw [wipe_cons, wipe_nil, List.getElem?_set_self (by rw [List.length_set]; omega)]
  refine pair_at ?_ ?_
  · rw [e2_s, v_at q7, ret_bind, hw, ret_bind, fdivD_pos (by omega) (by omega), lift_some]
  · rw [e2_s, eCl_s, aC_s, v_at q7, ret_bind, aN_s, ret_bind, ret_bind, intCD_i, lift_some, ret_bind, hw, ret_bind, modD_pos (by omega), lift_some]
theorem iS_list {x : EV} {η : Env} {L : List D} (h : x η = M.ret (.list L)) : iS x η = M.ret L := by
  rw [iS_s, h]; rfl
theorem imod_at {x y : EV} {η : Env} {i : Int} {n : Nat} (h0 : 0 < n) (hx : x η = M.ret (.int i)) (hy : y η = M.ret (.int n)) : e2 modD (eCl intCD (aC x aN)) y η = M.ret (.int (i % n)) := by
  rw [e2_s, eCl_s, aC_s, hx, ret_bind, aN_s, ret_bind, ret_bind, intCD_i, lift_some, ret_bind, hy, ret_bind, modD_pos (by omega), lift_some]
theorem fdiv_at {x y : EV} {η : Env} {i : Int} {n : Nat} (h0 : 0 < n) (hn : n ≤ 1000000) (hx : x η = M.ret (.int i)) (hy : y η = M.ret (.int n)) : e2 fdivD x y η = M.ret (.int (i / n)) := by
  rw [e2_s, hx, ret_bind, hy, ret_bind, fdivD_pos (by omega) (by omega), lift_some]
section
variable {p e : Nat} {F G : Z2}
theorem sh_bas : Sh 2 (basD F) := .tuple (.cons pair_sh (.cons pair_sh .nil))
theorem len_at {x : EV} {η : Env} {n : Nat} {g : Int → D} (h : x η = M.ret (tup n g)) : eCl lenD (aC x aN) η = M.ret (.int n) := by
  rw [eCl_s, aC_s, h, ret_bind, aN_s, ret_bind, ret_bind, lenD_tup]; rfl
theorem lenl_at {x : EV} {η : Env} {L : List D} (h : x η = M.ret (.list L)) : eCl lenD (aC x aN) η = M.ret (.int L.length) := by
  rw [eCl_s, aC_s, h, ret_bind, aN_s, ret_bind, ret_bind]; rfl
theorem due_at (h : Pd p e F) (hp : p ≤ 60) (he : e ≤ 60) {η : Env} (h1 : η[1]? = some (some (cl p e F))) (h2 : η[2]? = some (some (.int p))) (h3 : η[3]? = some (some (.int e))) (hl : 16 < η.length) :
    eLc (iS (eLc (iRg rangeD1 (aC (e2 mulD (eV 2) (eV 3)) aN)) (gN 15) bYes (eTup (aC (e2 fdivD (eV 15) (eV 3)) (aC (e2 modD (eCl intCD (aC (eV 15) aN)) (eV 3)) aN))) [15])) (gTp (gCn (gN 13) (gCn (gN 14) gNl))) (bCmp eqD (eOwn 3 F_shifted (aC (eV 1) (aC (eV 13) (aC (eV 14) aN)))) (eV 1)) (eTup (aC (eV 13) (aC (eV 14) aN))) [13, 14] η = M.ret (.list ((perL p e F).map pr)) := by
  have hpe : p * e ≤ 60 * 60 := Nat.mul_le_mul hp he
  have spe : Sm (p * e) := by unfold Sm; omega
  have sp : Sm p := by unfold Sm; omega
  have se : Sm e := by unfold Sm; omega
  have hs := iS_list (codes_at (le := e2 mulD (eV 2) (eV 3)) (wi := eV 3) (v := 15) (n := p * e) (e := e) (η := η) spe h.e0 (by omega) (by omega) (by rw [mul_i ⟨by omega, by omega⟩ (v_at h2) (v_at h3), Int.natCast_mul]) fun i => v_at (by
    rw [wipe_cons, wipe_nil, List.set_set, List.getElem?_set_ne (by decide)]; exact h3))
  have key := eLc_fl (f := gTp (gCn (gN 13) (gCn (gN 14) gNl))) (t := bCmp eqD (eOwn 3 F_shifted (aC (eV 1) (aC (eV 13) (aC (eV 14) aN)))) (eV 1)) (x := eTup (aC (eV 13) (aC (eV 14) aN))) (vs := [13, 14]) (h := fun i => pr (i / e, i % e)) (c := fun i => tb (Per F (i / e) (i % e))) hs spe.sz fun i hi => by
    refine ⟨((wipeE η [13, 14]).set 13 (some (.int ((i : Int) / e)))).set 14 (some (.int ((i : Int) % e))), rfl, ?_, fun _ => ?_⟩
    · have q9 : (((wipeE η [13, 14]).set 13 (some (PyData.int ((i : Int) / e)))).set 14 (some (.int ((i : Int) % e))))[14]? = some (some (.int ((i : Int) % e))) := List.getElem?_set_self (by simp; omega)
      have q10 : (((wipeE η [13, 14]).set 13 (some (PyData.int ((i : Int) / e)))).set 14 (some (.int ((i : Int) % e))))[13]? = some (some (.int ((i : Int) / e))) := by
        rw [List.getElem?_set_ne (by decide)]
        exact List.getElem?_set_self (by simp; omega)
      have q1 : (((wipeE η [13, 14]).set 13 (some (PyData.int ((i : Int) / e)))).set 14 (some (.int ((i : Int) % e))))[1]? = some (some (cl p e F)) := by
        simp; exact h1
      rw [bCmp_s, own3 (v_at q1) (v_at q10) (v_at q9) (shifted_P h sp se), ret_bind, v_at q1, ret_bind, eqD_sh sh_cl sh_cl, eqv_P (h.shf _ _) h]
      rfl
    · refine pair_at (v_at ?_) (v_at ?_)
      · rw [List.getElem?_set_ne (by decide)]
        exact List.getElem?_set_self (by simp; omega)
      · exact List.getElem?_set_self (by simp; omega)
  rw [key]
  unfold perL
  rw [List.map_map]
  rfl
/-- the steps that are made -/
abbrev rpI : SV := fSeq (fSet [] 16 (eTup (aC (e2 modD (eCl intCD (aC (e2 mulD (eV 13) (e2 ixD (eV 9) (eC (.int 0)))) aN)) (eV 2)) (aC (e2 modD (eCl intCD (aC (e2 addD (e2 mulD (eV 13) (e2 ixD (eV 9) (eC (.int 1)))) (e2 mulD (eV 14) (e2 ixD (eV 10) (eC (.int 1))))) aN)) (eV 3)) aN)))) (fSet [] 17 (e2 addD (eV 17) (eIf (bCmp ninAD (eV 16) (eV 17)) (eLst (aC (eV 16) aN)) (eLst aN))))
noncomputable abbrev rpE (p e : Nat) (F : Z2) (x0 x1 x4 x5 x6 x7 x8 x11 x12 x13 x14 x15 x16 : Option D) (L : List (Int × Int)) : Env := [x0, x1, some (.int p), some (.int e), x4, x5, x6, x7, x8, some (.tuple [.int (Ab F), .int (Bb F)]), some (.tuple [.int 0, .int (E0 F)]), x11, x12, x13, x14, x15, x16, some (.list (L.map pr)), none, none, none, none, none, none]
theorem stL_succ {n k : Nat} : stL p e F n (k + 1) = stL p e F n k ++ [stp p e F (k / n) (k % n)] := by
  unfold stL
  rw [List.range_succ, List.map_append]
  rfl
theorem stL_len {n k : Nat} : (stL p e F n k).length = k := by
  unfold stL
  rw [List.length_map, List.length_range]
theorem rpI_P (h : Pd p e F) (hp : p ≤ 60) (he : e ≤ 60) {m n a b : Nat} (hm : p = Ab F * m) (hn : e = E0 F * n) (ha : a < m) (hb : b < n) {x0 x1 x4 x5 x6 x7 x8 x11 x12 x15 x16 : Option D} :
    ∃ y16, rpI (rpE p e F x0 x1 x4 x5 x6 x7 x8 x11 x12 (some (.int a)) (some (.int b)) x15 x16 (stL p e F n (a * n + b))) = M.ret (.nx (rpE p e F x0 x1 x4 x5 x6 x7 x8 x11 x12 (some (.int a)) (some (.int b)) x15 y16 (stL p e F n (a * n + b + 1)))) := by
  have n0 : 0 < n := by omega
  have q1 : (a * n + b) / n = a := by rw [Nat.mul_comm a n, Nat.mul_add_div n0, Nat.div_eq_of_lt hb]; rfl
  have q2 : (a * n + b) % n = b := by rw [Nat.mul_comm a n, Nat.mul_add_mod, Nat.mod_eq_of_lt hb]
  have mp : m ≤ p := by
    rw [hm]; exact Nat.le_mul_of_pos_left m h.a_ok.1.1
  have ne : n ≤ e := by
    rw [hn]; exact Nat.le_mul_of_pos_left n h.e_ok.1.1
  have km : a * n + b < m * n := by
    have := Nat.mul_le_mul_right n (show a + 1 ≤ m from ha)
    rw [Nat.succ_mul] at this
    omega
  have nd := stL_nodup h hm hn (k := a * n + b + 1) (by omega)
  have nin : stp p e F a b ∉ stL p e F n (a * n + b) := by
    rw [stL_succ, q1, q2] at nd
    intro z
    exact (List.nodup_append.mp nd).2.2 _ z _ List.mem_cons_self rfl
  refine ⟨some (pr (stp p e F a b)), seq_ret (fset_ret (d := pr (stp p e F a b)) (pair_at (imod_at (i := (a : Int) * Ab F) h.p0 (mul_i ⟨by omega, by omega⟩ rfl (fst_at (b := .int (Bb F)) rfl)) rfl) (imod_at (i := (a : Int) * Bb F + (b : Int) * E0 F) h.e0 (add_i (mul_i ⟨by omega, by omega⟩ rfl (snd_at (a := .int (Ab F)) rfl)) (mul_i ⟨by omega, by omega⟩ rfl (snd_at (a := .int 0) rfl))) rfl))) ?_⟩
  have hif : eIf (bCmp ninAD (eV 16) (eV 17)) (eLst (aC (eV 16) aN)) (eLst aN) (rpE p e F x0 x1 x4 x5 x6 x7 x8 x11 x12 (some (.int a)) (some (.int b)) x15 (some (pr (stp p e F a b))) (stL p e F n (a * n + b))) = M.ret (.list [pr (stp p e F a b)]) := by
    rw [eIf_s, bCmp_s, v_at (d := pr (stp p e F a b)) rfl, ret_bind, v_at (d := .list ((stL p e F n (a * n + b)).map pr)) rfl, ret_bind, ninAD_prs, decide_eq_false nin]
    show M.bind (M.ret true) _ = _
    rw [ret_bind, if_pos rfl]
    show M.lift (if 1 ≤ sizeLine then some _ else none) = _
    rw [if_pos (by rw [sizeLine_eq]; omega)]
    rfl
  have hadd : e2 addD (eV 17) (eIf (bCmp ninAD (eV 16) (eV 17)) (eLst (aC (eV 16) aN)) (eLst aN)) (rpE p e F x0 x1 x4 x5 x6 x7 x8 x11 x12 (some (.int a)) (some (.int b)) x15 (some (pr (stp p e F a b))) (stL p e F n (a * n + b))) = M.ret (.list ((stL p e F n (a * n + b + 1)).map pr)) := by
    rw [e2_s, v_at (d := .list ((stL p e F n (a * n + b)).map pr)) rfl, ret_bind, hif, ret_bind]
    show M.lift (if ((stL p e F n (a * n + b)).map pr).length + 1 ≤ sizeLine then some _ else none) = _
    have : m * n ≤ 60 * 60 := Nat.mul_le_mul (by omega) (by omega)
    rw [if_pos (by rw [List.length_map, stL_len, sizeLine_eq]; omega), stL_succ, q1, q2, List.map_append]
    rfl
  exact fset_ret hadd
theorem made_P (h : Pd p e F) (hp : p ≤ 60) (he : e ≤ 60) {m n : Nat} (hm : p = Ab F * m) (hn : e = E0 F * n) {x0 x1 x4 x5 x6 x7 x8 x11 x12 x13 x14 x15 x16 : Option D} :
    ∃ y13 y14 y16, fFor [] (iRg rangeD1 (aC (e2 fdivD (eV 2) (e2 ixD (eV 9) (eC (.int 0)))) aN)) (gN 13) (fFor [] (iRg rangeD1 (aC (e2 fdivD (eV 3) (e2 ixD (eV 10) (eC (.int 1)))) aN)) (gN 14) rpI) (rpE p e F x0 x1 x4 x5 x6 x7 x8 x11 x12 x13 x14 x15 x16 []) = M.ret (.nx (rpE p e F x0 x1 x4 x5 x6 x7 x8 x11 x12 y13 y14 x15 y16 (stL p e F n (m * n)))) := by
  have a0 := h.a_ok.1.1
  have c0 := h.e_ok.1.1
  have al := h.a_le
  have el := h.e_le
  have d1 : (p : Int) / (Ab F : Nat) = (m : Nat) := by
    have : p / Ab F = m := by rw [hm, Nat.mul_div_cancel_left m a0]
    rw [← this]; rfl
  have d2 : (e : Int) / (E0 F : Nat) = (n : Nat) := by
    have : e / E0 F = n := by rw [hn, Nat.mul_div_cancel_left n c0]
    rw [← this]; rfl
  have mp : m ≤ p := by
    rw [hm]; exact Nat.le_mul_of_pos_left m h.a_ok.1.1
  have ne : n ≤ e := by
    rw [hn]; exact Nat.le_mul_of_pos_left n h.e_ok.1.1
  obtain ⟨η', h1, y13, y14, y16, rfl⟩ := for_inv (O := []) (src := iRg rangeD1 (aC (e2 fdivD (eV 2) (e2 ixD (eV 9) (eC (.int 0)))) aN)) (gv := gN 13) (f := fFor [] (iRg rangeD1 (aC (e2 fdivD (eV 3) (e2 ixD (eV 10) (eC (.int 1)))) aN)) (gN 14) rpI) (n := m) (g := fun i => .int i)
    (η := rpE p e F x0 x1 x4 x5 x6 x7 x8 x11 x12 x13 x14 x15 x16 []) (fun a η => ∃ y13 y14 y16, η = rpE p e F x0 x1 x4 x5 x6 x7 x8 x11 x12 y13 y14 x15 y16 (stL p e F n (a * n))) (rg1_at (n := m) (by rw [← d1]; exact fdiv_at a0 (by omega) rfl (fst_at (b := .int (Bb F)) rfl)) (by unfold Sm; omega)) (by
      rintro a η ha ⟨y13, y14, y16, rfl⟩
      obtain ⟨η2, h2, z14, z16, rfl⟩ := for_inv (O := []) (src := iRg rangeD1 (aC (e2 fdivD (eV 3) (e2 ixD (eV 10) (eC (.int 1)))) aN)) (gv := gN 14) (f := rpI) (n := n) (g := fun i => .int i)
        (η := rpE p e F x0 x1 x4 x5 x6 x7 x8 x11 x12 (some (.int a)) y14 x15 y16 (stL p e F n (a * n))) (fun b η => ∃ y14 y16, η = rpE p e F x0 x1 x4 x5 x6 x7 x8 x11 x12 (some (.int a)) y14 x15 y16 (stL p e F n (a * n + b))) (rg1_at (n := n) (by rw [← d2]; exact fdiv_at c0 (by omega) rfl (snd_at (a := .int 0) rfl)) (by unfold Sm; omega)) (by
          rintro b η hb ⟨y14, y16, rfl⟩
          obtain ⟨z16, hz⟩ := rpI_P h hp he hm hn ha hb (x0 := x0) (x1 := x1) (x4 := x4) (x5 := x5) (x6 := x6) (x7 := x7) (x8 := x8) (x11 := x11) (x12 := x12) (x15 := x15) (x16 := y16)
          exact ⟨_, _, rfl, hz, _, _, rfl⟩) ⟨y14, y16, rfl⟩
      exact ⟨_, _, rfl, h2, _, _, _, by rw [Nat.succ_mul]⟩) ⟨x13, x14, x16, by rw [Nat.zero_mul]; rfl⟩
  exact ⟨y13, y14, y16, h1⟩
end
end W3

set_option Elab.async false
set_option linter.all false
set_option maxRecDepth 100000
set_option maxHeartbeats 8000000
/-! Pk05m: the law's first half, joined. -/
namespace W3
open PySem PySem.Spec L2
section
variable {p e : Nat} {F G : Z2}
theorem isz {n : Nat} (h : n ≤ 1000) : Sm n := Nat.le_trans h (by decide)
theorem any_no {α : Type} (L : List α) : (L.any fun _ => false) = false := by
  induction L with
  | nil => rfl
  | cons a L ih => rw [List.any_cons, ih]; rfl
theorem steps_no (h : Pd p e F) (hp : p ≤ 1000) (he : e ≤ 1000) {x0 x2 x3 x4 x5 x6 x7 x8 x11 x12 x13 x14 x15 x16 x17 x18 x19 x20 x21 x22 x23 : Option D} : (bT (eCl anyCD (aC (eLc (iS (eLst (aC (eV 9) (aC (eV 10) aN)))) (gN 16) bYes (eNot (eOwn 2 F__law_same (aC (eOwn 3 F_is_period (aC (eV 1) (aC (e2 ixD (eV 16) (eC (.int 0))) (aC (e2 ixD (eV 16) (eC (.int 1))) aN)))) (aC (eC (.bool true)) aN)))) [16]) aN))) [x0, some (cl p e F), x2, x3, x4, x5, x6, x7, x8, some (.tuple [.int (Ab F), .int (Bb F)]), some (.tuple [.int 0, .int (E0 F)]), x11, x12, x13, x14, x15, x16, x17, x18, x19, x20, x21, x22, x23] = M.ret false := by
  refine no_t ?_
  rw [any_list (L := [((Ab F : Int), (Bb F : Int)), (0, (E0 F : Int))]) (g := pr) (c := fun _ => false) (by
    rw [iS_s]
    show M.bind (M.lift (if 2 ≤ sizeLine then some _ else none)) _ = _
    rw [if_pos (by rw [sizeLine_eq]; omega)]
    rfl) (by rw [sizeLine_eq]; exact Nat.le_trans (show 2 ≤ 2 from Nat.le_refl _) (by omega)) fun q hq => ⟨_, rfl, ?_⟩]
  · rfl
  · have hper : Per F q.1 q.2 := by
      rcases List.mem_cons.mp hq with rfl | hq
      · exact h.b_ok.1
      · rw [List.mem_singleton.mp hq]
        exact h.e_ok.1.2
    have e1 : eOwn 2 F__law_same (aC (eOwn 3 F_is_period (aC (eV 1) (aC (e2 ixD (eV 16) (eC (.int 0))) (aC (e2 ixD (eV 16) (eC (.int 1))) aN)))) (aC (eC (.bool true)) aN)) (((wipeE [x0, some (cl p e F), x2, x3, x4, x5, x6, x7, x8, some (.tuple [.int (Ab F), .int (Bb F)]), some (.tuple [.int 0, .int (E0 F)]), x11, x12, x13, x14, x15, x16, x17, x18, x19, x20, x21, x22, x23] [16]).set 16 (some (pr q)))) = M.ret (.bool true) :=
      own2 (own3 (a := cl p e F) rfl (fst_at (b := .int q.2) rfl) (snd_at (a := .int q.1) rfl) (is_period_P h (isz hp) (isz he))) rfl (same_tt (tb_t hper))
    show M.bind (eOwn 2 F__law_same _ _) _ = _
    rw [e1]
    rfl
theorem alike_no (h : Pd p e F) {a b : Nat} (ha : a < p) (hb : b < e) (hp : p ≤ 1000) (he : e ≤ 1000) {x0 x2 x3 x4 x5 x6 x7 x8 x9 x10 x11 x12 x13 x14 x15 x16 x17 x20 x21 x22 x23 : Option D} : (bT (eCl anyCD (aC (eLc (iS (eV 19)) (gTp (gCn (gN 20) (gCn (gN 21) gNl))) bYes (e2 neD (e2 ixD (e2 ixD (eV 1) (eV 20)) (eV 21)) (e2 ixD (e2 ixD (eV 1) (e2 ixD (eV 18) (eC (.int 0)))) (e2 ixD (eV 18) (eC (.int 1))))) [20, 21]) aN))) [x0, some (cl p e F), x2, x3, x4, x5, x6, x7, x8, x9, x10, x11, x12, x13, x14, x15, x16, x17, some (pr (a, b)), some (.list ((plL p e F a b).map pr)), x20, x21, x22, x23] = M.ret false := by
  refine no_t ?_
  rw [any_list (L := plL p e F a b) (g := pr) (c := fun _ => false) rfl (by
    rw [plL_len h]; exact Nat.le_trans perL_le (big_ok hp he)) fun q hq => ⟨_, rfl, ?_⟩, any_no]
  obtain ⟨q1, q2, q3, q4, q5⟩ := (mem_plL h (d := q.1) (r := q.2)).mp hq
  have hv : F q.1 q.2 = F a b := by
    have := q5.at q.1 q.2
    rw [show q.1 - (q.1 - (a : Int)) = a by omega, show q.2 - (q.2 - (b : Int)) = b by omega] at this
    exact this.symm
  rw [e2_s, ix2_at (p := p) (e := e) (f := F) (i := q.1) (j := q.2) rfl rfl rfl q1 q2 q3 q4, ret_bind, ix2_at (p := p) (e := e) (f := F) (i := a) (j := b) rfl (fst_at (b := .int b) rfl) (snd_at (a := .int a) rfl) (by omega) (by omega) (by omega) (by omega), ret_bind, neD_i, hv, beq_self_eq_true]
  rfl
theorem last_pr {L : List (Int × Int)} (h : L ≠ []) : ∃ q, q ∈ L ∧ ixD (.list (L.map pr)) (.int (-1)) = some (pr q) := by
  have hl : 0 < L.length := List.length_pos_iff.mpr h
  refine ⟨L[L.length - 1], List.getElem_mem _, ?_⟩
  show atI (L.map pr) (-1) = _
  unfold atI ixN
  rw [List.length_map, if_neg (by omega), if_pos (by omega)]
  show (L.map pr)[((-1 : Int) + L.length).toNat]? = _
  rw [show ((-1 : Int) + L.length).toNat = L.length - 1 by omega, List.getElem?_map, List.getElem?_eq_getElem (by omega)]
  rfl
theorem last_at {L : List (Int × Int)} {η : Env} {q : Int × Int} (h : η[19]? = some (some (.list (L.map pr)))) (hq : ixD (.list (L.map pr)) (.int (-1)) = some (pr q)) : e2 ixD (eV 19) (e1 negD (eC (.int 1))) η = M.ret (pr q) := by
  rw [e2_s, v_at h, ret_bind]
  show M.lift (ixD (.list (L.map pr)) (.int (-1))) = _
  rw [hq]
  rfl
theorem nin_prs {x y : EV} {η : Env} {q : Int × Int} {L : List (Int × Int)} (hx : x η = M.ret (pr q)) (hy : y η = M.ret (.list (L.map pr))) (h : q ∈ L) : bCmp ninAD x y η = M.ret false := by
  rw [bCmp_s, hx, ret_bind, hy, ret_bind, ninAD_prs, decide_eq_true h]
  rfl
theorem mins_at (h : Pd p e F) (hp : p ≤ 60) (he : e ≤ 60) {x0 x1 x2 x3 x4 x5 x6 x7 x9 x10 x11 x12 x13 x14 x15 x16 x17 x18 x19 x20 x21 x22 x23 : Option D} : eCl minCD (aC (eLc (iS (eLc (iRg rangeD1 (aC (e2 mulD (eCl lenD (aC (eV 8) aN)) (eCl lenD (aC (e2 ixD (eV 8) (eC (.int 0))) aN))) aN)) (gN 15) bYes (eTup (aC (e2 fdivD (eV 15) (eCl lenD (aC (e2 ixD (eV 8) (eC (.int 0))) aN))) (aC (e2 modD (eCl intCD (aC (eV 15) aN)) (eCl lenD (aC (e2 ixD (eV 8) (eC (.int 0))) aN))) aN))) [15])) (gTp (gCn (gN 13) (gCn (gN 14) gNl))) bYes (eOwn 3 F_shifted (aC (eV 8) (aC (eV 13) (aC (eV 14) aN)))) [13, 14]) aN) [x0, x1, x2, x3, x4, x5, x6, x7, some (cl (P0 F) (E0 F) F), x9, x10, x11, x12, x13, x14, x15, x16, x17, x18, x19, x20, x21, x22, x23] = M.ret (MF F) := by
  have hl := h.lr
  have p2 := Nat.le_trans h.p_le hp
  have e2' := Nat.le_trans h.e_le he
  have p1 : P0 F ≤ 1000 := by omega
  have e1 : E0 F ≤ 1000 := by omega
  have bg := big_ok p1 e1
  have bs : Sm (P0 F * E0 F) := by
    have := Nat.mul_le_mul p2 e2'
    unfold Sm
    omega
  have hs := iS_list (codes_at (le := e2 mulD (eCl lenD (aC (eV 8) aN)) (eCl lenD (aC (e2 ixD (eV 8) (eC (.int 0))) aN))) (wi := eCl lenD (aC (e2 ixD (eV 8) (eC (.int 0))) aN)) (v := 15) (n := P0 F * E0 F) (e := E0 F) (η := [x0, x1, x2, x3, x4, x5, x6, x7, some (cl (P0 F) (E0 F) F), x9, x10, x11, x12, x13, x14, x15, x16, x17, x18, x19, x20, x21, x22, x23]) bs hl.e0 e1 (by show 15 < 24; decide) (by
    rw [mul_i ⟨by omega, by have := isz p1; unfold Sm at this; omega⟩ (len_at (n := P0 F) (g := fun i => row (E0 F) (F i)) rfl) (len0 (p := P0 F) (f := F) rfl hl.p0), Int.natCast_mul]) fun i => len0 (p := P0 F) (f := F) rfl hl.p0)
  have hl2 := eLc_rl (f := gTp (gCn (gN 13) (gCn (gN 14) gNl))) (t := bYes) (e := eOwn 3 F_shifted (aC (eV 8) (aC (eV 13) (aC (eV 14) aN)))) (vs := [13, 14]) (h := fun i => cl (P0 F) (E0 F) (shf F (i / E0 F) (i % E0 F))) hs bg fun i _ _ => ⟨_, rfl, rfl, own3 (a := cl (P0 F) (E0 F) F) rfl rfl rfl (shifted_P hl (isz p1) (isz e1))⟩
  rw [eCl_s, aC_s, hl2]
  show M.lift (minCD [.list _]) = _
  have := (MF_ok h (by omega) (by omega) (rl (P0 F * E0 F) fun i => cl (P0 F) (E0 F) (shf F (i / E0 F) (i % E0 F))) rfl).1
  rw [this]
  rfl
theorem told_no {a b : Nat} {d r : Int} (h1 : ¬ (d < a ∨ (d = a ∧ r < b))) {x y z : EV} {η : Env} (hx : x η = M.ret (pr (a, b))) (hy : y η = M.ret (.int d)) (hz : z η = M.ret (.int r)) : bCmp gtA x (eTup (aC y (aC z aN))) η = M.ret false := by
  rw [bCmp_s, hx, ret_bind, pair_at hy hz, ret_bind]
  have e1 : gtA (pr (a, b)) (pr (d, r)) = some (.bool (PySem.W.dataLt (pr (d, r)) (pr (a, b)))) := by
    show (if SeqAt.shaped (pr (a, b)) = true ∧ SeqAt.shaped (pr (d, r)) = true ∧ PySem.W.alike (pr (a, b)) (pr (d, r)) = true ∧ notNone (pr (a, b)) = true then some _ else none) = _
    rw [if_pos ⟨sh_pr.ok, sh_pr.ok, rfl, rfl⟩]
  show M.lift ((gtA (pr (a, b)) (pr (d, r))).bind boolD) = _
  rw [e1, lt_pr, decide_eq_false h1]
  rfl
theorem none_move {p' e' : Nat} (hF : Pd p e F) (hG : Pd p' e' G) (hp : p ≤ 1000) (he : e ≤ 1000) (hp' : p' ≤ 1000) (he' : e' ≤ 1000) {x y : EV} {η : Env} (hx : x η = M.ret (cl p e F)) (hy : y η = M.ret (cl p' e' G)) : bCmp neD (e2 isD (eOwn 2 F_move_between (aC x (aC y aN))) (eC .none)) (e2 isnD (eOwn 2 F_are_moved (aC x (aC y aN))) (eC (.bool true))) η = M.ret false := by
  obtain ⟨m1, m2⟩ := move_between_P hF hG hp he hp' he'
  have hm := are_moved_P hF hG hp he hp' he'
  by_cases c : Mv F G
  · obtain ⟨a, b, h1, _⟩ := m2 c
    refine ne_f (d := .bool false) (d' := .bool false) ?_ ?_ .bool rfl
    · rw [e2_s, own2 hx hy h1]; rfl
    · rw [e2_s, own2 hx hy hm, tb_t c]; rfl
  · refine ne_f (d := .bool true) (d' := .bool true) ?_ ?_ .bool rfl
    · rw [e2_s, own2 hx hy (m1 c)]; rfl
    · rw [e2_s, own2 hx hy hm, tb_f c]; rfl
theorem rep_law (h : Pd p e F) (hp : p ≤ 18) (he : e ≤ 18) : Yld (F__law_repeats [stTok, cl p e F]) (· = .bool true) := by
  have sp : Sm p := by unfold Sm; omega
  have se : Sm e := by unfold Sm; omega
  have p3 : p ≤ 1000 := by omega
  have e3 : e ≤ 1000 := by omega
  have hl := h.lr
  have p2 := Nat.le_trans h.p_le p3
  have e2' := Nat.le_trans h.e_le e3
  unfold F__law_repeats B__law_repeats
  refine runF_y rfl (seq_y (asg_size (k := 1) (p := p) (e := e) (f := F) rfl h.p0) ?_)
  refine set_y (draw_y (by decide) (by decide) rfl) fun d1 ⟨dn, z1, a0, a1⟩ => ?_
  subst z1
  refine set_y (draw_y (by decide) (by decide) rfl) fun d2 ⟨rt, z2, b0, b1⟩ => ?_
  subst z2
  refine set_y (R := fun d => ∃ m n : Nat, 1 ≤ m ∧ m ≤ 3 ∧ 1 ≤ n ∧ n ≤ 3 ∧ d = cl (p * m) (e * n) F) (own3yy (a := cl p e F) rfl (draw_add (by decide) (by decide) rfl) (draw_add (by decide) (by decide) rfl) fun b c ⟨i, e1, i1, i2⟩ ⟨j, e2, j1, j2⟩ => ?_) fun d3 ⟨m, n, m1, m2, n1, n2, z3⟩ => ?_
  · subst e1 e2
    obtain ⟨i, rfl⟩ := Int.eq_ofNat_of_zero_le (show 0 ≤ i by omega)
    obtain ⟨j, rfl⟩ := Int.eq_ofNat_of_zero_le (show 0 ≤ j by omega)
    have l1 : p * i ≤ 18 * 3 := Nat.mul_le_mul hp (by omega)
    have l2 : e * j ≤ 18 * 3 := Nat.mul_le_mul he (by omega)
    rw [repeated_cl (by omega) (by omega) (by unfold Sm; omega) (by unfold Sm; omega) sp]
    exact .ret ⟨i, j, by omega, by omega, by omega, by omega, cl_congr rfl rfl fun i j _ _ _ _ => h.mod i j⟩
  subst z3
  have l1 : p * m ≤ 18 * 3 := Nat.mul_le_mul hp (by omega)
  have l2 : e * n ≤ 18 * 3 := Nat.mul_le_mul he (by omega)
  have hb := h.big (m := m) (n := n) (by omega) (by omega)
  have sp3 : Sm (p * m) := by unfold Sm; omega
  have se3 : Sm (e * n) := by unfold Sm; omega
  have hs := h.shf dn rt
  refine set_p (own3 (a := cl p e F) rfl rfl rfl (shifted_P h sp se)) ?_
  refine set_p (own1 (a := cl p e F) rfl (least_P h sp se)) ?_
  refine if_y (f_y (or_f (ne_f (own1 (a := cl (p * m) (e * n) F) rfl (least_P hb sp3 se3)) rfl sh_cl rfl) (or_f (not_f (own2 (own2 (a := cl p e F) (b := cl (p * m) (e * n) F) rfl rfl (are_one_P h hb sp se sp3 se3)) rfl (same_tt (tb_t rfl)))) (or_f (ne_f (own1 (a := cl (p * m) (e * n) F) rfl (basis_P hb sp3 se3)) (own1 (a := cl p e F) rfl (basis_P h sp se)) sh_bas rfl) (ne_f (own1 (a := cl p e (shf F dn rt)) rfl (area_P hs p3 e3)) (own1 (a := cl p e F) rfl (area_P h p3 e3)) .int (by rw [Ab_shf, E0_shf])))))) ?_
  refine if_y (f_y (or_f (ne_f (own1 (a := cl p e (shf F dn rt)) rfl (basis_P hs sp se)) (own1 (a := cl p e F) rfl (basis_P h sp se)) sh_bas (by unfold basD; rw [Ab_shf, Bb_shf, E0_shf])) (ne_f (own1 (a := cl p e F) rfl (straight_P h sp se)) (own1 (a := cl (P0 F) (E0 F) F) rfl (size_of_cl hl.p0)) pair_sh rfl))) ?_
  refine seq_y (η' := [some stTok, some (cl p e F), some (.int p), some (.int e), some (.int dn), some (.int rt), some (cl (p * m) (e * n) F), some (cl p e (shf F dn rt)), some (cl (P0 F) (E0 F) F), some (.tuple [.int (Ab F), .int (Bb F)]), some (.tuple [.int 0, .int (E0 F)]), none, none, none, none, none, none, none, none, none, none, none, none, none]) ?_ ?_
  · rw [fAsg_s, wipe_nil, own1 (a := cl p e F) rfl (basis_P h sp se)]
    rfl
  refine set_p (own1 (a := cl p e F) rfl (periods_P h p3 e3)) ?_
  refine set_p (due_at h (by omega) (by omega) rfl rfl rfl (by show 16 < 24; decide)) ?_
  obtain ⟨mm, hm⟩ := h.p_mul
  obtain ⟨nn, hn⟩ := h.e_mul
  have al := h.a_le
  refine if_y (f_y (or_f (ne_f (d := .list ((perL p e F).map pr)) (d' := .list ((perL p e F).map pr)) rfl rfl sh_prs rfl) (or_f (ne_f (fst_at (b := .int (E0 F)) rfl) rfl .int rfl) (or_f (ne_f (own1 (a := cl p e F) rfl (area_P h p3 e3)) (mul_i (i := Ab F) (j := E0 F) ⟨by omega, by omega⟩ (fst_at (b := .int (Bb F)) rfl) (snd_at (a := .int 0) rfl)) .int rfl) (ne_f (mul_i (i := p) (j := e) ⟨by omega, by omega⟩ rfl rfl) (mul_i (i := (Ab F : Int) * E0 F) (j := ((perL p e F).map pr).length) ?_ (own1 (a := cl p e F) rfl (area_P h p3 e3)) (lenl_at rfl)) .int ?_))))) ?_
  · have q1 : Ab F * E0 F ≤ 18 * 18 := Nat.mul_le_mul (by omega) (by have := h.e_le; omega)
    rw [← Int.natCast_mul]
    omega
  · rw [List.length_map, perL_len h hm hn]
    have : p * e = Ab F * E0 F * (mm * nn) := by
      rw [Nat.mul_mul_mul_comm, ← hm, ← hn]
    rw [← Int.natCast_mul, ← Int.natCast_mul, ← Int.natCast_mul, this]
  refine if_y (f_y (steps_no h p3 e3)) ?_
  refine set_p (d := .list []) rfl ?_
  obtain ⟨y13, y14, y16, hmade⟩ := made_P h (by omega) (by omega) hm hn (x0 := some stTok) (x1 := some (cl p e F)) (x4 := some (.int dn)) (x5 := some (.int rt)) (x6 := some (cl (p * m) (e * n) F)) (x7 := some (cl p e (shf F dn rt))) (x8 := some (cl (P0 F) (E0 F) F)) (x11 := some (.list ((perL p e F).map pr))) (x12 := some (.list ((perL p e F).map pr))) (x13 := none) (x14 := none) (x15 := none) (x16 := none)
  refine seq_y hmade ?_
  refine if_y (f_y (ne_f (d := .list ((perL p e F).map pr)) (d' := .list ((perL p e F).map pr)) ?_ rfl sh_prs rfl)) ?_
  · show M.lift (sortedD [.list ((stL p e F nn (mm * nn)).map pr)]) = _
    rw [sorted_prs (stL_perm h hm hn) (perL_lt h.e0)]
    rfl
  refine set_y (pair_y (draw_v h.p0 (by omega) rfl rfl) (draw_v h.e0 (by omega) rfl rfl)) fun d4 ⟨da, db, z4, ⟨a, za, ha⟩, ⟨b, zb, hb2⟩⟩ => ?_
  subst z4 za zb
  refine set_p (own2 (a := cl p e F) (b := pr (a, b)) rfl rfl (places_P h p3 e3)) ?_
  have pin : ((a : Int), (b : Int)) ∈ plL p e F a b := (mem_plL h).mpr ⟨by omega, by omega, by omega, by omega, by rw [Int.sub_self, Int.sub_self]; exact Per.zero⟩
  obtain ⟨q, hq, hq2⟩ := last_pr (L := plL p e F a b) (List.ne_nil_of_mem pin)
  have hqp := (mem_plL h (d := q.1) (r := q.2)).mp hq
  refine if_y (f_y (or_f (ne_f (lenl_at (L := (plL p e F a b).map pr) rfl) (lenl_at (L := (perL p e F).map pr) rfl) .int (by rw [List.length_map, List.length_map, plL_len h])) (or_f (nin_prs (q := (a, b)) rfl rfl pin) (or_f (alike_no h ha hb2 p3 e3) (ne_f (own2 (a := cl p e F) (b := pr q) rfl (last_at rfl hq2) (places_P (a := q.1) (b := q.2) h p3 e3)) rfl sh_prs (by rw [plL_eq h hqp.2.2.2.2])))))) ?_
  have hmv : Mv F (shf F dn rt) := ⟨dn, rt, rfl⟩
  refine if_y (f_y (or_f (not_f (own2 (own2 (a := cl p e F) (b := cl p e (shf F dn rt)) rfl rfl (are_moved_P h hs p3 e3 p3 e3)) rfl (same_tt (tb_t hmv)))) (ne_f (own1 (a := cl p e (shf F dn rt)) rfl (moved_first_P hs p3 e3)) (own1 (a := cl p e F) rfl (moved_first_P h p3 e3)) (MF_it hs).2 (MF_mv hmv).symm))) ?_
  refine if_y (f_y (ne_f (own1 (a := cl p e F) rfl (moved_first_P h p3 e3)) (mins_at h (by omega) (by omega)) (MF_it h).2 rfl)) ?_
  obtain ⟨ma, mb, t1, t2, t3, t4, t5, t6⟩ := (move_between_P h hs p3 e3 p3 e3).2 hmv
  refine set_p (own2 (a := cl p e F) (b := cl p e (shf F dn rt)) rfl rfl t1) ?_
  have md := mod_lt (k := dn) hl.p0
  have mr := mod_lt (k := rt) hl.e0
  have htold : ¬ (dn % P0 F < ma ∨ (dn % P0 F = ma ∧ rt % E0 F < mb)) := by
    have hm2 := hl.shf_mod dn rt
    obtain ⟨c, hc⟩ := Int.eq_ofNat_of_zero_le md.1
    obtain ⟨g, hg⟩ := Int.eq_ofNat_of_zero_le mr.1
    rw [hc, hg] at hm2 ⊢
    rw [hg] at mr
    rintro (z | ⟨z1, z2⟩)
    · exact t5 c g (by omega) (by omega) hm2.symm
    · have : c = ma := by omega
      subst this
      exact t6 g (by omega) hm2.symm
  refine if_y (f_y (or_f rfl (or_f (ne_f (own1 (own3 (a := cl (P0 F) (E0 F) F) rfl (fst_at (b := .int mb) rfl) (snd_at (a := .int ma) rfl) (shifted_P hl (isz p2) (isz e2'))) (least_P (hl.shf ma mb) (isz p2) (isz e2'))) (own1 (a := cl p e (shf F dn rt)) rfl (least_P hs sp se)) sh_cl (by rw [t4])) (told_no htold rfl (imod_at hl.p0 rfl (len_at (n := P0 F) (g := fun i => row (E0 F) (F i)) rfl)) (imod_at hl.e0 rfl (len0 (p := P0 F) (f := F) rfl hl.p0)))))) ?_
  refine set_y (R := fun d => ∃ p' e' : Nat, ∃ G, Pd p' e' G ∧ p' ≤ 4 ∧ e' ≤ 4 ∧ d = cl p' e' G) (own3yy (a := stTok) rfl (draw_add (by decide) (by decide) rfl) (draw_add (by decide) (by decide) rfl) fun b c ⟨i, e1, i1, i2⟩ ⟨j, e2, j1, j2⟩ => ?_) fun d5 ⟨p', e', G, hG, hp', he', z5⟩ => ?_
  · subst e1 e2
    obtain ⟨i, rfl⟩ := Int.eq_ofNat_of_zero_le (show 0 ≤ i by omega)
    obtain ⟨j, rfl⟩ := Int.eq_ofNat_of_zero_le (show 0 ≤ j by omega)
    exact (cloth_y (p := i) (e := j) (by unfold Sm; omega) (by unfold Sm; omega)).imp fun d ⟨f, _, hd⟩ => ⟨i, j, _, wrp_pd (f := f) (by omega) (by omega), by omega, by omega, hd.trans wrp_cl⟩
  subst z5
  have sp4 : Sm p' := by unfold Sm; omega
  have se4 : Sm e' := by unfold Sm; omega
  refine set_p (own1 (a := cl p e F) rfl (straight_P h sp se)) ?_
  refine set_p (own1 (a := cl p' e' G) rfl (straight_P hG sp4 se4)) ?_
  have gp := Nat.le_trans hG.p_le sp4
  have ge := Nat.le_trans hG.e_le se4
  refine if_y (f_y (or_f (ne_f (own2 (a := cl p e F) (b := cl p' e' G) rfl rfl (common_size_P h hG sp se sp4 se4)) (pair_at (own2 (fst_at (a := .int (P0 F)) (b := .int (E0 F)) rfl) (fst_at (a := .int (P0 G)) (b := .int (E0 G)) rfl) (multiple_P (isz p2) gp hG.lr.p0)) (own2 (snd_at (a := .int (P0 F)) (b := .int (E0 F)) rfl) (snd_at (a := .int (P0 G)) (b := .int (E0 G)) rfl) (multiple_P (isz e2') ge hG.lr.e0))) pair_sh rfl) (none_move h hG p3 e3 (by omega) (by omega) rfl rfl))) ?_
  have cb := counts_big h (m := m) (n := n) (by omega) (by omega)
  refine ret_y (d := .bool true) ?_ rfl
  rw [e2_s, own1 (a := cl (p * m) (e * n) F) rfl (counts_P hb.p0 hb.e0 sp3 se3), ret_bind, own1 (a := cl p e F) rfl (counts_P h.p0 h.e0 sp se), ret_bind, cb.1, cb.2, eqD_same pair_sh]
  rfl
end
end W3

set_option Elab.async false
set_option linter.all false
set_option maxRecDepth 100000
set_option maxHeartbeats 8000000
/-! Pk05n: the law's second half. -/
namespace W3
open PySem PySem.Spec L2
theorem forGo_all {gv : GV} {f : SV} (Iv : Env → Prop) : ∀ {ds : List D} {η : Env}, (∀ d ∈ ds, ∀ η, Iv η → ∃ η1 η2, gv d η = some η1 ∧ f η1 = M.ret (.nx η2) ∧ Iv η2) → Iv η → ∃ η', forGo gv f ds η = M.ret (.nx η') ∧ Iv η'
  | [], η, _, h => ⟨η, rfl, h⟩
  | d :: ds, η, hs, h => by
    obtain ⟨η1, η2, e1, e2, h2⟩ := hs d List.mem_cons_self η h
    obtain ⟨η', e3, h3⟩ := forGo_all Iv (fun d hd => hs d (List.mem_cons_of_mem _ hd)) h2
    refine ⟨η', ?_, h3⟩
    unfold forGo
    rw [e1, lift_some, ret_bind, e2, ret_bind]
    exact e3
theorem for_all {O : List Nat} {src : IV} {gv : GV} {f : SV} {ds : List D} {η : Env} (Iv : Env → Prop) (hsrc : src (wipeE η O) = M.ret ds) (hs : ∀ d ∈ ds, ∀ η, Iv η → ∃ η1 η2, gv d η = some η1 ∧ f η1 = M.ret (.nx η2) ∧ Iv η2) (h0 : Iv η) : ∃ η', fFor O src gv f η = M.ret (.nx η') ∧ Iv η' := by
  unfold fFor
  rw [hsrc, ret_bind]
  exact forGo_all Iv hs h0
def fo (a b : Nat) : Nat := mulc (2 * a) (2 * b) / 2
theorem fo_lt {a b : Nat} : fo a b < 8 := by
  have := mulc_lt (2 * a) (2 * b)
  unfold fo
  omega
theorem fo_mul : ∀ a, a < 8 → ∀ b, b < 8 → mulc (2 * a) (2 * b) = 2 * fo a b := by decide
theorem fo_assoc : ∀ a, a < 8 → ∀ b, b < 8 → ∀ c, c < 8 → fo (fo a b) c = fo a (fo b c) := by decide +kernel
theorem fo_same : ∀ a, a < 8 → fo 0 a = a := by decide
theorem fo_code : ∀ c, c < 16 → ∀ d, d < 16 → fo (c / 2) (d / 2) = mulc c d / 2 ∧ (c % 2 + d % 2) % 2 = mulc c d % 2 := by decide
theorem face_mul : ∀ t, t < 2 → ∀ w, w < 8 → mulc t (2 * w) = 2 * w + t := by decide
theorem words_P : F__law_words [] = M.ret (.list (rl 8 fun i => wd i.toNat)) := by
  unfold F__law_words B__law_words
  refine runF_ret (η := []) rfl (ret_ret ?_)
  show M.lift (if 8 ≤ sizeLine then some _ else none) = _
  rw [if_pos (by rw [sizeLine_eq]; omega)]
  rfl
theorem own0 {F : FD} {η : Env} {d : D} (h : F [] = M.ret d) : eOwn 0 F aN η = M.ret d := by
  rw [eOwn_s]; exact h
theorem word_y {η : Env} (h2 : η[2]? = some (some (.list (rl 8 fun i => wd i.toNat)))) (h0 : η[0]? = some (some stTok)) : Yld (e2 ixD (eV 2) (eOwn 2 F__law_draw (aC (eV 0) (aC (eC (.int 8)) aN))) η) fun d => ∃ w : Nat, d = wd w ∧ w < 8 := by
  rw [e2_s, v_at h2, ret_bind]
  refine (draw_y (by decide) (by decide) (v_at h0)).bind fun d ⟨k, e1, a, b⟩ => ?_
  subst e1
  obtain ⟨w, rfl⟩ := Int.eq_ofNat_of_zero_le a
  obtain ⟨x, e2, e3⟩ := atI_list (xs := rl 8 fun i => wd i.toNat) (i := (w : Int)) (by omega) (by rw [rl_len]; omega)
  rw [show ((w : Int)).toNat = w by omega, rl_get (by omega)] at e3
  have e4 : ixD (.list (rl 8 fun i => wd i.toNat)) (.int (w : Int)) = some x := e2
  rw [e4, lift_some, ← Option.some.inj e3]
  exact .ret ⟨w, rfl, by omega⟩
theorem tz_tz (c d p e : Nat) : tz1 d (tz1 c p e) (tz2 c p e) = tz1 (mulc c d) p e ∧ tz2 d (tz1 c p e) (tz2 c p e) = tz2 (mulc c d) p e := by
  have : b3 (mulc c d) = Bool.xor (b3 c) (b3 d) := (b_enc _ _ _ _).1
  unfold tz1 tz2
  rw [this]
  cases b3 c <;> cases b3 d <;> exact ⟨rfl, rfl⟩
theorem nin_sys {x y : EV} {η : Env} {c : Nat} {L : List Nat} (hc : c < 16) (hL : ∀ d ∈ L, d < 16) (hx : x η = M.ret (sy c)) (hy : y η = M.ret (.list (L.map sy))) (h : c ∈ L) : bCmp ninAD x y η = M.ret false := by
  rw [bCmp_s, hx, ret_bind, hy, ret_bind, ninAD_sys hc hL, decide_eq_true h]
  rfl
section
variable {p e : Nat} {F G : Z2}
theorem turned_turned (h : Pd p e F) (hp : p ≤ 1000) (he : e ≤ 1000) {a b : Nat} (ha : a < 8) (hb : b < 8) : F_turned [cl (tz1 (2 * a) p e) (tz2 (2 * a) p e) (A (2 * a) F), wd b] = M.ret (cl (tz1 (2 * fo a b) p e) (tz2 (2 * fo a b) p e) (A (2 * fo a b) F)) := by
  have s := tz_le (c := 2 * a) hp he
  rw [turned_P (h.A (by omega)) (isz s.1) (isz s.2) hb, A_A, (tz_tz _ _ _ _).1, (tz_tz _ _ _ _).2, fo_mul a ha b hb]
theorem face1_P (hp : p ≤ 1000) (he : e ≤ 1000) {t : Nat} (ht : t < 2) {η : Env} {k l : Nat} (h1 : η[k]? = some (some (.int t))) (h2 : η[l]? = some (some (cl p e F))) : eIf (bCmp eqD (eV k) (eC (.int 1))) (eOwn 1 F_other_face (aC (eV l) aN)) (eV l) η = M.ret (cl p e (A t F)) := by
  have hc : bCmp eqD (eV k) (eC (.int 1)) η = M.ret ((t : Int) == 1) := by
    rw [bCmp_s, v_at h1, ret_bind, eC_s, ret_bind, eqD_i]
    rfl
  rw [eIf_s, hc, ret_bind]
  rcases t with _ | _ | t
  · rw [if_neg (by decide), v_at h2]; rfl
  · rw [if_pos (by decide), own1 (v_at h2) (other_face_A (isz hp) (isz he))]
  · omega
theorem face_turned (h : Pd p e F) (hp : p ≤ 1000) (he : e ≤ 1000) {t w : Nat} (ht : t < 2) (hw : w < 8) : F_turned [cl p e (A t F), wd w] = M.ret (cl (tz1 (2 * w + t) p e) (tz2 (2 * w + t) p e) (A (2 * w + t) F)) := by
  have hA := h.A (c := t) (by omega)
  have z : tz1 t p e = p ∧ tz2 t p e = e := by
    rcases t with _ | _ | t
    · exact ⟨rfl, rfl⟩
    · exact ⟨rfl, rfl⟩
    · omega
  have q := tz_tz t (2 * w) p e
  rw [z.1, z.2] at hA q
  rw [turned_P hA (isz hp) (isz he) hw, A_A, q.1, q.2, face_mul t ht w hw]
abbrev tuE (x0 x1 x2 x3 x4 x5 x6 x7 x8 x9 x10 x11 x12 x13 x14 x15 x16 x17 x18 x19 x20 x21 x22 : Option D) : Env := [x0, x1, x2, x3, x4, x5, x6, x7, x8, x9, x10, x11, x12, x13, x14, x15, x16, x17, x18, x19, x20, x21, x22]
theorem closed_P (F : Z2) {x0 x1 x2 x3 x4 x5 x6 x8 x9 x10 x11 x12 x13 x14 x15 x16 x17 x18 x19 x20 x21 x22 : Option D} : ∃ y10 y11 y12 y13, fFor [] (iS (eV 7)) (gTp (gCn (gN 10) (gCn (gN 11) gNl))) (fFor [] (iS (eV 7)) (gTp (gCn (gN 12) (gCn (gN 13) gNl))) (fIf (bCmp ninAD (eTup (aC (eOwn 2 F_followed (aC (eV 10) (aC (eV 12) aN))) (aC (e2 modD (eCl intCD (aC (e2 addD (eV 11) (eV 13)) aN)) (eC (.int 2))) aN))) (eV 7)) (fRet (eC (.bool false))) fNil)) (tuE x0 x1 x2 x3 x4 x5 x6 (some (.list ((symL F 16).map sy))) x8 x9 x10 x11 x12 x13 x14 x15 x16 x17 x18 x19 x20 x21 x22) = M.ret (.nx (tuE x0 x1 x2 x3 x4 x5 x6 (some (.list ((symL F 16).map sy))) x8 x9 y10 y11 y12 y13 x14 x15 x16 x17 x18 x19 x20 x21 x22)) := by
  obtain ⟨η', h1, y10, y11, y12, y13, rfl⟩ := for_all (O := []) (src := iS (eV 7)) (gv := gTp (gCn (gN 10) (gCn (gN 11) gNl))) (f := fFor [] (iS (eV 7)) (gTp (gCn (gN 12) (gCn (gN 13) gNl))) (fIf (bCmp ninAD (eTup (aC (eOwn 2 F_followed (aC (eV 10) (aC (eV 12) aN))) (aC (e2 modD (eCl intCD (aC (e2 addD (eV 11) (eV 13)) aN)) (eC (.int 2))) aN))) (eV 7)) (fRet (eC (.bool false))) fNil)) (η := tuE x0 x1 x2 x3 x4 x5 x6 (some (.list ((symL F 16).map sy))) x8 x9 x10 x11 x12 x13 x14 x15 x16 x17 x18 x19 x20 x21 x22) (fun η => ∃ y10 y11 y12 y13, η = tuE x0 x1 x2 x3 x4 x5 x6 (some (.list ((symL F 16).map sy))) x8 x9 y10 y11 y12 y13 x14 x15 x16 x17 x18 x19 x20 x21 x22) (ds := (symL F 16).map sy) rfl (by
    rintro d hd η ⟨y10, y11, y12, y13, rfl⟩
    obtain ⟨c, hc, rfl⟩ := List.mem_map.mp hd
    have c16 := (mem_symL.mp hc).1
    obtain ⟨η2, h2, z12, z13, rfl⟩ := for_all (O := []) (src := iS (eV 7)) (gv := gTp (gCn (gN 12) (gCn (gN 13) gNl))) (f := fIf (bCmp ninAD (eTup (aC (eOwn 2 F_followed (aC (eV 10) (aC (eV 12) aN))) (aC (e2 modD (eCl intCD (aC (e2 addD (eV 11) (eV 13)) aN)) (eC (.int 2))) aN))) (eV 7)) (fRet (eC (.bool false))) fNil) (η := tuE x0 x1 x2 x3 x4 x5 x6 (some (.list ((symL F 16).map sy))) x8 x9 (some (wd (c / 2))) (some (.int (c % 2 : Nat))) y12 y13 x14 x15 x16 x17 x18 x19 x20 x21 x22) (fun η => ∃ y12 y13, η = tuE x0 x1 x2 x3 x4 x5 x6 (some (.list ((symL F 16).map sy))) x8 x9 (some (wd (c / 2))) (some (.int (c % 2 : Nat))) y12 y13 x14 x15 x16 x17 x18 x19 x20 x21 x22) (ds := (symL F 16).map sy) rfl (by
      rintro d hd η ⟨y12, y13, rfl⟩
      obtain ⟨g, hg, rfl⟩ := List.mem_map.mp hd
      have g16 := (mem_symL.mp hg).1
      refine ⟨_, _, rfl, if_f (nin_sys (c := mulc c g) (mulc_lt _ _) (symL_lt (Nat.le_refl _)) ?_ rfl ?_), _, _, rfl⟩
      · rw [pair_at (own2 (a := wd (c / 2)) (b := wd (g / 2)) rfl rfl (followed_P (by omega) (by omega))) (imod_at (i := ((c % 2 : Nat) : Int) + ((g % 2 : Nat) : Int)) (n := 2) (by decide) rfl rfl)]
        unfold sy
        have := fo_code c c16 g g16
        rw [← this.1, ← this.2]
        rfl
      · have gr := sym_grp F
        exact mem_symL.mpr ⟨mulc_lt _ _, tb_iff.mp (gr.mul c g c16 g16 (tb_t (mem_symL.mp hc).2) (tb_t (mem_symL.mp hg).2))⟩) ⟨y12, y13, rfl⟩
    exact ⟨_, _, rfl, h2, _, _, _, _, rfl⟩) ⟨x10, x11, x12, x13, rfl⟩
  exact ⟨y10, y11, y12, y13, h1⟩
end
end W3

set_option Elab.async false
set_option linter.all false
set_option maxRecDepth 100000
set_option maxHeartbeats 8000000
/-! Pk05o: the law's second half, joined. -/
namespace W3
open PySem PySem.Spec L2
section
variable {p e : Nat} {F G : Z2}
abbrev mvB : SV := fSeq (fSet [] 15 (eOwn 2 F_turned (aC (eIf (bCmp eqD (eV 11) (eC (.int 1))) (eOwn 1 F_other_face (aC (eV 14) aN)) (eV 14)) (aC (eV 10) aN)))) (fSeq (fSet [] 16 (eLc (iRg rangeD1 (aC (e2 mulD (eCl lenD (aC (eV 14) aN)) (eCl lenD (aC (e2 ixD (eV 14) (eC (.int 0))) aN))) aN)) (gN 17) bYes (eTup (aC (e2 fdivD (eV 17) (eCl lenD (aC (e2 ixD (eV 14) (eC (.int 0))) aN))) (aC (e2 modD (eCl intCD (aC (eV 17) aN)) (eCl lenD (aC (e2 ixD (eV 14) (eC (.int 0))) aN))) aN))) [17])) (fSeq (fSet [] 18 (eLc (iS (eV 16)) (gTp (gCn (gN 19) (gCn (gN 20) gNl))) (bAnd (bCmp eqD (eOwn 1 F_size_of (aC (eV 15) aN)) (eOwn 1 F_size_of (aC (eV 14) aN))) (bCmp eqD (eOwn 3 F_shifted (aC (eV 15) (aC (eV 19) (aC (eV 20) aN)))) (eV 14))) (eTup (aC (eV 19) (aC (eV 20) aN))) [19, 20])) (fIf (bOr (bCmp neD (eOwn 3 F_moves_for (aC (eV 1) (aC (eV 10) (aC (eV 11) aN)))) (eV 18)) (bCmp neD (e2 inAD (eTup (aC (eV 10) (aC (eV 11) aN))) (eV 7)) (e2 gtA (eCl lenD (aC (eV 18) aN)) (eC (.int 0))))) (fRet (eC (.bool false))) fNil)))
theorem mvD_at (h : Pd p e F) (hp : p ≤ 60) (he : e ≤ 60) {c : Nat} (hc : c < 16) {x0 x1 x2 x3 x4 x5 x6 x7 x8 x9 x10 x11 x12 x13 x17 x18 x19 x20 x21 x22 : Option D} : eLc (iS (eV 16)) (gTp (gCn (gN 19) (gCn (gN 20) gNl))) (bAnd (bCmp eqD (eOwn 1 F_size_of (aC (eV 15) aN)) (eOwn 1 F_size_of (aC (eV 14) aN))) (bCmp eqD (eOwn 3 F_shifted (aC (eV 15) (aC (eV 19) (aC (eV 20) aN)))) (eV 14))) (eTup (aC (eV 19) (aC (eV 20) aN))) [19, 20] (tuE x0 x1 x2 x3 x4 x5 x6 x7 x8 x9 x10 x11 x12 x13 (some (cl (P0 F) (E0 F) F)) (some (cl (tz1 c (P0 F) (E0 F)) (tz2 c (P0 F) (E0 F)) (A c F))) (some (.list (rl (P0 F * E0 F) fun i => pr (i / E0 F, i % E0 F)))) x17 x18 x19 x20 x21 x22) = M.ret (.list ((mvL F c).map pr)) := by
  have hl := h.lr
  have p1 : P0 F ≤ 1000 := by have := h.p_le; omega
  have e1 : E0 F ≤ 1000 := by have := h.e_le; omega
  have hA := hl.A hc
  have s := tz_le (c := c) p1 e1
  by_cases z : Szs c F
  · have E : cl (tz1 c (P0 F) (E0 F)) (tz2 c (P0 F) (E0 F)) (A c F) = cl (P0 F) (E0 F) (A c F) := by rw [← z.1, ← z.2]
    rw [← z.1, ← z.2] at hA
    rw [E]
    have key := eLc_fl (src := iS (eV 16)) (f := gTp (gCn (gN 19) (gCn (gN 20) gNl))) (t := bAnd (bCmp eqD (eOwn 1 F_size_of (aC (eV 15) aN)) (eOwn 1 F_size_of (aC (eV 14) aN))) (bCmp eqD (eOwn 3 F_shifted (aC (eV 15) (aC (eV 19) (aC (eV 20) aN)))) (eV 14))) (x := eTup (aC (eV 19) (aC (eV 20) aN))) (vs := [19, 20]) (η := tuE x0 x1 x2 x3 x4 x5 x6 x7 x8 x9 x10 x11 x12 x13 (some (cl (P0 F) (E0 F) F)) (some (cl (P0 F) (E0 F) (A c F))) (some (.list (rl (P0 F * E0 F) fun i => pr (i / E0 F, i % E0 F)))) x17 x18 x19 x20 x21 x22) (n := P0 F * E0 F) (g := fun i => pr (i / E0 F, i % E0 F)) (h := fun i => pr (i / E0 F, i % E0 F)) (c := fun i => tb (shf (A c F) (i / E0 F) (i % E0 F) = F)) rfl (big_ok p1 e1) fun i hi => ⟨_, rfl, by
      rw [bAnd_s, (size_ne_at (own1 (a := cl (P0 F) (E0 F) (A c F)) rfl (size_of_cl hA.p0)) (own1 (a := cl (P0 F) (E0 F) F) rfl (size_of_cl hl.p0))).2, tb_t (show P0 F = P0 F ∧ E0 F = E0 F from ⟨rfl, rfl⟩), ret_bind, if_pos rfl, bCmp_s, own3 (a := cl (P0 F) (E0 F) (A c F)) rfl rfl rfl (shifted_P hA (isz p1) (isz e1)), ret_bind, v_at (d := cl (P0 F) (E0 F) F) rfl, ret_bind, eqD_sh sh_cl sh_cl, eqv_P (hA.shf _ _) hl]
      rfl, fun _ => pair_at rfl rfl⟩
    rw [key]
    unfold mvL
    rw [tb_t z, if_pos rfl, List.map_map]
    rfl
  · have key := eLc_fl (src := iS (eV 16)) (f := gTp (gCn (gN 19) (gCn (gN 20) gNl))) (t := bAnd (bCmp eqD (eOwn 1 F_size_of (aC (eV 15) aN)) (eOwn 1 F_size_of (aC (eV 14) aN))) (bCmp eqD (eOwn 3 F_shifted (aC (eV 15) (aC (eV 19) (aC (eV 20) aN)))) (eV 14))) (x := eTup (aC (eV 19) (aC (eV 20) aN))) (vs := [19, 20]) (η := tuE x0 x1 x2 x3 x4 x5 x6 x7 x8 x9 x10 x11 x12 x13 (some (cl (P0 F) (E0 F) F)) (some (cl (tz1 c (P0 F) (E0 F)) (tz2 c (P0 F) (E0 F)) (A c F))) (some (.list (rl (P0 F * E0 F) fun i => pr (i / E0 F, i % E0 F)))) x17 x18 x19 x20 x21 x22) (n := P0 F * E0 F) (g := fun i => pr (i / E0 F, i % E0 F)) (h := fun i => pr (i / E0 F, i % E0 F)) (c := fun i => false) rfl (big_ok p1 e1) fun i hi => ⟨_, rfl, by
      rw [bAnd_s, (size_ne_at (own1 (a := cl (tz1 c (P0 F) (E0 F)) (tz2 c (P0 F) (E0 F)) (A c F)) rfl (size_of_cl hA.p0)) (own1 (a := cl (P0 F) (E0 F) F) rfl (size_of_cl hl.p0))).2, tb_f (show ¬ (P0 F = tz1 c (P0 F) (E0 F) ∧ E0 F = tz2 c (P0 F) (E0 F)) from z)]
      rfl, fun q => by cases q⟩
    rw [key]
    unfold mvL
    rw [tb_f z, if_neg Bool.false_ne_true, List.filter_eq_nil_iff.mpr fun _ _ => Bool.false_ne_true]
    rfl
theorem mvB_P (h : Pd p e F) (hp : p ≤ 60) (he : e ≤ 60) {w t : Nat} (hw : w < 8) (ht : t < 2) {x0 x2 x3 x4 x5 x6 x8 x9 x12 x13 x15 x16 x17 x18 x19 x20 x21 x22 : Option D} : ∃ y15 y16 y18, mvB (tuE x0 (some (cl p e F)) x2 x3 x4 x5 x6 (some (.list ((symL F 16).map sy))) x8 x9 (some (wd w)) (some (.int t)) x12 x13 (some (cl (P0 F) (E0 F) F)) x15 x16 x17 x18 x19 x20 x21 x22) = M.ret (.nx (tuE x0 (some (cl p e F)) x2 x3 x4 x5 x6 (some (.list ((symL F 16).map sy))) x8 x9 (some (wd w)) (some (.int t)) x12 x13 (some (cl (P0 F) (E0 F) F)) y15 y16 x17 y18 x19 x20 x21 x22)) := by
  have hl := h.lr
  have p0 := h.p_le
  have e0 := h.e_le
  have p1 : P0 F ≤ 1000 := by omega
  have e1 : E0 F ≤ 1000 := by omega
  have bs : Sm (P0 F * E0 F) := by
    have := Nat.mul_le_mul (show P0 F ≤ 60 by omega) (show E0 F ≤ 60 by omega)
    unfold Sm
    omega
  have c16 : 2 * w + t < 16 := by omega
  refine ⟨some (cl (tz1 (2 * w + t) (P0 F) (E0 F)) (tz2 (2 * w + t) (P0 F) (E0 F)) (A (2 * w + t) F)), some (.list (rl (P0 F * E0 F) fun i => pr (i / E0 F, i % E0 F))), some (.list ((mvL F (2 * w + t)).map pr)), seq_ret (fset_ret (own2 (b := wd w) (face1_P (p := P0 F) (e := E0 F) (F := F) p1 e1 ht rfl rfl) rfl (face_turned hl p1 e1 ht hw))) (seq_ret (fset_ret (codes_at (e := E0 F) (n := P0 F * E0 F) bs hl.e0 e1 (by show 17 < 23; decide) ?_ fun i => len0 (p := P0 F) (f := F) rfl hl.p0)) (seq_ret (fset_ret (mvD_at h hp he c16)) (if_f (or_f (ne_f (own3 (a := cl p e F) (b := wd w) (c := .int t) rfl rfl rfl (moves_for_P h (by omega) (by omega) hw ht)) rfl sh_prs rfl) (ne_f (d := .bool (decide (2 * w + t ∈ symL F 16))) (d' := .bool (decide (2 * w + t ∈ symL F 16))) ?_ ?_ .bool rfl)))))⟩
  · rw [mul_i ⟨by omega, by omega⟩ (len_at (n := P0 F) (g := fun i => row (E0 F) (F i)) rfl) (len0 (p := P0 F) (f := F) rfl hl.p0), Int.natCast_mul]
  · rw [e2_s, pair_at (a := wd w) (b := .int t) rfl rfl, ret_bind, v_at (d := .list ((symL F 16).map sy)) rfl, ret_bind]
    have : PyData.tuple [wd w, .int (t : Int)] = sy (2 * w + t) := by
      unfold sy
      rw [show (2 * w + t) / 2 = w by omega, show (2 * w + t) % 2 = t by omega]
    rw [this, inAD_sys c16 (symL_lt (Nat.le_refl _))]
    rfl
  · rw [e2_s, lenl_at (L := (mvL F (2 * w + t)).map pr) rfl, ret_bind, eC_s, ret_bind, gtA_i, List.length_map]
    refine congrArg (fun b : Bool => M.ret (PyData.bool b)) (decide_eq_decide.mpr ?_)
    rw [mem_symL, ← mvL_some h c16]
    exact ⟨fun z => ⟨c16, by omega⟩, fun z => by have := z.2; omega⟩
theorem mvs_P (h : Pd p e F) (hp : p ≤ 60) (he : e ≤ 60) {x0 x3 x4 x5 x6 x8 x9 x10 x11 x12 x13 x15 x16 x17 x18 x19 x20 x21 x22 : Option D} : ∃ y10 y11 y15 y16 y18, fFor [] (iS (eV 2)) (gN 10) (fFor [] (iRg rangeD1 (aC (eC (.int 2)) aN)) (gN 11) mvB) (tuE x0 (some (cl p e F)) (some (.list (rl 8 fun i => wd i.toNat))) x3 x4 x5 x6 (some (.list ((symL F 16).map sy))) x8 x9 x10 x11 x12 x13 (some (cl (P0 F) (E0 F) F)) x15 x16 x17 x18 x19 x20 x21 x22) = M.ret (.nx (tuE x0 (some (cl p e F)) (some (.list (rl 8 fun i => wd i.toNat))) x3 x4 x5 x6 (some (.list ((symL F 16).map sy))) x8 x9 y10 y11 x12 x13 (some (cl (P0 F) (E0 F) F)) y15 y16 x17 y18 x19 x20 x21 x22)) := by
  obtain ⟨η', h1, y10, y11, y15, y16, y18, rfl⟩ := for_inv (O := []) (src := iS (eV 2)) (gv := gN 10) (f := fFor [] (iRg rangeD1 (aC (eC (.int 2)) aN)) (gN 11) mvB) (n := 8) (g := fun i => wd i.toNat) (η := tuE x0 (some (cl p e F)) (some (.list (rl 8 fun i => wd i.toNat))) x3 x4 x5 x6 (some (.list ((symL F 16).map sy))) x8 x9 x10 x11 x12 x13 (some (cl (P0 F) (E0 F) F)) x15 x16 x17 x18 x19 x20 x21 x22) (fun _ η => ∃ y10 y11 y15 y16 y18, η = tuE x0 (some (cl p e F)) (some (.list (rl 8 fun i => wd i.toNat))) x3 x4 x5 x6 (some (.list ((symL F 16).map sy))) x8 x9 y10 y11 x12 x13 (some (cl (P0 F) (E0 F) F)) y15 y16 x17 y18 x19 x20 x21 x22) rfl (by
    rintro w η hw ⟨y10, y11, y15, y16, y18, rfl⟩
    obtain ⟨η2, h2, z11, z15, z16, z18, rfl⟩ := for_inv (O := []) (src := iRg rangeD1 (aC (eC (.int 2)) aN)) (gv := gN 11) (f := mvB) (n := 2) (g := fun i => .int i) (η := tuE x0 (some (cl p e F)) (some (.list (rl 8 fun i => wd i.toNat))) x3 x4 x5 x6 (some (.list ((symL F 16).map sy))) x8 x9 (some (wd w)) y11 x12 x13 (some (cl (P0 F) (E0 F) F)) y15 y16 x17 y18 x19 x20 x21 x22) (fun _ η => ∃ y11 y15 y16 y18, η = tuE x0 (some (cl p e F)) (some (.list (rl 8 fun i => wd i.toNat))) x3 x4 x5 x6 (some (.list ((symL F 16).map sy))) x8 x9 (some (wd w)) y11 x12 x13 (some (cl (P0 F) (E0 F) F)) y15 y16 x17 y18 x19 x20 x21 x22) (rg1_at (n := 2) rfl (by unfold Sm; omega)) (by
      rintro t η ht ⟨y11, y15, y16, y18, rfl⟩
      obtain ⟨z15, z16, z18, hz⟩ := mvB_P h hp he hw ht (x0 := x0) (x2 := some (.list (rl 8 fun i => wd i.toNat))) (x3 := x3) (x4 := x4) (x5 := x5) (x6 := x6) (x8 := x8) (x9 := x9) (x12 := x12) (x13 := x13) (x15 := y15) (x16 := y16) (x17 := x17) (x18 := y18) (x19 := x19) (x20 := x20) (x21 := x21) (x22 := x22)
      exact ⟨_, _, rfl, hz, _, _, _, _, rfl⟩) ⟨y11, y15, y16, y18, rfl⟩
    exact ⟨_, _, rfl, h2, _, _, _, _, _, rfl⟩) ⟨x10, x11, x15, x16, x18, rfl⟩
  exact ⟨y10, y11, y15, y16, y18, h1⟩
theorem swap_at {L : List Nat} (hL : L.length ≤ 16) {x0 x1 x2 x3 x4 x5 x6 x8 x9 x10 x11 x12 x13 x14 x15 x16 x17 x18 x19 x20 x21 x22 : Option D} : eCl anyCD (aC (eLc (iS (eV 7)) (gN 21) bYes (e2 inAD (e2 ixD (eV 21) (eC (.int 0))) (eLst (aC (eC (.str "swap")) (aC (eC (.str "quarter")) (aC (eC (.str "back")) (aC (eC (.str "cross")) aN)))))) [21]) aN) (tuE x0 x1 x2 x3 x4 x5 x6 (some (.list (L.map sy))) x8 x9 x10 x11 x12 x13 x14 x15 x16 x17 x18 x19 x20 x21 x22) = M.ret (.bool (L.any fun c => lst4 (sy c))) :=
  any_list (L := L) (g := sy) (c := fun c => lst4 (sy c)) rfl (by rw [sizeLine_eq]; omega) fun c _ => ⟨_, rfl, by
    rw [e2_s, fst_at (a := wd (c / 2)) (b := .int (c % 2 : Nat)) rfl, ret_bind, words4_l, ret_bind, in4_lst]
    rfl⟩
theorem turn_law (h : Pd p e F) (hp : p ≤ 18) (he : e ≤ 18) : Yld (F__law_turned [stTok, cl p e F]) (· = .bool true) := by
  have sp : Sm p := by unfold Sm; omega
  have se : Sm e := by unfold Sm; omega
  have p3 : p ≤ 1000 := by omega
  have e3 : e ≤ 1000 := by omega
  have hl := h.lr
  unfold F__law_turned B__law_turned
  refine runF_y rfl (set_p (own0 words_P) ?_)
  refine set_y (word_y rfl rfl) fun d1 ⟨a, z1, ha⟩ => ?_
  subst z1
  refine set_y (word_y rfl rfl) fun d2 ⟨b, z2, hb⟩ => ?_
  subst z2
  refine set_y (word_y rfl rfl) fun d3 ⟨c, z3, hc⟩ => ?_
  subst z3
  refine set_p (own2 (a := wd a) (b := wd b) rfl rfl (followed_P ha hb)) ?_
  refine if_y (f_y (or_f (ne_f (own2 (b := wd b) (own2 (a := cl p e F) (b := wd a) rfl rfl (turned_P h sp se ha)) rfl (turned_turned h p3 e3 ha hb)) (own2 (a := cl p e F) (b := wd (fo a b)) rfl rfl (turned_P h sp se fo_lt)) sh_cl rfl) (or_f (ne_f (own2 (a := wd (fo a b)) (b := wd c) rfl rfl (followed_P fo_lt hc)) (own2 (a := wd a) rfl (own2 (a := wd b) (b := wd c) rfl rfl (followed_P hb hc)) (followed_P ha fo_lt)) (sh_wd _) (congrArg wd (fo_assoc a ha b hb c hc))) (ne_f (own2 (a := wd 0) (b := wd a) rfl rfl (followed_P (by decide) ha)) rfl (sh_wd _) (congrArg wd (fo_same a ha)))))) ?_
  have h8 : Pd e p (A 8 F) := h.A (c := 8) (by decide)
  refine if_y (f_y (or_f (ne_f (own2 (a := cl p e F) (b := wd 4) rfl rfl (turned_P h sp se (by decide))) (own1 (a := cl p e F) rfl (exchanged_A h sp se)) sh_cl rfl) (or_f (ne_f (own2 (a := cl p e F) (b := wd 1) rfl rfl (turned_P h sp se (by decide))) (own1 (a := cl p e F) rfl (flipped_A h sp)) sh_cl rfl) (or_f (ne_f (own2 (a := cl p e F) (b := wd 2) rfl rfl (turned_P h sp se (by decide))) (own1 (a := cl p e F) rfl (upside_A h)) sh_cl rfl) (ne_f (own2 (a := cl p e F) (b := wd 5) rfl rfl (turned_P h sp se (by decide))) (own1 (own1 (a := cl p e F) rfl (exchanged_A h sp se)) (flipped_A h8 se)) sh_cl (by rw [A_A]; rfl)))))) ?_
  refine set_p (own1 (a := cl p e F) rfl (symmetries_P h p3 e3)) ?_
  refine set_y (draw_y (by decide) (by decide) rfl) fun d4 ⟨tz, z4, t0, t1⟩ => ?_
  subst z4
  obtain ⟨t, rfl⟩ := Int.eq_ofNat_of_zero_le t0
  have ht : t < 2 := by omega
  have c16 : 2 * a + t < 16 := by omega
  have hA := h.A c16
  have s := tz_le (c := 2 * a + t) p3 e3
  refine set_y (R := fun d => ∃ x y : Int, d = cl (tz1 (2 * a + t) p e) (tz2 (2 * a + t) p e) (shf (A (2 * a + t) F) x y)) (own3yy (own2 (b := wd a) (face1_P (p := p) (e := e) (F := F) p3 e3 ht rfl rfl) rfl (face_turned h p3 e3 ht ha)) (draw_y (by decide) (by decide) rfl) (draw_y (by decide) (by decide) rfl) fun b c ⟨i, e1, _⟩ ⟨j, e2, _⟩ => ?_) fun d5 ⟨x, y, z5⟩ => ?_
  · subst e1 e2
    rw [shifted_P hA (isz s.1) (isz s.2)]
    exact .ret ⟨i, j, rfl⟩
  subst z5
  have hM := hA.shf x y
  have mv : Mv (A (2 * a + t) F) (shf (A (2 * a + t) F) x y) := ⟨x, y, rfl⟩
  have sl : (symL (shf (A (2 * a + t) F) x y) 16).length = (symL F 16).length := by rw [sym_mv mv, sym_A c16]
  have sp0 : 0 < (symL F 16).length := List.length_pos_of_mem (sym_pos F)
  have lt16 := symL_lt (F := F) (Nat.le_refl 16)
  refine if_y (f_y (or_f (ne_f (own1 (a := cl p e F) rfl (count_P h p3 e3)) (lenl_at (L := (symL F 16).map sy) rfl) .int (by rw [List.length_map])) (or_f (ne_f (imod_at (i := 16) (n := ((symL F 16).map sy).length) (by rw [List.length_map]; exact sp0) rfl (lenl_at rfl)) rfl .int (by rw [List.length_map]; exact congrArg PyData.int (congrArg Int.ofNat (sym_16 F)))) (or_f (nin_sys (c := 0) (by decide) lt16 (pair_at (a := wd 0) (b := .int 0) rfl rfl) rfl (sym_pos F)) (ne_f (own1 (a := cl (tz1 (2 * a + t) p e) (tz2 (2 * a + t) p e) (shf (A (2 * a + t) F) x y)) rfl (count_P hM s.1 s.2)) (lenl_at (L := (symL F 16).map sy) rfl) .int (by rw [List.length_map, sl])))))) ?_
  have ff : FF (shf (A (2 * a + t) F) x y) = FF F := by rw [← FF_mv mv, FF_A c16]
  refine if_y (f_y (or_f (ne_f (own1 (a := cl (tz1 (2 * a + t) p e) (tz2 (2 * a + t) p e) (shf (A (2 * a + t) F) x y)) rfl (first_form_P hM s.1 s.2)) (own1 (a := cl p e F) rfl (first_form_P h p3 e3)) (FF_it hM).2 ff) (not_f (own2 (own2 (a := cl p e F) (b := cl (tz1 (2 * a + t) p e) (tz2 (2 * a + t) p e) (shf (A (2 * a + t) F) x y)) rfl rfl (are_one_kind_P h hM p3 e3 s.1 s.2)) rfl (same_tt (by rw [ff]; exact (FF_it h).2.refl)))))) ?_
  obtain ⟨y10, y11, y12, y13, hcl⟩ := closed_P F (x0 := some stTok) (x1 := some (cl p e F)) (x2 := some (.list (rl 8 fun i => wd i.toNat))) (x3 := some (wd a)) (x4 := some (wd b)) (x5 := some (wd c)) (x6 := some (wd (fo a b))) (x8 := some (.int t)) (x9 := some (cl (tz1 (2 * a + t) p e) (tz2 (2 * a + t) p e) (shf (A (2 * a + t) F) x y))) (x10 := none) (x11 := none) (x12 := none) (x13 := none) (x14 := none) (x15 := none) (x16 := none) (x17 := none) (x18 := none) (x19 := none) (x20 := none) (x21 := none) (x22 := none)
  refine seq_y hcl ?_
  refine set_p (own1 (a := cl p e F) rfl (least_P h sp se)) ?_
  obtain ⟨w10, w11, w15, w16, w18, hmv⟩ := mvs_P h (by omega) (by omega) (x0 := some stTok) (x3 := some (wd a)) (x4 := some (wd b)) (x5 := some (wd c)) (x6 := some (wd (fo a b))) (x8 := some (.int t)) (x9 := some (cl (tz1 (2 * a + t) p e) (tz2 (2 * a + t) p e) (shf (A (2 * a + t) F) x y))) (x10 := y10) (x11 := y11) (x12 := y12) (x13 := y13) (x15 := none) (x16 := none) (x17 := none) (x18 := none) (x19 := none) (x20 := none) (x21 := none) (x22 := none)
  refine seq_y hmv ?_
  have l16 : (symL F 16).length ≤ 16 := symL_len
  refine if_y (f_y (or_f (not_f (own2 (own1 (a := cl p e F) rfl (swappable_P h p3 e3)) (swap_at l16) (same_self _))) (not_f (own2 (own1 (a := cl p e F) rfl (alike_behind_P h p3 e3)) (b := .bool (decide (3 ∈ symL F 16))) ?_ (same_self _))))) ?_
  · rw [e2_s, pair_at (a := wd 1) (b := .int 1) rfl rfl, ret_bind, v_at (d := .list ((symL F 16).map sy)) rfl, ret_bind]
    show M.lift (inAD (sy 3) _) = _
    rw [inAD_sys (by decide) lt16]
    rfl
  refine set_y (own3y (a := stTok) rfl (len_at (n := p) (g := fun i => row e (F i)) rfl) (len0 (p := p) (f := F) rfl h.p0) (cloth_y sp se)) fun d6 ⟨f, _, z6⟩ => ?_
  have hG : Pd p e (wrp p e f) := wrp_pd h.p0 h.e0
  rw [wrp_cl] at z6
  subst z6
  obtain ⟨p', e', K, k1, k2, k3, k4, k5⟩ := FF_cl h p3 e3
  refine ret_y (d := .bool true) ?_ rfl
  rw [eAnd_s, own2 (own2 (a := cl p e F) (b := cl p e (wrp p e f)) rfl rfl (are_one_kind_P h hG p3 e3 p3 e3)) (b := .bool (PyData.eqv (FF F) (FF (wrp p e f)))) ?_ (same_self _), ret_bind]
  · show M.bind (M.ret true) _ = _
    rw [ret_bind, if_pos rfl, e2_s, own1 (own1 (a := cl p e F) rfl ((first_form_P h p3 e3).trans (congrArg M.ret k1))) (first_form_P k2 k3 k4), ret_bind, own1 (a := cl p e F) rfl (first_form_P h p3 e3), ret_bind, k5, eqD_same (FF_it h).2]
    rfl
  · rw [e2_s, own1 (a := cl p e F) rfl (first_form_P h p3 e3), ret_bind, own1 (a := cl p e (wrp p e f)) rfl (first_form_P hG p3 e3), ret_bind, eqD_sh (FF_it h).2 (FF_it hG).2]
    rfl
end
end W3

set_option Elab.async false
set_option linter.all false
set_option maxRecDepth 100000
set_option maxHeartbeats 8000000
/-! Pk05p: the law. -/
namespace W3
open PySem PySem.Spec L2
section
variable {p e : Nat} {F G : Z2} {h : Int → Int}
/-- rows that come again -/
theorem step_pd {n : Nat} {k : Int} (hw : Wp e h) (e0 : 0 < e) (n0 : 0 < n) (hn : (fun j => h (j - k * n)) = h) : Pd n e fun i j => h (j - k * i) := by
  refine ⟨n0, e0, .of fun i j => ?_, .of fun i j => ?_⟩
  · show h (j - 0 - k * (i - n)) = h (j - k * i)
    have this : h (j - 0 - k * (i - n) - k * n) = h (j - 0 - k * (i - n)) := congrFun hn (j - 0 - k * (i - n))
    rw [← this, Int.mul_sub, show j - 0 - (k * i - k * n) - k * n = j - k * i by omega]
  · show h (j - e - k * (i - 0)) = h (j - k * i)
    rw [Int.sub_zero, ← hw (j - e - k * i), show j - (e : Int) - k * i = j - k * i - e by omega, Int.sub_emod_right, hw]
theorem stp_iff {k s : Int} : Stp (fun i j => h (j - k * i)) s ↔ ∀ x, h (x + k - s) = h x := by
  constructor
  · intro hs x
    have : h (x - s - k * (0 - 1)) = h (x - k * 0) := hs.at 0 x
    rw [Int.mul_zero, Int.sub_zero, show x - s - k * (0 - 1) = x + k - s by rw [Int.mul_sub, Int.mul_zero, Int.mul_one]; omega] at this
    exact this
  · intro hs
    refine .of fun i j => ?_
    show h (j - s - k * (i - 1)) = h (j - k * i)
    rw [← hs (j - k * i), show j - s - k * (i - 1) = j - k * i + k - s by rw [Int.mul_sub, Int.mul_one]; omega]
theorem step_same {k s : Int} (hs : ∀ x, h (x + k - s) = h x) : ∀ (i : Nat) (x : Int), h (x - s * i) = h (x - k * i)
  | 0, x => by rw [Int.natCast_zero, Int.mul_zero, Int.mul_zero]
  | i + 1, x => by
    have h1 := step_same hs i (x - s)
    have h2 := hs (x - k * ((i + 1 : Nat) : Int))
    rw [show x - s * ((i + 1 : Nat) : Int) = x - s - s * i by rw [Int.natCast_add, Int.mul_add]; omega, h1, ← h2]
    congr 1
    rw [Int.natCast_add, Int.mul_add]
    omega
theorem first_range {n k : Nat} {c : Nat → Bool} (hk : k < n) (h1 : c k = true) (h2 : ∀ m, m < k → c m = false) : ∃ r, (List.range n).filter c = k :: r := by
  have e1 : List.range n = List.range k ++ (List.range (n - k)).map (k + ·) := by
    rw [← List.range_add, show k + (n - k) = n by omega]
  have e2 : List.range (n - k) = 0 :: (List.range (n - k - 1)).map Nat.succ := by
    rw [show n - k = n - k - 1 + 1 by omega, List.range_succ_eq_map]
    rfl
  rw [e1, List.filter_append, List.filter_eq_nil_iff.mpr fun m hm => by rw [h2 m (List.mem_range.mp hm)]; exact Bool.false_ne_true, e2, List.map_cons, List.filter_cons_of_pos (by exact h1)]
  exact ⟨_, rfl⟩
theorem due2_at (hF : Pd p e F) (hp : Sm p) (he : Sm e) {x0 x1 x4 x5 x6 x7 x8 x9 x10 x11 : Option D} : eLc (iRg rangeD1 (aC (eCl lenD (aC (eV 3) aN)) aN)) (gN 8) (bNot (bT (eCl anyCD (aC (eLc (iRg rangeD1 (aC (eCl lenD (aC (eV 2) aN)) aN)) (gN 11) bYes (e2 neD (eOwn 2 F_moved_row (aC (e2 ixD (eV 2) (e2 subD (eV 11) (eC (.int 1)))) (aC (eV 8) aN))) (e2 ixD (eV 2) (eV 11))) [11]) aN)))) (eV 8) [8] [x0, x1, some (cl p e F), some (row e (F 0)), x4, x5, x6, x7, x8, x9, x10, x11] = M.ret (.list (((List.range e).filter fun k : Nat => tb (Stp F k)).map fun k : Nat => .int k)) := by
  refine eLc_fl (n := e) (g := fun i => .int i) (h := fun i => .int i) (c := fun k => tb (Stp F k)) (rg1_at (len_at (n := e) (g := fun j => .int (F 0 j)) rfl) he) he.sz fun k hk => ⟨_, rfl, ?_, fun _ => rfl⟩
  show (bNot (bT (eCl anyCD (aC (eLc (iRg rangeD1 (aC (eCl lenD (aC (eV 2) aN)) aN)) (gN 11) bYes (e2 neD (eOwn 2 F_moved_row (aC (e2 ixD (eV 2) (e2 subD (eV 11) (eC (.int 1)))) (aC (eV 8) aN))) (e2 ixD (eV 2) (eV 11))) [11]) aN)))) [x0, x1, some (cl p e F), some (row e (F 0)), x4, x5, x6, x7, some (.int k), x9, x10, x11] = _
  have ha := any_list (src := iRg rangeD1 (aC (eCl lenD (aC (eV 2) aN)) aN)) (f := gN 11) (x := e2 neD (eOwn 2 F_moved_row (aC (e2 ixD (eV 2) (e2 subD (eV 11) (eC (.int 1)))) (aC (eV 8) aN))) (e2 ixD (eV 2) (eV 11))) (vs := [11]) (η := [x0, x1, some (cl p e F), some (row e (F 0)), x4, x5, x6, x7, some (.int k), x9, x10, x11]) (L := List.range p) (g := fun i : Nat => .int i) (c := fun i : Nat => !tb ((fun j => F ((i : Int) - 1) (j - k)) = F i)) (rg1_at (len_at (n := p) (g := fun i => row e (F i)) rfl) hp) (by rw [List.length_range]; exact hp.sz) fun i hi => ⟨_, rfl, by
    have hi := List.mem_range.mp hi
    rw [e2_s, own2 (a := row e (F ((i : Int) - 1))) (b := .int k) (before_at (p := p) (e := e) (F := F) hF rfl hi rfl) rfl (moved_row_P (hF.wp _) hF.e0 he), ret_bind, ix_at (n := p) (g := fun i => row e (F i)) (k := i) rfl rfl (by omega) (by omega), ret_bind, neD_sh sh_row sh_row, row_eqv ((hF.wp _).back k) (hF.wp _) hF.e0]
    rfl⟩
  rw [bNot_s, bT_s, ha, ret_bind]
  show M.ret (!((List.range p).any fun i : Nat => !tb ((fun j => F ((i : Int) - 1) (j - k)) = F i))) = _
  refine congrArg M.ret ?_
  by_cases c : Stp F k
  · rw [tb_t c, Bool.not_eq_true', List.any_eq_false]
    intro i hi
    rw [tb_t ((Stp.iff hF).mp c i (List.mem_range.mp hi))]
    exact Bool.false_ne_true
  · rw [tb_f c, Bool.not_eq_false', List.any_eq_true]
    have : ¬ ∀ i : Nat, i < p → (fun j => F ((i : Int) - 1) (j - k)) = F i := fun z => c ((Stp.iff hF).mpr z)
    obtain ⟨i, hi⟩ := Classical.not_forall.mp this
    obtain ⟨hi, z⟩ := Classical.not_imp.mp hi
    exact ⟨i, List.mem_range.mpr hi, by rw [tb_f z]; rfl⟩
theorem last_step (hF : Pd p e F) (hp : Sm p) (he : Sm e) {x0 x1 x4 x5 x6 x7 x8 x11 : Option D} : ∃ d, F_step_of [cl p e F] = M.ret d ∧ e2 eqD (eV 9) (eIf (bCmp gtA (eCl lenD (aC (eV 10) aN)) (eC (.int 0))) (e2 ixD (eV 10) (eC (.int 0))) (eC .none)) [x0, x1, some (cl p e F), some (row e (F 0)), x4, x5, x6, x7, x8, some d, some (.list (((List.range e).filter fun k : Nat => tb (Stp F k)).map fun k : Nat => .int k)), x11] = M.ret (.bool true) := by
  obtain ⟨s1, s2⟩ := step_of_P hF hp he
  by_cases ex : ∃ k : Nat, k < e ∧ Stp F k
  · obtain ⟨k, ⟨hk, hs⟩, hm⟩ := ex_least ex
    have hm' : ∀ m : Nat, m < k → ¬ Stp F m := fun m q z => hm m q ⟨by omega, z⟩
    obtain ⟨r, hr⟩ := first_range (c := fun k : Nat => tb (Stp F k)) hk (tb_t hs) fun m q => tb_f (hm' m q)
    refine ⟨_, s2 k hk hs hm', ?_⟩
    rw [hr, e2_s, v_at (d := .int k) rfl, ret_bind, eIf_s, bCmp_s, lenl_at (L := (k :: r).map fun k : Nat => .int k) rfl, ret_bind, eC_s, ret_bind, gtA_i, decide_eq_true (by rw [List.length_map, List.length_cons]; omega)]
    show M.bind (M.bind (M.ret true) _) _ = _
    rw [ret_bind, if_pos rfl]
    show M.bind (M.lift (ixD (.list ((k :: r).map fun k : Nat => .int k)) (.int 0))) _ = _
    have : ixD (.list ((k :: r).map fun k : Nat => .int k)) (.int 0) = some (.int k) := by
      show atI _ _ = _
      unfold atI ixN
      rw [if_pos (by omega), if_pos (by rw [List.length_map, List.length_cons]; omega)]
      rfl
    rw [this]
    show M.lift (eqD (.int k) (.int k)) = _
    rw [eqD_i, beq_self_eq_true]
    rfl
  · have hn : ∀ k : Nat, k < e → ¬ Stp F k := fun k hk z => ex ⟨k, hk, z⟩
    refine ⟨_, s1 hn, ?_⟩
    rw [List.filter_eq_nil_iff.mpr fun k hk => by rw [tb_f (hn k (List.mem_range.mp hk))]; exact Bool.false_ne_true]
    show M.lift (eqD .none .none) = _
    rw [eqD_same .none]
    rfl
theorem neg1_at {k n : Nat} {g : Int → D} {η : Env} (hn : 0 < n) (h : η[k]? = some (some (tup n g))) : e2 ixD (eV k) (e1 negD (eC (.int 1))) η = M.ret (g (-1 + n)) := by
  rw [e2_s, v_at h, ret_bind]
  show M.lift (ixD (tup n g) (.int (-1))) = _
  rw [ixD_neg (by omega) (by omega)]
  rfl
end
theorem law_law : Yld (B_law (none :: some stTok :: List.replicate 10 none)) fun fl => ∃ d η', fl = .rt d η' ∧ d = .bool true := by
  unfold B_law
  refine set_y (R := fun d => ∃ p e : Nat, ∃ F, Pd p e F ∧ p ≤ 6 ∧ e ≤ 6 ∧ d = cl p e F) (own3yy (a := stTok) rfl (draw_add (by decide) (by decide) rfl) (draw_add (by decide) (by decide) rfl) fun b c ⟨i, e1, i1, i2⟩ ⟨j, e2, j1, j2⟩ => ?_) fun d1 ⟨p, e, F0, h0, hp, he, z1⟩ => ?_
  · subst e1 e2
    obtain ⟨i, rfl⟩ := Int.eq_ofNat_of_zero_le (show 0 ≤ i by omega)
    obtain ⟨j, rfl⟩ := Int.eq_ofNat_of_zero_le (show 0 ≤ j by omega)
    exact (cloth_y (p := i) (e := j) (by unfold Sm; omega) (by unfold Sm; omega)).imp fun d ⟨f, _, hd⟩ => ⟨i, j, _, wrp_pd (f := f) (by omega) (by omega), by omega, by omega, hd.trans wrp_cl⟩
  subst z1
  have sp : Sm p := by unfold Sm; omega
  have se : Sm e := by unfold Sm; omega
  refine set_y (R := fun d => ∃ F, Pd p e F ∧ d = cl p e F) ?_ fun d2 ⟨F, hF, z2⟩ => ?_
  · rw [eIf_s, bCmp_s]
    simp only [bind_assoc_s]
    refine (draw_y (by decide) (by decide) rfl).bind fun d ⟨k, e1, _, _⟩ => ?_
    subst e1
    rw [eC_s, ret_bind, eqD_i]
    show Yld (M.bind (M.ret (k == 0)) _) _
    rw [ret_bind]
    by_cases z : (k == 0) = true
    · rw [if_pos z]
      refine own3yy (a := row e (F0 0)) (ix_at (n := p) (g := fun i => row e (F0 i)) (k := 0) rfl rfl (by omega) (by have := h0.p0; omega)) (draw_y (by decide) (by decide) rfl) (R := fun d => ∃ F, Pd p e F ∧ d = cl p e F) (Q := fun d => d = .int p) (by rw [len_at (n := p) (g := fun i => row e (F0 i)) rfl]; exact .ret rfl) fun b c ⟨q, e1, q0, q1⟩ e2 => ?_
      subst e1 e2
      rw [from_step_P (h0.wp 0) h0.e0 se ⟨q0, by omega⟩ sp]
      exact .ret ⟨_, wrp_pd h0.p0 h0.e0, wrp_cl⟩
    · rw [if_neg z]
      exact .ret ⟨F0, h0, rfl⟩
  subst z2
  refine if_y (or_y (not_y (own2y rfl rfl (rep_law hF (by omega) (by omega)))) (not_y (own2y rfl rfl (turn_law hF (by omega) (by omega))))) ?_
  have p0 := hF.p0
  have e0 := hF.e0
  refine set_p (ix_at (n := p) (g := fun i => row e (F i)) (k := 0) rfl rfl (by omega) (by omega)) ?_
  refine set_y (draw_y (by decide) (by decide) rfl) fun d3 ⟨k, z3, k0, k1⟩ => ?_
  subst z3
  have hw := hF.wp 0
  have hk : 0 ≤ k ∧ k ≤ 100000 := ⟨k0, by omega⟩
  obtain ⟨n, c1, c2, c3, c4, c5⟩ := closing_P hw e0 se hk
  have sn : Sm n := by unfold Sm; omega
  have hC := step_pd hw e0 (show 0 < n by omega) c4
  refine set_p (own2 (a := row e (F 0)) (b := .int k) rfl rfl c1) ?_
  refine set_p (own3 (a := row e (F 0)) (b := .int k) (c := .int n) rfl rfl rfl (from_step_P hw e0 se hk sn)) ?_
  have md := mod_lt (k := k) e0
  obtain ⟨r, hr⟩ := Int.eq_ofNat_of_zero_le md.1
  have hr2 : Stp (fun i j => F 0 (j - k * i)) r := stp_iff.mpr fun x => by
    rw [← hw (x + k - r), ← hr, Int.sub_emod_emod, show x + k - k = x by omega, hw]
  obtain ⟨s, ⟨hs1, hs2⟩, hs3⟩ := ex_least (P := fun s : Nat => s < e ∧ Stp (fun i j => F 0 (j - k * i)) s) ⟨r, by omega, hr2⟩
  have sr : s ≤ r := Nat.le_of_not_lt fun z => hs3 r z ⟨by omega, hr2⟩
  have hstep := (step_of_P hC sn se).2 s hs1 hs2 fun m q z => hs3 m q ⟨by omega, z⟩
  refine set_p (own1 (a := cl n e fun i j => F 0 (j - k * i)) rfl hstep) ?_
  have hx := stp_iff.mp hs2
  refine if_y (f_y (or_f (ne_f (len_at (n := n) (g := fun i => row e ((fun i j => F 0 (j - k * i)) i)) rfl) rfl .int rfl) (or_f (ne_f (own2 (a := row e fun j => F 0 (j - k * (-1 + n))) (b := .int k) (neg1_at (n := n) (g := fun i => row e ((fun i j => F 0 (j - k * i)) i)) (by omega) rfl) rfl (moved_row_P (hC.wp (-1 + n)) e0 se)) rfl sh_row (row_congr fun j _ _ => ?_)) (or_f (no_t ?_) (or_f rfl (ne_f (own3 (a := row e (F 0)) (b := .int s) (c := .int n) rfl rfl rfl (from_step_P hw e0 se ⟨by omega, by omega⟩ sn)) rfl sh_cl (cl_congr rfl rfl fun i j i0 i1 _ _ => ?_))))))) ?_
  · show F 0 (j - k - k * (-1 + n)) = F 0 j
    have this : F 0 (j - k * n) = F 0 j := congrFun c4 j
    rw [← this, show j - k - k * (-1 + n) = j - k * n by rw [Int.mul_add, Int.mul_neg, Int.mul_one]; omega]
  · rw [any_list (L := List.range (n - 1)) (g := fun i : Nat => .int (1 + i)) (c := fun _ => false) (rg2_at (lo := 1) (hi := n) (n := n - 1) rfl rfl (by omega) (by unfold Sm; omega) (by omega) (by omega)) (by rw [List.length_range]; have := sn.sz; omega) fun i hi => ⟨_, rfl, ?_⟩, any_no]
    have hi := List.mem_range.mp hi
    have hne := c5 (1 + i) (by omega) (by omega)
    rw [e2_s, own2 (a := row e (F 0)) (b := .int (k * (1 + i))) rfl (mul_i hk rfl rfl) (moved_row_P hw e0 se), ret_bind, v_at (d := row e (F 0)) rfl, ret_bind, eqD_sh sh_row sh_row, row_eqv (hw.back _) hw e0, tb_f]
    · rfl
    · rw [Int.natCast_add] at hne
      exact hne
  · obtain ⟨i, rfl⟩ := Int.eq_ofNat_of_zero_le i0
    exact step_same hx i j
  refine if_y (f_y (or_f (ne_f (own2 (b := .int (0 - k)) (own2 (a := row e (F 0)) (b := .int k) rfl rfl (moved_row_P hw e0 se)) (sub_i (i := 0) (j := k) rfl rfl) (moved_row_P (hw.back k) e0 se)) rfl sh_row (row_congr fun j _ _ => ?_)) ?_)) ?_
  · show F 0 (j - (0 - k) - k) = F 0 j
    rw [show j - (0 - k) - k = j by omega]
  · rw [bCmp_s, v_at (d := .int s) rfl, ret_bind, imod_at (i := k) (n := e) e0 rfl (len_at (n := e) (g := fun j => .int (F 0 j)) rfl), ret_bind, gtA_i, decide_eq_false (by omega)]
    rfl
  obtain ⟨d, hd1, hd2⟩ := last_step hF sp se (x0 := none) (x1 := some stTok) (x4 := some (.int k)) (x5 := some (.int n)) (x6 := some (cl n e fun i j => F 0 (j - k * i))) (x7 := some (.int s)) (x8 := none) (x11 := none)
  refine set_p (own1 (a := cl p e F) rfl hd1) ?_
  refine set_p (due2_at hF sp se) ?_
  exact ret_y hd2 rfl
theorem pure_law : ∀ ns : List Int, ns.length ≤ 63 → ∃ η' s', B_law (none :: some stTok :: List.replicate 10 none) ⟨0, 0, 1, ns⟩ = .ok (.rt (.bool true) η') s' := fun ns _ => by
  obtain ⟨fl, s', e, _, d, η', e1, e2⟩ := law_law ⟨0, 0, 1, ns⟩ (Int.le_refl _)
  subst e1 e2
  exact ⟨η', s', e⟩
end W3

set_option Elab.async false
set_option linter.all false
set_option maxRecDepth 100000
set_option maxHeartbeats 4000000
namespace W3
open PySem PySem.Spec L2
/-- what the top tells -/
structure Lk (K : PySem.W.Frag) : Prop where
  f_common_divisor : FunK K "common_divisor" s_common_divisor
  f_common_multiple : FunK K "common_multiple" s_common_multiple
  f_size_of : FunK K "size_of" s_size_of
  f_other_face : FunK K "other_face" s_other_face
  f_exchanged : FunK K "exchanged" s_exchanged
  f_flipped : FunK K "flipped" s_flipped
  f_upside_down : FunK K "upside_down" s_upside_down
  f_half_turned : FunK K "half_turned" s_half_turned
  f_shifted : FunK K "shifted" s_shifted
  f_repeated : FunK K "repeated" s_repeated
  f_is_period : FunK K "is_period" s_is_period
  f_periods_of : FunK K "periods_of" s_periods_of
  f_basis_of : FunK K "basis_of" s_basis_of
  f_area_of : FunK K "area_of" s_area_of
  f_straight_size : FunK K "straight_size" s_straight_size
  f_least_repeat : FunK K "least_repeat" s_least_repeat
  f_are_one : FunK K "are_one" s_are_one
  f_moved_first : FunK K "moved_first" s_moved_first
  f_are_moved : FunK K "are_moved" s_are_moved
  f_move_between : FunK K "move_between" s_move_between
  f_common_size : FunK K "common_size" s_common_size
  f_places_alike : FunK K "places_alike" s_places_alike
  f_counts_of_columns : FunK K "counts_of_columns" s_counts_of_columns
  f_moved_row : FunK K "moved_row" s_moved_row
  f_step_of : FunK K "step_of" s_step_of
  f_from_step : FunK K "from_step" s_from_step
  f_closing_picks : FunK K "closing_picks" s_closing_picks
  f_turned : FunK K "turned" s_turned
  f_followed : FunK K "followed" s_followed
  f_symmetries_of : FunK K "symmetries_of" s_symmetries_of
  f_moves_for : FunK K "moves_for" s_moves_for
  f_first_form : FunK K "first_form" s_first_form
  f_are_one_kind : FunK K "are_one_kind" s_are_one_kind
  f_is_alike_behind : FunK K "is_alike_behind" s_is_alike_behind
  f_is_swappable : FunK K "is_swappable" s_is_swappable
  f_count_symmetries : FunK K "count_symmetries" s_count_symmetries
  f__law_draw : FunK K "_law_draw" s__law_draw
  f__law_cloth : FunK K "_law_cloth" s__law_cloth
  f__law_same : FunK K "_law_same" s__law_same
  f__law_words : FunK K "_law_words" s__law_words
  f__law_repeats : FunK K "_law_repeats" s__law_repeats
  f__law_turned : FunK K "_law_turned" s__law_turned
  f_law : FunK K "law" s_law
  b_abs : PySem.W.nsIn K mainGlobals "abs" = some none
  b_all : PySem.W.nsIn K mainGlobals "all" = some none
  b_any : PySem.W.nsIn K mainGlobals "any" = some none
  b_int : PySem.W.nsIn K mainGlobals "int" = some none
  b_len : PySem.W.nsIn K mainGlobals "len" = some none
  b_list : PySem.W.nsIn K mainGlobals "list" = some none
  b_min : PySem.W.nsIn K mainGlobals "min" = some none
  b_range : PySem.W.nsIn K mainGlobals "range" = some none
  b_sorted : PySem.W.nsIn K mainGlobals "sorted" = some none
  b_tuple : PySem.W.nsIn K mainGlobals "tuple" = some none
  c_WORDS : TupK K "WORDS" ["same", "flip", "upside", "half", "swap", "quarter", "back", "cross"]
  t_step_of : ∃ c P, PySem.W.tabIn K "step_of" = some (c, P) ∧ K.lookup P = none
  t_is_swappable : ∃ c P, PySem.W.tabIn K "is_swappable" = some (c, P) ∧ K.lookup P = none
theorem Lk.fx {K : PySem.W.Frag} {h base : Heap} {mg : Str → Option Value} (L : Lk K) (X : K.In h) (G : h.Ns mainGlobals mg) (T : ∀ x ∈ gexNames, ∀ c P, PySem.W.tabIn K x = some (c, P) → GxR.TabB base mg c P) : Fx K mg base where
  f_common_divisor := L.f_common_divisor.has X G
  f_common_multiple := L.f_common_multiple.has X G
  f_size_of := L.f_size_of.has X G
  f_other_face := L.f_other_face.has X G
  f_exchanged := L.f_exchanged.has X G
  f_flipped := L.f_flipped.has X G
  f_upside_down := L.f_upside_down.has X G
  f_half_turned := L.f_half_turned.has X G
  f_shifted := L.f_shifted.has X G
  f_repeated := L.f_repeated.has X G
  f_is_period := L.f_is_period.has X G
  f_periods_of := L.f_periods_of.has X G
  f_basis_of := L.f_basis_of.has X G
  f_area_of := L.f_area_of.has X G
  f_straight_size := L.f_straight_size.has X G
  f_least_repeat := L.f_least_repeat.has X G
  f_are_one := L.f_are_one.has X G
  f_moved_first := L.f_moved_first.has X G
  f_are_moved := L.f_are_moved.has X G
  f_move_between := L.f_move_between.has X G
  f_common_size := L.f_common_size.has X G
  f_places_alike := L.f_places_alike.has X G
  f_counts_of_columns := L.f_counts_of_columns.has X G
  f_moved_row := L.f_moved_row.has X G
  f_step_of := L.f_step_of.hasG X G (by decide) (let ⟨c, P, e, _⟩ := L.t_step_of; ⟨c, P, e⟩) (T _ (by decide))
  f_from_step := L.f_from_step.has X G
  f_closing_picks := L.f_closing_picks.has X G
  f_turned := L.f_turned.has X G
  f_followed := L.f_followed.has X G
  f_symmetries_of := L.f_symmetries_of.has X G
  f_moves_for := L.f_moves_for.has X G
  f_first_form := L.f_first_form.has X G
  f_are_one_kind := L.f_are_one_kind.has X G
  f_is_alike_behind := L.f_is_alike_behind.has X G
  f_is_swappable := L.f_is_swappable.hasG X G (by decide) (let ⟨c, P, e, _⟩ := L.t_is_swappable; ⟨c, P, e⟩) (T _ (by decide))
  f_count_symmetries := L.f_count_symmetries.has X G
  f__law_draw := L.f__law_draw.has X G
  f__law_cloth := L.f__law_cloth.has X G
  f__law_same := L.f__law_same.has X G
  f__law_words := L.f__law_words.has X G
  f__law_repeats := L.f__law_repeats.has X G
  f__law_turned := L.f__law_turned.has X G
  b_abs := PySem.W.mg_none_of X G L.b_abs
  b_all := PySem.W.mg_none_of X G L.b_all
  b_any := PySem.W.mg_none_of X G L.b_any
  b_int := PySem.W.mg_none_of X G L.b_int
  b_len := PySem.W.mg_none_of X G L.b_len
  b_list := PySem.W.mg_none_of X G L.b_list
  b_min := PySem.W.mg_none_of X G L.b_min
  b_range := PySem.W.mg_none_of X G L.b_range
  b_sorted := PySem.W.mg_none_of X G L.b_sorted
  b_tuple := PySem.W.mg_none_of X G L.b_tuple
  c_WORDS := L.c_WORDS.has X G
theorem all_of {P : Program} {w : World} {K : PySem.W.Frag} {h : Heap} {mg : Str → Option Value} {fa : Addr} (X : K.In h) (G : h.Ns mainGlobals mg) (hfa : mg "law" = some (.ref fa)) (L : Lk K) (hp : ∀ ns : List Int, ns.length ≤ 63 → ∃ η' s', B_law (none :: some stTok :: List.replicate 10 none) ⟨0, 0, 1, ns⟩ = .ok (.rt (.bool true) η') s') :
    (∀ x ∈ gexNames, ∃ c P, PySem.W.tabIn K x = some (c, P) ∧ K.lookup P = none) ∧ ∃ fd : FuncData, (∀ (s : Shared) (u : Value), BindsTo s fd ⟨[u], []⟩ [("script", u)]) ∧ ∀ base : Heap, K.In base → base.Ns mainGlobals mg → (∀ x ∈ gexNames, ∀ c P, PySem.W.tabIn K x = some (c, P) → GxR.TabB base mg c P) → FnOk P w K mg base (L2.CX P w) 11 fa fd ["script"] (spLaw K 63) := by
  obtain ⟨fd, F, hb⟩ := law_fd L.f_law X G hfa fun _ _ _ _ _ _ s v => .of_eq rfl
  have t : ∀ x ∈ gexNames, ∃ c P, PySem.W.tabIn K x = some (c, P) ∧ K.lookup P = none := fun x hx => by
    simp only [gexNames, List.mem_cons, List.not_mem_nil, or_false] at hx
    rcases hx with rfl | rfl
    · exact L.t_step_of
    · exact L.t_is_swappable
  exact ⟨t, fd, hb, fun base hb1 hb2 T => H_law (L.fx X G T) F hp⟩
end W3
open PySem PySem.W PyProof.Rows
set_option maxHeartbeats 0 in
theorem PySem.Challenge.cw_wovenwhole_k05_cloths_without_end_under_holds : PySem.Challenge.rw_wovenwhole_k05_cloths_without_end_under.Holds := by
  w_on; o_law; k_head; (case hw => w_witness2)
  k_fill
  refine W3.walk_W3 (l := PySem.Challenge.rw_wovenwhole_k05_cloths_without_end_under) (n := 63) (k := 11) (x := "script") rfl (by decide) rfl ⟨rfl, by decide, by decide⟩ (by decide +kernel) (fun w h Y => PySem.W.kIn_of Y) ?F
  case F =>
    intro w mg fa h KX G hmg
    refine W3.all_of KX G hmg ?L W3.pure_law
    case L =>
      refine ⟨?L_f_common_divisor, ?L_f_common_multiple, ?L_f_size_of, ?L_f_other_face, ?L_f_exchanged, ?L_f_flipped, ?L_f_upside_down, ?L_f_half_turned, ?L_f_shifted, ?L_f_repeated, ?L_f_is_period, ?L_f_periods_of, ?L_f_basis_of, ?L_f_area_of, ?L_f_straight_size, ?L_f_least_repeat, ?L_f_are_one, ?L_f_moved_first, ?L_f_are_moved, ?L_f_move_between, ?L_f_common_size, ?L_f_places_alike, ?L_f_counts_of_columns, ?L_f_moved_row, ?L_f_step_of, ?L_f_from_step, ?L_f_closing_picks, ?L_f_turned, ?L_f_followed, ?L_f_symmetries_of, ?L_f_moves_for, ?L_f_first_form, ?L_f_are_one_kind, ?L_f_is_alike_behind, ?L_f_is_swappable, ?L_f_count_symmetries, ?L_f__law_draw, ?L_f__law_cloth, ?L_f__law_same, ?L_f__law_words, ?L_f__law_repeats, ?L_f__law_turned, ?L_f_law, ?L_b_abs, ?L_b_all, ?L_b_any, ?L_b_int, ?L_b_len, ?L_b_list, ?L_b_min, ?L_b_range, ?L_b_sorted, ?L_b_tuple, ?L_c_WORDS, ?L_t_step_of, ?L_t_is_swappable⟩
      case L_f_common_divisor => (refine' W3.fk_mk ?a ?l ?c ?k); (case a => k_is); (case l => k_is); (case c => k_is); (case k => k_is)
      case L_f_common_multiple => (refine' W3.fk_mk ?a ?l ?c ?k); (case a => k_is); (case l => k_is); (case c => k_is); (case k => k_is)
      case L_f_size_of => (refine' W3.fk_mk ?a ?l ?c ?k); (case a => k_is); (case l => k_is); (case c => k_is); (case k => k_is)
      case L_f_other_face => (refine' W3.fk_mk ?a ?l ?c ?k); (case a => k_is); (case l => k_is); (case c => k_is); (case k => k_is)
      case L_f_exchanged => (refine' W3.fk_mk ?a ?l ?c ?k); (case a => k_is); (case l => k_is); (case c => k_is); (case k => k_is)
      case L_f_flipped => (refine' W3.fk_mk ?a ?l ?c ?k); (case a => k_is); (case l => k_is); (case c => k_is); (case k => k_is)
      case L_f_upside_down => (refine' W3.fk_mk ?a ?l ?c ?k); (case a => k_is); (case l => k_is); (case c => k_is); (case k => k_is)
      case L_f_half_turned => (refine' W3.fk_mk ?a ?l ?c ?k); (case a => k_is); (case l => k_is); (case c => k_is); (case k => k_is)
      case L_f_shifted => (refine' W3.fk_mk ?a ?l ?c ?k); (case a => k_is); (case l => k_is); (case c => k_is); (case k => k_is)
      case L_f_repeated => (refine' W3.fk_mk ?a ?l ?c ?k); (case a => k_is); (case l => k_is); (case c => k_is); (case k => k_is)
      case L_f_is_period => (refine' W3.fk_mk ?a ?l ?c ?k); (case a => k_is); (case l => k_is); (case c => k_is); (case k => k_is)
      case L_f_periods_of => (refine' W3.fk_mk ?a ?l ?c ?k); (case a => k_is); (case l => k_is); (case c => k_is); (case k => k_is)
      case L_f_basis_of => (refine' W3.fk_mk ?a ?l ?c ?k); (case a => k_is); (case l => k_is); (case c => k_is); (case k => k_is)
      case L_f_area_of => (refine' W3.fk_mk ?a ?l ?c ?k); (case a => k_is); (case l => k_is); (case c => k_is); (case k => k_is)
      case L_f_straight_size => (refine' W3.fk_mk ?a ?l ?c ?k); (case a => k_is); (case l => k_is); (case c => k_is); (case k => k_is)
      case L_f_least_repeat => (refine' W3.fk_mk ?a ?l ?c ?k); (case a => k_is); (case l => k_is); (case c => k_is); (case k => k_is)
      case L_f_are_one => (refine' W3.fk_mk ?a ?l ?c ?k); (case a => k_is); (case l => k_is); (case c => k_is); (case k => k_is)
      case L_f_moved_first => (refine' W3.fk_mk ?a ?l ?c ?k); (case a => k_is); (case l => k_is); (case c => k_is); (case k => k_is)
      case L_f_are_moved => (refine' W3.fk_mk ?a ?l ?c ?k); (case a => k_is); (case l => k_is); (case c => k_is); (case k => k_is)
      case L_f_move_between => (refine' W3.fk_mk ?a ?l ?c ?k); (case a => k_is); (case l => k_is); (case c => k_is); (case k => k_is)
      case L_f_common_size => (refine' W3.fk_mk ?a ?l ?c ?k); (case a => k_is); (case l => k_is); (case c => k_is); (case k => k_is)
      case L_f_places_alike => (refine' W3.fk_mk ?a ?l ?c ?k); (case a => k_is); (case l => k_is); (case c => k_is); (case k => k_is)
      case L_f_counts_of_columns => (refine' W3.fk_mk ?a ?l ?c ?k); (case a => k_is); (case l => k_is); (case c => k_is); (case k => k_is)
      case L_f_moved_row => (refine' W3.fk_mk ?a ?l ?c ?k); (case a => k_is); (case l => k_is); (case c => k_is); (case k => k_is)
      case L_f_step_of => (refine' W3.fk_mk ?a ?l ?c ?k); (case a => k_is); (case l => k_is); (case c => k_is); (case k => k_is)
      case L_f_from_step => (refine' W3.fk_mk ?a ?l ?c ?k); (case a => k_is); (case l => k_is); (case c => k_is); (case k => k_is)
      case L_f_closing_picks => (refine' W3.fk_mk ?a ?l ?c ?k); (case a => k_is); (case l => k_is); (case c => k_is); (case k => k_is)
      case L_f_turned => (refine' W3.fk_mk ?a ?l ?c ?k); (case a => k_is); (case l => k_is); (case c => k_is); (case k => k_is)
      case L_f_followed => (refine' W3.fk_mk ?a ?l ?c ?k); (case a => k_is); (case l => k_is); (case c => k_is); (case k => k_is)
      case L_f_symmetries_of => (refine' W3.fk_mk ?a ?l ?c ?k); (case a => k_is); (case l => k_is); (case c => k_is); (case k => k_is)
      case L_f_moves_for => (refine' W3.fk_mk ?a ?l ?c ?k); (case a => k_is); (case l => k_is); (case c => k_is); (case k => k_is)
      case L_f_first_form => (refine' W3.fk_mk ?a ?l ?c ?k); (case a => k_is); (case l => k_is); (case c => k_is); (case k => k_is)
      case L_f_are_one_kind => (refine' W3.fk_mk ?a ?l ?c ?k); (case a => k_is); (case l => k_is); (case c => k_is); (case k => k_is)
      case L_f_is_alike_behind => (refine' W3.fk_mk ?a ?l ?c ?k); (case a => k_is); (case l => k_is); (case c => k_is); (case k => k_is)
      case L_f_is_swappable => (refine' W3.fk_mk ?a ?l ?c ?k); (case a => k_is); (case l => k_is); (case c => k_is); (case k => k_is)
      case L_f_count_symmetries => (refine' W3.fk_mk ?a ?l ?c ?k); (case a => k_is); (case l => k_is); (case c => k_is); (case k => k_is)
      case L_f__law_draw => (refine' W3.fk_mk ?a ?l ?c ?k); (case a => k_is); (case l => k_is); (case c => k_is); (case k => k_is)
      case L_f__law_cloth => (refine' W3.fk_mk ?a ?l ?c ?k); (case a => k_is); (case l => k_is); (case c => k_is); (case k => k_is)
      case L_f__law_same => (refine' W3.fk_mk ?a ?l ?c ?k); (case a => k_is); (case l => k_is); (case c => k_is); (case k => k_is)
      case L_f__law_words => (refine' W3.fk_mk ?a ?l ?c ?k); (case a => k_is); (case l => k_is); (case c => k_is); (case k => k_is)
      case L_f__law_repeats => (refine' W3.fk_mk ?a ?l ?c ?k); (case a => k_is); (case l => k_is); (case c => k_is); (case k => k_is)
      case L_f__law_turned => (refine' W3.fk_mk ?a ?l ?c ?k); (case a => k_is); (case l => k_is); (case c => k_is); (case k => k_is)
      case L_f_law => (refine' W3.fk_mk ?a ?l ?c ?k); (case a => k_is); (case l => k_is); (case c => k_is); (case k => k_is)
      case L_b_abs => k_is
      case L_b_all => k_is
      case L_b_any => k_is
      case L_b_int => k_is
      case L_b_len => k_is
      case L_b_list => k_is
      case L_b_min => k_is
      case L_b_range => k_is
      case L_b_sorted => k_is
      case L_b_tuple => k_is
      case L_c_WORDS => exact ⟨by kernel_rfl⟩
      case L_t_step_of => exact W3.tb_mk (by kernel_rfl)
      case L_t_is_swappable => exact W3.tb_mk (by kernel_rfl)

